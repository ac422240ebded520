/- Endings: what the reference and the program take for one; the same as the law compares (no condition but sizes that fit). -/
import Derived.Test.YtkbjoiebaphdoaaPXx0
import Derived.Test.YtkbjoiebaphdoaaLI
import Derived.Test.YtkbjoiebaphdoaaGIsEnding
import Derived.Test.YtkbjoiebaphdoaaPXx4
import Derived.Test.YtkbjoiebaphdoaaPXx1
import Derived.Test.YtkbjoiebaphdoaaPXx2
namespace Go.Proofs.Ytkbjoiebaphdoaa.PX
open Go.RowKit Go.Proofs.YtkbjoiebaphdoaaW.PrintWords Go.Proofs.YtkbjoiebaphdoaaW.PrintLast Go.Proofs.YtkbjoiebaphdoaaW.PrintMore
attribute [local go_sem] max2_int min2_int max_two min_two max_three min_three max_four min_four
set_option linter.unusedVariables false
set_option linter.unusedSimpArgs false
def ascFrom (lo : Int) : Int → List Int → Bool
  | _, [] => true
  | p, x :: t => sizeOk lo x && decide (p ≤ x) && ascFrom lo x t
def asc (lo : Int) (l : List Int) : Bool := ascFrom lo lo l
def sortFrom : Int → List Int → Bool
  | _, [] => true
  | p, x :: t => decide (p ≤ x) && sortFrom x t
def srt : List Int → Bool
  | [] => true
  | x :: t => sortFrom x t
theorem sizeOk_lo {lo x : Int} (h : sizeOk lo x = true) : lo ≤ x ∧ x ≤ 30 := by
  simpa [sizeOk] using h
theorem ascFrom_eq (lo : Int) : ∀ (l : List Int) (p : Int), ascFrom lo p l = (sortFrom p l && l.all (sizeOk lo))
  | [], p => rfl
  | x :: t, p => by
    unfold ascFrom sortFrom
    rw [ascFrom_eq lo t x, List.all_cons]
    cases sizeOk lo x <;> cases decide (p ≤ x) <;> cases sortFrom x t <;> simp
theorem asc_eq (lo : Int) (l : List Int) : asc lo l = (srt l && l.all (sizeOk lo)) := by
  unfold asc
  rw [ascFrom_eq]
  cases l with
  | nil => rfl
  | cons x t =>
    unfold sortFrom srt
    rw [List.all_cons]
    cases h : sizeOk lo x
    · simp
    · rw [decide_eq_true (sizeOk_lo h).1, Bool.true_and]
theorem sortFrom_snoc (a b : Int) : ∀ (l : List Int) (p : Int), sortFrom p (l ++ [a] ++ [b]) = (sortFrom p (l ++ [a]) && decide (a ≤ b))
  | [], p => by
    show (decide (p ≤ a) && (decide (a ≤ b) && true)) = ((decide (p ≤ a) && true) && decide (a ≤ b))
    cases decide (p ≤ a) <;> cases decide (a ≤ b) <;> rfl
  | x :: t, p => by
    show (decide (p ≤ x) && sortFrom x (t ++ [a] ++ [b])) = ((decide (p ≤ x) && sortFrom x (t ++ [a])) && decide (a ≤ b))
    rw [sortFrom_snoc a b t x, Bool.and_assoc]
theorem srt_snoc (a b : Int) (l : List Int) : srt (l ++ [a] ++ [b]) = (srt (l ++ [a]) && decide (a ≤ b)) := by
  cases l with
  | nil =>
    show (decide (a ≤ b) && true) = (true && decide (a ≤ b))
    cases decide (a ≤ b) <;> rfl
  | cons x t => exact sortFrom_snoc a b t x
theorem less_eq (a b : Int) : cmp_Less_int64.f a b = some (decide (a < b)) := by
  unfold cmp_Less_int64.f cmp_isNaN_int64.f
  simp
theorem sorted_loop (l : List Int) (hl : l.length < 4611686018427387904) : ∀ i : Nat, i < l.length → Ev (fun k => slices_IsSorted_int64_int64.l0 k l (i : Int)) (srt (l.take (i + 1)))
  | 0, hi => by
    obtain ⟨x, hx⟩ := get_some hi
    have e : l.take 1 = [x] := by
      rw [List.take_add_one, hx]; rfl
    rw [e]
    refine Ev.step (f := fun _ => some true) (fun k => ?_) (Ev.now _)
    simp only [slices_IsSorted_int64_int64.l0]
    rw [if_neg (by omega)]
  | i + 1, hi => by
    have ih := sorted_loop l hl i (by omega)
    obtain ⟨a, ha⟩ := get_some (xs := l) (i := i) (by omega)
    obtain ⟨b, hb⟩ := get_some hi
    have e1 : l.take (i + 1) = l.take i ++ [a] := by rw [List.take_add_one, ha]; rfl
    have e2 : l.take (i + 1 + 1) = l.take i ++ [a] ++ [b] := by rw [List.take_add_one, hb, e1]; rfl
    have ew : wrap64 (((i + 1 : Nat) : Int) - 1) = (i : Int) := by rw [wrapS (by omega) (by omega)]; omega
    rw [e2, srt_snoc]
    rw [e1] at ih
    by_cases c : b < a
    · rw [decide_eq_false (by omega : ¬ a ≤ b), Bool.and_false]
      refine Ev.step (f := fun _ => some false) (fun k => ?_) (Ev.now _)
      simp only [slices_IsSorted_int64_int64.l0]
      rw [if_pos (by omega), if_pos (by omega), if_pos (by omega), ew, if_pos (by omega), if_pos (by omega), less_eq, rd_nat, rd_nat, getD_of hb, getD_of ha, Option.bind_some, if_pos (decide_eq_true c)]
    · rw [decide_eq_true (by omega : a ≤ b), Bool.and_true]
      refine Ev.step (fun k => ?_) ih
      simp only [slices_IsSorted_int64_int64.l0]
      rw [if_pos (by omega), if_pos (by omega), if_pos (by omega), ew, if_pos (by omega), if_pos (by omega), less_eq, rd_nat, rd_nat, getD_of hb, getD_of ha, Option.bind_some, if_neg (by rw [decide_eq_false c]; decide)]
theorem sorted_ev (l : List Int) (hl : l.length < 4611686018427387904) : Ev (fun k => slices_IsSorted_int64_int64.f k l) (srt l) := by
  cases l with
  | nil =>
    refine Ev.step (f := fun _ => some true) (fun k => ?_) (Ev.now _)
    have e : wrap64 ((([] : List Int).length : Int) - 1) = -1 := by decide +kernel
    simp only [slices_IsSorted_int64_int64.f, slices_IsSorted_int64_int64.l0]
    rw [e, if_neg (by decide)]
  | cons x t =>
    have h := sorted_loop (x :: t) hl t.length (by simp)
    rw [show t.length + 1 = (x :: t).length from rfl, List.take_length] at h
    refine Ev.congr (fun k => ?_) h
    unfold slices_IsSorted_int64_int64.f
    rw [List.length_cons, show wrap64 (((t.length + 1 : Nat) : Int) - 1) = (t.length : Int) by rw [wrapS (by omega) (by simp at hl; omega)]; omega]
theorem sizes_ev (l : List Int) (lo : Int) (hl : l.length < 4611686018427387904) : Ev (fun k => impl_areSizes.f k l lo) (asc lo l) := by
  unfold impl_areSizes.f
  rw [asc_eq]
  refine Ev.bind (sorted_ev l hl) ?_
  cases srt l
  · exact Ev.now _
  · refine Ev.congr (f := fun _ => some _) (fun k => ?_) (Ev.now _)
    rw [if_pos rfl, Bool.true_and]
    congr 1
    induction l with
    | nil => rfl
    | cons x t ih =>
      rw [List.any_cons, List.all_cons, Bool.not_or, Bool.not_not, ih (by simp at hl; omega)]
theorem l04In_eq (a b c : Int) : spec_l01In.f a b c = some (decide (b ≤ a) && decide (a ≤ c)) := by
  unfold spec_l01In.f
  by_cases h : b ≤ a
  · rw [if_pos (show a ≥ b from h), decide_eq_true h, Bool.true_and]
  · rw [if_neg (show ¬ a ≥ b from h), decide_eq_false h, Bool.false_and]
theorem asc_loop (l : List Int) (lo : Int) (hl : l.length < 4611686018427387904) : ∀ (d i : Nat) (p : Int), i + d = l.length → (i = 0 → p = lo) → (0 < i → p = l.getD (i - 1) 0) →
    Ev (fun k => spec_l04Ascends.l0 k l lo (i : Int)) (ascFrom lo p (l.drop i))
  | 0, i, p, hd, h0, h1 => by
    rw [List.drop_of_length_le (by omega)]
    refine Ev.step (f := fun _ => some true) (fun k => ?_) (Ev.now _)
    simp only [spec_l04Ascends.l0]
    rw [if_neg (by omega)]
  | d + 1, i, p, hd, h0, h1 => by
    obtain ⟨x, hx⟩ := get_some (xs := l) (i := i) (by omega)
    have ih := asc_loop l lo hl d (i + 1) x (by omega) (by omega) (fun _ => by rw [Nat.add_sub_cancel, getD_of hx])
    have er : rd l (i : Int) = x := by rw [rd_nat, getD_of hx]
    have ew : wrap64 ((i : Int) + 1) = ((i + 1 : Nat) : Int) := by rw [wrapS (by omega) (by omega), cast_succ]
    rw [drop_of hx]
    unfold ascFrom
    by_cases c : sizeOk lo x = true
    · rw [c, Bool.true_and]
      have c' : (decide (lo ≤ x) && decide (x ≤ 30)) = true := c
      by_cases hi : i = 0
      · rw [h0 hi, decide_eq_true (sizeOk_lo c).1, Bool.true_and]
        refine Ev.step (fun k => ?_) ih
        simp only [spec_l04Ascends.l0]
        rw [if_pos (by omega), if_pos (by omega), er, l04In_eq, Option.bind_some, if_pos c', if_neg (by omega), ew]
      · have ep := h1 (by omega)
        have em : wrap64 ((i : Int) - 1) = ((i - 1 : Nat) : Int) := by rw [wrapS (by omega) (by omega)]; omega
        by_cases cp : p ≤ x
        · rw [decide_eq_true cp, Bool.true_and]
          refine Ev.step (fun k => ?_) ih
          simp only [spec_l04Ascends.l0]
          rw [if_pos (by omega), if_pos (by omega), er, l04In_eq, Option.bind_some, if_pos c', if_pos (by omega), em, if_pos (by omega), if_pos (by omega), rd_nat, ← ep, if_neg (by omega), ew]
        · rw [decide_eq_false cp, Bool.false_and]
          refine Ev.step (f := fun _ => some false) (fun k => ?_) (Ev.now _)
          simp only [spec_l04Ascends.l0]
          rw [if_pos (by omega), if_pos (by omega), er, l04In_eq, Option.bind_some, if_pos c', if_pos (by omega), em, if_pos (by omega), if_pos (by omega), rd_nat, ← ep, if_pos (by omega)]
    · rw [Bool.eq_false_iff.mpr c, Bool.false_and, Bool.false_and]
      have c' : ¬ (decide (lo ≤ x) && decide (x ≤ 30)) = true := c
      refine Ev.step (f := fun _ => some false) (fun k => ?_) (Ev.now _)
      simp only [spec_l04Ascends.l0]
      rw [if_pos (by omega), if_pos (by omega), er, l04In_eq, Option.bind_some, if_neg c']
theorem asc_ev (l : List Int) (lo : Int) (hl : l.length < 4611686018427387904) : Ev (fun k => spec_l04Ascends.f k l lo) (asc lo l) := by
  have h := asc_loop l lo hl l.length 0 lo (by omega) (fun _ => rfl) (fun h => absurd h (by omega))
  rw [List.drop_zero] at h
  exact h
def isEnd (a b : List Int) : Bool := decide ((a.length : Int) + (b.length : Int) ≤ 8) && asc 1 a && asc 4 b
theorem isEnd_len {a b : List Int} (h : isEnd a b = true) : a.length + b.length ≤ 8 := by
  simp only [isEnd, Bool.and_eq_true, decide_eq_true_eq] at h
  omega
theorem l04Is_ev (a b : List Int) (ha : a.length ≤ 1048576) (hb : b.length ≤ 1048576) : Ev (fun k => spec_l04Is.f k a b) (isEnd a b) := by
  unfold spec_l04Is.f isEnd
  rw [wrapS (i := (a.length : Int) + (b.length : Int)) (by omega) (by omega)]
  by_cases c : (a.length : Int) + (b.length : Int) ≤ 8
  · rw [decide_eq_true c, Bool.true_and]
    refine Ev.congr (fun k => by rw [if_pos c]) (Ev.bind (asc_ev a 1 (by omega)) ?_)
    cases asc 1 a
    · exact Ev.now _
    · rw [Bool.true_and]
      exact Ev.congr (fun k => by rw [if_pos rfl]) (Ev.bind (asc_ev b 4 (by omega)) (Ev.now _))
  · rw [decide_eq_false c, Bool.false_and, Bool.false_and]
    exact Ev.congr (fun k => by rw [if_neg c]) (Ev.now _)
theorem IsEnding_ev (a b : List Int) (ha : a.length ≤ 1048576) (hb : b.length ≤ 1048576) : Ev (fun k => impl_IsEnding.f k a b) (isEnd a b) := by
  unfold impl_IsEnding.f isEnd
  refine Ev.bind (sizes_ev a 1 (by omega)) ?_
  cases asc 1 a
  · rw [Bool.and_false, Bool.false_and]
    exact Ev.now _
  · rw [Bool.and_true]
    refine Ev.congr (fun k => by rw [if_pos rfl]) (Ev.bind (sizes_ev b 4 (by omega)) ?_)
    cases asc 4 b
    · rw [Bool.and_false]
      exact Ev.now _
    · rw [Bool.and_true]
      exact Ev.congr (f := fun _ => some _) (fun k => by rw [if_pos rfl, if_pos (by omega), if_pos (by omega)]) (Ev.now _)
theorem szE_eq (a b : List Int) (ha : a.length ≤ 9223372036854775807) (hb : b.length ≤ 9223372036854775807) : ∃ t, laws_szEnding.f a b 1048576 = some t ∧ (t < 0 ∨ (0 ≤ t ∧ (a.length : Int) + (b.length : Int) ≤ 1048576)) := by
  unfold laws_szEnding.f
  rw [szI_eq a 1048576 (by omega) (by omega) ha, Option.bind_some]
  by_cases c : 1048576 - (a.length : Int) < 0
  · rw [if_pos c, if_pos (by omega)]
    exact ⟨_, rfl, Or.inl (by omega)⟩
  · rw [if_neg c, if_neg c, szI_eq b _ (by omega) (by omega) hb, Option.bind_some]
    by_cases d : 1048576 - (a.length : Int) - (b.length : Int) < 0
    · rw [if_pos d, if_pos (by omega)]
      exact ⟨_, rfl, Or.inl (by omega)⟩
    · rw [if_neg d, if_neg d]
      exact ⟨_, rfl, Or.inr ⟨by omega, by omega⟩⟩
theorem toE_ev (a b : List Int) (h : (a.length : Int) + (b.length : Int) ≤ 1048576) : Ev (fun k => laws_toEnding.f k a b) (a, b) := by
  unfold laws_toEnding.f
  exact Ev.bind (toI_ev a (by omega)) (Ev.bind (toI_ev b (by omega)) (Ev.now _))
theorem eqE_ev (a b : List Int) (h : (a.length : Int) + (b.length : Int) ≤ 1048576) : Ev (fun k => laws_eqEnding.f k a b a b) true := by
  unfold laws_eqEnding.f
  refine Ev.bind (eqI_ev a (by omega)) (Ev.congr (fun k => by rw [if_pos rfl]) (Ev.bind (eqI_ev b (by omega)) ?_))
  exact Ev.congr (f := fun _ => some true) (fun k => by rw [if_pos rfl]) (Ev.now _)

end Go.Proofs.Ytkbjoiebaphdoaa.PX
