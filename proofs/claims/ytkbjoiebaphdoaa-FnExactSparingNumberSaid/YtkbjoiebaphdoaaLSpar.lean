/- The sparing number of an ending, as the reference and the program tell it (no condition but sizes that fit). -/
import Derived.Test.YtkbjoiebaphdoaaPXx0
import Derived.Test.YtkbjoiebaphdoaaLEnd
import Derived.Test.YtkbjoiebaphdoaaPXx18
import Derived.Test.YtkbjoiebaphdoaaPXx20
namespace Go.Proofs.Ytkbjoiebaphdoaa.PX
open Go.RowKit Go.Proofs.YtkbjoiebaphdoaaW.PrintWords Go.Proofs.YtkbjoiebaphdoaaW.PrintLast Go.Proofs.YtkbjoiebaphdoaaW.PrintMore
attribute [local go_sem] max2_int min2_int max_two min_two max_three min_three max_four min_four
set_option linter.unusedVariables false
set_option linter.unusedSimpArgs false
abbrev Opng := S75
def opn (a b : List Int) : List Opng := a.map (fun n => ⟨false, n⟩) ++ b.map (fun n => ⟨true, n⟩)
def moreOf (o : Opng) : Int := if o.f0 = true then wrap64 (o.f1 - 8) else wrap64 (o.f1 - 4)
def openOf (o : Opng) : Bool := if o.f0 = true then true else decide (o.f1 ≥ 3)
def spar : List Opng → Int → Int → Int
  | [], acc, _ => acc
  | o :: t, acc, part => if openOf o = true ∧ t ≠ [] then spar t (wrap64 (acc + wrap64 (part * moreOf o))) part else spar t (wrap64 (acc + wrap64 (part * o.f1))) (wrap64 (-part))
theorem sparing_eq (o : Opng) : impl_opening_sparing.f o.f0 o.f1 = some (moreOf o, openOf o) := by
  unfold impl_opening_sparing.f moreOf openOf
  cases o.f0 <;> simp
theorem ww (x : Int) : wrap64 (wrap64 x - 0) = wrap64 x := by unfold wrap64; omega
theorem taker_eq (o : Opng) : ∃ z, spec_l04Taker.f o.f0 o.f1 0 = some (z, moreOf o, openOf o) := by
  unfold spec_l04Taker.f moreOf openOf
  cases o.f0
  · refine ⟨wrap64 (o.f1 + 0), ?_⟩
    rw [if_neg (by decide), if_neg (by decide), if_neg (by decide), ww, decide_eq_decide.2 (show o.f1 > 2 ↔ o.f1 ≥ 3 by omega)]
  · refine ⟨wrap64 (o.f1 + 0), ?_⟩
    rw [if_pos rfl, if_pos rfl, if_pos rfl, ww]
theorem drop_ne {α : Type} {L : List α} {i : Nat} (h : i < L.length) : L.drop i ≠ [] := by
  intro e
  have := congrArg List.length e
  rw [List.length_drop] at this
  simp at this
  omega
theorem l2_loop (L : List Opng) (hl : L.length < 1000) : ∀ (d i : Nat) (acc part : Int), i + d = L.length → Ev (fun k => impl_SparingNumber.l2 k L acc part L (L.length : Int) (i : Int)) (spar (L.drop i) acc part, 0)
  | 0, i, acc, part, hd => by
    rw [List.drop_of_length_le (by omega)]
    refine Ev.step (f := fun _ => some _) (fun k => ?_) (Ev.now _)
    simp only [impl_SparingNumber.l2]
    rw [if_neg (by omega)]
    rfl
  | d + 1, i, acc, part, hd => by
    obtain ⟨o, ho⟩ := get_some (xs := L) (i := i) (by omega)
    have er : rd_T75 L (i : Int) = o := by unfold rd_T75; rw [Int.toNat_natCast, getD_of ho]
    have ew : wrap64 ((i : Int) + 1) = ((i + 1 : Nat) : Int) := by rw [wrapS (by omega) (by omega), cast_succ]
    have el : wrap64 ((L.length : Int) - 1) = (L.length : Int) - 1 := wrapS (by omega) (by omega)
    rw [drop_of ho]
    unfold spar
    by_cases c : openOf o = true ∧ L.drop (i + 1) ≠ []
    · rw [if_pos c]
      have hlt : i + 1 < L.length := by
        rcases Nat.lt_or_ge (i + 1) L.length with h | h
        · exact h
        · exact absurd (List.drop_of_length_le h) c.2
      refine Ev.step (fun k => ?_) (l2_loop L hl d (i + 1) (wrap64 (acc + wrap64 (part * moreOf o))) part (by omega))
      simp only [impl_SparingNumber.l2]
      rw [if_pos (by omega), if_pos (by omega), if_pos (by omega), er, sparing_eq, Option.bind_some, if_pos c.1, el, if_pos (by omega), ew]
    · rw [if_neg c]
      refine Ev.step (fun k => ?_) (l2_loop L hl d (i + 1) (wrap64 (acc + wrap64 (part * o.f1))) (wrap64 (-part)) (by omega))
      simp only [impl_SparingNumber.l2]
      rw [if_pos (by omega), if_pos (by omega), if_pos (by omega), er, sparing_eq, Option.bind_some]
      by_cases c1 : openOf o = true
      · have : ¬ (i + 1 < L.length) := fun h => c ⟨c1, drop_ne h⟩
        rw [if_pos c1, el, if_neg (by omega), ew]
      · rw [if_neg c1, ew]
theorem l1_loop (a b : List Int) (ha : a.length + b.length ≤ 8) : ∀ d i : Nat, i + d = b.length → Ev (fun k => impl_SparingNumber.l1 k (opn a (b.take i)) b (b.length : Int) (i : Int)) (spar (opn a b) 0 1, 0)
  | 0, i, hd => by
    have hL : (opn a b).length ≤ 8 := by unfold opn; simp; omega
    refine Ev.step (fun k => ?_) (l2_loop (opn a b) (by omega) (opn a b).length 0 0 1 (by omega))
    simp only [impl_SparingNumber.l1]
    rw [if_neg (by omega), List.take_of_length_le (by omega)]
    rfl
  | d + 1, i, hd => by
    obtain ⟨x, hx⟩ := get_some (xs := b) (i := i) (by omega)
    have ih := l1_loop a b ha d (i + 1) (by omega)
    have e : opn a (b.take (i + 1)) = opn a (b.take i) ++ [⟨true, x⟩] := by
      unfold opn
      rw [List.take_add_one, hx, List.map_append, ← List.append_assoc]; rfl
    rw [e] at ih
    have hL : (opn a (b.take i)).length ≤ 8 := by unfold opn; simp; omega
    refine Ev.step (fun k => ?_) ih
    simp only [impl_SparingNumber.l1]
    rw [if_pos (by omega), if_pos (by omega), if_pos (by omega), if_pos (by omega), rd_nat, getD_of hx, wrapS (i := (i : Int) + 1) (by omega) (by omega), cast_succ]
theorem l0_loop (a b : List Int) (ha : a.length + b.length ≤ 8) : ∀ d i : Nat, i + d = a.length → Ev (fun k => impl_SparingNumber.l0 k (opn (a.take i) []) a (a.length : Int) (i : Int) a b) (spar (opn a b) 0 1, 0)
  | 0, i, hd => by
    have h1 := l1_loop a b ha b.length 0 (by omega)
    rw [List.take_zero] at h1
    refine Ev.step (fun k => ?_) h1
    simp only [impl_SparingNumber.l0]
    rw [if_neg (by omega), List.take_of_length_le (by omega)]
    rfl
  | d + 1, i, hd => by
    obtain ⟨x, hx⟩ := get_some (xs := a) (i := i) (by omega)
    have ih := l0_loop a b ha d (i + 1) (by omega)
    have e : opn (a.take (i + 1)) [] = opn (a.take i) [] ++ [⟨false, x⟩] := by
      unfold opn
      rw [List.take_add_one, hx, List.map_append]; simp
    rw [e] at ih
    have hL : (opn (a.take i) []).length ≤ 8 := by unfold opn; simp; omega
    refine Ev.step (fun k => ?_) ih
    simp only [impl_SparingNumber.l0]
    rw [if_pos (by omega), if_pos (by omega), if_pos (by omega), if_pos (by omega), rd_nat, getD_of hx, wrapS (i := (i : Int) + 1) (by omega) (by omega), cast_succ]
theorem s0_loop (a b : List Int) (ha : a.length + b.length ≤ 8) : ∀ (d i : Nat) (acc part : Int), i + d = a.length + b.length → Ev (fun k => spec_SparingNumber.l0 k acc part ((a.length : Int) + (b.length : Int)) (i : Int) a b) (spar ((opn a b).drop i) acc part, 0)
  | 0, i, acc, part, hd => by
    rw [List.drop_of_length_le (by unfold opn; simp; omega)]
    refine Ev.step (f := fun _ => some _) (fun k => ?_) (Ev.now _)
    simp only [spec_SparingNumber.l0]
    rw [if_neg (by omega)]
    rfl
  | d + 1, i, acc, part, hd => by
    have hL : (opn a b).length = a.length + b.length := by unfold opn; simp
    have ew : wrap64 ((i : Int) + 1) = ((i + 1 : Nat) : Int) := by rw [wrapS (by omega) (by omega), cast_succ]
    have ih := s0_loop a b ha d (i + 1)
    have hne : ∀ h : i + 1 < a.length + b.length, (opn a b).drop (i + 1) ≠ [] := fun h => drop_ne (by omega)
    by_cases c0 : a.length ≤ i
    · obtain ⟨y, hy⟩ := get_some (xs := b) (i := i - a.length) (by omega)
      have ho : (opn a b)[i]? = some ⟨true, y⟩ := by
        unfold opn
        rw [List.getElem?_append_right (by simp; omega), List.length_map, List.getElem?_map, hy]; rfl
      have e1 : wrap64 ((i : Int) - (a.length : Int)) = ((i - a.length : Nat) : Int) := by rw [wrapS (by omega) (by omega)]; omega
      have e2 : rd b ((i - a.length : Nat) : Int) = y := by rw [rd_nat, getD_of hy]
      obtain ⟨z, hz⟩ := taker_eq ⟨true, y⟩
      have hz' : spec_l04Taker.f (decide ((i : Int) ≥ (a.length : Int))) y 0 = some (z, moreOf ⟨true, y⟩, openOf ⟨true, y⟩) := by rw [decide_eq_true (by omega : (i : Int) ≥ (a.length : Int))]; exact hz
      rw [drop_of ho]
      unfold spar
      by_cases c : openOf ⟨true, y⟩ = true ∧ (opn a b).drop (i + 1) ≠ []
      · rw [if_pos c]
        have hlt : i + 1 < a.length + b.length := by
          rcases Nat.lt_or_ge (i + 1) (a.length + b.length) with h | h
          · exact h
          · exact absurd (List.drop_of_length_le (by omega)) c.2
        refine Ev.step (fun k => ?_) (ih (wrap64 (acc + wrap64 (part * moreOf ⟨true, y⟩))) part (by omega))
        simp only [spec_SparingNumber.l0]
        rw [if_pos (by omega), if_pos (by omega), e1, if_pos (by omega), if_pos (by omega), e2, hz', Option.bind_some, if_pos c.1, ew, if_pos (by omega)]
      · rw [if_neg c]
        refine Ev.step (fun k => ?_) (ih (wrap64 (acc + wrap64 (part * y))) (wrap64 (-part)) (by omega))
        simp only [spec_SparingNumber.l0]
        rw [if_pos (by omega), if_pos (by omega), e1, if_pos (by omega), if_pos (by omega), e2, hz', Option.bind_some]
        by_cases c1 : openOf ⟨true, y⟩ = true
        · have : ¬ (i + 1 < a.length + b.length) := fun h => c ⟨c1, hne h⟩
          rw [if_pos c1, ew, if_neg (by omega)]
        · rw [if_neg c1, ew]
    · obtain ⟨y, hy⟩ := get_some (xs := a) (i := i) (by omega)
      have ho : (opn a b)[i]? = some ⟨false, y⟩ := by
        unfold opn
        rw [List.getElem?_append_left (by simp; omega), List.getElem?_map, hy]; rfl
      have e2 : rd a (i : Int) = y := by rw [rd_nat, getD_of hy]
      obtain ⟨z, hz⟩ := taker_eq ⟨false, y⟩
      have hz' : spec_l04Taker.f (decide ((i : Int) ≥ (a.length : Int))) y 0 = some (z, moreOf ⟨false, y⟩, openOf ⟨false, y⟩) := by rw [decide_eq_false (by omega : ¬ (i : Int) ≥ (a.length : Int))]; exact hz
      rw [drop_of ho]
      unfold spar
      by_cases c : openOf ⟨false, y⟩ = true ∧ (opn a b).drop (i + 1) ≠ []
      · rw [if_pos c]
        have hlt : i + 1 < a.length + b.length := by
          rcases Nat.lt_or_ge (i + 1) (a.length + b.length) with h | h
          · exact h
          · exact absurd (List.drop_of_length_le (by omega)) c.2
        refine Ev.step (fun k => ?_) (ih (wrap64 (acc + wrap64 (part * moreOf ⟨false, y⟩))) part (by omega))
        simp only [spec_SparingNumber.l0]
        rw [if_pos (by omega), if_neg (by omega), if_pos (by omega), if_pos (by omega), e2, hz', Option.bind_some, if_pos c.1, ew, if_pos (by omega)]
      · rw [if_neg c]
        refine Ev.step (fun k => ?_) (ih (wrap64 (acc + wrap64 (part * y))) (wrap64 (-part)) (by omega))
        simp only [spec_SparingNumber.l0]
        rw [if_pos (by omega), if_neg (by omega), if_pos (by omega), if_pos (by omega), e2, hz', Option.bind_some]
        by_cases c1 : openOf ⟨false, y⟩ = true
        · have : ¬ (i + 1 < a.length + b.length) := fun h => c ⟨c1, hne h⟩
          rw [if_pos c1, ew, if_neg (by omega)]
        · rw [if_neg c1, ew]
def sparingOf (a b : List Int) : Int × Int := if isEnd a b = true then (spar (opn a b) 0 1, 0) else (0, 1)
theorem specSparing_ev (a b : List Int) (ha : a.length ≤ 1048576) (hb : b.length ≤ 1048576) : Ev (fun k => spec_SparingNumber.f k a b) (sparingOf a b) := by
  have he := l04Is_ev a b ha hb
  unfold spec_SparingNumber.f sparingOf
  refine Ev.bind he ?_
  cases h : isEnd a b
  · exact Ev.now _
  · have hl := isEnd_len h
    have h0 : Ev (fun k => spec_SparingNumber.l0 k 0 1 ((a.length : Int) + (b.length : Int)) 0 a b) (spar (opn a b) 0 1, 0) := s0_loop a b hl (a.length + b.length) 0 0 1 (by omega)
    exact Ev.congr (fun k => by rw [if_pos rfl, wrapS (by omega) (by omega)]) h0
theorem implSparing_ev (a b : List Int) (ha : a.length ≤ 1048576) (hb : b.length ≤ 1048576) : Ev (fun k => impl_SparingNumber.f k a b) (sparingOf a b) := by
  have he := IsEnding_ev a b ha hb
  unfold impl_SparingNumber.f sparingOf
  refine Ev.bind he ?_
  cases h : isEnd a b
  · exact Ev.now _
  · have hl := isEnd_len h
    have h0 : Ev (fun k => impl_SparingNumber.l0 k [] a (a.length : Int) 0 a b) (spar (opn a b) 0 1, 0) := l0_loop a b hl a.length 0 (by omega)
    exact Ev.congr (fun k => by rw [if_pos rfl]) h0

end Go.Proofs.Ytkbjoiebaphdoaa.PX
