/- The mex, of the program and of the reference: the least number that is missing. -/
import Derived.Test.YtbiemfbdobdecaaPXx0
import Derived.Test.YtbiemfbdobdecaaPXx10
import Derived.Test.YtbiemfbdobdecaaPXx13
import Derived.Test.YtbiemfbdobdecaaLBase
namespace Go.Proofs.Ytbiemfbdobdecaa.PX
open Go.RowKit Go.Proofs.YtbiemfbdobdecaaW.PrintWords Go.Proofs.YtbiemfbdobdecaaW.PrintLast Go.Proofs.YtbiemfbdobdecaaW.PrintMore
attribute [local go_sem] max2_int min2_int max_two min_two max_three min_three max_four min_four
set_option linter.unusedVariables false
set_option linter.unusedSimpArgs false
theorem len_le {l : List Nat} : ∀ {l' : List Nat}, l.Nodup → (∀ x ∈ l, x ∈ l') → l.length ≤ l'.length := by
  induction l with
  | nil => intro l' _ _; simp
  | cons x t ih =>
    intro l' nd h
    have hx : x ∈ l' := h x List.mem_cons_self
    have nd' := List.nodup_cons.1 nd
    have := ih (l' := l'.erase x) nd'.2 (fun y hy => by
      have hne : y ≠ x := fun e => nd'.1 (e ▸ hy)
      exact (List.mem_erase_of_ne hne).2 (h y (List.mem_cons_of_mem _ hy)))
    rw [List.length_erase_of_mem hx] at this
    have hp : 0 < l'.length := List.length_pos_of_mem hx
    simp only [List.length_cons]
    omega
/-- Some number up to the length is missing. -/
theorem missing (xs : List Int) : ∃ n : Nat, n ≤ xs.length ∧ (n : Int) ∉ xs := by
  apply Classical.byContradiction
  intro hc
  have h : ∀ n : Nat, n ≤ xs.length → (n : Int) ∈ xs := fun n hn => Classical.byContradiction fun h => hc ⟨n, hn, h⟩
  have := len_le (l := List.range (xs.length + 1)) (l' := xs.map Int.toNat) List.nodup_range (fun n hn => by
    rw [List.mem_range] at hn
    exact List.mem_map.2 ⟨(n : Int), h n (by omega), by simp⟩)
  simp at this; omega
/-- The least missing number. -/
def IsMex (xs : List Int) (n : Nat) : Prop := n ≤ xs.length ∧ (n : Int) ∉ xs ∧ ∀ m : Nat, m < n → (m : Int) ∈ xs
theorem mex_ex (xs : List Int) : ∃ n, IsMex xs n := by
  obtain ⟨n, hn, hm⟩ := missing xs
  have : ∀ d : Nat, ∀ j : Nat, j + d = n → (∀ m : Nat, m < j → (m : Int) ∈ xs) → ∃ n, IsMex xs n := by
    intro d
    induction d with
    | zero =>
      intro j hj hb
      have : j = n := by omega
      subst this
      exact ⟨j, hn, hm, hb⟩
    | succ d ih =>
      intro j hj hb
      by_cases c : (j : Int) ∈ xs
      · exact ih (j + 1) (by omega) (fun m hm => by
          rcases Nat.lt_or_ge m j with h | h
          · exact hb m h
          · have : m = j := by omega
            subst this; exact c)
      · exact ⟨j, by omega, c, hb⟩
  exact this n 0 (by omega) (fun m hm => absurd hm (Nat.not_lt_zero _))
noncomputable def mexOf (xs : List Int) : Nat := Classical.choose (mex_ex xs)
theorem mexOf_is (xs : List Int) : IsMex xs (mexOf xs) := Classical.choose_spec (mex_ex xs)
theorem mexOf_eq {xs : List Int} {n : Nat} (h1 : (n : Int) ∉ xs) (h2 : ∀ m : Nat, m < n → (m : Int) ∈ xs) : mexOf xs = n := by
  obtain ⟨_, a, b⟩ := mexOf_is xs
  rcases Nat.lt_trichotomy (mexOf xs) n with h | h | h
  · exact absurd (h2 _ h) a
  · exact h
  · exact absurd (b _ h) h1
theorem index_loop (xs : List Int) (x : Int) (hn : xs.length < 4611686018427387904) (d : Nat) : ∀ i : Nat, i + d = xs.length → ∃ t, Ev (fun k => slices_Index_int64_int64.l0 k xs x (xs.length : Int) (i : Int)) t ∧ decide (t ≥ 0) = decide (x ∈ xs.drop i) := by
  induction d with
  | zero =>
    intro i hd
    refine ⟨-1, Ev.step (f := fun _ => some (-1)) (fun k => ?_) (Ev.now _), ?_⟩
    · simp only [slices_Index_int64_int64.l0]; rw [if_neg (by omega)]
    · rw [List.drop_eq_nil_of_le (by omega)]; simp
  | succ d ih =>
    intro i hd
    obtain ⟨y, hy⟩ := get_some (xs := xs) (i := i) (by omega)
    have hrx : rd xs (i : Int) = y := by rw [rd_nat]; exact getD_of hy
    rw [drop_of hy]
    by_cases c : x = y
    · refine ⟨(i : Int), Ev.step (f := fun _ => some (i : Int)) (fun k => ?_) (Ev.now _), ?_⟩
      · simp only [slices_Index_int64_int64.l0]; rw [if_pos (by omega), if_pos (by omega), if_pos (by omega), hrx, if_pos c]
      · rw [decide_eq_true (show x ∈ y :: xs.drop (i + 1) by rw [c]; exact List.mem_cons_self), decide_eq_true (by omega)]
    · obtain ⟨t, ht, he⟩ := ih (i + 1) (by omega)
      refine ⟨t, Ev.step (fun k => ?_) ht, ?_⟩
      · simp only [slices_Index_int64_int64.l0]; rw [if_pos (by omega), if_pos (by omega), if_pos (by omega), hrx, if_neg c, wrapS (by omega) (by omega), cast_succ]
      · rw [he, decide_eq_decide]
        simp [c]
theorem contains_ev (xs : List Int) (x : Int) (hn : xs.length < 4611686018427387904) : Ev (fun k => slices_Contains_int64_int64.f k xs x) (decide (x ∈ xs)) := by
  obtain ⟨t, ht, he⟩ := index_loop xs x hn xs.length 0 (by omega)
  rw [List.drop_zero] at he
  rw [← he]
  exact Ev.congr (f := fun k => (slices_Index_int64_int64.f k xs x).bind fun t => (some (decide (t ≥ 0)))) (fun k => rfl) (Ev.bind ht (Ev.now _))
theorem mexi_loop (xs : List Int) (hn : xs.length < 4611686018427387904) (d : Nat) : ∀ i : Nat, i + d = mexOf xs → Ev (fun k => impl_mex.l0 k xs (i : Int)) (mexOf xs : Int) := by
  obtain ⟨hl, a, b⟩ := mexOf_is xs
  have st : ∀ i : Nat, ∀ k, impl_mex.l0 (k + 1) xs (i : Int) = (slices_Contains_int64_int64.f k xs (i : Int)).bind fun t => (if t = true then (impl_mex.l0 k xs (wrap64 ((i : Int) + 1))) else (some (i : Int))) := fun i k => rfl
  induction d with
  | zero =>
    intro i hd
    have : i = mexOf xs := by omega
    rw [← this] at a ⊢
    refine Ev.step (st i) (Ev.bind (contains_ev xs (i : Int) hn) ?_)
    exact Ev.congr (f := fun _ => some (i : Int)) (fun k => by rw [if_neg (by simp [a])]) (Ev.now _)
  | succ d ih =>
    intro i hd
    refine Ev.step (st i) (Ev.bind (contains_ev xs (i : Int) hn) ?_)
    exact Ev.congr (fun k => by rw [if_pos (by simp [b i (by omega)]), wrapS (by omega) (by omega), cast_succ]) (ih (i + 1) (by omega))
theorem mexi_ev (xs : List Int) (hn : xs.length < 4611686018427387904) : Ev (fun k => impl_mex.f k xs) (mexOf xs : Int) := mexi_loop xs hn (mexOf xs) 0 (by omega)
theorem rdOf_nat (xs : List Bool) (i : Nat) : rdOf false xs (i : Int) = xs.getD i false := by unfold rdOf; rfl
/-- What has been met among the first numbers. -/
def MetOf (xs : List Int) (i n : Nat) (met : List Bool) : Prop := met.length = n ∧ ∀ j : Nat, j < n → met.getD j false = decide ((j : Int) ∈ xs.take i)
theorem mexs_end (xs : List Int) (met : List Bool) (hm : MetOf xs xs.length (xs.length + 1) met) (hn : xs.length < 4611686018427387904) (d : Nat) : ∀ i : Nat, i + d = mexOf xs → Ev (fun k => spec_l01Mex.l1 k met (i : Int)) (mexOf xs : Int) := by
  obtain ⟨hl, a, b⟩ := mexOf_is xs
  obtain ⟨m1, m2⟩ := hm
  rw [List.take_length] at m2
  induction d with
  | zero =>
    intro i hd
    have : i = mexOf xs := by omega
    rw [← this] at a ⊢
    refine Ev.step (f := fun _ => some (i : Int)) (fun k => ?_) (Ev.now _)
    simp only [spec_l01Mex.l1]
    rw [if_pos (by omega), if_pos (by omega), rdOf_nat, m2 i (by omega), decide_eq_false a]
    rfl
  | succ d ih =>
    intro i hd
    refine Ev.step (fun k => ?_) (ih (i + 1) (by omega))
    simp only [spec_l01Mex.l1]
    rw [if_pos (by omega), if_pos (by omega), rdOf_nat, m2 i (by omega), decide_eq_true (b i (by omega)), if_pos rfl, wrapS (by omega) (by omega), cast_succ]
theorem mexs_loop (xs : List Int) (hp : ∀ x ∈ xs, 0 ≤ x) (hn : xs.length < 4611686018427387904) (d : Nat) : ∀ (i : Nat) (met : List Bool), i + d = xs.length → MetOf xs i (xs.length + 1) met → Ev (fun k => spec_l01Mex.l0 k xs met (i : Int)) (mexOf xs : Int) := by
  induction d with
  | zero =>
    intro i met hd hm
    have : i = xs.length := by omega
    subst this
    refine Ev.step (fun k => ?_) (mexs_end xs met hm hn (mexOf xs) 0 (by omega))
    simp only [spec_l01Mex.l0]; rw [if_neg (by omega)]; rfl
  | succ d ih =>
    intro i met hd hm
    obtain ⟨x, hx⟩ := get_some (xs := xs) (i := i) (by omega)
    have hrx : rd xs (i : Int) = x := by rw [rd_nat]; exact getD_of hx
    have hx0 : 0 ≤ x := hp x (List.mem_of_getElem? hx)
    obtain ⟨m1, m2⟩ := hm
    have htk : ∀ j : Nat, ((j : Int) ∈ xs.take (i + 1)) ↔ ((j : Int) ∈ xs.take i ∨ (j : Int) = x) := fun j => by
      obtain ⟨hlt, hxe⟩ := List.getElem?_eq_some_iff.1 hx
      rw [List.take_succ_eq_append_getElem hlt, hxe, List.mem_append, List.mem_singleton]
    by_cases c : x < (met.length : Int)
    · refine Ev.step (fun k => ?_) (ih (i + 1) (met.set x.toNat true) (by omega) ⟨by rw [List.length_set, m1], fun j hj => ?_⟩)
      · simp only [spec_l01Mex.l0]; rw [if_pos (by omega), if_pos (by omega), hrx, if_pos c, if_pos hx0, wrapS (by omega) (by omega), cast_succ]
      · rw [List.getD_eq_getElem?_getD, List.getElem?_set]
        by_cases e : x.toNat = j
        · rw [if_pos e, if_pos (by omega)]
          rw [decide_eq_true ((htk j).2 (.inr (by omega)))]; rfl
        · rw [if_neg e, ← List.getD_eq_getElem?_getD, m2 j hj, decide_eq_decide, htk j]
          constructor
          · exact .inl
          · rintro (h | h)
            · exact h
            · omega
    · refine Ev.step (fun k => ?_) (ih (i + 1) met (by omega) ⟨m1, fun j hj => ?_⟩)
      · simp only [spec_l01Mex.l0]; rw [if_pos (by omega), if_pos (by omega), hrx, if_neg c, wrapS (by omega) (by omega), cast_succ]
      · rw [m2 j hj, decide_eq_decide, htk j]
        constructor
        · exact .inl
        · rintro (h | h)
          · exact h
          · omega
theorem mexs_ev (xs : List Int) (hp : ∀ x ∈ xs, 0 ≤ x) (hn : xs.length ≤ 1000000) : Ev (fun k => spec_l01Mex.f k xs) (mexOf xs : Int) := by
  have h := mexs_loop xs hp (by omega) xs.length 0 (List.replicate (xs.length + 1) false) (by omega) ⟨by simp, fun j hj => by
    rw [List.getD_eq_getElem?_getD, List.getElem?_replicate, if_pos hj]; simp⟩
  refine Ev.congr (fun k => ?_) h
  unfold spec_l01Mex.f
  rw [wrapS (by omega) (by omega), if_pos (by omega), cast_succ, Int.toNat_natCast, if_pos (by omega)]
  rfl

end Go.Proofs.Ytbiemfbdobdecaa.PX
