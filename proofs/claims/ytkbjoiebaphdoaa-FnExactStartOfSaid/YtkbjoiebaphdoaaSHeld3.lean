/- Marks laid into a position are found again (no condition but sizes that fit). -/
import Derived.Test.YtkbjoiebaphdoaaPSx0
import Derived.Test.YtkbjoiebaphdoaaPSx4
import Derived.Test.YtkbjoiebaphdoaaSMark3
namespace Go.Proofs.Ytkbjoiebaphdoaa.PS
open Go.RowKit Go.Proofs.YtkbjoiebaphdoaaW.PrintWords Go.Proofs.YtkbjoiebaphdoaaW.PrintLast Go.Proofs.YtkbjoiebaphdoaaW.PrintMore
attribute [local go_sem] max2_int min2_int max_two min_two max_three min_three max_four min_four
set_option linter.unusedVariables false
set_option linter.unusedSimpArgs false
theorem heldSS_loop (g : List (List Int)) (a : Int) (ha : 0 ≤ a) (hn : a + total g < 4611686018427387904) (hg : g.length < 4611686018427387904) (d : Nat) : ∀ (i : Nat), i + d = g.length →
    Ev (fun k => laws_heldInt64SS.l0 k (markL a g) (a + total (g.take i)) i) (a + total g) := by
  induction d with
  | zero =>
    intro i hd
    have e : i = g.length := by omega
    subst e
    refine Ev.step (f := fun _ => some (a + total g)) (fun k => ?_) (Ev.now _)
    simp only [laws_heldInt64SS.l0]
    rw [if_neg (by rw [markL_length]; omega), List.take_length]
  | succ d ih =>
    intro i hd
    obtain ⟨row, hp⟩ := get_some (xs := g) (i := i) (by omega)
    have hx := ih (i + 1) (by omega)
    have et : total (g.take (i + 1)) = total (g.take i) + row.length := by
      rw [List.take_add_one, hp]
      have : ∀ (x y : List (List Int)), total (x ++ y) = total x + total y := fun x y => by
        induction x with
        | nil => simp [total]
        | cons z r ihx => simp only [List.cons_append, total, ihx]; omega
      rw [this]
      simp [total]
    have hb : total (g.take i) + row.length + total (g.drop (i + 1)) = total g := by
      have : ∀ (x y : List (List Int)), total (x ++ y) = total x + total y := fun x y => by
        induction x with
        | nil => simp [total]
        | cons z r ihx => simp only [List.cons_append, total, ihx]; omega
      have e := congrArg total (List.take_append_drop i g)
      rw [this, drop_of hp] at e
      simp only [total] at e
      omega
    have h0 := total_nonneg (g.take i)
    have h1 := total_nonneg (g.drop (i + 1))
    have hget : rd_L1 (markL a g) (i : Int) = marks (a + total (g.take i)) row.length := by
      rw [rdL1_nat]
      have e : markL a g = markL a (g.take i) ++ markL (a + total (g.take i)) (g.drop i) := by rw [← markL_append, List.take_append_drop]
      rw [e, drop_of hp, List.getD_eq_getElem?_getD, List.getElem?_append_right (by rw [markL_length, List.length_take]; omega), markL_length, List.length_take, show i - min i g.length = 0 by omega]
      rfl
    have hh := held_ev row.length (a + total (g.take i)) (by omega) (by omega)
    rw [et, ← Int.add_assoc] at hx
    refine Ev.step (fun k => by simp only [laws_heldInt64SS.l0]; rw [if_pos (by rw [markL_length]; omega), if_pos (by omega), hget]) (Ev.bind hh (Ev.congr (fun k => ?_) hx))
    rw [if_neg (by omega), wrapS (by omega) (by omega), cast_succ]
theorem heldSS_ev (g : List (List Int)) (a : Int) (ha : 0 ≤ a) (hn : a + total g < 4611686018427387904) (hg : g.length < 4611686018427387904) : Ev (fun k => laws_heldInt64SS.f k (markL a g) a) (a + total g) := by
  have h := heldSS_loop g a ha hn hg g.length 0 (by omega)
  have e : a + total (g.take 0) = a := by simp [total]
  rw [e] at h
  exact h
theorem rdL2_nat' (xs : List (List (List Int))) (i : Nat) : rd_L2 xs (i : Int) = xs.getD i [] := by unfold rd_L2; rfl
theorem held3_loop (R : List (List (List Int))) (a : Int) (ha : 0 ≤ a) (hn : a + total3 R < 4611686018427387904) (hR : Fits3 R) (d : Nat) : ∀ (i : Nat), i + d = R.length →
    Ev (fun k => laws_heldInt64SSS.l0 k (markLL a R) (a + total3 (R.take i)) i) (a + total3 R) := by
  have hl := hR.1
  induction d with
  | zero =>
    intro i hd
    have e : i = R.length := by omega
    subst e
    refine Ev.step (f := fun _ => some (a + total3 R)) (fun k => ?_) (Ev.now _)
    simp only [laws_heldInt64SSS.l0]
    rw [if_neg (by rw [markLL_length]; omega), List.take_length]
  | succ d ih =>
    intro i hd
    obtain ⟨g, hp⟩ := get_some (xs := R) (i := i) (by omega)
    have hx := ih (i + 1) (by omega)
    have et : total3 (R.take (i + 1)) = total3 (R.take i) + total g := by
      rw [List.take_add_one, hp, total3_append]
      simp [total3]
    have hb : total3 (R.take i) + total g + total3 (R.drop (i + 1)) = total3 R := by
      have e := congrArg total3 (List.take_append_drop i R)
      rw [total3_append, drop_of hp] at e
      simp only [total3] at e
      omega
    have h0 := total3_nonneg (R.take i)
    have h1 := total3_nonneg (R.drop (i + 1))
    have h2 := total_nonneg g
    have hget : rd_L2 (markLL a R) (i : Int) = markL (a + total3 (R.take i)) g := by
      rw [rdL2_nat']
      have e : markLL a R = markLL a (R.take i) ++ markLL (a + total3 (R.take i)) (R.drop i) := by rw [← markLL_append, List.take_append_drop]
      rw [e, drop_of hp, List.getD_eq_getElem?_getD, List.getElem?_append_right (by rw [markLL_length, List.length_take]; omega), markLL_length, List.length_take, show i - min i R.length = 0 by omega]
      rfl
    have hh := heldSS_ev g (a + total3 (R.take i)) (by omega) (by omega) (hR.2 g (List.mem_of_getElem? hp))
    rw [et, ← Int.add_assoc] at hx
    refine Ev.step (fun k => by simp only [laws_heldInt64SSS.l0]; rw [if_pos (by rw [markLL_length]; omega), if_pos (by omega), hget]) (Ev.bind hh (Ev.congr (fun k => ?_) hx))
    rw [if_neg (by omega), wrapS (by omega) (by omega), cast_succ]
theorem held3_ev (n : Int) (R : List (List (List Int))) (a : Int) (ha : 0 ≤ a) (hn : a + total3 R < 4611686018427387904) (hR : Fits3 R) : Ev (fun k => laws_heldSprouts.f k n (markLL a R) a) (a + total3 R) := by
  have h := held3_loop R a ha hn hR R.length 0 (by omega)
  have h0 := total3_nonneg R
  have e : a + total3 (R.take 0) = a := by simp [total3]
  rw [e] at h
  unfold laws_heldSprouts.f
  refine Ev.bind (g := fun k => laws_heldInt64SSS.f k (markLL a R) a) (Ev.congr (fun k => rfl) h) (Ev.congr (f := fun _ => some (a + total3 R)) (fun k => ?_) (Ev.now _))
  rw [if_neg (by omega)]
theorem total_le (n : Nat) : ∀ g : List (List Int), (∀ row ∈ g, row.length ≤ n) → total g ≤ (g.length : Int) * n
  | [], _ => by simp [total]
  | row :: rest, h => by
    have := total_le n rest (fun r hr => h r (by simp [hr]))
    have h1 := h row (by simp)
    simp only [total, List.length_cons]
    have e : (((rest.length + 1 : Nat) : Int)) * (n : Int) = (rest.length : Int) * n + n := by rw [Int.natCast_add, Int.add_mul]; simp
    omega

end Go.Proofs.Ytkbjoiebaphdoaa.PS
