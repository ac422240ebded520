/- Marks laid into lists of whole numbers, and looked for (no condition but sizes that fit). -/
import Derived.Test.YtkbjoiebaphdoaaPSx0
import Derived.Test.YtkbjoiebaphdoaaPSx3
import Derived.Test.YtkbjoiebaphdoaaSBase
namespace Go.Proofs.Ytkbjoiebaphdoaa.PS
open Go.RowKit Go.Proofs.YtkbjoiebaphdoaaW.PrintWords Go.Proofs.YtkbjoiebaphdoaaW.PrintLast Go.Proofs.YtkbjoiebaphdoaaW.PrintMore
attribute [local go_sem] max2_int min2_int max_two min_two max_three min_three max_four min_four
set_option linter.unusedVariables false
set_option linter.unusedSimpArgs false
/-- The marks that the law lays: a, a + 1, .. -/
def marks (a : Int) (n : Nat) : List Int := (List.range n).map fun (i : Nat) => a + (i : Int)
theorem marks_length (a : Int) (n : Nat) : (marks a n).length = n := by simp [marks]
theorem mark_loop (xs : List Int) (a : Int) (ha : 0 ≤ a) (hn : a + xs.length < 4611686018427387904) (d : Nat) : ∀ (i : Nat), i + d = xs.length →
    Ev (fun k => laws_markInt64S.l0 k (marks a i ++ xs.drop i) (a + i) i) (a + (xs.length : Int), marks a xs.length) := by
  induction d with
  | zero =>
    intro i hd
    have hi : i = xs.length := by omega
    subst hi
    refine Ev.step (f := fun _ => some (a + (xs.length : Int), marks a xs.length)) (fun k => ?_) (Ev.now _)
    simp only [laws_markInt64S.l0]
    rw [if_neg (by simp [marks_length])]
    simp
  | succ d ih =>
    intro i hd
    refine Ev.step (fun k => ?_) (ih (i + 1) (by omega))
    simp only [laws_markInt64S.l0]
    rw [if_pos (by simp only [List.length_append, marks_length, List.length_drop]; omega), if_pos (by omega), wrapS (by omega) (by omega), wrapS (by omega) (by omega)]
    have hs : (marks a i ++ xs.drop i).set ((i : Int)).toNat (a + i) = marks a (i + 1) ++ xs.drop (i + 1) := by
      have hl : i < xs.length := by omega
      have e1 : ((i : Int)).toNat = (marks a i).length := by rw [marks_length]; omega
      rw [List.drop_eq_getElem_cons hl, e1, List.set_append_right _ _ (Nat.le_refl _)]
      simp only [Nat.sub_self, List.set_cons_zero]
      simp [marks, List.range_succ]
    rw [hs, show a + ((i + 1 : Nat) : Int) = a + i + 1 by omega, cast_succ]
theorem mark_ev (xs : List Int) (a : Int) (ha : 0 ≤ a) (hn : a + xs.length < 4611686018427387904) : Ev (fun k => laws_markInt64S.f k xs a) (a + (xs.length : Int), marks a xs.length) := by
  refine Ev.congr (fun k => ?_) (mark_loop xs a ha hn xs.length 0 (by omega))
  unfold laws_markInt64S.f
  simp [marks]
theorem held_loop (n : Nat) (a : Int) (ha : 0 ≤ a) (hn : a + n < 4611686018427387904) (d : Nat) : ∀ (i : Nat), i + d = n →
    Ev (fun k => laws_heldInt64S.l0 k (marks a n) (a + i) i) (a + (n : Int)) := by
  induction d with
  | zero =>
    intro i hd
    have : i = n := by omega
    subst this
    refine Ev.step (f := fun _ => some (a + (i : Int))) (fun k => ?_) (Ev.now _)
    simp only [laws_heldInt64S.l0]
    rw [if_neg (by rw [marks_length]; omega)]
  | succ d ih =>
    intro i hd
    refine Ev.step (fun k => ?_) (ih (i + 1) (by omega))
    simp only [laws_heldInt64S.l0]
    have hr : rd (marks a n) (i : Int) = a + i := by
      have hl : i < n := by omega
      simp [rd, marks, hl]
    rw [if_pos (by rw [marks_length]; omega), if_pos (by omega), if_pos hr, wrapS (by omega) (by omega), wrapS (by omega) (by omega), show a + ((i + 1 : Nat) : Int) = a + i + 1 by omega, cast_succ]
theorem held_ev (n : Nat) (a : Int) (ha : 0 ≤ a) (hn : a + n < 4611686018427387904) : Ev (fun k => laws_heldInt64S.f k (marks a n) a) (a + (n : Int)) := by
  refine Ev.congr (fun k => ?_) (held_loop n a ha hn n 0 (by omega))
  unfold laws_heldInt64S.f
  simp

end Go.Proofs.Ytkbjoiebaphdoaa.PS
