/- The start positions: both sides (no condition). -/
import Derived.Test.YtkbjoiebaphdoaaPSx0
import Derived.Test.YtkbjoiebaphdoaaPSx1
import Derived.Test.YtkbjoiebaphdoaaGStartOf
import Derived.Test.YtkbjoiebaphdoaaSHeld3
namespace Go.Proofs.Ytkbjoiebaphdoaa.PS
open Go.RowKit Go.Proofs.YtkbjoiebaphdoaaW.PrintWords Go.Proofs.YtkbjoiebaphdoaaW.PrintLast Go.Proofs.YtkbjoiebaphdoaaW.PrintMore
attribute [local go_sem] max2_int min2_int max_two min_two max_three min_three max_four min_four
set_option linter.unusedVariables false
set_option linter.unusedSimpArgs false
def rowsTo (m : Nat) : List (List Int) := (List.range m).map (fun (i : Nat) => [(i : Int)])
theorem rowsTo_succ (m : Nat) : rowsTo (m + 1) = rowsTo m ++ [[(m : Int)]] := by unfold rowsTo; rw [List.range_succ, List.map_append]; rfl
theorem rowsTo_len (m : Nat) : (rowsTo m).length = m := by simp [rowsTo]
def startV (a : Int) : Int × List (List (List Int)) × Int := if 1 ≤ a ∧ a ≤ 6 then (a, [rowsTo a.toNat], 0) else (0, [], 2)
theorem spec_start_loop (a : Int) (h1 : 1 ≤ a) (h6 : a ≤ 6) : ∀ (d j : Nat), j + d = a.toNat → Ev (fun k => spec_StartOf.l0 k a (rowsTo j) (j : Int)) (a, [rowsTo a.toNat], 0)
  | 0, j, hd => by
    refine Ev.step (f := fun _ => some (a, [rowsTo a.toNat], 0)) (fun k => ?_) (Ev.now _)
    rw [spec_StartOf.l0, if_neg (by omega), show j = a.toNat by omega]
  | d + 1, j, hd => by
    have ih := spec_start_loop a h1 h6 d (j + 1) (by omega)
    rw [rowsTo_succ] at ih
    refine Ev.step (fun k => ?_) ih
    rw [spec_StartOf.l0, if_pos (by omega), if_pos (by rw [rowsTo_len]; omega), wrapS (by omega) (by omega), cast_succ]
theorem impl_start_loop (a : Int) (h1 : 1 ≤ a) (h6 : a ≤ 6) : ∀ (d j : Nat), j + d = a.toNat → Ev (fun k => impl_StartOf.l0 k a (j : Int) a [rowsTo j]) (a, [rowsTo a.toNat], 0)
  | 0, j, hd => by
    refine Ev.step (f := fun _ => some (a, [rowsTo a.toNat], 0)) (fun k => ?_) (Ev.now _)
    rw [impl_StartOf.l0, if_neg (by omega), show j = a.toNat by omega]
  | d + 1, j, hd => by
    have ih := impl_start_loop a h1 h6 d (j + 1) (by omega)
    rw [rowsTo_succ] at ih
    refine Ev.step (fun k => ?_) ih
    have e0 : rd_L2 [rowsTo j] 0 = rowsTo j := rfl
    rw [impl_StartOf.l0, e0, if_pos (by omega), if_pos (by simp), if_pos (by rw [rowsTo_len]; omega), wrapS (by omega) (by omega), cast_succ]
    rfl
theorem in_eq1 (a b c : Int) : spec_l01In.f a b c = some (decide (b ≤ a) && decide (a ≤ c)) := by
  unfold spec_l01In.f
  by_cases h1 : b ≤ a <;> by_cases h2 : a ≤ c <;> simp [h1, h2] <;> omega
theorem within_eq1 (a b c : Int) : impl_within.f a b c = some (decide (b ≤ a) && decide (a ≤ c)) := by
  unfold impl_within.f
  by_cases h1 : b ≤ a <;> by_cases h2 : a ≤ c <;> simp [h1, h2] <;> omega
theorem specStart_ev (a : Int) : Ev (fun k => spec_StartOf.f k a) (startV a) := by
  unfold spec_StartOf.f startV
  rw [in_eq1]
  by_cases c : 1 ≤ a ∧ a ≤ 6
  · have cb : (decide (1 ≤ a) && decide (a ≤ 6)) = true := by simp [c.1, c.2]
    rw [if_pos c]
    refine Ev.congr (fun k => by rw [Option.bind_some, if_pos cb]; rfl) (spec_start_loop a c.1 c.2 a.toNat 0 (by omega))
  · have cb : ¬ (decide (1 ≤ a) && decide (a ≤ 6)) = true := by simp only [Bool.and_eq_true, decide_eq_true_eq]; exact c
    rw [if_neg c]
    exact Ev.congr (f := fun _ => some (0, [], 2)) (fun k => by rw [Option.bind_some, if_neg cb]) (Ev.now _)
theorem implStart_ev (a : Int) : Ev (fun k => impl_StartOf.f k a) (startV a) := by
  unfold impl_StartOf.f startV
  rw [within_eq1]
  by_cases c : 1 ≤ a ∧ a ≤ 6
  · have cb : (decide (1 ≤ a) && decide (a ≤ 6)) = true := by simp [c.1, c.2]
    rw [if_pos c]
    refine Ev.congr (fun k => by rw [Option.bind_some, if_pos cb]; rfl) (impl_start_loop a c.1 c.2 a.toNat 0 (by omega))
  · have cb : ¬ (decide (1 ≤ a) && decide (a ≤ 6)) = true := by simp only [Bool.and_eq_true, decide_eq_true_eq]; exact c
    rw [if_neg c]
    exact Ev.congr (f := fun _ => some (0, [], 2)) (fun k => by rw [Option.bind_some, if_neg cb]) (Ev.now _)
theorem start_fits (a : Int) : (startV a).2.1.length ≤ 1048576 ∧ (∀ g ∈ (startV a).2.1, g.length ≤ 1048576 ∧ total g ≤ 1048576) ∧ total3 (startV a).2.1 ≤ 1048576 := by
  unfold startV
  by_cases c : 1 ≤ a ∧ a ≤ 6
  · rw [if_pos c]
    have h := total_le 1 (rowsTo a.toNat) (fun row hr => by
      unfold rowsTo at hr
      obtain ⟨i, _, rfl⟩ := List.mem_map.1 hr
      exact Nat.le_refl _)
    rw [rowsTo_len] at h
    refine ⟨by simp, fun g hg => ?_, ?_⟩
    · obtain rfl := List.mem_singleton.1 hg
      exact ⟨by rw [rowsTo_len]; omega, by omega⟩
    · simp only [total3]
      omega
  · rw [if_neg c]
    exact ⟨by simp, fun g hg => absurd hg (by simp), by simp [total3]⟩

end Go.Proofs.Ytkbjoiebaphdoaa.PS
