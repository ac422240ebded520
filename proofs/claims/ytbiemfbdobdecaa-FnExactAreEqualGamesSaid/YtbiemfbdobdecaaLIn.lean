/- Numbers within bounds, and the first of two checks that fails (no condition). -/
import Derived.Test.YtbiemfbdobdecaaPXx0
import Derived.Test.YtbiemfbdobdecaaPXx1
import Derived.Test.YtbiemfbdobdecaaPXx7
import Derived.Test.YtbiemfbdobdecaaLBase
namespace Go.Proofs.Ytbiemfbdobdecaa.PX
open Go.RowKit Go.Proofs.YtbiemfbdobdecaaW.PrintWords Go.Proofs.YtbiemfbdobdecaaW.PrintLast Go.Proofs.YtbiemfbdobdecaaW.PrintMore
attribute [local go_sem] max2_int min2_int max_two min_two max_three min_three max_four min_four
set_option linter.unusedVariables false
set_option linter.unusedSimpArgs false
theorem l01In_eq (a b c : Int) : spec_l01In.f a b c = some (decide (b ≤ a) && decide (a ≤ c)) := by
  unfold spec_l01In.f
  by_cases h : b ≤ a <;> simp [h]
theorem within_eq (a b c : Int) : impl_within.f a b c = some (decide (b ≤ a) && decide (a ≤ c)) := by
  unfold impl_within.f
  by_cases h : b ≤ a <;> simp [h]
theorem ev_add {α : Type} {g f : Nat → Option α} {r : α} (n : Nat) (h : ∀ k, g (k + n) = f k) (k : Ev f r) : Ev g r := by
  obtain ⟨K, hK⟩ := k
  refine ⟨K + n, fun m hm => ?_⟩
  obtain ⟨d, rfl⟩ : ∃ d, m = d + n := ⟨m - n, by omega⟩
  rw [h]
  exact hK d (by omega)
def firstOf (a b : Bool) (x y : Int) : Int := if a = true then (if b = true then 0 else y) else x
theorem first2_ev (a b : Bool) (x y : Int) : Ev (fun k => impl_first.f k (([(⟨a, x⟩ : S50), (⟨b, y⟩ : S50)] : List (S50)))) (firstOf a b x y) := by
  cases a <;> cases b
  · exact ev_add (f := fun _ => some x) 3 (fun k => by kernel_rfl) (Ev.now _)
  · exact ev_add (f := fun _ => some x) 3 (fun k => by kernel_rfl) (Ev.now _)
  · exact ev_add (f := fun _ => some y) 3 (fun k => by kernel_rfl) (Ev.now _)
  · exact ev_add (f := fun _ => some 0) 3 (fun k => by kernel_rfl) (Ev.now _)

end Go.Proofs.Ytbiemfbdobdecaa.PX
