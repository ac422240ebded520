/- For all r, c, d the program's TurnsOf returns what the reference's TurnsOf returns: the law returns true (no condition). -/
import Derived.Test.YtbnkefbcnojdgaaPFnExactTurnsOfx1
namespace Go.Proofs.Ytbnkefbcnojdgaa.Pure
open Go.RowKit Go.Proofs.Ytbnkefbcnojdgaa.PFnExactTurnsOf Go.Proofs.YtbnkefbcnojdgaaW.PrintWords Go.Proofs.YtbnkefbcnojdgaaW.PrintLast

theorem FnExactTurnsOf : laws_FnExactTurnsOf.Pure := by
  intro a0 a1 a2 w0 w1 w2
  have hw : ∀ a b c : Int, impl_within.f a b c = some (decide (b ≤ a) && decide (a ≤ c)) := by
    intro a b c
    unfold impl_within.f
    by_cases h : b ≤ a <;> simp [h]
  have hs : ∀ a b c : Int, spec_l01In.f a b c = some (decide (b ≤ a) && decide (a ≤ c)) := by
    intro a b c
    unfold spec_l01In.f
    by_cases h : b ≤ a <;> simp [h]
  have e : spec_TurnsOf.f a0 a1 a2 = impl_TurnsOf.f a0 a1 a2 := by
    unfold spec_TurnsOf.f impl_TurnsOf.f
    simp only [hw, hs]
  have hx : ∃ r, impl_TurnsOf.f a0 a1 a2 = some r := by
    unfold impl_TurnsOf.f
    simp only [hw, Option.bind_some]
    split
    · split
      · split <;> exact ⟨_, rfl⟩
      · exact ⟨_, rfl⟩
    · exact ⟨_, rfl⟩
  obtain ⟨r, hr⟩ := hx
  unfold laws_FnExactTurnsOf.f
  rw [e, hr]
  simp

end Go.Proofs.Ytbnkefbcnojdgaa.Pure
