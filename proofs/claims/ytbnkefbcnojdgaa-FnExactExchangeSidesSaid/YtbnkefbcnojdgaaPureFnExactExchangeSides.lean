/- For every f the program's ExchangeSides returns what the reference's ExchangeSides returns: the law returns true (no condition). -/
import Derived.Test.YtbnkefbcnojdgaaPXx5
namespace Go.Proofs.Ytbnkefbcnojdgaa.Pure
open Go.RowKit Go.Proofs.Ytbnkefbcnojdgaa.PX Go.Proofs.YtbnkefbcnojdgaaW.PrintWords Go.Proofs.YtbnkefbcnojdgaaW.PrintLast Go.Proofs.YtbnkefbcnojdgaaW.PrintMore
set_option linter.unusedSimpArgs false
set_option linter.unusedVariables false
theorem within_eq (a b c : Int) : impl_within.f a b c = some (decide (b ≤ a) && decide (a ≤ c)) := by
  unfold impl_within.f
  by_cases h : b ≤ a <;> simp [h]

theorem l01In_eq (a b c : Int) : spec_l01In.f a b c = some (decide (b ≤ a) && decide (a ≤ c)) := by
  unfold spec_l01In.f
  by_cases h : b ≤ a <;> simp [h]

theorem eight {p : Int} (h1 : 1 ≤ p) (h2 : p ≤ 8) : p = 1 ∨ p = 2 ∨ p = 3 ∨ p = 4 ∨ p = 5 ∨ p = 6 ∨ p = 7 ∨ p = 8 := by omega
theorem both_is (p l r b : Int) : ∃ v, impl_IsField.f p l r b = some v ∧ spec_l05Is.f p l r b = some v ∧ (v = true → 1 ≤ p ∧ p ≤ 8) := by
  unfold impl_IsField.f spec_l05Is.f
  simp only [within_eq, l01In_eq, impl_pairs.f, Option.bind_some]
  by_cases h : (decide (1 ≤ p) && decide (p ≤ 8)) = true
  · have hp : 1 ≤ p ∧ p ≤ 8 := by simpa using h
    rw [if_pos h, if_pos h]
    have e1 : IntKind.u64.wrap p = p := by
      rcases eight hp.1 hp.2 with rfl | rfl | rfl | rfl | rfl | rfl | rfl | rfl <;> decide +kernel
    have e2 : IntKind.u64.wrap (wrap64 (Int.tdiv (wrap64 (p * (wrap64 (p - 1)))) 2)) = wrap64 (Int.tdiv (wrap64 (p * (wrap64 (p - 1)))) 2) := by
      rcases eight hp.1 hp.2 with rfl | rfl | rfl | rfl | rfl | rfl | rfl | rfl <;> decide +kernel
    have e3 : 0 ≤ wrap64 (Int.tdiv (wrap64 (p * (wrap64 (p - 1)))) 2) := by
      rcases eight hp.1 hp.2 with rfl | rfl | rfl | rfl | rfl | rfl | rfl | rfl <;> decide +kernel
    have e4 : 0 ≤ p := by omega
    simp only [e1, e2, e3, e4, if_true]
    split
    · split
      · split
        · exact ⟨_, rfl, rfl, fun _ => hp⟩
        · exact ⟨_, rfl, rfl, fun _ => hp⟩
      · exact ⟨_, rfl, rfl, fun _ => hp⟩
    · exact ⟨_, rfl, rfl, fun _ => hp⟩
  · rw [if_neg h, if_neg h]
    exact ⟨_, rfl, rfl, fun e => by simp at e⟩

theorem FnExactExchangeSides : ∀ (a0_0 : Int) (a0_1 : Int) (a0_2 : Int) (a0_3 : Int), (Lit.int .i64 a0_0).wf = true → (Lit.int .i64 a0_1).wf = true → (Lit.int .i64 a0_2).wf = true → (Lit.int .i64 a0_3).wf = true → laws_FnExactExchangeSides.f a0_0 a0_1 a0_2 a0_3 = some true := by
  intro p l r b _ _ _ _
  obtain ⟨v, h1, h2, _⟩ := both_is p l r b
  unfold laws_FnExactExchangeSides.f laws_toField.f spec_ExchangeSides.f impl_ExchangeSides.f
  simp only [Option.bind_some, h1, h2]
  cases v
  · simp [laws_eqField.f]
  · simp [laws_eqField.f]

end Go.Proofs.Ytbnkefbcnojdgaa.Pure
