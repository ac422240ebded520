/- For every f, i and j the program's AreJoined returns what the reference's AreJoined returns: the law returns true (no condition). -/
import Derived.Test.YtbnkefbcnojdgaaPXx7
namespace Go.Proofs.Ytbnkefbcnojdgaa.Pure
open Go.RowKit Go.Proofs.Ytbnkefbcnojdgaa.PX Go.Proofs.YtbnkefbcnojdgaaW.PrintWords Go.Proofs.YtbnkefbcnojdgaaW.PrintLast Go.Proofs.YtbnkefbcnojdgaaW.PrintMore
set_option linter.unusedSimpArgs false
set_option linter.unusedVariables false
theorem within_eq (a b c : Int) : impl_within.f a b c = some (decide (b ≤ a) && decide (a ≤ c)) := by
  unfold impl_within.f
  by_cases h : b ≤ a <;> simp [h]

theorem l01In_eq (a b c : Int) : spec_l01In.f a b c = some (decide (b ≤ a) && decide (a ≤ c)) := by
  unfold spec_l01In.f
  by_cases h : b ≤ a <;> simp [h]

theorem eight {p : Int} (h1 : 1 ≤ p) (h2 : p ≤ 8) : p = 1 ∨ p = 2 ∨ p = 3 ∨ p = 4 ∨ p = 5 ∨ p = 6 ∨ p = 7 ∨ p = 8 := by omega
theorem both_is (p l r b : Int) : ∃ v, impl_IsField.f p l r b = some v ∧ spec_l05Is.f p l r b = some v ∧ (v = true → 1 ≤ p ∧ p ≤ 8) := by
  unfold impl_IsField.f spec_l05Is.f
  simp only [within_eq, l01In_eq, impl_pairs.f, Option.bind_some]
  by_cases h : (decide (1 ≤ p) && decide (p ≤ 8)) = true
  · have hp : 1 ≤ p ∧ p ≤ 8 := by simpa using h
    rw [if_pos h, if_pos h]
    have e1 : IntKind.u64.wrap p = p := by
      rcases eight hp.1 hp.2 with rfl | rfl | rfl | rfl | rfl | rfl | rfl | rfl <;> decide +kernel
    have e2 : IntKind.u64.wrap (wrap64 (Int.tdiv (wrap64 (p * (wrap64 (p - 1)))) 2)) = wrap64 (Int.tdiv (wrap64 (p * (wrap64 (p - 1)))) 2) := by
      rcases eight hp.1 hp.2 with rfl | rfl | rfl | rfl | rfl | rfl | rfl | rfl <;> decide +kernel
    have e3 : 0 ≤ wrap64 (Int.tdiv (wrap64 (p * (wrap64 (p - 1)))) 2) := by
      rcases eight hp.1 hp.2 with rfl | rfl | rfl | rfl | rfl | rfl | rfl | rfl <;> decide +kernel
    have e4 : 0 ≤ p := by omega
    simp only [e1, e2, e3, e4, if_true]
    split
    · split
      · split
        · exact ⟨_, rfl, rfl, fun _ => hp⟩
        · exact ⟨_, rfl, rfl, fun _ => hp⟩
      · exact ⟨_, rfl, rfl, fun _ => hp⟩
    · exact ⟨_, rfl, rfl, fun _ => hp⟩
  · rw [if_neg h, if_neg h]
    exact ⟨_, rfl, rfl, fun e => by simp at e⟩

/-- Where the bit of two points stands. -/
def pj (i j : Int) : Int := wrap64 (wrap64 (Int.tdiv (wrap64 (j * (wrap64 (j - 1)))) 2) + i)
theorem seven {p : Int} (h1 : 0 ≤ p) (h2 : p ≤ 7) : p = 0 ∨ p = 1 ∨ p = 2 ∨ p = 3 ∨ p = 4 ∨ p = 5 ∨ p = 6 ∨ p = 7 := by omega
theorem pj_pos (i j : Int) (h0 : 0 ≤ i) (h1 : i < j) (h2 : j ≤ 7) : 0 ≤ pj i j ∧ pj i j ≤ 100 := by
  have hw : ∀ x : Int, 0 ≤ x → x ≤ 100 → wrap64 x = x := fun x a b => by unfold wrap64; omega
  unfold pj
  have e : ∃ q : Int, Int.tdiv (wrap64 (j * (wrap64 (j - 1)))) 2 = q ∧ 0 ≤ q ∧ q ≤ 28 := by
    rcases seven (p := j) (by omega) h2 with rfl | rfl | rfl | rfl | rfl | rfl | rfl | rfl <;> first | exact ⟨_, rfl, by decide +kernel, by decide +kernel⟩ | omega
  obtain ⟨q, hq, q0, q1⟩ := e
  rw [hq, hw q q0 (by omega), hw _ (by omega) (by omega)]
  omega
theorem u64_small (x : Int) (h0 : 0 ≤ x) (h1 : x ≤ 100) : IntKind.u64.wrap x = x := by
  simp [IntKind.wrap, IntKind.bits]; omega
theorem joined_eq (p l r b i j : Int) (h0 : 0 ≤ mn i j) (h1 : mn i j < mx i j) (h2 : mx i j ≤ 7) :
    impl_Field_joins.f p l r b i j = some (Go.bits .and .i64 (shr .i64 l (pj (mn i j) (mx i j))) 1 == 1) ∧ spec_l05Joined.f p l r b i j = some (Go.bits .and .i64 (shr .i64 l (pj (mn i j) (mx i j))) 1 == 1) := by
  have hp := pj_pos _ _ h0 h1 h2
  have hu := u64_small _ hp.1 hp.2
  unfold impl_Field_joins.f spec_l05Joined.f
  simp only [impl_pairs.f, Option.bind_some]
  have hn : ¬ (mn i j = mx i j) := by omega
  rw [if_neg hn]
  unfold pj at hp hu ⊢
  rw [hu, if_pos hp.1]
  exact ⟨rfl, rfl⟩

theorem first2_eq (a b : Bool) (m : Nat) : impl_first.f (m + 3) [(⟨a, 1⟩ : S71), ⟨b, 2⟩] = some (if a = true then (if b = true then 0 else 2) else 1) := by
  unfold impl_first.f
  cases a <;> cases b <;> simp [impl_first.l0, rd_T71, wrap64]

theorem FnExactAreJoined : ∀ (a0_0 : Int) (a0_1 : Int) (a0_2 : Int) (a0_3 : Int) (a1 : Int) (a2 : Int), (Lit.int .i64 a0_0).wf = true → (Lit.int .i64 a0_1).wf = true → (Lit.int .i64 a0_2).wf = true → (Lit.int .i64 a0_3).wf = true → (Lit.int .i64 a1).wf = true → (Lit.int .i64 a2).wf = true → ∃ k, laws_FnExactAreJoined.f k a0_0 a0_1 a0_2 a0_3 a1 a2 = some true := by
  intro p l r b i j _ _ _ _ wi wj
  obtain ⟨v, h1, h2, hv⟩ := both_is p l r b
  refine ⟨4, ?_⟩
  unfold laws_FnExactAreJoined.f laws_toField.f spec_AreJoined.f impl_AreJoined.f
  simp only [Option.bind_some, within_eq, l01In_eq, h2, impl_AreJoined.j0, h1]
  have f3 : ∀ a c : Bool, impl_first.f 3 [(⟨a, 1⟩ : S71), ⟨c, 2⟩] = some (if a = true then (if c = true then 0 else 2) else 1) := fun a c => first2_eq a c 0
  simp only [f3, Option.bind_some]
  cases v with
  | false => simp only [Bool.false_eq_true, if_false, Option.bind_some]; split <;> (try split) <;> first | (simp; done) | (exfalso; omega)
  | true =>
    obtain ⟨hp1, hp2⟩ := hv rfl
    have hwp : wrap64 (p - 1) = p - 1 := by unfold wrap64; omega
    rw [hwp]
    by_cases hi : (decide (0 ≤ i) && decide (i ≤ p - 1)) = true
    · by_cases hj : (decide (0 ≤ j) && decide (j ≤ p - 1)) = true
      · by_cases he : i = j
        · subst he
          simp [hi]
        · have hi' : 0 ≤ i ∧ i ≤ p - 1 := by simpa using hi
          have hj' : 0 ≤ j ∧ j ≤ p - 1 := by simpa using hj
          have hb : (i != j) = true := by simpa using he
          have hm : 0 ≤ mn i j ∧ mn i j < mx i j ∧ mx i j ≤ 7 := by unfold mn mx; split <;> split <;> omega
          obtain ⟨q1, q2⟩ := joined_eq p l r b i j hm.1 hm.2.1 hm.2.2
          simp [hi, hj, hb, he, q1, q2]
      · simp [hi, hj]
    · simp [hi]

end Go.Proofs.Ytbnkefbcnojdgaa.Pure
