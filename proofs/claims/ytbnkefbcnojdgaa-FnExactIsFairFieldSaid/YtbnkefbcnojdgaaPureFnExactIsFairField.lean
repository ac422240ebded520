/- For every f and game the program's IsFairField returns what the reference's IsFairField returns: the law returns true (no condition). -/
import Derived.Test.YtbnkefbcnojdgaaPXx11
namespace Go.Proofs.Ytbnkefbcnojdgaa.Pure
open Go.RowKit Go.Proofs.Ytbnkefbcnojdgaa.PX Go.Proofs.YtbnkefbcnojdgaaW.PrintWords Go.Proofs.YtbnkefbcnojdgaaW.PrintLast Go.Proofs.YtbnkefbcnojdgaaW.PrintMore
set_option linter.unusedSimpArgs false
set_option linter.unusedVariables false
theorem within_eq (a b c : Int) : impl_within.f a b c = some (decide (b ≤ a) && decide (a ≤ c)) := by
  unfold impl_within.f
  by_cases h : b ≤ a <;> simp [h]

theorem l01In_eq (a b c : Int) : spec_l01In.f a b c = some (decide (b ≤ a) && decide (a ≤ c)) := by
  unfold spec_l01In.f
  by_cases h : b ≤ a <;> simp [h]

theorem eight {p : Int} (h1 : 1 ≤ p) (h2 : p ≤ 8) : p = 1 ∨ p = 2 ∨ p = 3 ∨ p = 4 ∨ p = 5 ∨ p = 6 ∨ p = 7 ∨ p = 8 := by omega
theorem both_is (p l r b : Int) : ∃ v, impl_IsField.f p l r b = some v ∧ spec_l05Is.f p l r b = some v ∧ (v = true → 1 ≤ p ∧ p ≤ 8) := by
  unfold impl_IsField.f spec_l05Is.f
  simp only [within_eq, l01In_eq, impl_pairs.f, Option.bind_some]
  by_cases h : (decide (1 ≤ p) && decide (p ≤ 8)) = true
  · have hp : 1 ≤ p ∧ p ≤ 8 := by simpa using h
    rw [if_pos h, if_pos h]
    have e1 : IntKind.u64.wrap p = p := by
      rcases eight hp.1 hp.2 with rfl | rfl | rfl | rfl | rfl | rfl | rfl | rfl <;> decide +kernel
    have e2 : IntKind.u64.wrap (wrap64 (Int.tdiv (wrap64 (p * (wrap64 (p - 1)))) 2)) = wrap64 (Int.tdiv (wrap64 (p * (wrap64 (p - 1)))) 2) := by
      rcases eight hp.1 hp.2 with rfl | rfl | rfl | rfl | rfl | rfl | rfl | rfl <;> decide +kernel
    have e3 : 0 ≤ wrap64 (Int.tdiv (wrap64 (p * (wrap64 (p - 1)))) 2) := by
      rcases eight hp.1 hp.2 with rfl | rfl | rfl | rfl | rfl | rfl | rfl | rfl <;> decide +kernel
    have e4 : 0 ≤ p := by omega
    simp only [e1, e2, e3, e4, if_true]
    split
    · split
      · split
        · exact ⟨_, rfl, rfl, fun _ => hp⟩
        · exact ⟨_, rfl, rfl, fun _ => hp⟩
      · exact ⟨_, rfl, rfl, fun _ => hp⟩
    · exact ⟨_, rfl, rfl, fun _ => hp⟩
  · rw [if_neg h, if_neg h]
    exact ⟨_, rfl, rfl, fun e => by simp at e⟩

/-- Where the bit of two points stands. -/
def pj (i j : Int) : Int := wrap64 (wrap64 (Int.tdiv (wrap64 (j * (wrap64 (j - 1)))) 2) + i)
theorem seven {p : Int} (h1 : 0 ≤ p) (h2 : p ≤ 7) : p = 0 ∨ p = 1 ∨ p = 2 ∨ p = 3 ∨ p = 4 ∨ p = 5 ∨ p = 6 ∨ p = 7 := by omega
theorem pj_pos (i j : Int) (h0 : 0 ≤ i) (h1 : i < j) (h2 : j ≤ 7) : 0 ≤ pj i j ∧ pj i j ≤ 100 := by
  have hw : ∀ x : Int, 0 ≤ x → x ≤ 100 → wrap64 x = x := fun x a b => by unfold wrap64; omega
  unfold pj
  have e : ∃ q : Int, Int.tdiv (wrap64 (j * (wrap64 (j - 1)))) 2 = q ∧ 0 ≤ q ∧ q ≤ 28 := by
    rcases seven (p := j) (by omega) h2 with rfl | rfl | rfl | rfl | rfl | rfl | rfl | rfl <;> first | exact ⟨_, rfl, by decide +kernel, by decide +kernel⟩ | omega
  obtain ⟨q, hq, q0, q1⟩ := e
  rw [hq, hw q q0 (by omega), hw _ (by omega) (by omega)]
  omega
theorem u64_small (x : Int) (h0 : 0 ≤ x) (h1 : x ≤ 100) : IntKind.u64.wrap x = x := by
  simp [IntKind.wrap, IntKind.bits]; omega
theorem joined_eq (p l r b i j : Int) (h0 : 0 ≤ mn i j) (h1 : mn i j < mx i j) (h2 : mx i j ≤ 7) :
    impl_Field_joins.f p l r b i j = some (Go.bits .and .i64 (shr .i64 l (pj (mn i j) (mx i j))) 1 == 1) ∧ spec_l05Joined.f p l r b i j = some (Go.bits .and .i64 (shr .i64 l (pj (mn i j) (mx i j))) 1 == 1) := by
  have hp := pj_pos _ _ h0 h1 h2
  have hu := u64_small _ hp.1 hp.2
  unfold impl_Field_joins.f spec_l05Joined.f
  simp only [impl_pairs.f, Option.bind_some]
  have hn : ¬ (mn i j = mx i j) := by omega
  rw [if_neg hn]
  unfold pj at hp hu ⊢
  rw [hu, if_pos hp.1]
  exact ⟨rfl, rfl⟩

/-- The colour of a point. -/
def col (r b i : Int) : Int := wrap64 ((Go.bits .and .i64 (shr .i64 r i) 1) + (wrap64 (2 * (Go.bits .and .i64 (shr .i64 b i) 1))))
theorem col_eq (p l r b i : Int) (h : 0 ≤ i) : impl_Field_colour.f p l r b i = some (col r b i) := by
  unfold impl_Field_colour.f col
  rw [if_pos h]
theorem bit_range (x : Int) : Go.bits .and .i64 x 1 = 0 ∨ Go.bits .and .i64 x 1 = 1 := by
  have h : (BitVec.ofInt IntKind.i64.bits x &&& BitVec.ofInt IntKind.i64.bits 1).toNat = x.toNat % 2 ∨ (BitVec.ofInt IntKind.i64.bits x &&& BitVec.ofInt IntKind.i64.bits 1).toNat < 2 := by
    right
    rw [BitVec.toNat_and]
    have e : (BitVec.ofInt IntKind.i64.bits 1).toNat = 1 := by decide +kernel
    rw [e, Nat.and_one_is_mod]
    exact Nat.mod_lt _ (by decide)
  have h2 : (BitVec.ofInt IntKind.i64.bits x &&& BitVec.ofInt IntKind.i64.bits 1).toNat = 0 ∨ (BitVec.ofInt IntKind.i64.bits x &&& BitVec.ofInt IntKind.i64.bits 1).toNat = 1 := by
    have e : (BitVec.ofInt IntKind.i64.bits 1).toNat = 1 := by decide +kernel
    rw [BitVec.toNat_and, e, Nat.and_one_is_mod]
    omega
  unfold Go.bits
  rcases h2 with e | e <;> simp only [e]
  · left; decide +kernel
  · right; decide +kernel
theorem col_pos (r b i : Int) : 0 ≤ col r b i := by
  unfold col
  rcases bit_range (shr .i64 r i) with e | e <;> rcases bit_range (shr .i64 b i) with e' | e' <;> rw [e, e'] <;> decide +kernel
theorem mnmx {i j : Int} (h : i < j) : mn i j = i ∧ mx i j = j := by
  unfold mn mx
  rw [if_neg (by omega), if_pos h]
  exact ⟨rfl, rfl⟩
theorem fair_inner (g p l r b j : Int) (hj0 : 0 ≤ j) (hj : j ≤ 7)
    (hout : ∃ v, Ev (fun k => impl_Field_isFair.l0 k g p (j + 1) p l r b) v ∧ Ev (fun k => spec_l05Fair.l0 k g (j + 1) p l r b) v) (d : Nat) :
    ∀ i : Int, 0 ≤ i → i + d = j → ∃ v, Ev (fun k => impl_Field_isFair.l1 k g j p j j i p l r b) v ∧ Ev (fun k => spec_l05Fair.l1 k g j i p l r b) v := by
  have hw : wrap64 (j + 1) = j + 1 := by unfold wrap64; omega
  induction d with
  | zero =>
    intro i h0 hd
    obtain ⟨v, h1, h2⟩ := hout
    refine ⟨v, Ev.step (f := fun k => impl_Field_isFair.l0 k g p (j + 1) p l r b) (fun k => ?_) h1, Ev.step (f := fun k => spec_l05Fair.l0 k g (j + 1) p l r b) (fun k => ?_) h2⟩
    · simp only [impl_Field_isFair.l1]; rw [if_neg (by omega), hw]
    · simp only [spec_l05Fair.l1]; rw [if_neg (by omega), hw]
  | succ d ih =>
    intro i h0 hd
    have hlt : i < j := by omega
    obtain ⟨e1, e2⟩ := mnmx hlt
    have hjj := joined_eq p l r b i j (by omega) (by omega) (by omega)
    rw [e1, e2] at hjj
    have wi : wrap64 (i + 1) = i + 1 := by unfold wrap64; omega
    obtain ⟨v, n1, n2⟩ := ih (i + 1) (by omega) (by omega)
    have ui := u64_small i h0 (by omega)
    have uj := u64_small j hj0 (by omega)
    have ci := col_pos r b i
    have cj := col_pos r b j
    -- one round of each
    have s1 : ∀ k, impl_Field_isFair.l1 (k + 1) g j p j j i p l r b = (if (Go.bits .and .i64 (shr .i64 l (pj i j)) 1 == 1) = true then (if col r b i = 0 then (impl_Field_isFair.l1 k g j p j j (i + 1) p l r b) else (if col r b j = 0 then (impl_Field_isFair.l1 k g j p j j (i + 1) p l r b) else (if ((col r b i == col r b j) == (g == 0)) = true then (some false) else (impl_Field_isFair.l1 k g j p j j (i + 1) p l r b)))) else (impl_Field_isFair.l1 k g j p j j (i + 1) p l r b)) := fun k => by
      simp only [impl_Field_isFair.l1]
      rw [if_pos hlt, col_eq _ _ _ _ _ h0, col_eq _ _ _ _ _ hj0, hjj.1, wi]
      rfl
    have s2 : ∀ k, spec_l05Fair.l1 (k + 1) g j i p l r b = (if (Go.bits .and .i64 (shr .i64 l (pj i j)) 1 == 1) = true then (if col r b i > 0 then (if col r b j > 0 then (if ((col r b i == col r b j) == (g == 0)) = true then (some false) else (spec_l05Fair.l1 k g j (i + 1) p l r b)) else (spec_l05Fair.l1 k g j (i + 1) p l r b)) else (spec_l05Fair.l1 k g j (i + 1) p l r b)) else (spec_l05Fair.l1 k g j (i + 1) p l r b)) := fun k => by
      simp only [spec_l05Fair.l1]
      rw [if_pos hlt, hjj.2, wi, ui, uj, if_pos h0, if_pos hj0]
      rfl
    by_cases hb : (Go.bits .and .i64 (shr .i64 l (pj i j)) 1 == 1) = true
    · by_cases c1 : col r b i = 0
      · refine ⟨v, Ev.step (fun k => ?_) n1, Ev.step (fun k => ?_) n2⟩
        · rw [s1, if_pos hb, if_pos c1]
        · rw [s2, if_pos hb, if_neg (by omega)]
      · by_cases c2 : col r b j = 0
        · refine ⟨v, Ev.step (fun k => ?_) n1, Ev.step (fun k => ?_) n2⟩
          · rw [s1, if_pos hb, if_neg c1, if_pos c2]
          · rw [s2, if_pos hb, if_pos (by omega), if_neg (by omega)]
        · by_cases c3 : ((col r b i == col r b j) == (g == 0)) = true
          · refine ⟨false, Ev.step (f := fun _ => some false) (fun k => ?_) (Ev.now false), Ev.step (f := fun _ => some false) (fun k => ?_) (Ev.now false)⟩
            · rw [s1, if_pos hb, if_neg c1, if_neg c2, if_pos c3]
            · rw [s2, if_pos hb, if_pos (by omega), if_pos (by omega), if_pos c3]
          · refine ⟨v, Ev.step (fun k => ?_) n1, Ev.step (fun k => ?_) n2⟩
            · rw [s1, if_pos hb, if_neg c1, if_neg c2, if_neg c3]
            · rw [s2, if_pos hb, if_pos (by omega), if_pos (by omega), if_neg c3]
    · refine ⟨v, Ev.step (fun k => ?_) n1, Ev.step (fun k => ?_) n2⟩
      · rw [s1, if_neg hb]
      · rw [s2, if_neg hb]
theorem fair_outer (g p l r b : Int) (hp : p ≤ 8) (d : Nat) :
    ∀ j : Int, 0 ≤ j → j + d = p → ∃ v, Ev (fun k => impl_Field_isFair.l0 k g p j p l r b) v ∧ Ev (fun k => spec_l05Fair.l0 k g j p l r b) v := by
  induction d with
  | zero =>
    intro j h0 hd
    refine ⟨true, Ev.step (f := fun _ => some true) (fun k => ?_) (Ev.now true), Ev.step (f := fun _ => some true) (fun k => ?_) (Ev.now true)⟩
    · simp only [impl_Field_isFair.l0]; rw [if_neg (by omega)]
    · simp only [spec_l05Fair.l0]; rw [if_neg (by omega)]
  | succ d ih =>
    intro j h0 hd
    have hn := ih (j + 1) (by omega) (by omega)
    obtain ⟨v, n1, n2⟩ := fair_inner g p l r b j h0 (by omega) hn j.toNat 0 (by omega) (by omega)
    refine ⟨v, Ev.step (fun k => ?_) n1, Ev.step (fun k => ?_) n2⟩
    · simp only [impl_Field_isFair.l0]; rw [if_pos (by omega)]
    · simp only [spec_l05Fair.l0]; rw [if_pos (by omega)]
theorem fair_both (g p l r b : Int) (h1 : 1 ≤ p) (hp : p ≤ 8) : ∃ v, Ev (fun k => impl_Field_isFair.f k p l r b g) v ∧ Ev (fun k => spec_l05Fair.f k p l r b g) v := by
  obtain ⟨v, n1, n2⟩ := fair_outer g p l r b hp (p - 1).toNat 1 (by omega) (by omega)
  obtain ⟨v0, m1, m2⟩ := fair_inner g p l r b 0 (by omega) (by omega) ⟨v, n1, n2⟩ 0 0 (by omega) (by omega)
  have hv : v0 = v := by
    obtain ⟨K1, k1⟩ := m2
    obtain ⟨K2, k2⟩ := n2
    have a : spec_l05Fair.l1 (K1 + K2 + 1) g 0 0 p l r b = some v0 := k1 (K1 + K2 + 1) (by omega)
    have b' : spec_l05Fair.l0 (K1 + K2) g 1 p l r b = some v := k2 (K1 + K2) (by omega)
    simp only [spec_l05Fair.l1] at a
    rw [if_neg (by omega)] at a
    have w1 : wrap64 (0 + 1) = 1 := by unfold wrap64; omega
    rw [w1, b'] at a
    exact (Option.some.inj a).symm
  subst hv
  refine ⟨v0, Ev.step (fun k => ?_) m1, n2⟩
  show impl_Field_isFair.l0 (k + 1) g p 0 p l r b = _
  simp only [impl_Field_isFair.l0]; rw [if_pos (by omega)]

theorem first2_eq (a b : Bool) (m : Nat) : impl_first.f (m + 3) [(⟨a, 1⟩ : S71), ⟨b, 2⟩] = some (if a = true then (if b = true then 0 else 2) else 1) := by
  unfold impl_first.f
  cases a <;> cases b <;> simp [impl_first.l0, rd_T71, wrap64]

theorem FnExactIsFairField : ∀ (a0_0 : Int) (a0_1 : Int) (a0_2 : Int) (a0_3 : Int) (a1 : Int), (Lit.int .i64 a0_0).wf = true → (Lit.int .i64 a0_1).wf = true → (Lit.int .i64 a0_2).wf = true → (Lit.int .i64 a0_3).wf = true → (Lit.int .i64 a1).wf = true → ∃ k, laws_FnExactIsFairField.f k a0_0 a0_1 a0_2 a0_3 a1 = some true := by
  intro p l r b g _ _ _ _ _
  obtain ⟨v, h1, h2, hv⟩ := both_is p l r b
  have f3 : ∀ (m : Nat) (a c : Bool), impl_first.f (m + 3) [(⟨a, 1⟩ : S71), ⟨c, 2⟩] = some (if a = true then (if c = true then 0 else 2) else 1) := fun m a c => first2_eq a c m
  have hbit : ∀ x, impl_isBit.f x = some (decide (0 ≤ x) && decide (x ≤ 1)) := fun x => by unfold impl_isBit.f; rw [within_eq]; rfl
  cases v with
  | false =>
    refine ⟨3, ?_⟩
    unfold laws_FnExactIsFairField.f laws_toField.f spec_IsFairField.f impl_IsFairField.f spec_l05Code.f
    simp only [Option.bind_some, h1, h2, hbit, f3 0]
    simp
  | true =>
    obtain ⟨hp1, hp2⟩ := hv rfl
    obtain ⟨u, ⟨K1, k1⟩, ⟨K2, k2⟩⟩ := fair_both g p l r b hp1 hp2
    refine ⟨K1 + K2 + 3, ?_⟩
    have a1 := k1 (K1 + K2 + 3) (by omega)
    have a2 := k2 (K1 + K2 + 3) (by omega)
    unfold laws_FnExactIsFairField.f laws_toField.f spec_IsFairField.f impl_IsFairField.f spec_l05Code.f
    simp only [Option.bind_some, h1, h2, hbit, f3, l01In_eq, if_true]
    by_cases hg : (decide (0 ≤ g) && decide (g ≤ 1)) = true
    · simp only [hg, if_true, a1, a2, Option.bind_some]
      cases u <;> simp
    · simp [hg]

end Go.Proofs.Ytbnkefbcnojdgaa.Pure
