/- For every b and i the program's EdgesOfBox returns what the reference's EdgesOfBox returns, in memory of its own: the law returns true (no condition). -/
import Derived.Test.YtbnkefbcnojdgaaPFnExactEdgesOfBoxx4
namespace Go.Proofs.Ytbnkefbcnojdgaa.Pure
open Go.RowKit Go.Proofs.Ytbnkefbcnojdgaa.PFnExactEdgesOfBox Go.Proofs.YtbnkefbcnojdgaaW.PrintWords Go.Proofs.YtbnkefbcnojdgaaW.PrintLast Go.Proofs.YtbnkefbcnojdgaaW.PrintMore
set_option linter.unusedSimpArgs false
set_option linter.unusedVariables false
/-- What a position of boxes is, in plain numbers. -/
def isB (w h e : Int) : Bool := decide ((1 ≤ w ∧ w ≤ 3) ∧ (1 ≤ h ∧ h ≤ 3) ∧ 0 ≤ e ∧ e < 2 ^ (w * (h + 1) + h * (w + 1)).toNat)
theorem three {w : Int} (h : 1 ≤ w ∧ w ≤ 3) : w = 1 ∨ w = 2 ∨ w = 3 := by omega

theorem l01In_eq (a b c : Int) : spec_l01In.f a b c = some (decide (b ≤ a) && decide (a ≤ c)) := by
  unfold spec_l01In.f
  by_cases h : b ≤ a <;> simp [h]

theorem l03Is_eq (w h e : Int) : spec_l03Is.f w h e = some (isB w h e) := by
  unfold spec_l03Is.f isB
  simp only [l01In_eq, Option.bind_some]
  by_cases h1 : 1 ≤ w ∧ w ≤ 3
  · by_cases h2 : 1 ≤ h ∧ h ≤ 3
    · by_cases h3 : e ≥ 0
      · have d1 : (decide (1 ≤ w) && decide (w ≤ 3)) = true := by simp [h1.1, h1.2]
        have d2 : (decide (1 ≤ h) && decide (h ≤ 3)) = true := by simp [h2.1, h2.2]
        rw [if_pos d1, if_pos d2, if_pos h3]
        rcases three h1 with rfl | rfl | rfl <;> rcases three h2 with rfl | rfl | rfl <;>
          (unfold spec_l03Count.f; simp only [Option.bind_some]; rw [if_pos (by decide +kernel)]; simp only [Option.some.injEq]; rw [decide_eq_decide]; simp [shl, h3, wrap64, IntKind.wrap, IntKind.bits] <;> omega)
      · have d1 : (decide (1 ≤ w) && decide (w ≤ 3)) = true := by simp [h1.1, h1.2]
        have d2 : (decide (1 ≤ h) && decide (h ≤ 3)) = true := by simp [h2.1, h2.2]
        rw [if_pos d1, if_pos d2, if_neg h3]
        simp; omega
    · have d2 : ¬ ((decide (1 ≤ h) && decide (h ≤ 3)) = true) := by simpa using h2
      have d1 : (decide (1 ≤ w) && decide (w ≤ 3)) = true := by simp [h1.1, h1.2]
      rw [if_pos d1, if_neg d2]
      simp; omega
  · have d1 : ¬ ((decide (1 ≤ w) && decide (w ≤ 3)) = true) := by simpa using h1
    rw [if_neg d1]
    simp; omega

theorem within_eq (a b c : Int) : impl_within.f a b c = some (decide (b ≤ a) && decide (a ≤ c)) := by
  unfold impl_within.f
  by_cases h : b ≤ a <;> simp [h]

theorem IsBoxes_eq (w h e : Int) : impl_IsBoxes.f w h e = some (isB w h e) := by
  unfold impl_IsBoxes.f isB
  simp only [within_eq, Option.bind_some]
  by_cases h1 : 1 ≤ w ∧ w ≤ 3
  · by_cases h2 : 1 ≤ h ∧ h ≤ 3
    · have d1 : (decide (1 ≤ w) && decide (w ≤ 3)) = true := by simp [h1.1, h1.2]
      have d2 : (decide (1 ≤ h) && decide (h ≤ 3)) = true := by simp [h2.1, h2.2]
      rw [if_pos d1, if_pos d2]
      rcases three h1 with rfl | rfl | rfl <;> rcases three h2 with rfl | rfl | rfl <;>
        (unfold impl_Boxes_edges.f; simp only [Option.bind_some]; rw [if_pos (by decide +kernel)]; rw [Option.some.injEq, Bool.eq_iff_iff]; simp [shl, wrap64, IntKind.wrap, IntKind.bits] <;> omega)
    · have d2 : ¬ ((decide (1 ≤ h) && decide (h ≤ 3)) = true) := by simpa using h2
      have d1 : (decide (1 ≤ w) && decide (w ≤ 3)) = true := by simp [h1.1, h1.2]
      rw [if_pos d1, if_neg d2]
      simp; omega
  · have d1 : ¬ ((decide (1 ≤ w) && decide (w ≤ 3)) = true) := by simpa using h1
    rw [if_neg d1]
    simp; omega

theorem first2_eq (a b : Bool) (m : Nat) : impl_first.f (m + 3) [(⟨a, 1⟩ : S71), ⟨b, 2⟩] = some (if a = true then (if b = true then 0 else 2) else 1) := by
  unfold impl_first.f
  cases a <;> cases b <;> simp [impl_first.l0, rd_T71, wrap64]

theorem wrap_small {i : Int} (h0 : -9223372036854775808 ≤ i) (h : i < 9223372036854775808) : wrap64 i = i := by
  unfold wrap64
  omega
theorem eqI_loop (xs : List Int) (hn : xs.length < 4611686018427387904) (d : Nat) : ∀ (k : Nat) (i : Int), 0 ≤ i → i ≤ xs.length → (xs.length : Int) - i = d → d < k → laws_eqInt64S.l0 k xs xs i = some true := by
  induction d with
  | zero =>
    intro k i h0 h1 hd hk
    obtain ⟨k, rfl⟩ : ∃ m, k = m + 1 := ⟨k - 1, by omega⟩
    simp only [laws_eqInt64S.l0]; rw [if_neg (by omega)]
  | succ d ih =>
    intro k i h0 h1 hd hk
    obtain ⟨k, rfl⟩ : ∃ m, k = m + 1 := ⟨k - 1, by omega⟩
    simp only [laws_eqInt64S.l0]; rw [if_pos (by omega), if_pos h0, if_pos (by omega), if_true, wrap_small (by omega) (by omega)]
    exact ih k (i + 1) (by omega) (by omega) (by omega) (by omega)
theorem eqI_self (xs : List Int) (hn : xs.length < 4611686018427387904) (m : Nat) : laws_eqInt64S.f (xs.length + 1 + m) xs xs = some true := by
  unfold laws_eqInt64S.f
  rw [if_pos rfl]
  exact eqI_loop xs hn xs.length _ 0 (by omega) (by omega) (by omega) (by omega)
/-- The marks that the law lays: a, a + 1, .. -/
def marks (a : Int) (n : Nat) : List Int := (List.range n).map fun (i : Nat) => a + (i : Int)
theorem marks_length (a : Int) (n : Nat) : (marks a n).length = n := by simp [marks]
theorem mark_loop (xs : List Int) (a : Int) (ha : 0 ≤ a) (hn : a + xs.length < 4611686018427387904) (d : Nat) : ∀ (k i : Nat), i + d = xs.length → d < k →
    laws_markInt64S.l0 k (marks a i ++ xs.drop i) (a + i) i = some (a + xs.length, marks a xs.length) := by
  induction d with
  | zero =>
    intro k i hd hk
    obtain ⟨k, rfl⟩ : ∃ m, k = m + 1 := ⟨k - 1, by omega⟩
    have hi : i = xs.length := by omega
    subst hi
    simp only [laws_markInt64S.l0]
    rw [if_neg (by simp [marks_length])]
    simp
  | succ d ih =>
    intro k i hd hk
    obtain ⟨k, rfl⟩ : ∃ m, k = m + 1 := ⟨k - 1, by omega⟩
    simp only [laws_markInt64S.l0]
    rw [if_pos (by simp only [List.length_append, marks_length, List.length_drop]; omega), if_pos (by omega), wrap_small (by omega) (by omega), wrap_small (by omega) (by omega)]
    have hs : (marks a i ++ xs.drop i).set ((i : Int)).toNat (a + i) = marks a (i + 1) ++ xs.drop (i + 1) := by
      have hl : i < xs.length := by omega
      have e1 : ((i : Int)).toNat = (marks a i).length := by rw [marks_length]; omega
      rw [List.drop_eq_getElem_cons hl, e1, List.set_append_right _ _ (Nat.le_refl _)]
      simp only [Nat.sub_self, List.set_cons_zero]
      simp [marks, List.range_succ]
    rw [hs]
    have := ih k (i + 1) (by omega) (by omega)
    have e2 : a + ((i + 1 : Nat) : Int) = a + i + 1 := by omega
    have e3 : ((i + 1 : Nat) : Int) = (i : Int) + 1 := by omega
    rw [e2, e3] at this
    exact this
theorem mark_eq (xs : List Int) (a : Int) (ha : 0 ≤ a) (hn : a + xs.length < 4611686018427387904) (m : Nat) : laws_markInt64S.f (xs.length + 1 + m) xs a = some (a + xs.length, marks a xs.length) := by
  unfold laws_markInt64S.f
  have := mark_loop xs a ha hn xs.length (xs.length + 1 + m) 0 (by omega) (by omega)
  simpa [marks] using this
theorem held_loop (n : Nat) (a : Int) (ha : 0 ≤ a) (hn : a + n < 4611686018427387904) (d : Nat) : ∀ (k i : Nat), i + d = n → d < k →
    laws_heldInt64S.l0 k (marks a n) (a + i) i = some (a + n) := by
  induction d with
  | zero =>
    intro k i hd hk
    obtain ⟨k, rfl⟩ : ∃ m, k = m + 1 := ⟨k - 1, by omega⟩
    simp only [laws_heldInt64S.l0]
    rw [if_neg (by rw [marks_length]; omega)]
    have : i = n := by omega
    rw [this]
  | succ d ih =>
    intro k i hd hk
    obtain ⟨k, rfl⟩ : ∃ m, k = m + 1 := ⟨k - 1, by omega⟩
    simp only [laws_heldInt64S.l0]
    have hr : rd (marks a n) (i : Int) = a + i := by
      have hl : i < n := by omega
      simp [rd, marks, hl]
    rw [if_pos (by rw [marks_length]; omega), if_pos (by omega), if_pos hr, wrap_small (by omega) (by omega), wrap_small (by omega) (by omega)]
    have := ih k (i + 1) (by omega) (by omega)
    have e2 : a + ((i + 1 : Nat) : Int) = a + i + 1 := by omega
    have e3 : ((i + 1 : Nat) : Int) = (i : Int) + 1 := by omega
    rw [e2, e3] at this
    exact this
theorem held_eq (n : Nat) (a : Int) (ha : 0 ≤ a) (hn : a + n < 4611686018427387904) (m : Nat) : laws_heldInt64S.f (n + 1 + m) (marks a n) a = some (a + n) := by
  unfold laws_heldInt64S.f
  have := held_loop n a ha hn n (n + 1 + m) 0 (by omega) (by omega)
  simpa using this
theorem ev_from {α : Type} {g : Nat → Option α} {r : α} (n : Nat) (h : ∀ m, g (n + 1 + m) = some r) : Ev g r := ⟨n + 1, fun k hk => by
  have := h (k - (n + 1))
  rw [show n + 1 + (k - (n + 1)) = k by omega] at this
  exact this⟩
theorem eqI_ev (xs : List Int) (hn : xs.length < 4611686018427387904) : Ev (fun k => laws_eqInt64S.f k xs xs) true := ev_from xs.length (eqI_self xs hn)
theorem mark_ev (xs : List Int) (a : Int) (ha : 0 ≤ a) (hn : a + xs.length < 4611686018427387904) : Ev (fun k => laws_markInt64S.f k xs a) (a + (xs.length : Int), marks a xs.length) := ev_from xs.length (mark_eq xs a ha hn)
theorem held_ev (n : Nat) (a : Int) (ha : 0 ≤ a) (hn : a + n < 4611686018427387904) : Ev (fun k => laws_heldInt64S.f k (marks a n) a) (a + (n : Int)) := ev_from n (held_eq n a ha hn)

theorem FnExactEdgesOfBox : ∀ (a0_0 : Int) (a0_1 : Int) (a0_2 : Int) (a1 : Int), (Lit.int .i64 a0_0).wf = true → (Lit.int .i64 a0_1).wf = true → (Lit.int .i64 a0_2).wf = true → (Lit.int .i64 a1).wf = true → ∃ k, laws_FnExactEdgesOfBox.f k a0_0 a0_1 a0_2 a1 = some true := by
  intro w h e i _ _ _ _
  -- what both return
  have key : ∃ r c, r.length ≤ 4 ∧ spec_EdgesOfBox.f w h e i = some (r, c) ∧ ∀ m, impl_EdgesOfBox.f (m + 3) w h e i = some (r, c) := by
    unfold spec_EdgesOfBox.f impl_EdgesOfBox.f spec_l03Box.f impl_boxesCode.f
    simp only [l03Is_eq, IsBoxes_eq, l01In_eq, within_eq, impl_Boxes_boxes.f, Option.bind_some, first2_eq]
    by_cases hb : isB w h e = true
    · simp only [hb, if_true]
      by_cases hi : (decide (0 ≤ i) && decide (i ≤ wrap64 (wrap64 (w * h) - 1))) = true
      · simp only [hi, if_true]
        have hb' := hb
        simp only [isB, decide_eq_true_eq] at hb'
        obtain ⟨h1, h2, _⟩ := hb'
        simp only [Bool.and_eq_true, decide_eq_true_eq] at hi
        have hb9 : i ≤ 8 := by
          have := hi.2
          rcases three h1 with rfl | rfl | rfl <;> rcases three h2 with rfl | rfl | rfl <;> simp [wrap64] at this <;> omega
        have h0 := hi.1
        unfold spec_l03Around.f impl_Boxes_around.f
        have hw0 : ¬ w = 0 := by omega
        have e1 : wrap64 (wrap64 (wrap64 (Int.tdiv i w) * w) + Int.tmod i w) = i := by
          rcases three h1 with rfl | rfl | rfl <;> simp [wrap64, Int.tdiv_eq_ediv_of_nonneg h0, Int.tmod_eq_emod_of_nonneg h0] <;> omega
        have e2 : wrap64 (wrap64 (wrap64 (wrap64 (Int.tdiv i w) + 1) * w) + Int.tmod i w) = wrap64 (i + w) := by
          rcases three h1 with rfl | rfl | rfl <;> simp [wrap64, Int.tdiv_eq_ediv_of_nonneg h0, Int.tmod_eq_emod_of_nonneg h0] <;> omega
        simp only [if_neg hw0, e1, e2, Option.bind_some]
        exact ⟨_, _, by simp, rfl, fun _ => rfl⟩
      · simp only [hi]
        exact ⟨[], 2, by simp, rfl, fun _ => rfl⟩
    · simp only [hb]
      exact ⟨[], 1, by simp, rfl, fun _ => rfl⟩
  obtain ⟨r, c, hl, hs, hi⟩ := key
  obtain ⟨K1, k1⟩ := eqI_ev r (by omega)
  obtain ⟨K2, k2⟩ := mark_ev r 1 (by omega) (by omega)
  obtain ⟨K3, k3⟩ := held_ev r.length 1 (by omega) (by omega)
  have hi2 : ∀ k, 3 ≤ k → impl_EdgesOfBox.f k w h e i = some (r, c) := fun k hk => by
    have := hi (k - 3)
    rw [show k - 3 + 3 = k by omega] at this
    exact this
  obtain ⟨K, hK⟩ : ∃ K, K = K1 + K2 + K3 + 3 := ⟨_, rfl⟩
  have hn : ¬ ((1 : Int) + (r.length : Int) < 0) := by omega
  have b1 := k1 (K + 2) (by omega)
  have b2 := k1 (K + 1) (by omega)
  have c1 := k2 (K + 1) (by omega)
  have d1 := k3 (K + 1) (by omega)
  have d2 := k3 K (by omega)
  have i1 := hi2 (K + 2) (by omega)
  have i2 := hi2 (K + 1) (by omega)
  refine ⟨K + 2, ?_⟩
  simp only [laws_FnExactEdgesOfBox.f, laws_toBoxes.f, Option.bind_some, hs, i1, i2, b1, b2, c1, d1, d2, if_true, if_neg hn, laws_FnExactEdgesOfBox.j0, laws_FnExactEdgesOfBox.j1, bne_self_eq_false, Bool.false_eq_true, if_false]

end Go.Proofs.Ytbnkefbcnojdgaa.Pure
