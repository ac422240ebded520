/- For every b the program's CountEdges returns what the reference's CountEdges returns: the law returns true (no condition). -/
import Derived.Test.YtbnkefbcnojdgaaPFnExactCountEdgesx2
namespace Go.Proofs.Ytbnkefbcnojdgaa.Pure
open Go.RowKit Go.Proofs.Ytbnkefbcnojdgaa.PFnExactCountEdges Go.Proofs.YtbnkefbcnojdgaaW.PrintWords Go.Proofs.YtbnkefbcnojdgaaW.PrintLast Go.Proofs.YtbnkefbcnojdgaaW.PrintMore
set_option linter.unusedSimpArgs false
set_option linter.unusedVariables false
/-- What a position of boxes is, in plain numbers. -/
def isB (w h e : Int) : Bool := decide ((1 ≤ w ∧ w ≤ 3) ∧ (1 ≤ h ∧ h ≤ 3) ∧ 0 ≤ e ∧ e < 2 ^ (w * (h + 1) + h * (w + 1)).toNat)
theorem three {w : Int} (h : 1 ≤ w ∧ w ≤ 3) : w = 1 ∨ w = 2 ∨ w = 3 := by omega

theorem l01In_eq (a b c : Int) : spec_l01In.f a b c = some (decide (b ≤ a) && decide (a ≤ c)) := by
  unfold spec_l01In.f
  by_cases h : b ≤ a <;> simp [h]

theorem l03Is_eq (w h e : Int) : spec_l03Is.f w h e = some (isB w h e) := by
  unfold spec_l03Is.f isB
  simp only [l01In_eq, Option.bind_some]
  by_cases h1 : 1 ≤ w ∧ w ≤ 3
  · by_cases h2 : 1 ≤ h ∧ h ≤ 3
    · by_cases h3 : e ≥ 0
      · have d1 : (decide (1 ≤ w) && decide (w ≤ 3)) = true := by simp [h1.1, h1.2]
        have d2 : (decide (1 ≤ h) && decide (h ≤ 3)) = true := by simp [h2.1, h2.2]
        rw [if_pos d1, if_pos d2, if_pos h3]
        rcases three h1 with rfl | rfl | rfl <;> rcases three h2 with rfl | rfl | rfl <;>
          (unfold spec_l03Count.f; simp only [Option.bind_some]; rw [if_pos (by decide +kernel)]; simp only [Option.some.injEq]; rw [decide_eq_decide]; simp [shl, h3, wrap64, IntKind.wrap, IntKind.bits] <;> omega)
      · have d1 : (decide (1 ≤ w) && decide (w ≤ 3)) = true := by simp [h1.1, h1.2]
        have d2 : (decide (1 ≤ h) && decide (h ≤ 3)) = true := by simp [h2.1, h2.2]
        rw [if_pos d1, if_pos d2, if_neg h3]
        simp; omega
    · have d2 : ¬ ((decide (1 ≤ h) && decide (h ≤ 3)) = true) := by simpa using h2
      have d1 : (decide (1 ≤ w) && decide (w ≤ 3)) = true := by simp [h1.1, h1.2]
      rw [if_pos d1, if_neg d2]
      simp; omega
  · have d1 : ¬ ((decide (1 ≤ w) && decide (w ≤ 3)) = true) := by simpa using h1
    rw [if_neg d1]
    simp; omega

theorem within_eq (a b c : Int) : impl_within.f a b c = some (decide (b ≤ a) && decide (a ≤ c)) := by
  unfold impl_within.f
  by_cases h : b ≤ a <;> simp [h]

theorem IsBoxes_eq (w h e : Int) : impl_IsBoxes.f w h e = some (isB w h e) := by
  unfold impl_IsBoxes.f isB
  simp only [within_eq, Option.bind_some]
  by_cases h1 : 1 ≤ w ∧ w ≤ 3
  · by_cases h2 : 1 ≤ h ∧ h ≤ 3
    · have d1 : (decide (1 ≤ w) && decide (w ≤ 3)) = true := by simp [h1.1, h1.2]
      have d2 : (decide (1 ≤ h) && decide (h ≤ 3)) = true := by simp [h2.1, h2.2]
      rw [if_pos d1, if_pos d2]
      rcases three h1 with rfl | rfl | rfl <;> rcases three h2 with rfl | rfl | rfl <;>
        (unfold impl_Boxes_edges.f; simp only [Option.bind_some]; rw [if_pos (by decide +kernel)]; rw [Option.some.injEq, Bool.eq_iff_iff]; simp [shl, wrap64, IntKind.wrap, IntKind.bits] <;> omega)
    · have d2 : ¬ ((decide (1 ≤ h) && decide (h ≤ 3)) = true) := by simpa using h2
      have d1 : (decide (1 ≤ w) && decide (w ≤ 3)) = true := by simp [h1.1, h1.2]
      rw [if_pos d1, if_neg d2]
      simp; omega
  · have d1 : ¬ ((decide (1 ≤ w) && decide (w ≤ 3)) = true) := by simpa using h1
    rw [if_neg d1]
    simp; omega

theorem FnExactCountEdges : ∀ (a0_0 : Int) (a0_1 : Int) (a0_2 : Int), (Lit.int .i64 a0_0).wf = true → (Lit.int .i64 a0_1).wf = true → (Lit.int .i64 a0_2).wf = true → laws_FnExactCountEdges.f a0_0 a0_1 a0_2 = some true := by
  intro a0_0 a0_1 a0_2 _ _ _
  unfold laws_FnExactCountEdges.f laws_toBoxes.f
  simp only [Option.bind_some]
  unfold spec_CountEdges.f impl_CountEdges.f
  rw [l03Is_eq, IsBoxes_eq]
  simp only [Option.bind_some]
  by_cases hb : isB a0_0 a0_1 a0_2 = true
  · rw [if_pos hb, if_pos hb]
    have hb' := hb
    simp only [isB, decide_eq_true_eq] at hb'
    obtain ⟨h1, h2, _⟩ := hb'
    rcases three h1 with rfl | rfl | rfl <;> rcases three h2 with rfl | rfl | rfl <;> simp [spec_l03Count.f, impl_Boxes_edges.f, wrap64]
  · rw [if_neg hb, if_neg hb]; rfl

end Go.Proofs.Ytbnkefbcnojdgaa.Pure
