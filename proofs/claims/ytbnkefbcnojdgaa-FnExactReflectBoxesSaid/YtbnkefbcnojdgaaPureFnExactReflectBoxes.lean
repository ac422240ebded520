/- For every b and kind the program's ReflectBoxes returns what the reference's returns: the law returns true (no condition). -/
import Derived.Test.YtbnkefbcnojdgaaPFnExactReflectBoxesx5
import Derived.Test.YtbnkefbcnojdgaaRReflect
namespace Go.Proofs.Ytbnkefbcnojdgaa.Pure
open Go.RowKit Go.Proofs.Ytbnkefbcnojdgaa.PFnExactReflectBoxes Go.Proofs.YtbnkefbcnojdgaaW.PrintWords Go.Proofs.YtbnkefbcnojdgaaW.PrintLast Go.Proofs.YtbnkefbcnojdgaaW.PrintMore
set_option linter.unusedSimpArgs false
set_option linter.unusedVariables false
/-- What a position of boxes is, in plain numbers. -/
def isB (w h e : Int) : Bool := decide ((1 ≤ w ∧ w ≤ 3) ∧ (1 ≤ h ∧ h ≤ 3) ∧ 0 ≤ e ∧ e < 2 ^ (w * (h + 1) + h * (w + 1)).toNat)
theorem three {w : Int} (h : 1 ≤ w ∧ w ≤ 3) : w = 1 ∨ w = 2 ∨ w = 3 := by omega

theorem l01In_eq (a b c : Int) : spec_l01In.f a b c = some (decide (b ≤ a) && decide (a ≤ c)) := by
  unfold spec_l01In.f
  by_cases h : b ≤ a <;> simp [h]

theorem l03Is_eq (w h e : Int) : spec_l03Is.f w h e = some (isB w h e) := by
  unfold spec_l03Is.f isB
  simp only [l01In_eq, Option.bind_some]
  by_cases h1 : 1 ≤ w ∧ w ≤ 3
  · by_cases h2 : 1 ≤ h ∧ h ≤ 3
    · by_cases h3 : e ≥ 0
      · have d1 : (decide (1 ≤ w) && decide (w ≤ 3)) = true := by simp [h1.1, h1.2]
        have d2 : (decide (1 ≤ h) && decide (h ≤ 3)) = true := by simp [h2.1, h2.2]
        rw [if_pos d1, if_pos d2, if_pos h3]
        rcases three h1 with rfl | rfl | rfl <;> rcases three h2 with rfl | rfl | rfl <;>
          (unfold spec_l03Count.f; simp only [Option.bind_some]; rw [if_pos (by decide +kernel)]; simp only [Option.some.injEq]; rw [decide_eq_decide]; simp [shl, h3, wrap64, IntKind.wrap, IntKind.bits] <;> omega)
      · have d1 : (decide (1 ≤ w) && decide (w ≤ 3)) = true := by simp [h1.1, h1.2]
        have d2 : (decide (1 ≤ h) && decide (h ≤ 3)) = true := by simp [h2.1, h2.2]
        rw [if_pos d1, if_pos d2, if_neg h3]
        simp; omega
    · have d2 : ¬ ((decide (1 ≤ h) && decide (h ≤ 3)) = true) := by simpa using h2
      have d1 : (decide (1 ≤ w) && decide (w ≤ 3)) = true := by simp [h1.1, h1.2]
      rw [if_pos d1, if_neg d2]
      simp; omega
  · have d1 : ¬ ((decide (1 ≤ w) && decide (w ≤ 3)) = true) := by simpa using h1
    rw [if_neg d1]
    simp; omega

theorem within_eq (a b c : Int) : impl_within.f a b c = some (decide (b ≤ a) && decide (a ≤ c)) := by
  unfold impl_within.f
  by_cases h : b ≤ a <;> simp [h]

theorem IsBoxes_eq (w h e : Int) : impl_IsBoxes.f w h e = some (isB w h e) := by
  unfold impl_IsBoxes.f isB
  simp only [within_eq, Option.bind_some]
  by_cases h1 : 1 ≤ w ∧ w ≤ 3
  · by_cases h2 : 1 ≤ h ∧ h ≤ 3
    · have d1 : (decide (1 ≤ w) && decide (w ≤ 3)) = true := by simp [h1.1, h1.2]
      have d2 : (decide (1 ≤ h) && decide (h ≤ 3)) = true := by simp [h2.1, h2.2]
      rw [if_pos d1, if_pos d2]
      rcases three h1 with rfl | rfl | rfl <;> rcases three h2 with rfl | rfl | rfl <;>
        (unfold impl_Boxes_edges.f; simp only [Option.bind_some]; rw [if_pos (by decide +kernel)]; rw [Option.some.injEq, Bool.eq_iff_iff]; simp [shl, wrap64, IntKind.wrap, IntKind.bits] <;> omega)
    · have d2 : ¬ ((decide (1 ≤ h) && decide (h ≤ 3)) = true) := by simpa using h2
      have d1 : (decide (1 ≤ w) && decide (w ≤ 3)) = true := by simp [h1.1, h1.2]
      rw [if_pos d1, if_neg d2]
      simp; omega
  · have d1 : ¬ ((decide (1 ≤ w) && decide (w ≤ 3)) = true) := by simpa using h1
    rw [if_neg d1]
    simp; omega

theorem FnExactReflectBoxes : ∀ (a0_0 : Int) (a0_1 : Int) (a0_2 : Int) (a1 : Int), (Lit.int .i64 a0_0).wf = true → (Lit.int .i64 a0_1).wf = true → (Lit.int .i64 a0_2).wf = true → (Lit.int .i64 a1).wf = true → ∃ k, laws_FnExactReflectBoxes.f k a0_0 a0_1 a0_2 a1 = some true := by
  intro w h e t _ _ _ _
  refine Ev.rounds (r := true) ?_
  have law : ∀ v : Int × Int × Int × Int, Ev (fun k => spec_ReflectBoxes.f k w h e t) v → Ev (fun k => impl_ReflectBoxes.f k w h e t) v → Ev (fun k => laws_FnExactReflectBoxes.f k w h e t) true := by
    intro v hS hI
    unfold laws_FnExactReflectBoxes.f laws_toBoxes.f
    refine Ev.bind (Ev.now _) (Ev.bind hS (Ev.bind (Ev.now _) (Ev.bind hI ?_)))
    exact Ev.congr (f := fun _ => some true) (fun k => by unfold laws_eqBoxes.f; simp) (Ev.now _)
  have first : ∀ a b : Bool, Ev (fun k => impl_first.f k (([(⟨a, 1⟩ : S71), (⟨b, 2⟩ : S71)] : List (S71)))) (if a = true then (if b = true then 0 else 2) else 1) := by
    intro a b
    cases a <;> cases b
    · exact ev_add (f := fun _ => some 1) 3 (fun k => by kernel_rfl) (Ev.now _)
    · exact ev_add (f := fun _ => some 1) 3 (fun k => by kernel_rfl) (Ev.now _)
    · exact ev_add (f := fun _ => some 2) 3 (fun k => by kernel_rfl) (Ev.now _)
    · exact ev_add (f := fun _ => some 0) 3 (fun k => by kernel_rfl) (Ev.now _)
  have code : Ev (fun k => impl_boxesCode.f k w h e t 3) (if isB w h e = true then (if (decide (0 ≤ t) && decide (t ≤ 2)) = true then 0 else 2) else 1) := by
    unfold impl_boxesCode.f
    rw [IsBoxes_eq, show wrap64 (3 - 1) = 2 by decide +kernel, within_eq]
    exact Ev.bind (Ev.now _) (Ev.bind (Ev.now _) (Ev.bind (first _ _) (Ev.now _)))
  by_cases hB : isB w h e = true
  · rw [if_pos hB] at code
    by_cases ht : 0 ≤ t ∧ t ≤ 2
    · have hd : (decide (0 ≤ t) && decide (t ≤ 2)) = true := by simp [ht.1, ht.2]
      rw [if_pos hd] at code
      have hb := hB
      unfold isB at hb
      have hb := of_decide_eq_true hb
      obtain ⟨v, hs, hi⟩ := same w h t hb.1 hb.2.1 ht e
      refine law (v.1, v.2.1, v.2.2, 0) ?_ ?_
      · unfold spec_ReflectBoxes.f
        rw [l03Is_eq, hB, l01In_eq, hd]
        exact Ev.bind (Ev.now _) (Ev.congr (fun k => by rw [if_pos rfl]) (Ev.bind (Ev.now _) (Ev.congr (fun k => by rw [if_pos rfl]) (Ev.bind hs (Ev.now _)))))
      · unfold impl_ReflectBoxes.f
        exact Ev.bind code (Ev.congr (fun k => by rw [if_pos rfl]) (Ev.bind hi (Ev.now _)))
    · have hd : (decide (0 ≤ t) && decide (t ≤ 2)) = false := by
        rw [← Bool.decide_and, decide_eq_false ht]
      rw [if_neg (by rw [hd]; decide)] at code
      refine law (0, 0, 0, 2) ?_ ?_
      · unfold spec_ReflectBoxes.f
        rw [l03Is_eq, hB, l01In_eq, hd]
        exact Ev.bind (Ev.now _) (Ev.congr (fun k => by rw [if_pos rfl]) (Ev.bind (Ev.now _) (Ev.congr (f := fun _ => some (0, 0, 0, 2)) (fun k => by rw [if_neg (by decide)]) (Ev.now _))))
      · unfold impl_ReflectBoxes.f
        exact Ev.bind code (Ev.congr (f := fun _ => some (0, 0, 0, 2)) (fun k => by rw [if_neg (by decide)]) (Ev.now _))
  · have hf : isB w h e = false := by simpa using hB
    rw [if_neg hB] at code
    refine law (0, 0, 0, 1) ?_ ?_
    · unfold spec_ReflectBoxes.f
      rw [l03Is_eq, hf]
      exact Ev.bind (Ev.now _) (Ev.congr (f := fun _ => some (0, 0, 0, 1)) (fun k => by rw [if_neg (by decide)]) (Ev.now _))
    · unfold impl_ReflectBoxes.f
      exact Ev.bind code (Ev.congr (f := fun _ => some (0, 0, 0, 1)) (fun k => by rw [if_neg (by decide)]) (Ev.now _))

end Go.Proofs.Ytbnkefbcnojdgaa.Pure
