/- The two reflections of boxes as moves of bits (no condition but sizes that fit). -/
import Derived.Test.YtbnkefbcnojdgaaPFnExactLeastBoxesx7
import Derived.Test.YtbnkefbcnojdgaaPFnExactLeastBoxesx4
import Derived.Test.YtbnkefbcnojdgaaPFnExactLeastBoxesx3
import Derived.Test.YtbnkefbcnojdgaaPFnExactLeastBoxesx5
import Derived.OpenShut
import Derived.Test.YtbnkefbcnojdgaaRBits
import Derived.Test.YtbnkefbcnojdgaaRLeast
namespace Go.Proofs.Ytbnkefbcnojdgaa.Pure
open Go.RowKit Go.Proofs.Ytbnkefbcnojdgaa.PFnExactLeastBoxes Go.Proofs.YtbnkefbcnojdgaaW.PrintWords Go.Proofs.YtbnkefbcnojdgaaW.PrintLast Go.Proofs.YtbnkefbcnojdgaaW.PrintMore
set_option linter.unusedSimpArgs false
set_option linter.unusedVariables false
theorem l01In_eq (a b c : Int) : spec_l01In.f a b c = some (decide (b ≤ a) && decide (a ≤ c)) := by
  unfold spec_l01In.f
  by_cases h : b ≤ a <;> simp [h]

theorem within_eq (a b c : Int) : impl_within.f a b c = some (decide (b ≤ a) && decide (a ≤ c)) := by
  unfold impl_within.f
  by_cases h : b ≤ a <;> simp [h]

/-- What a position of boxes is, in plain numbers. -/
def isB (w h e : Int) : Bool := decide ((1 ≤ w ∧ w ≤ 3) ∧ (1 ≤ h ∧ h ≤ 3) ∧ 0 ≤ e ∧ e < 2 ^ (w * (h + 1) + h * (w + 1)).toNat)
theorem three {w : Int} (h : 1 ≤ w ∧ w ≤ 3) : w = 1 ∨ w = 2 ∨ w = 3 := by omega

theorem l03Is_eq (w h e : Int) : spec_l03Is.f w h e = some (isB w h e) := by
  unfold spec_l03Is.f isB
  simp only [l01In_eq, Option.bind_some]
  by_cases h1 : 1 ≤ w ∧ w ≤ 3
  · by_cases h2 : 1 ≤ h ∧ h ≤ 3
    · by_cases h3 : e ≥ 0
      · have d1 : (decide (1 ≤ w) && decide (w ≤ 3)) = true := by simp [h1.1, h1.2]
        have d2 : (decide (1 ≤ h) && decide (h ≤ 3)) = true := by simp [h2.1, h2.2]
        rw [if_pos d1, if_pos d2, if_pos h3]
        rcases three h1 with rfl | rfl | rfl <;> rcases three h2 with rfl | rfl | rfl <;>
          (unfold spec_l03Count.f; simp only [Option.bind_some]; rw [if_pos (by decide +kernel)]; simp only [Option.some.injEq]; rw [decide_eq_decide]; simp [shl, h3, wrap64, IntKind.wrap, IntKind.bits] <;> omega)
      · have d1 : (decide (1 ≤ w) && decide (w ≤ 3)) = true := by simp [h1.1, h1.2]
        have d2 : (decide (1 ≤ h) && decide (h ≤ 3)) = true := by simp [h2.1, h2.2]
        rw [if_pos d1, if_pos d2, if_neg h3]
        simp; omega
    · have d2 : ¬ ((decide (1 ≤ h) && decide (h ≤ 3)) = true) := by simpa using h2
      have d1 : (decide (1 ≤ w) && decide (w ≤ 3)) = true := by simp [h1.1, h1.2]
      rw [if_pos d1, if_neg d2]
      simp; omega
  · have d1 : ¬ ((decide (1 ≤ w) && decide (w ≤ 3)) = true) := by simpa using h1
    rw [if_neg d1]
    simp; omega

theorem IsBoxes_eq (w h e : Int) : impl_IsBoxes.f w h e = some (isB w h e) := by
  unfold impl_IsBoxes.f isB
  simp only [within_eq, Option.bind_some]
  by_cases h1 : 1 ≤ w ∧ w ≤ 3
  · by_cases h2 : 1 ≤ h ∧ h ≤ 3
    · have d1 : (decide (1 ≤ w) && decide (w ≤ 3)) = true := by simp [h1.1, h1.2]
      have d2 : (decide (1 ≤ h) && decide (h ≤ 3)) = true := by simp [h2.1, h2.2]
      rw [if_pos d1, if_pos d2]
      rcases three h1 with rfl | rfl | rfl <;> rcases three h2 with rfl | rfl | rfl <;>
        (unfold impl_Boxes_edges.f; simp only [Option.bind_some]; rw [if_pos (by decide +kernel)]; rw [Option.some.injEq, Bool.eq_iff_iff]; simp [shl, wrap64, IntKind.wrap, IntKind.bits] <;> omega)
    · have d2 : ¬ ((decide (1 ≤ h) && decide (h ≤ 3)) = true) := by simpa using h2
      have d1 : (decide (1 ≤ w) && decide (w ≤ 3)) = true := by simp [h1.1, h1.2]
      rw [if_pos d1, if_neg d2]
      simp; omega
  · have d1 : ¬ ((decide (1 ≤ w) && decide (w ≤ 3)) = true) := by simpa using h1
    rw [if_neg d1]
    simp; omega
mutual
def rR.j0 : Nat → Int → Int → Int → Int → Int → Int → Int → Option (Int × Int × Int)
  | 0, _, _, _, _, _, _, _ => none
  | k + 1, x1, x159000, x159001, x159002, x161000, x161001, x161002 => (impl_Boxes_boxes.f x159000 x159001 x159002).bind fun t161 => (rR.l0 k x1 t161 0 x159000 x159001 x159002 x161000 x161001 x161002)
def rR.l0 : Nat → Int → Int → Int → Int → Int → Int → Int → Int → Int → Option (Int × Int × Int)
  | 0, _, _, _, _, _, _, _, _, _ => none
  | k + 1, x1, x28, x29, x159000, x159001, x159002, x161000, x161001, x161002 => if x29 < x28 then (if x159000 = 0 then (none) else (if x1 = 0 then (rR.j2 k x1 x29 (wrap64 ((wrap64 ((wrap64 ((wrap64 ((wrap64 (Int.tdiv x29 x159000)) * x159000)) + x159000)) - 1)) - (Int.tmod x29 x159000))) (([0, 1, 3, 2] : List Int)) x28 x29 x159000 x159001 x159002 x161000 x161001 x161002) else (if x1 = 1 then (rR.j2 k x1 x29 (wrap64 ((wrap64 ((wrap64 ((wrap64 (x159001 - 1)) - (wrap64 (Int.tdiv x29 x159000)))) * x159000)) + (Int.tmod x29 x159000))) (([1, 0, 2, 3] : List Int)) x28 x29 x159000 x159001 x159002 x161000 x161001 x161002) else (if x1 = 2 then (rR.j2 k x1 x29 (wrap64 ((wrap64 ((Int.tmod x29 x159000) * x161000)) + (wrap64 (Int.tdiv x29 x159000)))) (([2, 3, 0, 1] : List Int)) x28 x29 x159000 x159001 x159002 x161000 x161001 x161002) else (rR.j2 k x1 x29 (wrap64 ((wrap64 ((wrap64 (Int.tdiv x29 x159000)) * x159000)) + (Int.tmod x29 x159000))) (([0, 1, 2, 3] : List Int)) x28 x29 x159000 x159001 x159002 x161000 x161001 x161002))))) else (some (x161000, x161001, x161002))
def rR.j2 : Nat → Int → Int → Int → List Int → Int → Int → Int → Int → Int → Int → Int → Int → Option (Int × Int × Int)
  | 0, _, _, _, _, _, _, _, _, _, _, _, _ => none
  | k + 1, x1, x6, x9, x10, x28, x29, x159000, x159001, x159002, x161000, x161001, x161002 => (impl_Boxes_around.f x161000 x161001 x161002 x9).bind fun t174 => ((impl_Boxes_around.f x159000 x159001 x159002 x6).bind fun t177 => (rR.l1 k x1 x10 t174 x28 x29 t177 (t177.length : Int) 0 x159000 x159001 x159002 x161000 x161001 x161002))
def rR.l1 : Nat → Int → List Int → List Int → Int → Int → List Int → Int → Int → Int → Int → Int → Int → Int → Int → Option (Int × Int × Int)
  | 0, _, _, _, _, _, _, _, _, _, _, _, _, _, _ => none
  | k + 1, x1, x10, x11, x28, x29, x88, x89, x90, x159000, x159001, x159002, x161000, x161001, x161002 => if x90 < x89 then (if 0 ≤ x90 then (if x90 < (x88.length : Int) then (if 0 ≤ (rd x88 x90) then (if x90 < (x10.length : Int) then (if 0 ≤ (rd x10 x90) then (if (rd x10 x90) < (x11.length : Int) then (if 0 ≤ (rd x11 (rd x10 x90)) then (rR.l1 k x1 x10 x11 x28 x29 x88 x89 (wrap64 (x90 + 1)) x159000 x159001 x159002 x161000 x161001 (Go.bits .or .i64 x161002 (shl .i64 (Go.bits .and .i64 (shr .i64 x159002 (rd x88 x90)) 1) (rd x11 (rd x10 x90))))) else (none)) else (none)) else (none)) else (none)) else (none)) else (none)) else (none)) else (rR.l0 k x1 x28 (wrap64 (x29 + 1)) x159000 x159001 x159002 x161000 x161001 x161002)
end
def rR.f (k : Nat) (a0_0 : Int) (a0_1 : Int) (a0_2 : Int) (a1 : Int) : Option (Int × Int × Int) := if a1 = 2 then (rR.j0 k a1 a0_0 a0_1 a0_2 a0_1 a0_0 0) else (rR.j0 k a1 a0_0 a0_1 a0_2 a0_0 a0_1 0)
theorem bit_range (x : Int) : Go.bits .and .i64 x 1 = 0 ∨ Go.bits .and .i64 x 1 = 1 := by
  have h2 : (BitVec.ofInt IntKind.i64.bits x &&& BitVec.ofInt IntKind.i64.bits 1).toNat = 0 ∨ (BitVec.ofInt IntKind.i64.bits x &&& BitVec.ofInt IntKind.i64.bits 1).toNat = 1 := by
    have e : (BitVec.ofInt IntKind.i64.bits 1).toNat = 1 := by decide +kernel
    rw [BitVec.toNat_and, e, Nat.and_one_is_mod]
    omega
  unfold Go.bits
  rcases h2 with e | e <;> simp only [e]
  · left; decide +kernel
  · right; decide +kernel
theorem or_none (x t : Int) (h : (Lit.int .i64 x).wf = true) : Go.bits .or .i64 x (shl .i64 0 t) = x := by
  have hb := bounds_i64 h
  have e : shl .i64 0 t = 0 := by unfold shl; rw [Int.zero_mul]; decide +kernel
  have e0 : (BitVec.ofInt IntKind.i64.bits 0).toNat = 0 := by decide +kernel
  rw [e]
  unfold Go.bits
  simp only [BitVec.toNat_or, e0, Nat.or_zero, BitVec.toNat_ofInt]
  simp only [IntKind.wrap, IntKind.bits, IntKind.signed]
  simp
  omega
theorem rR.le : ∀ k, (∀ y0 y1 y2 y3 y4 y5 y6, (Lit.int .i64 y6).wf = true → LeO (rR.j0 k y0 y1 y2 y3 y4 y5 y6) (impl_Boxes_reflected.j0 k y0 y1 y2 y3 y4 y5 y6)) ∧ (∀ y0 y1 y2 y3 y4 y5 y6 y7 y8, (Lit.int .i64 y8).wf = true → LeO (rR.l0 k y0 y1 y2 y3 y4 y5 y6 y7 y8) (impl_Boxes_reflected.l0 k y0 y1 y2 y3 y4 y5 y6 y7 y8)) ∧ (∀ y0 y1 y2 y3 y4 y5 y6 y7 y8 y9 y10 y11, (Lit.int .i64 y11).wf = true → LeO (rR.j2 k y0 y1 y2 y3 y4 y5 y6 y7 y8 y9 y10 y11) (impl_Boxes_reflected.j2 k y0 y1 y2 y3 y4 y5 y6 y7 y8 y9 y10 y11)) ∧ (∀ y0 y1 y2 y3 y4 y5 y6 y7 y8 y9 y10 y11 y12 y13, (Lit.int .i64 y13).wf = true → LeO (rR.l1 k y0 y1 y2 y3 y4 y5 y6 y7 y8 y9 y10 y11 y12 y13) (impl_Boxes_reflected.l1 k y0 y1 y2 y3 y4 y5 y6 y7 y8 y9 y10 y11 y12 y13))
  | 0 => ⟨fun _ _ _ _ _ _ _ _ r h => by simp [rR.j0] at h, fun _ _ _ _ _ _ _ _ _ _ r h => by simp [rR.l0] at h, fun _ _ _ _ _ _ _ _ _ _ _ _ _ r h => by simp [rR.j2] at h, fun _ _ _ _ _ _ _ _ _ _ _ _ _ _ _ r h => by simp [rR.l1] at h⟩
  | k + 1 => by
    obtain ⟨ih0, ih1, ih2, ih3⟩ := rR.le k
    refine ⟨?_, ?_, ?_, ?_⟩
    · intro y0 y1 y2 y3 y4 y5 y6 hw
      unfold rR.j0 impl_Boxes_reflected.j0
      repeat' first
      | exact ih0 _ _ _ _ _ _ _ (by assumption)
      | exact ih1 _ _ _ _ _ _ _ _ _ (by assumption)
      | exact ih2 _ _ _ _ _ _ _ _ _ _ _ _ (by assumption)
      | exact ih3 _ _ _ _ _ _ _ _ _ _ _ _ _ _ (by assumption)
      | exact LeO.none _
      | exact LeO.refl _
      | refine LeO.ite ?_ ?_
      | refine LeO.bind (LeO.refl _) (fun _ => ?_)
    · intro y0 y1 y2 y3 y4 y5 y6 y7 y8 hw
      unfold rR.l0 impl_Boxes_reflected.l0
      repeat' first
      | exact ih0 _ _ _ _ _ _ _ (by assumption)
      | exact ih1 _ _ _ _ _ _ _ _ _ (by assumption)
      | exact ih2 _ _ _ _ _ _ _ _ _ _ _ _ (by assumption)
      | exact ih3 _ _ _ _ _ _ _ _ _ _ _ _ _ _ (by assumption)
      | exact LeO.none _
      | exact LeO.refl _
      | refine LeO.ite ?_ ?_
      | refine LeO.bind (LeO.refl _) (fun _ => ?_)
    · intro y0 y1 y2 y3 y4 y5 y6 y7 y8 y9 y10 y11 hw
      unfold rR.j2 impl_Boxes_reflected.j2
      repeat' first
      | exact ih0 _ _ _ _ _ _ _ (by assumption)
      | exact ih1 _ _ _ _ _ _ _ _ _ (by assumption)
      | exact ih2 _ _ _ _ _ _ _ _ _ _ _ _ (by assumption)
      | exact ih3 _ _ _ _ _ _ _ _ _ _ _ _ _ _ (by assumption)
      | exact LeO.none _
      | exact LeO.refl _
      | refine LeO.ite ?_ ?_
      | refine LeO.bind (LeO.refl _) (fun _ => ?_)
    · intro y0 y1 y2 y3 y4 y5 y6 y7 y8 y9 y10 y11 y12 y13 hw
      unfold rR.l1 impl_Boxes_reflected.l1
      refine LeO.ite (LeO.ite (LeO.ite ?_ (LeO.none _)) (LeO.none _)) (ih1 _ _ _ _ _ _ _ _ _ hw)
      intro r hr
      by_cases c0 : 0 ≤ (rd y5 y7)
      · rw [if_pos c0] at hr
        unfold impl_Boxes_has.f
        rw [if_pos c0, Option.bind_some]
        by_cases c1 : y7 < (y1.length : Int)
        · rw [if_pos c1] at hr
          by_cases c2 : 0 ≤ (rd y1 y7)
          · rw [if_pos c2] at hr
            by_cases c3 : (rd y1 y7) < (y2.length : Int)
            · rw [if_pos c3] at hr
              by_cases c4 : 0 ≤ (rd y2 (rd y1 y7))
              · rw [if_pos c4] at hr
                rcases bit_range (shr .i64 y10 (rd y5 y7)) with e | e
                · rw [e, or_none _ _ hw] at hr
                  rw [e, if_neg (by decide)]
                  exact ih3 _ _ _ _ _ _ _ _ _ _ _ _ _ _ hw r hr
                · rw [e] at hr
                  rw [e, if_pos (by decide), if_pos c1, if_pos c2, if_pos c3, if_pos c4]
                  exact ih3 _ _ _ _ _ _ _ _ _ _ _ _ _ _ (wf_bits _ _ _ _) r hr
              · rw [if_neg c4] at hr; cases hr
            · rw [if_neg c3] at hr; cases hr
          · rw [if_neg c2] at hr; cases hr
        · rw [if_neg c1] at hr; cases hr
      · rw [if_neg c0] at hr; cases hr
theorem refl_le (k : Nat) (w h E t : Int) : LeO (rR.f k w h E t) (impl_Boxes_reflected.f k w h E t) := by
  have h0 : (Lit.int .i64 0).wf = true := by decide +kernel
  unfold rR.f impl_Boxes_reflected.f
  exact LeO.ite ((rR.le k).1 _ _ _ _ _ _ _ h0) ((rR.le k).1 _ _ _ _ _ _ _ h0)
theorem ev_add {α : Type} {g f : Nat → Option α} {r : α} (n : Nat) (h : ∀ k, g (k + n) = f k) (k : Ev f r) : Ev g r := by
  obtain ⟨K, hK⟩ := k
  refine ⟨K + n, fun m hm => ?_⟩
  obtain ⟨d, rfl⟩ : ∃ d, m = d + n := ⟨m - n, by omega⟩
  rw [h]
  exact hK d (by omega)
abbrev sl := spec_l03Reflected.l0
section
variable (k : Nat) (E o : Int)
theorem ss_1_1_0_0 : sl (k + 11) 0 0 1 1 E 1 1 o = sl k 0 1 1 1 E 1 1 (sq E (sq E (sq E (sq E o 0 0) 1 1) 2 3) 3 2) := by kernel_rfl
theorem rs_1_1_0_0 : rR.l0 (k + 7) 0 1 0 1 1 E 1 1 o = rR.l0 k 0 1 1 1 1 E 1 1 (sq E (sq E (sq E (sq E o 0 0) 1 1) 2 3) 3 2) := by kernel_rfl
def L_1_1_0 : List (Nat × Nat) := [(0, 0), (1, 1), (2, 3), (3, 2)]
def P_1_1_0 : List Nat := [0, 1, 3, 2]
theorem nest_1_1_0 (E : Int) : fldI E L_1_1_0 = (sq E (sq E (sq E (sq E 0 0 0) 1 1) 2 3) 3 2) := rfl
theorem same_1_1_0 (E : Int) : Ev (fun k => spec_l03Reflected.f k 1 1 E 0) (1, 1, fldI E L_1_1_0) ∧ Ev (fun k => rR.f k 1 1 E 0) (1, 1, fldI E L_1_1_0) := by
  rw [nest_1_1_0]
  refine ⟨?_, ?_⟩
  · refine ev_add (f := fun k => sl k 0 0 1 1 E 1 1 0) 1 (fun k => by kernel_rfl) ?_
    refine ev_add 11 (fun k => ss_1_1_0_0 k E _) ?_
    exact ev_add (f := fun _ => some (1, 1, (sq E (sq E (sq E (sq E 0 0 0) 1 1) 2 3) 3 2))) 1 (fun k => by kernel_rfl) (Ev.now _)
  · refine ev_add (f := fun k => rR.l0 k 0 1 0 1 1 E 1 1 0) 1 (fun k => by kernel_rfl) ?_
    refine ev_add 7 (fun k => rs_1_1_0_0 k E _) ?_
    exact ev_add (f := fun _ => some (1, 1, (sq E (sq E (sq E (sq E 0 0 0) 1 1) 2 3) 3 2))) 1 (fun k => by kernel_rfl) (Ev.now _)
theorem ss_1_1_1_0 : sl (k + 11) 1 0 1 1 E 1 1 o = sl k 1 1 1 1 E 1 1 (sq E (sq E (sq E (sq E o 0 1) 1 0) 2 2) 3 3) := by kernel_rfl
theorem rs_1_1_1_0 : rR.l0 (k + 7) 1 1 0 1 1 E 1 1 o = rR.l0 k 1 1 1 1 1 E 1 1 (sq E (sq E (sq E (sq E o 0 1) 1 0) 2 2) 3 3) := by kernel_rfl
def L_1_1_1 : List (Nat × Nat) := [(0, 1), (1, 0), (2, 2), (3, 3)]
def P_1_1_1 : List Nat := [1, 0, 2, 3]
theorem nest_1_1_1 (E : Int) : fldI E L_1_1_1 = (sq E (sq E (sq E (sq E 0 0 1) 1 0) 2 2) 3 3) := rfl
theorem same_1_1_1 (E : Int) : Ev (fun k => spec_l03Reflected.f k 1 1 E 1) (1, 1, fldI E L_1_1_1) ∧ Ev (fun k => rR.f k 1 1 E 1) (1, 1, fldI E L_1_1_1) := by
  rw [nest_1_1_1]
  refine ⟨?_, ?_⟩
  · refine ev_add (f := fun k => sl k 1 0 1 1 E 1 1 0) 1 (fun k => by kernel_rfl) ?_
    refine ev_add 11 (fun k => ss_1_1_1_0 k E _) ?_
    exact ev_add (f := fun _ => some (1, 1, (sq E (sq E (sq E (sq E 0 0 1) 1 0) 2 2) 3 3))) 1 (fun k => by kernel_rfl) (Ev.now _)
  · refine ev_add (f := fun k => rR.l0 k 1 1 0 1 1 E 1 1 0) 1 (fun k => by kernel_rfl) ?_
    refine ev_add 7 (fun k => rs_1_1_1_0 k E _) ?_
    exact ev_add (f := fun _ => some (1, 1, (sq E (sq E (sq E (sq E 0 0 1) 1 0) 2 2) 3 3))) 1 (fun k => by kernel_rfl) (Ev.now _)
theorem ss_1_1_2_0 : sl (k + 11) 2 0 1 1 E 1 1 o = sl k 2 1 1 1 E 1 1 (sq E (sq E (sq E (sq E o 0 2) 1 3) 2 0) 3 1) := by kernel_rfl
theorem rs_1_1_2_0 : rR.l0 (k + 7) 2 1 0 1 1 E 1 1 o = rR.l0 k 2 1 1 1 1 E 1 1 (sq E (sq E (sq E (sq E o 0 2) 1 3) 2 0) 3 1) := by kernel_rfl
def L_1_1_2 : List (Nat × Nat) := [(0, 2), (1, 3), (2, 0), (3, 1)]
def P_1_1_2 : List Nat := [2, 3, 0, 1]
theorem nest_1_1_2 (E : Int) : fldI E L_1_1_2 = (sq E (sq E (sq E (sq E 0 0 2) 1 3) 2 0) 3 1) := rfl
theorem same_1_1_2 (E : Int) : Ev (fun k => spec_l03Reflected.f k 1 1 E 2) (1, 1, fldI E L_1_1_2) ∧ Ev (fun k => rR.f k 1 1 E 2) (1, 1, fldI E L_1_1_2) := by
  rw [nest_1_1_2]
  refine ⟨?_, ?_⟩
  · refine ev_add (f := fun k => sl k 2 0 1 1 E 1 1 0) 1 (fun k => by kernel_rfl) ?_
    refine ev_add 11 (fun k => ss_1_1_2_0 k E _) ?_
    exact ev_add (f := fun _ => some (1, 1, (sq E (sq E (sq E (sq E 0 0 2) 1 3) 2 0) 3 1))) 1 (fun k => by kernel_rfl) (Ev.now _)
  · refine ev_add (f := fun k => rR.l0 k 2 1 0 1 1 E 1 1 0) 1 (fun k => by kernel_rfl) ?_
    refine ev_add 7 (fun k => rs_1_1_2_0 k E _) ?_
    exact ev_add (f := fun _ => some (1, 1, (sq E (sq E (sq E (sq E 0 0 2) 1 3) 2 0) 3 1))) 1 (fun k => by kernel_rfl) (Ev.now _)
theorem ss_1_2_0_0 : sl (k + 11) 0 0 1 2 E 1 2 o = sl k 0 1 1 2 E 1 2 (sq E (sq E (sq E (sq E o 0 0) 1 1) 3 4) 4 3) := by kernel_rfl
theorem rs_1_2_0_0 : rR.l0 (k + 7) 0 2 0 1 2 E 1 2 o = rR.l0 k 0 2 1 1 2 E 1 2 (sq E (sq E (sq E (sq E o 0 0) 1 1) 3 4) 4 3) := by kernel_rfl
theorem ss_1_2_0_1 : sl (k + 11) 0 1 1 2 E 1 2 o = sl k 0 2 1 2 E 1 2 (sq E (sq E (sq E (sq E o 1 1) 2 2) 5 6) 6 5) := by kernel_rfl
theorem rs_1_2_0_1 : rR.l0 (k + 7) 0 2 1 1 2 E 1 2 o = rR.l0 k 0 2 2 1 2 E 1 2 (sq E (sq E (sq E (sq E o 1 1) 2 2) 5 6) 6 5) := by kernel_rfl
def L_1_2_0 : List (Nat × Nat) := [(0, 0), (1, 1), (3, 4), (4, 3), (1, 1), (2, 2), (5, 6), (6, 5)]
def P_1_2_0 : List Nat := [0, 1, 2, 4, 3, 6, 5]
theorem nest_1_2_0 (E : Int) : fldI E L_1_2_0 = (sq E (sq E (sq E (sq E ((sq E (sq E (sq E (sq E 0 0 0) 1 1) 3 4) 4 3)) 1 1) 2 2) 5 6) 6 5) := rfl
theorem same_1_2_0 (E : Int) : Ev (fun k => spec_l03Reflected.f k 1 2 E 0) (1, 2, fldI E L_1_2_0) ∧ Ev (fun k => rR.f k 1 2 E 0) (1, 2, fldI E L_1_2_0) := by
  rw [nest_1_2_0]
  refine ⟨?_, ?_⟩
  · refine ev_add (f := fun k => sl k 0 0 1 2 E 1 2 0) 1 (fun k => by kernel_rfl) ?_
    refine ev_add 11 (fun k => ss_1_2_0_0 k E _) ?_
    refine ev_add 11 (fun k => ss_1_2_0_1 k E _) ?_
    exact ev_add (f := fun _ => some (1, 2, (sq E (sq E (sq E (sq E ((sq E (sq E (sq E (sq E 0 0 0) 1 1) 3 4) 4 3)) 1 1) 2 2) 5 6) 6 5))) 1 (fun k => by kernel_rfl) (Ev.now _)
  · refine ev_add (f := fun k => rR.l0 k 0 2 0 1 2 E 1 2 0) 1 (fun k => by kernel_rfl) ?_
    refine ev_add 7 (fun k => rs_1_2_0_0 k E _) ?_
    refine ev_add 7 (fun k => rs_1_2_0_1 k E _) ?_
    exact ev_add (f := fun _ => some (1, 2, (sq E (sq E (sq E (sq E ((sq E (sq E (sq E (sq E 0 0 0) 1 1) 3 4) 4 3)) 1 1) 2 2) 5 6) 6 5))) 1 (fun k => by kernel_rfl) (Ev.now _)
theorem ss_1_2_1_0 : sl (k + 11) 1 0 1 2 E 1 2 o = sl k 1 1 1 2 E 1 2 (sq E (sq E (sq E (sq E o 0 2) 1 1) 3 5) 4 6) := by kernel_rfl
theorem rs_1_2_1_0 : rR.l0 (k + 7) 1 2 0 1 2 E 1 2 o = rR.l0 k 1 2 1 1 2 E 1 2 (sq E (sq E (sq E (sq E o 0 2) 1 1) 3 5) 4 6) := by kernel_rfl
theorem ss_1_2_1_1 : sl (k + 11) 1 1 1 2 E 1 2 o = sl k 1 2 1 2 E 1 2 (sq E (sq E (sq E (sq E o 1 1) 2 0) 5 3) 6 4) := by kernel_rfl
theorem rs_1_2_1_1 : rR.l0 (k + 7) 1 2 1 1 2 E 1 2 o = rR.l0 k 1 2 2 1 2 E 1 2 (sq E (sq E (sq E (sq E o 1 1) 2 0) 5 3) 6 4) := by kernel_rfl
def L_1_2_1 : List (Nat × Nat) := [(0, 2), (1, 1), (3, 5), (4, 6), (1, 1), (2, 0), (5, 3), (6, 4)]
def P_1_2_1 : List Nat := [2, 1, 0, 5, 6, 3, 4]
theorem nest_1_2_1 (E : Int) : fldI E L_1_2_1 = (sq E (sq E (sq E (sq E ((sq E (sq E (sq E (sq E 0 0 2) 1 1) 3 5) 4 6)) 1 1) 2 0) 5 3) 6 4) := rfl
theorem same_1_2_1 (E : Int) : Ev (fun k => spec_l03Reflected.f k 1 2 E 1) (1, 2, fldI E L_1_2_1) ∧ Ev (fun k => rR.f k 1 2 E 1) (1, 2, fldI E L_1_2_1) := by
  rw [nest_1_2_1]
  refine ⟨?_, ?_⟩
  · refine ev_add (f := fun k => sl k 1 0 1 2 E 1 2 0) 1 (fun k => by kernel_rfl) ?_
    refine ev_add 11 (fun k => ss_1_2_1_0 k E _) ?_
    refine ev_add 11 (fun k => ss_1_2_1_1 k E _) ?_
    exact ev_add (f := fun _ => some (1, 2, (sq E (sq E (sq E (sq E ((sq E (sq E (sq E (sq E 0 0 2) 1 1) 3 5) 4 6)) 1 1) 2 0) 5 3) 6 4))) 1 (fun k => by kernel_rfl) (Ev.now _)
  · refine ev_add (f := fun k => rR.l0 k 1 2 0 1 2 E 1 2 0) 1 (fun k => by kernel_rfl) ?_
    refine ev_add 7 (fun k => rs_1_2_1_0 k E _) ?_
    refine ev_add 7 (fun k => rs_1_2_1_1 k E _) ?_
    exact ev_add (f := fun _ => some (1, 2, (sq E (sq E (sq E (sq E ((sq E (sq E (sq E (sq E 0 0 2) 1 1) 3 5) 4 6)) 1 1) 2 0) 5 3) 6 4))) 1 (fun k => by kernel_rfl) (Ev.now _)
theorem ss_1_2_2_0 : sl (k + 11) 2 0 1 2 E 2 1 o = sl k 2 1 1 2 E 2 1 (sq E (sq E (sq E (sq E o 0 4) 1 5) 3 0) 4 2) := by kernel_rfl
theorem rs_1_2_2_0 : rR.l0 (k + 7) 2 2 0 1 2 E 2 1 o = rR.l0 k 2 2 1 1 2 E 2 1 (sq E (sq E (sq E (sq E o 0 4) 1 5) 3 0) 4 2) := by kernel_rfl
theorem ss_1_2_2_1 : sl (k + 11) 2 1 1 2 E 2 1 o = sl k 2 2 1 2 E 2 1 (sq E (sq E (sq E (sq E o 1 5) 2 6) 5 1) 6 3) := by kernel_rfl
theorem rs_1_2_2_1 : rR.l0 (k + 7) 2 2 1 1 2 E 2 1 o = rR.l0 k 2 2 2 1 2 E 2 1 (sq E (sq E (sq E (sq E o 1 5) 2 6) 5 1) 6 3) := by kernel_rfl
def L_1_2_2 : List (Nat × Nat) := [(0, 4), (1, 5), (3, 0), (4, 2), (1, 5), (2, 6), (5, 1), (6, 3)]
def P_1_2_2 : List Nat := [3, 5, 4, 6, 0, 1, 2]
theorem nest_1_2_2 (E : Int) : fldI E L_1_2_2 = (sq E (sq E (sq E (sq E ((sq E (sq E (sq E (sq E 0 0 4) 1 5) 3 0) 4 2)) 1 5) 2 6) 5 1) 6 3) := rfl
theorem same_1_2_2 (E : Int) : Ev (fun k => spec_l03Reflected.f k 1 2 E 2) (2, 1, fldI E L_1_2_2) ∧ Ev (fun k => rR.f k 1 2 E 2) (2, 1, fldI E L_1_2_2) := by
  rw [nest_1_2_2]
  refine ⟨?_, ?_⟩
  · refine ev_add (f := fun k => sl k 2 0 1 2 E 2 1 0) 1 (fun k => by kernel_rfl) ?_
    refine ev_add 11 (fun k => ss_1_2_2_0 k E _) ?_
    refine ev_add 11 (fun k => ss_1_2_2_1 k E _) ?_
    exact ev_add (f := fun _ => some (2, 1, (sq E (sq E (sq E (sq E ((sq E (sq E (sq E (sq E 0 0 4) 1 5) 3 0) 4 2)) 1 5) 2 6) 5 1) 6 3))) 1 (fun k => by kernel_rfl) (Ev.now _)
  · refine ev_add (f := fun k => rR.l0 k 2 2 0 1 2 E 2 1 0) 1 (fun k => by kernel_rfl) ?_
    refine ev_add 7 (fun k => rs_1_2_2_0 k E _) ?_
    refine ev_add 7 (fun k => rs_1_2_2_1 k E _) ?_
    exact ev_add (f := fun _ => some (2, 1, (sq E (sq E (sq E (sq E ((sq E (sq E (sq E (sq E 0 0 4) 1 5) 3 0) 4 2)) 1 5) 2 6) 5 1) 6 3))) 1 (fun k => by kernel_rfl) (Ev.now _)
theorem ss_1_3_0_0 : sl (k + 11) 0 0 1 3 E 1 3 o = sl k 0 1 1 3 E 1 3 (sq E (sq E (sq E (sq E o 0 0) 1 1) 4 5) 5 4) := by kernel_rfl
theorem rs_1_3_0_0 : rR.l0 (k + 7) 0 3 0 1 3 E 1 3 o = rR.l0 k 0 3 1 1 3 E 1 3 (sq E (sq E (sq E (sq E o 0 0) 1 1) 4 5) 5 4) := by kernel_rfl
theorem ss_1_3_0_1 : sl (k + 11) 0 1 1 3 E 1 3 o = sl k 0 2 1 3 E 1 3 (sq E (sq E (sq E (sq E o 1 1) 2 2) 6 7) 7 6) := by kernel_rfl
theorem rs_1_3_0_1 : rR.l0 (k + 7) 0 3 1 1 3 E 1 3 o = rR.l0 k 0 3 2 1 3 E 1 3 (sq E (sq E (sq E (sq E o 1 1) 2 2) 6 7) 7 6) := by kernel_rfl
theorem ss_1_3_0_2 : sl (k + 11) 0 2 1 3 E 1 3 o = sl k 0 3 1 3 E 1 3 (sq E (sq E (sq E (sq E o 2 2) 3 3) 8 9) 9 8) := by kernel_rfl
theorem rs_1_3_0_2 : rR.l0 (k + 7) 0 3 2 1 3 E 1 3 o = rR.l0 k 0 3 3 1 3 E 1 3 (sq E (sq E (sq E (sq E o 2 2) 3 3) 8 9) 9 8) := by kernel_rfl
def L_1_3_0 : List (Nat × Nat) := [(0, 0), (1, 1), (4, 5), (5, 4), (1, 1), (2, 2), (6, 7), (7, 6), (2, 2), (3, 3), (8, 9), (9, 8)]
def P_1_3_0 : List Nat := [0, 1, 2, 3, 5, 4, 7, 6, 9, 8]
theorem nest_1_3_0 (E : Int) : fldI E L_1_3_0 = (sq E (sq E (sq E (sq E ((sq E (sq E (sq E (sq E ((sq E (sq E (sq E (sq E 0 0 0) 1 1) 4 5) 5 4)) 1 1) 2 2) 6 7) 7 6)) 2 2) 3 3) 8 9) 9 8) := rfl
theorem same_1_3_0 (E : Int) : Ev (fun k => spec_l03Reflected.f k 1 3 E 0) (1, 3, fldI E L_1_3_0) ∧ Ev (fun k => rR.f k 1 3 E 0) (1, 3, fldI E L_1_3_0) := by
  rw [nest_1_3_0]
  refine ⟨?_, ?_⟩
  · refine ev_add (f := fun k => sl k 0 0 1 3 E 1 3 0) 1 (fun k => by kernel_rfl) ?_
    refine ev_add 11 (fun k => ss_1_3_0_0 k E _) ?_
    refine ev_add 11 (fun k => ss_1_3_0_1 k E _) ?_
    refine ev_add 11 (fun k => ss_1_3_0_2 k E _) ?_
    exact ev_add (f := fun _ => some (1, 3, (sq E (sq E (sq E (sq E ((sq E (sq E (sq E (sq E ((sq E (sq E (sq E (sq E 0 0 0) 1 1) 4 5) 5 4)) 1 1) 2 2) 6 7) 7 6)) 2 2) 3 3) 8 9) 9 8))) 1 (fun k => by kernel_rfl) (Ev.now _)
  · refine ev_add (f := fun k => rR.l0 k 0 3 0 1 3 E 1 3 0) 1 (fun k => by kernel_rfl) ?_
    refine ev_add 7 (fun k => rs_1_3_0_0 k E _) ?_
    refine ev_add 7 (fun k => rs_1_3_0_1 k E _) ?_
    refine ev_add 7 (fun k => rs_1_3_0_2 k E _) ?_
    exact ev_add (f := fun _ => some (1, 3, (sq E (sq E (sq E (sq E ((sq E (sq E (sq E (sq E ((sq E (sq E (sq E (sq E 0 0 0) 1 1) 4 5) 5 4)) 1 1) 2 2) 6 7) 7 6)) 2 2) 3 3) 8 9) 9 8))) 1 (fun k => by kernel_rfl) (Ev.now _)
theorem ss_1_3_1_0 : sl (k + 11) 1 0 1 3 E 1 3 o = sl k 1 1 1 3 E 1 3 (sq E (sq E (sq E (sq E o 0 3) 1 2) 4 8) 5 9) := by kernel_rfl
theorem rs_1_3_1_0 : rR.l0 (k + 7) 1 3 0 1 3 E 1 3 o = rR.l0 k 1 3 1 1 3 E 1 3 (sq E (sq E (sq E (sq E o 0 3) 1 2) 4 8) 5 9) := by kernel_rfl
theorem ss_1_3_1_1 : sl (k + 11) 1 1 1 3 E 1 3 o = sl k 1 2 1 3 E 1 3 (sq E (sq E (sq E (sq E o 1 2) 2 1) 6 6) 7 7) := by kernel_rfl
theorem rs_1_3_1_1 : rR.l0 (k + 7) 1 3 1 1 3 E 1 3 o = rR.l0 k 1 3 2 1 3 E 1 3 (sq E (sq E (sq E (sq E o 1 2) 2 1) 6 6) 7 7) := by kernel_rfl
theorem ss_1_3_1_2 : sl (k + 11) 1 2 1 3 E 1 3 o = sl k 1 3 1 3 E 1 3 (sq E (sq E (sq E (sq E o 2 1) 3 0) 8 4) 9 5) := by kernel_rfl
theorem rs_1_3_1_2 : rR.l0 (k + 7) 1 3 2 1 3 E 1 3 o = rR.l0 k 1 3 3 1 3 E 1 3 (sq E (sq E (sq E (sq E o 2 1) 3 0) 8 4) 9 5) := by kernel_rfl
def L_1_3_1 : List (Nat × Nat) := [(0, 3), (1, 2), (4, 8), (5, 9), (1, 2), (2, 1), (6, 6), (7, 7), (2, 1), (3, 0), (8, 4), (9, 5)]
def P_1_3_1 : List Nat := [3, 2, 1, 0, 8, 9, 6, 7, 4, 5]
theorem nest_1_3_1 (E : Int) : fldI E L_1_3_1 = (sq E (sq E (sq E (sq E ((sq E (sq E (sq E (sq E ((sq E (sq E (sq E (sq E 0 0 3) 1 2) 4 8) 5 9)) 1 2) 2 1) 6 6) 7 7)) 2 1) 3 0) 8 4) 9 5) := rfl
theorem same_1_3_1 (E : Int) : Ev (fun k => spec_l03Reflected.f k 1 3 E 1) (1, 3, fldI E L_1_3_1) ∧ Ev (fun k => rR.f k 1 3 E 1) (1, 3, fldI E L_1_3_1) := by
  rw [nest_1_3_1]
  refine ⟨?_, ?_⟩
  · refine ev_add (f := fun k => sl k 1 0 1 3 E 1 3 0) 1 (fun k => by kernel_rfl) ?_
    refine ev_add 11 (fun k => ss_1_3_1_0 k E _) ?_
    refine ev_add 11 (fun k => ss_1_3_1_1 k E _) ?_
    refine ev_add 11 (fun k => ss_1_3_1_2 k E _) ?_
    exact ev_add (f := fun _ => some (1, 3, (sq E (sq E (sq E (sq E ((sq E (sq E (sq E (sq E ((sq E (sq E (sq E (sq E 0 0 3) 1 2) 4 8) 5 9)) 1 2) 2 1) 6 6) 7 7)) 2 1) 3 0) 8 4) 9 5))) 1 (fun k => by kernel_rfl) (Ev.now _)
  · refine ev_add (f := fun k => rR.l0 k 1 3 0 1 3 E 1 3 0) 1 (fun k => by kernel_rfl) ?_
    refine ev_add 7 (fun k => rs_1_3_1_0 k E _) ?_
    refine ev_add 7 (fun k => rs_1_3_1_1 k E _) ?_
    refine ev_add 7 (fun k => rs_1_3_1_2 k E _) ?_
    exact ev_add (f := fun _ => some (1, 3, (sq E (sq E (sq E (sq E ((sq E (sq E (sq E (sq E ((sq E (sq E (sq E (sq E 0 0 3) 1 2) 4 8) 5 9)) 1 2) 2 1) 6 6) 7 7)) 2 1) 3 0) 8 4) 9 5))) 1 (fun k => by kernel_rfl) (Ev.now _)
theorem ss_1_3_2_0 : sl (k + 11) 2 0 1 3 E 3 1 o = sl k 2 1 1 3 E 3 1 (sq E (sq E (sq E (sq E o 0 6) 1 7) 4 0) 5 3) := by kernel_rfl
theorem rs_1_3_2_0 : rR.l0 (k + 7) 2 3 0 1 3 E 3 1 o = rR.l0 k 2 3 1 1 3 E 3 1 (sq E (sq E (sq E (sq E o 0 6) 1 7) 4 0) 5 3) := by kernel_rfl
theorem ss_1_3_2_1 : sl (k + 11) 2 1 1 3 E 3 1 o = sl k 2 2 1 3 E 3 1 (sq E (sq E (sq E (sq E o 1 7) 2 8) 6 1) 7 4) := by kernel_rfl
theorem rs_1_3_2_1 : rR.l0 (k + 7) 2 3 1 1 3 E 3 1 o = rR.l0 k 2 3 2 1 3 E 3 1 (sq E (sq E (sq E (sq E o 1 7) 2 8) 6 1) 7 4) := by kernel_rfl
theorem ss_1_3_2_2 : sl (k + 11) 2 2 1 3 E 3 1 o = sl k 2 3 1 3 E 3 1 (sq E (sq E (sq E (sq E o 2 8) 3 9) 8 2) 9 5) := by kernel_rfl
theorem rs_1_3_2_2 : rR.l0 (k + 7) 2 3 2 1 3 E 3 1 o = rR.l0 k 2 3 3 1 3 E 3 1 (sq E (sq E (sq E (sq E o 2 8) 3 9) 8 2) 9 5) := by kernel_rfl
def L_1_3_2 : List (Nat × Nat) := [(0, 6), (1, 7), (4, 0), (5, 3), (1, 7), (2, 8), (6, 1), (7, 4), (2, 8), (3, 9), (8, 2), (9, 5)]
def P_1_3_2 : List Nat := [4, 6, 8, 5, 7, 9, 0, 1, 2, 3]
theorem nest_1_3_2 (E : Int) : fldI E L_1_3_2 = (sq E (sq E (sq E (sq E ((sq E (sq E (sq E (sq E ((sq E (sq E (sq E (sq E 0 0 6) 1 7) 4 0) 5 3)) 1 7) 2 8) 6 1) 7 4)) 2 8) 3 9) 8 2) 9 5) := rfl
theorem same_1_3_2 (E : Int) : Ev (fun k => spec_l03Reflected.f k 1 3 E 2) (3, 1, fldI E L_1_3_2) ∧ Ev (fun k => rR.f k 1 3 E 2) (3, 1, fldI E L_1_3_2) := by
  rw [nest_1_3_2]
  refine ⟨?_, ?_⟩
  · refine ev_add (f := fun k => sl k 2 0 1 3 E 3 1 0) 1 (fun k => by kernel_rfl) ?_
    refine ev_add 11 (fun k => ss_1_3_2_0 k E _) ?_
    refine ev_add 11 (fun k => ss_1_3_2_1 k E _) ?_
    refine ev_add 11 (fun k => ss_1_3_2_2 k E _) ?_
    exact ev_add (f := fun _ => some (3, 1, (sq E (sq E (sq E (sq E ((sq E (sq E (sq E (sq E ((sq E (sq E (sq E (sq E 0 0 6) 1 7) 4 0) 5 3)) 1 7) 2 8) 6 1) 7 4)) 2 8) 3 9) 8 2) 9 5))) 1 (fun k => by kernel_rfl) (Ev.now _)
  · refine ev_add (f := fun k => rR.l0 k 2 3 0 1 3 E 3 1 0) 1 (fun k => by kernel_rfl) ?_
    refine ev_add 7 (fun k => rs_1_3_2_0 k E _) ?_
    refine ev_add 7 (fun k => rs_1_3_2_1 k E _) ?_
    refine ev_add 7 (fun k => rs_1_3_2_2 k E _) ?_
    exact ev_add (f := fun _ => some (3, 1, (sq E (sq E (sq E (sq E ((sq E (sq E (sq E (sq E ((sq E (sq E (sq E (sq E 0 0 6) 1 7) 4 0) 5 3)) 1 7) 2 8) 6 1) 7 4)) 2 8) 3 9) 8 2) 9 5))) 1 (fun k => by kernel_rfl) (Ev.now _)
theorem ss_2_1_0_0 : sl (k + 11) 0 0 2 1 E 2 1 o = sl k 0 1 2 1 E 2 1 (sq E (sq E (sq E (sq E o 0 1) 2 3) 4 6) 5 5) := by kernel_rfl
theorem rs_2_1_0_0 : rR.l0 (k + 7) 0 2 0 2 1 E 2 1 o = rR.l0 k 0 2 1 2 1 E 2 1 (sq E (sq E (sq E (sq E o 0 1) 2 3) 4 6) 5 5) := by kernel_rfl
theorem ss_2_1_0_1 : sl (k + 11) 0 1 2 1 E 2 1 o = sl k 0 2 2 1 E 2 1 (sq E (sq E (sq E (sq E o 1 0) 3 2) 5 5) 6 4) := by kernel_rfl
theorem rs_2_1_0_1 : rR.l0 (k + 7) 0 2 1 2 1 E 2 1 o = rR.l0 k 0 2 2 2 1 E 2 1 (sq E (sq E (sq E (sq E o 1 0) 3 2) 5 5) 6 4) := by kernel_rfl
def L_2_1_0 : List (Nat × Nat) := [(0, 1), (2, 3), (4, 6), (5, 5), (1, 0), (3, 2), (5, 5), (6, 4)]
def P_2_1_0 : List Nat := [1, 0, 3, 2, 6, 5, 4]
theorem nest_2_1_0 (E : Int) : fldI E L_2_1_0 = (sq E (sq E (sq E (sq E ((sq E (sq E (sq E (sq E 0 0 1) 2 3) 4 6) 5 5)) 1 0) 3 2) 5 5) 6 4) := rfl
theorem same_2_1_0 (E : Int) : Ev (fun k => spec_l03Reflected.f k 2 1 E 0) (2, 1, fldI E L_2_1_0) ∧ Ev (fun k => rR.f k 2 1 E 0) (2, 1, fldI E L_2_1_0) := by
  rw [nest_2_1_0]
  refine ⟨?_, ?_⟩
  · refine ev_add (f := fun k => sl k 0 0 2 1 E 2 1 0) 1 (fun k => by kernel_rfl) ?_
    refine ev_add 11 (fun k => ss_2_1_0_0 k E _) ?_
    refine ev_add 11 (fun k => ss_2_1_0_1 k E _) ?_
    exact ev_add (f := fun _ => some (2, 1, (sq E (sq E (sq E (sq E ((sq E (sq E (sq E (sq E 0 0 1) 2 3) 4 6) 5 5)) 1 0) 3 2) 5 5) 6 4))) 1 (fun k => by kernel_rfl) (Ev.now _)
  · refine ev_add (f := fun k => rR.l0 k 0 2 0 2 1 E 2 1 0) 1 (fun k => by kernel_rfl) ?_
    refine ev_add 7 (fun k => rs_2_1_0_0 k E _) ?_
    refine ev_add 7 (fun k => rs_2_1_0_1 k E _) ?_
    exact ev_add (f := fun _ => some (2, 1, (sq E (sq E (sq E (sq E ((sq E (sq E (sq E (sq E 0 0 1) 2 3) 4 6) 5 5)) 1 0) 3 2) 5 5) 6 4))) 1 (fun k => by kernel_rfl) (Ev.now _)
theorem ss_2_1_1_0 : sl (k + 11) 1 0 2 1 E 2 1 o = sl k 1 1 2 1 E 2 1 (sq E (sq E (sq E (sq E o 0 2) 2 0) 4 4) 5 5) := by kernel_rfl
theorem rs_2_1_1_0 : rR.l0 (k + 7) 1 2 0 2 1 E 2 1 o = rR.l0 k 1 2 1 2 1 E 2 1 (sq E (sq E (sq E (sq E o 0 2) 2 0) 4 4) 5 5) := by kernel_rfl
theorem ss_2_1_1_1 : sl (k + 11) 1 1 2 1 E 2 1 o = sl k 1 2 2 1 E 2 1 (sq E (sq E (sq E (sq E o 1 3) 3 1) 5 5) 6 6) := by kernel_rfl
theorem rs_2_1_1_1 : rR.l0 (k + 7) 1 2 1 2 1 E 2 1 o = rR.l0 k 1 2 2 2 1 E 2 1 (sq E (sq E (sq E (sq E o 1 3) 3 1) 5 5) 6 6) := by kernel_rfl
def L_2_1_1 : List (Nat × Nat) := [(0, 2), (2, 0), (4, 4), (5, 5), (1, 3), (3, 1), (5, 5), (6, 6)]
def P_2_1_1 : List Nat := [2, 3, 0, 1, 4, 5, 6]
theorem nest_2_1_1 (E : Int) : fldI E L_2_1_1 = (sq E (sq E (sq E (sq E ((sq E (sq E (sq E (sq E 0 0 2) 2 0) 4 4) 5 5)) 1 3) 3 1) 5 5) 6 6) := rfl
theorem same_2_1_1 (E : Int) : Ev (fun k => spec_l03Reflected.f k 2 1 E 1) (2, 1, fldI E L_2_1_1) ∧ Ev (fun k => rR.f k 2 1 E 1) (2, 1, fldI E L_2_1_1) := by
  rw [nest_2_1_1]
  refine ⟨?_, ?_⟩
  · refine ev_add (f := fun k => sl k 1 0 2 1 E 2 1 0) 1 (fun k => by kernel_rfl) ?_
    refine ev_add 11 (fun k => ss_2_1_1_0 k E _) ?_
    refine ev_add 11 (fun k => ss_2_1_1_1 k E _) ?_
    exact ev_add (f := fun _ => some (2, 1, (sq E (sq E (sq E (sq E ((sq E (sq E (sq E (sq E 0 0 2) 2 0) 4 4) 5 5)) 1 3) 3 1) 5 5) 6 6))) 1 (fun k => by kernel_rfl) (Ev.now _)
  · refine ev_add (f := fun k => rR.l0 k 1 2 0 2 1 E 2 1 0) 1 (fun k => by kernel_rfl) ?_
    refine ev_add 7 (fun k => rs_2_1_1_0 k E _) ?_
    refine ev_add 7 (fun k => rs_2_1_1_1 k E _) ?_
    exact ev_add (f := fun _ => some (2, 1, (sq E (sq E (sq E (sq E ((sq E (sq E (sq E (sq E 0 0 2) 2 0) 4 4) 5 5)) 1 3) 3 1) 5 5) 6 6))) 1 (fun k => by kernel_rfl) (Ev.now _)
theorem ss_2_1_2_0 : sl (k + 11) 2 0 2 1 E 1 2 o = sl k 2 1 2 1 E 1 2 (sq E (sq E (sq E (sq E o 0 3) 2 4) 4 0) 5 1) := by kernel_rfl
theorem rs_2_1_2_0 : rR.l0 (k + 7) 2 2 0 2 1 E 1 2 o = rR.l0 k 2 2 1 2 1 E 1 2 (sq E (sq E (sq E (sq E o 0 3) 2 4) 4 0) 5 1) := by kernel_rfl
theorem ss_2_1_2_1 : sl (k + 11) 2 1 2 1 E 1 2 o = sl k 2 2 2 1 E 1 2 (sq E (sq E (sq E (sq E o 1 5) 3 6) 5 1) 6 2) := by kernel_rfl
theorem rs_2_1_2_1 : rR.l0 (k + 7) 2 2 1 2 1 E 1 2 o = rR.l0 k 2 2 2 2 1 E 1 2 (sq E (sq E (sq E (sq E o 1 5) 3 6) 5 1) 6 2) := by kernel_rfl
def L_2_1_2 : List (Nat × Nat) := [(0, 3), (2, 4), (4, 0), (5, 1), (1, 5), (3, 6), (5, 1), (6, 2)]
def P_2_1_2 : List Nat := [4, 5, 6, 0, 2, 1, 3]
theorem nest_2_1_2 (E : Int) : fldI E L_2_1_2 = (sq E (sq E (sq E (sq E ((sq E (sq E (sq E (sq E 0 0 3) 2 4) 4 0) 5 1)) 1 5) 3 6) 5 1) 6 2) := rfl
theorem same_2_1_2 (E : Int) : Ev (fun k => spec_l03Reflected.f k 2 1 E 2) (1, 2, fldI E L_2_1_2) ∧ Ev (fun k => rR.f k 2 1 E 2) (1, 2, fldI E L_2_1_2) := by
  rw [nest_2_1_2]
  refine ⟨?_, ?_⟩
  · refine ev_add (f := fun k => sl k 2 0 2 1 E 1 2 0) 1 (fun k => by kernel_rfl) ?_
    refine ev_add 11 (fun k => ss_2_1_2_0 k E _) ?_
    refine ev_add 11 (fun k => ss_2_1_2_1 k E _) ?_
    exact ev_add (f := fun _ => some (1, 2, (sq E (sq E (sq E (sq E ((sq E (sq E (sq E (sq E 0 0 3) 2 4) 4 0) 5 1)) 1 5) 3 6) 5 1) 6 2))) 1 (fun k => by kernel_rfl) (Ev.now _)
  · refine ev_add (f := fun k => rR.l0 k 2 2 0 2 1 E 1 2 0) 1 (fun k => by kernel_rfl) ?_
    refine ev_add 7 (fun k => rs_2_1_2_0 k E _) ?_
    refine ev_add 7 (fun k => rs_2_1_2_1 k E _) ?_
    exact ev_add (f := fun _ => some (1, 2, (sq E (sq E (sq E (sq E ((sq E (sq E (sq E (sq E 0 0 3) 2 4) 4 0) 5 1)) 1 5) 3 6) 5 1) 6 2))) 1 (fun k => by kernel_rfl) (Ev.now _)
theorem ss_2_2_0_0 : sl (k + 11) 0 0 2 2 E 2 2 o = sl k 0 1 2 2 E 2 2 (sq E (sq E (sq E (sq E o 0 1) 2 3) 6 8) 7 7) := by kernel_rfl
theorem rs_2_2_0_0 : rR.l0 (k + 7) 0 4 0 2 2 E 2 2 o = rR.l0 k 0 4 1 2 2 E 2 2 (sq E (sq E (sq E (sq E o 0 1) 2 3) 6 8) 7 7) := by kernel_rfl
theorem ss_2_2_0_1 : sl (k + 11) 0 1 2 2 E 2 2 o = sl k 0 2 2 2 E 2 2 (sq E (sq E (sq E (sq E o 1 0) 3 2) 7 7) 8 6) := by kernel_rfl
theorem rs_2_2_0_1 : rR.l0 (k + 7) 0 4 1 2 2 E 2 2 o = rR.l0 k 0 4 2 2 2 E 2 2 (sq E (sq E (sq E (sq E o 1 0) 3 2) 7 7) 8 6) := by kernel_rfl
theorem ss_2_2_0_2 : sl (k + 11) 0 2 2 2 E 2 2 o = sl k 0 3 2 2 E 2 2 (sq E (sq E (sq E (sq E o 2 3) 4 5) 9 11) 10 10) := by kernel_rfl
theorem rs_2_2_0_2 : rR.l0 (k + 7) 0 4 2 2 2 E 2 2 o = rR.l0 k 0 4 3 2 2 E 2 2 (sq E (sq E (sq E (sq E o 2 3) 4 5) 9 11) 10 10) := by kernel_rfl
theorem ss_2_2_0_3 : sl (k + 11) 0 3 2 2 E 2 2 o = sl k 0 4 2 2 E 2 2 (sq E (sq E (sq E (sq E o 3 2) 5 4) 10 10) 11 9) := by kernel_rfl
theorem rs_2_2_0_3 : rR.l0 (k + 7) 0 4 3 2 2 E 2 2 o = rR.l0 k 0 4 4 2 2 E 2 2 (sq E (sq E (sq E (sq E o 3 2) 5 4) 10 10) 11 9) := by kernel_rfl
def L_2_2_0 : List (Nat × Nat) := [(0, 1), (2, 3), (6, 8), (7, 7), (1, 0), (3, 2), (7, 7), (8, 6), (2, 3), (4, 5), (9, 11), (10, 10), (3, 2), (5, 4), (10, 10), (11, 9)]
def P_2_2_0 : List Nat := [1, 0, 3, 2, 5, 4, 8, 7, 6, 11, 10, 9]
theorem nest_2_2_0 (E : Int) : fldI E L_2_2_0 = (sq E (sq E (sq E (sq E ((sq E (sq E (sq E (sq E ((sq E (sq E (sq E (sq E ((sq E (sq E (sq E (sq E 0 0 1) 2 3) 6 8) 7 7)) 1 0) 3 2) 7 7) 8 6)) 2 3) 4 5) 9 11) 10 10)) 3 2) 5 4) 10 10) 11 9) := rfl
theorem same_2_2_0 (E : Int) : Ev (fun k => spec_l03Reflected.f k 2 2 E 0) (2, 2, fldI E L_2_2_0) ∧ Ev (fun k => rR.f k 2 2 E 0) (2, 2, fldI E L_2_2_0) := by
  rw [nest_2_2_0]
  refine ⟨?_, ?_⟩
  · refine ev_add (f := fun k => sl k 0 0 2 2 E 2 2 0) 1 (fun k => by kernel_rfl) ?_
    refine ev_add 11 (fun k => ss_2_2_0_0 k E _) ?_
    refine ev_add 11 (fun k => ss_2_2_0_1 k E _) ?_
    refine ev_add 11 (fun k => ss_2_2_0_2 k E _) ?_
    refine ev_add 11 (fun k => ss_2_2_0_3 k E _) ?_
    exact ev_add (f := fun _ => some (2, 2, (sq E (sq E (sq E (sq E ((sq E (sq E (sq E (sq E ((sq E (sq E (sq E (sq E ((sq E (sq E (sq E (sq E 0 0 1) 2 3) 6 8) 7 7)) 1 0) 3 2) 7 7) 8 6)) 2 3) 4 5) 9 11) 10 10)) 3 2) 5 4) 10 10) 11 9))) 1 (fun k => by kernel_rfl) (Ev.now _)
  · refine ev_add (f := fun k => rR.l0 k 0 4 0 2 2 E 2 2 0) 1 (fun k => by kernel_rfl) ?_
    refine ev_add 7 (fun k => rs_2_2_0_0 k E _) ?_
    refine ev_add 7 (fun k => rs_2_2_0_1 k E _) ?_
    refine ev_add 7 (fun k => rs_2_2_0_2 k E _) ?_
    refine ev_add 7 (fun k => rs_2_2_0_3 k E _) ?_
    exact ev_add (f := fun _ => some (2, 2, (sq E (sq E (sq E (sq E ((sq E (sq E (sq E (sq E ((sq E (sq E (sq E (sq E ((sq E (sq E (sq E (sq E 0 0 1) 2 3) 6 8) 7 7)) 1 0) 3 2) 7 7) 8 6)) 2 3) 4 5) 9 11) 10 10)) 3 2) 5 4) 10 10) 11 9))) 1 (fun k => by kernel_rfl) (Ev.now _)
theorem ss_2_2_1_0 : sl (k + 11) 1 0 2 2 E 2 2 o = sl k 1 1 2 2 E 2 2 (sq E (sq E (sq E (sq E o 0 4) 2 2) 6 9) 7 10) := by kernel_rfl
theorem rs_2_2_1_0 : rR.l0 (k + 7) 1 4 0 2 2 E 2 2 o = rR.l0 k 1 4 1 2 2 E 2 2 (sq E (sq E (sq E (sq E o 0 4) 2 2) 6 9) 7 10) := by kernel_rfl
theorem ss_2_2_1_1 : sl (k + 11) 1 1 2 2 E 2 2 o = sl k 1 2 2 2 E 2 2 (sq E (sq E (sq E (sq E o 1 5) 3 3) 7 10) 8 11) := by kernel_rfl
theorem rs_2_2_1_1 : rR.l0 (k + 7) 1 4 1 2 2 E 2 2 o = rR.l0 k 1 4 2 2 2 E 2 2 (sq E (sq E (sq E (sq E o 1 5) 3 3) 7 10) 8 11) := by kernel_rfl
theorem ss_2_2_1_2 : sl (k + 11) 1 2 2 2 E 2 2 o = sl k 1 3 2 2 E 2 2 (sq E (sq E (sq E (sq E o 2 2) 4 0) 9 6) 10 7) := by kernel_rfl
theorem rs_2_2_1_2 : rR.l0 (k + 7) 1 4 2 2 2 E 2 2 o = rR.l0 k 1 4 3 2 2 E 2 2 (sq E (sq E (sq E (sq E o 2 2) 4 0) 9 6) 10 7) := by kernel_rfl
theorem ss_2_2_1_3 : sl (k + 11) 1 3 2 2 E 2 2 o = sl k 1 4 2 2 E 2 2 (sq E (sq E (sq E (sq E o 3 3) 5 1) 10 7) 11 8) := by kernel_rfl
theorem rs_2_2_1_3 : rR.l0 (k + 7) 1 4 3 2 2 E 2 2 o = rR.l0 k 1 4 4 2 2 E 2 2 (sq E (sq E (sq E (sq E o 3 3) 5 1) 10 7) 11 8) := by kernel_rfl
def L_2_2_1 : List (Nat × Nat) := [(0, 4), (2, 2), (6, 9), (7, 10), (1, 5), (3, 3), (7, 10), (8, 11), (2, 2), (4, 0), (9, 6), (10, 7), (3, 3), (5, 1), (10, 7), (11, 8)]
def P_2_2_1 : List Nat := [4, 5, 2, 3, 0, 1, 9, 10, 11, 6, 7, 8]
theorem nest_2_2_1 (E : Int) : fldI E L_2_2_1 = (sq E (sq E (sq E (sq E ((sq E (sq E (sq E (sq E ((sq E (sq E (sq E (sq E ((sq E (sq E (sq E (sq E 0 0 4) 2 2) 6 9) 7 10)) 1 5) 3 3) 7 10) 8 11)) 2 2) 4 0) 9 6) 10 7)) 3 3) 5 1) 10 7) 11 8) := rfl
theorem same_2_2_1 (E : Int) : Ev (fun k => spec_l03Reflected.f k 2 2 E 1) (2, 2, fldI E L_2_2_1) ∧ Ev (fun k => rR.f k 2 2 E 1) (2, 2, fldI E L_2_2_1) := by
  rw [nest_2_2_1]
  refine ⟨?_, ?_⟩
  · refine ev_add (f := fun k => sl k 1 0 2 2 E 2 2 0) 1 (fun k => by kernel_rfl) ?_
    refine ev_add 11 (fun k => ss_2_2_1_0 k E _) ?_
    refine ev_add 11 (fun k => ss_2_2_1_1 k E _) ?_
    refine ev_add 11 (fun k => ss_2_2_1_2 k E _) ?_
    refine ev_add 11 (fun k => ss_2_2_1_3 k E _) ?_
    exact ev_add (f := fun _ => some (2, 2, (sq E (sq E (sq E (sq E ((sq E (sq E (sq E (sq E ((sq E (sq E (sq E (sq E ((sq E (sq E (sq E (sq E 0 0 4) 2 2) 6 9) 7 10)) 1 5) 3 3) 7 10) 8 11)) 2 2) 4 0) 9 6) 10 7)) 3 3) 5 1) 10 7) 11 8))) 1 (fun k => by kernel_rfl) (Ev.now _)
  · refine ev_add (f := fun k => rR.l0 k 1 4 0 2 2 E 2 2 0) 1 (fun k => by kernel_rfl) ?_
    refine ev_add 7 (fun k => rs_2_2_1_0 k E _) ?_
    refine ev_add 7 (fun k => rs_2_2_1_1 k E _) ?_
    refine ev_add 7 (fun k => rs_2_2_1_2 k E _) ?_
    refine ev_add 7 (fun k => rs_2_2_1_3 k E _) ?_
    exact ev_add (f := fun _ => some (2, 2, (sq E (sq E (sq E (sq E ((sq E (sq E (sq E (sq E ((sq E (sq E (sq E (sq E ((sq E (sq E (sq E (sq E 0 0 4) 2 2) 6 9) 7 10)) 1 5) 3 3) 7 10) 8 11)) 2 2) 4 0) 9 6) 10 7)) 3 3) 5 1) 10 7) 11 8))) 1 (fun k => by kernel_rfl) (Ev.now _)
theorem ss_2_2_2_0 : sl (k + 11) 2 0 2 2 E 2 2 o = sl k 2 1 2 2 E 2 2 (sq E (sq E (sq E (sq E o 0 6) 2 7) 6 0) 7 2) := by kernel_rfl
theorem rs_2_2_2_0 : rR.l0 (k + 7) 2 4 0 2 2 E 2 2 o = rR.l0 k 2 4 1 2 2 E 2 2 (sq E (sq E (sq E (sq E o 0 6) 2 7) 6 0) 7 2) := by kernel_rfl
theorem ss_2_2_2_1 : sl (k + 11) 2 1 2 2 E 2 2 o = sl k 2 2 2 2 E 2 2 (sq E (sq E (sq E (sq E o 1 9) 3 10) 7 2) 8 4) := by kernel_rfl
theorem rs_2_2_2_1 : rR.l0 (k + 7) 2 4 1 2 2 E 2 2 o = rR.l0 k 2 4 2 2 2 E 2 2 (sq E (sq E (sq E (sq E o 1 9) 3 10) 7 2) 8 4) := by kernel_rfl
theorem ss_2_2_2_2 : sl (k + 11) 2 2 2 2 E 2 2 o = sl k 2 3 2 2 E 2 2 (sq E (sq E (sq E (sq E o 2 7) 4 8) 9 1) 10 3) := by kernel_rfl
theorem rs_2_2_2_2 : rR.l0 (k + 7) 2 4 2 2 2 E 2 2 o = rR.l0 k 2 4 3 2 2 E 2 2 (sq E (sq E (sq E (sq E o 2 7) 4 8) 9 1) 10 3) := by kernel_rfl
theorem ss_2_2_2_3 : sl (k + 11) 2 3 2 2 E 2 2 o = sl k 2 4 2 2 E 2 2 (sq E (sq E (sq E (sq E o 3 10) 5 11) 10 3) 11 5) := by kernel_rfl
theorem rs_2_2_2_3 : rR.l0 (k + 7) 2 4 3 2 2 E 2 2 o = rR.l0 k 2 4 4 2 2 E 2 2 (sq E (sq E (sq E (sq E o 3 10) 5 11) 10 3) 11 5) := by kernel_rfl
def L_2_2_2 : List (Nat × Nat) := [(0, 6), (2, 7), (6, 0), (7, 2), (1, 9), (3, 10), (7, 2), (8, 4), (2, 7), (4, 8), (9, 1), (10, 3), (3, 10), (5, 11), (10, 3), (11, 5)]
def P_2_2_2 : List Nat := [6, 9, 7, 10, 8, 11, 0, 2, 4, 1, 3, 5]
theorem nest_2_2_2 (E : Int) : fldI E L_2_2_2 = (sq E (sq E (sq E (sq E ((sq E (sq E (sq E (sq E ((sq E (sq E (sq E (sq E ((sq E (sq E (sq E (sq E 0 0 6) 2 7) 6 0) 7 2)) 1 9) 3 10) 7 2) 8 4)) 2 7) 4 8) 9 1) 10 3)) 3 10) 5 11) 10 3) 11 5) := rfl
theorem same_2_2_2 (E : Int) : Ev (fun k => spec_l03Reflected.f k 2 2 E 2) (2, 2, fldI E L_2_2_2) ∧ Ev (fun k => rR.f k 2 2 E 2) (2, 2, fldI E L_2_2_2) := by
  rw [nest_2_2_2]
  refine ⟨?_, ?_⟩
  · refine ev_add (f := fun k => sl k 2 0 2 2 E 2 2 0) 1 (fun k => by kernel_rfl) ?_
    refine ev_add 11 (fun k => ss_2_2_2_0 k E _) ?_
    refine ev_add 11 (fun k => ss_2_2_2_1 k E _) ?_
    refine ev_add 11 (fun k => ss_2_2_2_2 k E _) ?_
    refine ev_add 11 (fun k => ss_2_2_2_3 k E _) ?_
    exact ev_add (f := fun _ => some (2, 2, (sq E (sq E (sq E (sq E ((sq E (sq E (sq E (sq E ((sq E (sq E (sq E (sq E ((sq E (sq E (sq E (sq E 0 0 6) 2 7) 6 0) 7 2)) 1 9) 3 10) 7 2) 8 4)) 2 7) 4 8) 9 1) 10 3)) 3 10) 5 11) 10 3) 11 5))) 1 (fun k => by kernel_rfl) (Ev.now _)
  · refine ev_add (f := fun k => rR.l0 k 2 4 0 2 2 E 2 2 0) 1 (fun k => by kernel_rfl) ?_
    refine ev_add 7 (fun k => rs_2_2_2_0 k E _) ?_
    refine ev_add 7 (fun k => rs_2_2_2_1 k E _) ?_
    refine ev_add 7 (fun k => rs_2_2_2_2 k E _) ?_
    refine ev_add 7 (fun k => rs_2_2_2_3 k E _) ?_
    exact ev_add (f := fun _ => some (2, 2, (sq E (sq E (sq E (sq E ((sq E (sq E (sq E (sq E ((sq E (sq E (sq E (sq E ((sq E (sq E (sq E (sq E 0 0 6) 2 7) 6 0) 7 2)) 1 9) 3 10) 7 2) 8 4)) 2 7) 4 8) 9 1) 10 3)) 3 10) 5 11) 10 3) 11 5))) 1 (fun k => by kernel_rfl) (Ev.now _)
theorem ss_2_3_0_0 : sl (k + 11) 0 0 2 3 E 2 3 o = sl k 0 1 2 3 E 2 3 (sq E (sq E (sq E (sq E o 0 1) 2 3) 8 10) 9 9) := by kernel_rfl
theorem rs_2_3_0_0 : rR.l0 (k + 7) 0 6 0 2 3 E 2 3 o = rR.l0 k 0 6 1 2 3 E 2 3 (sq E (sq E (sq E (sq E o 0 1) 2 3) 8 10) 9 9) := by kernel_rfl
theorem ss_2_3_0_1 : sl (k + 11) 0 1 2 3 E 2 3 o = sl k 0 2 2 3 E 2 3 (sq E (sq E (sq E (sq E o 1 0) 3 2) 9 9) 10 8) := by kernel_rfl
theorem rs_2_3_0_1 : rR.l0 (k + 7) 0 6 1 2 3 E 2 3 o = rR.l0 k 0 6 2 2 3 E 2 3 (sq E (sq E (sq E (sq E o 1 0) 3 2) 9 9) 10 8) := by kernel_rfl
theorem ss_2_3_0_2 : sl (k + 11) 0 2 2 3 E 2 3 o = sl k 0 3 2 3 E 2 3 (sq E (sq E (sq E (sq E o 2 3) 4 5) 11 13) 12 12) := by kernel_rfl
theorem rs_2_3_0_2 : rR.l0 (k + 7) 0 6 2 2 3 E 2 3 o = rR.l0 k 0 6 3 2 3 E 2 3 (sq E (sq E (sq E (sq E o 2 3) 4 5) 11 13) 12 12) := by kernel_rfl
theorem ss_2_3_0_3 : sl (k + 11) 0 3 2 3 E 2 3 o = sl k 0 4 2 3 E 2 3 (sq E (sq E (sq E (sq E o 3 2) 5 4) 12 12) 13 11) := by kernel_rfl
theorem rs_2_3_0_3 : rR.l0 (k + 7) 0 6 3 2 3 E 2 3 o = rR.l0 k 0 6 4 2 3 E 2 3 (sq E (sq E (sq E (sq E o 3 2) 5 4) 12 12) 13 11) := by kernel_rfl
theorem ss_2_3_0_4 : sl (k + 11) 0 4 2 3 E 2 3 o = sl k 0 5 2 3 E 2 3 (sq E (sq E (sq E (sq E o 4 5) 6 7) 14 16) 15 15) := by kernel_rfl
theorem rs_2_3_0_4 : rR.l0 (k + 7) 0 6 4 2 3 E 2 3 o = rR.l0 k 0 6 5 2 3 E 2 3 (sq E (sq E (sq E (sq E o 4 5) 6 7) 14 16) 15 15) := by kernel_rfl
theorem ss_2_3_0_5 : sl (k + 11) 0 5 2 3 E 2 3 o = sl k 0 6 2 3 E 2 3 (sq E (sq E (sq E (sq E o 5 4) 7 6) 15 15) 16 14) := by kernel_rfl
theorem rs_2_3_0_5 : rR.l0 (k + 7) 0 6 5 2 3 E 2 3 o = rR.l0 k 0 6 6 2 3 E 2 3 (sq E (sq E (sq E (sq E o 5 4) 7 6) 15 15) 16 14) := by kernel_rfl
def L_2_3_0 : List (Nat × Nat) := [(0, 1), (2, 3), (8, 10), (9, 9), (1, 0), (3, 2), (9, 9), (10, 8), (2, 3), (4, 5), (11, 13), (12, 12), (3, 2), (5, 4), (12, 12), (13, 11), (4, 5), (6, 7), (14, 16), (15, 15), (5, 4), (7, 6), (15, 15), (16, 14)]
def P_2_3_0 : List Nat := [1, 0, 3, 2, 5, 4, 7, 6, 10, 9, 8, 13, 12, 11, 16, 15, 14]
theorem nest_2_3_0 (E : Int) : fldI E L_2_3_0 = (sq E (sq E (sq E (sq E ((sq E (sq E (sq E (sq E ((sq E (sq E (sq E (sq E ((sq E (sq E (sq E (sq E ((sq E (sq E (sq E (sq E ((sq E (sq E (sq E (sq E 0 0 1) 2 3) 8 10) 9 9)) 1 0) 3 2) 9 9) 10 8)) 2 3) 4 5) 11 13) 12 12)) 3 2) 5 4) 12 12) 13 11)) 4 5) 6 7) 14 16) 15 15)) 5 4) 7 6) 15 15) 16 14) := rfl
theorem same_2_3_0 (E : Int) : Ev (fun k => spec_l03Reflected.f k 2 3 E 0) (2, 3, fldI E L_2_3_0) ∧ Ev (fun k => rR.f k 2 3 E 0) (2, 3, fldI E L_2_3_0) := by
  rw [nest_2_3_0]
  refine ⟨?_, ?_⟩
  · refine ev_add (f := fun k => sl k 0 0 2 3 E 2 3 0) 1 (fun k => by kernel_rfl) ?_
    refine ev_add 11 (fun k => ss_2_3_0_0 k E _) ?_
    refine ev_add 11 (fun k => ss_2_3_0_1 k E _) ?_
    refine ev_add 11 (fun k => ss_2_3_0_2 k E _) ?_
    refine ev_add 11 (fun k => ss_2_3_0_3 k E _) ?_
    refine ev_add 11 (fun k => ss_2_3_0_4 k E _) ?_
    refine ev_add 11 (fun k => ss_2_3_0_5 k E _) ?_
    exact ev_add (f := fun _ => some (2, 3, (sq E (sq E (sq E (sq E ((sq E (sq E (sq E (sq E ((sq E (sq E (sq E (sq E ((sq E (sq E (sq E (sq E ((sq E (sq E (sq E (sq E ((sq E (sq E (sq E (sq E 0 0 1) 2 3) 8 10) 9 9)) 1 0) 3 2) 9 9) 10 8)) 2 3) 4 5) 11 13) 12 12)) 3 2) 5 4) 12 12) 13 11)) 4 5) 6 7) 14 16) 15 15)) 5 4) 7 6) 15 15) 16 14))) 1 (fun k => by kernel_rfl) (Ev.now _)
  · refine ev_add (f := fun k => rR.l0 k 0 6 0 2 3 E 2 3 0) 1 (fun k => by kernel_rfl) ?_
    refine ev_add 7 (fun k => rs_2_3_0_0 k E _) ?_
    refine ev_add 7 (fun k => rs_2_3_0_1 k E _) ?_
    refine ev_add 7 (fun k => rs_2_3_0_2 k E _) ?_
    refine ev_add 7 (fun k => rs_2_3_0_3 k E _) ?_
    refine ev_add 7 (fun k => rs_2_3_0_4 k E _) ?_
    refine ev_add 7 (fun k => rs_2_3_0_5 k E _) ?_
    exact ev_add (f := fun _ => some (2, 3, (sq E (sq E (sq E (sq E ((sq E (sq E (sq E (sq E ((sq E (sq E (sq E (sq E ((sq E (sq E (sq E (sq E ((sq E (sq E (sq E (sq E ((sq E (sq E (sq E (sq E 0 0 1) 2 3) 8 10) 9 9)) 1 0) 3 2) 9 9) 10 8)) 2 3) 4 5) 11 13) 12 12)) 3 2) 5 4) 12 12) 13 11)) 4 5) 6 7) 14 16) 15 15)) 5 4) 7 6) 15 15) 16 14))) 1 (fun k => by kernel_rfl) (Ev.now _)
theorem ss_2_3_1_0 : sl (k + 11) 1 0 2 3 E 2 3 o = sl k 1 1 2 3 E 2 3 (sq E (sq E (sq E (sq E o 0 6) 2 4) 8 14) 9 15) := by kernel_rfl
theorem rs_2_3_1_0 : rR.l0 (k + 7) 1 6 0 2 3 E 2 3 o = rR.l0 k 1 6 1 2 3 E 2 3 (sq E (sq E (sq E (sq E o 0 6) 2 4) 8 14) 9 15) := by kernel_rfl
theorem ss_2_3_1_1 : sl (k + 11) 1 1 2 3 E 2 3 o = sl k 1 2 2 3 E 2 3 (sq E (sq E (sq E (sq E o 1 7) 3 5) 9 15) 10 16) := by kernel_rfl
theorem rs_2_3_1_1 : rR.l0 (k + 7) 1 6 1 2 3 E 2 3 o = rR.l0 k 1 6 2 2 3 E 2 3 (sq E (sq E (sq E (sq E o 1 7) 3 5) 9 15) 10 16) := by kernel_rfl
theorem ss_2_3_1_2 : sl (k + 11) 1 2 2 3 E 2 3 o = sl k 1 3 2 3 E 2 3 (sq E (sq E (sq E (sq E o 2 4) 4 2) 11 11) 12 12) := by kernel_rfl
theorem rs_2_3_1_2 : rR.l0 (k + 7) 1 6 2 2 3 E 2 3 o = rR.l0 k 1 6 3 2 3 E 2 3 (sq E (sq E (sq E (sq E o 2 4) 4 2) 11 11) 12 12) := by kernel_rfl
theorem ss_2_3_1_3 : sl (k + 11) 1 3 2 3 E 2 3 o = sl k 1 4 2 3 E 2 3 (sq E (sq E (sq E (sq E o 3 5) 5 3) 12 12) 13 13) := by kernel_rfl
theorem rs_2_3_1_3 : rR.l0 (k + 7) 1 6 3 2 3 E 2 3 o = rR.l0 k 1 6 4 2 3 E 2 3 (sq E (sq E (sq E (sq E o 3 5) 5 3) 12 12) 13 13) := by kernel_rfl
theorem ss_2_3_1_4 : sl (k + 11) 1 4 2 3 E 2 3 o = sl k 1 5 2 3 E 2 3 (sq E (sq E (sq E (sq E o 4 2) 6 0) 14 8) 15 9) := by kernel_rfl
theorem rs_2_3_1_4 : rR.l0 (k + 7) 1 6 4 2 3 E 2 3 o = rR.l0 k 1 6 5 2 3 E 2 3 (sq E (sq E (sq E (sq E o 4 2) 6 0) 14 8) 15 9) := by kernel_rfl
theorem ss_2_3_1_5 : sl (k + 11) 1 5 2 3 E 2 3 o = sl k 1 6 2 3 E 2 3 (sq E (sq E (sq E (sq E o 5 3) 7 1) 15 9) 16 10) := by kernel_rfl
theorem rs_2_3_1_5 : rR.l0 (k + 7) 1 6 5 2 3 E 2 3 o = rR.l0 k 1 6 6 2 3 E 2 3 (sq E (sq E (sq E (sq E o 5 3) 7 1) 15 9) 16 10) := by kernel_rfl
def L_2_3_1 : List (Nat × Nat) := [(0, 6), (2, 4), (8, 14), (9, 15), (1, 7), (3, 5), (9, 15), (10, 16), (2, 4), (4, 2), (11, 11), (12, 12), (3, 5), (5, 3), (12, 12), (13, 13), (4, 2), (6, 0), (14, 8), (15, 9), (5, 3), (7, 1), (15, 9), (16, 10)]
def P_2_3_1 : List Nat := [6, 7, 4, 5, 2, 3, 0, 1, 14, 15, 16, 11, 12, 13, 8, 9, 10]
theorem nest_2_3_1 (E : Int) : fldI E L_2_3_1 = (sq E (sq E (sq E (sq E ((sq E (sq E (sq E (sq E ((sq E (sq E (sq E (sq E ((sq E (sq E (sq E (sq E ((sq E (sq E (sq E (sq E ((sq E (sq E (sq E (sq E 0 0 6) 2 4) 8 14) 9 15)) 1 7) 3 5) 9 15) 10 16)) 2 4) 4 2) 11 11) 12 12)) 3 5) 5 3) 12 12) 13 13)) 4 2) 6 0) 14 8) 15 9)) 5 3) 7 1) 15 9) 16 10) := rfl
theorem same_2_3_1 (E : Int) : Ev (fun k => spec_l03Reflected.f k 2 3 E 1) (2, 3, fldI E L_2_3_1) ∧ Ev (fun k => rR.f k 2 3 E 1) (2, 3, fldI E L_2_3_1) := by
  rw [nest_2_3_1]
  refine ⟨?_, ?_⟩
  · refine ev_add (f := fun k => sl k 1 0 2 3 E 2 3 0) 1 (fun k => by kernel_rfl) ?_
    refine ev_add 11 (fun k => ss_2_3_1_0 k E _) ?_
    refine ev_add 11 (fun k => ss_2_3_1_1 k E _) ?_
    refine ev_add 11 (fun k => ss_2_3_1_2 k E _) ?_
    refine ev_add 11 (fun k => ss_2_3_1_3 k E _) ?_
    refine ev_add 11 (fun k => ss_2_3_1_4 k E _) ?_
    refine ev_add 11 (fun k => ss_2_3_1_5 k E _) ?_
    exact ev_add (f := fun _ => some (2, 3, (sq E (sq E (sq E (sq E ((sq E (sq E (sq E (sq E ((sq E (sq E (sq E (sq E ((sq E (sq E (sq E (sq E ((sq E (sq E (sq E (sq E ((sq E (sq E (sq E (sq E 0 0 6) 2 4) 8 14) 9 15)) 1 7) 3 5) 9 15) 10 16)) 2 4) 4 2) 11 11) 12 12)) 3 5) 5 3) 12 12) 13 13)) 4 2) 6 0) 14 8) 15 9)) 5 3) 7 1) 15 9) 16 10))) 1 (fun k => by kernel_rfl) (Ev.now _)
  · refine ev_add (f := fun k => rR.l0 k 1 6 0 2 3 E 2 3 0) 1 (fun k => by kernel_rfl) ?_
    refine ev_add 7 (fun k => rs_2_3_1_0 k E _) ?_
    refine ev_add 7 (fun k => rs_2_3_1_1 k E _) ?_
    refine ev_add 7 (fun k => rs_2_3_1_2 k E _) ?_
    refine ev_add 7 (fun k => rs_2_3_1_3 k E _) ?_
    refine ev_add 7 (fun k => rs_2_3_1_4 k E _) ?_
    refine ev_add 7 (fun k => rs_2_3_1_5 k E _) ?_
    exact ev_add (f := fun _ => some (2, 3, (sq E (sq E (sq E (sq E ((sq E (sq E (sq E (sq E ((sq E (sq E (sq E (sq E ((sq E (sq E (sq E (sq E ((sq E (sq E (sq E (sq E ((sq E (sq E (sq E (sq E 0 0 6) 2 4) 8 14) 9 15)) 1 7) 3 5) 9 15) 10 16)) 2 4) 4 2) 11 11) 12 12)) 3 5) 5 3) 12 12) 13 13)) 4 2) 6 0) 14 8) 15 9)) 5 3) 7 1) 15 9) 16 10))) 1 (fun k => by kernel_rfl) (Ev.now _)
theorem ss_2_3_2_0 : sl (k + 11) 2 0 2 3 E 3 2 o = sl k 2 1 2 3 E 3 2 (sq E (sq E (sq E (sq E o 0 9) 2 10) 8 0) 9 3) := by kernel_rfl
theorem rs_2_3_2_0 : rR.l0 (k + 7) 2 6 0 2 3 E 3 2 o = rR.l0 k 2 6 1 2 3 E 3 2 (sq E (sq E (sq E (sq E o 0 9) 2 10) 8 0) 9 3) := by kernel_rfl
theorem ss_2_3_2_1 : sl (k + 11) 2 1 2 3 E 3 2 o = sl k 2 2 2 3 E 3 2 (sq E (sq E (sq E (sq E o 1 13) 3 14) 9 3) 10 6) := by kernel_rfl
theorem rs_2_3_2_1 : rR.l0 (k + 7) 2 6 1 2 3 E 3 2 o = rR.l0 k 2 6 2 2 3 E 3 2 (sq E (sq E (sq E (sq E o 1 13) 3 14) 9 3) 10 6) := by kernel_rfl
theorem ss_2_3_2_2 : sl (k + 11) 2 2 2 3 E 3 2 o = sl k 2 3 2 3 E 3 2 (sq E (sq E (sq E (sq E o 2 10) 4 11) 11 1) 12 4) := by kernel_rfl
theorem rs_2_3_2_2 : rR.l0 (k + 7) 2 6 2 2 3 E 3 2 o = rR.l0 k 2 6 3 2 3 E 3 2 (sq E (sq E (sq E (sq E o 2 10) 4 11) 11 1) 12 4) := by kernel_rfl
theorem ss_2_3_2_3 : sl (k + 11) 2 3 2 3 E 3 2 o = sl k 2 4 2 3 E 3 2 (sq E (sq E (sq E (sq E o 3 14) 5 15) 12 4) 13 7) := by kernel_rfl
theorem rs_2_3_2_3 : rR.l0 (k + 7) 2 6 3 2 3 E 3 2 o = rR.l0 k 2 6 4 2 3 E 3 2 (sq E (sq E (sq E (sq E o 3 14) 5 15) 12 4) 13 7) := by kernel_rfl
theorem ss_2_3_2_4 : sl (k + 11) 2 4 2 3 E 3 2 o = sl k 2 5 2 3 E 3 2 (sq E (sq E (sq E (sq E o 4 11) 6 12) 14 2) 15 5) := by kernel_rfl
theorem rs_2_3_2_4 : rR.l0 (k + 7) 2 6 4 2 3 E 3 2 o = rR.l0 k 2 6 5 2 3 E 3 2 (sq E (sq E (sq E (sq E o 4 11) 6 12) 14 2) 15 5) := by kernel_rfl
theorem ss_2_3_2_5 : sl (k + 11) 2 5 2 3 E 3 2 o = sl k 2 6 2 3 E 3 2 (sq E (sq E (sq E (sq E o 5 15) 7 16) 15 5) 16 8) := by kernel_rfl
theorem rs_2_3_2_5 : rR.l0 (k + 7) 2 6 5 2 3 E 3 2 o = rR.l0 k 2 6 6 2 3 E 3 2 (sq E (sq E (sq E (sq E o 5 15) 7 16) 15 5) 16 8) := by kernel_rfl
def L_2_3_2 : List (Nat × Nat) := [(0, 9), (2, 10), (8, 0), (9, 3), (1, 13), (3, 14), (9, 3), (10, 6), (2, 10), (4, 11), (11, 1), (12, 4), (3, 14), (5, 15), (12, 4), (13, 7), (4, 11), (6, 12), (14, 2), (15, 5), (5, 15), (7, 16), (15, 5), (16, 8)]
def P_2_3_2 : List Nat := [8, 11, 14, 9, 12, 15, 10, 13, 16, 0, 2, 4, 6, 1, 3, 5, 7]
theorem nest_2_3_2 (E : Int) : fldI E L_2_3_2 = (sq E (sq E (sq E (sq E ((sq E (sq E (sq E (sq E ((sq E (sq E (sq E (sq E ((sq E (sq E (sq E (sq E ((sq E (sq E (sq E (sq E ((sq E (sq E (sq E (sq E 0 0 9) 2 10) 8 0) 9 3)) 1 13) 3 14) 9 3) 10 6)) 2 10) 4 11) 11 1) 12 4)) 3 14) 5 15) 12 4) 13 7)) 4 11) 6 12) 14 2) 15 5)) 5 15) 7 16) 15 5) 16 8) := rfl
theorem same_2_3_2 (E : Int) : Ev (fun k => spec_l03Reflected.f k 2 3 E 2) (3, 2, fldI E L_2_3_2) ∧ Ev (fun k => rR.f k 2 3 E 2) (3, 2, fldI E L_2_3_2) := by
  rw [nest_2_3_2]
  refine ⟨?_, ?_⟩
  · refine ev_add (f := fun k => sl k 2 0 2 3 E 3 2 0) 1 (fun k => by kernel_rfl) ?_
    refine ev_add 11 (fun k => ss_2_3_2_0 k E _) ?_
    refine ev_add 11 (fun k => ss_2_3_2_1 k E _) ?_
    refine ev_add 11 (fun k => ss_2_3_2_2 k E _) ?_
    refine ev_add 11 (fun k => ss_2_3_2_3 k E _) ?_
    refine ev_add 11 (fun k => ss_2_3_2_4 k E _) ?_
    refine ev_add 11 (fun k => ss_2_3_2_5 k E _) ?_
    exact ev_add (f := fun _ => some (3, 2, (sq E (sq E (sq E (sq E ((sq E (sq E (sq E (sq E ((sq E (sq E (sq E (sq E ((sq E (sq E (sq E (sq E ((sq E (sq E (sq E (sq E ((sq E (sq E (sq E (sq E 0 0 9) 2 10) 8 0) 9 3)) 1 13) 3 14) 9 3) 10 6)) 2 10) 4 11) 11 1) 12 4)) 3 14) 5 15) 12 4) 13 7)) 4 11) 6 12) 14 2) 15 5)) 5 15) 7 16) 15 5) 16 8))) 1 (fun k => by kernel_rfl) (Ev.now _)
  · refine ev_add (f := fun k => rR.l0 k 2 6 0 2 3 E 3 2 0) 1 (fun k => by kernel_rfl) ?_
    refine ev_add 7 (fun k => rs_2_3_2_0 k E _) ?_
    refine ev_add 7 (fun k => rs_2_3_2_1 k E _) ?_
    refine ev_add 7 (fun k => rs_2_3_2_2 k E _) ?_
    refine ev_add 7 (fun k => rs_2_3_2_3 k E _) ?_
    refine ev_add 7 (fun k => rs_2_3_2_4 k E _) ?_
    refine ev_add 7 (fun k => rs_2_3_2_5 k E _) ?_
    exact ev_add (f := fun _ => some (3, 2, (sq E (sq E (sq E (sq E ((sq E (sq E (sq E (sq E ((sq E (sq E (sq E (sq E ((sq E (sq E (sq E (sq E ((sq E (sq E (sq E (sq E ((sq E (sq E (sq E (sq E 0 0 9) 2 10) 8 0) 9 3)) 1 13) 3 14) 9 3) 10 6)) 2 10) 4 11) 11 1) 12 4)) 3 14) 5 15) 12 4) 13 7)) 4 11) 6 12) 14 2) 15 5)) 5 15) 7 16) 15 5) 16 8))) 1 (fun k => by kernel_rfl) (Ev.now _)
theorem ss_3_1_0_0 : sl (k + 11) 0 0 3 1 E 3 1 o = sl k 0 1 3 1 E 3 1 (sq E (sq E (sq E (sq E o 0 2) 3 5) 6 9) 7 8) := by kernel_rfl
theorem rs_3_1_0_0 : rR.l0 (k + 7) 0 3 0 3 1 E 3 1 o = rR.l0 k 0 3 1 3 1 E 3 1 (sq E (sq E (sq E (sq E o 0 2) 3 5) 6 9) 7 8) := by kernel_rfl
theorem ss_3_1_0_1 : sl (k + 11) 0 1 3 1 E 3 1 o = sl k 0 2 3 1 E 3 1 (sq E (sq E (sq E (sq E o 1 1) 4 4) 7 8) 8 7) := by kernel_rfl
theorem rs_3_1_0_1 : rR.l0 (k + 7) 0 3 1 3 1 E 3 1 o = rR.l0 k 0 3 2 3 1 E 3 1 (sq E (sq E (sq E (sq E o 1 1) 4 4) 7 8) 8 7) := by kernel_rfl
theorem ss_3_1_0_2 : sl (k + 11) 0 2 3 1 E 3 1 o = sl k 0 3 3 1 E 3 1 (sq E (sq E (sq E (sq E o 2 0) 5 3) 8 7) 9 6) := by kernel_rfl
theorem rs_3_1_0_2 : rR.l0 (k + 7) 0 3 2 3 1 E 3 1 o = rR.l0 k 0 3 3 3 1 E 3 1 (sq E (sq E (sq E (sq E o 2 0) 5 3) 8 7) 9 6) := by kernel_rfl
def L_3_1_0 : List (Nat × Nat) := [(0, 2), (3, 5), (6, 9), (7, 8), (1, 1), (4, 4), (7, 8), (8, 7), (2, 0), (5, 3), (8, 7), (9, 6)]
def P_3_1_0 : List Nat := [2, 1, 0, 5, 4, 3, 9, 8, 7, 6]
theorem nest_3_1_0 (E : Int) : fldI E L_3_1_0 = (sq E (sq E (sq E (sq E ((sq E (sq E (sq E (sq E ((sq E (sq E (sq E (sq E 0 0 2) 3 5) 6 9) 7 8)) 1 1) 4 4) 7 8) 8 7)) 2 0) 5 3) 8 7) 9 6) := rfl
theorem same_3_1_0 (E : Int) : Ev (fun k => spec_l03Reflected.f k 3 1 E 0) (3, 1, fldI E L_3_1_0) ∧ Ev (fun k => rR.f k 3 1 E 0) (3, 1, fldI E L_3_1_0) := by
  rw [nest_3_1_0]
  refine ⟨?_, ?_⟩
  · refine ev_add (f := fun k => sl k 0 0 3 1 E 3 1 0) 1 (fun k => by kernel_rfl) ?_
    refine ev_add 11 (fun k => ss_3_1_0_0 k E _) ?_
    refine ev_add 11 (fun k => ss_3_1_0_1 k E _) ?_
    refine ev_add 11 (fun k => ss_3_1_0_2 k E _) ?_
    exact ev_add (f := fun _ => some (3, 1, (sq E (sq E (sq E (sq E ((sq E (sq E (sq E (sq E ((sq E (sq E (sq E (sq E 0 0 2) 3 5) 6 9) 7 8)) 1 1) 4 4) 7 8) 8 7)) 2 0) 5 3) 8 7) 9 6))) 1 (fun k => by kernel_rfl) (Ev.now _)
  · refine ev_add (f := fun k => rR.l0 k 0 3 0 3 1 E 3 1 0) 1 (fun k => by kernel_rfl) ?_
    refine ev_add 7 (fun k => rs_3_1_0_0 k E _) ?_
    refine ev_add 7 (fun k => rs_3_1_0_1 k E _) ?_
    refine ev_add 7 (fun k => rs_3_1_0_2 k E _) ?_
    exact ev_add (f := fun _ => some (3, 1, (sq E (sq E (sq E (sq E ((sq E (sq E (sq E (sq E ((sq E (sq E (sq E (sq E 0 0 2) 3 5) 6 9) 7 8)) 1 1) 4 4) 7 8) 8 7)) 2 0) 5 3) 8 7) 9 6))) 1 (fun k => by kernel_rfl) (Ev.now _)
theorem ss_3_1_1_0 : sl (k + 11) 1 0 3 1 E 3 1 o = sl k 1 1 3 1 E 3 1 (sq E (sq E (sq E (sq E o 0 3) 3 0) 6 6) 7 7) := by kernel_rfl
theorem rs_3_1_1_0 : rR.l0 (k + 7) 1 3 0 3 1 E 3 1 o = rR.l0 k 1 3 1 3 1 E 3 1 (sq E (sq E (sq E (sq E o 0 3) 3 0) 6 6) 7 7) := by kernel_rfl
theorem ss_3_1_1_1 : sl (k + 11) 1 1 3 1 E 3 1 o = sl k 1 2 3 1 E 3 1 (sq E (sq E (sq E (sq E o 1 4) 4 1) 7 7) 8 8) := by kernel_rfl
theorem rs_3_1_1_1 : rR.l0 (k + 7) 1 3 1 3 1 E 3 1 o = rR.l0 k 1 3 2 3 1 E 3 1 (sq E (sq E (sq E (sq E o 1 4) 4 1) 7 7) 8 8) := by kernel_rfl
theorem ss_3_1_1_2 : sl (k + 11) 1 2 3 1 E 3 1 o = sl k 1 3 3 1 E 3 1 (sq E (sq E (sq E (sq E o 2 5) 5 2) 8 8) 9 9) := by kernel_rfl
theorem rs_3_1_1_2 : rR.l0 (k + 7) 1 3 2 3 1 E 3 1 o = rR.l0 k 1 3 3 3 1 E 3 1 (sq E (sq E (sq E (sq E o 2 5) 5 2) 8 8) 9 9) := by kernel_rfl
def L_3_1_1 : List (Nat × Nat) := [(0, 3), (3, 0), (6, 6), (7, 7), (1, 4), (4, 1), (7, 7), (8, 8), (2, 5), (5, 2), (8, 8), (9, 9)]
def P_3_1_1 : List Nat := [3, 4, 5, 0, 1, 2, 6, 7, 8, 9]
theorem nest_3_1_1 (E : Int) : fldI E L_3_1_1 = (sq E (sq E (sq E (sq E ((sq E (sq E (sq E (sq E ((sq E (sq E (sq E (sq E 0 0 3) 3 0) 6 6) 7 7)) 1 4) 4 1) 7 7) 8 8)) 2 5) 5 2) 8 8) 9 9) := rfl
theorem same_3_1_1 (E : Int) : Ev (fun k => spec_l03Reflected.f k 3 1 E 1) (3, 1, fldI E L_3_1_1) ∧ Ev (fun k => rR.f k 3 1 E 1) (3, 1, fldI E L_3_1_1) := by
  rw [nest_3_1_1]
  refine ⟨?_, ?_⟩
  · refine ev_add (f := fun k => sl k 1 0 3 1 E 3 1 0) 1 (fun k => by kernel_rfl) ?_
    refine ev_add 11 (fun k => ss_3_1_1_0 k E _) ?_
    refine ev_add 11 (fun k => ss_3_1_1_1 k E _) ?_
    refine ev_add 11 (fun k => ss_3_1_1_2 k E _) ?_
    exact ev_add (f := fun _ => some (3, 1, (sq E (sq E (sq E (sq E ((sq E (sq E (sq E (sq E ((sq E (sq E (sq E (sq E 0 0 3) 3 0) 6 6) 7 7)) 1 4) 4 1) 7 7) 8 8)) 2 5) 5 2) 8 8) 9 9))) 1 (fun k => by kernel_rfl) (Ev.now _)
  · refine ev_add (f := fun k => rR.l0 k 1 3 0 3 1 E 3 1 0) 1 (fun k => by kernel_rfl) ?_
    refine ev_add 7 (fun k => rs_3_1_1_0 k E _) ?_
    refine ev_add 7 (fun k => rs_3_1_1_1 k E _) ?_
    refine ev_add 7 (fun k => rs_3_1_1_2 k E _) ?_
    exact ev_add (f := fun _ => some (3, 1, (sq E (sq E (sq E (sq E ((sq E (sq E (sq E (sq E ((sq E (sq E (sq E (sq E 0 0 3) 3 0) 6 6) 7 7)) 1 4) 4 1) 7 7) 8 8)) 2 5) 5 2) 8 8) 9 9))) 1 (fun k => by kernel_rfl) (Ev.now _)
theorem ss_3_1_2_0 : sl (k + 11) 2 0 3 1 E 1 3 o = sl k 2 1 3 1 E 1 3 (sq E (sq E (sq E (sq E o 0 4) 3 5) 6 0) 7 1) := by kernel_rfl
theorem rs_3_1_2_0 : rR.l0 (k + 7) 2 3 0 3 1 E 1 3 o = rR.l0 k 2 3 1 3 1 E 1 3 (sq E (sq E (sq E (sq E o 0 4) 3 5) 6 0) 7 1) := by kernel_rfl
theorem ss_3_1_2_1 : sl (k + 11) 2 1 3 1 E 1 3 o = sl k 2 2 3 1 E 1 3 (sq E (sq E (sq E (sq E o 1 6) 4 7) 7 1) 8 2) := by kernel_rfl
theorem rs_3_1_2_1 : rR.l0 (k + 7) 2 3 1 3 1 E 1 3 o = rR.l0 k 2 3 2 3 1 E 1 3 (sq E (sq E (sq E (sq E o 1 6) 4 7) 7 1) 8 2) := by kernel_rfl
theorem ss_3_1_2_2 : sl (k + 11) 2 2 3 1 E 1 3 o = sl k 2 3 3 1 E 1 3 (sq E (sq E (sq E (sq E o 2 8) 5 9) 8 2) 9 3) := by kernel_rfl
theorem rs_3_1_2_2 : rR.l0 (k + 7) 2 3 2 3 1 E 1 3 o = rR.l0 k 2 3 3 3 1 E 1 3 (sq E (sq E (sq E (sq E o 2 8) 5 9) 8 2) 9 3) := by kernel_rfl
def L_3_1_2 : List (Nat × Nat) := [(0, 4), (3, 5), (6, 0), (7, 1), (1, 6), (4, 7), (7, 1), (8, 2), (2, 8), (5, 9), (8, 2), (9, 3)]
def P_3_1_2 : List Nat := [6, 7, 8, 9, 0, 3, 1, 4, 2, 5]
theorem nest_3_1_2 (E : Int) : fldI E L_3_1_2 = (sq E (sq E (sq E (sq E ((sq E (sq E (sq E (sq E ((sq E (sq E (sq E (sq E 0 0 4) 3 5) 6 0) 7 1)) 1 6) 4 7) 7 1) 8 2)) 2 8) 5 9) 8 2) 9 3) := rfl
theorem same_3_1_2 (E : Int) : Ev (fun k => spec_l03Reflected.f k 3 1 E 2) (1, 3, fldI E L_3_1_2) ∧ Ev (fun k => rR.f k 3 1 E 2) (1, 3, fldI E L_3_1_2) := by
  rw [nest_3_1_2]
  refine ⟨?_, ?_⟩
  · refine ev_add (f := fun k => sl k 2 0 3 1 E 1 3 0) 1 (fun k => by kernel_rfl) ?_
    refine ev_add 11 (fun k => ss_3_1_2_0 k E _) ?_
    refine ev_add 11 (fun k => ss_3_1_2_1 k E _) ?_
    refine ev_add 11 (fun k => ss_3_1_2_2 k E _) ?_
    exact ev_add (f := fun _ => some (1, 3, (sq E (sq E (sq E (sq E ((sq E (sq E (sq E (sq E ((sq E (sq E (sq E (sq E 0 0 4) 3 5) 6 0) 7 1)) 1 6) 4 7) 7 1) 8 2)) 2 8) 5 9) 8 2) 9 3))) 1 (fun k => by kernel_rfl) (Ev.now _)
  · refine ev_add (f := fun k => rR.l0 k 2 3 0 3 1 E 1 3 0) 1 (fun k => by kernel_rfl) ?_
    refine ev_add 7 (fun k => rs_3_1_2_0 k E _) ?_
    refine ev_add 7 (fun k => rs_3_1_2_1 k E _) ?_
    refine ev_add 7 (fun k => rs_3_1_2_2 k E _) ?_
    exact ev_add (f := fun _ => some (1, 3, (sq E (sq E (sq E (sq E ((sq E (sq E (sq E (sq E ((sq E (sq E (sq E (sq E 0 0 4) 3 5) 6 0) 7 1)) 1 6) 4 7) 7 1) 8 2)) 2 8) 5 9) 8 2) 9 3))) 1 (fun k => by kernel_rfl) (Ev.now _)
theorem ss_3_2_0_0 : sl (k + 11) 0 0 3 2 E 3 2 o = sl k 0 1 3 2 E 3 2 (sq E (sq E (sq E (sq E o 0 2) 3 5) 9 12) 10 11) := by kernel_rfl
theorem rs_3_2_0_0 : rR.l0 (k + 7) 0 6 0 3 2 E 3 2 o = rR.l0 k 0 6 1 3 2 E 3 2 (sq E (sq E (sq E (sq E o 0 2) 3 5) 9 12) 10 11) := by kernel_rfl
theorem ss_3_2_0_1 : sl (k + 11) 0 1 3 2 E 3 2 o = sl k 0 2 3 2 E 3 2 (sq E (sq E (sq E (sq E o 1 1) 4 4) 10 11) 11 10) := by kernel_rfl
theorem rs_3_2_0_1 : rR.l0 (k + 7) 0 6 1 3 2 E 3 2 o = rR.l0 k 0 6 2 3 2 E 3 2 (sq E (sq E (sq E (sq E o 1 1) 4 4) 10 11) 11 10) := by kernel_rfl
theorem ss_3_2_0_2 : sl (k + 11) 0 2 3 2 E 3 2 o = sl k 0 3 3 2 E 3 2 (sq E (sq E (sq E (sq E o 2 0) 5 3) 11 10) 12 9) := by kernel_rfl
theorem rs_3_2_0_2 : rR.l0 (k + 7) 0 6 2 3 2 E 3 2 o = rR.l0 k 0 6 3 3 2 E 3 2 (sq E (sq E (sq E (sq E o 2 0) 5 3) 11 10) 12 9) := by kernel_rfl
theorem ss_3_2_0_3 : sl (k + 11) 0 3 3 2 E 3 2 o = sl k 0 4 3 2 E 3 2 (sq E (sq E (sq E (sq E o 3 5) 6 8) 13 16) 14 15) := by kernel_rfl
theorem rs_3_2_0_3 : rR.l0 (k + 7) 0 6 3 3 2 E 3 2 o = rR.l0 k 0 6 4 3 2 E 3 2 (sq E (sq E (sq E (sq E o 3 5) 6 8) 13 16) 14 15) := by kernel_rfl
theorem ss_3_2_0_4 : sl (k + 11) 0 4 3 2 E 3 2 o = sl k 0 5 3 2 E 3 2 (sq E (sq E (sq E (sq E o 4 4) 7 7) 14 15) 15 14) := by kernel_rfl
theorem rs_3_2_0_4 : rR.l0 (k + 7) 0 6 4 3 2 E 3 2 o = rR.l0 k 0 6 5 3 2 E 3 2 (sq E (sq E (sq E (sq E o 4 4) 7 7) 14 15) 15 14) := by kernel_rfl
theorem ss_3_2_0_5 : sl (k + 11) 0 5 3 2 E 3 2 o = sl k 0 6 3 2 E 3 2 (sq E (sq E (sq E (sq E o 5 3) 8 6) 15 14) 16 13) := by kernel_rfl
theorem rs_3_2_0_5 : rR.l0 (k + 7) 0 6 5 3 2 E 3 2 o = rR.l0 k 0 6 6 3 2 E 3 2 (sq E (sq E (sq E (sq E o 5 3) 8 6) 15 14) 16 13) := by kernel_rfl
def L_3_2_0 : List (Nat × Nat) := [(0, 2), (3, 5), (9, 12), (10, 11), (1, 1), (4, 4), (10, 11), (11, 10), (2, 0), (5, 3), (11, 10), (12, 9), (3, 5), (6, 8), (13, 16), (14, 15), (4, 4), (7, 7), (14, 15), (15, 14), (5, 3), (8, 6), (15, 14), (16, 13)]
def P_3_2_0 : List Nat := [2, 1, 0, 5, 4, 3, 8, 7, 6, 12, 11, 10, 9, 16, 15, 14, 13]
theorem nest_3_2_0 (E : Int) : fldI E L_3_2_0 = (sq E (sq E (sq E (sq E ((sq E (sq E (sq E (sq E ((sq E (sq E (sq E (sq E ((sq E (sq E (sq E (sq E ((sq E (sq E (sq E (sq E ((sq E (sq E (sq E (sq E 0 0 2) 3 5) 9 12) 10 11)) 1 1) 4 4) 10 11) 11 10)) 2 0) 5 3) 11 10) 12 9)) 3 5) 6 8) 13 16) 14 15)) 4 4) 7 7) 14 15) 15 14)) 5 3) 8 6) 15 14) 16 13) := rfl
theorem same_3_2_0 (E : Int) : Ev (fun k => spec_l03Reflected.f k 3 2 E 0) (3, 2, fldI E L_3_2_0) ∧ Ev (fun k => rR.f k 3 2 E 0) (3, 2, fldI E L_3_2_0) := by
  rw [nest_3_2_0]
  refine ⟨?_, ?_⟩
  · refine ev_add (f := fun k => sl k 0 0 3 2 E 3 2 0) 1 (fun k => by kernel_rfl) ?_
    refine ev_add 11 (fun k => ss_3_2_0_0 k E _) ?_
    refine ev_add 11 (fun k => ss_3_2_0_1 k E _) ?_
    refine ev_add 11 (fun k => ss_3_2_0_2 k E _) ?_
    refine ev_add 11 (fun k => ss_3_2_0_3 k E _) ?_
    refine ev_add 11 (fun k => ss_3_2_0_4 k E _) ?_
    refine ev_add 11 (fun k => ss_3_2_0_5 k E _) ?_
    exact ev_add (f := fun _ => some (3, 2, (sq E (sq E (sq E (sq E ((sq E (sq E (sq E (sq E ((sq E (sq E (sq E (sq E ((sq E (sq E (sq E (sq E ((sq E (sq E (sq E (sq E ((sq E (sq E (sq E (sq E 0 0 2) 3 5) 9 12) 10 11)) 1 1) 4 4) 10 11) 11 10)) 2 0) 5 3) 11 10) 12 9)) 3 5) 6 8) 13 16) 14 15)) 4 4) 7 7) 14 15) 15 14)) 5 3) 8 6) 15 14) 16 13))) 1 (fun k => by kernel_rfl) (Ev.now _)
  · refine ev_add (f := fun k => rR.l0 k 0 6 0 3 2 E 3 2 0) 1 (fun k => by kernel_rfl) ?_
    refine ev_add 7 (fun k => rs_3_2_0_0 k E _) ?_
    refine ev_add 7 (fun k => rs_3_2_0_1 k E _) ?_
    refine ev_add 7 (fun k => rs_3_2_0_2 k E _) ?_
    refine ev_add 7 (fun k => rs_3_2_0_3 k E _) ?_
    refine ev_add 7 (fun k => rs_3_2_0_4 k E _) ?_
    refine ev_add 7 (fun k => rs_3_2_0_5 k E _) ?_
    exact ev_add (f := fun _ => some (3, 2, (sq E (sq E (sq E (sq E ((sq E (sq E (sq E (sq E ((sq E (sq E (sq E (sq E ((sq E (sq E (sq E (sq E ((sq E (sq E (sq E (sq E ((sq E (sq E (sq E (sq E 0 0 2) 3 5) 9 12) 10 11)) 1 1) 4 4) 10 11) 11 10)) 2 0) 5 3) 11 10) 12 9)) 3 5) 6 8) 13 16) 14 15)) 4 4) 7 7) 14 15) 15 14)) 5 3) 8 6) 15 14) 16 13))) 1 (fun k => by kernel_rfl) (Ev.now _)
theorem ss_3_2_1_0 : sl (k + 11) 1 0 3 2 E 3 2 o = sl k 1 1 3 2 E 3 2 (sq E (sq E (sq E (sq E o 0 6) 3 3) 9 13) 10 14) := by kernel_rfl
theorem rs_3_2_1_0 : rR.l0 (k + 7) 1 6 0 3 2 E 3 2 o = rR.l0 k 1 6 1 3 2 E 3 2 (sq E (sq E (sq E (sq E o 0 6) 3 3) 9 13) 10 14) := by kernel_rfl
theorem ss_3_2_1_1 : sl (k + 11) 1 1 3 2 E 3 2 o = sl k 1 2 3 2 E 3 2 (sq E (sq E (sq E (sq E o 1 7) 4 4) 10 14) 11 15) := by kernel_rfl
theorem rs_3_2_1_1 : rR.l0 (k + 7) 1 6 1 3 2 E 3 2 o = rR.l0 k 1 6 2 3 2 E 3 2 (sq E (sq E (sq E (sq E o 1 7) 4 4) 10 14) 11 15) := by kernel_rfl
theorem ss_3_2_1_2 : sl (k + 11) 1 2 3 2 E 3 2 o = sl k 1 3 3 2 E 3 2 (sq E (sq E (sq E (sq E o 2 8) 5 5) 11 15) 12 16) := by kernel_rfl
theorem rs_3_2_1_2 : rR.l0 (k + 7) 1 6 2 3 2 E 3 2 o = rR.l0 k 1 6 3 3 2 E 3 2 (sq E (sq E (sq E (sq E o 2 8) 5 5) 11 15) 12 16) := by kernel_rfl
theorem ss_3_2_1_3 : sl (k + 11) 1 3 3 2 E 3 2 o = sl k 1 4 3 2 E 3 2 (sq E (sq E (sq E (sq E o 3 3) 6 0) 13 9) 14 10) := by kernel_rfl
theorem rs_3_2_1_3 : rR.l0 (k + 7) 1 6 3 3 2 E 3 2 o = rR.l0 k 1 6 4 3 2 E 3 2 (sq E (sq E (sq E (sq E o 3 3) 6 0) 13 9) 14 10) := by kernel_rfl
theorem ss_3_2_1_4 : sl (k + 11) 1 4 3 2 E 3 2 o = sl k 1 5 3 2 E 3 2 (sq E (sq E (sq E (sq E o 4 4) 7 1) 14 10) 15 11) := by kernel_rfl
theorem rs_3_2_1_4 : rR.l0 (k + 7) 1 6 4 3 2 E 3 2 o = rR.l0 k 1 6 5 3 2 E 3 2 (sq E (sq E (sq E (sq E o 4 4) 7 1) 14 10) 15 11) := by kernel_rfl
theorem ss_3_2_1_5 : sl (k + 11) 1 5 3 2 E 3 2 o = sl k 1 6 3 2 E 3 2 (sq E (sq E (sq E (sq E o 5 5) 8 2) 15 11) 16 12) := by kernel_rfl
theorem rs_3_2_1_5 : rR.l0 (k + 7) 1 6 5 3 2 E 3 2 o = rR.l0 k 1 6 6 3 2 E 3 2 (sq E (sq E (sq E (sq E o 5 5) 8 2) 15 11) 16 12) := by kernel_rfl
def L_3_2_1 : List (Nat × Nat) := [(0, 6), (3, 3), (9, 13), (10, 14), (1, 7), (4, 4), (10, 14), (11, 15), (2, 8), (5, 5), (11, 15), (12, 16), (3, 3), (6, 0), (13, 9), (14, 10), (4, 4), (7, 1), (14, 10), (15, 11), (5, 5), (8, 2), (15, 11), (16, 12)]
def P_3_2_1 : List Nat := [6, 7, 8, 3, 4, 5, 0, 1, 2, 13, 14, 15, 16, 9, 10, 11, 12]
theorem nest_3_2_1 (E : Int) : fldI E L_3_2_1 = (sq E (sq E (sq E (sq E ((sq E (sq E (sq E (sq E ((sq E (sq E (sq E (sq E ((sq E (sq E (sq E (sq E ((sq E (sq E (sq E (sq E ((sq E (sq E (sq E (sq E 0 0 6) 3 3) 9 13) 10 14)) 1 7) 4 4) 10 14) 11 15)) 2 8) 5 5) 11 15) 12 16)) 3 3) 6 0) 13 9) 14 10)) 4 4) 7 1) 14 10) 15 11)) 5 5) 8 2) 15 11) 16 12) := rfl
theorem same_3_2_1 (E : Int) : Ev (fun k => spec_l03Reflected.f k 3 2 E 1) (3, 2, fldI E L_3_2_1) ∧ Ev (fun k => rR.f k 3 2 E 1) (3, 2, fldI E L_3_2_1) := by
  rw [nest_3_2_1]
  refine ⟨?_, ?_⟩
  · refine ev_add (f := fun k => sl k 1 0 3 2 E 3 2 0) 1 (fun k => by kernel_rfl) ?_
    refine ev_add 11 (fun k => ss_3_2_1_0 k E _) ?_
    refine ev_add 11 (fun k => ss_3_2_1_1 k E _) ?_
    refine ev_add 11 (fun k => ss_3_2_1_2 k E _) ?_
    refine ev_add 11 (fun k => ss_3_2_1_3 k E _) ?_
    refine ev_add 11 (fun k => ss_3_2_1_4 k E _) ?_
    refine ev_add 11 (fun k => ss_3_2_1_5 k E _) ?_
    exact ev_add (f := fun _ => some (3, 2, (sq E (sq E (sq E (sq E ((sq E (sq E (sq E (sq E ((sq E (sq E (sq E (sq E ((sq E (sq E (sq E (sq E ((sq E (sq E (sq E (sq E ((sq E (sq E (sq E (sq E 0 0 6) 3 3) 9 13) 10 14)) 1 7) 4 4) 10 14) 11 15)) 2 8) 5 5) 11 15) 12 16)) 3 3) 6 0) 13 9) 14 10)) 4 4) 7 1) 14 10) 15 11)) 5 5) 8 2) 15 11) 16 12))) 1 (fun k => by kernel_rfl) (Ev.now _)
  · refine ev_add (f := fun k => rR.l0 k 1 6 0 3 2 E 3 2 0) 1 (fun k => by kernel_rfl) ?_
    refine ev_add 7 (fun k => rs_3_2_1_0 k E _) ?_
    refine ev_add 7 (fun k => rs_3_2_1_1 k E _) ?_
    refine ev_add 7 (fun k => rs_3_2_1_2 k E _) ?_
    refine ev_add 7 (fun k => rs_3_2_1_3 k E _) ?_
    refine ev_add 7 (fun k => rs_3_2_1_4 k E _) ?_
    refine ev_add 7 (fun k => rs_3_2_1_5 k E _) ?_
    exact ev_add (f := fun _ => some (3, 2, (sq E (sq E (sq E (sq E ((sq E (sq E (sq E (sq E ((sq E (sq E (sq E (sq E ((sq E (sq E (sq E (sq E ((sq E (sq E (sq E (sq E ((sq E (sq E (sq E (sq E 0 0 6) 3 3) 9 13) 10 14)) 1 7) 4 4) 10 14) 11 15)) 2 8) 5 5) 11 15) 12 16)) 3 3) 6 0) 13 9) 14 10)) 4 4) 7 1) 14 10) 15 11)) 5 5) 8 2) 15 11) 16 12))) 1 (fun k => by kernel_rfl) (Ev.now _)
theorem ss_3_2_2_0 : sl (k + 11) 2 0 3 2 E 2 3 o = sl k 2 1 3 2 E 2 3 (sq E (sq E (sq E (sq E o 0 8) 3 9) 9 0) 10 2) := by kernel_rfl
theorem rs_3_2_2_0 : rR.l0 (k + 7) 2 6 0 3 2 E 2 3 o = rR.l0 k 2 6 1 3 2 E 2 3 (sq E (sq E (sq E (sq E o 0 8) 3 9) 9 0) 10 2) := by kernel_rfl
theorem ss_3_2_2_1 : sl (k + 11) 2 1 3 2 E 2 3 o = sl k 2 2 3 2 E 2 3 (sq E (sq E (sq E (sq E o 1 11) 4 12) 10 2) 11 4) := by kernel_rfl
theorem rs_3_2_2_1 : rR.l0 (k + 7) 2 6 1 3 2 E 2 3 o = rR.l0 k 2 6 2 3 2 E 2 3 (sq E (sq E (sq E (sq E o 1 11) 4 12) 10 2) 11 4) := by kernel_rfl
theorem ss_3_2_2_2 : sl (k + 11) 2 2 3 2 E 2 3 o = sl k 2 3 3 2 E 2 3 (sq E (sq E (sq E (sq E o 2 14) 5 15) 11 4) 12 6) := by kernel_rfl
theorem rs_3_2_2_2 : rR.l0 (k + 7) 2 6 2 3 2 E 2 3 o = rR.l0 k 2 6 3 3 2 E 2 3 (sq E (sq E (sq E (sq E o 2 14) 5 15) 11 4) 12 6) := by kernel_rfl
theorem ss_3_2_2_3 : sl (k + 11) 2 3 3 2 E 2 3 o = sl k 2 4 3 2 E 2 3 (sq E (sq E (sq E (sq E o 3 9) 6 10) 13 1) 14 3) := by kernel_rfl
theorem rs_3_2_2_3 : rR.l0 (k + 7) 2 6 3 3 2 E 2 3 o = rR.l0 k 2 6 4 3 2 E 2 3 (sq E (sq E (sq E (sq E o 3 9) 6 10) 13 1) 14 3) := by kernel_rfl
theorem ss_3_2_2_4 : sl (k + 11) 2 4 3 2 E 2 3 o = sl k 2 5 3 2 E 2 3 (sq E (sq E (sq E (sq E o 4 12) 7 13) 14 3) 15 5) := by kernel_rfl
theorem rs_3_2_2_4 : rR.l0 (k + 7) 2 6 4 3 2 E 2 3 o = rR.l0 k 2 6 5 3 2 E 2 3 (sq E (sq E (sq E (sq E o 4 12) 7 13) 14 3) 15 5) := by kernel_rfl
theorem ss_3_2_2_5 : sl (k + 11) 2 5 3 2 E 2 3 o = sl k 2 6 3 2 E 2 3 (sq E (sq E (sq E (sq E o 5 15) 8 16) 15 5) 16 7) := by kernel_rfl
theorem rs_3_2_2_5 : rR.l0 (k + 7) 2 6 5 3 2 E 2 3 o = rR.l0 k 2 6 6 3 2 E 2 3 (sq E (sq E (sq E (sq E o 5 15) 8 16) 15 5) 16 7) := by kernel_rfl
def L_3_2_2 : List (Nat × Nat) := [(0, 8), (3, 9), (9, 0), (10, 2), (1, 11), (4, 12), (10, 2), (11, 4), (2, 14), (5, 15), (11, 4), (12, 6), (3, 9), (6, 10), (13, 1), (14, 3), (4, 12), (7, 13), (14, 3), (15, 5), (5, 15), (8, 16), (15, 5), (16, 7)]
def P_3_2_2 : List Nat := [9, 13, 10, 14, 11, 15, 12, 16, 0, 3, 6, 1, 4, 7, 2, 5, 8]
theorem nest_3_2_2 (E : Int) : fldI E L_3_2_2 = (sq E (sq E (sq E (sq E ((sq E (sq E (sq E (sq E ((sq E (sq E (sq E (sq E ((sq E (sq E (sq E (sq E ((sq E (sq E (sq E (sq E ((sq E (sq E (sq E (sq E 0 0 8) 3 9) 9 0) 10 2)) 1 11) 4 12) 10 2) 11 4)) 2 14) 5 15) 11 4) 12 6)) 3 9) 6 10) 13 1) 14 3)) 4 12) 7 13) 14 3) 15 5)) 5 15) 8 16) 15 5) 16 7) := rfl
theorem same_3_2_2 (E : Int) : Ev (fun k => spec_l03Reflected.f k 3 2 E 2) (2, 3, fldI E L_3_2_2) ∧ Ev (fun k => rR.f k 3 2 E 2) (2, 3, fldI E L_3_2_2) := by
  rw [nest_3_2_2]
  refine ⟨?_, ?_⟩
  · refine ev_add (f := fun k => sl k 2 0 3 2 E 2 3 0) 1 (fun k => by kernel_rfl) ?_
    refine ev_add 11 (fun k => ss_3_2_2_0 k E _) ?_
    refine ev_add 11 (fun k => ss_3_2_2_1 k E _) ?_
    refine ev_add 11 (fun k => ss_3_2_2_2 k E _) ?_
    refine ev_add 11 (fun k => ss_3_2_2_3 k E _) ?_
    refine ev_add 11 (fun k => ss_3_2_2_4 k E _) ?_
    refine ev_add 11 (fun k => ss_3_2_2_5 k E _) ?_
    exact ev_add (f := fun _ => some (2, 3, (sq E (sq E (sq E (sq E ((sq E (sq E (sq E (sq E ((sq E (sq E (sq E (sq E ((sq E (sq E (sq E (sq E ((sq E (sq E (sq E (sq E ((sq E (sq E (sq E (sq E 0 0 8) 3 9) 9 0) 10 2)) 1 11) 4 12) 10 2) 11 4)) 2 14) 5 15) 11 4) 12 6)) 3 9) 6 10) 13 1) 14 3)) 4 12) 7 13) 14 3) 15 5)) 5 15) 8 16) 15 5) 16 7))) 1 (fun k => by kernel_rfl) (Ev.now _)
  · refine ev_add (f := fun k => rR.l0 k 2 6 0 3 2 E 2 3 0) 1 (fun k => by kernel_rfl) ?_
    refine ev_add 7 (fun k => rs_3_2_2_0 k E _) ?_
    refine ev_add 7 (fun k => rs_3_2_2_1 k E _) ?_
    refine ev_add 7 (fun k => rs_3_2_2_2 k E _) ?_
    refine ev_add 7 (fun k => rs_3_2_2_3 k E _) ?_
    refine ev_add 7 (fun k => rs_3_2_2_4 k E _) ?_
    refine ev_add 7 (fun k => rs_3_2_2_5 k E _) ?_
    exact ev_add (f := fun _ => some (2, 3, (sq E (sq E (sq E (sq E ((sq E (sq E (sq E (sq E ((sq E (sq E (sq E (sq E ((sq E (sq E (sq E (sq E ((sq E (sq E (sq E (sq E ((sq E (sq E (sq E (sq E 0 0 8) 3 9) 9 0) 10 2)) 1 11) 4 12) 10 2) 11 4)) 2 14) 5 15) 11 4) 12 6)) 3 9) 6 10) 13 1) 14 3)) 4 12) 7 13) 14 3) 15 5)) 5 15) 8 16) 15 5) 16 7))) 1 (fun k => by kernel_rfl) (Ev.now _)
theorem ss_3_3_0_0 : sl (k + 11) 0 0 3 3 E 3 3 o = sl k 0 1 3 3 E 3 3 (sq E (sq E (sq E (sq E o 0 2) 3 5) 12 15) 13 14) := by kernel_rfl
theorem rs_3_3_0_0 : rR.l0 (k + 7) 0 9 0 3 3 E 3 3 o = rR.l0 k 0 9 1 3 3 E 3 3 (sq E (sq E (sq E (sq E o 0 2) 3 5) 12 15) 13 14) := by kernel_rfl
theorem ss_3_3_0_1 : sl (k + 11) 0 1 3 3 E 3 3 o = sl k 0 2 3 3 E 3 3 (sq E (sq E (sq E (sq E o 1 1) 4 4) 13 14) 14 13) := by kernel_rfl
theorem rs_3_3_0_1 : rR.l0 (k + 7) 0 9 1 3 3 E 3 3 o = rR.l0 k 0 9 2 3 3 E 3 3 (sq E (sq E (sq E (sq E o 1 1) 4 4) 13 14) 14 13) := by kernel_rfl
theorem ss_3_3_0_2 : sl (k + 11) 0 2 3 3 E 3 3 o = sl k 0 3 3 3 E 3 3 (sq E (sq E (sq E (sq E o 2 0) 5 3) 14 13) 15 12) := by kernel_rfl
theorem rs_3_3_0_2 : rR.l0 (k + 7) 0 9 2 3 3 E 3 3 o = rR.l0 k 0 9 3 3 3 E 3 3 (sq E (sq E (sq E (sq E o 2 0) 5 3) 14 13) 15 12) := by kernel_rfl
theorem ss_3_3_0_3 : sl (k + 11) 0 3 3 3 E 3 3 o = sl k 0 4 3 3 E 3 3 (sq E (sq E (sq E (sq E o 3 5) 6 8) 16 19) 17 18) := by kernel_rfl
theorem rs_3_3_0_3 : rR.l0 (k + 7) 0 9 3 3 3 E 3 3 o = rR.l0 k 0 9 4 3 3 E 3 3 (sq E (sq E (sq E (sq E o 3 5) 6 8) 16 19) 17 18) := by kernel_rfl
theorem ss_3_3_0_4 : sl (k + 11) 0 4 3 3 E 3 3 o = sl k 0 5 3 3 E 3 3 (sq E (sq E (sq E (sq E o 4 4) 7 7) 17 18) 18 17) := by kernel_rfl
theorem rs_3_3_0_4 : rR.l0 (k + 7) 0 9 4 3 3 E 3 3 o = rR.l0 k 0 9 5 3 3 E 3 3 (sq E (sq E (sq E (sq E o 4 4) 7 7) 17 18) 18 17) := by kernel_rfl
theorem ss_3_3_0_5 : sl (k + 11) 0 5 3 3 E 3 3 o = sl k 0 6 3 3 E 3 3 (sq E (sq E (sq E (sq E o 5 3) 8 6) 18 17) 19 16) := by kernel_rfl
theorem rs_3_3_0_5 : rR.l0 (k + 7) 0 9 5 3 3 E 3 3 o = rR.l0 k 0 9 6 3 3 E 3 3 (sq E (sq E (sq E (sq E o 5 3) 8 6) 18 17) 19 16) := by kernel_rfl
theorem ss_3_3_0_6 : sl (k + 11) 0 6 3 3 E 3 3 o = sl k 0 7 3 3 E 3 3 (sq E (sq E (sq E (sq E o 6 8) 9 11) 20 23) 21 22) := by kernel_rfl
theorem rs_3_3_0_6 : rR.l0 (k + 7) 0 9 6 3 3 E 3 3 o = rR.l0 k 0 9 7 3 3 E 3 3 (sq E (sq E (sq E (sq E o 6 8) 9 11) 20 23) 21 22) := by kernel_rfl
theorem ss_3_3_0_7 : sl (k + 11) 0 7 3 3 E 3 3 o = sl k 0 8 3 3 E 3 3 (sq E (sq E (sq E (sq E o 7 7) 10 10) 21 22) 22 21) := by kernel_rfl
theorem rs_3_3_0_7 : rR.l0 (k + 7) 0 9 7 3 3 E 3 3 o = rR.l0 k 0 9 8 3 3 E 3 3 (sq E (sq E (sq E (sq E o 7 7) 10 10) 21 22) 22 21) := by kernel_rfl
theorem ss_3_3_0_8 : sl (k + 11) 0 8 3 3 E 3 3 o = sl k 0 9 3 3 E 3 3 (sq E (sq E (sq E (sq E o 8 6) 11 9) 22 21) 23 20) := by kernel_rfl
theorem rs_3_3_0_8 : rR.l0 (k + 7) 0 9 8 3 3 E 3 3 o = rR.l0 k 0 9 9 3 3 E 3 3 (sq E (sq E (sq E (sq E o 8 6) 11 9) 22 21) 23 20) := by kernel_rfl
def L_3_3_0 : List (Nat × Nat) := [(0, 2), (3, 5), (12, 15), (13, 14), (1, 1), (4, 4), (13, 14), (14, 13), (2, 0), (5, 3), (14, 13), (15, 12), (3, 5), (6, 8), (16, 19), (17, 18), (4, 4), (7, 7), (17, 18), (18, 17), (5, 3), (8, 6), (18, 17), (19, 16), (6, 8), (9, 11), (20, 23), (21, 22), (7, 7), (10, 10), (21, 22), (22, 21), (8, 6), (11, 9), (22, 21), (23, 20)]
def P_3_3_0 : List Nat := [2, 1, 0, 5, 4, 3, 8, 7, 6, 11, 10, 9, 15, 14, 13, 12, 19, 18, 17, 16, 23, 22, 21, 20]
theorem nest_3_3_0 (E : Int) : fldI E L_3_3_0 = (sq E (sq E (sq E (sq E ((sq E (sq E (sq E (sq E ((sq E (sq E (sq E (sq E ((sq E (sq E (sq E (sq E ((sq E (sq E (sq E (sq E ((sq E (sq E (sq E (sq E ((sq E (sq E (sq E (sq E ((sq E (sq E (sq E (sq E ((sq E (sq E (sq E (sq E 0 0 2) 3 5) 12 15) 13 14)) 1 1) 4 4) 13 14) 14 13)) 2 0) 5 3) 14 13) 15 12)) 3 5) 6 8) 16 19) 17 18)) 4 4) 7 7) 17 18) 18 17)) 5 3) 8 6) 18 17) 19 16)) 6 8) 9 11) 20 23) 21 22)) 7 7) 10 10) 21 22) 22 21)) 8 6) 11 9) 22 21) 23 20) := rfl
theorem same_3_3_0 (E : Int) : Ev (fun k => spec_l03Reflected.f k 3 3 E 0) (3, 3, fldI E L_3_3_0) ∧ Ev (fun k => rR.f k 3 3 E 0) (3, 3, fldI E L_3_3_0) := by
  rw [nest_3_3_0]
  refine ⟨?_, ?_⟩
  · refine ev_add (f := fun k => sl k 0 0 3 3 E 3 3 0) 1 (fun k => by kernel_rfl) ?_
    refine ev_add 11 (fun k => ss_3_3_0_0 k E _) ?_
    refine ev_add 11 (fun k => ss_3_3_0_1 k E _) ?_
    refine ev_add 11 (fun k => ss_3_3_0_2 k E _) ?_
    refine ev_add 11 (fun k => ss_3_3_0_3 k E _) ?_
    refine ev_add 11 (fun k => ss_3_3_0_4 k E _) ?_
    refine ev_add 11 (fun k => ss_3_3_0_5 k E _) ?_
    refine ev_add 11 (fun k => ss_3_3_0_6 k E _) ?_
    refine ev_add 11 (fun k => ss_3_3_0_7 k E _) ?_
    refine ev_add 11 (fun k => ss_3_3_0_8 k E _) ?_
    exact ev_add (f := fun _ => some (3, 3, (sq E (sq E (sq E (sq E ((sq E (sq E (sq E (sq E ((sq E (sq E (sq E (sq E ((sq E (sq E (sq E (sq E ((sq E (sq E (sq E (sq E ((sq E (sq E (sq E (sq E ((sq E (sq E (sq E (sq E ((sq E (sq E (sq E (sq E ((sq E (sq E (sq E (sq E 0 0 2) 3 5) 12 15) 13 14)) 1 1) 4 4) 13 14) 14 13)) 2 0) 5 3) 14 13) 15 12)) 3 5) 6 8) 16 19) 17 18)) 4 4) 7 7) 17 18) 18 17)) 5 3) 8 6) 18 17) 19 16)) 6 8) 9 11) 20 23) 21 22)) 7 7) 10 10) 21 22) 22 21)) 8 6) 11 9) 22 21) 23 20))) 1 (fun k => by kernel_rfl) (Ev.now _)
  · refine ev_add (f := fun k => rR.l0 k 0 9 0 3 3 E 3 3 0) 1 (fun k => by kernel_rfl) ?_
    refine ev_add 7 (fun k => rs_3_3_0_0 k E _) ?_
    refine ev_add 7 (fun k => rs_3_3_0_1 k E _) ?_
    refine ev_add 7 (fun k => rs_3_3_0_2 k E _) ?_
    refine ev_add 7 (fun k => rs_3_3_0_3 k E _) ?_
    refine ev_add 7 (fun k => rs_3_3_0_4 k E _) ?_
    refine ev_add 7 (fun k => rs_3_3_0_5 k E _) ?_
    refine ev_add 7 (fun k => rs_3_3_0_6 k E _) ?_
    refine ev_add 7 (fun k => rs_3_3_0_7 k E _) ?_
    refine ev_add 7 (fun k => rs_3_3_0_8 k E _) ?_
    exact ev_add (f := fun _ => some (3, 3, (sq E (sq E (sq E (sq E ((sq E (sq E (sq E (sq E ((sq E (sq E (sq E (sq E ((sq E (sq E (sq E (sq E ((sq E (sq E (sq E (sq E ((sq E (sq E (sq E (sq E ((sq E (sq E (sq E (sq E ((sq E (sq E (sq E (sq E ((sq E (sq E (sq E (sq E 0 0 2) 3 5) 12 15) 13 14)) 1 1) 4 4) 13 14) 14 13)) 2 0) 5 3) 14 13) 15 12)) 3 5) 6 8) 16 19) 17 18)) 4 4) 7 7) 17 18) 18 17)) 5 3) 8 6) 18 17) 19 16)) 6 8) 9 11) 20 23) 21 22)) 7 7) 10 10) 21 22) 22 21)) 8 6) 11 9) 22 21) 23 20))) 1 (fun k => by kernel_rfl) (Ev.now _)
theorem ss_3_3_1_0 : sl (k + 11) 1 0 3 3 E 3 3 o = sl k 1 1 3 3 E 3 3 (sq E (sq E (sq E (sq E o 0 9) 3 6) 12 20) 13 21) := by kernel_rfl
theorem rs_3_3_1_0 : rR.l0 (k + 7) 1 9 0 3 3 E 3 3 o = rR.l0 k 1 9 1 3 3 E 3 3 (sq E (sq E (sq E (sq E o 0 9) 3 6) 12 20) 13 21) := by kernel_rfl
theorem ss_3_3_1_1 : sl (k + 11) 1 1 3 3 E 3 3 o = sl k 1 2 3 3 E 3 3 (sq E (sq E (sq E (sq E o 1 10) 4 7) 13 21) 14 22) := by kernel_rfl
theorem rs_3_3_1_1 : rR.l0 (k + 7) 1 9 1 3 3 E 3 3 o = rR.l0 k 1 9 2 3 3 E 3 3 (sq E (sq E (sq E (sq E o 1 10) 4 7) 13 21) 14 22) := by kernel_rfl
theorem ss_3_3_1_2 : sl (k + 11) 1 2 3 3 E 3 3 o = sl k 1 3 3 3 E 3 3 (sq E (sq E (sq E (sq E o 2 11) 5 8) 14 22) 15 23) := by kernel_rfl
theorem rs_3_3_1_2 : rR.l0 (k + 7) 1 9 2 3 3 E 3 3 o = rR.l0 k 1 9 3 3 3 E 3 3 (sq E (sq E (sq E (sq E o 2 11) 5 8) 14 22) 15 23) := by kernel_rfl
theorem ss_3_3_1_3 : sl (k + 11) 1 3 3 3 E 3 3 o = sl k 1 4 3 3 E 3 3 (sq E (sq E (sq E (sq E o 3 6) 6 3) 16 16) 17 17) := by kernel_rfl
theorem rs_3_3_1_3 : rR.l0 (k + 7) 1 9 3 3 3 E 3 3 o = rR.l0 k 1 9 4 3 3 E 3 3 (sq E (sq E (sq E (sq E o 3 6) 6 3) 16 16) 17 17) := by kernel_rfl
theorem ss_3_3_1_4 : sl (k + 11) 1 4 3 3 E 3 3 o = sl k 1 5 3 3 E 3 3 (sq E (sq E (sq E (sq E o 4 7) 7 4) 17 17) 18 18) := by kernel_rfl
theorem rs_3_3_1_4 : rR.l0 (k + 7) 1 9 4 3 3 E 3 3 o = rR.l0 k 1 9 5 3 3 E 3 3 (sq E (sq E (sq E (sq E o 4 7) 7 4) 17 17) 18 18) := by kernel_rfl
theorem ss_3_3_1_5 : sl (k + 11) 1 5 3 3 E 3 3 o = sl k 1 6 3 3 E 3 3 (sq E (sq E (sq E (sq E o 5 8) 8 5) 18 18) 19 19) := by kernel_rfl
theorem rs_3_3_1_5 : rR.l0 (k + 7) 1 9 5 3 3 E 3 3 o = rR.l0 k 1 9 6 3 3 E 3 3 (sq E (sq E (sq E (sq E o 5 8) 8 5) 18 18) 19 19) := by kernel_rfl
theorem ss_3_3_1_6 : sl (k + 11) 1 6 3 3 E 3 3 o = sl k 1 7 3 3 E 3 3 (sq E (sq E (sq E (sq E o 6 3) 9 0) 20 12) 21 13) := by kernel_rfl
theorem rs_3_3_1_6 : rR.l0 (k + 7) 1 9 6 3 3 E 3 3 o = rR.l0 k 1 9 7 3 3 E 3 3 (sq E (sq E (sq E (sq E o 6 3) 9 0) 20 12) 21 13) := by kernel_rfl
theorem ss_3_3_1_7 : sl (k + 11) 1 7 3 3 E 3 3 o = sl k 1 8 3 3 E 3 3 (sq E (sq E (sq E (sq E o 7 4) 10 1) 21 13) 22 14) := by kernel_rfl
theorem rs_3_3_1_7 : rR.l0 (k + 7) 1 9 7 3 3 E 3 3 o = rR.l0 k 1 9 8 3 3 E 3 3 (sq E (sq E (sq E (sq E o 7 4) 10 1) 21 13) 22 14) := by kernel_rfl
theorem ss_3_3_1_8 : sl (k + 11) 1 8 3 3 E 3 3 o = sl k 1 9 3 3 E 3 3 (sq E (sq E (sq E (sq E o 8 5) 11 2) 22 14) 23 15) := by kernel_rfl
theorem rs_3_3_1_8 : rR.l0 (k + 7) 1 9 8 3 3 E 3 3 o = rR.l0 k 1 9 9 3 3 E 3 3 (sq E (sq E (sq E (sq E o 8 5) 11 2) 22 14) 23 15) := by kernel_rfl
def L_3_3_1 : List (Nat × Nat) := [(0, 9), (3, 6), (12, 20), (13, 21), (1, 10), (4, 7), (13, 21), (14, 22), (2, 11), (5, 8), (14, 22), (15, 23), (3, 6), (6, 3), (16, 16), (17, 17), (4, 7), (7, 4), (17, 17), (18, 18), (5, 8), (8, 5), (18, 18), (19, 19), (6, 3), (9, 0), (20, 12), (21, 13), (7, 4), (10, 1), (21, 13), (22, 14), (8, 5), (11, 2), (22, 14), (23, 15)]
def P_3_3_1 : List Nat := [9, 10, 11, 6, 7, 8, 3, 4, 5, 0, 1, 2, 20, 21, 22, 23, 16, 17, 18, 19, 12, 13, 14, 15]
theorem nest_3_3_1 (E : Int) : fldI E L_3_3_1 = (sq E (sq E (sq E (sq E ((sq E (sq E (sq E (sq E ((sq E (sq E (sq E (sq E ((sq E (sq E (sq E (sq E ((sq E (sq E (sq E (sq E ((sq E (sq E (sq E (sq E ((sq E (sq E (sq E (sq E ((sq E (sq E (sq E (sq E ((sq E (sq E (sq E (sq E 0 0 9) 3 6) 12 20) 13 21)) 1 10) 4 7) 13 21) 14 22)) 2 11) 5 8) 14 22) 15 23)) 3 6) 6 3) 16 16) 17 17)) 4 7) 7 4) 17 17) 18 18)) 5 8) 8 5) 18 18) 19 19)) 6 3) 9 0) 20 12) 21 13)) 7 4) 10 1) 21 13) 22 14)) 8 5) 11 2) 22 14) 23 15) := rfl
theorem same_3_3_1 (E : Int) : Ev (fun k => spec_l03Reflected.f k 3 3 E 1) (3, 3, fldI E L_3_3_1) ∧ Ev (fun k => rR.f k 3 3 E 1) (3, 3, fldI E L_3_3_1) := by
  rw [nest_3_3_1]
  refine ⟨?_, ?_⟩
  · refine ev_add (f := fun k => sl k 1 0 3 3 E 3 3 0) 1 (fun k => by kernel_rfl) ?_
    refine ev_add 11 (fun k => ss_3_3_1_0 k E _) ?_
    refine ev_add 11 (fun k => ss_3_3_1_1 k E _) ?_
    refine ev_add 11 (fun k => ss_3_3_1_2 k E _) ?_
    refine ev_add 11 (fun k => ss_3_3_1_3 k E _) ?_
    refine ev_add 11 (fun k => ss_3_3_1_4 k E _) ?_
    refine ev_add 11 (fun k => ss_3_3_1_5 k E _) ?_
    refine ev_add 11 (fun k => ss_3_3_1_6 k E _) ?_
    refine ev_add 11 (fun k => ss_3_3_1_7 k E _) ?_
    refine ev_add 11 (fun k => ss_3_3_1_8 k E _) ?_
    exact ev_add (f := fun _ => some (3, 3, (sq E (sq E (sq E (sq E ((sq E (sq E (sq E (sq E ((sq E (sq E (sq E (sq E ((sq E (sq E (sq E (sq E ((sq E (sq E (sq E (sq E ((sq E (sq E (sq E (sq E ((sq E (sq E (sq E (sq E ((sq E (sq E (sq E (sq E ((sq E (sq E (sq E (sq E 0 0 9) 3 6) 12 20) 13 21)) 1 10) 4 7) 13 21) 14 22)) 2 11) 5 8) 14 22) 15 23)) 3 6) 6 3) 16 16) 17 17)) 4 7) 7 4) 17 17) 18 18)) 5 8) 8 5) 18 18) 19 19)) 6 3) 9 0) 20 12) 21 13)) 7 4) 10 1) 21 13) 22 14)) 8 5) 11 2) 22 14) 23 15))) 1 (fun k => by kernel_rfl) (Ev.now _)
  · refine ev_add (f := fun k => rR.l0 k 1 9 0 3 3 E 3 3 0) 1 (fun k => by kernel_rfl) ?_
    refine ev_add 7 (fun k => rs_3_3_1_0 k E _) ?_
    refine ev_add 7 (fun k => rs_3_3_1_1 k E _) ?_
    refine ev_add 7 (fun k => rs_3_3_1_2 k E _) ?_
    refine ev_add 7 (fun k => rs_3_3_1_3 k E _) ?_
    refine ev_add 7 (fun k => rs_3_3_1_4 k E _) ?_
    refine ev_add 7 (fun k => rs_3_3_1_5 k E _) ?_
    refine ev_add 7 (fun k => rs_3_3_1_6 k E _) ?_
    refine ev_add 7 (fun k => rs_3_3_1_7 k E _) ?_
    refine ev_add 7 (fun k => rs_3_3_1_8 k E _) ?_
    exact ev_add (f := fun _ => some (3, 3, (sq E (sq E (sq E (sq E ((sq E (sq E (sq E (sq E ((sq E (sq E (sq E (sq E ((sq E (sq E (sq E (sq E ((sq E (sq E (sq E (sq E ((sq E (sq E (sq E (sq E ((sq E (sq E (sq E (sq E ((sq E (sq E (sq E (sq E ((sq E (sq E (sq E (sq E 0 0 9) 3 6) 12 20) 13 21)) 1 10) 4 7) 13 21) 14 22)) 2 11) 5 8) 14 22) 15 23)) 3 6) 6 3) 16 16) 17 17)) 4 7) 7 4) 17 17) 18 18)) 5 8) 8 5) 18 18) 19 19)) 6 3) 9 0) 20 12) 21 13)) 7 4) 10 1) 21 13) 22 14)) 8 5) 11 2) 22 14) 23 15))) 1 (fun k => by kernel_rfl) (Ev.now _)
theorem ss_3_3_2_0 : sl (k + 11) 2 0 3 3 E 3 3 o = sl k 2 1 3 3 E 3 3 (sq E (sq E (sq E (sq E o 0 12) 3 13) 12 0) 13 3) := by kernel_rfl
theorem rs_3_3_2_0 : rR.l0 (k + 7) 2 9 0 3 3 E 3 3 o = rR.l0 k 2 9 1 3 3 E 3 3 (sq E (sq E (sq E (sq E o 0 12) 3 13) 12 0) 13 3) := by kernel_rfl
theorem ss_3_3_2_1 : sl (k + 11) 2 1 3 3 E 3 3 o = sl k 2 2 3 3 E 3 3 (sq E (sq E (sq E (sq E o 1 16) 4 17) 13 3) 14 6) := by kernel_rfl
theorem rs_3_3_2_1 : rR.l0 (k + 7) 2 9 1 3 3 E 3 3 o = rR.l0 k 2 9 2 3 3 E 3 3 (sq E (sq E (sq E (sq E o 1 16) 4 17) 13 3) 14 6) := by kernel_rfl
theorem ss_3_3_2_2 : sl (k + 11) 2 2 3 3 E 3 3 o = sl k 2 3 3 3 E 3 3 (sq E (sq E (sq E (sq E o 2 20) 5 21) 14 6) 15 9) := by kernel_rfl
theorem rs_3_3_2_2 : rR.l0 (k + 7) 2 9 2 3 3 E 3 3 o = rR.l0 k 2 9 3 3 3 E 3 3 (sq E (sq E (sq E (sq E o 2 20) 5 21) 14 6) 15 9) := by kernel_rfl
theorem ss_3_3_2_3 : sl (k + 11) 2 3 3 3 E 3 3 o = sl k 2 4 3 3 E 3 3 (sq E (sq E (sq E (sq E o 3 13) 6 14) 16 1) 17 4) := by kernel_rfl
theorem rs_3_3_2_3 : rR.l0 (k + 7) 2 9 3 3 3 E 3 3 o = rR.l0 k 2 9 4 3 3 E 3 3 (sq E (sq E (sq E (sq E o 3 13) 6 14) 16 1) 17 4) := by kernel_rfl
theorem ss_3_3_2_4 : sl (k + 11) 2 4 3 3 E 3 3 o = sl k 2 5 3 3 E 3 3 (sq E (sq E (sq E (sq E o 4 17) 7 18) 17 4) 18 7) := by kernel_rfl
theorem rs_3_3_2_4 : rR.l0 (k + 7) 2 9 4 3 3 E 3 3 o = rR.l0 k 2 9 5 3 3 E 3 3 (sq E (sq E (sq E (sq E o 4 17) 7 18) 17 4) 18 7) := by kernel_rfl
theorem ss_3_3_2_5 : sl (k + 11) 2 5 3 3 E 3 3 o = sl k 2 6 3 3 E 3 3 (sq E (sq E (sq E (sq E o 5 21) 8 22) 18 7) 19 10) := by kernel_rfl
theorem rs_3_3_2_5 : rR.l0 (k + 7) 2 9 5 3 3 E 3 3 o = rR.l0 k 2 9 6 3 3 E 3 3 (sq E (sq E (sq E (sq E o 5 21) 8 22) 18 7) 19 10) := by kernel_rfl
theorem ss_3_3_2_6 : sl (k + 11) 2 6 3 3 E 3 3 o = sl k 2 7 3 3 E 3 3 (sq E (sq E (sq E (sq E o 6 14) 9 15) 20 2) 21 5) := by kernel_rfl
theorem rs_3_3_2_6 : rR.l0 (k + 7) 2 9 6 3 3 E 3 3 o = rR.l0 k 2 9 7 3 3 E 3 3 (sq E (sq E (sq E (sq E o 6 14) 9 15) 20 2) 21 5) := by kernel_rfl
theorem ss_3_3_2_7 : sl (k + 11) 2 7 3 3 E 3 3 o = sl k 2 8 3 3 E 3 3 (sq E (sq E (sq E (sq E o 7 18) 10 19) 21 5) 22 8) := by kernel_rfl
theorem rs_3_3_2_7 : rR.l0 (k + 7) 2 9 7 3 3 E 3 3 o = rR.l0 k 2 9 8 3 3 E 3 3 (sq E (sq E (sq E (sq E o 7 18) 10 19) 21 5) 22 8) := by kernel_rfl
theorem ss_3_3_2_8 : sl (k + 11) 2 8 3 3 E 3 3 o = sl k 2 9 3 3 E 3 3 (sq E (sq E (sq E (sq E o 8 22) 11 23) 22 8) 23 11) := by kernel_rfl
theorem rs_3_3_2_8 : rR.l0 (k + 7) 2 9 8 3 3 E 3 3 o = rR.l0 k 2 9 9 3 3 E 3 3 (sq E (sq E (sq E (sq E o 8 22) 11 23) 22 8) 23 11) := by kernel_rfl
def L_3_3_2 : List (Nat × Nat) := [(0, 12), (3, 13), (12, 0), (13, 3), (1, 16), (4, 17), (13, 3), (14, 6), (2, 20), (5, 21), (14, 6), (15, 9), (3, 13), (6, 14), (16, 1), (17, 4), (4, 17), (7, 18), (17, 4), (18, 7), (5, 21), (8, 22), (18, 7), (19, 10), (6, 14), (9, 15), (20, 2), (21, 5), (7, 18), (10, 19), (21, 5), (22, 8), (8, 22), (11, 23), (22, 8), (23, 11)]
def P_3_3_2 : List Nat := [12, 16, 20, 13, 17, 21, 14, 18, 22, 15, 19, 23, 0, 3, 6, 9, 1, 4, 7, 10, 2, 5, 8, 11]
theorem nest_3_3_2 (E : Int) : fldI E L_3_3_2 = (sq E (sq E (sq E (sq E ((sq E (sq E (sq E (sq E ((sq E (sq E (sq E (sq E ((sq E (sq E (sq E (sq E ((sq E (sq E (sq E (sq E ((sq E (sq E (sq E (sq E ((sq E (sq E (sq E (sq E ((sq E (sq E (sq E (sq E ((sq E (sq E (sq E (sq E 0 0 12) 3 13) 12 0) 13 3)) 1 16) 4 17) 13 3) 14 6)) 2 20) 5 21) 14 6) 15 9)) 3 13) 6 14) 16 1) 17 4)) 4 17) 7 18) 17 4) 18 7)) 5 21) 8 22) 18 7) 19 10)) 6 14) 9 15) 20 2) 21 5)) 7 18) 10 19) 21 5) 22 8)) 8 22) 11 23) 22 8) 23 11) := rfl
theorem same_3_3_2 (E : Int) : Ev (fun k => spec_l03Reflected.f k 3 3 E 2) (3, 3, fldI E L_3_3_2) ∧ Ev (fun k => rR.f k 3 3 E 2) (3, 3, fldI E L_3_3_2) := by
  rw [nest_3_3_2]
  refine ⟨?_, ?_⟩
  · refine ev_add (f := fun k => sl k 2 0 3 3 E 3 3 0) 1 (fun k => by kernel_rfl) ?_
    refine ev_add 11 (fun k => ss_3_3_2_0 k E _) ?_
    refine ev_add 11 (fun k => ss_3_3_2_1 k E _) ?_
    refine ev_add 11 (fun k => ss_3_3_2_2 k E _) ?_
    refine ev_add 11 (fun k => ss_3_3_2_3 k E _) ?_
    refine ev_add 11 (fun k => ss_3_3_2_4 k E _) ?_
    refine ev_add 11 (fun k => ss_3_3_2_5 k E _) ?_
    refine ev_add 11 (fun k => ss_3_3_2_6 k E _) ?_
    refine ev_add 11 (fun k => ss_3_3_2_7 k E _) ?_
    refine ev_add 11 (fun k => ss_3_3_2_8 k E _) ?_
    exact ev_add (f := fun _ => some (3, 3, (sq E (sq E (sq E (sq E ((sq E (sq E (sq E (sq E ((sq E (sq E (sq E (sq E ((sq E (sq E (sq E (sq E ((sq E (sq E (sq E (sq E ((sq E (sq E (sq E (sq E ((sq E (sq E (sq E (sq E ((sq E (sq E (sq E (sq E ((sq E (sq E (sq E (sq E 0 0 12) 3 13) 12 0) 13 3)) 1 16) 4 17) 13 3) 14 6)) 2 20) 5 21) 14 6) 15 9)) 3 13) 6 14) 16 1) 17 4)) 4 17) 7 18) 17 4) 18 7)) 5 21) 8 22) 18 7) 19 10)) 6 14) 9 15) 20 2) 21 5)) 7 18) 10 19) 21 5) 22 8)) 8 22) 11 23) 22 8) 23 11))) 1 (fun k => by kernel_rfl) (Ev.now _)
  · refine ev_add (f := fun k => rR.l0 k 2 9 0 3 3 E 3 3 0) 1 (fun k => by kernel_rfl) ?_
    refine ev_add 7 (fun k => rs_3_3_2_0 k E _) ?_
    refine ev_add 7 (fun k => rs_3_3_2_1 k E _) ?_
    refine ev_add 7 (fun k => rs_3_3_2_2 k E _) ?_
    refine ev_add 7 (fun k => rs_3_3_2_3 k E _) ?_
    refine ev_add 7 (fun k => rs_3_3_2_4 k E _) ?_
    refine ev_add 7 (fun k => rs_3_3_2_5 k E _) ?_
    refine ev_add 7 (fun k => rs_3_3_2_6 k E _) ?_
    refine ev_add 7 (fun k => rs_3_3_2_7 k E _) ?_
    refine ev_add 7 (fun k => rs_3_3_2_8 k E _) ?_
    exact ev_add (f := fun _ => some (3, 3, (sq E (sq E (sq E (sq E ((sq E (sq E (sq E (sq E ((sq E (sq E (sq E (sq E ((sq E (sq E (sq E (sq E ((sq E (sq E (sq E (sq E ((sq E (sq E (sq E (sq E ((sq E (sq E (sq E (sq E ((sq E (sq E (sq E (sq E ((sq E (sq E (sq E (sq E 0 0 12) 3 13) 12 0) 13 3)) 1 16) 4 17) 13 3) 14 6)) 2 20) 5 21) 14 6) 15 9)) 3 13) 6 14) 16 1) 17 4)) 4 17) 7 18) 17 4) 18 7)) 5 21) 8 22) 18 7) 19 10)) 6 14) 9 15) 20 2) 21 5)) 7 18) 10 19) 21 5) 22 8)) 8 22) 11 23) 22 8) 23 11))) 1 (fun k => by kernel_rfl) (Ev.now _)
end
def Vn (n : Nat) (x : Int) : Prop := ∃ m : Nat, x = (m : Int) ∧ m < 2 ^ n
def mv (L : List (Nat × Nat)) (x : Int) : Int := ((fld x.toNat L : Nat) : Int)
def rk (L0 L1 L2 : List (Nat × Nat)) (t : Nat) (x : Int) : Int := if t = 0 then mv L0 x else if t = 1 then mv L1 x else mv L2 x
theorem mv_nat (L : List (Nat × Nat)) (m : Nat) : mv L (m : Int) = ((fld m L : Nat) : Int) := by unfold mv; rw [Int.toNat_natCast]
theorem grp_of (n : Nat) (L0 L1 L2 : List (Nat × Nat)) (P0 P1 P2 : List Nat) (k : Nat) (a0 : okP n L0 P0 = true) (a1 : okP n L1 P1 = true) (a2 : k = 3 → okP n L2 P2 = true) (b00 : backP n P0 P0 = true) (b11 : backP n P1 P1 = true) (b01 : sameP n P1 P0 P0 P1 = true)
    (b22 : k = 3 → backP n P2 P2 = true) (b20 : k = 3 → sameP n P0 P2 P2 P1 = true) (b21 : k = 3 → sameP n P1 P2 P2 P0 = true) (hk : k ≤ 3) : Grp (Vn n) (rk L0 L1 L2) k where
  lt := by
    rintro t x ⟨m, rfl, hm⟩ ht
    unfold rk
    by_cases c0 : t = 0
    · rw [if_pos c0, mv_nat]; exact ⟨_, rfl, fld_lt a0 m⟩
    · rw [if_neg c0]
      by_cases c1 : t = 1
      · rw [if_pos c1, mv_nat]; exact ⟨_, rfl, fld_lt a1 m⟩
      · rw [if_neg c1, mv_nat]; exact ⟨_, rfl, fld_lt (a2 (by omega)) m⟩
  h00 := by
    rintro x ⟨m, rfl, hm⟩
    show mv L0 (mv L0 _) = _
    rw [mv_nat, mv_nat, fld_back a0 a0 b00 m hm]
  h11 := by
    rintro x ⟨m, rfl, hm⟩
    show mv L1 (mv L1 _) = _
    rw [mv_nat, mv_nat, fld_back a1 a1 b11 m hm]
  h01 := by
    rintro x ⟨m, rfl, hm⟩
    show mv L0 (mv L1 _) = mv L1 (mv L0 _)
    rw [mv_nat, mv_nat, mv_nat, mv_nat, fld_same a1 a0 a0 a1 b01]
  h22 := by
    rintro h3 x ⟨m, rfl, hm⟩
    show mv L2 (mv L2 _) = _
    rw [mv_nat, mv_nat, fld_back (a2 h3) (a2 h3) (b22 h3) m hm]
  h20 := by
    rintro h3 x ⟨m, rfl, hm⟩
    show mv L2 (mv L0 _) = mv L1 (mv L2 _)
    rw [mv_nat, mv_nat, mv_nat, mv_nat, fld_same a0 (a2 h3) (a2 h3) a1 (b20 h3)]
  h21 := by
    rintro h3 x ⟨m, rfl, hm⟩
    show mv L2 (mv L1 _) = mv L0 (mv L2 _)
    rw [mv_nat, mv_nat, mv_nat, mv_nat, fld_same a1 (a2 h3) (a2 h3) a0 (b21 h3)]
theorem pow24 {n m : Nat} (h : m < 2 ^ n) (hn : n ≤ 24) : m < 1073741824 := by
  have h2 : 2 ^ n ≤ 2 ^ 24 := Nat.pow_le_pow_right (by decide) hn
  have h3 : (2 : Nat) ^ 24 = 16777216 := by decide
  omega
theorem grp_1_1 : Grp (Vn 4) (rk L_1_1_0 L_1_1_1 L_1_1_2) 3 := grp_of 4 _ _ _ P_1_1_0 P_1_1_1 P_1_1_2 3 (by decide +kernel) (by decide +kernel) (fun _ => by decide +kernel) (by decide +kernel) (by decide +kernel) (by decide +kernel) (fun _ => by decide +kernel) (fun _ => by decide +kernel) (fun _ => by decide +kernel) (by decide)
theorem mvS_1_1 (t : Nat) (ht : t < 3) (x : Int) (hx : Vn 4 x) : Ev (fun k => spec_l03Reflected.f k 1 1 x (t : Int)) (1, 1, rk L_1_1_0 L_1_1_1 L_1_1_2 t x) := by
  obtain ⟨m, rfl, hm⟩ := hx
  have hm2 := pow24 hm (by decide)
  obtain rfl | rfl | rfl : t = 0 ∨ t = 1 ∨ t = 2 := by omega
  · have h := same_1_1_0 (m : Int)
    rw [fldI_nat m hm2 L_1_1_0 (by decide +kernel)] at h
    show Ev _ (1, 1, mv L_1_1_0 (m : Int))
    rw [mv_nat]
    exact h.1
  · have h := same_1_1_1 (m : Int)
    rw [fldI_nat m hm2 L_1_1_1 (by decide +kernel)] at h
    show Ev _ (1, 1, mv L_1_1_1 (m : Int))
    rw [mv_nat]
    exact h.1
  · have h := same_1_1_2 (m : Int)
    rw [fldI_nat m hm2 L_1_1_2 (by decide +kernel)] at h
    show Ev _ (1, 1, mv L_1_1_2 (m : Int))
    rw [mv_nat]
    exact h.1
theorem mvI_1_1 (t : Nat) (ht : t < 3) (x : Int) (hx : Vn 4 x) : Ev (fun k => impl_Boxes_reflected.f k 1 1 x (t : Int)) (1, 1, rk L_1_1_0 L_1_1_1 L_1_1_2 t x) := by
  obtain ⟨m, rfl, hm⟩ := hx
  have hm2 := pow24 hm (by decide)
  obtain rfl | rfl | rfl : t = 0 ∨ t = 1 ∨ t = 2 := by omega
  · have h := same_1_1_0 (m : Int)
    rw [fldI_nat m hm2 L_1_1_0 (by decide +kernel)] at h
    show Ev _ (1, 1, mv L_1_1_0 (m : Int))
    rw [mv_nat]
    exact (let ⟨K_, hK_⟩ := h.2; ⟨K_, fun k hk => refl_le k 1 1 (m : Int) 0 _ (hK_ k hk)⟩)
  · have h := same_1_1_1 (m : Int)
    rw [fldI_nat m hm2 L_1_1_1 (by decide +kernel)] at h
    show Ev _ (1, 1, mv L_1_1_1 (m : Int))
    rw [mv_nat]
    exact (let ⟨K_, hK_⟩ := h.2; ⟨K_, fun k hk => refl_le k 1 1 (m : Int) 1 _ (hK_ k hk)⟩)
  · have h := same_1_1_2 (m : Int)
    rw [fldI_nat m hm2 L_1_1_2 (by decide +kernel)] at h
    show Ev _ (1, 1, mv L_1_1_2 (m : Int))
    rw [mv_nat]
    exact (let ⟨K_, hK_⟩ := h.2; ⟨K_, fun k hk => refl_le k 1 1 (m : Int) 2 _ (hK_ k hk)⟩)
theorem grp_1_2 : Grp (Vn 7) (rk L_1_2_0 L_1_2_1 []) 2 := grp_of 7 _ _ _ P_1_2_0 P_1_2_1 [] 2 (by decide +kernel) (by decide +kernel) (fun e => absurd e (by decide)) (by decide +kernel) (by decide +kernel) (by decide +kernel) (fun e => absurd e (by decide)) (fun e => absurd e (by decide)) (fun e => absurd e (by decide)) (by decide)
theorem mvS_1_2 (t : Nat) (ht : t < 2) (x : Int) (hx : Vn 7 x) : Ev (fun k => spec_l03Reflected.f k 1 2 x (t : Int)) (1, 2, rk L_1_2_0 L_1_2_1 [] t x) := by
  obtain ⟨m, rfl, hm⟩ := hx
  have hm2 := pow24 hm (by decide)
  obtain rfl | rfl : t = 0 ∨ t = 1 := by omega
  · have h := same_1_2_0 (m : Int)
    rw [fldI_nat m hm2 L_1_2_0 (by decide +kernel)] at h
    show Ev _ (1, 2, mv L_1_2_0 (m : Int))
    rw [mv_nat]
    exact h.1
  · have h := same_1_2_1 (m : Int)
    rw [fldI_nat m hm2 L_1_2_1 (by decide +kernel)] at h
    show Ev _ (1, 2, mv L_1_2_1 (m : Int))
    rw [mv_nat]
    exact h.1
theorem mvI_1_2 (t : Nat) (ht : t < 2) (x : Int) (hx : Vn 7 x) : Ev (fun k => impl_Boxes_reflected.f k 1 2 x (t : Int)) (1, 2, rk L_1_2_0 L_1_2_1 [] t x) := by
  obtain ⟨m, rfl, hm⟩ := hx
  have hm2 := pow24 hm (by decide)
  obtain rfl | rfl : t = 0 ∨ t = 1 := by omega
  · have h := same_1_2_0 (m : Int)
    rw [fldI_nat m hm2 L_1_2_0 (by decide +kernel)] at h
    show Ev _ (1, 2, mv L_1_2_0 (m : Int))
    rw [mv_nat]
    exact (let ⟨K_, hK_⟩ := h.2; ⟨K_, fun k hk => refl_le k 1 2 (m : Int) 0 _ (hK_ k hk)⟩)
  · have h := same_1_2_1 (m : Int)
    rw [fldI_nat m hm2 L_1_2_1 (by decide +kernel)] at h
    show Ev _ (1, 2, mv L_1_2_1 (m : Int))
    rw [mv_nat]
    exact (let ⟨K_, hK_⟩ := h.2; ⟨K_, fun k hk => refl_le k 1 2 (m : Int) 1 _ (hK_ k hk)⟩)
theorem grp_1_3 : Grp (Vn 10) (rk L_1_3_0 L_1_3_1 []) 2 := grp_of 10 _ _ _ P_1_3_0 P_1_3_1 [] 2 (by decide +kernel) (by decide +kernel) (fun e => absurd e (by decide)) (by decide +kernel) (by decide +kernel) (by decide +kernel) (fun e => absurd e (by decide)) (fun e => absurd e (by decide)) (fun e => absurd e (by decide)) (by decide)
theorem mvS_1_3 (t : Nat) (ht : t < 2) (x : Int) (hx : Vn 10 x) : Ev (fun k => spec_l03Reflected.f k 1 3 x (t : Int)) (1, 3, rk L_1_3_0 L_1_3_1 [] t x) := by
  obtain ⟨m, rfl, hm⟩ := hx
  have hm2 := pow24 hm (by decide)
  obtain rfl | rfl : t = 0 ∨ t = 1 := by omega
  · have h := same_1_3_0 (m : Int)
    rw [fldI_nat m hm2 L_1_3_0 (by decide +kernel)] at h
    show Ev _ (1, 3, mv L_1_3_0 (m : Int))
    rw [mv_nat]
    exact h.1
  · have h := same_1_3_1 (m : Int)
    rw [fldI_nat m hm2 L_1_3_1 (by decide +kernel)] at h
    show Ev _ (1, 3, mv L_1_3_1 (m : Int))
    rw [mv_nat]
    exact h.1
theorem mvI_1_3 (t : Nat) (ht : t < 2) (x : Int) (hx : Vn 10 x) : Ev (fun k => impl_Boxes_reflected.f k 1 3 x (t : Int)) (1, 3, rk L_1_3_0 L_1_3_1 [] t x) := by
  obtain ⟨m, rfl, hm⟩ := hx
  have hm2 := pow24 hm (by decide)
  obtain rfl | rfl : t = 0 ∨ t = 1 := by omega
  · have h := same_1_3_0 (m : Int)
    rw [fldI_nat m hm2 L_1_3_0 (by decide +kernel)] at h
    show Ev _ (1, 3, mv L_1_3_0 (m : Int))
    rw [mv_nat]
    exact (let ⟨K_, hK_⟩ := h.2; ⟨K_, fun k hk => refl_le k 1 3 (m : Int) 0 _ (hK_ k hk)⟩)
  · have h := same_1_3_1 (m : Int)
    rw [fldI_nat m hm2 L_1_3_1 (by decide +kernel)] at h
    show Ev _ (1, 3, mv L_1_3_1 (m : Int))
    rw [mv_nat]
    exact (let ⟨K_, hK_⟩ := h.2; ⟨K_, fun k hk => refl_le k 1 3 (m : Int) 1 _ (hK_ k hk)⟩)
theorem grp_2_1 : Grp (Vn 7) (rk L_2_1_0 L_2_1_1 []) 2 := grp_of 7 _ _ _ P_2_1_0 P_2_1_1 [] 2 (by decide +kernel) (by decide +kernel) (fun e => absurd e (by decide)) (by decide +kernel) (by decide +kernel) (by decide +kernel) (fun e => absurd e (by decide)) (fun e => absurd e (by decide)) (fun e => absurd e (by decide)) (by decide)
theorem mvS_2_1 (t : Nat) (ht : t < 2) (x : Int) (hx : Vn 7 x) : Ev (fun k => spec_l03Reflected.f k 2 1 x (t : Int)) (2, 1, rk L_2_1_0 L_2_1_1 [] t x) := by
  obtain ⟨m, rfl, hm⟩ := hx
  have hm2 := pow24 hm (by decide)
  obtain rfl | rfl : t = 0 ∨ t = 1 := by omega
  · have h := same_2_1_0 (m : Int)
    rw [fldI_nat m hm2 L_2_1_0 (by decide +kernel)] at h
    show Ev _ (2, 1, mv L_2_1_0 (m : Int))
    rw [mv_nat]
    exact h.1
  · have h := same_2_1_1 (m : Int)
    rw [fldI_nat m hm2 L_2_1_1 (by decide +kernel)] at h
    show Ev _ (2, 1, mv L_2_1_1 (m : Int))
    rw [mv_nat]
    exact h.1
theorem mvI_2_1 (t : Nat) (ht : t < 2) (x : Int) (hx : Vn 7 x) : Ev (fun k => impl_Boxes_reflected.f k 2 1 x (t : Int)) (2, 1, rk L_2_1_0 L_2_1_1 [] t x) := by
  obtain ⟨m, rfl, hm⟩ := hx
  have hm2 := pow24 hm (by decide)
  obtain rfl | rfl : t = 0 ∨ t = 1 := by omega
  · have h := same_2_1_0 (m : Int)
    rw [fldI_nat m hm2 L_2_1_0 (by decide +kernel)] at h
    show Ev _ (2, 1, mv L_2_1_0 (m : Int))
    rw [mv_nat]
    exact (let ⟨K_, hK_⟩ := h.2; ⟨K_, fun k hk => refl_le k 2 1 (m : Int) 0 _ (hK_ k hk)⟩)
  · have h := same_2_1_1 (m : Int)
    rw [fldI_nat m hm2 L_2_1_1 (by decide +kernel)] at h
    show Ev _ (2, 1, mv L_2_1_1 (m : Int))
    rw [mv_nat]
    exact (let ⟨K_, hK_⟩ := h.2; ⟨K_, fun k hk => refl_le k 2 1 (m : Int) 1 _ (hK_ k hk)⟩)
theorem grp_2_2 : Grp (Vn 12) (rk L_2_2_0 L_2_2_1 L_2_2_2) 3 := grp_of 12 _ _ _ P_2_2_0 P_2_2_1 P_2_2_2 3 (by decide +kernel) (by decide +kernel) (fun _ => by decide +kernel) (by decide +kernel) (by decide +kernel) (by decide +kernel) (fun _ => by decide +kernel) (fun _ => by decide +kernel) (fun _ => by decide +kernel) (by decide)
theorem mvS_2_2 (t : Nat) (ht : t < 3) (x : Int) (hx : Vn 12 x) : Ev (fun k => spec_l03Reflected.f k 2 2 x (t : Int)) (2, 2, rk L_2_2_0 L_2_2_1 L_2_2_2 t x) := by
  obtain ⟨m, rfl, hm⟩ := hx
  have hm2 := pow24 hm (by decide)
  obtain rfl | rfl | rfl : t = 0 ∨ t = 1 ∨ t = 2 := by omega
  · have h := same_2_2_0 (m : Int)
    rw [fldI_nat m hm2 L_2_2_0 (by decide +kernel)] at h
    show Ev _ (2, 2, mv L_2_2_0 (m : Int))
    rw [mv_nat]
    exact h.1
  · have h := same_2_2_1 (m : Int)
    rw [fldI_nat m hm2 L_2_2_1 (by decide +kernel)] at h
    show Ev _ (2, 2, mv L_2_2_1 (m : Int))
    rw [mv_nat]
    exact h.1
  · have h := same_2_2_2 (m : Int)
    rw [fldI_nat m hm2 L_2_2_2 (by decide +kernel)] at h
    show Ev _ (2, 2, mv L_2_2_2 (m : Int))
    rw [mv_nat]
    exact h.1
theorem mvI_2_2 (t : Nat) (ht : t < 3) (x : Int) (hx : Vn 12 x) : Ev (fun k => impl_Boxes_reflected.f k 2 2 x (t : Int)) (2, 2, rk L_2_2_0 L_2_2_1 L_2_2_2 t x) := by
  obtain ⟨m, rfl, hm⟩ := hx
  have hm2 := pow24 hm (by decide)
  obtain rfl | rfl | rfl : t = 0 ∨ t = 1 ∨ t = 2 := by omega
  · have h := same_2_2_0 (m : Int)
    rw [fldI_nat m hm2 L_2_2_0 (by decide +kernel)] at h
    show Ev _ (2, 2, mv L_2_2_0 (m : Int))
    rw [mv_nat]
    exact (let ⟨K_, hK_⟩ := h.2; ⟨K_, fun k hk => refl_le k 2 2 (m : Int) 0 _ (hK_ k hk)⟩)
  · have h := same_2_2_1 (m : Int)
    rw [fldI_nat m hm2 L_2_2_1 (by decide +kernel)] at h
    show Ev _ (2, 2, mv L_2_2_1 (m : Int))
    rw [mv_nat]
    exact (let ⟨K_, hK_⟩ := h.2; ⟨K_, fun k hk => refl_le k 2 2 (m : Int) 1 _ (hK_ k hk)⟩)
  · have h := same_2_2_2 (m : Int)
    rw [fldI_nat m hm2 L_2_2_2 (by decide +kernel)] at h
    show Ev _ (2, 2, mv L_2_2_2 (m : Int))
    rw [mv_nat]
    exact (let ⟨K_, hK_⟩ := h.2; ⟨K_, fun k hk => refl_le k 2 2 (m : Int) 2 _ (hK_ k hk)⟩)
theorem grp_2_3 : Grp (Vn 17) (rk L_2_3_0 L_2_3_1 []) 2 := grp_of 17 _ _ _ P_2_3_0 P_2_3_1 [] 2 (by decide +kernel) (by decide +kernel) (fun e => absurd e (by decide)) (by decide +kernel) (by decide +kernel) (by decide +kernel) (fun e => absurd e (by decide)) (fun e => absurd e (by decide)) (fun e => absurd e (by decide)) (by decide)
theorem mvS_2_3 (t : Nat) (ht : t < 2) (x : Int) (hx : Vn 17 x) : Ev (fun k => spec_l03Reflected.f k 2 3 x (t : Int)) (2, 3, rk L_2_3_0 L_2_3_1 [] t x) := by
  obtain ⟨m, rfl, hm⟩ := hx
  have hm2 := pow24 hm (by decide)
  obtain rfl | rfl : t = 0 ∨ t = 1 := by omega
  · have h := same_2_3_0 (m : Int)
    rw [fldI_nat m hm2 L_2_3_0 (by decide +kernel)] at h
    show Ev _ (2, 3, mv L_2_3_0 (m : Int))
    rw [mv_nat]
    exact h.1
  · have h := same_2_3_1 (m : Int)
    rw [fldI_nat m hm2 L_2_3_1 (by decide +kernel)] at h
    show Ev _ (2, 3, mv L_2_3_1 (m : Int))
    rw [mv_nat]
    exact h.1
theorem mvI_2_3 (t : Nat) (ht : t < 2) (x : Int) (hx : Vn 17 x) : Ev (fun k => impl_Boxes_reflected.f k 2 3 x (t : Int)) (2, 3, rk L_2_3_0 L_2_3_1 [] t x) := by
  obtain ⟨m, rfl, hm⟩ := hx
  have hm2 := pow24 hm (by decide)
  obtain rfl | rfl : t = 0 ∨ t = 1 := by omega
  · have h := same_2_3_0 (m : Int)
    rw [fldI_nat m hm2 L_2_3_0 (by decide +kernel)] at h
    show Ev _ (2, 3, mv L_2_3_0 (m : Int))
    rw [mv_nat]
    exact (let ⟨K_, hK_⟩ := h.2; ⟨K_, fun k hk => refl_le k 2 3 (m : Int) 0 _ (hK_ k hk)⟩)
  · have h := same_2_3_1 (m : Int)
    rw [fldI_nat m hm2 L_2_3_1 (by decide +kernel)] at h
    show Ev _ (2, 3, mv L_2_3_1 (m : Int))
    rw [mv_nat]
    exact (let ⟨K_, hK_⟩ := h.2; ⟨K_, fun k hk => refl_le k 2 3 (m : Int) 1 _ (hK_ k hk)⟩)
theorem grp_3_1 : Grp (Vn 10) (rk L_3_1_0 L_3_1_1 []) 2 := grp_of 10 _ _ _ P_3_1_0 P_3_1_1 [] 2 (by decide +kernel) (by decide +kernel) (fun e => absurd e (by decide)) (by decide +kernel) (by decide +kernel) (by decide +kernel) (fun e => absurd e (by decide)) (fun e => absurd e (by decide)) (fun e => absurd e (by decide)) (by decide)
theorem mvS_3_1 (t : Nat) (ht : t < 2) (x : Int) (hx : Vn 10 x) : Ev (fun k => spec_l03Reflected.f k 3 1 x (t : Int)) (3, 1, rk L_3_1_0 L_3_1_1 [] t x) := by
  obtain ⟨m, rfl, hm⟩ := hx
  have hm2 := pow24 hm (by decide)
  obtain rfl | rfl : t = 0 ∨ t = 1 := by omega
  · have h := same_3_1_0 (m : Int)
    rw [fldI_nat m hm2 L_3_1_0 (by decide +kernel)] at h
    show Ev _ (3, 1, mv L_3_1_0 (m : Int))
    rw [mv_nat]
    exact h.1
  · have h := same_3_1_1 (m : Int)
    rw [fldI_nat m hm2 L_3_1_1 (by decide +kernel)] at h
    show Ev _ (3, 1, mv L_3_1_1 (m : Int))
    rw [mv_nat]
    exact h.1
theorem mvI_3_1 (t : Nat) (ht : t < 2) (x : Int) (hx : Vn 10 x) : Ev (fun k => impl_Boxes_reflected.f k 3 1 x (t : Int)) (3, 1, rk L_3_1_0 L_3_1_1 [] t x) := by
  obtain ⟨m, rfl, hm⟩ := hx
  have hm2 := pow24 hm (by decide)
  obtain rfl | rfl : t = 0 ∨ t = 1 := by omega
  · have h := same_3_1_0 (m : Int)
    rw [fldI_nat m hm2 L_3_1_0 (by decide +kernel)] at h
    show Ev _ (3, 1, mv L_3_1_0 (m : Int))
    rw [mv_nat]
    exact (let ⟨K_, hK_⟩ := h.2; ⟨K_, fun k hk => refl_le k 3 1 (m : Int) 0 _ (hK_ k hk)⟩)
  · have h := same_3_1_1 (m : Int)
    rw [fldI_nat m hm2 L_3_1_1 (by decide +kernel)] at h
    show Ev _ (3, 1, mv L_3_1_1 (m : Int))
    rw [mv_nat]
    exact (let ⟨K_, hK_⟩ := h.2; ⟨K_, fun k hk => refl_le k 3 1 (m : Int) 1 _ (hK_ k hk)⟩)
theorem grp_3_2 : Grp (Vn 17) (rk L_3_2_0 L_3_2_1 []) 2 := grp_of 17 _ _ _ P_3_2_0 P_3_2_1 [] 2 (by decide +kernel) (by decide +kernel) (fun e => absurd e (by decide)) (by decide +kernel) (by decide +kernel) (by decide +kernel) (fun e => absurd e (by decide)) (fun e => absurd e (by decide)) (fun e => absurd e (by decide)) (by decide)
theorem mvS_3_2 (t : Nat) (ht : t < 2) (x : Int) (hx : Vn 17 x) : Ev (fun k => spec_l03Reflected.f k 3 2 x (t : Int)) (3, 2, rk L_3_2_0 L_3_2_1 [] t x) := by
  obtain ⟨m, rfl, hm⟩ := hx
  have hm2 := pow24 hm (by decide)
  obtain rfl | rfl : t = 0 ∨ t = 1 := by omega
  · have h := same_3_2_0 (m : Int)
    rw [fldI_nat m hm2 L_3_2_0 (by decide +kernel)] at h
    show Ev _ (3, 2, mv L_3_2_0 (m : Int))
    rw [mv_nat]
    exact h.1
  · have h := same_3_2_1 (m : Int)
    rw [fldI_nat m hm2 L_3_2_1 (by decide +kernel)] at h
    show Ev _ (3, 2, mv L_3_2_1 (m : Int))
    rw [mv_nat]
    exact h.1
theorem mvI_3_2 (t : Nat) (ht : t < 2) (x : Int) (hx : Vn 17 x) : Ev (fun k => impl_Boxes_reflected.f k 3 2 x (t : Int)) (3, 2, rk L_3_2_0 L_3_2_1 [] t x) := by
  obtain ⟨m, rfl, hm⟩ := hx
  have hm2 := pow24 hm (by decide)
  obtain rfl | rfl : t = 0 ∨ t = 1 := by omega
  · have h := same_3_2_0 (m : Int)
    rw [fldI_nat m hm2 L_3_2_0 (by decide +kernel)] at h
    show Ev _ (3, 2, mv L_3_2_0 (m : Int))
    rw [mv_nat]
    exact (let ⟨K_, hK_⟩ := h.2; ⟨K_, fun k hk => refl_le k 3 2 (m : Int) 0 _ (hK_ k hk)⟩)
  · have h := same_3_2_1 (m : Int)
    rw [fldI_nat m hm2 L_3_2_1 (by decide +kernel)] at h
    show Ev _ (3, 2, mv L_3_2_1 (m : Int))
    rw [mv_nat]
    exact (let ⟨K_, hK_⟩ := h.2; ⟨K_, fun k hk => refl_le k 3 2 (m : Int) 1 _ (hK_ k hk)⟩)
theorem grp_3_3 : Grp (Vn 24) (rk L_3_3_0 L_3_3_1 L_3_3_2) 3 := grp_of 24 _ _ _ P_3_3_0 P_3_3_1 P_3_3_2 3 (by decide +kernel) (by decide +kernel) (fun _ => by decide +kernel) (by decide +kernel) (by decide +kernel) (by decide +kernel) (fun _ => by decide +kernel) (fun _ => by decide +kernel) (fun _ => by decide +kernel) (by decide)
theorem mvS_3_3 (t : Nat) (ht : t < 3) (x : Int) (hx : Vn 24 x) : Ev (fun k => spec_l03Reflected.f k 3 3 x (t : Int)) (3, 3, rk L_3_3_0 L_3_3_1 L_3_3_2 t x) := by
  obtain ⟨m, rfl, hm⟩ := hx
  have hm2 := pow24 hm (by decide)
  obtain rfl | rfl | rfl : t = 0 ∨ t = 1 ∨ t = 2 := by omega
  · have h := same_3_3_0 (m : Int)
    rw [fldI_nat m hm2 L_3_3_0 (by decide +kernel)] at h
    show Ev _ (3, 3, mv L_3_3_0 (m : Int))
    rw [mv_nat]
    exact h.1
  · have h := same_3_3_1 (m : Int)
    rw [fldI_nat m hm2 L_3_3_1 (by decide +kernel)] at h
    show Ev _ (3, 3, mv L_3_3_1 (m : Int))
    rw [mv_nat]
    exact h.1
  · have h := same_3_3_2 (m : Int)
    rw [fldI_nat m hm2 L_3_3_2 (by decide +kernel)] at h
    show Ev _ (3, 3, mv L_3_3_2 (m : Int))
    rw [mv_nat]
    exact h.1
theorem mvI_3_3 (t : Nat) (ht : t < 3) (x : Int) (hx : Vn 24 x) : Ev (fun k => impl_Boxes_reflected.f k 3 3 x (t : Int)) (3, 3, rk L_3_3_0 L_3_3_1 L_3_3_2 t x) := by
  obtain ⟨m, rfl, hm⟩ := hx
  have hm2 := pow24 hm (by decide)
  obtain rfl | rfl | rfl : t = 0 ∨ t = 1 ∨ t = 2 := by omega
  · have h := same_3_3_0 (m : Int)
    rw [fldI_nat m hm2 L_3_3_0 (by decide +kernel)] at h
    show Ev _ (3, 3, mv L_3_3_0 (m : Int))
    rw [mv_nat]
    exact (let ⟨K_, hK_⟩ := h.2; ⟨K_, fun k hk => refl_le k 3 3 (m : Int) 0 _ (hK_ k hk)⟩)
  · have h := same_3_3_1 (m : Int)
    rw [fldI_nat m hm2 L_3_3_1 (by decide +kernel)] at h
    show Ev _ (3, 3, mv L_3_3_1 (m : Int))
    rw [mv_nat]
    exact (let ⟨K_, hK_⟩ := h.2; ⟨K_, fun k hk => refl_le k 3 3 (m : Int) 1 _ (hK_ k hk)⟩)
  · have h := same_3_3_2 (m : Int)
    rw [fldI_nat m hm2 L_3_3_2 (by decide +kernel)] at h
    show Ev _ (3, 3, mv L_3_3_2 (m : Int))
    rw [mv_nat]
    exact (let ⟨K_, hK_⟩ := h.2; ⟨K_, fun k hk => refl_le k 3 3 (m : Int) 2 _ (hK_ k hk)⟩)
theorem least_ev (w h e : Int) (hB : isB w h e = true) : ∃ v : Int × Int × Int × Int, Ev (fun k => spec_LeastBoxes.l0 k 0 w h e w h e) v ∧ Ev (fun k => impl_LeastBoxes.j0 k (if w = h then 3 else 2) w h e) v := by
  unfold isB at hB
  have hb := of_decide_eq_true hB
  obtain ⟨⟨w1, w2⟩, ⟨h1, h2⟩, e1, e2⟩ := hb
  obtain rfl | rfl | rfl : w = 1 ∨ w = 2 ∨ w = 3 := by omega
  · obtain rfl | rfl | rfl : h = 1 ∨ h = 2 ∨ h = 3 := by omega
    · have e3 : e < 16 := e2
      have e4 : (2 : Nat) ^ 4 = 16 := by decide
      have hv : Vn 4 e := ⟨e.toNat, by omega, by omega⟩
      exact ⟨_, spec_least mvS_1_1 grp_1_1 (Or.inl ⟨rfl, rfl⟩) e hv, impl_least mvI_1_1 grp_1_1 (Or.inr rfl) e hv⟩
    · have e3 : e < 128 := e2
      have e4 : (2 : Nat) ^ 7 = 128 := by decide
      have hv : Vn 7 e := ⟨e.toNat, by omega, by omega⟩
      exact ⟨_, spec_least mvS_1_2 grp_1_2 (Or.inr ⟨rfl, by decide⟩) e hv, impl_least mvI_1_2 grp_1_2 (Or.inl rfl) e hv⟩
    · have e3 : e < 1024 := e2
      have e4 : (2 : Nat) ^ 10 = 1024 := by decide
      have hv : Vn 10 e := ⟨e.toNat, by omega, by omega⟩
      exact ⟨_, spec_least mvS_1_3 grp_1_3 (Or.inr ⟨rfl, by decide⟩) e hv, impl_least mvI_1_3 grp_1_3 (Or.inl rfl) e hv⟩
  · obtain rfl | rfl | rfl : h = 1 ∨ h = 2 ∨ h = 3 := by omega
    · have e3 : e < 128 := e2
      have e4 : (2 : Nat) ^ 7 = 128 := by decide
      have hv : Vn 7 e := ⟨e.toNat, by omega, by omega⟩
      exact ⟨_, spec_least mvS_2_1 grp_2_1 (Or.inr ⟨rfl, by decide⟩) e hv, impl_least mvI_2_1 grp_2_1 (Or.inl rfl) e hv⟩
    · have e3 : e < 4096 := e2
      have e4 : (2 : Nat) ^ 12 = 4096 := by decide
      have hv : Vn 12 e := ⟨e.toNat, by omega, by omega⟩
      exact ⟨_, spec_least mvS_2_2 grp_2_2 (Or.inl ⟨rfl, rfl⟩) e hv, impl_least mvI_2_2 grp_2_2 (Or.inr rfl) e hv⟩
    · have e3 : e < 131072 := e2
      have e4 : (2 : Nat) ^ 17 = 131072 := by decide
      have hv : Vn 17 e := ⟨e.toNat, by omega, by omega⟩
      exact ⟨_, spec_least mvS_2_3 grp_2_3 (Or.inr ⟨rfl, by decide⟩) e hv, impl_least mvI_2_3 grp_2_3 (Or.inl rfl) e hv⟩
  · obtain rfl | rfl | rfl : h = 1 ∨ h = 2 ∨ h = 3 := by omega
    · have e3 : e < 1024 := e2
      have e4 : (2 : Nat) ^ 10 = 1024 := by decide
      have hv : Vn 10 e := ⟨e.toNat, by omega, by omega⟩
      exact ⟨_, spec_least mvS_3_1 grp_3_1 (Or.inr ⟨rfl, by decide⟩) e hv, impl_least mvI_3_1 grp_3_1 (Or.inl rfl) e hv⟩
    · have e3 : e < 131072 := e2
      have e4 : (2 : Nat) ^ 17 = 131072 := by decide
      have hv : Vn 17 e := ⟨e.toNat, by omega, by omega⟩
      exact ⟨_, spec_least mvS_3_2 grp_3_2 (Or.inr ⟨rfl, by decide⟩) e hv, impl_least mvI_3_2 grp_3_2 (Or.inl rfl) e hv⟩
    · have e3 : e < 16777216 := e2
      have e4 : (2 : Nat) ^ 24 = 16777216 := by decide
      have hv : Vn 24 e := ⟨e.toNat, by omega, by omega⟩
      exact ⟨_, spec_least mvS_3_3 grp_3_3 (Or.inl ⟨rfl, rfl⟩) e hv, impl_least mvI_3_3 grp_3_3 (Or.inr rfl) e hv⟩

end Go.Proofs.Ytbnkefbcnojdgaa.Pure
