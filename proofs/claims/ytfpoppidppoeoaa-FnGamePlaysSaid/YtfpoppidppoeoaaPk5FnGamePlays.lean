/- Part 5 of the texts under the row of FnGamePlays (no condition). -/
import Derived.Test.YtfpoppidppoeoaaPk4FnGamePlays
namespace Go.Proofs.Ytfpoppidppoeoaa.PX
open Go.RowKit Go.Proofs.YtfpoppidppoeoaaW.PrintWords Go.Proofs.YtfpoppidppoeoaaW.PrintLast Go.Proofs.YtfpoppidppoeoaaW.PrintMore
attribute [local go_sem] max2_int min2_int max_two min_two max_three min_three max_four min_four
set_option linter.unusedVariables false
set_option linter.unusedSimpArgs false
set_option maxHeartbeats 8000000
set_option maxRecDepth 100000
def Zae.f (k : Nat) (l0 : List Int) : Option (Int × List Int) := (ZD.f k l0).bind fun bt732 => ((Zaq.f bt732.1 bt732.2.1 bt732.2.2 39).bind fun bt736 => ((Zu.f k bt732.1 bt736.2.1 bt736.2.2).bind fun bt739 => ((Zx.f bt732.1 bt739.2.1 bt739.2.2 12).bind fun bt744 => (if bt744.1 = 0 then ((Zar.f bt732.1 bt744.2.1 bt744.2.2 (([0, 1, 40] : List Int))).bind fun bt750 => (if bt739.1.length < 17592186044416 then (some (bt736.1, (bt739.1 ++ [bt750.1]))) else (none))) else (if bt744.1 = 1 then (some (bt736.1, (([] : List Int)))) else (some (bt736.1, bt739.1)))))))
theorem Zae.mono : ∀ a0 k, LeO (Zae.f k a0) (Zae.f (k + 1) a0) := by
 intro a0 k;unfold Zae.f;have m0 := Zu.mono;have m1 := ZD.mono;exact lO
theorem Zae.calls (k : Nat) (A0 : Option Addr) (c0 : Nat) (l0 : List Int) (r1 : Int) (r2 : List Int) (w : World) (hr0 : Kd.C (Kd.int .u8) w A0 l0.length l0) (hc0 : l0.length ≤ c0) (h : Zae.f k l0 = some (r1, r2)) :
 Calls Try.prog 25 #[.slice A0 l0.length c0] w fun e w' => ∃ v1_ : Value,e = .returned (.tuple #[.int .i64 r1,v1_]) ∧ Kd.R (Kd.int .i64) 2 w' w.heap.size (fun _ => True) v1_ r2 ∧ Below w.heap.size w w' := by
 have HR0 := aK hr0;have HC0 := aK hc0;clear hr0 hc0;have HB := aK (Below.refl w.heap.size w);have H := h;clear h;unfold Zae.f at H;replace H := bE H;obtain ⟨⟨t732,t733,t734⟩,A2,H⟩ := H;dsimp only at H;replace H := bE H;obtain ⟨⟨t736,t737,t738⟩,A3,H⟩ := H;dsimp only at H;replace H := bE H;obtain ⟨⟨t739,t742,t743⟩,A4,H⟩ := H;dsimp only at H;replace H := bE H;obtain ⟨⟨t744,t745,t746⟩,A5,H⟩ := H;dsimp only at H
 by_cases c6 : t744 = 0
 ·rw [if_pos c6] at H;have c6b0 := beq_iff_eq.mpr c6;have c6b1 := bne_eq_false_iff_eq.mpr c6;clear c6;obtain ⟨y747,hy747⟩ : ∃ y_ : List Int,y_ = (([0,1,40] : List Int)) := ⟨_,rfl⟩;rw [← hy747] at H;have Ny747 := aK hy747;clear hy747;replace H := bE H;obtain ⟨⟨t750,t751,t752⟩,A7,H⟩ := H;dsimp only at H;replace H := iA H;obtain ⟨LMc8,H⟩ := H;obtain ⟨y753,hy753⟩ : ∃ y_ : List Int,y_ = (t739 ++ [t750]) := ⟨_,rfl⟩;rw [← hy753] at H;have Ny753 := aK hy753;clear hy753;simp only [Option.some.injEq,Prod.mk.injEq] at H;obtain ⟨rfl,rfl⟩ := H;go_enter Try.func25,Try.ntmps25
  go_wp2_with (first | ((with_reducible refine wP ?_);refine gS 8 Try.func55 (ZD.calls k _ _ l0 t732 t733 t734 w _ (bN HB) HR0.out HC0.out A2.out) ?_;rintro e w9 ⟨g735,rfl,hi,hb,hb2⟩;refine ⟨_,rfl,?_⟩;replace HB := aK (hb);have HI735 := aK (hi);clear hb hb2 hi) | ((with_reducible refine wP ?_);refine gT 10 Try.func60 (Zaq.calls g735 t732 t733 t734 39 t736 t737 t738 w _ (iN HI735) (bI HB) A3.out) ?_;rintro w10 ⟨hi,hb,hk⟩;replace HB := aK (hb);replace HI735 := aK (hi);clear hb hk hi) | ((with_reducible refine wP ?_);refine gS 12 Try.func61 (Zu.calls k g735 t732 t737 t738 t739 t742 t743 w _ (iN HI735) (bI HB) A4.out) ?_;rintro e w11 ⟨v740,rfl,ho0,hi,hb,hk⟩;refine ⟨_,rfl,?_⟩;have HO741 := aK (Kd.R_lower ho0 (below_size (bI HB)));replace HB := aK (hb);replace HI735 := aK (hi);clear hb hk hi ho0) | ((with_reducible refine wP ?_);refine gT 14 Try.func62 (Zx.calls g735 t732 t742 t743 12 t744 t745 t746 w _ (iN HI735) (bI HB) A5.out) ?_;rintro w12 ⟨hi,hb,hk⟩;replace HO741 := aK (Kd.R_mono (Kd.R_keep (IsS88.apart (show IsS88 w _ g735 t732 t742 t743 from (iN HI735)) (rN HO741) (by decide)) hk (fun _ h => h.2)) (fun _ h => h.1));replace HB := aK (hb);replace HI735 := aK (hi);clear hb hk hi) | ((with_reducible refine wP ?_);refine Kd.R_lit (Kd.int .i64) _ 2 ?hg (N := 19) ?hd (xs := ([0,1,40] : List Int)) (inner := [.int .i64 0,.int .i64 1,.int .i64 40]) (ok := fun _ => True) (okp := fun _ => True) ?hr ?hp (fun _ hk => hk) trivial (Below.refl _ _) (Nat.le_refl _) (by simp) ?_;(case hd => rfl);(case hg => rfl);(case hr => first | (go_simp;done) | (go_simp;rfl));(case hp => exact (Reps.one (show Kd.M (Kd.int .i64) _ _ _ 0 [.int .i64 0] from rfl) (Reps.one (show Kd.M (Kd.int .i64) _ _ _ 1 [.int .i64 1] from rfl) (Reps.one (show Kd.M (Kd.int .i64) _ _ _ 40 [.int .i64 40] from rfl) (Reps.none _ _)))));intro v748 w13 ho14 hb hg_ hnew_;clear hg_ hnew_;(first | rw [← Ny747.out] at ho14 | (simp only [Int.reduceToNat] at ho14;rw [← Ny747.out] at ho14));have HO749 := aK (Kd.R_lower (rn ho14 HO741) (below_size (bI HB)));replace HO741 := rL HO741 (rb ho14) hb;replace HI735 := iU HI735 hb;replace HB := hJ HB hb;clear hb ho14;obtain ⟨Ao15,co15,eo15⟩ := Kd.R_slice HO749.out;subst eo15) | ((with_reducible refine wP ?_);refine gT 20 Try.func63 (Zar.calls g735 t732 t745 t746 _ _ y747 t750 t751 t752 w _ (iN HI735) (bI HB) (cR HO749) (rq HO749) (far_slice (IsS88.own_ne HI735.out HO749.out (by decide))) A7.out) ?_;rintro w16 ⟨hi,hb,hk⟩;replace HO741 := aK (Kd.R_mono (Kd.R_keep (IsS88.apart (show IsS88 w _ g735 t732 t745 t746 from (iN HI735)) (rN HO741) (by decide)) hk (fun _ h => h.2)) (fun _ h => h.1));replace HO749 := aK (Kd.R_mono (Kd.R_keep (IsS88.apart (show IsS88 w _ g735 t732 t745 t746 from (iN HI735)) (rN HO749) (by decide)) hk (fun _ h => h.2)) (fun _ h => h.1));replace HB := aK (hb);replace HI735 := aK (hi);clear hb hk hi) | ((with_reducible refine gate_builtin (b := .append) (xs := #[.tmp 17,.tmp 21]) rfl ?_);at_builtin;refine Kd.R_append (Kd.int .i64) (w0 := w) w.heap.size rfl (.tmp 17) (.tmp 21) 29 2 (.int .i64 0) 8 rfl Try.underlying29 info2 rfl (by decide) (by omega) v740 t739 t750 [.int .i64 t750] (fun k_ => some k_ ≠ (.slice Ao15 y747.length co15 : Value).ownBlock) (fun _ => False) rfl rfl ?aP (fun _ hk => hk.elim) ?aF ?aO ?aB ?aS ?aL ?_;(case aP => exact rfl);(case aB => exact (bI HB));(case aF => exact (fun k_ hk => Kd.fresh' (rt HO749) k_ hk));(case aO => exact (rM (Kd.R_mono HO741.out (fun _ hk => hk.2))));(case aS => exact (below_size (bI HB)));(case aL => have := LMc8.out;omega);intro v754 w17 ho hb hg hat;rw [← Ny753.out] at ho;replace HI735 := aK (IsS88.grown (iN HI735) hg (IsS88.own_ne HI735.out HO741.out (by decide)));replace HO749 := aK (Kd.R_after (ok := (fun _ => True)) (rN HO749) hg hat);replace HB := aK (hb);have HO755 := aK (ho);clear HO741;clear ho hb hg hat))
  go_ret2;exact ⟨_,eR ⟨by (with_reducible repeat (first | apply Kd.R_alloc | apply Kd.R_drewN | apply Kd.R_drew));exact Kd.R_mono HO755.out (fun _ hk => trivial),(bI HB)⟩⟩
 ·rw [if_neg c6] at H;have c6b0 := beq_eq_false_iff_ne.mpr c6;have c6b1 := bne_iff_ne.mpr c6
  by_cases c18 : t744 = 1
  ·rw [if_pos c18] at H;have c18b0 := beq_iff_eq.mpr c18;have c18b1 := bne_eq_false_iff_eq.mpr c18;clear c18;obtain ⟨y756,hy756⟩ : ∃ y_ : List Int,y_ = (([] : List Int)) := ⟨_,rfl⟩;rw [← hy756] at H;have Ny756 := aK hy756;clear hy756;simp only [Option.some.injEq,Prod.mk.injEq] at H;obtain ⟨rfl,rfl⟩ := H;go_enter Try.func25,Try.ntmps25
   go_wp2_with ((with_reducible refine wP ?_);first | (refine gS 8 Try.func55 (ZD.calls k _ _ l0 t732 t733 t734 w _ (bN HB) HR0.out HC0.out A2.out) ?_;rintro e w19 ⟨g735,rfl,hi,hb,hb2⟩;refine ⟨_,rfl,?_⟩;replace HB := aK (hb);have HI735 := aK (hi);clear hb hb2 hi) | (refine gT 10 Try.func60 (Zaq.calls g735 t732 t733 t734 39 t736 t737 t738 w _ (iN HI735) (bI HB) A3.out) ?_;rintro w20 ⟨hi,hb,hk⟩;replace HB := aK (hb);replace HI735 := aK (hi);clear hb hk hi) | (refine gS 12 Try.func61 (Zu.calls k g735 t732 t737 t738 t739 t742 t743 w _ (iN HI735) (bI HB) A4.out) ?_;rintro e w21 ⟨v740,rfl,ho0,hi,hb,hk⟩;refine ⟨_,rfl,?_⟩;have HO741 := aK (Kd.R_lower ho0 (below_size (bI HB)));replace HB := aK (hb);replace HI735 := aK (hi);clear hb hk hi ho0) | (refine gT 14 Try.func62 (Zx.calls g735 t732 t742 t743 12 t744 t745 t746 w _ (iN HI735) (bI HB) A5.out) ?_;rintro w22 ⟨hi,hb,hk⟩;replace HO741 := aK (Kd.R_mono (Kd.R_keep (IsS88.apart (show IsS88 w _ g735 t732 t742 t743 from (iN HI735)) (rN HO741) (by decide)) hk (fun _ h => h.2)) (fun _ h => h.1));replace HB := aK (hb);replace HI735 := aK (hi);clear hb hk hi) | (refine Kd.R_lit (Kd.int .i64) _ 2 ?hg (N := 25) ?hd (xs := ([] : List Int)) (inner := []) (ok := fun _ => True) (okp := fun _ => True) ?hr ?hp (fun _ hk => hk) trivial (Below.refl _ _) (Nat.le_refl _) (by simp) ?_;(case hd => rfl);(case hg => rfl);(case hr => first | (go_simp;done) | (go_simp;rfl));(case hp => exact (Reps.none _ _));intro v757 w23 ho24 hb hg_ hnew_;clear hg_ hnew_;(first | rw [← Ny756.out] at ho24 | (simp only [Int.reduceToNat] at ho24;rw [← Ny756.out] at ho24));have HO758 := aK (Kd.R_lower (rn ho24 HO741) (below_size (bI HB)));replace HO741 := rL HO741 (rb ho24) hb;replace HI735 := iU HI735 hb;replace HB := hJ HB hb;clear hb ho24))
   go_ret2;exact ⟨_,eR ⟨by (with_reducible repeat (first | apply Kd.R_alloc | apply Kd.R_drewN | apply Kd.R_drew));exact Kd.R_mono HO758.out (fun _ hk => trivial),(bI HB)⟩⟩
  ·rw [if_neg c18] at H;have c18b0 := beq_eq_false_iff_ne.mpr c18;have c18b1 := bne_iff_ne.mpr c18;simp only [Option.some.injEq,Prod.mk.injEq] at H;obtain ⟨rfl,rfl⟩ := H;go_enter Try.func25,Try.ntmps25
   go_wp2_with ((with_reducible refine wP ?_);first | (refine gS 8 Try.func55 (ZD.calls k _ _ l0 t732 t733 t734 w _ (bN HB) HR0.out HC0.out A2.out) ?_;rintro e w25 ⟨g735,rfl,hi,hb,hb2⟩;refine ⟨_,rfl,?_⟩;replace HB := aK (hb);have HI735 := aK (hi);clear hb hb2 hi) | (refine gT 10 Try.func60 (Zaq.calls g735 t732 t733 t734 39 t736 t737 t738 w _ (iN HI735) (bI HB) A3.out) ?_;rintro w26 ⟨hi,hb,hk⟩;replace HB := aK (hb);replace HI735 := aK (hi);clear hb hk hi) | (refine gS 12 Try.func61 (Zu.calls k g735 t732 t737 t738 t739 t742 t743 w _ (iN HI735) (bI HB) A4.out) ?_;rintro e w27 ⟨v740,rfl,ho0,hi,hb,hk⟩;refine ⟨_,rfl,?_⟩;have HO741 := aK (Kd.R_lower ho0 (below_size (bI HB)));replace HB := aK (hb);replace HI735 := aK (hi);clear hb hk hi ho0) | (refine gT 14 Try.func62 (Zx.calls g735 t732 t742 t743 12 t744 t745 t746 w _ (iN HI735) (bI HB) A5.out) ?_;rintro w28 ⟨hi,hb,hk⟩;replace HO741 := aK (Kd.R_mono (Kd.R_keep (IsS88.apart (show IsS88 w _ g735 t732 t742 t743 from (iN HI735)) (rN HO741) (by decide)) hk (fun _ h => h.2)) (fun _ h => h.1));replace HB := aK (hb);replace HI735 := aK (hi);clear hb hk hi))
   go_ret2;exact ⟨_,eR ⟨by (with_reducible repeat (first | apply Kd.R_alloc | apply Kd.R_drewN | apply Kd.R_drew));exact HO741.out,(bI HB)⟩⟩
mutual
def Zl.j0 : Nat → Int → List Int → Bool → Option ((List (List Int)) × Int)
 | 0,_,_,_ => none
 | k + 1,x0,x1,x18 => if x18 = true then (some (([] : List (List Int)),2)) else (Zl.l0 k x0 x1 (wrap64 (x0 + 1)) 0 ([] : List (List Int)))
def Zl.l0 : Nat → Int → List Int → Int → Int → List (List Int) → Option ((List (List Int)) × Int)
 | 0,_,_,_,_,_ => none
 | k + 1,x0,x1,x22,x23,xqa => if x23 < x22 then (Zl.l1 k x0 x1 x23 (([] : List Int)) x22 x23 x1 (x1.length : Int) 0 xqa) else (some (xqa,0))
def Zl.l1 : Nat → Int → List Int → Int → List Int → Int → Int → List Int → Int → Int → List (List Int) → Option ((List (List Int)) × Int)
 | 0,_,_,_,_,_,_,_,_,_,_ => none
 | k + 1,x0,x1,x7,x8,x22,x23,x27,x28,x29,xqa => if x29 < x28 then (if 0 ≤ x29 then (if x29 < (x27.length : Int) then (if (wrap64 (x7 + (rd x27 x29))) ≤ x0 then (if x8.length < 17592186044416 then (Zl.l1 k x0 x1 x7 (x8 ++ [wrap64 (x7 + (rd x27 x29))]) x22 x23 x27 x28 (wrap64 (x29 + 1)) xqa) else (none)) else (Zl.l1 k x0 x1 x7 x8 x22 x23 x27 x28 (wrap64 (x29 + 1)) xqa)) else (none)) else (none)) else (if xqa.length < 5864062014805 then (Zl.l0 k x0 x1 x22 (wrap64 (x23 + 1)) (xqa ++ [x8])) else (none))
end
def Zl.f (k : Nat) (a0 : Int) (l1 : List Int) : Option ((List (List Int)) × Int) := (Zaa.f a0 0 39).bind fun t760 => (if t760 = true then ((ZG.f k l1 1 39).bind fun t761 => (Zl.j0 k a0 l1 (!t761))) else (Zl.j0 k a0 l1 true))
theorem Zl.mono_l : ∀ k, (∀ y0 y1 y2, LeO (Zl.j0 k y0 y1 y2) (Zl.j0 (k + 1) y0 y1 y2)) ∧ (∀ y0 y1 y2 y3 y4, LeO (Zl.l0 k y0 y1 y2 y3 y4) (Zl.l0 (k + 1) y0 y1 y2 y3 y4)) ∧ (∀ y0 y1 y2 y3 y4 y5 y6 y7 y8 y9, LeO (Zl.l1 k y0 y1 y2 y3 y4 y5 y6 y7 y8 y9) (Zl.l1 (k + 1) y0 y1 y2 y3 y4 y5 y6 y7 y8 y9))
 | 0 => ⟨fun _ _ _ r h => by simp [Zl.j0] at h,fun _ _ _ _ _ r h => by simp [Zl.l0] at h,fun _ _ _ _ _ _ _ _ _ _ r h => by simp [Zl.l1] at h⟩
 | k + 1 => by
  obtain ⟨ih0,ih1,ih2⟩ := Zl.mono_l k;refine ⟨?_,?_,?_⟩ <;> (intros;first | unfold Zl.j0 | unfold Zl.l0 | unfold Zl.l1)
  all_goals have m0 := ZG.mono;exact lO
theorem Zl.mono : ∀ a0 a1 k, LeO (Zl.f k a0 a1) (Zl.f (k + 1) a0 a1) := by
 intro a0 a1 k;obtain ⟨ih0,ih1,ih2⟩ := Zl.mono_l k;unfold Zl.f;have m0 := ZG.mono;exact lO
theorem Zl.calls (k : Nat) (a0 : Int) (A1 : Option Addr) (c1 : Nat) (l1 : List Int) (r1 : List (List Int)) (r2 : Int) (w : World) (hr1 : Kd.C (Kd.int .i64) w A1 l1.length l1) (hc1 : l1.length ≤ c1) (h : Zl.f k a0 l1 = some (r1, r2)) :
 Calls Try.prog 26 #[.int .i64 a0,.slice A1 l1.length c1] w fun e w' => ∃ v0_ : Value,e = .returned (.tuple #[.agg #[v0_],.int .i64 r2]) ∧ Kd.S (Kd.slice 2 (Kd.int .i64)) 29 w' w.heap.size (fun _ => True) v0_ r1 ∧ Below w.heap.size w w' := by
 have hu26 := Try.underlying26;have HR1 := aK hr1;have HC1 := aK hc1;clear hr1 hc1;have HB := aK (Below.refl w.heap.size w);have H := h;clear h;unfold Zl.f at H;have HC3 := aK H;clear H;go_enter Try.func26,Try.ntmps26
 go_upto_region 1 with ((with_reducible refine wP ?_);first | (refine boxE 4 #[.slice none 0 0] 26 ?_;intro gb759 hg w4 hbox hb;have BK759 := aK (hbox);have GW759 := aK (zG HB hg);have GE759 := aK (zG HB hg);replace HB := hB HB hb;clear hb hbox hg))
 (try simp only [Act.put,List.setIfInBounds_toArray,List.set_cons_zero,List.set_cons_succ])
 go_cut [18] (fun v18 wc => ∃ (kq : Nat) (x18_2 : Bool),v18 = .bool x18_2 ∧ Aside0 (Zl.j0 kq a0 l1 x18_2 = some (r1,r2)) ∧ Aside0 (kq ≤ k) ∧ Aside0 (wc.heap[gb759]? = some (.cells #[(.slice none 0 0)] 26 (0,0))) ∧ Aside0 (Below w.heap.size w wc))
 case first =>
  have H := HC3.out;clear HC3;replace H := bE H;obtain ⟨t760,A5,H⟩ := H;replace H := iB H;obtain ⟨rfl,H⟩|⟨rfl,H⟩ := H
  ·replace H := bE H;obtain ⟨t761,A7,H⟩ := H;have H' := aK H;clear H
   go_wp2_with (first | ((with_reducible refine wP ?_);refine gT 12 Try.func64 (Zaa.calls a0 0 39 true _ A5.out) ?_;rintro w' ⟨nd,rfl⟩) | (go_at_call 65;refine cA (ZG.calls k _ _ l1 1 39 t761 _ (cM ((Kd.C_below HR1.out (bN HB)))) HC1.out A7.out) ?_;rintro e w' ⟨rfl,⟨nd,rfl⟩⟩))
   go_meet
   case rel => exact ⟨_,(!t761),rD,H',⟨by first | omega | exact Nat.le_refl _⟩,⟨kN BK759⟩,⟨bN HB⟩⟩
  ·have H' := aK H;clear H
   go_wp2_with ((with_reducible refine wP ?_);first | (refine gT 12 Try.func64 (Zaa.calls a0 0 39 false _ A5.out) ?_;rintro w' ⟨nd,rfl⟩))
   go_meet
   case rel => exact ⟨_,(true),rD,H',⟨by first | omega | exact Nat.le_refl _⟩,⟨kN BK759⟩,⟨bN HB⟩⟩
 case rest =>
  clear HC3;obtain ⟨kq,x18_2,rfl,HA,HJ2,BK759,HB⟩ := hcut
  cases kq with
  | zero => exact absurd HA.out (by simp [Zl.j0])
  | succ kj2 =>
   have H := HA.out;clear HA;simp only [Zl.j0] at H;replace H := iB H;obtain ⟨rfl,H⟩|⟨rfl,H⟩ := H
   ·simp only [Option.some.injEq,Prod.mk.injEq] at H;obtain ⟨rfl,rfl⟩ := H;have hcz9_0 := z0 BK759;have hfz9_0 := fZ BK759 0;go_wp2;refine bodyPost_ret (results_ct rfl _ _ gb759 26 #[.slice none 0 0] (0,0) _ rfl (kP BK759) Try.underlying26 rfl (by kernel_rfl)) rfl ?_;exact ⟨_,eR ⟨by first | exact Kd.S_nil _ _ _ _ _ | exact Kd.N_nil _ _ _ _ _ | exact Kd.V_nil _ _ _ _ _ | exact Kd.Q_nil _ _ _ _ _ | exact Kd.R_nil _ _ _ _ _,(bN HB)⟩⟩
   ·have H' := aK H;clear H
    go_wp2_with ((with_reducible refine wP ?_);first | (refine boxE 6 #[.slice none 0 0] 26 ?_;intro gb762 hg w10 hbox hb;have BK762 := aK (hbox);have GW762 := aK (zG HB hg);have GE762 := aK (zG HB hg);replace HB := hB HB hb;obtain ⟨NB759_762,NB762_759⟩ := nG hg BK759;replace BK759 := kB BK759 hb;clear hb hbox hg;have hnb11 := NB762_759.out;have hnc11 := NB759_762.out;have hcz12_0 := z0 BK762;have hfz12_0 := fZ BK762 0))
    go_loopg [23] kj2 (fun kq v23 w' => ∃ (x23_2 : Int) (xqa_2 : List (List Int)) (uqa : Value),v23 = .int .i64 x23_2 ∧ Aside0 (Zl.l0 kq a0 l1 (wrap64 (a0 + 1)) x23_2 xqa_2 = some (r1,r2)) ∧ Aside0 (kq ≤ kj2) ∧ Aside0 (Kd.S (Kd.slice 2 (Kd.int .i64)) 29 w' w.heap.size (fun _ => True) uqa xqa_2) ∧ Aside0 (w'.heap[gb759]? = some (.cells #[(.slice none 0 0)] 26 (0,0))) ∧ Aside0 (w'.heap[gb762]? = some (.cells #[uqa] 26 (0,0))) ∧ Aside0 (Below w.heap.size w w'))
    case atStart => exact ⟨(0),(([] : List (List Int))),(.slice none 0 0),rD,H',⟨Nat.le_refl _⟩,⟨by first | exact Kd.S_nil _ _ _ _ _ | exact Kd.N_nil _ _ _ _ _ | exact Kd.V_nil _ _ _ _ _ | exact Kd.Q_nil _ _ _ _ _ | exact Kd.R_nil _ _ _ _ _⟩,⟨kZ BK759⟩,⟨kP BK762⟩,⟨bN HB⟩⟩
    case round =>
     clear H';clear hcz12_0 hfz12_0;obtain ⟨x23_2,xqa_2,uqa,rfl,HA,HK2,HO_qa,BK759,BK762,HB⟩ := hrel
     cases gk with
     | zero => exact absurd HA.out (by simp [Zl.l0])
     | succ k2 =>
      have H := HA.out;clear HA;simp only [Zl.l0] at H;replace H := iT H;obtain ⟨c13b0,H⟩|⟨c13b0,H⟩ := H
      ·obtain ⟨y763,hy763⟩ : ∃ y_ : List Int,y_ = (([] : List Int)) := ⟨_,rfl⟩;rw [← hy763] at H;have Ny763 := aK hy763;clear hy763;have H' := aK H;clear H
       go_wp2_with ((with_reducible refine wP ?_);first | (refine Kd.R_lit (Kd.int .i64) _ 2 ?hg (N := 26) ?hd (xs := ([] : List Int)) (inner := []) (ok := fun _ => True) (okp := fun _ => True) ?hr ?hp (fun _ hk => hk) trivial (Below.refl _ _) (Nat.le_refl _) (by simp) ?_;(case hd => rfl);(case hg => rfl);(case hr => first | (go_simp;done) | (go_simp;rfl));(case hp => exact (Reps.none _ _));intro v764 w14 ho15 hb hg_ hnew_;clear hg_ hnew_;(first | rw [← Ny763.out] at ho15 | (simp only [Int.reduceToNat] at ho15;rw [← Ny763.out] at ho15));replace HO_qa := sL HO_qa (rb ho15) hb;have HO765 := rl ho15 HB;replace BK759 := kB BK759 hb;replace BK762 := kB BK762 hb;replace HB := hB HB hb;clear hb ho15))
       go_loopg [8,29] k2 (fun kq v8 v29 w' => ∃ (x8_3 : List Int) (x29_3 : Int),v29 = .int .i64 x29_3 ∧ Aside0 (Zl.l1 kq a0 l1 x23_2 x8_3 (wrap64 (a0 + 1)) x23_2 l1 (l1.length : Int) x29_3 xqa_2 = some (r1,r2)) ∧ Aside0 (kq ≤ k2) ∧ Aside0 (Kd.R (Kd.int .i64) 2 w' w.heap.size (fun _ => True) v8 x8_3) ∧ Aside0 (Kd.S (Kd.slice 2 (Kd.int .i64)) 29 w' w.heap.size (fun k_ => some k_ ≠ (v8 : Value).ownBlock) uqa xqa_2) ∧ Aside0 (w'.heap[gb759]? = some (.cells #[(.slice none 0 0)] 26 (0,0))) ∧ Aside0 (w'.heap[gb762]? = some (.cells #[uqa] 26 (0,0))) ∧ Aside0 (Below w.heap.size w w'))
       case atStart => exact ⟨(y763),(0),rD,H',⟨Nat.le_refl _⟩,⟨rN HO765⟩,sW HO_qa,⟨kN BK759⟩,⟨kN BK762⟩,⟨bN HB⟩⟩
       case round =>
        clear H';clear c13b0;obtain ⟨x8_3,x29_3,rfl,HA,HK3,HO_8,HO_qa,BK759,BK762,HB⟩ := hrel
        cases gk with
        | zero => exact absurd HA.out (by simp [Zl.l1])
        | succ k3 =>
         have H := HA.out;clear HA;simp only [Zl.l1] at H;replace H := iT H;obtain ⟨c16b0,H⟩|⟨c16b0,H⟩ := H
         ·replace H := iP H;obtain ⟨c17b0,H⟩ := H;replace H := iP H;obtain ⟨c18b0,H⟩ := H;replace H := iT H;obtain ⟨c19b0,H⟩|⟨c19b0,H⟩ := H
          ·replace H := iA H;obtain ⟨LMc20,H⟩ := H;obtain ⟨y767,hy767⟩ : ∃ y_ : List Int,y_ = (x8_3 ++ [wrap64 (x23_2 + (rd l1 x29_3))]) := ⟨_,rfl⟩;rw [← hy767] at H;have Ny767 := aK hy767;clear hy767;have H' := aK H;clear H;obtain ⟨ad766,rfl,-,hx766_0,p766,q766⟩ := aI HR1.out HB x29_3
           go_wp2_with (first | ((with_reducible refine gate_builtin (b := .append) (xs := #[.tmp 38,.tmp 42]) rfl ?_);at_builtin;refine Kd.R_append (Kd.int .i64) (w0 := w) w.heap.size rfl (.tmp 38) (.tmp 42) 29 2 (.int .i64 0) 8 rfl Try.underlying29 info2 rfl (by decide) (by omega) u8 x8_3 (wrap64 (x23_2 + (rd l1 x29_3))) [.int .i64 (wrap64 (x23_2 + (rd l1 x29_3)))] (fun _ => True) (fun _ => False) rfl rfl ?aP (fun _ hk => hk.elim) ?aF ?aO ?aB ?aS ?aL ?_;(case aP => exact rfl);(case aB => exact (bN HB));(case aF => exact (fun _ _ => trivial));(case aO => exact (rN HO_8));(case aS => exact (below_size (bN HB)));(case aL => have := LMc20.out;omega);intro v768 w21 ho hb hg hat;rw [← Ny767.out] at ho;replace HO_qa := aK (Kd.S_after (ok := (fun _ => True)) (sM (Kd.S_mono HO_qa.out (fun _ hk => ⟨trivial,hk⟩))) hg hat);replace BK759 := aK (blk_grown (g := gb759) (o := .cells #[.slice none 0 0] 26 (0,0)) (kN BK759) hg (Kd.R_ne HO_8.out BK759.out (by decide)));replace BK762 := aK (blk_grown (g := gb762) (o := .cells #[uqa] 26 (0,0)) (kN BK762) hg (Kd.R_ne HO_8.out BK762.out (by decide)));replace HB := aK (hb);have HO769 := aK (ho);clear HO_8;clear ho hb hg hat))
           go_roundg k3
           case measure => have := HJ2.out;have := HK2.out;have := HK3.out;omega
           case rel => exact ⟨(y767),(wrap64 (x29_3 + 1)),rD,H',o3 HJ2 HK2 HK3,⟨rN HO769⟩,sW HO_qa,⟨kN BK759⟩,⟨kN BK762⟩,⟨bN HB⟩⟩
          ·have H' := aK H;clear H;obtain ⟨ad766,rfl,-,hx766_0,p766,q766⟩ := aI HR1.out HB x29_3;go_wp2
           go_roundg k3
           case measure => have := HJ2.out;have := HK2.out;have := HK3.out;omega
           case rel => exact ⟨(x8_3),(wrap64 (x29_3 + 1)),rD,H',o3 HJ2 HK2 HK3,⟨rN HO_8⟩,⟨sN HO_qa⟩,⟨kN BK759⟩,⟨kN BK762⟩,⟨bN HB⟩⟩
         ·replace H := iA H;obtain ⟨LMc22,H⟩ := H;obtain ⟨y770,hy770⟩ : ∃ y_ : List (List Int),y_ = (xqa_2 ++ [x8_3]) := ⟨_,rfl⟩;rw [← hy770] at H;have Ny770 := aK hy770;clear hy770;have H' := aK H;clear H;have hnb23 := NB762_759.out;have hnc23 := NB759_762.out;have hcz24_0 := z0 BK762;have hfz24_0 := fZ BK762 0;obtain ⟨Ao26,co26,eo26⟩ := Kd.R_slice HO_8.out;subst eo26
          go_wp2_with (first | ((with_reducible refine gate_builtin (b := .append) (xs := #[.tmp 46,.tmp 48]) rfl ?_);at_builtin;refine Kd.S_append (Kd.slice 2 (Kd.int .i64)) (w0 := w) w.heap.size rfl (.tmp 46) (.tmp 48) 24 29 (.slice none 0 0) 24 rfl Try.underlying24 info29 rfl (by decide) (by omega) uqa xqa_2 x8_3 [.slice Ao26 x8_3.length co26] (fun _ => True) (fun k_ => some k_ = (.slice Ao26 x8_3.length co26 : Value).ownBlock) rfl rfl ?aP (fun k_ hk_ => ((Kd.R_mono (ok' := fun k_ => ((fun _ => True)) k_ ∧ some k_ ≠ (uqa : Value).ownBlock) (Kd.R_apart' (HO_8.out) (Kd.S_typed HO_qa.out) (by decide)) (fun k_ hk => ⟨trivial,hk.2⟩))).1 k_ hk_.symm) ?aF ?aO ?aB ?aS ?aL ?_;(case aP => exact Kd.M_row (Kd.R_mono (Kd.R_tight rfl (Kd.R_mono (ok' := fun k_ => ((fun _ => True)) k_ ∧ some k_ ≠ (uqa : Value).ownBlock) (Kd.R_apart' (HO_8.out) (Kd.S_typed HO_qa.out) (by decide)) (fun k_ hk => ⟨trivial,hk.2⟩))) (fun _ h_ => h_)));(case aB => exact (bN HB));(case aF => exact (fun _ _ => trivial));(case aO => exact (sM (Kd.S_mono HO_qa.out (fun k_ hk => ⟨trivial,fun e_ => hk e_⟩))));(case aS => exact (below_size (bN HB)));(case aL => have := LMc22.out;omega);intro v771 w25 ho hb hg hat;rw [← Ny770.out] at ho;replace BK759 := aK (blk_grown (g := gb759) (o := .cells #[.slice none 0 0] 26 (0,0)) (kN BK759) hg (Kd.S_ne HO_qa.out BK759.out (by decide)));replace BK762 := aK (blk_grown (g := gb762) (o := .cells #[uqa] 26 (0,0)) (kN BK762) hg (Kd.S_ne HO_qa.out BK762.out (by decide)));replace HB := aK (hb);have HO772 := aK (ho);clear HO_qa HO_8;clear ho hb hg hat;obtain ⟨Ao27,co27,eo27⟩ := Kd.S_slice HO772.out;subst eo27;have hcz28_0 := z0 BK762;have hfz28_0 := fZ BK762 0))
          go_roundg k3
          case measure => have := HJ2.out;have := HK2.out;have := HK3.out;omega
          case rel => exact ⟨(wrap64 (x23_2 + 1)),(y770),(.slice Ao27 y770.length co27),rD,H',o3 HJ2 HK2 HK3,⟨sM (Kd.S_mono (Kd.S_far (p := ⟨gb762,0,none⟩) (Kd.S_types HO772.out BK762.out (by decide)) (fun _ hk => hk.2) (.slice Ao27 y770.length co27)) (fun _ hk => trivial))⟩,⟨kZ BK759⟩,⟨kP BK762⟩,⟨bN HB⟩⟩
      ·simp only [Option.some.injEq,Prod.mk.injEq] at H;obtain ⟨rfl,rfl⟩ := H;have hnb29 := NB762_759.out;have hnc29 := NB759_762.out;have hcz30_0 := z0 BK762;have hfz30_0 := fZ BK762 0;obtain ⟨Ao31,co31,eo31⟩ := Kd.S_slice HO_qa.out;subst eo31;have hcz32_0 := z0 BK759;have hfz32_0 := fZ BK759 0;go_wp2;refine bodyPost_ret (results_ct rfl _ _ gb759 26 #[.slice Ao31 xqa_2.length co31] (0,0) _ rfl (kP BK759) Try.underlying26 rfl (by kernel_rfl)) rfl ?_;exact ⟨_,eR ⟨by (with_reducible repeat (first | apply Kd.S_alloc | apply Kd.S_drewN | apply Kd.S_drew));exact Kd.S_mono (Kd.S_far (p := ⟨gb759,0,none⟩) (Kd.S_types HO_qa.out BK759.out (by decide)) (fun _ hk => hk.2) (.slice Ao31 xqa_2.length co31)) (fun _ hk => trivial),(bN HB)⟩⟩
def ZB.l0 : Nat → Int → List Int → Int → Option ((List (List Int)) × Int)
 | 0,_,_,_ => none
 | k + 1,x0,x1,x6 => if x6 < (x1.length : Int) then (if 0 ≤ x6 then ((Zac.f (rd x1 x6) 1 39).bind fun t776 => (if t776 = true then (if x6 > 0 then (if 0 ≤ (wrap64 (x6 - 1)) then (if (wrap64 (x6 - 1)) < (x1.length : Int) then (if (rd x1 x6) ≤ (rd x1 (wrap64 (x6 - 1))) then (some (([] : List (List Int)),2)) else (ZB.l0 k x0 x1 (wrap64 (x6 + 1)))) else (none)) else (none)) else (ZB.l0 k x0 x1 (wrap64 (x6 + 1)))) else (some (([] : List (List Int)),2)))) else (none)) else ((Zv.f k x0 x1).bind fun t779 => (some (t779,0)))
def ZB.f (k : Nat) (a0 : Int) (l1 : List Int) : Option ((List (List Int)) × Int) := (Zac.f a0 0 39).bind fun t774 => (if t774 = true then (ZB.l0 k a0 l1 0) else (some (([] : List (List Int)), 2)))
theorem ZB.mono_l : ∀ k, (∀ y0 y1 y2, LeO (ZB.l0 k y0 y1 y2) (ZB.l0 (k + 1) y0 y1 y2))
 | 0 => fun _ _ _ r h => by simp [ZB.l0] at h
 | k + 1 => by
  have ih0 := ZB.mono_l k
  ·intro y0 y1 y2;unfold ZB.l0;have m0 := Zv.mono;exact lO
theorem ZB.mono : ∀ a0 a1 k, LeO (ZB.f k a0 a1) (ZB.f (k + 1) a0 a1) := by
 intro a0 a1 k;have ih0 := ZB.mono_l k;unfold ZB.f;have m0 := Zv.mono;exact lO
def ZB.T6 : Bool × List (List Nat × List Nat) := (true, [([], []), ([], []), ([0, 1], [0, 1]), ([2], [2]), ([3], [3]), ([4], [4]), ([5, 4], [5]), ([6], [6]), ([7, 6], [6, 7]), ([8, 6, 6], [6, 8]), ([9], [9]), ([9], [9]), ([10, 11, 9], [9, 10, 11]), ([12, 9], [9, 12]), ([9], [9]), ([9], [9]), ([15, 9], [9, 15]), ([14, 16, 9], [9, 14, 16]), ([17, 9], [9, 17]), ([13, 18, 9], [9, 13, 18]), ([9, 19, 6], [6, 9, 19]), ([6, 20], [6, 20])])
def ZB.B6 : List Nat := [0, 0, 3, 7, 15, 31, 63, 127, 255, 511, 1023, 1023, 4095, 8191, 1023, 1023, 33791, 115711, 246783, 524287, 1048575, 2097151]
theorem ZB.tab6 : rtab .any (opsOf Try.f27 6) = ZB.T6 := by kernel_rfl
theorem ZB.bits6 : waitsOk ZB.T6.2 ZB.B6 = true := by kernel_rfl
theorem ZB.calls (k : Nat) (a0 : Int) (A1 : Option Addr) (c1 : Nat) (l1 : List Int) (r1 : List (List Int)) (r2 : Int) (w : World) (hr1 : Kd.C (Kd.int .i64) w A1 l1.length l1) (hc1 : l1.length ≤ c1) (h : ZB.f k a0 l1 = some (r1, r2)) :
 Calls Try.prog 27 #[.int .i64 a0,.slice A1 l1.length c1] w fun e w' => ∃ v0_ : Value,e = .returned (.tuple #[.agg #[v0_],.int .i64 r2]) ∧ Kd.S (Kd.slice 2 (Kd.int .i64)) 29 w' w.heap.size (fun _ => True) v0_ r1 ∧ Below w.heap.size w w' := by
 have hu26 := Try.underlying26;have HR1 := aK hr1;have HC1 := aK hc1;clear hr1 hc1;have HB := aK (Below.refl w.heap.size w);have H := h;clear h;unfold ZB.f at H;replace H := bE H;obtain ⟨t774,A3,H⟩ := H;replace H := iB H;obtain ⟨rfl,H⟩|⟨rfl,H⟩ := H
 ·have H' := aK H;clear H;go_enter Try.func27,Try.ntmps27
  go_wp2_with ((with_reducible refine wP ?_);first | (refine boxE 4 #[.slice none 0 0] 26 ?_;intro gb773 hg w5 hbox hb;have BK773 := aK (hbox);have GW773 := aK (zG HB hg);have GE773 := aK (zG HB hg);replace HB := hB HB hb;clear hb hbox hg) | (refine gT 8 Try.func66 (Zac.calls a0 0 39 true _ A3.out) ?_;rintro w' ⟨nd,rfl⟩))
  go_loopg [6] k (fun kq v6 w' => ∃ (x6_1 : Int),v6 = .int .i64 x6_1 ∧ Aside0 (ZB.l0 kq a0 l1 x6_1 = some (r1,r2)) ∧ Aside0 (kq ≤ k) ∧ Aside0 (w'.heap[gb773]? = some (.cells #[(.slice none 0 0)] 26 (0,0))) ∧ Aside0 (Below w.heap.size w w'))
  case atStart => exact ⟨(0),rD,H',⟨Nat.le_refl _⟩,⟨kN BK773⟩,⟨bN HB⟩⟩
  case round =>
   clear H';obtain ⟨x6_1,rfl,HA,HK1,BK773,HB⟩ := hrel
   cases gk with
   | zero => exact absurd HA.out (by simp [ZB.l0])
   | succ k1 =>
    have H := HA.out;clear HA;simp only [ZB.l0] at H;replace H := iT H;obtain ⟨c6b0,H⟩|⟨c6b0,H⟩ := H
    ·replace H := iP H;obtain ⟨c7b0,H⟩ := H;replace H := bE H;obtain ⟨t776,A8,H⟩ := H;replace H := iB H;obtain ⟨rfl,H⟩|⟨rfl,H⟩ := H
     ·replace H := iT H;obtain ⟨c10b0,H⟩|⟨c10b0,H⟩ := H
      ·obtain ⟨ji11,hji11⟩ : ∃ j_ : Int,(wrap64 (x6_1 - 1)) = j_ := ⟨_,rfl⟩;(first | rw [hji11] at H | simp only [hji11] at H);(try rw [hji11] at A8);have hji11w : (IntKind.i64.wrap (x6_1 - 1)) = ji11 := (i64_w _).trans hji11;replace H := iP H;obtain ⟨c12b0,H⟩ := H;replace H := iP H;obtain ⟨c13b0,H⟩ := H;replace H := iT H;obtain ⟨c14b0,H⟩|⟨c14b0,H⟩ := H
       ·simp only [Option.some.injEq,Prod.mk.injEq] at H;obtain ⟨rfl,rfl⟩ := H
        try go_wp2
        replace BK773 := dK BK773;replace HB := dH HB;obtain ⟨ad775,rfl,hw775_0,hx775_0,p775,q775⟩ := aI HR1.out HB x6_1;obtain ⟨ad777,e777,hw777_0,hx777_0,p777,q777⟩ := aI HR1.out HB x6_1;obtain rfl := iJ e777;obtain ⟨ad778,e778,hw778_0,hx778_0,p778,q778⟩ := aI HR1.out HB (ji11);obtain rfl := iJ e778;refine start_ (n := 22) (S := fun w' => w'.cell? (ad775.add (x6_1).toNat) = some (.int .i64 (rd l1 x6_1)) ∧ w'.cell? (ad775.add (x6_1).toNat) = some (.int .i64 (rd l1 x6_1)) ∧ w'.cell? (ad775.add ((ji11)).toNat) = some (.int .i64 (rd l1 (ji11)))) (ds := []) #[false,false,false,false,false,false,false,false,false,false,false,false,false,false,false,false,false,false,false,false,false,false] (by kernel_rfl) rfl rfl ⟨(cO HB hw775_0),(cO HB hw777_0),(cO HB hw778_0)⟩ (fun hHeld => ?_);refine with_tabW ZB.tab6 ZB.bits6 (fun HT_ HW_ => ?_)
        generalize wr.drew = w15 at BK773 HB hx775_0 hx777_0 hx778_0 hHeld ⊢
        refine pT HT_ 0 (some 17) ?_;refine pT HT_ 1 (some 18) ?_;refine pT HT_ 2 (some 19) ?_;refine tT HT_ HW_ hHeld 3 (some 20) ?_;refine oT HT_ 4 (some 21) (fun K hK => ?_);refine gO Try.func66 #[.int .i64 (rd l1 x6_1),.int .i64 1,.int .i64 39] ?_
        with_reducible refine (Zac.calls (rd l1 x6_1) 1 39 true _ A8.out).mono ?_
        rintro e w' ⟨rfl,⟨nd,rfl⟩⟩;refine ⟨_,rfl,?_⟩;refine hK.out _ _ ⟨(cO HB hw775_0),(cO HB hw777_0),(cO HB hw778_0)⟩ (fun hHeld => ?_);clear hK K;refine nT 21 ?_;refine pT HT_ 5 (some 22) ?_;refine pT HT_ 6 (some 23) ?_;refine pT HT_ 7 (some 24) ?_;refine pT HT_ 8 (some 25) ?_;refine pT HT_ 9 (some 26) ?_;refine pT HT_ 10 (some 27) ?_;refine pT HT_ 11 (some 28) ?_;refine pT HT_ 12 (some 29) ?_;refine pT HT_ 14 (some 31) ?_;refine pT HT_ 15 (some 32) ?_;refine pT HT_ 16 (some 33) ?_;refine pT HT_ 17 (some 34) ?_;refine tT HT_ HW_ hHeld 13 (some 30) ?_;refine tT HT_ HW_ hHeld 18 (some 35) ?_;refine pT HT_ 19 (some 36) ?_;refine pT HT_ 20 (some 37) ?_;refine pT HT_ 21 (some 38) ?_;refine done_ (done_of HT_.out (by kernel_rfl)) ?_;have hcz16_0 := z0 BK773;have hfz16_0 := fZ BK773 0
        try go_wp2
        refine bodyPost_ret (results_ct rfl _ _ gb773 26 #[.slice none 0 0] (0,0) _ rfl (kP BK773) Try.underlying26 rfl (by kernel_rfl)) rfl ?_;exact ⟨_,by first | rfl | (simp [errW_none,errW_some] <;> rfl) | (simp only [← hji11];first | rfl | (simp [errW_none,errW_some] <;> rfl)) | (simp [*,errW_none,errW_some] <;> rfl),by first | exact Kd.S_nil _ _ _ _ _ | exact Kd.N_nil _ _ _ _ _ | exact Kd.V_nil _ _ _ _ _ | exact Kd.Q_nil _ _ _ _ _ | exact Kd.R_nil _ _ _ _ _,(bN HB)⟩
       ·have H' := aK H;clear H
        try go_wp2
        replace BK773 := dK BK773;replace HB := dH HB;obtain ⟨ad775,rfl,hw775_0,hx775_0,p775,q775⟩ := aI HR1.out HB x6_1;obtain ⟨ad777,e777,hw777_0,hx777_0,p777,q777⟩ := aI HR1.out HB x6_1;obtain rfl := iJ e777;obtain ⟨ad778,e778,hw778_0,hx778_0,p778,q778⟩ := aI HR1.out HB (ji11);obtain rfl := iJ e778;refine start_ (n := 22) (S := fun w' => w'.cell? (ad775.add (x6_1).toNat) = some (.int .i64 (rd l1 x6_1)) ∧ w'.cell? (ad775.add (x6_1).toNat) = some (.int .i64 (rd l1 x6_1)) ∧ w'.cell? (ad775.add ((ji11)).toNat) = some (.int .i64 (rd l1 (ji11)))) (ds := []) #[false,false,false,false,false,false,false,false,false,false,false,false,false,false,false,false,false,false,false,false,false,false] (by kernel_rfl) rfl rfl ⟨(cO HB hw775_0),(cO HB hw777_0),(cO HB hw778_0)⟩ (fun hHeld => ?_);refine with_tabW ZB.tab6 ZB.bits6 (fun HT_ HW_ => ?_)
        generalize wr.drew = w17 at BK773 HB hx775_0 hx777_0 hx778_0 hHeld ⊢
        refine pT HT_ 0 (some 17) ?_;refine pT HT_ 1 (some 18) ?_;refine pT HT_ 2 (some 19) ?_;refine tT HT_ HW_ hHeld 3 (some 20) ?_;refine oT HT_ 4 (some 21) (fun K hK => ?_);refine gO Try.func66 #[.int .i64 (rd l1 x6_1),.int .i64 1,.int .i64 39] ?_
        with_reducible refine (Zac.calls (rd l1 x6_1) 1 39 true _ A8.out).mono ?_
        rintro e w' ⟨rfl,⟨nd,rfl⟩⟩;refine ⟨_,rfl,?_⟩;refine hK.out _ _ ⟨(cO HB hw775_0),(cO HB hw777_0),(cO HB hw778_0)⟩ (fun hHeld => ?_);clear hK K;refine nT 21 ?_;refine pT HT_ 5 (some 22) ?_;refine pT HT_ 6 (some 23) ?_;refine pT HT_ 7 (some 24) ?_;refine pT HT_ 8 (some 25) ?_;refine pT HT_ 9 (some 26) ?_;refine pT HT_ 10 (some 27) ?_;refine pT HT_ 11 (some 28) ?_;refine pT HT_ 12 (some 29) ?_;refine pT HT_ 14 (some 31) ?_;refine pT HT_ 15 (some 32) ?_;refine pT HT_ 16 (some 33) ?_;refine pT HT_ 17 (some 34) ?_;refine tT HT_ HW_ hHeld 13 (some 30) ?_;refine tT HT_ HW_ hHeld 18 (some 35) ?_;refine pT HT_ 19 (some 36) ?_;refine pT HT_ 20 (some 37) ?_;refine pT HT_ 21 (some 38) ?_;refine done_ (done_of HT_.out (by kernel_rfl)) ?_
        try go_wp2
        go_roundg k1
        case measure => have := HK1.out;omega
        case rel => exact ⟨(wrap64 (x6_1 + 1)),rD,H',o1 HK1,⟨kN BK773⟩,⟨bN HB⟩⟩
      ·have H' := aK H;clear H
       try go_wp2
       replace BK773 := dK BK773;replace HB := dH HB;obtain ⟨ad775,rfl,hw775_0,hx775_0,p775,q775⟩ := aI HR1.out HB x6_1;refine start_ (n := 22) (S := fun w' => w'.cell? (ad775.add (x6_1).toNat) = some (.int .i64 (rd l1 x6_1))) (ds := []) #[false,false,false,false,false,false,false,false,false,false,false,false,false,false,false,false,false,false,false,false,false,false] (by kernel_rfl) rfl rfl ((cO HB hw775_0)) (fun hHeld => ?_);refine with_tabW ZB.tab6 ZB.bits6 (fun HT_ HW_ => ?_)
       generalize wr.drew = w18 at BK773 HB hx775_0 hHeld ⊢
       refine pT HT_ 0 (some 17) ?_;refine pT HT_ 1 (some 18) ?_;refine pT HT_ 2 (some 19) ?_;refine tT HT_ HW_ hHeld 3 (some 20) ?_;refine oT HT_ 4 (some 21) (fun K hK => ?_);refine gO Try.func66 #[.int .i64 (rd l1 x6_1),.int .i64 1,.int .i64 39] ?_
       with_reducible refine (Zac.calls (rd l1 x6_1) 1 39 true _ A8.out).mono ?_
       rintro e w' ⟨rfl,⟨nd,rfl⟩⟩;refine ⟨_,rfl,?_⟩;refine hK.out _ _ ((cO HB hw775_0)) (fun hHeld => ?_);clear hK K;refine nT 21 ?_;refine pT HT_ 5 (some 22) ?_;refine pT HT_ 6 (some 23) ?_;refine pT HT_ 7 (some 24) ?_;refine pT HT_ 8 (some 25) ?_;refine pT HT_ 9 (some 26) ?_;refine uT HT_ 10 (some 27) ?_;refine uT HT_ 11 (some 28) ?_;refine uT HT_ 12 (some 29) ?_;refine uT HT_ 13 (some 30) ?_;refine uT HT_ 14 (some 31) ?_;refine uT HT_ 15 (some 32) ?_;refine uT HT_ 16 (some 33) ?_;refine uT HT_ 17 (some 34) ?_;refine uT HT_ 18 (some 35) ?_;refine uT HT_ 19 (some 36) ?_;refine pT HT_ 20 (some 37) ?_;refine pT HT_ 21 (some 38) ?_;refine done_ (done_of HT_.out (by kernel_rfl)) ?_
       try go_wp2
       go_roundg k1
       case measure => have := HK1.out;omega
       case rel => exact ⟨(wrap64 (x6_1 + 1)),rD,H',o1 HK1,⟨kN BK773⟩,⟨bN HB⟩⟩
     ·simp only [Option.some.injEq,Prod.mk.injEq] at H;obtain ⟨rfl,rfl⟩ := H
      try go_wp2
      replace BK773 := dK BK773;replace HB := dH HB;obtain ⟨ad775,rfl,hw775_0,hx775_0,p775,q775⟩ := aI HR1.out HB x6_1;refine start_ (n := 22) (S := fun w' => w'.cell? (ad775.add (x6_1).toNat) = some (.int .i64 (rd l1 x6_1))) (ds := []) #[false,false,false,false,false,false,false,false,false,false,false,false,false,false,false,false,false,false,false,false,false,false] (by kernel_rfl) rfl rfl ((cO HB hw775_0)) (fun hHeld => ?_);refine with_tabW ZB.tab6 ZB.bits6 (fun HT_ HW_ => ?_)
      generalize wr.drew = w19 at BK773 HB hx775_0 hHeld ⊢
      refine pT HT_ 0 (some 17) ?_;refine pT HT_ 1 (some 18) ?_;refine pT HT_ 2 (some 19) ?_;refine tT HT_ HW_ hHeld 3 (some 20) ?_;refine oT HT_ 4 (some 21) (fun K hK => ?_);refine gO Try.func66 #[.int .i64 (rd l1 x6_1),.int .i64 1,.int .i64 39] ?_
      with_reducible refine (Zac.calls (rd l1 x6_1) 1 39 false _ A8.out).mono ?_
      rintro e w' ⟨rfl,⟨nd,rfl⟩⟩;refine ⟨_,rfl,?_⟩;refine hK.out _ _ ((cO HB hw775_0)) (fun hHeld => ?_);clear hK K;refine nT 21 ?_;refine pT HT_ 5 (some 22) ?_;refine pT HT_ 6 (some 23) ?_;refine uT HT_ 7 (some 24) ?_;refine uT HT_ 8 (some 25) ?_;refine uT HT_ 9 (some 26) ?_;refine uT HT_ 10 (some 27) ?_;refine uT HT_ 11 (some 28) ?_;refine uT HT_ 12 (some 29) ?_;refine uT HT_ 13 (some 30) ?_;refine uT HT_ 14 (some 31) ?_;refine uT HT_ 15 (some 32) ?_;refine uT HT_ 16 (some 33) ?_;refine uT HT_ 17 (some 34) ?_;refine uT HT_ 18 (some 35) ?_;refine uT HT_ 19 (some 36) ?_;refine uT HT_ 20 (some 37) ?_;refine pT HT_ 21 (some 38) ?_;refine done_ (done_of HT_.out (by kernel_rfl)) ?_;have hcz20_0 := z0 BK773;have hfz20_0 := fZ BK773 0
      try go_wp2
      refine bodyPost_ret (results_ct rfl _ _ gb773 26 #[.slice none 0 0] (0,0) _ rfl (kP BK773) Try.underlying26 rfl (by kernel_rfl)) rfl ?_;exact ⟨_,eR ⟨by first | exact Kd.S_nil _ _ _ _ _ | exact Kd.N_nil _ _ _ _ _ | exact Kd.V_nil _ _ _ _ _ | exact Kd.Q_nil _ _ _ _ _ | exact Kd.R_nil _ _ _ _ _,(bN HB)⟩⟩
    ·replace H := bE H;obtain ⟨t779,A21,H⟩ := H;simp only [Option.some.injEq,Prod.mk.injEq] at H;obtain ⟨rfl,rfl⟩ := H
     go_wp2_with ((with_reducible refine wP ?_);first | (refine gS 42 Try.func67 (Zv.calls k1 a0 _ _ l1 t779 _ (cB HR1 HB) HC1.out A21.out) ?_;rintro e w22 ⟨v780,rfl,ho0,hb⟩;refine ⟨_,rfl,?_⟩;have HO781 := sl ho0 HB;replace BK773 := kB BK773 hb;replace HB := hB HB hb;clear hb ho0;obtain ⟨Ao23,co23,eo23⟩ := Kd.S_slice HO781.out;subst eo23;have hcz24_0 := z0 BK773;have hfz24_0 := fZ BK773 0))
     refine bodyPost_ret (results_ct rfl _ _ gb773 26 #[.slice Ao23 t779.length co23] (0,0) _ rfl (kP BK773) Try.underlying26 rfl (by kernel_rfl)) rfl ?_;exact ⟨_,eR ⟨by (with_reducible repeat (first | apply Kd.S_alloc | apply Kd.S_drewN | apply Kd.S_drew));exact Kd.S_mono (Kd.S_far (p := ⟨gb773,0,none⟩) (Kd.S_types HO781.out BK773.out (by decide)) (fun _ hk => hk.2) (.slice Ao23 t779.length co23)) (fun _ hk => trivial),(bN HB)⟩⟩
 ·simp only [Option.some.injEq,Prod.mk.injEq] at H;obtain ⟨rfl,rfl⟩ := H;go_enter Try.func27,Try.ntmps27
  go_wp2_with ((with_reducible refine wP ?_);first | (refine boxE 4 #[.slice none 0 0] 26 ?_;intro gb773 hg w25 hbox hb;have BK773 := aK (hbox);have GW773 := aK (zG HB hg);have GE773 := aK (zG HB hg);replace HB := hB HB hb;clear hb hbox hg) | (refine gT 8 Try.func66 (Zac.calls a0 0 39 false _ A3.out) ?_;rintro w' ⟨nd,rfl⟩;(try (rw [drewN_self w25];generalize hq_ : World.drewN w25 _ = w25;have n0_ : Aside0 (w25.heap[gb773]? = some (.cells #[.slice none 0 0] 26 (0,0))) := ⟨by rw [← hq_];exact (kN BK773)⟩;have n1_ : Aside0 (Below w.heap.size w w25) := ⟨by rw [← hq_];exact (bN HB)⟩;clear BK773 HB hq_;have BK773 := n0_;have HB := n1_;clear n0_ n1_));have hcz26_0 := z0 BK773;have hfz26_0 := fZ BK773 0))
  refine bodyPost_ret (results_ct rfl _ _ gb773 26 #[.slice none 0 0] (0,0) _ rfl (kP BK773) Try.underlying26 rfl (by kernel_rfl)) rfl ?_;exact ⟨_,eR ⟨by first | exact Kd.S_nil _ _ _ _ _ | exact Kd.N_nil _ _ _ _ _ | exact Kd.V_nil _ _ _ _ _ | exact Kd.Q_nil _ _ _ _ _ | exact Kd.R_nil _ _ _ _ _,(bN HB)⟩⟩
def Zai.l0 : Nat → List (List Int) → List (List Int) → Int → Option (Bool)
 | 0,_,_,_ => none
 | k + 1,x0,x1,x5 => if x5 < (x0.length : Int) then (if 0 ≤ x5 then (if x5 < (x1.length : Int) then ((Zd.f k (rd_L2 x0 x5) (rd_L2 x1 x5)).bind fun t784 => (if t784 = true then (Zai.l0 k x0 x1 (wrap64 (x5 + 1))) else (some false))) else (none)) else (none)) else (some true)
def Zai.f (k : Nat) (l0 : List (List Int)) (l1 : List (List Int)) : Option (Bool) := if (l0.length : Int) = (l1.length : Int) then (Zai.l0 k l0 l1 0) else (some false)
theorem Zai.mono_l : ∀ k, (∀ y0 y1 y2, LeO (Zai.l0 k y0 y1 y2) (Zai.l0 (k + 1) y0 y1 y2))
 | 0 => fun _ _ _ r h => by simp [Zai.l0] at h
 | k + 1 => by
  have ih0 := Zai.mono_l k
  ·intro y0 y1 y2;unfold Zai.l0;have m0 := Zd.mono;exact lO
theorem Zai.mono : ∀ a0 a1 k, LeO (Zai.f k a0 a1) (Zai.f (k + 1) a0 a1) := by
 intro a0 a1 k;have ih0 := Zai.mono_l k;unfold Zai.f;have m0 := Zd.mono;exact lO
theorem Zai.calls (k : Nat) (A0 : Option Addr) (c0 : Nat) (l0 : List (List Int)) (A1 : Option Addr) (c1 : Nat) (l1 : List (List Int)) (r : Bool) (w : World) (hr0 : Kd.C (Kd.slice 2 (Kd.int .i64)) w A0 l0.length l0) (hc0 : l0.length ≤ c0) (hr1 : Kd.C (Kd.slice 2 (Kd.int .i64)) w A1 l1.length l1) (hc1 : l1.length ≤ c1) (h : Zai.f k l0 l1 = some r) :
 Calls Try.prog 68 #[.slice A0 l0.length c0,.slice A1 l1.length c1] w fun e w' => e = .returned (.bool r) ∧ Drawn0 w w' := by
 have HR0 := aK hr0;have HC0 := aK hc0;clear hr0 hc0;have HR1 := aK hr1;have HC1 := aK hc1;clear hr1 hc1;have H := h;clear h;unfold Zai.f at H
 by_cases c3 : (l0.length : Int) = (l1.length : Int)
 ·rw [if_pos c3] at H;have c3b0 := beq_iff_eq.mpr c3;have c3b1 := bne_eq_false_iff_eq.mpr c3;have c3b2 : (l0.length == l1.length) = true := by first | simpa using c3 | (simp at c3 ⊢;omega)
  clear c3;have H' := aK H;clear H;go_enter Try.func68,Try.ntmps68;go_wp2
  repeat (go_quiet (fail);try go_wp2)
  go_loopg [5] k (fun kq v5 w' => ∃ (x5_1 : Int),v5 = .int .i64 x5_1 ∧ Aside0 (Zai.l0 kq l0 l1 x5_1 = some r) ∧ Aside0 (kq ≤ k) ∧ Drawn0 w w')
  case atStart => exact ⟨(0),rD,H',⟨Nat.le_refl _⟩,dD⟩
  case round =>
   clear H';clear c3b0 c3b1 c3b2;obtain ⟨x5_1,rfl,HA,HK1,⟨m1,rfl⟩⟩ := hrel
   cases gk with
   | zero => exact absurd HA.out (by simp [Zai.l0])
   | succ k1 =>
    have H := HA.out;clear HA;simp only [Zai.l0] at H;replace H := iT H;obtain ⟨c4b0,H⟩|⟨c4b0,H⟩ := H
    ·replace H := iP H;obtain ⟨c5b0,H⟩ := H;replace H := iP H;obtain ⟨c6b0,H⟩ := H;replace H := bE H;obtain ⟨t784,A7,H⟩ := H;replace H := iB H;obtain ⟨rfl,H⟩|⟨rfl,H⟩ := H
     ·have H' := aK H;clear H;have p782 : 0 ≤ (x5_1 : Int) := dT;have q782 : x5_1 < (l0.length : Int) := dT;obtain ⟨ad782,A782_0,c782_0,e782,hx782_0,hl782_0,hi782_0⟩ := at_L2 HR0.out x5_1 p782 q782;cases e782;have HR782_0 := aK hi782_0;have HC782_0 := aK hl782_0;clear hi782_0 hl782_0;replace p782 := eq_true p782;replace q782 := eq_true q782;have p783 : 0 ≤ (x5_1 : Int) := dT;have q783 : x5_1 < (l1.length : Int) := dT;obtain ⟨ad783,A783_0,c783_0,e783,hx783_0,hl783_0,hi783_0⟩ := at_L2 HR1.out x5_1 p783 q783;cases e783;have HR783_0 := aK hi783_0;have HC783_0 := aK hl783_0;clear hi783_0 hl783_0;replace p783 := eq_true p783;replace q783 := eq_true q783
      go_wp2_with (first | (go_at_call 12;refine cA (Zd.calls k1 _ _ (rd_L2 l0 x5_1) _ _ (rd_L2 l1 x5_1) true _ (cM (HR782_0.out)) HC782_0.out (cM (HR783_0.out)) HC783_0.out A7.out) ?_;rintro e w' ⟨rfl,⟨nd,rfl⟩⟩;(try first | exact ⟨rfl,_,World.drewN_drewN _ _ _⟩ | exact ⟨rfl,_,Eq.trans (World.drewN_drewN _ _ _) (congrArg (World.drewN _) (Nat.add_assoc _ _ _))⟩)))
      repeat (go_quiet (first | (go_at_call 12;refine cA (Zd.calls k1 _ _ (rd_L2 l0 x5_1) _ _ (rd_L2 l1 x5_1) true _ (cM (HR782_0.out)) HC782_0.out (cM (HR783_0.out)) HC783_0.out A7.out) ?_;rintro e w' ⟨rfl,⟨nd,rfl⟩⟩;(try first | exact ⟨rfl,_,World.drewN_drewN _ _ _⟩ | exact ⟨rfl,_,Eq.trans (World.drewN_drewN _ _ _) (congrArg (World.drewN _) (Nat.add_assoc _ _ _))⟩)));try go_wp2_with (first | (go_at_call 12;refine cA (Zd.calls k1 _ _ (rd_L2 l0 x5_1) _ _ (rd_L2 l1 x5_1) true _ (cM (HR782_0.out)) HC782_0.out (cM (HR783_0.out)) HC783_0.out A7.out) ?_;rintro e w' ⟨rfl,⟨nd,rfl⟩⟩;(try first | exact ⟨rfl,_,World.drewN_drewN _ _ _⟩ | exact ⟨rfl,_,Eq.trans (World.drewN_drewN _ _ _) (congrArg (World.drewN _) (Nat.add_assoc _ _ _))⟩))))
      go_roundg k1
      case measure => have := HK1.out;omega
      case rel => exact ⟨(wrap64 (x5_1 + 1)),rD,H',o1 HK1,dD⟩
     ·obtain rfl := Option.some.inj H;have p782 : 0 ≤ (x5_1 : Int) := dT;have q782 : x5_1 < (l0.length : Int) := dT;obtain ⟨ad782,A782_0,c782_0,e782,hx782_0,hl782_0,hi782_0⟩ := at_L2 HR0.out x5_1 p782 q782;cases e782;have HR782_0 := aK hi782_0;have HC782_0 := aK hl782_0;clear hi782_0 hl782_0;replace p782 := eq_true p782;replace q782 := eq_true q782;have p783 : 0 ≤ (x5_1 : Int) := dT;have q783 : x5_1 < (l1.length : Int) := dT;obtain ⟨ad783,A783_0,c783_0,e783,hx783_0,hl783_0,hi783_0⟩ := at_L2 HR1.out x5_1 p783 q783;cases e783;have HR783_0 := aK hi783_0;have HC783_0 := aK hl783_0;clear hi783_0 hl783_0;replace p783 := eq_true p783;replace q783 := eq_true q783
      go_wp2_with (first | (go_at_call 12;refine cA (Zd.calls k1 _ _ (rd_L2 l0 x5_1) _ _ (rd_L2 l1 x5_1) false _ (cM (HR782_0.out)) HC782_0.out (cM (HR783_0.out)) HC783_0.out A7.out) ?_;rintro e w' ⟨rfl,⟨nd,rfl⟩⟩;(try first | exact ⟨rfl,_,World.drewN_drewN _ _ _⟩ | exact ⟨rfl,_,Eq.trans (World.drewN_drewN _ _ _) (congrArg (World.drewN _) (Nat.add_assoc _ _ _))⟩)))
      repeat (go_quiet (first | (go_at_call 12;refine cA (Zd.calls k1 _ _ (rd_L2 l0 x5_1) _ _ (rd_L2 l1 x5_1) false _ (cM (HR782_0.out)) HC782_0.out (cM (HR783_0.out)) HC783_0.out A7.out) ?_;rintro e w' ⟨rfl,⟨nd,rfl⟩⟩;(try first | exact ⟨rfl,_,World.drewN_drewN _ _ _⟩ | exact ⟨rfl,_,Eq.trans (World.drewN_drewN _ _ _) (congrArg (World.drewN _) (Nat.add_assoc _ _ _))⟩)));try go_wp2_with (first | (go_at_call 12;refine cA (Zd.calls k1 _ _ (rd_L2 l0 x5_1) _ _ (rd_L2 l1 x5_1) false _ (cM (HR782_0.out)) HC782_0.out (cM (HR783_0.out)) HC783_0.out A7.out) ?_;rintro e w' ⟨rfl,⟨nd,rfl⟩⟩;(try first | exact ⟨rfl,_,World.drewN_drewN _ _ _⟩ | exact ⟨rfl,_,Eq.trans (World.drewN_drewN _ _ _) (congrArg (World.drewN _) (Nat.add_assoc _ _ _))⟩))))
      go_ret;exact ⟨rD,dD⟩
    ·obtain rfl := Option.some.inj H;go_wp2
     repeat (go_quiet (fail);try go_wp2)
     go_ret;exact ⟨rD,dD⟩
 ·rw [if_neg c3] at H;have c3b0 := beq_eq_false_iff_ne.mpr c3;have c3b1 := bne_iff_ne.mpr c3;have c3b2 : (l0.length == l1.length) = false := by first | simpa using c3 | (simp at c3 ⊢;omega)
  obtain rfl := Option.some.inj H;go_enter Try.func68,Try.ntmps68;go_wp2
  repeat (go_quiet (fail);try go_wp2)
  go_ret;exact ⟨rD,dD⟩
def Zas.f (k : Nat) (l0_0 : List (List Int)) (l1_0 : List (List Int)) : Option (Bool) := (Zai.f k l0_0 l1_0).bind fun t787 => (some t787)
theorem Zas.mono : ∀ a0 a1 k, LeO (Zas.f k a0 a1) (Zas.f (k + 1) a0 a1) := by
 intro a0 a1 k;unfold Zas.f;have m0 := Zai.mono;exact lO
theorem Zas.calls (k : Nat) (A0_0 : Option Addr) (c0_0 : Nat) (l0_0 : List (List Int)) (A1_0 : Option Addr) (c1_0 : Nat) (l1_0 : List (List Int)) (r : Bool) (w : World) (hr0_0 : Kd.C (Kd.slice 2 (Kd.int .i64)) w A0_0 l0_0.length l0_0) (hc0_0 : l0_0.length ≤ c0_0) (hr1_0 : Kd.C (Kd.slice 2 (Kd.int .i64)) w A1_0 l1_0.length l1_0) (hc1_0 : l1_0.length ≤ c1_0) (h : Zas.f k l0_0 l1_0 = some r) :
 Calls Try.prog 28 #[.agg #[.slice A0_0 l0_0.length c0_0],.agg #[.slice A1_0 l1_0.length c1_0]] w fun e w' => e = .returned (.bool r) ∧ Below w.heap.size w w' := by
 have hu26 := Try.underlying26;have HR0_0 := aK hr0_0;have HC0_0 := aK hc0_0;clear hr0_0 hc0_0;have HR1_0 := aK hr1_0;have HC1_0 := aK hc1_0;clear hr1_0 hc1_0;have HB := aK (Below.refl w.heap.size w);have H := h;clear h;unfold Zas.f at H;replace H := bE H;obtain ⟨t787,A3,H⟩ := H;obtain rfl := Option.some.inj H;go_enter Try.func28,Try.ntmps28
 go_wp2_with ((with_reducible refine wP ?_);first | (refine boxE 2 #[.slice A0_0 l0_0.length c0_0] 26 ?_;intro gb785 hg w4 hbox hb;have BK785 := aK (hbox);have GW785 := aK (zG HB hg);have GE785 := aK (zG HB hg);replace HB := hB HB hb;clear hb hbox hg) | (refine boxE 3 #[.slice A1_0 l1_0.length c1_0] 26 ?_;intro gb786 hg w5 hbox hb;have BK786 := aK (hbox);have GW786 := aK (zG HB hg);have GE786 := aK (zG HB hg);replace HB := hB HB hb;obtain ⟨NB785_786,NB786_785⟩ := nG hg BK785;replace BK785 := kB BK785 hb;clear hb hbox hg;have hnb6 := NB785_786.out;have hnc6 := NB786_785.out;have hcz7_0 := z0 BK785;have hfz7_0 := fZ BK785 0;have hcz8_0 := z0 BK786;have hfz8_0 := fZ BK786 0) | (refine gT 9 Try.func68 (Zai.calls k _ _ l0_0 _ _ l1_0 t787 _ (cB HR0_0 HB) HC0_0.out (cB HR1_0 HB) HC1_0.out A3.out) ?_;rintro w' ⟨nd,rfl⟩))
 go_ret;exact eR (bN HB)
def Zn.f (k : Nat) (l0 : List Int) : Option ((List (List Int)) × Int × (List (List Int)) × Int) := (ZD.f k l0).bind fun bt790 => ((Zab.f k bt790.1 bt790.2.1 bt790.2.2).bind fun bt794 => ((Zab.f k bt790.1 bt794.2.1 bt794.2.2).bind fun bt800 => ((Zq.f bt794.1).bind fun t806 => ((Zaq.f bt790.1 bt800.2.1 bt800.2.2 (wrap64 (t806 - 1))).bind fun bt807 => ((Zq.f bt800.1).bind fun t810 => ((Zaq.f bt790.1 bt807.2.1 bt807.2.2 (wrap64 (t810 - 1))).bind fun bt811 => ((ZF.f k bt790.1 bt811.2.1 bt811.2.2 bt794.1).bind fun bt814 => ((ZF.f k bt790.1 bt814.2.1 bt814.2.2 bt800.1).bind fun bt819 => (some (bt814.1, bt807.1, bt819.1, bt811.1))))))))))
theorem Zn.mono : ∀ a0 k, LeO (Zn.f k a0) (Zn.f (k + 1) a0) := by
 intro a0 k;unfold Zn.f;have m0 := ZF.mono;have m1 := Zab.mono;have m2 := ZD.mono;exact lO
def Zn.T4 : Bool × List (List Nat × List Nat) := (true, [([], []), ([], []), ([1], [1]), ([2], [2]), ([0, 3, 2], [0, 3]), ([], []), ([], []), ([6, 4], [6]), ([7], [7]), ([5, 8, 7], [5, 8]), ([4, 9, 0, 1, 2, 3, 4], [4]), ([9, 10, 0, 1, 2, 3, 4, 5, 6, 7, 8, 9, 10], [9])])
def Zn.B4 : List Nat := [0, 0, 2, 6, 15, 0, 0, 95, 223, 511, 1023, 2047]
theorem Zn.tab4 : rtab .any (opsOf Try.f29 4) = Zn.T4 := by kernel_rfl
theorem Zn.bits4 : waitsOk Zn.T4.2 Zn.B4 = true := by kernel_rfl
def Zn.T5 : Bool × List (List Nat × List Nat) := (true, [([], []), ([], []), ([0, 1], [0, 1]), ([], []), ([], []), ([], []), ([4, 5, 2], [4, 5]), ([], []), ([2, 6, 0, 1, 2], [2]), ([3, 8, 0, 1, 2, 3, 8], [3]), ([6, 9, 0, 1, 2, 3, 4, 5, 6, 8, 9], [6]), ([7, 10, 0, 1, 2, 3, 4, 5, 6, 7, 8, 9, 10], [7])])
def Zn.B5 : List Nat := [0, 0, 3, 0, 0, 0, 55, 0, 119, 383, 895, 2047]
theorem Zn.tab5 : rtab .any (opsOf Try.f29 5) = Zn.T5 := by kernel_rfl
theorem Zn.bits5 : waitsOk Zn.T5.2 Zn.B5 = true := by kernel_rfl
theorem Zn.calls (k : Nat) (A0 : Option Addr) (c0 : Nat) (l0 : List Int) (r1 : List (List Int)) (r2 : Int) (r3 : List (List Int)) (r4 : Int) (w : World) (hr0 : Kd.C (Kd.int .u8) w A0 l0.length l0) (hc0 : l0.length ≤ c0) (h : Zn.f k l0 = some (r1, r2, r3, r4)) :
 Calls Try.prog 29 #[.slice A0 l0.length c0] w fun e w' => ∃ v0_ v2_ : Value,e = .returned (.tuple #[.agg #[v0_],.int .i64 r2,.agg #[v2_],.int .i64 r4]) ∧ Kd.V (Kd.slice 2 (Kd.int .i64)) 29 w' w.heap.size (fun k_ => (w.heap.size ≤ k_)) v0_ r1 ∧ Kd.V (Kd.slice 2 (Kd.int .i64)) 29 w' w.heap.size (fun k_ => (w.heap.size ≤ k_)) v2_ r3 ∧ Below w.heap.size w w' := by
 have hu26 := Try.underlying26;have HR0 := aK hr0;have HC0 := aK hc0;clear hr0 hc0;have HB := aK (Below.refl w.heap.size w);have H := h;clear h;unfold Zn.f at H;replace H := bE H;obtain ⟨⟨t790,t791,t792⟩,A2,H⟩ := H;dsimp only at H;replace H := bE H;obtain ⟨⟨t794,t797,t798⟩,A3,H⟩ := H;dsimp only at H;replace H := bE H;obtain ⟨⟨t800,t803,t804⟩,A4,H⟩ := H;dsimp only at H;replace H := bE H;obtain ⟨t806,A5,H⟩ := H;replace H := bE H;obtain ⟨⟨t807,t808,t809⟩,A6,H⟩ := H;dsimp only at H;replace H := bE H;obtain ⟨t810,A7,H⟩ := H;replace H := bE H;obtain ⟨⟨t811,t812,t813⟩,A8,H⟩ := H;dsimp only at H;replace H := bE H;obtain ⟨⟨t814,t817,t818⟩,A9,H⟩ := H;dsimp only at H;replace H := bE H;obtain ⟨⟨t819,t822,t823⟩,A10,H⟩ := H;dsimp only at H;simp only [Option.some.injEq,Prod.mk.injEq] at H;obtain ⟨rfl,rfl,rfl,rfl⟩ := H;go_enter Try.func29,Try.ntmps29
 try go_wp2_with ((with_reducible refine wP ?_);first | (refine boxE 2 #[.slice none 0 0] 26 ?_;intro gb788 hg w11 hbox hb;have BK788 := aK (hbox);have GW788 := aK (zG HB hg);have GE788 := aK (zG HB hg);replace HB := hB HB hb;clear hb hbox hg) | (refine boxE 4 #[.slice none 0 0] 26 ?_;intro gb789 hg w12 hbox hb;have BK789 := aK (hbox);have GW789 := aK (zG HB hg);have GE789 := aK (zG HB hg);replace HB := hB HB hb;obtain ⟨NB788_789,NB789_788⟩ := nG hg BK788;replace BK788 := kB BK788 hb;clear hb hbox hg) | (refine gS 12 Try.func55 (ZD.calls k _ _ l0 t790 t791 t792 w _ (bN HB) HR0.out HC0.out A2.out) ?_;rintro e w13 ⟨g793,rfl,hi,hb,hb2⟩;refine ⟨_,rfl,?_⟩;replace HB := aK (hb);have HI793 := aK (hi);have NB793_788 := aK (IsS88.ne_blk hi (blk_below (g := gb788) (o := .cells #[.slice none 0 0] 26 (0,0)) (kN BK788) hb2) (by decide));have NB788_793 := aK (Ne.symm (IsS88.ne_blk hi (blk_below (g := gb788) (o := .cells #[.slice none 0 0] 26 (0,0)) (kN BK788) hb2) (by decide)));replace BK788 := aK (blk_below (g := gb788) (o := .cells #[.slice none 0 0] 26 (0,0)) (kN BK788) hb2);have NB793_789 := aK (IsS88.ne_blk hi (blk_below (g := gb789) (o := .cells #[.slice none 0 0] 26 (0,0)) (kN BK789) hb2) (by decide));have NB789_793 := aK (Ne.symm (IsS88.ne_blk hi (blk_below (g := gb789) (o := .cells #[.slice none 0 0] 26 (0,0)) (kN BK789) hb2) (by decide)));replace BK789 := aK (blk_below (g := gb789) (o := .cells #[.slice none 0 0] 26 (0,0)) (kN BK789) hb2);clear hb hb2 hi) | (refine gS 14 Try.func69 (Zab.calls k g793 t790 t791 t792 t794 t797 t798 w _ (iN HI793) (bI HB) A3.out) ?_;rintro e w14 ⟨v795,rfl,ho0,hi,hb,hk⟩;refine ⟨_,rfl,?_⟩;replace BK788 := aK (KeepBut.blk hk (g' := gb788) (o := .cells #[.slice none 0 0] 26 (0,0)) (kN BK788) NB788_793.out (by simp));replace BK789 := aK (KeepBut.blk hk (g' := gb789) (o := .cells #[.slice none 0 0] 26 (0,0)) (kN BK789) NB789_793.out (by simp));have HO796 := aK (Kd.S_lower (Kd.S_newM (M := fun k_ => (w.heap.size ≤ k_)) ho0 (below_size (bI HB)) (fun k_ h_ => h_)) (below_size (bI HB)));replace HB := aK (hb);replace HI793 := aK (hi);clear hb hk hi ho0) | (refine boxE 7 #[.slice none 0 0] 26 ?_;intro gb799 hg w15 hbox hb;replace HO796 := sB HO796 hb;have BK799 := aK (hbox);have GW799 := aK ((by rw [hg];exact (below_size (bI HB)) : w.heap.size ≤ gb799));have GE799 := aK ((by rw [hg];exact (below_size (bI HB)) : w.heap.size ≤ gb799));replace HB := hJ HB hb;obtain ⟨NB788_799,NB799_788⟩ := nG hg BK788;replace BK788 := kB BK788 hb;obtain ⟨NB789_799,NB799_789⟩ := nG hg BK789;replace BK789 := kB BK789 hb;obtain ⟨NB793_799,NB799_793⟩ := nJ hg HI793;replace HI793 := iU HI793 hb;clear hb hbox hg;obtain ⟨Ao16,co16,eo16⟩ := Kd.S_slice HO796.out;subst eo16;have hnb17 := NB799_788.out;have hnc17 := NB788_799.out;have hnb18 := NB799_789.out;have hnc18 := NB789_799.out;have hnb19 := NB799_793.out;have hnc19 := NB793_799.out;have hcz20_0 := z0 BK799;have hfz20_0 := fZ BK799 0) | (refine gS 16 Try.func69 (Zab.calls k g793 t790 t797 t798 t800 t803 t804 w _ (iN HI793) (bI HB) A4.out) ?_;rintro e w21 ⟨v801,rfl,ho0,hi,hb,hk⟩;refine ⟨_,rfl,?_⟩;replace BK788 := aK (KeepBut.blk hk (g' := gb788) (o := .cells #[.slice none 0 0] 26 (0,0)) (kZ BK788) NB788_793.out (by simp));replace BK789 := aK (KeepBut.blk hk (g' := gb789) (o := .cells #[.slice none 0 0] 26 (0,0)) (kZ BK789) NB789_793.out (by simp));have HO802 := aK (Kd.S_lower (Kd.S_new' (Kd.S_newM (M := fun k_ => (w.heap.size ≤ k_)) ho0 (below_size (bI HB)) (fun k_ h_ => h_)) (Kd.S_lt (sM ((Kd.S_mono (Kd.S_far (p := ⟨gb799,0,none⟩) (Kd.S_types HO796.out BK799.out (by decide)) (fun _ hk => hk.2) (.slice Ao16 t794.length co16)) (fun _ h_ => h_.1)))))) (below_size (bI HB)));replace HO796 := aK (Kd.S_mono (Kd.S_told (Kd.S_oldK (IsS88.apartS (show IsS88 w _ g793 t790 t797 t798 from (iN HI793)) (sM ((Kd.S_mono (Kd.S_far (p := ⟨gb799,0,none⟩) (Kd.S_types HO796.out BK799.out (by decide)) (fun _ hk => hk.2) (.slice Ao16 t794.length co16)) (fun _ h_ => h_.1)))) (by decide)) hk) (Kd.S_base ho0)) (fun _ h_ => h_.1));replace BK799 := aK (KeepBut.blk hk (g' := gb799) (o := .cells #[.slice Ao16 t794.length co16] 26 (0,0)) (kP BK799) NB799_793.out (by simp));replace HB := aK (hb);replace HI793 := aK (hi);clear hb hk hi ho0) | (refine boxE 8 #[.slice none 0 0] 26 ?_;intro gb805 hg w22 hbox hb;replace HO796 := sB HO796 hb;replace HO802 := sB HO802 hb;have BK805 := aK (hbox);have GW805 := aK ((by rw [hg];exact (below_size (bI HB)) : w.heap.size ≤ gb805));have GE805 := aK ((by rw [hg];exact (below_size (bI HB)) : w.heap.size ≤ gb805));replace HB := hJ HB hb;obtain ⟨NB788_805,NB805_788⟩ := nG hg BK788;replace BK788 := kB BK788 hb;obtain ⟨NB789_805,NB805_789⟩ := nG hg BK789;replace BK789 := kB BK789 hb;obtain ⟨NB799_805,NB805_799⟩ := nG hg BK799;replace BK799 := kB BK799 hb;obtain ⟨NB793_805,NB805_793⟩ := nJ hg HI793;replace HI793 := iU HI793 hb;clear hb hbox hg;obtain ⟨Ao23,co23,eo23⟩ := Kd.S_slice HO802.out;subst eo23;have hnb24 := NB805_788.out;have hnc24 := NB788_805.out;have hnb25 := NB805_789.out;have hnc25 := NB789_805.out;have hnb26 := NB805_799.out;have hnc26 := NB799_805.out;have hnb27 := NB805_793.out;have hnc27 := NB793_805.out;have hcz28_0 := z0 BK805;have hfz28_0 := fZ BK805 0))
 have n0_ : Aside0 (Kd.S (Kd.slice 2 (Kd.int .i64)) 29 (w22.setCell ⟨gb805,0,none⟩ (.slice Ao23 t800.length co23)) w.heap.size (fun k_ => (w.heap.size ≤ k_) ∧ some k_ ≠ (.slice Ao23 t800.length co23 : Value).ownBlock) (.slice Ao16 t794.length co16) t794) := ⟨sM (Kd.S_mono (Kd.S_far (p := ⟨gb805,0,none⟩) (Kd.S_types HO796.out BK805.out (by decide)) (fun _ hk => hk.2) (.slice Ao23 t800.length co23)) (fun _ hk => ⟨hk.1.1.1,hk.1.2⟩))⟩;have n1_ : Aside0 (Kd.S (Kd.slice 2 (Kd.int .i64)) 29 (w22.setCell ⟨gb805,0,none⟩ (.slice Ao23 t800.length co23)) w.heap.size (fun k_ => (w.heap.size ≤ k_) ∧ some k_ ≠ (.slice Ao16 t794.length co16 : Value).ownBlock) (.slice Ao23 t800.length co23) t800) := ⟨sM (Kd.S_mono (Kd.S_far (p := ⟨gb805,0,none⟩) (Kd.S_types HO802.out BK805.out (by decide)) (fun _ hk => hk.2) (.slice Ao23 t800.length co23)) (fun _ hk => ⟨hk.1.1.1,hk.1.2⟩))⟩;have n2_ : Aside0 ((w22.setCell ⟨gb805,0,none⟩ (.slice Ao23 t800.length co23)).heap[gb788]? = some (.cells #[.slice none 0 0] 26 (0,0))) := ⟨kZ BK788⟩;have n3_ : Aside0 ((w22.setCell ⟨gb805,0,none⟩ (.slice Ao23 t800.length co23)).heap[gb789]? = some (.cells #[.slice none 0 0] 26 (0,0))) := ⟨kZ BK789⟩;have n4_ : Aside0 ((w22.setCell ⟨gb805,0,none⟩ (.slice Ao23 t800.length co23)).heap[gb799]? = some (.cells #[.slice Ao16 t794.length co16] 26 (0,0))) := ⟨kZ BK799⟩;have n5_ : Aside0 ((w22.setCell ⟨gb805,0,none⟩ (.slice Ao23 t800.length co23)).heap[gb805]? = some (.cells #[.slice Ao23 t800.length co23] 26 (0,0))) := ⟨kP BK805⟩;have n6_ : Aside0 (IsS88 w (w22.setCell ⟨gb805,0,none⟩ (.slice Ao23 t800.length co23)) g793 t790 t803 t804) := ⟨(iN HI793)⟩;have n7_ : Aside0 (Below w.heap.size w (w22.setCell ⟨gb805,0,none⟩ (.slice Ao23 t800.length co23))) := ⟨(bI HB)⟩;clear HO796 HO802 BK788 BK789 BK799 BK805 HI793 HB
 generalize (w22.setCell ⟨gb805,0,none⟩ (.slice Ao23 t800.length co23)) = w29 at n0_ n1_ n2_ n3_ n4_ n5_ n6_ n7_ ⊢
 have HO796 := n0_;have HO802 := n1_;have BK788 := n2_;have BK789 := n3_;have BK799 := n4_;have BK805 := n5_;have HI793 := n6_;have HB := n7_;clear n0_ n1_ n2_ n3_ n4_ n5_ n6_ n7_;replace HO796 := aK (Kd.S_drew HO796.out);replace HO802 := aK (Kd.S_drew HO802.out);replace BK788 := dK BK788;replace BK789 := dK BK789;replace BK799 := dK BK799;replace BK805 := dK BK805;replace HI793 := aK (IsS88.drew HI793.out);replace HB := dH HB;refine start_ (n := 12) (S := fun w' => w'.cell? ⟨gb799,0,none⟩ = some (.slice Ao16 t794.length co16) ∧ w'.cell? ⟨gb805,0,none⟩ = some (.slice Ao23 t800.length co23)) (ds := []) #[false,false,false,false,false,false,false,false,false,false,false,false] (by kernel_rfl) rfl rfl ⟨(blk_cell BK799.out 0).trans rfl,(blk_cell BK805.out 0).trans rfl⟩ (fun hHeld => ?_);refine with_tabW Zn.tab4 Zn.bits4 (fun HT_ HW_ => ?_)
 generalize w29.drew = w30 at HO796 HO802 BK788 BK789 BK799 BK805 HI793 HB hHeld ⊢
 refine pT HT_ 0 (some 17) ?_;refine pT HT_ 5 (some 22) ?_;refine tT HT_ HW_ hHeld 1 (some 18) ?_;refine tT HT_ HW_ hHeld 6 (some 23) ?_;refine oT HT_ 2 (some 19) (fun K hK => ?_);refine gO Try.func43 #[.agg #[.slice Ao16 t794.length co16]] ?_
 with_reducible refine (Zq.calls _ _ t794 t806 _ ?side1 ?side2 A5.out).mono ?_
 (case side1 => exact cM (sr HO796))
 (case side2 => exact (sq HO796))
 rintro e w31 ⟨rfl,hb⟩;refine ⟨_,rfl,?_⟩;replace HO796 := sB HO796 hb;replace HO802 := sB HO802 hb;replace BK788 := kB BK788 hb;replace BK789 := kB BK789 hb;replace HI793 := iU HI793 hb;replace BK799 := kB BK799 hb;replace BK805 := kB BK805 hb;replace HB := hJ HB hb;clear hb;refine hK.out _ _ ⟨(blk_cell BK799.out 0).trans rfl,(blk_cell BK805.out 0).trans rfl⟩ (fun hHeld => ?_);clear hK K;refine nT 19 ?_;refine pT HT_ 3 (some 20) ?_;refine oT HT_ 4 (some 21) (fun K hK => ?_);refine gO Try.func60 #[.pointer (some ⟨g793,0,none⟩),.int .i64 (wrap64 (t806 - 1))] ?_
 with_reducible refine (Zaq.calls g793 t790 t803 t804 (wrap64 (t806 - 1)) t807 t808 t809 w _ ?side1 ?side2 A6.out).mono ?_
 (case side1 => exact iN HI793)
 (case side2 => exact bI HB)
 rintro e w32 ⟨rfl,hi,hb,hk⟩;refine ⟨_,rfl,?_⟩;replace BK788 := aK (KeepBut.blk hk (g' := gb788) (o := .cells #[.slice none 0 0] 26 (0,0)) (kN BK788) NB788_793.out (by simp));replace BK789 := aK (KeepBut.blk hk (g' := gb789) (o := .cells #[.slice none 0 0] 26 (0,0)) (kN BK789) NB789_793.out (by simp));replace HO796 := aK (Kd.S_mono (Kd.S_keep (IsS88.apartS (show IsS88 w _ g793 t790 t803 t804 from (iN HI793)) (sN HO796) (by decide)) hk (fun _ h => h.2)) (fun _ h => h.1));replace BK799 := aK (KeepBut.blk hk (g' := gb799) (o := .cells #[.slice Ao16 t794.length co16] 26 (0,0)) (kN BK799) NB799_793.out (by simp));replace HO802 := aK (Kd.S_mono (Kd.S_keep (IsS88.apartS (show IsS88 w _ g793 t790 t803 t804 from (iN HI793)) (sN HO802) (by decide)) hk (fun _ h => h.2)) (fun _ h => h.1));replace BK805 := aK (KeepBut.blk hk (g' := gb805) (o := .cells #[.slice Ao23 t800.length co23] 26 (0,0)) (kN BK805) NB805_793.out (by simp));replace HB := aK (hb);replace HI793 := aK (hi);clear hb hk hi;refine hK.out _ _ ⟨(blk_cell BK799.out 0).trans rfl,(blk_cell BK805.out 0).trans rfl⟩ (fun hHeld => ?_);clear hK K;refine nT 21 ?_;refine oT HT_ 7 (some 24) (fun K hK => ?_);refine gO Try.func43 #[.agg #[.slice Ao23 t800.length co23]] ?_
 with_reducible refine (Zq.calls _ _ t800 t810 _ ?side1 ?side2 A7.out).mono ?_
 (case side1 => exact cM (sr HO802))
 (case side2 => exact (sq HO802))
 rintro e w33 ⟨rfl,hb⟩;refine ⟨_,rfl,?_⟩;replace HO796 := sB HO796 hb;replace HO802 := sB HO802 hb;replace BK788 := kB BK788 hb;replace BK789 := kB BK789 hb;replace HI793 := iU HI793 hb;replace BK799 := kB BK799 hb;replace BK805 := kB BK805 hb;replace HB := hJ HB hb;clear hb;refine hK.out _ _ ⟨(blk_cell BK799.out 0).trans rfl,(blk_cell BK805.out 0).trans rfl⟩ (fun hHeld => ?_);clear hK K;refine nT 24 ?_;refine pT HT_ 8 (some 25) ?_;refine oT HT_ 9 (some 26) (fun K hK => ?_);refine gO Try.func60 #[.pointer (some ⟨g793,0,none⟩),.int .i64 (wrap64 (t810 - 1))] ?_
 with_reducible refine (Zaq.calls g793 t790 t808 t809 (wrap64 (t810 - 1)) t811 t812 t813 w _ ?side1 ?side2 A8.out).mono ?_
 (case side1 => exact iN HI793)
 (case side2 => exact bI HB)
 rintro e w34 ⟨rfl,hi,hb,hk⟩;refine ⟨_,rfl,?_⟩;replace BK788 := aK (KeepBut.blk hk (g' := gb788) (o := .cells #[.slice none 0 0] 26 (0,0)) (kN BK788) NB788_793.out (by simp));replace BK789 := aK (KeepBut.blk hk (g' := gb789) (o := .cells #[.slice none 0 0] 26 (0,0)) (kN BK789) NB789_793.out (by simp));replace HO796 := aK (Kd.S_mono (Kd.S_keep (IsS88.apartS (show IsS88 w _ g793 t790 t808 t809 from (iN HI793)) (sN HO796) (by decide)) hk (fun _ h => h.2)) (fun _ h => h.1));replace BK799 := aK (KeepBut.blk hk (g' := gb799) (o := .cells #[.slice Ao16 t794.length co16] 26 (0,0)) (kN BK799) NB799_793.out (by simp));replace HO802 := aK (Kd.S_mono (Kd.S_keep (IsS88.apartS (show IsS88 w _ g793 t790 t808 t809 from (iN HI793)) (sN HO802) (by decide)) hk (fun _ h => h.2)) (fun _ h => h.1));replace BK805 := aK (KeepBut.blk hk (g' := gb805) (o := .cells #[.slice Ao23 t800.length co23] 26 (0,0)) (kN BK805) NB805_793.out (by simp));replace HB := aK (hb);replace HI793 := aK (hi);clear hb hk hi;refine hK.out _ _ ⟨(blk_cell BK799.out 0).trans rfl,(blk_cell BK805.out 0).trans rfl⟩ (fun hHeld => ?_);clear hK K;refine nT 26 ?_;refine pT HT_ 10 (some 9) ?_;refine pT HT_ 11 (some 10) ?_;refine done_ (done_of HT_.out (by kernel_rfl)) ?_
 try go_wp2
 replace HO796 := aK (Kd.S_drew HO796.out);replace HO802 := aK (Kd.S_drew HO802.out);replace BK788 := dK BK788;replace BK789 := dK BK789;replace BK799 := dK BK799;replace BK805 := dK BK805;replace HI793 := aK (IsS88.drew HI793.out);replace HB := dH HB;refine start_ (n := 12) (S := fun w' => w'.cell? ⟨gb799,0,none⟩ = some (.slice Ao16 t794.length co16) ∧ w'.cell? ⟨gb805,0,none⟩ = some (.slice Ao23 t800.length co23)) (ds := []) #[false,false,false,false,false,false,false,false,false,false,false,false] (by kernel_rfl) rfl rfl ⟨(blk_cell BK799.out 0).trans rfl,(blk_cell BK805.out 0).trans rfl⟩ (fun hHeld => ?_);refine with_tabW Zn.tab5 Zn.bits5 (fun HT_ HW_ => ?_)
 generalize w34.drew = w35 at HO796 HO802 BK788 BK789 BK799 BK805 HI793 HB hHeld ⊢
 refine pT HT_ 0 (some 27) ?_;refine pT HT_ 3 (some 30) ?_;refine pT HT_ 4 (some 31) ?_;refine pT HT_ 7 (some 34) ?_;refine tT HT_ HW_ hHeld 1 (some 28) ?_;refine tT HT_ HW_ hHeld 5 (some 32) ?_;refine oT HT_ 2 (some 29) (fun K hK => ?_);refine gO Try.func70 #[.pointer (some ⟨g793,0,none⟩),.agg #[.slice Ao16 t794.length co16]] ?_
 with_reducible refine (ZF.calls k g793 t790 t812 t813 (fun k_ => (((((((w.heap.size ≤ k_) ∧ some k_ ≠ (.slice Ao23 t800.length co23 : Value).ownBlock) ∧ k_ ≠ gb788) ∧ k_ ≠ gb789) ∧ k_ ≠ gb799) ∧ k_ ≠ gb805) ∧ k_ ≠ g793)) _ _ t794 t814 t817 t818 w _ ?side1 ?side2 ?side3 A9.out).mono ?_
 (case side1 => exact iN HI793)
 (case side2 => exact bI HB)
 (case side3 => exact Kd.V_mono (Kd.S_V (IsS88.apartS HI793.out (Kd.S_types (Kd.S_types (Kd.S_types (Kd.S_types (HO796.out) BK788.out (by decide)) BK789.out (by decide)) BK799.out (by decide)) BK805.out (by decide)) (by decide))) (fun k_ hk_ => ⟨hk_,hk_.2⟩))
 rintro e w36 ⟨v815,rfl,ho0,hi,hb,hk⟩;refine ⟨_,rfl,?_⟩;replace HO796 := aK (Kd.S_mono (Kd.S_keep (IsS88.apartS (show IsS88 w _ g793 t790 t812 t813 from (iN HI793)) (sN HO796) (by decide)) hk (fun _ h => h.2)) (fun _ h => h.1));have HO816 := aK (Kd.V_lower (Kd.V_mono (ok' := fun k_ => (w.heap.size ≤ k_) ∧ some k_ ≠ (.slice Ao23 t800.length co23 : Value).ownBlock ∧ k_ ≠ gb788 ∧ k_ ≠ gb789 ∧ k_ ≠ gb799 ∧ k_ ≠ gb805 ∧ k_ ≠ g793) ho0 (fun k_ hk_ => ⟨Or.elim hk_ (fun hs_ => hs_.1.1.1.1.1.1) (fun hn_ => (Nat.le_trans (below_size (bI HB)) hn_)),Or.elim hk_ (fun hs_ => hs_.1.1.1.1.1.2) (fun hn_ => (Kd.fresh' (Kd.S_lt (sN HO802)) k_ hn_)),Or.elim hk_ (fun hs_ => hs_.1.1.1.1.2) (fun hn_ => (Kd.freshB (g := gb788) (o := .cells #[.slice none 0 0] 26 (0,0)) (kN BK788) k_ hn_)),Or.elim hk_ (fun hs_ => hs_.1.1.1.2) (fun hn_ => (Kd.freshB (g := gb789) (o := .cells #[.slice none 0 0] 26 (0,0)) (kN BK789) k_ hn_)),Or.elim hk_ (fun hs_ => hs_.1.1.2) (fun hn_ => (Kd.freshB (g := gb799) (o := .cells #[.slice Ao16 t794.length co16] 26 (0,0)) (kN BK799) k_ hn_)),Or.elim hk_ (fun hs_ => hs_.1.2) (fun hn_ => (Kd.freshB (g := gb805) (o := .cells #[.slice Ao23 t800.length co23] 26 (0,0)) (kN BK805) k_ hn_)),Or.elim hk_ (fun hs_ => hs_.2) (fun hn_ => (IsS88.fresh (iN HI793) k_ hn_))⟩)) (below_size (bI HB)));replace BK788 := aK (KeepBut.blk hk (g' := gb788) (o := .cells #[.slice none 0 0] 26 (0,0)) (kN BK788) NB788_793.out (by simp));replace BK789 := aK (KeepBut.blk hk (g' := gb789) (o := .cells #[.slice none 0 0] 26 (0,0)) (kN BK789) NB789_793.out (by simp));replace BK799 := aK (KeepBut.blk hk (g' := gb799) (o := .cells #[.slice Ao16 t794.length co16] 26 (0,0)) (kN BK799) NB799_793.out (by simp));replace HO802 := aK (Kd.S_mono (Kd.S_keep (IsS88.apartS (show IsS88 w _ g793 t790 t812 t813 from (iN HI793)) (sN HO802) (by decide)) hk (fun _ h => h.2)) (fun _ h => h.1));replace BK805 := aK (KeepBut.blk hk (g' := gb805) (o := .cells #[.slice Ao23 t800.length co23] 26 (0,0)) (kN BK805) NB805_793.out (by simp));replace HB := aK (hb);replace HI793 := aK (hi);clear hb hk hi ho0;refine hK.out _ _ ⟨(blk_cell BK799.out 0).trans rfl,(blk_cell BK805.out 0).trans rfl⟩ (fun hHeld => ?_);clear hK K;refine nT 29 ?_;refine oT HT_ 6 (some 33) (fun K hK => ?_);refine gO Try.func70 #[.pointer (some ⟨g793,0,none⟩),.agg #[.slice Ao23 t800.length co23]] ?_
 with_reducible refine (ZF.calls k g793 t790 t817 t818 (fun k_ => (((((((w.heap.size ≤ k_) ∧ some k_ ≠ (.slice Ao16 t794.length co16 : Value).ownBlock) ∧ k_ ≠ gb788) ∧ k_ ≠ gb789) ∧ k_ ≠ gb799) ∧ k_ ≠ gb805) ∧ k_ ≠ g793)) _ _ t800 t819 t822 t823 w _ ?side1 ?side2 ?side3 A10.out).mono ?_
 (case side1 => exact iN HI793)
 (case side2 => exact bI HB)
 (case side3 => exact Kd.V_mono (Kd.S_V (IsS88.apartS HI793.out (Kd.S_types (Kd.S_types (Kd.S_types (Kd.S_types (HO802.out) BK788.out (by decide)) BK789.out (by decide)) BK799.out (by decide)) BK805.out (by decide)) (by decide))) (fun k_ hk_ => ⟨hk_,hk_.2⟩))
 rintro e w37 ⟨v820,rfl,ho0,hi,hb,hk⟩;refine ⟨_,rfl,?_⟩;replace HO802 := aK (Kd.S_mono (Kd.S_keep (IsS88.apartS (show IsS88 w _ g793 t790 t817 t818 from (iN HI793)) (sN HO802) (by decide)) hk (fun _ h => h.2)) (fun _ h => h.1));replace HO816 := aK (Kd.V_mono (Kd.V_keep (Kd.V_mono (ok := fun k_ => (((w.heap.size ≤ k_)) ∧ (some k_ ≠ (.slice Ao23 t800.length co23 : Value).ownBlock ∧ (k_ ≠ gb788 ∧ (k_ ≠ gb789 ∧ (k_ ≠ gb799 ∧ (k_ ≠ gb805 ∧ k_ ≠ g793))))))) (vN HO816) (fun k_ hk_ => (⟨hk_,hk_.2.2.2.2.2.2⟩ : _ ∧ k_ ≠ g793))) hk (fun _ h => h.2)) (fun _ h => h.1));have HO821 := aK (Kd.V_lower (Kd.V_mono (ok' := fun k_ => (w.heap.size ≤ k_) ∧ some k_ ≠ (.slice Ao16 t794.length co16 : Value).ownBlock ∧ k_ ≠ gb788 ∧ k_ ≠ gb789 ∧ k_ ≠ gb799 ∧ k_ ≠ gb805 ∧ k_ ≠ g793) ho0 (fun k_ hk_ => ⟨Or.elim hk_ (fun hs_ => hs_.1.1.1.1.1.1) (fun hn_ => (Nat.le_trans (below_size (bI HB)) hn_)),Or.elim hk_ (fun hs_ => hs_.1.1.1.1.1.2) (fun hn_ => (Kd.fresh' (Kd.S_lt (sN HO796)) k_ hn_)),Or.elim hk_ (fun hs_ => hs_.1.1.1.1.2) (fun hn_ => (Kd.freshB (g := gb788) (o := .cells #[.slice none 0 0] 26 (0,0)) (kN BK788) k_ hn_)),Or.elim hk_ (fun hs_ => hs_.1.1.1.2) (fun hn_ => (Kd.freshB (g := gb789) (o := .cells #[.slice none 0 0] 26 (0,0)) (kN BK789) k_ hn_)),Or.elim hk_ (fun hs_ => hs_.1.1.2) (fun hn_ => (Kd.freshB (g := gb799) (o := .cells #[.slice Ao16 t794.length co16] 26 (0,0)) (kN BK799) k_ hn_)),Or.elim hk_ (fun hs_ => hs_.1.2) (fun hn_ => (Kd.freshB (g := gb805) (o := .cells #[.slice Ao23 t800.length co23] 26 (0,0)) (kN BK805) k_ hn_)),Or.elim hk_ (fun hs_ => hs_.2) (fun hn_ => (IsS88.fresh (iN HI793) k_ hn_))⟩)) (below_size (bI HB)));replace BK788 := aK (KeepBut.blk hk (g' := gb788) (o := .cells #[.slice none 0 0] 26 (0,0)) (kN BK788) NB788_793.out (by simp));replace BK789 := aK (KeepBut.blk hk (g' := gb789) (o := .cells #[.slice none 0 0] 26 (0,0)) (kN BK789) NB789_793.out (by simp));replace HO796 := aK (Kd.S_mono (Kd.S_keep (IsS88.apartS (show IsS88 w _ g793 t790 t817 t818 from (iN HI793)) (sN HO796) (by decide)) hk (fun _ h => h.2)) (fun _ h => h.1));replace BK799 := aK (KeepBut.blk hk (g' := gb799) (o := .cells #[.slice Ao16 t794.length co16] 26 (0,0)) (kN BK799) NB799_793.out (by simp));replace BK805 := aK (KeepBut.blk hk (g' := gb805) (o := .cells #[.slice Ao23 t800.length co23] 26 (0,0)) (kN BK805) NB805_793.out (by simp));replace HB := aK (hb);replace HI793 := aK (hi);clear hb hk hi ho0;obtain ⟨Ao38,co38,eo38⟩ := Kd.V_slice HO816.out;(first | subst eo38 | (injection eo38 with f1_ f2_ f3_;have f4_ := f1_.symm;have f5_ := f3_.symm;clear f1_ f2_ f3_;subst f4_;subst f5_));obtain ⟨Ao40,co40,eo40⟩ := Kd.V_slice HO821.out;(first | subst eo40 | (injection eo40 with f1_ f2_ f3_;have f4_ := f1_.symm;have f5_ := f3_.symm;clear f1_ f2_ f3_;subst f4_;subst f5_));refine hK.out _ _ ⟨(blk_cell BK799.out 0).trans rfl,(blk_cell BK805.out 0).trans rfl⟩ (fun hHeld => ?_);clear hK K;refine nT 33 ?_;refine oT HT_ 8 (none) (fun K hK => ?_);have hs39 : w37.cell? ⟨gb788,0,none⟩ = some (.slice none 0 0) := (blk_cell BK788.out 0).trans rfl;have hfs39 := fZ BK788 0;have hns39_1 := NB789_788.out;have hns39_2 := NB799_788.out;have hns39_3 := NB805_788.out;have hms39_1 := NB788_789.out;have hms39_2 := NB788_799.out;have hms39_3 := NB788_805.out;refine skip_ (w1 := ?_) (by rfl) rfl ?_ ?_;rotate_left
 ·go_simp
  rfl
 refine hK.out _ _ ⟨((cell_far (p := ⟨gb788,_,none⟩) NB799_788.out _).trans (hHeld.1)),((cell_far (p := ⟨gb788,_,none⟩) NB805_788.out _).trans (hHeld.2))⟩ (fun hHeld => ?_);clear hK K;refine pT HT_ 9 (some 3) ?_;refine oT HT_ 10 (none) (fun K hK => ?_);have hs41 : w37.cell? ⟨gb789,0,none⟩ = some (.slice none 0 0) := (blk_cell BK789.out 0).trans rfl;have hfs41 := fZ BK789 0;have hns41_0 := NB788_789.out;have hns41_2 := NB799_789.out;have hns41_3 := NB805_789.out;have hms41_0 := NB789_788.out;have hms41_2 := NB789_799.out;have hms41_3 := NB789_805.out;refine skip_ (w1 := ?_) (by rfl) rfl ?_ ?_;rotate_left
 ·go_simp
  rfl
 refine hK.out _ _ ⟨((cell_far (p := ⟨gb789,_,none⟩) NB799_789.out _).trans (hHeld.1)),((cell_far (p := ⟨gb789,_,none⟩) NB805_789.out _).trans (hHeld.2))⟩ (fun hHeld => ?_);clear hK K;refine pT HT_ 11 (some 5) ?_;refine done_ (done_of HT_.out (by kernel_rfl)) ?_
 try go_wp2
 refine bodyPost_ret (results_list (rs := [.cell 2 26,.tmp 3,.cell 4 26,.tmp 5]) rfl (by simp) (.cell gb788 26 #[.slice Ao38 t814.length co38] (0,0) _ rfl (kP BK788) Try.underlying26 rfl (by kernel_rfl) (.tmp (.cell gb789 26 #[.slice Ao40 t819.length co40] (0,0) _ rfl (kP BK789) Try.underlying26 rfl (by kernel_rfl) (.tmp .nil))))) rfl ?_;exact ⟨_,_,by first | rfl | (simp [errW_none,errW_some] <;> rfl) | (simp [*,errW_none,errW_some] <;> rfl),by (with_reducible repeat (first | apply Kd.V_alloc | apply Kd.V_drewN | apply Kd.V_drew));exact Kd.V_mono (Kd.V_far (p := ⟨gb789,0,none⟩) (Kd.V_far (p := ⟨gb788,0,none⟩) (Kd.V_mono (Kd.V_mono HO816.out (fun k_ hk => (⟨hk,hk.2.2.1⟩ : _ ∧ k_ ≠ gb788))) (fun k_ hk => (⟨hk,hk.1.2.2.2.1⟩ : _ ∧ k_ ≠ gb789))) (fun _ hk => hk.1.2) (.slice Ao38 t814.length co38)) (fun _ hk => hk.2) (.slice Ao40 t819.length co40)) (fun _ hk => hk.1.1.1),by (with_reducible repeat (first | apply Kd.V_alloc | apply Kd.V_drewN | apply Kd.V_drew));exact Kd.V_mono (Kd.V_far (p := ⟨gb789,0,none⟩) (Kd.V_far (p := ⟨gb788,0,none⟩) (Kd.V_mono (Kd.V_mono HO821.out (fun k_ hk => (⟨hk,hk.2.2.1⟩ : _ ∧ k_ ≠ gb788))) (fun k_ hk => (⟨hk,hk.1.2.2.2.1⟩ : _ ∧ k_ ≠ gb789))) (fun _ hk => hk.1.2) (.slice Ao38 t814.length co38)) (fun _ hk => hk.2) (.slice Ao40 t819.length co40)) (fun _ hk => hk.1.1.1),(bI HB)⟩
def Zs.l0 : Nat → List Int → Int → Int → Int → Option (Int)
 | 0,_,_,_,_ => none
 | k + 1,x0,x1,x7,x8 => if x8 < x7 then (if 0 ≤ x8 then (if x8 < (x0.length : Int) then (if x1 = (rd x0 x8) then (some x8) else (Zs.l0 k x0 x1 x7 (wrap64 (x8 + 1)))) else (none)) else (none)) else (some (-1))
def Zs.f (k : Nat) (l0 : List Int) (a1 : Int) : Option (Int) := Zs.l0 k l0 a1 (l0.length : Int) 0
theorem Zs.mono_l : ∀ k, (∀ y0 y1 y2 y3, LeO (Zs.l0 k y0 y1 y2 y3) (Zs.l0 (k + 1) y0 y1 y2 y3))
 | 0 => fun _ _ _ _ r h => by simp [Zs.l0] at h
 | k + 1 => by
  have ih0 := Zs.mono_l k
  ·intro y0 y1 y2 y3;unfold Zs.l0;exact lO
theorem Zs.mono : ∀ a0 a1 k, LeO (Zs.f k a0 a1) (Zs.f (k + 1) a0 a1) := by
 intro a0 a1 k;have ih0 := Zs.mono_l k;unfold Zs.f;exact lO
theorem Zs.calls (k : Nat) (A0 : Option Addr) (c0 : Nat) (l0 : List Int) (a1 : Int) (r : Int) (w : World) (hr0 : Kd.C (Kd.int .i64) w A0 l0.length l0) (hc0 : l0.length ≤ c0) (h : Zs.f k l0 a1 = some r) :
 Calls Try.prog 85 #[.slice A0 l0.length c0,.int .i64 a1] w fun e w' => e = .returned (.int .i64 r) ∧ Drawn0 w w' := by
 have HR0 := aK hr0;have HC0 := aK hc0;clear hr0 hc0;have H := h;clear h;unfold Zs.f at H;have H' := aK H;clear H;go_enter Try.func85,Try.ntmps85;go_wp2
 go_loopg [8] k (fun kq v8 w' => ∃ (x8_1 : Int),v8 = .int .i64 x8_1 ∧ Aside0 (Zs.l0 kq l0 a1 (l0.length : Int) x8_1 = some r) ∧ Aside0 (kq ≤ k) ∧ Drawn0 w w')
 case atStart => exact ⟨(0),rD,H',⟨Nat.le_refl _⟩,dD⟩
 case round =>
  clear H';obtain ⟨x8_1,rfl,HA,HK1,⟨m1,rfl⟩⟩ := hrel
  cases gk with
  | zero => exact absurd HA.out (by simp [Zs.l0])
  | succ k1 =>
   have H := HA.out;clear HA;simp only [Zs.l0] at H;replace H := iT H;obtain ⟨c3b0,H⟩|⟨c3b0,H⟩ := H
   ·replace H := iP H;obtain ⟨c4b0,H⟩ := H;replace H := iP H;obtain ⟨c5b0,H⟩ := H
    by_cases c6 : a1 = (rd l0 x8_1)
    ·rw [if_pos c6] at H;have c6b0 := beq_iff_eq.mpr c6;have c6b1 := bne_eq_false_iff_eq.mpr c6;clear c6;obtain rfl := Option.some.inj H;obtain ⟨ad824,rfl,hx824_0,p824,q824⟩ := aJ HR0.out x8_1;go_wp2;go_ret;exact ⟨rD,dD⟩
    ·rw [if_neg c6] at H;have c6b0 := beq_eq_false_iff_ne.mpr c6;have c6b1 := bne_iff_ne.mpr c6;have H' := aK H;clear H;obtain ⟨ad824,rfl,hx824_0,p824,q824⟩ := aJ HR0.out x8_1;go_wp2
     go_roundg k1
     case measure => have := HK1.out;omega
     case rel => exact ⟨(wrap64 (x8_1 + 1)),rD,H',o1 HK1,dD⟩
   ·obtain rfl := Option.some.inj H;go_wp2;go_ret;exact ⟨rD,dD⟩
def ZQ.f (k : Nat) (l0 : List Int) (a1 : Int) : Option (Bool) := (Zs.f k l0 a1).bind fun t825 => (some (decide (t825 ≥ 0)))
theorem ZQ.mono : ∀ a0 a1 k, LeO (ZQ.f k a0 a1) (ZQ.f (k + 1) a0 a1) := by
 intro a0 a1 k;unfold ZQ.f;have m0 := Zs.mono;exact lO
theorem ZQ.calls (k : Nat) (A0 : Option Addr) (c0 : Nat) (l0 : List Int) (a1 : Int) (r : Bool) (w : World) (hr0 : Kd.C (Kd.int .i64) w A0 l0.length l0) (hc0 : l0.length ≤ c0) (h : ZQ.f k l0 a1 = some r) :
 Calls Try.prog 84 #[.slice A0 l0.length c0,.int .i64 a1] w fun e w' => e = .returned (.bool r) ∧ Drawn0 w w' := by
 have HR0 := aK hr0;have HC0 := aK hc0;clear hr0 hc0;have H := h;clear h;unfold ZQ.f at H;replace H := bE H;obtain ⟨t825,A3,H⟩ := H;obtain rfl := Option.some.inj H;go_enter Try.func84,Try.ntmps84
 go_wp2_with ((with_reducible refine wP ?_);first | (refine gT 7 Try.func85 (Zs.calls k _ _ l0 a1 t825 _ (cM (HR0.out)) HC0.out A3.out) ?_;rintro w' ⟨nd,rfl⟩))
 go_ret;exact ⟨rD,dD⟩
def Zam.l0 : Nat → List Int → Int → Option (Int)
 | 0,_,_ => none
 | k + 1,x0,x3 => (ZQ.f k x0 x3).bind fun t826 => (if t826 = true then (Zam.l0 k x0 (wrap64 (x3 + 1))) else (some x3))
def Zam.f (k : Nat) (l0 : List Int) : Option (Int) := Zam.l0 k l0 0
theorem Zam.mono_l : ∀ k, (∀ y0 y1, LeO (Zam.l0 k y0 y1) (Zam.l0 (k + 1) y0 y1))
 | 0 => fun _ _ r h => by simp [Zam.l0] at h
 | k + 1 => by
  have ih0 := Zam.mono_l k
  ·intro y0 y1;unfold Zam.l0;have m0 := ZQ.mono;exact lO
theorem Zam.mono : ∀ a0 k, LeO (Zam.f k a0) (Zam.f (k + 1) a0) := by
 intro a0 k;have ih0 := Zam.mono_l k;unfold Zam.f;have m0 := ZQ.mono;exact lO
theorem Zam.calls (k : Nat) (A0 : Option Addr) (c0 : Nat) (l0 : List Int) (r : Int) (w : World) (hr0 : Kd.C (Kd.int .i64) w A0 l0.length l0) (hc0 : l0.length ≤ c0) (h : Zam.f k l0 = some r) :
 Calls Try.prog 81 #[.slice A0 l0.length c0] w fun e w' => e = .returned (.int .i64 r) ∧ Drawn0 w w' := by
 have HR0 := aK hr0;have HC0 := aK hc0;clear hr0 hc0;have H := h;clear h;unfold Zam.f at H;have H' := aK H;clear H;go_enter Try.func81,Try.ntmps81;go_wp2
 go_loopg [3] k (fun kq v3 w' => ∃ (x3_1 : Int),v3 = .int .i64 x3_1 ∧ Aside0 (Zam.l0 kq l0 x3_1 = some r) ∧ Aside0 (kq ≤ k) ∧ Drawn0 w w')
 case atStart => exact ⟨(0),rD,H',⟨Nat.le_refl _⟩,dD⟩
 case round =>
  clear H';obtain ⟨x3_1,rfl,HA,HK1,⟨m1,rfl⟩⟩ := hrel
  cases gk with
  | zero => exact absurd HA.out (by simp [Zam.l0])
  | succ k1 =>
   have H := HA.out;clear HA;simp only [Zam.l0] at H;replace H := bE H;obtain ⟨t826,A2,H⟩ := H;replace H := iB H;obtain ⟨rfl,H⟩|⟨rfl,H⟩ := H
   ·have H' := aK H;clear H
    go_wp2_with ((with_reducible refine wP ?_);first | (refine gT 6 Try.func84 (ZQ.calls k1 _ _ l0 x3_1 true _ (cM (HR0.out)) HC0.out A2.out) ?_;rintro w' ⟨nd,rfl⟩))
    go_roundg k1
    case measure => have := HK1.out;omega
    case rel => exact ⟨(wrap64 (x3_1 + 1)),rD,H',o1 HK1,dD⟩
   ·obtain rfl := Option.some.inj H
    go_wp2_with ((with_reducible refine wP ?_);first | (refine gT 6 Try.func84 (ZQ.calls k1 _ _ l0 x3_1 false _ (cM (HR0.out)) HC0.out A2.out) ?_;rintro w' ⟨nd,rfl⟩))
    go_ret;exact ⟨rD,dD⟩
theorem ZU.has81 : HasFn 81 := ⟨_, Try.func81, by kernel_rfl, rfl⟩
theorem ZU.hv81 : ∀ (k : Nat) (A : Option Addr) (c : Nat) (xs : List Int) (r : Int) (w : World), Kd.C (Kd.int .i64) w A xs.length xs → xs.length ≤ c → Zam.f k xs = some r → Calls Try.prog 81 (#[.slice A xs.length c] ++ #[]) w fun e w' => e = .returned (.int .i64 r) ∧ Below w.heap.size w w' := by
 intro k A c xs r w hr hc h;rw [Array.append_empty]
 first
 | exact Zam.calls k A c xs r w hr hc h
 | exact (Zam.calls k A c xs r w hr hc h).mono (fun _ _ h_ => ⟨h_.1,h_.2.below⟩)
def ZU.f (k : Nat) (l0_0 : List (List Int)) : Option (List Int × Int) := (Ze.f Zam.f k l0_0).bind fun bt828 => (some (bt828.1, bt828.2))
theorem ZU.mono : ∀ a0 k, LeO (ZU.f k a0) (ZU.f (k + 1) a0) := by
 intro a0 k;unfold ZU.f
 repeat' first | (with_reducible exact Ze.mono Zam.f Zam.mono _ _) | (with_reducible exact LeO.refl _) | (with_reducible exact LeO.none _) | (with_reducible refine LeO.ite ?_ ?_) | (with_reducible refine LeO.bind ?_ (fun _ => ?_))
theorem ZU.calls (k : Nat) (A0_0 : Option Addr) (c0_0 : Nat) (l0_0 : List (List Int)) (r1 : List Int) (r2 : Int) (w : World) (hr0_0 : Kd.C (Kd.slice 2 (Kd.int .i64)) w A0_0 l0_0.length l0_0) (hc0_0 : l0_0.length ≤ c0_0) (h : ZU.f k l0_0 = some (r1, r2)) :
 Calls Try.prog 72 #[.agg #[.slice A0_0 l0_0.length c0_0]] w fun e w' => ∃ v0_ : Value,e = .returned (.tuple #[v0_,.int .i64 r2]) ∧ Kd.R (Kd.int .i64) 2 w' w.heap.size (fun _ => True) v0_ r1 ∧ Below w.heap.size w w' := by
 have hu26 := Try.underlying26;have HR0_0 := aK hr0_0;have HC0_0 := aK hc0_0;clear hr0_0 hc0_0;have HB := aK (Below.refl w.heap.size w);have H := h;clear h;unfold ZU.f at H;replace H := bE H;obtain ⟨⟨t828,t831⟩,A2,H⟩ := H;dsimp only at H;simp only [Option.some.injEq,Prod.mk.injEq] at H;obtain ⟨rfl,rfl⟩ := H;go_enter Try.func72,Try.ntmps72
 go_wp2_with ((with_reducible refine wP ?_);first | (refine boxE 1 #[.slice A0_0 l0_0.length c0_0] 26 ?_;intro gb827 hg w3 hbox hb;have BK827 := aK (hbox);have GW827 := aK (zG HB hg);have GE827 := aK (zG HB hg);replace HB := hB HB hb;clear hb hbox hg;have hcz4_0 := z0 BK827;have hfz4_0 := fZ BK827 0) | (refine gS 5 Try.func49 (Ze.calls Zam.f 81 #[] ZU.has81 ZU.hv81 k _ _ l0_0 t828 t831 _ (cB HR0_0 HB) HC0_0.out A2.out) ?_;rintro e w5 ⟨v829,rfl,ho0,hb⟩;refine ⟨_,rfl,?_⟩;have HO830 := rl ho0 HB;replace BK827 := kB BK827 hb;replace HB := hB HB hb;clear hb ho0))
 go_ret2;exact ⟨_,eR ⟨by (with_reducible repeat (first | apply Kd.R_alloc | apply Kd.R_drewN | apply Kd.R_drew));exact HO830.out,(bN HB)⟩⟩
mutual
def Zg.j0 : Nat → Int → Int → Bool → List (List Int) → List (List Int) → Option (Bool × Int)
 | 0,_,_,_,_,_ => none
 | k + 1,x1,x3,x10,xqA,xqB => (ZC.f k xqA).bind fun t838 => (if t838 = true then ((ZC.f k xqB).bind fun t839 => ((ZZ.f k (([(⟨t839,1⟩ : S82),(⟨x10,2⟩ : S82)] : List (S82)))).bind fun t843 => (Zg.j1 k x1 x3 t843 xqA xqB))) else ((ZZ.f k (([(⟨false,1⟩ : S82),(⟨x10,2⟩ : S82)] : List (S82)))).bind fun t847 => (Zg.j1 k x1 x3 t847 xqA xqB)))
def Zg.j1 : Nat → Int → Int → Int → List (List Int) → List (List Int) → Option (Bool × Int)
 | 0,_,_,_,_,_ => none
 | k + 1,x1,x3,x11,xqA,xqB => if x11 = 0 then ((ZU.f k xqA).bind fun bt848 => ((ZU.f k xqB).bind fun bt852 => (if 0 ≤ x1 then (if x1 < (bt848.1.length : Int) then (if 0 ≤ x3 then (if x3 < (bt852.1.length : Int) then (some (((rd bt848.1 x1) == (rd bt852.1 x3)),0)) else (none)) else (none)) else (none)) else (none)))) else (some (false,x11))
end
def Zg.f (k : Nat) (l0_0 : List (List Int)) (a1 : Int) (l2_0 : List (List Int)) (a3 : Int) : Option (Bool × Int) := (Zan.f l0_0).bind fun t834 => ((Zaa.f a1 0 (wrap64 (t834 - 1))).bind fun t835 => (if t835 = true then ((Zan.f l2_0).bind fun t836 => ((Zaa.f a3 0 (wrap64 (t836 - 1))).bind fun t837 => (Zg.j0 k a1 a3 t837 l0_0 l2_0))) else (Zg.j0 k a1 a3 false l0_0 l2_0)))
theorem Zg.mono_l : ∀ k, (∀ y0 y1 y2 y3 y4, LeO (Zg.j0 k y0 y1 y2 y3 y4) (Zg.j0 (k + 1) y0 y1 y2 y3 y4)) ∧ (∀ y0 y1 y2 y3 y4, LeO (Zg.j1 k y0 y1 y2 y3 y4) (Zg.j1 (k + 1) y0 y1 y2 y3 y4))
 | 0 => ⟨fun _ _ _ _ _ r h => by simp [Zg.j0] at h,fun _ _ _ _ _ r h => by simp [Zg.j1] at h⟩
 | k + 1 => by
  obtain ⟨ih0,ih1⟩ := Zg.mono_l k;refine ⟨?_,?_⟩ <;> (intros;first | unfold Zg.j0 | unfold Zg.j1)
  all_goals have m0 := ZU.mono;have m1 := ZC.mono;have m2 := ZZ.mono;exact lO
theorem Zg.mono : ∀ a0 a1 a2 a3 k, LeO (Zg.f k a0 a1 a2 a3) (Zg.f (k + 1) a0 a1 a2 a3) := by
 intro a0 a1 a2 a3 k;obtain ⟨ih0,ih1⟩ := Zg.mono_l k;unfold Zg.f;have m0 := ZU.mono;have m1 := ZC.mono;have m2 := ZZ.mono;exact lO
theorem Zg.calls (k : Nat) (A0_0 : Option Addr) (c0_0 : Nat) (l0_0 : List (List Int)) (a1 : Int) (A2_0 : Option Addr) (c2_0 : Nat) (l2_0 : List (List Int)) (a3 : Int) (r1 : Bool) (r2 : Int) (w : World) (hr0_0 : Kd.C (Kd.slice 2 (Kd.int .i64)) w A0_0 l0_0.length l0_0) (hc0_0 : l0_0.length ≤ c0_0) (hr2_0 : Kd.C (Kd.slice 2 (Kd.int .i64)) w A2_0 l2_0.length l2_0) (hc2_0 : l2_0.length ≤ c2_0) (h : Zg.f k l0_0 a1 l2_0 a3 = some (r1, r2)) :
 Calls Try.prog 30 #[.agg #[.slice A0_0 l0_0.length c0_0],.int .i64 a1,.agg #[.slice A2_0 l2_0.length c2_0],.int .i64 a3] w fun e w' => e = .returned (.tuple #[.bool r1,.int .i64 r2]) ∧ Below w.heap.size w w' := by
 have hu26 := Try.underlying26;have hu82 := Try.underlying82;have HR0_0 := aK hr0_0;have HC0_0 := aK hc0_0;clear hr0_0 hc0_0;have HR2_0 := aK hr2_0;have HC2_0 := aK hc2_0;clear hr2_0 hc2_0;have HB := aK (Below.refl w.heap.size w);have H := h;clear h;unfold Zg.f at H;have HC5 := aK H;clear H;go_enter Try.func30,Try.ntmps30
 go_upto_region 1 with ((with_reducible refine wP ?_);first | (refine boxE 4 #[.slice A0_0 l0_0.length c0_0] 26 ?_;intro gb832 hg w6 hbox hb;have BK832 := aK (hbox);have GW832 := aK (zG HB hg);have GE832 := aK (zG HB hg);replace HB := hB HB hb;clear hb hbox hg) | (refine boxE 6 #[.slice A2_0 l2_0.length c2_0] 26 ?_;intro gb833 hg w7 hbox hb;have BK833 := aK (hbox);have GW833 := aK (zG HB hg);have GE833 := aK (zG HB hg);replace HB := hB HB hb;obtain ⟨NB832_833,NB833_832⟩ := nG hg BK832;replace BK832 := kB BK832 hb;clear hb hbox hg))
 (try simp only [Act.put,List.setIfInBounds_toArray,List.set_cons_zero,List.set_cons_succ])
 go_cut [10] (fun v10 wc => ∃ (kq : Nat) (x10_4 : Bool),v10 = .bool x10_4 ∧ Aside0 (Zg.j0 kq a1 a3 x10_4 l0_0 l2_0 = some (r1,r2)) ∧ Aside0 (kq ≤ k) ∧ Aside0 (wc.heap[gb832]? = some (.cells #[(.slice A0_0 l0_0.length c0_0)] 26 (0,0))) ∧ Aside0 (wc.heap[gb833]? = some (.cells #[(.slice A2_0 l2_0.length c2_0)] 26 (0,0))) ∧ Aside0 (Below w.heap.size w wc))
 case first =>
  have H := HC5.out;clear HC5;replace H := bE H;obtain ⟨t834,A8,H⟩ := H;replace H := bE H;obtain ⟨t835,A9,H⟩ := H;replace H := iB H;obtain ⟨rfl,H⟩|⟨rfl,H⟩ := H
  ·replace H := bE H;obtain ⟨t836,A11,H⟩ := H;replace H := bE H;obtain ⟨t837,A12,H⟩ := H;have H' := aK H;clear H;have hnb13 := NB832_833.out;have hnc13 := NB833_832.out;have hcz14_0 := z0 BK832;have hfz14_0 := fZ BK832 0
   go_wp2_with (first | (go_at_call 41;refine cA (Zan.calls _ _ l0_0 t834 _ (cB HR0_0 HB) HC0_0.out A8.out) ?_;rintro e w' ⟨rfl,⟨nd,rfl⟩⟩;(try first | exact ⟨rfl,_,World.drewN_drewN _ _ _⟩ | exact ⟨rfl,_,Eq.trans (World.drewN_drewN _ _ _) (congrArg (World.drewN _) (Nat.add_assoc _ _ _))⟩)) | (go_at_call 64;refine cA (Zaa.calls a1 0 (wrap64 (t834 - 1)) true _ A9.out) ?_;rintro e w' ⟨rfl,⟨nd,rfl⟩⟩;(try first | exact ⟨rfl,_,World.drewN_drewN _ _ _⟩ | exact ⟨rfl,_,Eq.trans (World.drewN_drewN _ _ _) (congrArg (World.drewN _) (Nat.add_assoc _ _ _))⟩);have hcz15_0 := z0 BK833;have hfz15_0 := fZ BK833 0) | (go_at_call 41;refine cA (Zan.calls _ _ l2_0 t836 _ (cM ((Kd.C_below HR2_0.out (bN HB)))) HC2_0.out A11.out) ?_;rintro e w' ⟨rfl,⟨nd,rfl⟩⟩;(try first | exact ⟨rfl,_,World.drewN_drewN _ _ _⟩ | exact ⟨rfl,_,Eq.trans (World.drewN_drewN _ _ _) (congrArg (World.drewN _) (Nat.add_assoc _ _ _))⟩)) | (go_at_call 64;refine cA (Zaa.calls a3 0 (wrap64 (t836 - 1)) t837 _ A12.out) ?_;rintro e w' ⟨rfl,⟨nd,rfl⟩⟩;(try first | exact ⟨rfl,_,World.drewN_drewN _ _ _⟩ | exact ⟨rfl,_,Eq.trans (World.drewN_drewN _ _ _) (congrArg (World.drewN _) (Nat.add_assoc _ _ _))⟩)))
   go_meet
   case rel => exact ⟨_,(t837),rD,H',⟨by first | omega | exact Nat.le_refl _⟩,⟨kN BK832⟩,⟨kN BK833⟩,⟨bN HB⟩⟩
  ·have H' := aK H;clear H;have hnb16 := NB832_833.out;have hnc16 := NB833_832.out;have hcz17_0 := z0 BK832;have hfz17_0 := fZ BK832 0
   go_wp2_with (first | (go_at_call 41;refine cA (Zan.calls _ _ l0_0 t834 _ (cB HR0_0 HB) HC0_0.out A8.out) ?_;rintro e w' ⟨rfl,⟨nd,rfl⟩⟩;(try first | exact ⟨rfl,_,World.drewN_drewN _ _ _⟩ | exact ⟨rfl,_,Eq.trans (World.drewN_drewN _ _ _) (congrArg (World.drewN _) (Nat.add_assoc _ _ _))⟩)) | (go_at_call 64;refine cA (Zaa.calls a1 0 (wrap64 (t834 - 1)) false _ A9.out) ?_;rintro e w' ⟨rfl,⟨nd,rfl⟩⟩;(try first | exact ⟨rfl,_,World.drewN_drewN _ _ _⟩ | exact ⟨rfl,_,Eq.trans (World.drewN_drewN _ _ _) (congrArg (World.drewN _) (Nat.add_assoc _ _ _))⟩)))
   go_meet
   case rel => exact ⟨_,(false),rD,H',⟨by first | omega | exact Nat.le_refl _⟩,⟨kN BK832⟩,⟨kN BK833⟩,⟨bN HB⟩⟩
 case rest =>
  clear HC5;obtain ⟨kq,x10_4,rfl,HA,HJ4,BK832,BK833,HB⟩ := hcut
  cases kq with
  | zero => exact absurd HA.out (by simp [Zg.j0])
  | succ kj4 =>
   have H := HA.out;clear HA;simp only [Zg.j0] at H;have HC18 := aK H;clear H
   go_upto_region 2 with (fail)
   go_cut [11] (fun v11 wc => ∃ (kq : Nat) (x11_17 : Int),v11 = .int .i64 x11_17 ∧ Aside0 (Zg.j1 kq a1 a3 x11_17 l0_0 l2_0 = some (r1,r2)) ∧ Aside0 (kq ≤ kj4) ∧ Aside0 (wc.heap[gb832]? = some (.cells #[(.slice A0_0 l0_0.length c0_0)] 26 (0,0))) ∧ Aside0 (wc.heap[gb833]? = some (.cells #[(.slice A2_0 l2_0.length c2_0)] 26 (0,0))) ∧ Aside0 (Below w.heap.size w wc))
   case first =>
    have H := HC18.out;clear HC18;replace H := bE H;obtain ⟨t838,A19,H⟩ := H;replace H := iB H;obtain ⟨rfl,H⟩|⟨rfl,H⟩ := H
    ·replace H := bE H;obtain ⟨t839,A21,H⟩ := H;obtain ⟨y840,hy840⟩ : ∃ y_ : List (S82),y_ = (([(⟨t839,1⟩ : S82),(⟨x10_4,2⟩ : S82)] : List (S82))) := ⟨_,rfl⟩;rw [← hy840] at H;have Ny840 := aK hy840;clear hy840;replace H := bE H;obtain ⟨t843,A22,H⟩ := H;have H' := aK H;clear H;have hnb23 := NB832_833.out;have hnc23 := NB833_832.out;have hcz24_0 := z0 BK832;have hfz24_0 := fZ BK832 0
     go_wp2_with (first | (go_at_call 47;refine cA (ZC.calls kj4 _ _ l0_0 true _ (cB HR0_0 HB) HC0_0.out A19.out) ?_;rintro e w25 ⟨rfl,hb⟩;replace BK832 := kB BK832 hb;replace BK833 := kB BK833 hb;replace HB := hB HB hb;clear hb;have hcz26_0 := z0 BK833;have hfz26_0 := fZ BK833 0) | (go_at_call 47;refine cA (ZC.calls kj4 _ _ l2_0 t839 _ (cB HR2_0 HB) HC2_0.out A21.out) ?_;rintro e w27 ⟨rfl,hb⟩;replace BK832 := kB BK832 hb;replace BK833 := kB BK833 hb;replace HB := hB HB hb;clear hb) | ((with_reducible refine wP ?_);refine Kd.R_lit k82 _ 82 ?hg (N := 39) ?hd (xs := ([(⟨t839,1⟩ : S82),(⟨x10_4,2⟩ : S82)] : List (S82))) (inner := [.bool t839,.int .i64 1,.bool x10_4,.int .i64 2]) (ok := fun _ => True) (okp := fun _ => True) ?hr ?hp (fun _ hk => hk) trivial (Below.refl _ _) (Nat.le_refl _) (by simp) ?_;(case hd => rfl);(case hg => rfl);(case hr => first | (go_simp;done) | (go_simp;rfl));(case hp => exact (Reps.c2 (show Kd.M k82 _ _ _ (⟨t839,1⟩ : S82) [.bool t839,.int .i64 1] from (k82_mkM _ _ _ (⟨t839,1⟩ : S82) )) (Reps.c2 (show Kd.M k82 _ _ _ (⟨x10_4,2⟩ : S82) [.bool x10_4,.int .i64 2] from (k82_mkM _ _ _ (⟨x10_4,2⟩ : S82) )) (Reps.none _ _))));intro v841 w28 ho29 hb hg_ hnew_;clear hg_ hnew_;(first | rw [← Ny840.out] at ho29 | (simp only [Int.reduceToNat] at ho29;rw [← Ny840.out] at ho29));have HO842 := rl ho29 HB;replace BK832 := kB BK832 hb;replace BK833 := kB BK833 hb;replace HB := hB HB hb;clear hb ho29;obtain ⟨Ao30,co30,eo30⟩ := Kd.R_slice HO842.out;subst eo30) | (go_at_call 71;refine cA (ZZ.calls kj4 _ _ y840 t843 _ (cR HO842) (rq HO842) A22.out) ?_;rintro e w31 ⟨rfl,hb⟩;replace HO842 := rB HO842 hb;replace BK832 := kB BK832 hb;replace BK833 := kB BK833 hb;replace HB := hB HB hb;clear hb))
     go_meet
     case rel => exact ⟨_,(t843),rD,H',o1 HJ4,⟨kN BK832⟩,⟨kN BK833⟩,⟨bN HB⟩⟩
    ·obtain ⟨y844,hy844⟩ : ∃ y_ : List (S82),y_ = (([(⟨false,1⟩ : S82),(⟨x10_4,2⟩ : S82)] : List (S82))) := ⟨_,rfl⟩;rw [← hy844] at H;have Ny844 := aK hy844;clear hy844;replace H := bE H;obtain ⟨t847,A32,H⟩ := H;have H' := aK H;clear H;have hnb33 := NB832_833.out;have hnc33 := NB833_832.out;have hcz34_0 := z0 BK832;have hfz34_0 := fZ BK832 0
     go_wp2_with (first | (go_at_call 47;refine cA (ZC.calls kj4 _ _ l0_0 false _ (cB HR0_0 HB) HC0_0.out A19.out) ?_;rintro e w35 ⟨rfl,hb⟩;replace BK832 := kB BK832 hb;replace BK833 := kB BK833 hb;replace HB := hB HB hb;clear hb) | ((with_reducible refine wP ?_);refine Kd.R_lit k82 _ 82 ?hg (N := 39) ?hd (xs := ([(⟨false,1⟩ : S82),(⟨x10_4,2⟩ : S82)] : List (S82))) (inner := [.bool false,.int .i64 1,.bool x10_4,.int .i64 2]) (ok := fun _ => True) (okp := fun _ => True) ?hr ?hp (fun _ hk => hk) trivial (Below.refl _ _) (Nat.le_refl _) (by simp) ?_;(case hd => rfl);(case hg => rfl);(case hr => first | (go_simp;done) | (go_simp;rfl));(case hp => exact (Reps.c2 (show Kd.M k82 _ _ _ (⟨false,1⟩ : S82) [.bool false,.int .i64 1] from (k82_mkM _ _ _ (⟨false,1⟩ : S82) )) (Reps.c2 (show Kd.M k82 _ _ _ (⟨x10_4,2⟩ : S82) [.bool x10_4,.int .i64 2] from (k82_mkM _ _ _ (⟨x10_4,2⟩ : S82) )) (Reps.none _ _))));intro v845 w36 ho37 hb hg_ hnew_;clear hg_ hnew_;(first | rw [← Ny844.out] at ho37 | (simp only [Int.reduceToNat] at ho37;rw [← Ny844.out] at ho37));have HO846 := rl ho37 HB;replace BK832 := kB BK832 hb;replace BK833 := kB BK833 hb;replace HB := hB HB hb;clear hb ho37;obtain ⟨Ao38,co38,eo38⟩ := Kd.R_slice HO846.out;subst eo38) | (go_at_call 71;refine cA (ZZ.calls kj4 _ _ y844 t847 _ (cR HO846) (rq HO846) A32.out) ?_;rintro e w39 ⟨rfl,hb⟩;replace HO846 := rB HO846 hb;replace BK832 := kB BK832 hb;replace BK833 := kB BK833 hb;replace HB := hB HB hb;clear hb))
     go_meet
     case rel => exact ⟨_,(t847),rD,H',o1 HJ4,⟨kN BK832⟩,⟨kN BK833⟩,⟨bN HB⟩⟩
   case rest =>
    clear HC18;obtain ⟨kq,x11_17,rfl,HA,HJ17,BK832,BK833,HB⟩ := hcut
    cases kq with
    | zero => exact absurd HA.out (by simp [Zg.j1])
    | succ kj17 =>
     have H := HA.out;clear HA;simp only [Zg.j1] at H
     by_cases c40 : x11_17 = 0
     ·rw [if_pos c40] at H;have c40b0 := beq_iff_eq.mpr c40;have c40b1 := bne_eq_false_iff_eq.mpr c40;clear c40;replace H := bE H;obtain ⟨⟨t848,t851⟩,A41,H⟩ := H;dsimp only at H;replace H := bE H;obtain ⟨⟨t852,t855⟩,A42,H⟩ := H;dsimp only at H;replace H := iP H;obtain ⟨c43b0,H⟩ := H;replace H := iP H;obtain ⟨c44b0,H⟩ := H;replace H := iP H;obtain ⟨c45b0,H⟩ := H;replace H := iP H;obtain ⟨c46b0,H⟩ := H;simp only [Option.some.injEq,Prod.mk.injEq] at H;obtain ⟨rfl,rfl⟩ := H;have hnb47 := NB832_833.out;have hnc47 := NB833_832.out;have hcz48_0 := z0 BK832;have hfz48_0 := fZ BK832 0
      go_wp2_with (first | (go_at_call 72;refine cA (ZU.calls kj17 _ _ l0_0 t848 t851 _ (cB HR0_0 HB) HC0_0.out A41.out) ?_;rintro e w49 ⟨v849,rfl,ho0,hb⟩;have HO850 := rl ho0 HB;replace BK832 := kB BK832 hb;replace BK833 := kB BK833 hb;replace HB := hB HB hb;clear hb ho0;have hcz50_0 := z0 BK833;have hfz50_0 := fZ BK833 0) | (go_at_call 72;refine cA (ZU.calls kj17 _ _ l2_0 t852 t855 _ (cB HR2_0 HB) HC2_0.out A42.out) ?_;rintro e w51 ⟨v853,rfl,ho0,hb⟩;have HO854 := rl (rn ho0 HO850) HB;replace HO850 := rL HO850 (rb ho0) hb;replace BK832 := kB BK832 hb;replace BK833 := kB BK833 hb;replace HB := hB HB hb;clear hb ho0;obtain ⟨Ao52,co52,eo52⟩ := Kd.R_slice HO850.out;subst eo52;obtain ⟨ad856,rfl,hx856_0,p856,q856⟩ := aJ (rr HO850) a1;obtain ⟨Ao53,co53,eo53⟩ := Kd.R_slice HO854.out;subst eo53;obtain ⟨ad857,rfl,hx857_0,p857,q857⟩ := aJ (rr HO854) a3))
      repeat (go_quiet (first | (go_at_call 72;refine cA (ZU.calls kj17 _ _ l0_0 t848 t851 _ (cB HR0_0 HB) HC0_0.out A41.out) ?_;rintro e w49 ⟨v849,rfl,ho0,hb⟩;have n0_ := rl ho0 HB;have n1_ := kB BK832 hb;have n2_ := kB BK833 hb;have n3_ := hB HB hb;clear BK832;clear BK833;clear HB;have HO850 := n0_;have BK832 := n1_;have BK833 := n2_;have HB := n3_;clear n0_ n1_ n2_ n3_;(try clear hb);(try clear hb2);(try clear hk);(try clear hi);(try clear ho0);have hcz50_0 := z0 BK833;have hfz50_0 := fZ BK833 0) | (go_at_call 72;refine cA (ZU.calls kj17 _ _ l2_0 t852 t855 _ (cB HR2_0 HB) HC2_0.out A42.out) ?_;rintro e w51 ⟨v853,rfl,ho0,hb⟩;have n0_ := rL HO850 (rb ho0) hb;have n1_ := rl (rn ho0 HO850) HB;have n2_ := kB BK832 hb;have n3_ := kB BK833 hb;have n4_ := hB HB hb;clear HO850;clear BK832;clear BK833;clear HB;have HO850 := n0_;have HO854 := n1_;have BK832 := n2_;have BK833 := n3_;have HB := n4_;clear n0_ n1_ n2_ n3_ n4_;(try clear hb);(try clear hb2);(try clear hk);(try clear hi);(try clear ho0);obtain ⟨Ao52,co52,eo52⟩ := Kd.R_slice HO850.out;subst eo52;obtain ⟨ad856,rfl,hx856_0,p856,q856⟩ := aJ (rr HO850) a1;obtain ⟨Ao53,co53,eo53⟩ := Kd.R_slice HO854.out;subst eo53;obtain ⟨ad857,rfl,hx857_0,p857,q857⟩ := aJ (rr HO854) a3));try go_wp2_with (first | (go_at_call 72;refine cA (ZU.calls kj17 _ _ l0_0 t848 t851 _ (cB HR0_0 HB) HC0_0.out A41.out) ?_;rintro e w49 ⟨v849,rfl,ho0,hb⟩;have n0_ := rl ho0 HB;have n1_ := kB BK832 hb;have n2_ := kB BK833 hb;have n3_ := hB HB hb;clear BK832;clear BK833;clear HB;have HO850 := n0_;have BK832 := n1_;have BK833 := n2_;have HB := n3_;clear n0_ n1_ n2_ n3_;(try clear hb);(try clear hb2);(try clear hk);(try clear hi);(try clear ho0);have hcz50_0 := z0 BK833;have hfz50_0 := fZ BK833 0) | (go_at_call 72;refine cA (ZU.calls kj17 _ _ l2_0 t852 t855 _ (cB HR2_0 HB) HC2_0.out A42.out) ?_;rintro e w51 ⟨v853,rfl,ho0,hb⟩;have n0_ := rL HO850 (rb ho0) hb;have n1_ := rl (rn ho0 HO850) HB;have n2_ := kB BK832 hb;have n3_ := kB BK833 hb;have n4_ := hB HB hb;clear HO850;clear BK832;clear BK833;clear HB;have HO850 := n0_;have HO854 := n1_;have BK832 := n2_;have BK833 := n3_;have HB := n4_;clear n0_ n1_ n2_ n3_ n4_;(try clear hb);(try clear hb2);(try clear hk);(try clear hi);(try clear ho0);obtain ⟨Ao52,co52,eo52⟩ := Kd.R_slice HO850.out;subst eo52;obtain ⟨ad856,rfl,hx856_0,p856,q856⟩ := aJ (rr HO850) a1;obtain ⟨Ao53,co53,eo53⟩ := Kd.R_slice HO854.out;subst eo53;obtain ⟨ad857,rfl,hx857_0,p857,q857⟩ := aJ (rr HO854) a3)))
      go_ret2;exact eR (bN HB)
     ·rw [if_neg c40] at H;have c40b0 := beq_eq_false_iff_ne.mpr c40;have c40b1 := bne_iff_ne.mpr c40;simp only [Option.some.injEq,Prod.mk.injEq] at H;obtain ⟨rfl,rfl⟩ := H;go_wp2
      repeat (go_quiet (fail);try go_wp2)
      go_ret2;exact eR (bN HB)
mutual
def ZH.l0 : Nat → List Int → List Bool → Int → Option (Int)
 | 0,_,_,_ => none
 | k + 1,x0,x3,x4 => if x4 < (x0.length : Int) then (if 0 ≤ x4 then (if (rd x0 x4) < (x3.length : Int) then (if 0 ≤ (rd x0 x4) then (ZH.l0 k x0 (x3.set ((rd x0 x4) : Int).toNat true) (wrap64 (x4 + 1))) else (none)) else (ZH.l0 k x0 x3 (wrap64 (x4 + 1)))) else (none)) else (ZH.l1 k x3 0)
def ZH.l1 : Nat → List Bool → Int → Option (Int)
 | 0,_,_ => none
 | k + 1,x3,x5 => if 0 ≤ x5 then (if x5 < (x3.length : Int) then (if rdOf false x3 x5 = true then (ZH.l1 k x3 (wrap64 (x5 + 1))) else (some x5)) else (none)) else (none)
end
def ZH.f (k : Nat) (l0 : List Int) : Option (Int) := if 0 ≤ (wrap64 ((l0.length : Int) + 1)) then (if (wrap64 ((l0.length : Int) + 1) : Int).toNat ≤ 281474976710656 then (ZH.l0 k l0 (List.replicate (wrap64 ((l0.length : Int) + 1) : Int).toNat false) 0) else (none)) else (none)
theorem ZH.mono_l : ∀ k, (∀ y0 y1 y2, LeO (ZH.l0 k y0 y1 y2) (ZH.l0 (k + 1) y0 y1 y2)) ∧ (∀ y0 y1, LeO (ZH.l1 k y0 y1) (ZH.l1 (k + 1) y0 y1))
 | 0 => ⟨fun _ _ _ r h => by simp [ZH.l0] at h,fun _ _ r h => by simp [ZH.l1] at h⟩
 | k + 1 => by
  obtain ⟨ih0,ih1⟩ := ZH.mono_l k;refine ⟨?_,?_⟩ <;> (intros;first | unfold ZH.l0 | unfold ZH.l1)
  all_goals exact lO
theorem ZH.mono : ∀ a0 k, LeO (ZH.f k a0) (ZH.f (k + 1) a0) := by
 intro a0 k;obtain ⟨ih0,ih1⟩ := ZH.mono_l k;unfold ZH.f;exact lO
theorem ZH.calls (k : Nat) (A0 : Option Addr) (c0 : Nat) (l0 : List Int) (r : Int) (w : World) (hr0 : Kd.C (Kd.int .i64) w A0 l0.length l0) (hc0 : l0.length ≤ c0) (h : ZH.f k l0 = some r) :
 Calls Try.prog 82 #[.slice A0 l0.length c0] w fun e w' => e = .returned (.int .i64 r) ∧ Below w.heap.size w w' := by
 have HR0 := aK hr0;have HC0 := aK hc0;clear hr0 hc0;have HB := aK (Below.refl w.heap.size w);have H := h;clear h;unfold ZH.f at H;obtain ⟨ji2,hji2⟩ : ∃ j_ : Int,(wrap64 ((l0.length : Int) + 1)) = j_ := ⟨_,rfl⟩;(first | rw [hji2] at H | simp only [hji2] at H);have hji2w : (IntKind.i64.wrap ((l0.length : Int) + 1)) = ji2 := (i64_w _).trans hji2
 by_cases c3 : 0 ≤ (ji2)
 rotate_left
 ·rw [if_neg c3] at H;exact absurd H (by simp)
 rw [if_pos c3] at H;have c3b0 := eq_true c3;have c3b1 := decide_eq_true c3;clear c3
 by_cases c4 : (ji2 : Int).toNat ≤ 281474976710656
 rotate_left
 ·rw [if_neg c4] at H;exact absurd H (by simp)
 rw [if_pos c4] at H;have c4b0 := eq_true c4;have c4b1 := decide_eq_true c4;clear c4;obtain ⟨y858,hy858⟩ : ∃ y_ : List Bool,y_ = (List.replicate (ji2 : Int).toNat false) := ⟨_,rfl⟩;rw [← hy858] at H;have Ny858 := aK hy858;clear hy858;have H' := aK H;clear H;go_enter Try.func82,Try.ntmps82
 go_wp2_with (first | ((with_reducible refine gate_dst (N := 9) rfl ?_);refine Kd.R_make Kd.bool _ 4 rfl (N := 9) rfl 33 _ _ rfl ji2 rfl rfl Try.underlying33 (.bool false) 1 info4 rfl (by decide) (by omega) false (ok := fun _ => True) (okp := fun _ => True) rfl (fun _ hk => hk) trivial (of_decide_eq_true (by first | (with_reducible assumption) | assumption)) (Nat.le_trans (Nat.mul_le_mul_right _ (of_decide_eq_true (by first | (with_reducible assumption) | assumption) : ji2.toNat ≤ 281474976710656)) (by omega)) (Below.refl _ _) (Nat.le_refl _) ?_;intro v859 w5 ho6 hb hg_ hnew_;clear hg_ hnew_;(first | rw [← Ny858.out] at ho6 | (simp only [Int.reduceToNat] at ho6;rw [← Ny858.out] at ho6));have HO860 := rl ho6 HB;replace HB := hB HB hb;clear hb ho6))
 go_loopg [4] k (fun kq v4 w' => ∃ (x3_1 : List Bool) (x4_1 : Int),v4 = .int .i64 x4_1 ∧ Aside0 (ZH.l0 kq l0 x3_1 x4_1 = some r) ∧ Aside0 (kq ≤ k) ∧ Aside0 (Kd.R Kd.bool 4 w' w.heap.size (fun _ => True) v859 x3_1) ∧ Aside0 (Below w.heap.size w w'))
 case atStart => exact ⟨(y858),(0),rD,H',⟨Nat.le_refl _⟩,⟨rN HO860⟩,⟨bN HB⟩⟩
 case round =>
  clear H';clear c3b0 c3b1 c4b0 c4b1;obtain ⟨x3_1,x4_1,rfl,HA,HK1,HO_3,HB⟩ := hrel
  cases gk with
  | zero => exact absurd HA.out (by simp [ZH.l0])
  | succ k1 =>
   have H := HA.out;clear HA;simp only [ZH.l0] at H;replace H := iT H;obtain ⟨c7b0,H⟩|⟨c7b0,H⟩ := H
   ·replace H := iP H;obtain ⟨c8b0,H⟩ := H;replace H := iT H;obtain ⟨c9b0,H⟩|⟨c9b0,H⟩ := H
    ·replace H := iP H;obtain ⟨c10b0,H⟩ := H;obtain ⟨y863,hy863⟩ : ∃ y_ : List Bool,y_ = (x3_1.set ((rd l0 x4_1) : Int).toNat true) := ⟨_,rfl⟩;rw [← hy863] at H;have Ny863 := aK hy863;clear hy863;have H' := aK H;clear H;obtain ⟨ad861,rfl,-,hx861_0,p861,q861⟩ := aI HR0.out HB x4_1;obtain ⟨Ao12,co12,eo12⟩ := Kd.R_slice HO_3.out;subst eo12;obtain ⟨ad862,e862,-,hx862_0,p862,q862⟩ := aI HR0.out HB x4_1;obtain rfl := iJ e862;have p11 : 0 ≤ ((rd l0 x4_1) : Int) := dT;have q11 : ((rd l0 x4_1) : Int) < ((x3_1.length : Int) : Int) := dT;obtain ⟨go11,co11,eo11,gb11,gl11,cl11,HG11⟩ := Kd.R_form HO_3.out (by omega);(first | cases eo11 | (injection eo11 with ea_ en_ ec_;(first | subst ea_ | (injection ea_ with ea_;subst ea_));subst ec_;clear en_));have GB11 := aK gb11;have GG11 := aK HG11;clear gb11 gl11 HG11;obtain ⟨hx11_0,hf11_0⟩ := Kd.R_celln false HO_3.out ((rd l0 x4_1) : Int) p11 q11;replace p11 := eq_true p11;replace q11 := eq_true q11;have HP13 := Kd.R_putg HO_3.out ((rd l0 x4_1) : Int) true
     go_wp2_with (first | ((with_reducible refine gate_store (t := 4) (p := 28) rfl ?_);refine store_event (t := 4) (p := 28) (v := ?vo_w14) (w1 := (wr.setCell ⟨go11,((rd l0 x4_1) : Int).toNat,none⟩ (.bool true))) ?hg ?ho ?hn ?hr ?_;(case ho => rfl);(case hg => rfl);(case hn => rfl);(case hr => first | (go_simp;done) | (go_simp;rfl));intro w14 hw;have hg : wr.grownBy w14 (some go11) := (by rw [hw];exact HP13.2);have hp_ : Kd.R Kd.bool 4 w14 w.heap.size (fun _ => True) (.slice (some ⟨go11,0,none⟩) x3_1.length co12) y863 := (by rw [hw,Ny863.out];exact HP13.1);clear HP13;replace HO_3 := aK (hp_);replace HB := aK ((by rw [hw];exact below_set (HB.out) GB11.out : Below w.heap.size w w14));clear hg hw hp_))
     go_roundg k1
     case measure => have := HK1.out;omega
     case rel => exact ⟨(y863),(wrap64 (x4_1 + 1)),rD,H',o1 HK1,⟨rN HO_3⟩,⟨bN HB⟩⟩
    ·have H' := aK H;clear H;obtain ⟨ad861,rfl,-,hx861_0,p861,q861⟩ := aI HR0.out HB x4_1;obtain ⟨Ao15,co15,eo15⟩ := Kd.R_slice HO_3.out;subst eo15;go_wp2
     go_roundg k1
     case measure => have := HK1.out;omega
     case rel => exact ⟨(x3_1),(wrap64 (x4_1 + 1)),rD,H',o1 HK1,⟨rN HO_3⟩,⟨bN HB⟩⟩
   ·have H' := aK H;clear H;go_wp2
    go_loopg [5] k1 (fun kq v5 w' => ∃ (x5_2 : Int),v5 = .int .i64 x5_2 ∧ Aside0 (ZH.l1 kq x3_1 x5_2 = some r) ∧ Aside0 (kq ≤ k1) ∧ Aside0 (Kd.R Kd.bool 4 w' w.heap.size (fun _ => True) v859 x3_1) ∧ Aside0 (Below w.heap.size w w'))
    case atStart => exact ⟨(0),rD,H',⟨Nat.le_refl _⟩,⟨rN HO_3⟩,⟨bN HB⟩⟩
    case round =>
     clear H';clear c7b0;obtain ⟨x5_2,rfl,HA,HK2,HO_3,HB⟩ := hrel
     cases gk with
     | zero => exact absurd HA.out (by simp [ZH.l1])
     | succ k2 =>
      have H := HA.out;clear HA;simp only [ZH.l1] at H;replace H := iP H;obtain ⟨c16b0,H⟩ := H;replace H := iP H;obtain ⟨c17b0,H⟩ := H;obtain ⟨bq18,hbq18⟩ : ∃ b_ : Bool,b_ = (rdOf false x3_1 x5_2) := ⟨_,rfl⟩;rw [← hbq18] at H;have Nbq18 := aK hbq18;clear hbq18;replace H := iB H;obtain ⟨rfl,H⟩|⟨rfl,H⟩ := H
      ·have H' := aK H;clear H;obtain ⟨Ao20,co20,eo20⟩ := Kd.R_slice HO_3.out;subst eo20;have p864 : 0 ≤ (x5_2 : Int) := dT;have q864 : x5_2 < (x3_1.length : Int) := dT;obtain ⟨ad864,e864,hx864_0⟩ := Kd.at_bool (rr HO_3) x5_2 p864 q864;(try rw [← Nbq18.out] at hx864_0);cases e864;replace p864 := eq_true p864;replace q864 := eq_true q864;go_wp2
       go_roundg k2
       case measure => have := HK1.out;have := HK2.out;omega
       case rel => exact ⟨(wrap64 (x5_2 + 1)),rD,H',o2 HK1 HK2,⟨rN HO_3⟩,⟨bN HB⟩⟩
      ·obtain rfl := Option.some.inj H;obtain ⟨Ao21,co21,eo21⟩ := Kd.R_slice HO_3.out;subst eo21;have p864 : 0 ≤ (x5_2 : Int) := dT;have q864 : x5_2 < (x3_1.length : Int) := dT;obtain ⟨ad864,e864,hx864_0⟩ := Kd.at_bool (rr HO_3) x5_2 p864 q864;(try rw [← Nbq18.out] at hx864_0);cases e864;replace p864 := eq_true p864;replace q864 := eq_true q864;go_wp2;go_ret;exact ⟨by first | rfl | (simp [errW_none,errW_some] <;> rfl) | (simp only [← hji2];first | rfl | (simp [errW_none,errW_some] <;> rfl)) | (simp [*,errW_none,errW_some] <;> rfl),(bN HB)⟩
mutual
def Zw.l0 : Nat → List Int → Int → List (List Int) → Option (List Int)
 | 0,_,_,_ => none
 | k + 1,x3,x4,xqs => if x4 ≥ 0 then (Zw.l1 k x3 x4 (([] : List Int)) 0 xqs) else (some x3)
def Zw.l1 : Nat → List Int → Int → List Int → Int → List (List Int) → Option (List Int)
 | 0,_,_,_,_,_ => none
 | k + 1,x3,x4,x5,x6,xqs => if 0 ≤ x4 then (if x4 < (xqs.length : Int) then (if x6 < ((rd_L2 xqs x4).length : Int) then (if 0 ≤ x6 then (if 0 ≤ (rd (rd_L2 xqs x4) x6) then (if (rd (rd_L2 xqs x4) x6) < (x3.length : Int) then (if x5.length < 17592186044416 then (Zw.l1 k x3 x4 (x5 ++ [rd x3 (rd (rd_L2 xqs x4) x6)]) (wrap64 (x6 + 1)) xqs) else (none)) else (none)) else (none)) else (none)) else ((ZH.f k x5).bind fun t881 => (if x4 < (x3.length : Int) then (Zw.l0 k (x3.set (x4 : Int).toNat t881) (wrap64 (x4 - 1)) xqs) else (none)))) else (none)) else (none)
end
def Zw.f (k : Nat) (l0_0 : List (List Int)) : Option (List Int) := (Zq.f l0_0).bind fun t866 => (if 0 ≤ t866 then (if (t866 : Int).toNat ≤ 35184372088832 then ((Zq.f l0_0).bind fun t870 => (Zw.l0 k (List.replicate (t866 : Int).toNat 0) (wrap64 (t870 - 1)) l0_0)) else (none)) else (none))
theorem Zw.mono_l : ∀ k, (∀ y0 y1 y2, LeO (Zw.l0 k y0 y1 y2) (Zw.l0 (k + 1) y0 y1 y2)) ∧ (∀ y0 y1 y2 y3 y4, LeO (Zw.l1 k y0 y1 y2 y3 y4) (Zw.l1 (k + 1) y0 y1 y2 y3 y4))
 | 0 => ⟨fun _ _ _ r h => by simp [Zw.l0] at h,fun _ _ _ _ _ r h => by simp [Zw.l1] at h⟩
 | k + 1 => by
  obtain ⟨ih0,ih1⟩ := Zw.mono_l k;refine ⟨?_,?_⟩ <;> (intros;first | unfold Zw.l0 | unfold Zw.l1)
  all_goals have m0 := ZH.mono;exact lO
theorem Zw.mono : ∀ a0 k, LeO (Zw.f k a0) (Zw.f (k + 1) a0) := by
 intro a0 k;obtain ⟨ih0,ih1⟩ := Zw.mono_l k;unfold Zw.f;have m0 := ZH.mono;exact lO
theorem Zw.calls (k : Nat) (A0_0 : Option Addr) (c0_0 : Nat) (l0_0 : List (List Int)) (r : List Int) (w : World) (hr0_0 : Kd.C (Kd.slice 2 (Kd.int .i64)) w A0_0 l0_0.length l0_0) (hc0_0 : l0_0.length ≤ c0_0) (h : Zw.f k l0_0 = some r) :
 Calls Try.prog 73 #[.agg #[.slice A0_0 l0_0.length c0_0]] w fun e w' => ∃ v0_ : Value,e = .returned (v0_) ∧ Kd.R (Kd.int .i64) 2 w' w.heap.size (fun _ => True) v0_ r ∧ Below w.heap.size w w' := by
 have hu26 := Try.underlying26;have HR0_0 := aK hr0_0;have HC0_0 := aK hc0_0;clear hr0_0 hc0_0;have HB := aK (Below.refl w.heap.size w);have H := h;clear h;unfold Zw.f at H;replace H := bE H;obtain ⟨t866,A2,H⟩ := H
 by_cases c3 : 0 ≤ t866
 rotate_left
 ·rw [if_neg c3] at H;exact absurd H (by simp)
 rw [if_pos c3] at H;have c3b0 := eq_true c3;have c3b1 := decide_eq_true c3;clear c3
 by_cases c4 : (t866 : Int).toNat ≤ 35184372088832
 rotate_left
 ·rw [if_neg c4] at H;exact absurd H (by simp)
 rw [if_pos c4] at H;have c4b0 := eq_true c4;have c4b1 := decide_eq_true c4;clear c4;obtain ⟨y867,hy867⟩ : ∃ y_ : List Int,y_ = (List.replicate (t866 : Int).toNat 0) := ⟨_,rfl⟩;rw [← hy867] at H;have Ny867 := aK hy867;clear hy867;replace H := bE H;obtain ⟨t870,A5,H⟩ := H;have H' := aK H;clear H;go_enter Try.func73,Try.ntmps73
 go_wp2_with (first | ((with_reducible refine wP ?_);refine boxE 1 #[.slice A0_0 l0_0.length c0_0] 26 ?_;intro gb865 hg w6 hbox hb;have BK865 := aK (hbox);have GW865 := aK (zG HB hg);have GE865 := aK (zG HB hg);replace HB := hB HB hb;clear hb hbox hg;have hcz7_0 := z0 BK865;have hfz7_0 := fZ BK865 0) | ((with_reducible refine wP ?_);refine gT 8 Try.func43 (Zq.calls _ _ l0_0 t866 _ (cB HR0_0 HB) HC0_0.out A2.out) ?_;intro w8 hb;replace BK865 := kB BK865 hb;replace HB := hB HB hb;clear hb) | ((with_reducible refine gate_dst (N := 9) rfl ?_);refine Kd.R_make (Kd.int .i64) _ 2 rfl (N := 9) rfl 29 _ _ rfl t866 rfl rfl Try.underlying29 (.int .i64 0) 8 info2 rfl (by decide) (by omega) 0 (ok := fun _ => True) (okp := fun _ => True) rfl (fun _ hk => hk) trivial (of_decide_eq_true (by first | (with_reducible assumption) | assumption)) (Nat.le_trans (Nat.mul_le_mul_right _ (of_decide_eq_true (by first | (with_reducible assumption) | assumption) : t866.toNat ≤ 35184372088832)) (by omega)) (Below.refl _ _) (Nat.le_refl _) ?_;intro v868 w9 ho10 hb hg_ hnew_;clear hg_ hnew_;(first | rw [← Ny867.out] at ho10 | (simp only [Int.reduceToNat] at ho10;rw [← Ny867.out] at ho10));have HO869 := rl ho10 HB;replace BK865 := kB BK865 hb;replace HB := hB HB hb;clear hb ho10;have hcz11_0 := z0 BK865;have hfz11_0 := fZ BK865 0) | ((with_reducible refine wP ?_);refine gT 11 Try.func43 (Zq.calls _ _ l0_0 t870 _ (cB HR0_0 HB) HC0_0.out A5.out) ?_;intro w12 hb;replace HO869 := rB HO869 hb;replace BK865 := kB BK865 hb;replace HB := hB HB hb;clear hb))
 go_loopg [4] k (fun kq v4 w' => ∃ (x3_1 : List Int) (x4_1 : Int),v4 = .int .i64 x4_1 ∧ Aside0 (Zw.l0 kq x3_1 x4_1 l0_0 = some r) ∧ Aside0 (kq ≤ k) ∧ Aside0 (Kd.R (Kd.int .i64) 2 w' w.heap.size (fun _ => True) v868 x3_1) ∧ Aside0 (w'.heap[gb865]? = some (.cells #[(.slice A0_0 l0_0.length c0_0)] 26 (0,0))) ∧ Aside0 (Below w.heap.size w w'))
 case atStart => exact ⟨(y867),(wrap64 (t870 - 1)),rD,H',⟨Nat.le_refl _⟩,⟨rN HO869⟩,⟨kN BK865⟩,⟨bN HB⟩⟩
 case round =>
  clear H';clear c3b0 c3b1 c4b0 c4b1 hcz11_0 hcz7_0 hfz11_0 hfz7_0;obtain ⟨x3_1,x4_1,rfl,HA,HK1,HO_3,BK865,HB⟩ := hrel
  cases gk with
  | zero => exact absurd HA.out (by simp [Zw.l0])
  | succ k1 =>
   have H := HA.out;clear HA;simp only [Zw.l0] at H;replace H := iT H;obtain ⟨c13b0,H⟩|⟨c13b0,H⟩ := H
   ·obtain ⟨y871,hy871⟩ : ∃ y_ : List Int,y_ = (([] : List Int)) := ⟨_,rfl⟩;rw [← hy871] at H;have Ny871 := aK hy871;clear hy871;have H' := aK H;clear H
    go_wp2_with ((with_reducible refine wP ?_);first | (refine Kd.R_lit (Kd.int .i64) _ 2 ?hg (N := 17) ?hd (xs := ([] : List Int)) (inner := []) (ok := fun _ => True) (okp := fun _ => True) ?hr ?hp (fun _ hk => hk) trivial (Below.refl _ _) (Nat.le_refl _) (by simp) ?_;(case hd => rfl);(case hg => rfl);(case hr => first | (go_simp;done) | (go_simp;rfl));(case hp => exact (Reps.none _ _));intro v872 w14 ho15 hb hg_ hnew_;clear hg_ hnew_;(first | rw [← Ny871.out] at ho15 | (simp only [Int.reduceToNat] at ho15;rw [← Ny871.out] at ho15));have HO873 := rl (rn ho15 HO_3) HB;replace HO_3 := rL HO_3 (rb ho15) hb;replace BK865 := kB BK865 hb;replace HB := hB HB hb;clear hb ho15))
    go_loopg [5,6] k1 (fun kq v5 v6 w' => ∃ (x5_2 : List Int) (x6_2 : Int),v6 = .int .i64 x6_2 ∧ Aside0 (Zw.l1 kq x3_1 x4_1 x5_2 x6_2 l0_0 = some r) ∧ Aside0 (kq ≤ k1) ∧ Aside0 (Kd.R (Kd.int .i64) 2 w' w.heap.size (fun k_ => some k_ ≠ (v5 : Value).ownBlock) v868 x3_1) ∧ Aside0 (Kd.R (Kd.int .i64) 2 w' w.heap.size (fun k_ => some k_ ≠ (v868 : Value).ownBlock) v5 x5_2) ∧ Aside0 (w'.heap[gb865]? = some (.cells #[(.slice A0_0 l0_0.length c0_0)] 26 (0,0))) ∧ Aside0 (Below w.heap.size w w'))
    case atStart => exact ⟨(y871),(0),rD,H',⟨Nat.le_refl _⟩,rW HO_3,rW HO873,⟨kN BK865⟩,⟨bN HB⟩⟩
    case round =>
     clear H';clear c13b0;obtain ⟨x5_2,x6_2,rfl,HA,HK2,HO_3,HO_5,BK865,HB⟩ := hrel
     cases gk with
     | zero => exact absurd HA.out (by simp [Zw.l1])
     | succ k2 =>
      have H := HA.out;clear HA;simp only [Zw.l1] at H;replace H := iP H;obtain ⟨c16b0,H⟩ := H;replace H := iP H;obtain ⟨c17b0,H⟩ := H;replace H := iT H;obtain ⟨c18b0,H⟩|⟨c18b0,H⟩ := H
      ·replace H := iP H;obtain ⟨c19b0,H⟩ := H;replace H := iP H;obtain ⟨c20b0,H⟩ := H;replace H := iP H;obtain ⟨c21b0,H⟩ := H;replace H := iA H;obtain ⟨LMc22,H⟩ := H;obtain ⟨y878,hy878⟩ : ∃ y_ : List Int,y_ = (x5_2 ++ [rd x3_1 (rd (rd_L2 l0_0 x4_1) x6_2)]) := ⟨_,rfl⟩;rw [← hy878] at H;have Ny878 := aK hy878;clear hy878;have H' := aK H;clear H;have hcz23_0 := z0 BK865;have hfz23_0 := fZ BK865 0;obtain ⟨ad874,A874_0,c874_0,rfl,-,hx874_0,HR874_0,HC874_0,p874,q874⟩ := aL HR0_0.out HB x4_1;obtain ⟨ad875,A875_0,c875_0,e875,-,hx875_0,HR875_0,HC875_0,p875,q875⟩ := aL HR0_0.out HB x4_1;obtain rfl := iJ e875;have ea_ := Option.some.inj (hx874_0.symm.trans hx875_0);injection ea_ with ea_ en_ ec_
       subst ea_;subst ec_;clear en_;obtain ⟨ad876,rfl,-,hx876_0,p876,q876⟩ := aI HR875_0.out HB x6_2;obtain ⟨Ao24,co24,eo24⟩ := Kd.R_slice HO_3.out;subst eo24;obtain ⟨ad877,rfl,hx877_0,p877,q877⟩ := aJ (rr HO_3) (rd (rd_L2 l0_0 x4_1) x6_2)
       go_wp2_with (first | ((with_reducible refine gate_builtin (b := .append) (xs := #[.tmp 28,.tmp 40]) rfl ?_);at_builtin;refine Kd.R_append (Kd.int .i64) (w0 := w) w.heap.size rfl (.tmp 28) (.tmp 40) 29 2 (.int .i64 0) 8 rfl Try.underlying29 info2 rfl (by decide) (by omega) u5 x5_2 (rd x3_1 (rd (rd_L2 l0_0 x4_1) x6_2)) [.int .i64 (rd x3_1 (rd (rd_L2 l0_0 x4_1) x6_2))] (fun k_ => some k_ ≠ (.slice (some ad877) x3_1.length co24 : Value).ownBlock) (fun _ => False) rfl rfl ?aP (fun _ hk => hk.elim) ?aF ?aO ?aB ?aS ?aL ?_;(case aP => exact rfl);(case aB => exact (bN HB));(case aF => exact (fun k_ hk => Kd.fresh' (rt HO_3) k_ hk));(case aO => exact (rN HO_5));(case aS => exact (below_size (bN HB)));(case aL => have := LMc22.out;omega);intro v879 w25 ho hb hg hat;rw [← Ny878.out] at ho;replace HO_3 := aK (Kd.R_after (ok := (fun _ => True)) (rM (Kd.R_mono HO_3.out (fun _ hk => ⟨trivial,hk⟩))) hg hat);replace BK865 := aK (blk_grown (g := gb865) (o := .cells #[.slice (some ad874) l0_0.length c0_0] 26 (0,0)) (kN BK865) hg (Kd.R_ne HO_5.out BK865.out (by decide)));replace HB := aK (hb);have HO880 := aK (ho);clear HO_5;clear ho hb hg hat))
       go_roundg k2
       case measure => have := HK1.out;have := HK2.out;omega
       case rel => exact ⟨(y878),(wrap64 (x6_2 + 1)),rD,H',o2 HK1 HK2,rW HO_3,⟨rN HO880⟩,⟨kN BK865⟩,⟨bN HB⟩⟩
      ·replace H := bE H;obtain ⟨t881,A26,H⟩ := H;replace H := iP H;obtain ⟨c27b0,H⟩ := H;obtain ⟨y882,hy882⟩ : ∃ y_ : List Int,y_ = (x3_1.set (x4_1 : Int).toNat t881) := ⟨_,rfl⟩;rw [← hy882] at H;have Ny882 := aK hy882;clear hy882;have H' := aK H;clear H;have hcz29_0 := z0 BK865;have hfz29_0 := fZ BK865 0;obtain ⟨ad874,A874_0,c874_0,rfl,-,hx874_0,HR874_0,HC874_0,p874,q874⟩ := aL HR0_0.out HB x4_1;obtain ⟨Ao30,co30,eo30⟩ := Kd.R_slice HO_5.out;subst eo30
       go_wp2_with (first | ((with_reducible refine wP ?_);refine gT 45 Try.func82 (ZH.calls k2 _ _ x5_2 t881 _ (cR HO_5) (rq HO_5) A26.out) ?_;intro w31 hb;replace HO_3 := rB HO_3 hb;replace HO_5 := rB HO_5 hb;replace BK865 := kB BK865 hb;replace HB := hB HB hb;clear hb;have p28 : 0 ≤ (x4_1 : Int) := of_decide_eq_true (by first | (with_reducible assumption) | assumption);have q28 : (x4_1 : Int) < ((x3_1.length : Int) : Int) := of_decide_eq_true (by first | (with_reducible assumption) | assumption);obtain ⟨go28,co28,eo28,gb28,gl28,cl28,HG28⟩ := Kd.R_form HO_3.out (by omega);(first | cases eo28 | (injection eo28 with ea_ en_ ec_;(first | subst ea_ | (injection ea_ with ea_;subst ea_));subst ec_;clear en_));have GB28 := aK gb28;have GG28 := aK HG28;clear gb28 gl28 HG28;obtain ⟨hx28_0,hf28_0⟩ := Kd.R_celln 0 HO_3.out (x4_1 : Int) p28 q28;replace p28 := eq_true p28;replace q28 := eq_true q28;obtain ⟨hy32_,hz32_⟩ := Kd.R_celln 0 HO_3.out (x4_1 : Int) (of_decide_eq_true (by first | (with_reducible assumption) | assumption)) (of_decide_eq_true (by first | (with_reducible assumption) | assumption));have HP32 := Kd.R_putg HO_3.out (x4_1 : Int) t881) | ((with_reducible refine gate_store (t := 2) (p := 46) rfl ?_);refine store_event (t := 2) (p := 46) (v := ?vo_w33) (w1 := (w31.setCell ⟨go28,(x4_1 : Int).toNat,none⟩ (.int .i64 t881))) ?hg ?ho ?hn ?hr ?_;(case ho => rfl);(case hg => rfl);(case hn => rfl);(case hr => first | (go_simp;done) | (go_simp;rfl));intro w33 hw;have hg : w31.grownBy w33 (some go28) := (by rw [hw];exact HP32.2);have hp_ : Kd.R (Kd.int .i64) 2 w33 w.heap.size (fun k_ => some k_ ≠ (.slice Ao30 x5_2.length co30 : Value).ownBlock) (.slice (some ⟨go28,0,none⟩) x3_1.length co28) y882 := (by rw [hw,Ny882.out];exact HP32.1);clear HP32;replace HO_5 := aK (Kd.R_after (v := (.slice (some ⟨go28,0,none⟩) x3_1.length co28)) (v1 := (.slice (some ⟨go28,0,none⟩) x3_1.length co28)) (ok := (fun _ => True)) (rM (Kd.R_mono HO_5.out (fun _ hk => ⟨trivial,hk⟩))) hg (.inl rfl));replace BK865 := aK (blk_grown (g := gb865) (o := .cells #[.slice (some ad874) l0_0.length c0_0] 26 (0,0)) (kN BK865) hg (Kd.R_ne HO_3.out BK865.out (by decide)));replace HO_3 := aK (hp_);replace HB := aK ((by rw [hw];exact below_set (HB.out) GB28.out : Below w.heap.size w w33));clear hg hw hp_))
       go_roundg k2
       case measure => have := HK1.out;have := HK2.out;omega
       case rel => exact ⟨(y882),(wrap64 (x4_1 - 1)),rD,H',o2 HK1 HK2,rW HO_3,⟨kN BK865⟩,⟨bN HB⟩⟩
   ·obtain rfl := Option.some.inj H;go_wp2;go_ret;exact ⟨_,eR ⟨by (with_reducible repeat (first | apply Kd.R_alloc | apply Kd.R_drewN | apply Kd.R_drew));exact HO_3.out,(bN HB)⟩⟩
mutual
def Zc.j0 : Nat → Int → Int → Bool → List (List Int) → List (List Int) → Option (Bool × Int)
 | 0,_,_,_,_,_ => none
 | k + 1,x1,x3,x10,xqC,xqD => if x10 = true then (some (false,1)) else ((Zq.f xqC).bind fun t887 => ((Zac.f x1 0 (wrap64 (t887 - 1))).bind fun t888 => (if t888 = true then ((Zq.f xqD).bind fun t889 => ((Zac.f x3 0 (wrap64 (t889 - 1))).bind fun t890 => (Zc.j1 k x1 x3 (!t890) xqC xqD))) else (Zc.j1 k x1 x3 true xqC xqD))))
def Zc.j1 : Nat → Int → Int → Bool → List (List Int) → List (List Int) → Option (Bool × Int)
 | 0,_,_,_,_,_ => none
 | k + 1,x1,x3,x19,xqC,xqD => if x19 = true then (some (false,2)) else ((Zw.f k xqC).bind fun t891 => (if 0 ≤ x1 then (if x1 < (t891.length : Int) then ((Zw.f k xqD).bind fun t895 => (if 0 ≤ x3 then (if x3 < (t895.length : Int) then (some (((rd t891 x1) == (rd t895 x3)),0)) else (none)) else (none))) else (none)) else (none)))
end
def Zc.f (k : Nat) (l0_0 : List (List Int)) (a1 : Int) (l2_0 : List (List Int)) (a3 : Int) : Option (Bool × Int) := (Zp.f k l0_0).bind fun t885 => (if t885 = true then ((Zp.f k l2_0).bind fun t886 => (Zc.j0 k a1 a3 (!t886) l0_0 l2_0)) else (Zc.j0 k a1 a3 true l0_0 l2_0))
theorem Zc.mono_l : ∀ k, (∀ y0 y1 y2 y3 y4, LeO (Zc.j0 k y0 y1 y2 y3 y4) (Zc.j0 (k + 1) y0 y1 y2 y3 y4)) ∧ (∀ y0 y1 y2 y3 y4, LeO (Zc.j1 k y0 y1 y2 y3 y4) (Zc.j1 (k + 1) y0 y1 y2 y3 y4))
 | 0 => ⟨fun _ _ _ _ _ r h => by simp [Zc.j0] at h,fun _ _ _ _ _ r h => by simp [Zc.j1] at h⟩
 | k + 1 => by
  obtain ⟨ih0,ih1⟩ := Zc.mono_l k;refine ⟨?_,?_⟩ <;> (intros;first | unfold Zc.j0 | unfold Zc.j1)
  all_goals have m0 := Zw.mono;have m1 := Zp.mono;exact lO
theorem Zc.mono : ∀ a0 a1 a2 a3 k, LeO (Zc.f k a0 a1 a2 a3) (Zc.f (k + 1) a0 a1 a2 a3) := by
 intro a0 a1 a2 a3 k;obtain ⟨ih0,ih1⟩ := Zc.mono_l k;unfold Zc.f;have m0 := Zw.mono;have m1 := Zp.mono;exact lO
def Zc.T5 : Bool × List (List Nat × List Nat) := (true, [([], []), ([0], [0]), ([], []), ([1, 2], [1, 2]), ([3], [3]), ([], []), ([5, 1], [5]), ([], []), ([6, 7], [6, 7]), ([8], [8]), ([4, 9], [4, 9]), ([10, 6, 0, 1, 2, 3, 4, 5, 6, 7, 8, 9, 10], [10]), ([11, 0, 1, 2, 3, 4, 5, 6, 7, 8, 9, 10, 11], [])])
def Zc.B5 : List Nat := [0, 1, 0, 7, 15, 0, 35, 0, 227, 483, 1023, 2047, 4095]
theorem Zc.tab5 : rtab .any (opsOf Try.f31 5) = Zc.T5 := by kernel_rfl
theorem Zc.bits5 : waitsOk Zc.T5.2 Zc.B5 = true := by kernel_rfl
theorem Zc.calls (k : Nat) (A0_0 : Option Addr) (c0_0 : Nat) (l0_0 : List (List Int)) (a1 : Int) (A2_0 : Option Addr) (c2_0 : Nat) (l2_0 : List (List Int)) (a3 : Int) (r1 : Bool) (r2 : Int) (w : World) (hr0_0 : Kd.C (Kd.slice 2 (Kd.int .i64)) w A0_0 l0_0.length l0_0) (hc0_0 : l0_0.length ≤ c0_0) (hr2_0 : Kd.C (Kd.slice 2 (Kd.int .i64)) w A2_0 l2_0.length l2_0) (hc2_0 : l2_0.length ≤ c2_0) (h : Zc.f k l0_0 a1 l2_0 a3 = some (r1, r2)) :
 Calls Try.prog 31 #[.agg #[.slice A0_0 l0_0.length c0_0],.int .i64 a1,.agg #[.slice A2_0 l2_0.length c2_0],.int .i64 a3] w fun e w' => e = .returned (.tuple #[.bool r1,.int .i64 r2]) ∧ Below w.heap.size w w' := by
 have hu26 := Try.underlying26;have HR0_0 := aK hr0_0;have HC0_0 := aK hc0_0;clear hr0_0 hc0_0;have HR2_0 := aK hr2_0;have HC2_0 := aK hc2_0;clear hr2_0 hc2_0;have HB := aK (Below.refl w.heap.size w);have H := h;clear h;unfold Zc.f at H;have HC5 := aK H;clear H;go_enter Try.func31,Try.ntmps31
 go_upto_region 1 with ((with_reducible refine wP ?_);first | (refine boxE 4 #[.slice A0_0 l0_0.length c0_0] 26 ?_;intro gb883 hg w6 hbox hb;have BK883 := aK (hbox);have GW883 := aK (zG HB hg);have GE883 := aK (zG HB hg);replace HB := hB HB hb;clear hb hbox hg) | (refine boxE 6 #[.slice A2_0 l2_0.length c2_0] 26 ?_;intro gb884 hg w7 hbox hb;have BK884 := aK (hbox);have GW884 := aK (zG HB hg);have GE884 := aK (zG HB hg);replace HB := hB HB hb;obtain ⟨NB883_884,NB884_883⟩ := nG hg BK883;replace BK883 := kB BK883 hb;clear hb hbox hg))
 (try simp only [Act.put,List.setIfInBounds_toArray,List.set_cons_zero,List.set_cons_succ])
 go_cut [10] (fun v10 wc => ∃ (kq : Nat) (x10_4 : Bool),v10 = .bool x10_4 ∧ Aside0 (Zc.j0 kq a1 a3 x10_4 l0_0 l2_0 = some (r1,r2)) ∧ Aside0 (kq ≤ k) ∧ Aside0 (wc.heap[gb883]? = some (.cells #[(.slice A0_0 l0_0.length c0_0)] 26 (0,0))) ∧ Aside0 (wc.heap[gb884]? = some (.cells #[(.slice A2_0 l2_0.length c2_0)] 26 (0,0))) ∧ Aside0 (Below w.heap.size w wc))
 case first =>
  have H := HC5.out;clear HC5;replace H := bE H;obtain ⟨t885,A8,H⟩ := H;replace H := iB H;obtain ⟨rfl,H⟩|⟨rfl,H⟩ := H
  ·replace H := bE H;obtain ⟨t886,A10,H⟩ := H;have H' := aK H;clear H;have hnb11 := NB883_884.out;have hnc11 := NB884_883.out;have hcz12_0 := z0 BK883;have hfz12_0 := fZ BK883 0
   go_wp2_with (first | ((with_reducible refine wP ?_);refine gT 12 Try.func58 (Zp.calls k _ _ l0_0 true _ (cB HR0_0 HB) HC0_0.out A8.out) ?_;intro w13 hb;replace BK883 := kB BK883 hb;replace BK884 := kB BK884 hb;replace HB := hB HB hb;clear hb;have hcz14_0 := z0 BK884;have hfz14_0 := fZ BK884 0) | (go_at_call 58;refine cA (Zp.calls k _ _ l2_0 t886 _ (cB HR2_0 HB) HC2_0.out A10.out) ?_;rintro e w15 ⟨rfl,hb⟩;replace BK883 := kB BK883 hb;replace BK884 := kB BK884 hb;replace HB := hB HB hb;clear hb))
   go_meet
   case rel => exact ⟨_,(!t886),rD,H',⟨by first | omega | exact Nat.le_refl _⟩,⟨kN BK883⟩,⟨kN BK884⟩,⟨bN HB⟩⟩
  ·have H' := aK H;clear H;have hnb16 := NB883_884.out;have hnc16 := NB884_883.out;have hcz17_0 := z0 BK883;have hfz17_0 := fZ BK883 0
   go_wp2_with ((with_reducible refine wP ?_);first | (refine gT 12 Try.func58 (Zp.calls k _ _ l0_0 false _ (cB HR0_0 HB) HC0_0.out A8.out) ?_;intro w18 hb;replace BK883 := kB BK883 hb;replace BK884 := kB BK884 hb;replace HB := hB HB hb;clear hb))
   go_meet
   case rel => exact ⟨_,(true),rD,H',⟨by first | omega | exact Nat.le_refl _⟩,⟨kN BK883⟩,⟨kN BK884⟩,⟨bN HB⟩⟩
 case rest =>
  clear HC5;obtain ⟨kq,x10_4,rfl,HA,HJ4,BK883,BK884,HB⟩ := hcut
  cases kq with
  | zero => exact absurd HA.out (by simp [Zc.j0])
  | succ kj4 =>
   have H := HA.out;clear HA;simp only [Zc.j0] at H;replace H := iB H;obtain ⟨rfl,H⟩|⟨rfl,H⟩ := H
   ·simp only [Option.some.injEq,Prod.mk.injEq] at H;obtain ⟨rfl,rfl⟩ := H;go_wp2;go_ret2;exact eR (bN HB)
   ·have HC20 := aK H;clear H
    go_upto_region 3 with (fail)
    go_cut [19] (fun v19 wc => ∃ (kq : Nat) (x19_19 : Bool),v19 = .bool x19_19 ∧ Aside0 (Zc.j1 kq a1 a3 x19_19 l0_0 l2_0 = some (r1,r2)) ∧ Aside0 (kq ≤ kj4) ∧ Aside0 (wc.heap[gb883]? = some (.cells #[(.slice A0_0 l0_0.length c0_0)] 26 (0,0))) ∧ Aside0 (wc.heap[gb884]? = some (.cells #[(.slice A2_0 l2_0.length c2_0)] 26 (0,0))) ∧ Aside0 (Below w.heap.size w wc))
    case first =>
     have H := HC20.out;clear HC20;replace H := bE H;obtain ⟨t887,A21,H⟩ := H;replace H := bE H;obtain ⟨t888,A22,H⟩ := H;replace H := iB H;obtain ⟨rfl,H⟩|⟨rfl,H⟩ := H
     ·replace H := bE H;obtain ⟨t889,A24,H⟩ := H;replace H := bE H;obtain ⟨t890,A25,H⟩ := H;have H' := aK H;clear H;have hnb26 := NB883_884.out;have hnc26 := NB884_883.out;have hcz27_0 := z0 BK883;have hfz27_0 := fZ BK883 0
      go_wp2_with (first | ((with_reducible refine wP ?_);refine gT 22 Try.func43 (Zq.calls _ _ l0_0 t887 _ (cB HR0_0 HB) HC0_0.out A21.out) ?_;intro w28 hb;replace BK883 := kB BK883 hb;replace BK884 := kB BK884 hb;replace HB := hB HB hb;clear hb) | ((with_reducible refine wP ?_);refine gT 24 Try.func66 (Zac.calls a1 0 (wrap64 (t887 - 1)) true _ A22.out) ?_;rintro w' ⟨nd,rfl⟩;have hcz29_0 := z0 BK884;have hfz29_0 := fZ BK884 0) | (go_at_call 43;refine cA (Zq.calls _ _ l2_0 t889 _ (cM ((Kd.C_below HR2_0.out (bN HB)))) HC2_0.out A24.out) ?_;rintro e w30 ⟨rfl,hb⟩;replace BK883 := kB BK883 hb;replace BK884 := kB BK884 hb;replace HB := hB HB hb;clear hb) | (go_at_call 66;refine cA (Zac.calls a3 0 (wrap64 (t889 - 1)) t890 _ A25.out) ?_;rintro e w' ⟨rfl,⟨nd,rfl⟩⟩))
      go_meet
      case rel => exact ⟨_,(!t890),rD,H',o1 HJ4,⟨kN BK883⟩,⟨kN BK884⟩,⟨bN HB⟩⟩
     ·have H' := aK H;clear H;have hnb31 := NB883_884.out;have hnc31 := NB884_883.out;have hcz32_0 := z0 BK883;have hfz32_0 := fZ BK883 0
      go_wp2_with ((with_reducible refine wP ?_);first | (refine gT 22 Try.func43 (Zq.calls _ _ l0_0 t887 _ (cB HR0_0 HB) HC0_0.out A21.out) ?_;intro w33 hb;replace BK883 := kB BK883 hb;replace BK884 := kB BK884 hb;replace HB := hB HB hb;clear hb) | (refine gT 24 Try.func66 (Zac.calls a1 0 (wrap64 (t887 - 1)) false _ A22.out) ?_;rintro w' ⟨nd,rfl⟩))
      go_meet
      case rel => exact ⟨_,(true),rD,H',o1 HJ4,⟨kN BK883⟩,⟨kN BK884⟩,⟨bN HB⟩⟩
    case rest =>
     clear HC20;obtain ⟨kq,x19_19,rfl,HA,HJ19,BK883,BK884,HB⟩ := hcut
     cases kq with
     | zero => exact absurd HA.out (by simp [Zc.j1])
     | succ kj19 =>
      have H := HA.out;clear HA;simp only [Zc.j1] at H;replace H := iB H;obtain ⟨rfl,H⟩|⟨rfl,H⟩ := H
      ·simp only [Option.some.injEq,Prod.mk.injEq] at H;obtain ⟨rfl,rfl⟩ := H;go_wp2;go_ret2;exact eR (bN HB)
      ·replace H := bE H;obtain ⟨t891,A35,H⟩ := H;replace H := iP H;obtain ⟨c36b0,H⟩ := H;replace H := iP H;obtain ⟨c37b0,H⟩ := H;replace H := bE H;obtain ⟨t895,A38,H⟩ := H;replace H := iP H;obtain ⟨c39b0,H⟩ := H;replace H := iP H;obtain ⟨c40b0,H⟩ := H;simp only [Option.some.injEq,Prod.mk.injEq] at H;obtain ⟨rfl,rfl⟩ := H
       try go_wp2
       replace BK883 := dK BK883;replace BK884 := dK BK884;replace HB := dH HB;refine start_ (n := 13) (S := fun w' => w'.cell? ⟨gb883,0,none⟩ = some (.slice A0_0 l0_0.length c0_0) ∧ w'.cell? ⟨gb884,0,none⟩ = some (.slice A2_0 l2_0.length c2_0)) (ds := []) #[false,false,false,false,false,false,false,false,false,false,false,false,false] (by kernel_rfl) rfl rfl ⟨(blk_cell BK883.out 0).trans rfl,(blk_cell BK884.out 0).trans rfl⟩ (fun hHeld => ?_);refine with_tabW Zc.tab5 Zc.bits5 (fun HT_ HW_ => ?_)
       generalize wc.drew = w41 at BK883 BK884 HB hHeld ⊢
       refine pT HT_ 2 (some 36) ?_;refine pT HT_ 7 (some 41) ?_;refine tT HT_ HW_ hHeld 0 (some 34) ?_;refine tT HT_ HW_ hHeld 5 (some 39) ?_;refine oT HT_ 1 (some 35) (fun K hK => ?_);refine gO Try.func73 #[.agg #[.slice A0_0 l0_0.length c0_0]] ?_
       with_reducible refine (Zw.calls kj19 _ _ l0_0 t891 _ ?side1 ?side2 A35.out).mono ?_
       (case side1 => exact cB HR0_0 HB)
       (case side2 => exact HC0_0.out)
       rintro e w42 ⟨v892,rfl,ho0,hb⟩;refine ⟨_,rfl,?_⟩;have HO893 := rl ho0 HB;replace BK883 := kB BK883 hb;replace BK884 := kB BK884 hb;replace HB := hB HB hb;clear hb ho0;obtain ⟨Ao43,co43,eo43⟩ := Kd.R_slice HO893.out;(first | subst eo43 | (injection eo43 with f1_ f2_ f3_;have f4_ := f1_.symm;have f5_ := f3_.symm;clear f1_ f2_ f3_;subst f4_;subst f5_));obtain ⟨ad894,rfl,hx894_0,p894,q894⟩ := aJ (rr HO893) a1;refine hK.out _ _ ⟨(blk_cell BK883.out 0).trans rfl,(blk_cell BK884.out 0).trans rfl⟩ (fun hHeld => ?_);clear hK K;refine nT 35 ?_;refine pT HT_ 3 (some 37) ?_;refine two_ (i := 4) (j := 6) (Ni := some 38) (Nj := some 40) #[true,true,true,true,true,true,false,true,false,false,false,false,false] #[true,true,true,true,false,true,true,true,false,false,false,false,false] rfl rfl rfl rfl (by kernel_rfl) (by decide) (by decide) (fun K hK => ?_) (fun K hK => ?_)
       ·refine value_ (w1 := ?_) (v := ?_) (by rfl) rfl ?_ ?_;rotate_left 2
        ·go_simp
         constructor
         ·rfl
         ·rfl
        refine hK.out _ _ ⟨(blk_cell BK883.out 0).trans rfl,(blk_cell BK884.out 0).trans rfl⟩ (fun hHeld => ?_);clear hK K;refine nT 38 ?_;refine oT HT_ 6 (some 40) (fun K hK => ?_);refine gO Try.func73 #[.agg #[.slice A2_0 l2_0.length c2_0]] ?_
        with_reducible refine (Zw.calls kj19 _ _ l2_0 t895 _ ?side1 ?side2 A38.out).mono ?_
        (case side1 => exact cB HR2_0 HB)
        (case side2 => exact HC2_0.out)
        rintro e w44 ⟨v896,rfl,ho0,hb⟩;have hx894_0 := (hb.cell (World.block_lt_of_cell? _ _ hx894_0)).trans hx894_0;refine ⟨_,rfl,?_⟩;have HO897 := rl (rn ho0 HO893) HB;replace HO893 := rL HO893 (rb ho0) hb;replace BK883 := kB BK883 hb;replace BK884 := kB BK884 hb;replace HB := hB HB hb;clear hb ho0;obtain ⟨Ao45,co45,eo45⟩ := Kd.R_slice HO897.out;(first | subst eo45 | (injection eo45 with f1_ f2_ f3_;have f4_ := f1_.symm;have f5_ := f3_.symm;clear f1_ f2_ f3_;subst f4_;subst f5_));obtain ⟨ad898,rfl,hx898_0,p898,q898⟩ := aJ (rr HO897) a3;refine hK.out _ _ ⟨(blk_cell BK883.out 0).trans rfl,(blk_cell BK884.out 0).trans rfl⟩ (fun hHeld => ?_);clear hK K;refine nT 40 ?_;refine pT HT_ 8 (some 42) ?_;refine oT HT_ 9 (some 43) (fun K hK => ?_);refine value_ (w1 := ?_) (v := ?_) (by rfl) rfl ?_ ?_;rotate_left 2
        ·go_simp
         constructor
         ·rfl
         ·rfl
        refine hK.out _ _ ⟨(blk_cell BK883.out 0).trans rfl,(blk_cell BK884.out 0).trans rfl⟩ (fun hHeld => ?_);clear hK K;refine nT 43 ?_;refine pT HT_ 10 (some 44) ?_;refine pT HT_ 11 (some 8) ?_;refine pT HT_ 12 (some 9) ?_;refine done_ (done_of HT_.out (by kernel_rfl)) ?_
        try go_wp2
        go_ret2;exact eR (bN HB)
       ·refine gO Try.func73 #[.agg #[.slice A2_0 l2_0.length c2_0]] ?_
        with_reducible refine (Zw.calls kj19 _ _ l2_0 t895 _ ?side1 ?side2 A38.out).mono ?_
        (case side1 => exact cB HR2_0 HB)
        (case side2 => exact HC2_0.out)
        rintro e w44 ⟨v896,rfl,ho0,hb⟩;have hx894_0 := (hb.cell (World.block_lt_of_cell? _ _ hx894_0)).trans hx894_0;refine ⟨_,rfl,?_⟩;have HO897 := rl (rn ho0 HO893) HB;replace HO893 := rL HO893 (rb ho0) hb;replace BK883 := kB BK883 hb;replace BK884 := kB BK884 hb;replace HB := hB HB hb;clear hb ho0;obtain ⟨Ao45,co45,eo45⟩ := Kd.R_slice HO897.out;(first | subst eo45 | (injection eo45 with f1_ f2_ f3_;have f4_ := f1_.symm;have f5_ := f3_.symm;clear f1_ f2_ f3_;subst f4_;subst f5_));obtain ⟨ad898,rfl,hx898_0,p898,q898⟩ := aJ (rr HO897) a3;refine hK.out _ _ ⟨(blk_cell BK883.out 0).trans rfl,(blk_cell BK884.out 0).trans rfl⟩ (fun hHeld => ?_);clear hK K;refine nT 40 ?_;refine pT HT_ 8 (some 42) ?_;refine two_ (i := 4) (j := 9) (Ni := some 38) (Nj := some 43) #[true,true,true,true,true,true,true,true,true,false,false,false,false] #[true,true,true,true,false,true,true,true,true,true,false,false,false] rfl rfl rfl rfl (by kernel_rfl) (by decide) (by decide) (fun K hK => ?_) (fun K hK => ?_)
        ·refine value_ (w1 := ?_) (v := ?_) (by rfl) rfl ?_ ?_;rotate_left 2
         ·go_simp
          constructor
          ·rfl
          ·rfl
         refine hK.out _ _ ⟨(blk_cell BK883.out 0).trans rfl,(blk_cell BK884.out 0).trans rfl⟩ (fun hHeld => ?_);clear hK K;refine nT 38 ?_;refine oT HT_ 9 (some 43) (fun K hK => ?_);refine value_ (w1 := ?_) (v := ?_) (by rfl) rfl ?_ ?_;rotate_left 2
         ·go_simp
          constructor
          ·rfl
          ·rfl
         refine hK.out _ _ ⟨(blk_cell BK883.out 0).trans rfl,(blk_cell BK884.out 0).trans rfl⟩ (fun hHeld => ?_);clear hK K;refine nT 43 ?_;refine pT HT_ 10 (some 44) ?_;refine pT HT_ 11 (some 8) ?_;refine pT HT_ 12 (some 9) ?_;refine done_ (done_of HT_.out (by kernel_rfl)) ?_
         try go_wp2
         go_ret2;exact eR (bN HB)
        ·refine value_ (w1 := ?_) (v := ?_) (by rfl) rfl ?_ ?_;rotate_left 2
         ·go_simp
          constructor
          ·rfl
          ·rfl
         refine hK.out _ _ ⟨(blk_cell BK883.out 0).trans rfl,(blk_cell BK884.out 0).trans rfl⟩ (fun hHeld => ?_);clear hK K;refine nT 43 ?_;refine oT HT_ 4 (some 38) (fun K hK => ?_);refine value_ (w1 := ?_) (v := ?_) (by rfl) rfl ?_ ?_;rotate_left 2
         ·go_simp
          constructor
          ·rfl
          ·rfl
         refine hK.out _ _ ⟨(blk_cell BK883.out 0).trans rfl,(blk_cell BK884.out 0).trans rfl⟩ (fun hHeld => ?_);clear hK K;refine nT 38 ?_;refine pT HT_ 10 (some 44) ?_;refine pT HT_ 11 (some 8) ?_;refine pT HT_ 12 (some 9) ?_;refine done_ (done_of HT_.out (by kernel_rfl)) ?_
         try go_wp2
         go_ret2;exact eR (bN HB)
section
variable {σ : Type} (V : σ → Int → Option (Bool × σ))
def chosenS.l0 : Nat → σ → List Int → Int → Int → Option (List Int)
 | 0,_,_,_,_ => none
 | k + 1,s,x5,x8,x9 => if x9 < x8 then ((V s x9).bind fun t => (if t.1 = true then (if x5.length < 17592186044416 then (chosenS.l0 k t.2 (x5 ++ [x9]) x8 (wrap64 (x9 + 1))) else (none)) else (chosenS.l0 k t.2 x5 x8 (wrap64 (x9 + 1))))) else (some x5)
def chosenS.f (k : Nat) (s : σ) (a0 : Int) : Option (List Int) := chosenS.l0 V k s [] a0 0
end
theorem chosenS.mono_l {σ : Type} (V : σ → Int → Option (Bool × σ)) : ∀ k s x5 x8 x9, LeO (chosenS.l0 V k s x5 x8 x9) (chosenS.l0 V (k + 1) s x5 x8 x9)
 | 0,_,_,_,_ => fun r h => by simp [chosenS.l0] at h
 | k + 1,s,x5,x8,x9 => by
  unfold chosenS.l0;refine LeO.ite (LeO.bind (LeO.refl _) fun t => LeO.ite (LeO.ite (chosenS.mono_l V k _ _ _ _) (LeO.none _)) (chosenS.mono_l V k _ _ _ _)) (LeO.refl _)
theorem chosenS.mono {σ : Type} (V : σ → Int → Option (Bool × σ)) (s : σ) (a0 : Int) (k : Nat) : LeO (chosenS.f V k s a0) (chosenS.f V (k + 1) s a0) := chosenS.mono_l V k s [] a0 0
theorem chosenS.calls {σ : Type} (V : σ → Int → Option (Bool × σ)) (St : σ → World → Prop) (cf : FuncId) (cap : Array Value) (hF : HasFn cf) (B0 bm : Nat) (k : Nat) (s : σ) (a0 : Int) (r : List Int) (w : World)
 (hb0 : B0 ≤ bm) (hbm : bm < w.heap.size)
 (hV : ∀ (s : σ) (x : Int) (t : Bool × σ) (w1 : World),St s w1 → V s x = some t → Calls Try.prog cf (#[.int .i64 x] ++ cap) w1 fun e w' => e = .returned (.bool t.1) ∧ St t.2 w' ∧ w1.grownBy w' (some bm))
 (hS : ∀ (s : σ) (w1 w2 : World),w.heap.size ≤ w1.heap.size → St s w1 → Below w.heap.size w1 w2 → St s w2) (h0 : St s w) (h : chosenS.f V k s a0 = some r) :
 Calls Try.prog 40 #[.int .i64 a0,.func (.func cf) #[] cap] w fun e w' => ∃ v0_ : Value,e = .returned (v0_) ∧ Kd.R (Kd.int .i64) 2 w' w.heap.size (fun _ => True) v0_ r ∧ Below B0 w w' := by
 have HF := aK hF;have HV := aK hV;have HS := aK hS;have H0 := aK h0;have HB0 := aK hb0;have HBM := aK hbm;clear hF hV hS h0 hb0 hbm;have HB := aK (Below.refl w.heap.size w);have H' : Aside0 (chosenS.l0 V k s [] a0 0 = some r) := aK h;clear h;go_enter Try.func40,Try.ntmps40
 go_wp2_with ((with_reducible refine wP ?_);first | (refine Kd.R_lit (Kd.int .i64) _ 2 ?hg (N := 7) ?hd (xs := ([] : List Int)) (inner := []) (ok := fun _ => True) (okp := fun _ => True) ?hr ?hp (fun _ hk => hk) trivial (Below.refl _ _) (Nat.le_refl _) (by simp) ?_;(case hd => rfl);(case hg => rfl);(case hr => first | (go_simp;done) | (go_simp;rfl));(case hp => exact (Reps.none _ _));intro v162 w3 ho4 hb hg_ hnew_;clear hg_ hnew_;have HO163 := aK ho4;replace HB := aK (below_step HB.out hb);clear hb ho4))
 have HS3 := aK (HS.out s w w3 (Nat.le_refl _) H0.out HB.out);have HB3 := aK (HB.out.mono (Nat.le_trans HB0.out (Nat.le_of_lt HBM.out)))
 go_loopg [5,9] k (fun kq v5 v9 w' => ∃ (s1 : σ) (x5_1 : List Int) (x9_1 : Int),v9 = .int .i64 x9_1 ∧ Aside0 (chosenS.l0 V kq s1 x5_1 a0 x9_1 = some r) ∧ Aside0 (kq ≤ k) ∧ Aside0 (Kd.R (Kd.int .i64) 2 w' w.heap.size (fun _ => True) v5 x5_1) ∧ Aside0 (Below B0 w w') ∧ Aside0 (St s1 w'))
 case atStart => exact ⟨s,[],0,rfl,H',⟨Nat.le_refl _⟩,HO163,HB3,HS3⟩
 case round =>
  clear H' HB HB3 HS3;obtain ⟨s1,x5_1,x9_1,rfl,HA,HK1,HO_5,HB,HS1⟩ := hrel
  cases gk with
  | zero => exact absurd HA.out (by simp [chosenS.l0])
  | succ k1 =>
   have H := HA.out;clear HA;simp only [chosenS.l0] at H;replace H := iT H;obtain ⟨c5b0,H⟩|⟨c5b0,H⟩ := H
   ·replace H := bE H;obtain ⟨⟨t1,s2⟩,A6,H⟩ := H
    cases t1 with
    | true =>
     dsimp only at H;replace H := iA H;obtain ⟨LMc8,H⟩ := H;have H' := aK H;clear H
     go_wp2_with (first | ((with_reducible refine gate_dst (N := 14) rfl ?_);refine goesV_ (some 14) rfl rfl cf cap HF.out #[.int .i64 x9_1] rfl rfl (by (try simp only [List.map_toArray,List.map_cons,List.map_nil]);first | done | rfl | (simp only [List.length_drop,List.length_take];rfl)) ?_;(with_reducible refine (HV.out s1 x9_1 (true,s2) _ HS1.out A6.out).mono ?_);rintro e w4 ⟨rfl,hs,hg⟩;refine ⟨_,rfl,?_⟩;have HSZ := aK (Nat.le_trans HB.out.size hg.size);replace HB := aK (Below.grown HB.out hg (Nat.le_trans (Nat.le_trans HB0.out (Nat.le_of_lt HBM.out)) HB.out.size) (fun j hj => by cases hj;exact HB0.out));replace HO_5 := aK (Kd.R_mono (Kd.R_grown (Kd.R_bound HO_5.out) hg (fun j hj e => by cases e;have h1 := hj.2.1;have h2 := HBM.out;omega)) (fun _ hk => hk.1));replace HS1 := aK hs;clear hs hg) | ((with_reducible refine gate_builtin (b := .append) (xs := #[.tmp 15,.tmp 17]) rfl ?_);at_builtin;refine Kd.R_append (Kd.int .i64) (w0 := w4) w.heap.size rfl (.tmp 15) (.tmp 17) 29 2 (.int .i64 0) 8 rfl Try.underlying29 info2 rfl (by decide) (by omega) u5 x5_1 x9_1 [.int .i64 x9_1] (fun _ => True) (fun _ => False) rfl rfl ?aP (fun _ hk => hk.elim) ?aF ?aO ?aB ?aS ?aL ?_;(case aP => exact rfl);(case aB => exact (by repeat (first | (with_reducible first | exact Below.refl _ _ | refine Below.alloc ?_ HSZ.out _ | apply pw_below_drewN | apply below_drew) | exact Below.refl _ _)));(case aF => exact (fun _ _ => trivial));(case aO => exact (rN HO_5));(case aS => exact Nat.le_trans HSZ.out (by simp));(case aL => have := LMc8.out;omega);intro v166 w9 ho hb hg hat;replace HB := aK (HB.out.trans (hb.mono (Nat.le_trans HB0.out (Nat.le_of_lt HBM.out))));have HO167 := aK ho;replace HS1 := aK (HS.out _ _ _ HSZ.out HS1.out hb);clear HO_5;clear ho hb hg hat))
     go_roundg k1
     case measure => have := HK1.out;omega
     case rel => exact ⟨s2,(x5_1 ++ [x9_1]),(wrap64 (x9_1 + 1)),rD,H',o1 HK1,HO167,HB,HS1⟩
    | false =>
     dsimp only at H;have H' := aK H;clear H
     go_wp2_with (first | ((with_reducible refine gate_dst (N := 14) rfl ?_);refine goesV_ (some 14) rfl rfl cf cap HF.out #[.int .i64 x9_1] rfl rfl (by (try simp only [List.map_toArray,List.map_cons,List.map_nil]);first | done | rfl | (simp only [List.length_drop,List.length_take];rfl)) ?_;(with_reducible refine (HV.out s1 x9_1 (false,s2) _ HS1.out A6.out).mono ?_);rintro e w4 ⟨rfl,hs,hg⟩;refine ⟨_,rfl,?_⟩;have HSZ := aK (Nat.le_trans HB.out.size hg.size);replace HB := aK (Below.grown HB.out hg (Nat.le_trans (Nat.le_trans HB0.out (Nat.le_of_lt HBM.out)) HB.out.size) (fun j hj => by cases hj;exact HB0.out));replace HO_5 := aK (Kd.R_mono (Kd.R_grown (Kd.R_bound HO_5.out) hg (fun j hj e => by cases e;have h1 := hj.2.1;have h2 := HBM.out;omega)) (fun _ hk => hk.1));replace HS1 := aK hs;clear hs hg))
     go_roundg k1
     case measure => have := HK1.out;omega
     case rel => exact ⟨s2,x5_1,(wrap64 (x9_1 + 1)),rD,H',o1 HK1,⟨rN HO_5⟩,HB,HS1⟩
   ·obtain rfl := Option.some.inj H;go_wp2;go_ret;exact ⟨_,rfl,HO_5.out,HB.out⟩
theorem wrapS {i : Int} (h0 : -9223372036854775808 ≤ i) (h : i < 9223372036854775808) : wrap64 i = i := by
 unfold wrap64
 omega
theorem rd_nat (xs : List Int) (i : Nat) : rd xs (i : Int) = xs.getD i 0 := by unfold rd; rfl
theorem rdL2_nat (xs : List (List Int)) (i : Nat) : rd_L2 xs (i : Int) = xs.getD i [] := by unfold rd_L2; rfl
theorem getD_of {α : Type} {xs : List α} {i : Nat} {x d : α} (h : xs[i]? = some x) : xs.getD i d = x := by rw [List.getD_eq_getElem?_getD, h]; rfl
theorem drop_of {α : Type} {xs : List α} {i : Nat} {x : α} (h : xs[i]? = some x) : xs.drop i = x :: xs.drop (i + 1) := by
 obtain ⟨hl,e⟩ := List.getElem?_eq_some_iff.1 h
 rw [List.drop_eq_getElem_cons hl,e]
theorem get_some {α : Type} {xs : List α} {i : Nat} (h : i < xs.length) : ∃ x, xs[i]? = some x := ⟨xs[i], List.getElem?_eq_getElem h⟩
theorem cast_succ (i : Nat) : ((i : Int) + 1) = ((i + 1 : Nat) : Int) := by omega
section
variable (V : Int → Option Bool)
def Zad.l0 : Nat → List Int → Int → Int → Option (List Int)
 | 0,_,_,_ => none
 | k + 1,x5,x8,x9 => if x9 < x8 then ((V x9).bind fun t164 => (if t164 = true then (if x5.length < 17592186044416 then (Zad.l0 k (x5 ++ [x9]) x8 (wrap64 (x9 + 1))) else (none)) else (Zad.l0 k x5 x8 (wrap64 (x9 + 1))))) else (some x5)
def Zad.f (k : Nat) (a0 : Int) : Option (List Int) := Zad.l0 V k (([] : List Int)) a0 0
end
theorem Zad.mono_l (V : Int → Option Bool) : ∀ k, (∀ y0 y1 y2, LeO (Zad.l0 V k y0 y1 y2) (Zad.l0 V (k + 1) y0 y1 y2))
 | 0 => fun _ _ _ r h => by simp [Zad.l0] at h
 | k + 1 => by
  have ih0 := Zad.mono_l V k
  ·intro y0 y1 y2;unfold Zad.l0;exact lO
theorem Zad.mono (V : Int → Option Bool) : ∀ a0 k, LeO (Zad.f V k a0) (Zad.f V (k + 1) a0) := by
 intro a0 k;have ih0 := Zad.mono_l V k;unfold Zad.f;exact lO
theorem Zad.calls (V : Int → Option Bool) (cf : FuncId) (cap : Array Value) (hF : HasFn cf) (k : Nat) (a0 : Int) (r : List Int) (w : World) (hV : ∀ (x : Int) (r : Bool) (w1 : World), Below w.heap.size w w1 → V x = some r → Calls Try.prog cf (#[.int .i64 x] ++ cap) w1 fun e w' => e = .returned (.bool r) ∧ Drawn0 w1 w') (h : Zad.f V k a0 = some r) :
 Calls Try.prog 40 #[.int .i64 a0,.func (.func cf) #[] cap] w fun e w' => ∃ v0_ : Value,e = .returned (v0_) ∧ Kd.R (Kd.int .i64) 2 w' w.heap.size (fun _ => True) v0_ r ∧ Below w.heap.size w w' := by
 have HF := aK hF;have HV := aK hV;clear hF hV;have HB := aK (Below.refl w.heap.size w);have H := h;clear h;unfold Zad.f at H;obtain ⟨y161,hy161⟩ : ∃ y_ : List Int,y_ = (([] : List Int)) := ⟨_,rfl⟩;rw [← hy161] at H;have Ny161 := aK hy161;clear hy161;have H' := aK H;clear H;go_enter Try.func40,Try.ntmps40
 go_wp2_with ((with_reducible refine wP ?_);first | (refine Kd.R_lit (Kd.int .i64) _ 2 ?hg (N := 7) ?hd (xs := ([] : List Int)) (inner := []) (ok := fun _ => True) (okp := fun _ => True) ?hr ?hp (fun _ hk => hk) trivial (Below.refl _ _) (Nat.le_refl _) (by simp) ?_;(case hd => rfl);(case hg => rfl);(case hr => first | (go_simp;done) | (go_simp;rfl));(case hp => exact (Reps.none _ _));intro v162 w3 ho4 hb hg_ hnew_;clear hg_ hnew_;(first | rw [← Ny161.out] at ho4 | (simp only [Int.reduceToNat] at ho4;rw [← Ny161.out] at ho4));have HO163 := rl ho4 HB;replace HB := hB HB hb;clear hb ho4))
 go_loopg [5,9] k (fun kq v5 v9 w' => ∃ (x5_1 : List Int) (x9_1 : Int),v9 = .int .i64 x9_1 ∧ Aside0 (Zad.l0 V kq x5_1 a0 x9_1 = some r) ∧ Aside0 (kq ≤ k) ∧ Aside0 (Kd.R (Kd.int .i64) 2 w' w.heap.size (fun _ => True) v5 x5_1) ∧ Aside0 (Below w.heap.size w w'))
 case atStart => exact ⟨(y161),(0),rD,H',⟨Nat.le_refl _⟩,⟨rN HO163⟩,⟨bN HB⟩⟩
 case round =>
  clear H';obtain ⟨x5_1,x9_1,rfl,HA,HK1,HO_5,HB⟩ := hrel
  cases gk with
  | zero => exact absurd HA.out (by simp [Zad.l0])
  | succ k1 =>
   have H := HA.out;clear HA;simp only [Zad.l0] at H;replace H := iT H;obtain ⟨c5b0,H⟩|⟨c5b0,H⟩ := H
   ·replace H := bE H;obtain ⟨t164,A6,H⟩ := H;replace H := iB H;obtain ⟨rfl,H⟩|⟨rfl,H⟩ := H
    ·replace H := iA H;obtain ⟨LMc8,H⟩ := H;obtain ⟨y165,hy165⟩ : ∃ y_ : List Int,y_ = (x5_1 ++ [x9_1]) := ⟨_,rfl⟩;rw [← hy165] at H;have Ny165 := aK hy165;clear hy165;have H' := aK H;clear H
     go_wp2_with (first | ((with_reducible refine gate_dst (N := 14) rfl ?_);refine goesV_ (some 14) rfl rfl cf cap HF.out #[.int .i64 x9_1] rfl rfl (by (try simp only [List.map_toArray,List.map_cons,List.map_nil]);first | done | rfl | (simp only [List.length_drop,List.length_take];rfl)) ?_;(with_reducible refine (HV.out x9_1 true _ (bN HB) A6.out).mono ?_);rintro e w' ⟨rfl,⟨nd,rfl⟩⟩;refine ⟨_,rfl,?_⟩) | ((with_reducible refine gate_builtin (b := .append) (xs := #[.tmp 15,.tmp 17]) rfl ?_);at_builtin;refine Kd.R_append (Kd.int .i64) (w0 := w) w.heap.size rfl (.tmp 15) (.tmp 17) 29 2 (.int .i64 0) 8 rfl Try.underlying29 info2 rfl (by decide) (by omega) u5 x5_1 x9_1 [.int .i64 x9_1] (fun _ => True) (fun _ => False) rfl rfl ?aP (fun _ hk => hk.elim) ?aF ?aO ?aB ?aS ?aL ?_;(case aP => exact rfl);(case aB => exact (bN HB));(case aF => exact (fun _ _ => trivial));(case aO => exact (rN HO_5));(case aS => exact (below_size (bN HB)));(case aL => have := LMc8.out;omega);intro v166 w9 ho hb hg hat;rw [← Ny165.out] at ho;replace HB := aK (hb);have HO167 := aK (ho);clear HO_5;clear ho hb hg hat))
     go_roundg k1
     case measure => have := HK1.out;omega
     case rel => exact ⟨(y165),(wrap64 (x9_1 + 1)),rD,H',o1 HK1,⟨rN HO167⟩,⟨bN HB⟩⟩
    ·have H' := aK H;clear H
     go_wp2_with (first | ((with_reducible refine gate_dst (N := 14) rfl ?_);refine goesV_ (some 14) rfl rfl cf cap HF.out #[.int .i64 x9_1] rfl rfl (by (try simp only [List.map_toArray,List.map_cons,List.map_nil]);first | done | rfl | (simp only [List.length_drop,List.length_take];rfl)) ?_;(with_reducible refine (HV.out x9_1 false _ (bN HB) A6.out).mono ?_);rintro e w' ⟨rfl,⟨nd,rfl⟩⟩;refine ⟨_,rfl,?_⟩))
     go_roundg k1
     case measure => have := HK1.out;omega
     case rel => exact ⟨(x5_1),(wrap64 (x9_1 + 1)),rD,H',o1 HK1,⟨rN HO_5⟩,⟨bN HB⟩⟩
   ·obtain rfl := Option.some.inj H;go_wp2;go_ret;exact ⟨_,eR ⟨by (with_reducible repeat (first | apply Kd.R_alloc | apply Kd.R_drewN | apply Kd.R_drew));exact HO_5.out,(bN HB)⟩⟩
def endV (g : List (List Int)) (x : Int) : Option Bool := if 0 ≤ x then (if x < (g.length : Int) then some (((rd_L2 g x).length : Int) == 0) else none) else none
theorem endsOf1_has : HasFn 48 := ⟨_, Try.func48, by kernel_rfl, rfl⟩
theorem endsOf1.calls (A0 : Option Addr) (c0 : Nat) (g : List (List Int)) (gb : Nat) (x : Int) (r : Bool) (w : World) (hB : w.heap[gb]? = some (.cells #[.slice A0 g.length c0] 26 (0, 0)))
 (hr : Kd.C (Kd.slice 2 (Kd.int .i64)) w A0 g.length g) (h : endV g x = some r) :
 Calls Try.prog 48 (#[.int .i64 x] ++ #[.pointer (some ⟨gb,0,none⟩)]) w fun e w' => e = .returned (.bool r) ∧ Drawn0 w w' := by
 show Calls Try.prog 48 #[.int .i64 x,.pointer (some ⟨gb,0,none⟩)] w fun e w' => e = .returned (.bool r) ∧ Drawn0 w w'
 have hu := Try.underlying26;have HR := aK hr;clear hr;unfold endV at h
 by_cases c1 : 0 ≤ x
 rotate_left
 ·rw [if_neg c1] at h;exact absurd h (by simp)
 rw [if_pos c1] at h
 by_cases c2 : x < (g.length : Int)
 rotate_left
 ·rw [if_neg c2] at h;exact absurd h (by simp)
 rw [if_pos c2] at h;obtain rfl := Option.some.inj h;have hz : w.cell? ⟨gb,0,none⟩ = some (.slice A0 g.length c0) := (blk_cell hB 0).trans rfl;have hf := blk_frozen hB 0;have c1b := decide_eq_true c1;have c2b := decide_eq_true c2;obtain ⟨ad,A1,c3,e1,hx,hl,hi⟩ := at_L2 HR.out x c1 c2;cases e1;replace c1 := eq_true c1;replace c2 := eq_true c2;go_enter Try.func48,Try.ntmps48;go_wp2;go_ret;exact ⟨rfl,Drawn0.refl _⟩
def Zav.f (k : Nat) (g : List (List Int)) : Option (List Int × Int) := (ZC.f k g).bind fun t => if t = true then (Zad.f (endV g) k (g.length : Int)).bind fun r => some (r, 0) else some ([], 1)
theorem Zav.mono : ∀ a0 k, LeO (Zav.f k a0) (Zav.f (k + 1) a0) := by
 intro a0 k;unfold Zav.f;refine LeO.bind (ZC.mono _ _) (fun _ => ?_);exact LeO.ite (LeO.bind (Zad.mono _ _ _) (fun _ => LeO.refl _)) (LeO.refl _)
theorem Zav.calls (k : Nat) (A0_0 : Option Addr) (c0_0 : Nat) (l0_0 : List (List Int)) (r1 : List Int) (r2 : Int) (w : World) (hr0_0 : Kd.C (Kd.slice 2 (Kd.int .i64)) w A0_0 l0_0.length l0_0) (hc0_0 : l0_0.length ≤ c0_0) (h : Zav.f k l0_0 = some (r1, r2)) :
 Calls Try.prog 14 #[.agg #[.slice A0_0 l0_0.length c0_0]] w fun e w' => ∃ v0_ : Value,e = .returned (.tuple #[v0_,.int .i64 r2]) ∧ Kd.R (Kd.int .i64) 2 w' w.heap.size (fun _ => True) v0_ r1 ∧ Below w.heap.size w w' := by
 have hu27 := Try.underlying26;have HR0_0 := aK hr0_0;have HC0_0 := aK hc0_0;clear hr0_0 hc0_0;have HB := aK (Below.refl w.heap.size w);unfold Zav.f at h;obtain ⟨t,A20,h⟩ := Option.bind_eq_some_iff.mp h;have A2 := aK A20;clear A20;cases t
 ·rw [if_neg (by decide)] at h;simp only [Option.some.injEq,Prod.mk.injEq] at h;obtain ⟨rfl,rfl⟩ := h;go_enter Try.func14,Try.ntmps14
  go_wp2_with ((with_reducible refine wP ?_);first | (refine boxE 1 #[.slice A0_0 l0_0.length c0_0] 26 ?_;intro gb1 hg w2 hbox hb;have BK := aK hbox;replace HB := aK (below_then HB.out HB.out.size hb);clear hb hbox hg;have hz0 : w2.cell? ⟨gb1,0,none⟩ = some (.slice A0_0 l0_0.length c0_0) := (blk_cell BK.out 0).trans rfl;have hf0 := fZ BK 0) | (refine gT 5 Try.func47 (ZC.calls k _ _ l0_0 false _ (Kd.C_below HR0_0.out HB.out) HC0_0.out A2.out) ?_;intro w7 hb;replace HB := aK (below_then HB.out HB.out.size hb);clear hb))
  go_ret2;exact ⟨_,rfl,Kd.R_nil _ _ _ _ _,HB.out⟩
 ·rw [if_pos rfl] at h;obtain ⟨r,A30,h⟩ := Option.bind_eq_some_iff.mp h;have A3 := aK A30;clear A30;simp only [Option.some.injEq,Prod.mk.injEq] at h;obtain ⟨rfl,rfl⟩ := h;go_enter Try.func14,Try.ntmps14
  go_wp2_with ((with_reducible refine wP ?_);first | (refine boxE 1 #[.slice A0_0 l0_0.length c0_0] 26 ?_;intro gb1 hg w2 hbox hb;have BK := aK hbox;replace HB := aK (below_then HB.out HB.out.size hb);clear hb hbox hg;have hz0 : w2.cell? ⟨gb1,0,none⟩ = some (.slice A0_0 l0_0.length c0_0) := (blk_cell BK.out 0).trans rfl;have hf0 := fZ BK 0) | (refine gT 5 Try.func47 (ZC.calls k _ _ l0_0 true _ (Kd.C_below HR0_0.out HB.out) HC0_0.out A2.out) ?_;intro w7 hb;replace HB := aK (below_then HB.out HB.out.size hb);replace BK := aK (blk_below (g := gb1) (o := .cells #[.slice A0_0 l0_0.length c0_0] 26 (0,0)) BK.out hb);clear hb;have hz1 : w7.cell? ⟨gb1,0,none⟩ = some (.slice A0_0 l0_0.length c0_0) := (blk_cell BK.out 0).trans rfl;have hf1 := fZ BK 0) | (refine gT 9 Try.func41 (calls_below (Zan.calls _ _ l0_0 (l0_0.length : Int) _ (Kd.C_below HR0_0.out HB.out) HC0_0.out rfl)) ?_;intro w9 hb;replace HB := aK (below_then HB.out HB.out.size hb);replace BK := aK (blk_below (g := gb1) (o := .cells #[.slice A0_0 l0_0.length c0_0] 26 (0,0)) BK.out hb);clear hb;have hz2 : w9.cell? ⟨gb1,0,none⟩ = some (.slice A0_0 l0_0.length c0_0) := (blk_cell BK.out 0).trans rfl;have hf2 := fZ BK 0) | (refine goesE (some 11) Try.func40 #[.int .i64 (l0_0.length : Int),.func (.func 48) #[] #[.pointer (some ⟨gb1,0,none⟩)]] ?_;refine (Zad.calls (endV l0_0) _ _ endsOf1_has k _ r _ (fun x r_ w1_ hb_ hv_ => endsOf1.calls A0_0 c0_0 l0_0 gb1 x r_ w1_ (blk_below BK.out hb_) (Kd.C_below (Kd.C_below HR0_0.out HB.out) hb_) hv_) A3.out).mono ?_;rintro e w11 ⟨v12,rfl,ho,hb⟩;refine ⟨_,rfl,?_⟩;have HO := aK (Kd.R_lower ho HB.out.size);replace HB := aK (below_then HB.out HB.out.size hb);clear hb ho))
  go_ret2;exact ⟨_,rfl,HO.out,HB.out⟩
theorem info70 : (Try.prog.info? 70).map (fun i => (i.zero, i.size, i.bytes)) = some (some (.agg #[(.bool false), (.int .i64 0)]), 2, 16) := by kernel_rfl
structure S70 where
 f0 : Bool
 f1 : Int
def z70 : S70 := ⟨false, (0 : Int)⟩
def k70 : Kd S70 := Kd.iso (Kd.pair Kd.bool (Kd.int .i64)) (fun x : S70 => (x.f0, x.f1))
theorem k70_open {w : World} {x : S70} {cs : List Value} (h : k70.K w x cs) : cs = [.bool x.f0, .int .i64 x.f1] := by
 obtain ⟨_,_,rfl,rfl,rfl⟩ := h;exact rfl
theorem k70_openM {w : World} {base : Nat} {ok : Nat → Prop} {x : S70} {cs : List Value} (h : k70.M w base ok x cs) : cs = [.bool x.f0, .int .i64 x.f1] := by
 obtain ⟨_,_,rfl,rfl,rfl⟩ := h;exact rfl
theorem k70_mk (w : World) (x : S70)  : k70.K w x [.bool x.f0, .int .i64 x.f1] := ⟨[.bool x.f0], [.int .i64 x.f1], rfl, rfl, rfl⟩
theorem k70_mkM (w : World) (base : Nat) (ok : Nat → Prop) (x : S70)  : k70.M w base ok x [.bool x.f0, .int .i64 x.f1] := ⟨[.bool x.f0], [.int .i64 x.f1], rfl, rfl, rfl⟩
theorem k70_mkF (W : World) (ok : Nat → Prop) (x : S70) : Kd.FK k70 W ok x [.bool x.f0, .int .i64 x.f1] := fun W2 _ => k70_mk W2 x
def rd_T70 (xs : List S70) (i : Int) : S70 := xs.getD i.toNat z70
theorem at_T70 {w : World} {A : Option Addr} {n : Nat} {xs : List S70} (h : Kd.C k70 w A n xs) (i : Int) (h0 : 0 ≤ i) (h1 : i < n) : ∃ ad , A = some ad ∧ w.cell? (ad.add (i.toNat * 2)) = some (.bool (rd_T70 xs i).f0) ∧ w.cell? ⟨(ad.add (i.toNat * 2)).block, (ad.add (i.toNat * 2)).off + 1, none⟩ = some (.int .i64 (rd_T70 xs i).f1) := by
 obtain ⟨ad,c,e,_,hK,hc0⟩ := Kd.C_get h z70 i h0 h1;have hc : ∀ j u,c[j]? = some u → w.cell? (ad.add (i.toNat * 2 + j)) = some u := hc0;obtain rfl := k70_open hK;exact ⟨ad,e,hc 0 _ rfl,by rw [← add_field _ _ 1 (by omega)];exact hc 1 _ rfl⟩
section
variable (V : Nat → List S70 → Option (Bool × Int))
mutual
def ZJ.l0 : Nat → List (S70) → Int → List (List Int) → Option ((List (S70)) × Int)
 | 0,_,_,_ => none
 | k + 1,x6,x7,xqx => if x7 ≥ 0 then (if 0 ≤ x7 then (if x7 < (xqx.length : Int) then (ZJ.l1 k x6 x7 (([] : List (S70))) (rd_L2 xqx x7) ((rd_L2 xqx x7).length : Int) 0 xqx) else (none)) else (none)) else (some (x6,0))
def ZJ.l1 : Nat → List (S70) → Int → List (S70) → List Int → Int → Int → List (List Int) → Option ((List (S70)) × Int)
 | 0,_,_,_,_,_,_,_ => none
 | k + 1,x6,x7,x8,x30,x31,x32,xqx => if x32 < x31 then (if 0 ≤ x32 then (if x32 < (x30.length : Int) then (if 0 ≤ (rd x30 x32) then (if (rd x30 x32) < (x6.length : Int) then (if x8.length < 8796093022208 then (ZJ.l1 k x6 x7 (x8 ++ [(⟨(rd_T70 x6 (rd x30 x32)).f0,(rd_T70 x6 (rd x30 x32)).f1⟩ : S70)]) x30 x31 (wrap64 (x32 + 1)) xqx) else (none)) else (none)) else (none)) else (none)) else (none)) else ((V k x8).bind fun bt660 => (if 0 ≤ x7 then (if x7 < (x6.length : Int) then (ZJ.l0 k (x6.set (x7 : Int).toNat (⟨bt660.1,bt660.2⟩ : S70)) (wrap64 (x7 - 1)) xqx) else (none)) else (none)))
end
def ZJ.f (k : Nat) (l0_0 : List (List Int)) : Option ((List (S70)) × Int) := (ZC.f k l0_0).bind fun t647 => (if t647 = true then (if 0 ≤ (l0_0.length : Int) then (if ((l0_0.length : Int) : Int).toNat ≤ 17592186044416 then ((some (List.replicate ((l0_0.length : Int) : Int).toNat z70 : List (S70))).bind fun y648 => (ZJ.l0 V k y648 (wrap64 ((y648.length : Int) - 1)) l0_0)) else (none)) else (none)) else (some (([] : List (S70)), 1)))
end
theorem ZJ.mono_l (V : Nat → List S70 → Option (Bool × Int)) (hm : ∀ a k, LeO (V k a) (V (k + 1) a)) : ∀ k, (∀ y0 y1 y2, LeO (ZJ.l0 V k y0 y1 y2) (ZJ.l0 V (k + 1) y0 y1 y2)) ∧ (∀ y0 y1 y2 y3 y4 y5 y6, LeO (ZJ.l1 V k y0 y1 y2 y3 y4 y5 y6) (ZJ.l1 V (k + 1) y0 y1 y2 y3 y4 y5 y6))
 | 0 => ⟨fun _ _ _ r h => by simp [ZJ.l0] at h,fun _ _ _ _ _ _ _ r h => by simp [ZJ.l1] at h⟩
 | k + 1 => by
  obtain ⟨ih0,ih1⟩ := ZJ.mono_l V hm k;refine ⟨?_,?_⟩ <;> (intros;first | unfold ZJ.l0 | unfold ZJ.l1)
  all_goals repeat' first | (with_reducible exact ih0 _ _ _) | (with_reducible exact ih1 _ _ _ _ _ _ _) | (with_reducible exact ZC.mono _ _) | (with_reducible exact hm _ _) | (with_reducible exact LeO.refl _) | (with_reducible exact LeO.none _) | (with_reducible refine LeO.ite ?_ ?_) | (with_reducible refine LeO.bind ?_ (fun _ => ?_))
theorem ZJ.mono (V : Nat → List S70 → Option (Bool × Int)) (hm : ∀ a k, LeO (V k a) (V (k + 1) a)) : ∀ a0 k, LeO (ZJ.f V k a0) (ZJ.f V (k + 1) a0) := by
 intro a0 k;obtain ⟨ih0,ih1⟩ := ZJ.mono_l V hm k;unfold ZJ.f
 repeat' first | (with_reducible exact ih0 _ _ _) | (with_reducible exact ih1 _ _ _ _ _ _ _) | (with_reducible exact ZC.mono _ _) | (with_reducible exact hm _ _) | (with_reducible exact LeO.refl _) | (with_reducible exact LeO.none _) | (with_reducible refine LeO.ite ?_ ?_) | (with_reducible refine LeO.bind ?_ (fun _ => ?_))
theorem ZJ.calls (V : Nat → List S70 → Option (Bool × Int)) (cf : FuncId) (cap : Array Value) (hF : HasFn cf) (hV : ∀ (k : Nat) (A : Option Addr) (c : Nat) (xs : List S70) (r1 : Bool) (r2 : Int) (w : World), Kd.C k70 w A xs.length xs → xs.length ≤ c → V k xs = some (r1, r2) → Calls Try.prog cf (#[.slice A xs.length c] ++ cap) w fun e w' => e = .returned (.agg #[.bool r1, .int .i64 r2]) ∧ Below w.heap.size w w') (k : Nat) (A0_0 : Option Addr) (c0_0 : Nat) (l0_0 : List (List Int)) (r1 : List (S70)) (r2 : Int) (w : World) (hr0_0 : Kd.C (Kd.slice 2 (Kd.int .i64)) w A0_0 l0_0.length l0_0) (hc0_0 : l0_0.length ≤ c0_0) (h : ZJ.f V k l0_0 = some (r1, r2)) :
 Calls Try.prog 56 #[.agg #[.slice A0_0 l0_0.length c0_0],.func (.func cf) #[] cap] w fun e w' => ∃ v0_ : Value,e = .returned (.tuple #[v0_,.int .i64 r2]) ∧ Kd.R k70 70 w' w.heap.size (fun _ => True) v0_ r1 ∧ Below w.heap.size w w' := by
 have HF := aK hF;have HV := aK hV;clear hF hV;have hu26 := Try.underlying26;have hu70 := Try.underlying70;have HR0_0 := aK hr0_0;have HC0_0 := aK hc0_0;clear hr0_0 hc0_0;have HB := aK (Below.refl w.heap.size w);have H := h;clear h;unfold ZJ.f at H;replace H := bE H;obtain ⟨t647,A3,H⟩ := H;replace H := iB H;obtain ⟨rfl,H⟩|⟨rfl,H⟩ := H
 ·by_cases c5 : 0 ≤ (l0_0.length : Int)
  rotate_left
  ·rw [if_neg c5] at H;exact absurd H (by simp)
  rw [if_pos c5] at H;have c5b0 := eq_true c5;have c5b1 := decide_eq_true c5;clear c5
  by_cases c6 : ((l0_0.length : Int) : Int).toNat ≤ 17592186044416
  rotate_left
  ·rw [if_neg c6] at H;exact absurd H (by simp)
  rw [if_pos c6] at H;have c6b0 := eq_true c6;have c6b1 := decide_eq_true c6;clear c6;replace H := sE H;obtain ⟨y648,hy648,H⟩ := H;have Ny648 := aK hy648;clear hy648;have H' := aK H;clear H;go_enter Try.func56,Try.ntmps56
  go_wp2_with (first | ((with_reducible refine wP ?_);refine boxE 2 #[.slice A0_0 l0_0.length c0_0] 26 ?_;intro gb646 hg w7 hbox hb;have BK646 := aK (hbox);have GW646 := aK (zG HB hg);have GE646 := aK (zG HB hg);replace HB := hB HB hb;clear hb hbox hg;have hcz8_0 := z0 BK646;have hfz8_0 := fZ BK646 0) | ((with_reducible refine wP ?_);refine gT 12 Try.func47 (ZC.calls k _ _ l0_0 true _ (cB HR0_0 HB) HC0_0.out A3.out) ?_;intro w9 hb;replace BK646 := kB BK646 hb;replace HB := hB HB hb;clear hb;have hcz10_0 := z0 BK646;have hfz10_0 := fZ BK646 0) | ((with_reducible refine gate_dst (N := 17) rfl ?_);refine Kd.R_make k70 _ 70 rfl (N := 17) rfl 66 _ _ rfl (l0_0.length : Int) rfl rfl Try.underlying66 (.agg #[(.bool false),(.int .i64 0)]) 16 info70 rfl (by decide) (by omega) z70 (ok := fun _ => True) (okp := fun _ => True) (k70_mkM _ _ _ z70 ) (fun _ hk => hk) trivial (of_decide_eq_true (by first | (with_reducible assumption) | assumption)) (Nat.le_trans (Nat.mul_le_mul_right _ (of_decide_eq_true (by first | (with_reducible assumption) | assumption) : (l0_0.length : Int).toNat ≤ 17592186044416)) (by omega)) (Below.refl _ _) (Nat.le_refl _) ?_;intro v649 w11 ho12 hb hg_ hnew_;clear hg_ hnew_;(first | rw [← Ny648.out] at ho12 | (simp only [Int.reduceToNat] at ho12;rw [← Ny648.out] at ho12));have HO650 := rl ho12 HB;replace BK646 := kB BK646 hb;replace HB := hB HB hb;clear hb ho12;obtain ⟨Ao13,co13,eo13⟩ := Kd.R_slice HO650.out;subst eo13))
  go_loopg [7] k (fun kq v7 w' => ∃ (x6_1 : List (S70)) (x7_1 : Int),v7 = .int .i64 x7_1 ∧ Aside0 (ZJ.l0 V kq x6_1 x7_1 l0_0 = some (r1,r2)) ∧ Aside0 (kq ≤ k) ∧ Aside0 (Kd.R k70 70 w' w.heap.size (fun _ => True) (.slice Ao13 y648.length co13) x6_1) ∧ Aside0 (w'.heap[gb646]? = some (.cells #[(.slice A0_0 l0_0.length c0_0)] 26 (0,0))) ∧ Aside0 (Below w.heap.size w w'))
  case atStart => exact ⟨(y648),(wrap64 ((y648.length : Int) - 1)),rD,H',⟨Nat.le_refl _⟩,⟨rN HO650⟩,⟨kN BK646⟩,⟨bN HB⟩⟩
  case round =>
   clear H';clear c5b0 c5b1 c6b0 c6b1 hcz10_0 hcz8_0 hfz10_0 hfz8_0;obtain ⟨x6_1,x7_1,rfl,HA,HK1,HO_6,BK646,HB⟩ := hrel;have hl6_1 := (Kd.R_reads' HO_6.out).1;rw [hl6_1] at HO_6;(try simp only [hl6_1]);(try simp only [hl6_1] at BK646)
   cases gk with
   | zero => exact absurd HA.out (by simp [ZJ.l0])
   | succ k1 =>
    have H := HA.out;clear HA;simp only [ZJ.l0] at H;replace H := iT H;obtain ⟨c14b0,H⟩|⟨c14b0,H⟩ := H
    ·obtain ⟨y651,hy651⟩ : ∃ y_ : List (S70),y_ = (([] : List (S70))) := ⟨_,rfl⟩;rw [← hy651] at H;have Ny651 := aK hy651;clear hy651;replace H := iP H;obtain ⟨c15b0,H⟩ := H;replace H := iP H;obtain ⟨c16b0,H⟩ := H;have H' := aK H;clear H
     go_wp2_with ((with_reducible refine wP ?_);first | (refine Kd.R_lit k70 _ 70 ?hg (N := 25) ?hd (xs := ([] : List (S70))) (inner := []) (ok := fun _ => True) (okp := fun _ => True) ?hr ?hp (fun _ hk => hk) trivial (Below.refl _ _) (Nat.le_refl _) (by simp) ?_;(case hd => rfl);(case hg => rfl);(case hr => first | (go_simp;done) | (go_simp;rfl));(case hp => exact (Reps.none _ _));intro v652 w17 ho18 hb hg_ hnew_;clear hg_ hnew_;(first | rw [← Ny651.out] at ho18 | (simp only [Int.reduceToNat] at ho18;rw [← Ny651.out] at ho18));have HO653 := rl (rn ho18 HO_6) HB;replace HO_6 := rL HO_6 (rb ho18) hb;replace BK646 := kB BK646 hb;replace HB := hB HB hb;clear hb ho18;have hcz19_0 := z0 BK646;have hfz19_0 := fZ BK646 0;obtain ⟨ad654,A654_0,c654_0,rfl,-,hx654_0,HR654_0,HC654_0,p654,q654⟩ := aL HR0_0.out HB x7_1))
     go_loopg [8,32] k1 (fun kq v8 v32 w' => ∃ (x8_2 : List (S70)) (x32_2 : Int),v32 = .int .i64 x32_2 ∧ Aside0 (ZJ.l1 V kq x6_1 x7_1 x8_2 (rd_L2 l0_0 x7_1) ((rd_L2 l0_0 x7_1).length : Int) x32_2 l0_0 = some (r1,r2)) ∧ Aside0 (kq ≤ k1) ∧ Aside0 (Kd.R k70 70 w' w.heap.size (fun k_ => some k_ ≠ (v8 : Value).ownBlock) (.slice Ao13 x6_1.length co13) x6_1) ∧ Aside0 (Kd.R k70 70 w' w.heap.size (fun k_ => some k_ ≠ ((.slice Ao13 x6_1.length co13) : Value).ownBlock) v8 x8_2) ∧ Aside0 (w'.heap[gb646]? = some (.cells #[(.slice (some ad654) l0_0.length c0_0)] 26 (0,0))) ∧ Aside0 (Below w.heap.size w w'))
     case atStart => exact ⟨(y651),(0),rD,H',⟨Nat.le_refl _⟩,⟨by (try simp only [hl6_1]);(with_reducible repeat (first | apply Kd.R_alloc | apply Kd.R_drewN | apply Kd.R_drew));exact Kd.R_mono HO_6.out (fun _ hk => hk.2)⟩,⟨by (try simp only [hl6_1]);(with_reducible repeat (first | apply Kd.R_alloc | apply Kd.R_drewN | apply Kd.R_drew));exact Kd.R_mono HO653.out (fun _ hk => hk.2)⟩,⟨by (try simp only [hl6_1]);(with_reducible repeat (first | refine blk_drewN ?_ _ | refine blk_drew ?_ | refine blk_alloc ?_ _));exact BK646.out⟩,⟨bN HB⟩⟩
     case round =>
      clear H';clear c14b0 c15b0 c16b0 hcz19_0 hfz19_0 hx654_0 p654 q654;obtain ⟨x8_2,x32_2,rfl,HA,HK2,HO_6,HO_8,BK646,HB⟩ := hrel
      cases gk with
      | zero => exact absurd HA.out (by simp [ZJ.l1])
      | succ k2 =>
       have H := HA.out;clear HA;simp only [ZJ.l1] at H;replace H := iT H;obtain ⟨c20b0,H⟩|⟨c20b0,H⟩ := H
       ·replace H := iP H;obtain ⟨c21b0,H⟩ := H;replace H := iP H;obtain ⟨c22b0,H⟩ := H;replace H := iP H;obtain ⟨c23b0,H⟩ := H;replace H := iP H;obtain ⟨c24b0,H⟩ := H;replace H := iA H;obtain ⟨LMc25,H⟩ := H;obtain ⟨y657,hy657⟩ : ∃ y_ : List (S70),y_ = (x8_2 ++ [(⟨(rd_T70 x6_1 (rd (rd_L2 l0_0 x7_1) x32_2)).f0,(rd_T70 x6_1 (rd (rd_L2 l0_0 x7_1) x32_2)).f1⟩ : S70)]) := ⟨_,rfl⟩;rw [← hy657] at H;have Ny657 := aK hy657;clear hy657;have H' := aK H;clear H;obtain ⟨ad655,rfl,-,hx655_0,p655,q655⟩ := aI HR654_0.out HB x32_2;have p656 : 0 ≤ ((rd (rd_L2 l0_0 x7_1) x32_2) : Int) := dT;have q656 : (rd (rd_L2 l0_0 x7_1) x32_2) < (x6_1.length : Int) := dT;obtain ⟨ad656,e656,hx656_0,hx656_1⟩ := at_T70 (rr HO_6) (rd (rd_L2 l0_0 x7_1) x32_2) p656 q656;cases e656;replace p656 := eq_true p656;replace q656 := eq_true q656
        go_wp2_with (first | ((with_reducible refine gate_builtin (b := .append) (xs := #[.tmp 36,.tmp 41]) rfl ?_);at_builtin;refine Kd.R_append k70 (w0 := w) w.heap.size rfl (.tmp 36) (.tmp 41) 66 70 (.agg #[(.bool false),(.int .i64 0)]) 16 rfl Try.underlying66 info70 rfl (by decide) (by omega) u8 x8_2 (⟨(rd_T70 x6_1 (rd (rd_L2 l0_0 x7_1) x32_2)).f0,(rd_T70 x6_1 (rd (rd_L2 l0_0 x7_1) x32_2)).f1⟩ : S70) [.bool ((rd_T70 x6_1 (rd (rd_L2 l0_0 x7_1) x32_2)).f0),.int .i64 ((rd_T70 x6_1 (rd (rd_L2 l0_0 x7_1) x32_2)).f1)] (fun k_ => some k_ ≠ (.slice (some ad656) x6_1.length co13 : Value).ownBlock) (fun _ => False) rfl rfl ?aP (fun _ hk => hk.elim) ?aF ?aO ?aB ?aS ?aL ?_;(case aP => exact k70_mkM _ _ _ (⟨(rd_T70 x6_1 (rd (rd_L2 l0_0 x7_1) x32_2)).f0,(rd_T70 x6_1 (rd (rd_L2 l0_0 x7_1) x32_2)).f1⟩ : S70));(case aB => exact (bN HB));(case aF => exact (fun k_ hk => Kd.fresh' (rt HO_6) k_ hk));(case aO => exact (rN HO_8));(case aS => exact (below_size (bN HB)));(case aL => have := LMc25.out;omega);intro v658 w26 ho hb hg hat;rw [← Ny657.out] at ho;replace HO_6 := aK (Kd.R_after (ok := (fun _ => True)) (rM (Kd.R_mono HO_6.out (fun _ hk => ⟨trivial,hk⟩))) hg hat);replace BK646 := aK (blk_grown (g := gb646) (o := .cells #[.slice (some ad654) l0_0.length c0_0] 26 (0,0)) (kN BK646) hg (Kd.R_ne HO_8.out BK646.out (by decide)));replace HB := aK (hb);have HO659 := aK (ho);clear HO_8;clear ho hb hg hat))
        go_roundg k2
        case measure => have := HK1.out;have := HK2.out;omega
        case rel => exact ⟨(y657),(wrap64 (x32_2 + 1)),rD,H',o2 HK1 HK2,⟨by (try simp only [hl6_1]);(with_reducible repeat (first | apply Kd.R_alloc | apply Kd.R_drewN | apply Kd.R_drew));exact Kd.R_mono HO_6.out (fun _ hk => hk.2)⟩,⟨by (try simp only [hl6_1]);(with_reducible repeat (first | apply Kd.R_alloc | apply Kd.R_drewN | apply Kd.R_drew));exact HO659.out⟩,⟨by (try simp only [hl6_1]);(with_reducible repeat (first | refine blk_drewN ?_ _ | refine blk_drew ?_ | refine blk_alloc ?_ _));exact BK646.out⟩,⟨bN HB⟩⟩
       ·replace H := bE H;obtain ⟨⟨t660,t661⟩,A27,H⟩ := H;dsimp only at H;replace H := iP H;obtain ⟨c28b0,H⟩ := H;replace H := iP H;obtain ⟨c29b0,H⟩ := H;obtain ⟨y662,hy662⟩ : ∃ y_ : List (S70),y_ = (x6_1.set (x7_1 : Int).toNat (⟨t660,t661⟩ : S70)) := ⟨_,rfl⟩;rw [← hy662] at H;have Ny662 := aK hy662;clear hy662;have H' := aK H;clear H;obtain ⟨Ao31,co31,eo31⟩ := Kd.R_slice HO_8.out;subst eo31
        go_wp2_with (first | ((with_reducible refine gate_dst (N := 48) rfl ?_);refine goesV_ (some 48) rfl rfl cf cap HF.out #[.slice Ao31 x8_2.length co31] rfl rfl (by (try simp only [List.map_toArray,List.map_cons,List.map_nil]);first | done | rfl | (simp only [List.length_drop,List.length_take];rfl)) ?_;(with_reducible refine (HV.out k2 _ _ x8_2 t660 t661 _ ?side1 ?side2 A27.out).mono ?_);(case side1 => exact cR HO_8);(case side2 => exact (rq HO_8));rintro e w32 ⟨rfl,hb⟩;refine ⟨_,rfl,?_⟩;replace HO_6 := rB HO_6 hb;replace HO_8 := rB HO_8 hb;replace BK646 := kB BK646 hb;replace HB := hB HB hb;clear hb;have p30 : 0 ≤ (x7_1 : Int) := of_decide_eq_true (by first | (with_reducible assumption) | assumption);have q30 : (x7_1 : Int) < ((x6_1.length : Int) : Int) := of_decide_eq_true (by first | (with_reducible assumption) | assumption);obtain ⟨go30,co30,eo30,gb30,gl30,cl30,HG30⟩ := Kd.R_form HO_6.out (by omega);(first | cases eo30 | (injection eo30 with ea_ en_ ec_;(first | subst ea_ | (injection ea_ with ea_;subst ea_));subst ec_;clear en_));have GB30 := aK gb30;have GG30 := aK HG30;clear gb30 gl30 HG30;obtain ⟨ce30,hcl30,hM30,hcc30,hfr30⟩ := Kd.R_elem HO_6.out z70 (x7_1 : Int) p30 q30;obtain rfl := k70_openM hM30;have hx30_0 : w32.cell? ⟨go30,(x7_1 : Int).toNat * 2,none⟩ = some (.bool ((rd_T70 x6_1 x7_1).f0)) := hcc30 0 _ rfl;have hx30_1 : w32.cell? ⟨go30,(x7_1 : Int).toNat * 2 + 1,none⟩ = some (.int .i64 ((rd_T70 x6_1 x7_1).f1)) := hcc30 1 _ rfl;have hf30_0 : w32.frozen? ⟨go30,(x7_1 : Int).toNat * 2,none⟩ = false := hfr30 0;have hf30_1 : w32.frozen? ⟨go30,(x7_1 : Int).toNat * 2 + 1,none⟩ = false := hfr30 1;clear hM30;clear hcl30 hcc30 hfr30;replace p30 := eq_true p30;replace q30 := eq_true q30;have HX33 := aK (show Kd.R k70 70 w32 w.heap.size (fun k_ => some k_ ≠ (.slice Ao31 x8_2.length co31 : Value).ownBlock) (.slice (some ⟨go30,0,none⟩) x6_1.length co13) x6_1 from (rN HO_6));obtain ⟨ce33,hcl33,hM33,hcc33,hfr33⟩ := Kd.R_elem HX33.out z70 (x7_1 : Int) (of_decide_eq_true (by first | (with_reducible assumption) | assumption)) (by have h_ : (x7_1 : Int) < ((x6_1.length : Int) : Int) := of_decide_eq_true (by first | (with_reducible assumption) | assumption);first | exact h_ | (have e_ := (Kd.R_reads' HO_6.out).1;omega) | simpa using h_);obtain rfl := k70_openM hM33;have HP33 := Kd.R_seg HX33.out (x7_1 : Int) (of_decide_eq_true (by first | (with_reducible assumption) | assumption)) (by have h_ : (x7_1 : Int) < ((x6_1.length : Int) : Int) := of_decide_eq_true (by first | (with_reducible assumption) | assumption);first | exact h_ | (have e_ := (Kd.R_reads' HO_6.out).1;omega) | simpa using h_) (seg := [.bool t660,.int .i64 t661]) (j := 0) hcl33 hcc33 (show 2 ≤ 2 from by decide) (x' := (⟨t660,t661⟩ : S70)) (k70_mkM _ _ _ (⟨t660,t661⟩ : S70) ) (fun _ hk => hk);have hx33_0 := hcc33 0 _ rfl;(try simp only [show (k70).sz = 2 from rfl,Nat.mul_one,Nat.add_zero] at hx33_0);have hf33_0 := hfr33 0;(try simp only [show (k70).sz = 2 from rfl,Nat.mul_one,Nat.add_zero] at hf33_0);have hx33_1 := hcc33 1 _ rfl;(try simp only [show (k70).sz = 2 from rfl,Nat.mul_one,Nat.add_zero] at hx33_1);have hf33_1 := hfr33 1;(try simp only [show (k70).sz = 2 from rfl,Nat.mul_one,Nat.add_zero] at hf33_1);clear hM33;clear hcl33 hcc33 hfr33) | ((with_reducible refine gate_store (t := 70) (p := 49) rfl ?_);refine store_event (t := 70) (p := 49) (v := ?vo_w34) (w1 := ((w32.setCell ⟨go30,(x7_1 : Int).toNat * 2,none⟩ (.bool t660)).setCell ⟨go30,(x7_1 : Int).toNat * 2 + 1,none⟩ (.int .i64 t661))) ?hg ?ho ?hn ?hr ?_;(case ho => rfl);(case hg => rfl);(case hn => rfl);(case hr => first | (go_simp;done) | (go_simp;rfl));intro w34 hw;have hg : w32.grownBy w34 (some go30) := (by rw [hw];exact HP33.2);have hp_ : Kd.R k70 70 w34 w.heap.size (fun k_ => some k_ ≠ (.slice Ao31 x8_2.length co31 : Value).ownBlock) (.slice (some ⟨go30,0,none⟩) x6_1.length co13) y662 := (by rw [hw,Ny662.out];exact HP33.1);clear HP33;replace HO_8 := aK (Kd.R_after (v := (.slice (some ⟨go30,0,none⟩) x6_1.length co13)) (v1 := (.slice (some ⟨go30,0,none⟩) x6_1.length co13)) (ok := (fun _ => True)) (rM (Kd.R_mono HO_8.out (fun _ hk => ⟨trivial,hk⟩))) hg (.inl rfl));replace BK646 := aK (blk_grown (g := gb646) (o := .cells #[.slice (some ad654) l0_0.length c0_0] 26 (0,0)) (kN BK646) hg (Kd.R_ne HO_6.out BK646.out (by decide)));replace HO_6 := aK (hp_);replace HB := aK ((by rw [hw];exact below_set (below_set (HB.out) GB30.out) GB30.out : Below w.heap.size w w34));clear hg hw hp_))
        (try simp only [← hl6_1])
        go_roundg k2
        case measure => have := HK1.out;have := HK2.out;omega
        case rel => exact ⟨(y662),(wrap64 (x7_1 - 1)),rD,H',o2 HK1 HK2,⟨by (try simp only [hl6_1]);(with_reducible repeat (first | apply Kd.R_alloc | apply Kd.R_drewN | apply Kd.R_drew));exact Kd.R_mono HO_6.out (fun _ hk => trivial)⟩,⟨by (try simp only [hl6_1]);(with_reducible repeat (first | refine blk_drewN ?_ _ | refine blk_drew ?_ | refine blk_alloc ?_ _));exact BK646.out⟩,⟨bN HB⟩⟩
    ·simp only [Option.some.injEq,Prod.mk.injEq] at H;obtain ⟨rfl,rfl⟩ := H;go_wp2;go_ret2;exact ⟨_,eR ⟨by (with_reducible repeat (first | apply Kd.R_alloc | apply Kd.R_drewN | apply Kd.R_drew));exact HO_6.out,(bN HB)⟩⟩
 ·simp only [Option.some.injEq,Prod.mk.injEq] at H;obtain ⟨rfl,rfl⟩ := H;go_enter Try.func56,Try.ntmps56
  go_wp2_with ((with_reducible refine wP ?_);first | (refine boxE 2 #[.slice A0_0 l0_0.length c0_0] 26 ?_;intro gb646 hg w35 hbox hb;have BK646 := aK (hbox);have GW646 := aK (zG HB hg);have GE646 := aK (zG HB hg);replace HB := hB HB hb;clear hb hbox hg;have hcz36_0 := z0 BK646;have hfz36_0 := fZ BK646 0) | (refine gT 12 Try.func47 (ZC.calls k _ _ l0_0 false _ (cB HR0_0 HB) HC0_0.out A3.out) ?_;intro w37 hb;replace BK646 := kB BK646 hb;replace HB := hB HB hb;clear hb))
  go_ret2;exact ⟨_,eR ⟨by first | exact Kd.R_nil _ _ _ _ _ | exact Kd.N_nil _ _ _ _ _ | exact Kd.V_nil _ _ _ _ _ | exact Kd.Q_nil _ _ _ _ _ | exact Kd.S_nil _ _ _ _ _,(bN HB)⟩⟩
mutual
def Zr.l0 : Nat → List (S70) → Int → Int → Bool → Int → Option (Bool × Int)
 | 0,_,_,_,_,_ => none
 | k + 1,x7,x8,x9,xqh,xqg => if x9 < x8 then (if 0 ≤ x9 then (if x9 < (x7.length : Int) then (if ((rd_T70 x7 x9).f0 = true) then (Zr.j1 k x7 x8 x9 false xqh xqg ((rd_T70 x7 x9).f0) ((rd_T70 x7 x9).f1)) else (if xqh = true then (Zr.j1 k x7 x8 x9 (decide ((wrap64 (((rd_T70 x7 x9).f1) + 1)) < xqg)) xqh xqg ((rd_T70 x7 x9).f0) ((rd_T70 x7 x9).f1)) else (Zr.j1 k x7 x8 x9 true xqh xqg ((rd_T70 x7 x9).f0) ((rd_T70 x7 x9).f1)))) else (none)) else (none)) else (some (xqh,xqg))
def Zr.j1 : Nat → List (S70) → Int → Int → Bool → Bool → Int → Bool → Int → Option (Bool × Int)
 | 0,_,_,_,_,_,_,_,_ => none
 | k + 1,x7,x8,x9,x13,xqh,xqg,xqI,xqH => if x13 = true then (Zr.l0 k x7 x8 (wrap64 (x9 + 1)) true (wrap64 (xqH + 1))) else (if xqI = true then (if xqh = true then (Zr.l0 k x7 x8 (wrap64 (x9 + 1)) xqh xqg) else (Zr.l0 k x7 x8 (wrap64 (x9 + 1)) xqh (mx xqg (wrap64 (xqH + 1))))) else (Zr.l0 k x7 x8 (wrap64 (x9 + 1)) xqh xqg))
end
def Zr.f (k : Nat) (l0 : List (S70)) : Option (Bool × Int) := Zr.l0 k l0 (l0.length : Int) 0 false 0
theorem Zr.mono_l : ∀ k, (∀ y0 y1 y2 y3 y4, LeO (Zr.l0 k y0 y1 y2 y3 y4) (Zr.l0 (k + 1) y0 y1 y2 y3 y4)) ∧ (∀ y0 y1 y2 y3 y4 y5 y6 y7, LeO (Zr.j1 k y0 y1 y2 y3 y4 y5 y6 y7) (Zr.j1 (k + 1) y0 y1 y2 y3 y4 y5 y6 y7))
 | 0 => ⟨fun _ _ _ _ _ r h => by simp [Zr.l0] at h,fun _ _ _ _ _ _ _ _ r h => by simp [Zr.j1] at h⟩
 | k + 1 => by
  obtain ⟨ih0,ih1⟩ := Zr.mono_l k;refine ⟨?_,?_⟩ <;> (intros;first | unfold Zr.l0 | unfold Zr.j1)
  all_goals exact lO
theorem Zr.mono : ∀ a0 k, LeO (Zr.f k a0) (Zr.f (k + 1) a0) := by
 intro a0 k;obtain ⟨ih0,ih1⟩ := Zr.mono_l k;unfold Zr.f;exact lO
theorem Zr.calls (k : Nat) (A0 : Option Addr) (c0 : Nat) (l0 : List (S70)) (r1 : Bool) (r2 : Int) (w : World) (hr0 : Kd.C k70 w A0 l0.length l0) (hc0 : l0.length ≤ c0) (h : Zr.f k l0 = some (r1, r2)) :
 Calls Try.prog 57 #[.slice A0 l0.length c0] w fun e w' => e = .returned (.agg #[.bool r1,.int .i64 r2]) ∧ Below w.heap.size w w' := by
 have hu70 := Try.underlying70;have HR0 := aK hr0;have HC0 := aK hc0;clear hr0 hc0;have HB := aK (Below.refl w.heap.size w);have H := h;clear h;unfold Zr.f at H;have H' := aK H;clear H;go_enter Try.func57,Try.ntmps57
 go_wp2_with ((with_reducible refine wP ?_);first | (refine boxE 2 #[.bool false,.int .i64 0] 70 ?_;intro gb642 hg w2 hbox hb;have BK642 := aK (hbox);have GW642 := aK (zG HB hg);have GE642 := aK (zG HB hg);replace HB := hB HB hb;clear hb hbox hg) | (refine boxE 3 #[.bool false,.int .i64 0] 70 ?_;intro gb643 hg w3 hbox hb;have BK643 := aK (hbox);have GW643 := aK (zG HB hg);have GE643 := aK (zG HB hg);replace HB := hB HB hb;obtain ⟨NB642_643,NB643_642⟩ := nG hg BK642;replace BK642 := kB BK642 hb;clear hb hbox hg;have hnb4 := NB643_642.out;have hnc4 := NB642_643.out;have hcz5_0 := y0 BK643;have hcz5_1 := y1 BK643;have hfz5_0 := fZ BK643 0;have hfz5_1 := fZ BK643 1))
 go_loopg [9] k (fun kq v9 w' => ∃ (x9_1 : Int) (xqh_1 : Bool) (xqg_1 : Int),v9 = .int .i64 x9_1 ∧ Aside0 (Zr.l0 kq l0 (l0.length : Int) x9_1 xqh_1 xqg_1 = some (r1,r2)) ∧ Aside0 (kq ≤ k) ∧ Aside0 (w'.heap[gb642]? = some (.cells #[.bool false,.int .i64 0] 70 (0,0))) ∧ Aside0 (w'.heap[gb643]? = some (.cells #[.bool xqh_1,.int .i64 xqg_1] 70 (0,0))) ∧ Aside0 (Below w.heap.size w w'))
 case atStart => exact ⟨(0),(false),(0),rD,H',⟨Nat.le_refl _⟩,⟨kZ BK642⟩,⟨kP BK643⟩,⟨bN HB⟩⟩
 case round =>
  clear H';clear hcz5_0 hcz5_1 hfz5_0 hfz5_1;obtain ⟨x9_1,xqh_1,xqg_1,rfl,HA,HK1,BK642,BK643,HB⟩ := hrel
  cases gk with
  | zero => exact absurd HA.out (by simp [Zr.l0])
  | succ k1 =>
   have H := HA.out;clear HA;simp only [Zr.l0] at H;replace H := iT H;obtain ⟨c6b0,H⟩|⟨c6b0,H⟩ := H
   ·replace H := iP H;obtain ⟨c7b0,H⟩ := H;replace H := iP H;obtain ⟨c8b0,H⟩ := H;have HC9 := aK H;clear H;have p644 : 0 ≤ (x9_1 : Int) := dT;have q644 : x9_1 < (l0.length : Int) := dT;obtain ⟨ad644,e644,hx644_0,hx644_1⟩ := at_T70 HR0.out x9_1 p644 q644;cases e644;replace hx644_0 := cO HB hx644_0;replace hx644_1 := cO HB hx644_1;replace p644 := eq_true p644;replace q644 := eq_true q644
    go_upto_region 5 with ((with_reducible refine wP ?_);first | (refine boxE 5 #[.bool false,.int .i64 0] 70 ?_;intro gb645 hg w10 hbox hb;have BK645 := aK (hbox);have GW645 := aK (zG HB hg);have GE645 := aK (zG HB hg);replace HB := hB HB hb;obtain ⟨NB642_645,NB645_642⟩ := nG hg BK642;replace BK642 := kB BK642 hb;obtain ⟨NB643_645,NB645_643⟩ := nG hg BK643;replace BK643 := kB BK643 hb;clear hb hbox hg;have hnb11 := NB645_642.out;have hnc11 := NB642_645.out;have hnb12 := NB645_643.out;have hnc12 := NB643_645.out;have hcz13_0 := y0 BK645;have hcz13_1 := y1 BK645;have hfz13_0 := fZ BK645 0;have hfz13_1 := fZ BK645 1))
    (try simp only [Act.put,List.setIfInBounds_toArray,List.set_cons_zero,List.set_cons_succ])
    go_cut [13] (fun v13 wc => ∃ (kq : Nat) (x13_8 : Bool),v13 = .bool x13_8 ∧ Aside0 (Zr.j1 kq l0 (l0.length : Int) x9_1 x13_8 xqh_1 xqg_1 ((rd_T70 l0 x9_1).f0) ((rd_T70 l0 x9_1).f1) = some (r1,r2)) ∧ Aside0 (kq ≤ k1) ∧ Aside0 (wc.heap[gb642]? = some (.cells #[.bool false,.int .i64 0] 70 (0,0))) ∧ Aside0 (wc.heap[gb643]? = some (.cells #[.bool xqh_1,.int .i64 xqg_1] 70 (0,0))) ∧ Aside0 (wc.heap[gb645]? = some (.cells #[.bool ((rd_T70 l0 x9_1).f0),.int .i64 ((rd_T70 l0 x9_1).f1)] 70 (0,0))) ∧ Aside0 (Below w.heap.size w wc))
    case first =>
     have H := HC9.out;clear HC9;obtain ⟨bq14,hbq14⟩ : ∃ b_ : Bool,b_ = ((rd_T70 l0 x9_1).f0) := ⟨_,rfl⟩;rw [← hbq14] at H;have Nbq14 := aK hbq14;clear hbq14;(try rw [← Nbq14.out]);replace H := iB H;obtain ⟨rfl,H⟩|⟨rfl,H⟩ := H
     ·have H' := aK H;clear H;have hnb16 := NB645_642.out;have hnc16 := NB642_645.out;have hnb17 := NB645_643.out;have hnc17 := NB643_645.out;have hcz18_0 := y0 BK645;have hcz18_1 := y1 BK645;have hfz18_0 := fZ BK645 0;have hfz18_1 := fZ BK645 1;go_wp2;go_meet
      case rel => (try rw [← Nbq14.out]);exact ⟨_,(false),rD,H',o1 HK1,⟨kZ BK642⟩,⟨kZ BK643⟩,⟨kP BK645⟩,⟨bN HB⟩⟩
     ·replace H := iB H;obtain ⟨rfl,H⟩|⟨rfl,H⟩ := H
      ·have H' := aK H;clear H;have hnb20 := NB645_642.out;have hnc20 := NB642_645.out;have hnb21 := NB645_643.out;have hnc21 := NB643_645.out;have hcz22_0 := y0 BK645;have hcz22_1 := y1 BK645;have hfz22_0 := fZ BK645 0;have hfz22_1 := fZ BK645 1;have hnb23 := NB643_642.out;have hnc23 := NB642_643.out;have hcz24_0 := y0 BK643;have hcz24_1 := y1 BK643;have hfz24_0 := fZ BK643 0;have hfz24_1 := fZ BK643 1;go_wp2;go_meet
       case rel => (try rw [← Nbq14.out]);exact ⟨_,(decide ((wrap64 (((rd_T70 l0 x9_1).f1) + 1)) < xqg_1)),rD,H',o1 HK1,⟨kZ BK642⟩,⟨kZ BK643⟩,⟨kP BK645⟩,⟨bN HB⟩⟩
      ·have H' := aK H;clear H;have hnb25 := NB645_642.out;have hnc25 := NB642_645.out;have hnb26 := NB645_643.out;have hnc26 := NB643_645.out;have hcz27_0 := y0 BK645;have hcz27_1 := y1 BK645;have hfz27_0 := fZ BK645 0;have hfz27_1 := fZ BK645 1;have hnb28 := NB643_642.out;have hnc28 := NB642_643.out;have hcz29_0 := y0 BK643;have hcz29_1 := y1 BK643;have hfz29_0 := fZ BK643 0;have hfz29_1 := fZ BK643 1;go_wp2;go_meet
       case rel => (try rw [← Nbq14.out]);exact ⟨_,(true),rD,H',o1 HK1,⟨kZ BK642⟩,⟨kZ BK643⟩,⟨kP BK645⟩,⟨bN HB⟩⟩
    case rest =>
     clear HC9;clear c6b0 c7b0 c8b0 hcz13_0 hcz13_1 hfz13_0 hfz13_1 hx644_0 hx644_1 p644 q644;obtain ⟨kq,x13_8,rfl,HA,HJ8,BK642,BK643,BK645,HB⟩ := hcut
     cases kq with
     | zero => exact absurd HA.out (by simp [Zr.j1])
     | succ kj8 =>
      have H := HA.out;clear HA;simp only [Zr.j1] at H;replace H := iB H;obtain ⟨rfl,H⟩|⟨rfl,H⟩ := H
      ·have H' := aK H;clear H;have hnb31 := NB645_642.out;have hnc31 := NB642_645.out;have hnb32 := NB645_643.out;have hnc32 := NB643_645.out;have hcz33_0 : wc.cell? ⟨gb645,0,none⟩ = some (.bool ((rd_T70 l0 x9_1).f0)) := (blk_cell BK645.out 0).trans rfl;have hcz33_1 : wc.cell? ⟨gb645,1,none⟩ = some (.int .i64 ((rd_T70 l0 x9_1).f1)) := (blk_cell BK645.out 1).trans rfl;have hfz33_0 := fZ BK645 0;have hfz33_1 := fZ BK645 1;have hnb34 := NB643_642.out;have hnc34 := NB642_643.out;have hcz35_0 := y0 BK643;have hcz35_1 := y1 BK643;have hfz35_0 := fZ BK643 0;have hfz35_1 := fZ BK643 1;go_wp2
       go_roundg kj8
       case measure => have := HK1.out;have := HJ8.out;omega
       case rel => (try rw [← Nbq14.out]);exact ⟨(wrap64 (x9_1 + 1)),(true),(wrap64 (((rd_T70 l0 x9_1).f1) + 1)),rD,H',o2 HK1 HJ8,⟨kZ BK642⟩,⟨kP BK643⟩,⟨bN HB⟩⟩
      ·by_cases c36 : ((rd_T70 l0 x9_1).f0) = true
       ·rw [if_pos c36] at H;have c36b0 : ((rd_T70 l0 x9_1).f0) = true := c36;clear c36;replace H := iB H;obtain ⟨rfl,H⟩|⟨rfl,H⟩ := H
        ·have H' := aK H;clear H;have hnb38 := NB645_642.out;have hnc38 := NB642_645.out;have hnb39 := NB645_643.out;have hnc39 := NB643_645.out;have hcz40_0 : wc.cell? ⟨gb645,0,none⟩ = some (.bool ((rd_T70 l0 x9_1).f0)) := (blk_cell BK645.out 0).trans rfl;have hcz40_1 : wc.cell? ⟨gb645,1,none⟩ = some (.int .i64 ((rd_T70 l0 x9_1).f1)) := (blk_cell BK645.out 1).trans rfl;have hfz40_0 := fZ BK645 0;have hfz40_1 := fZ BK645 1;have hnb41 := NB643_642.out;have hnc41 := NB642_643.out;have hcz42_0 := y0 BK643;have hcz42_1 := y1 BK643;have hfz42_0 := fZ BK643 0;have hfz42_1 := fZ BK643 1;go_wp2
         go_roundg kj8
         case measure => have := HK1.out;have := HJ8.out;omega
         case rel => (try rw [← Nbq14.out]);exact ⟨(wrap64 (x9_1 + 1)),(true),(xqg_1),rD,H',o2 HK1 HJ8,⟨kN BK642⟩,⟨kN BK643⟩,⟨bN HB⟩⟩
        ·obtain ⟨ji43,hji43⟩ : ∃ j_ : Int,(mx xqg_1 (wrap64 (((rd_T70 l0 x9_1).f1) + 1))) = j_ := ⟨_,rfl⟩;(first | rw [hji43] at H | simp only [hji43] at H);have hji43_ : (if xqg_1 < (wrap64 (((rd_T70 l0 x9_1).f1) + 1)) then (wrap64 (((rd_T70 l0 x9_1).f1) + 1)) else xqg_1) = ji43 := hji43;have H' := aK H;clear H;have hnb44 := NB645_642.out;have hnc44 := NB642_645.out;have hnb45 := NB645_643.out;have hnc45 := NB643_645.out;have hcz46_0 : wc.cell? ⟨gb645,0,none⟩ = some (.bool ((rd_T70 l0 x9_1).f0)) := (blk_cell BK645.out 0).trans rfl;have hcz46_1 : wc.cell? ⟨gb645,1,none⟩ = some (.int .i64 ((rd_T70 l0 x9_1).f1)) := (blk_cell BK645.out 1).trans rfl;have hfz46_0 := fZ BK645 0;have hfz46_1 := fZ BK645 1;have hnb47 := NB643_642.out;have hnc47 := NB642_643.out;have hcz48_0 := y0 BK643;have hcz48_1 := y1 BK643;have hfz48_0 := fZ BK643 0;have hfz48_1 := fZ BK643 1;go_wp2
         go_roundg kj8
         case measure => have := HK1.out;have := HJ8.out;omega
         case rel => (try rw [← Nbq14.out]);exact ⟨(wrap64 (x9_1 + 1)),(false),(ji43),rD,H',o2 HK1 HJ8,⟨kZ BK642⟩,⟨kP BK643⟩,⟨bN HB⟩⟩
       ·rw [if_neg c36] at H;have c36b0 : ((rd_T70 l0 x9_1).f0) = false := by simpa using c36
        clear c36;have H' := aK H;clear H;have hnb49 := NB645_642.out;have hnc49 := NB642_645.out;have hnb50 := NB645_643.out;have hnc50 := NB643_645.out;have hcz51_0 : wc.cell? ⟨gb645,0,none⟩ = some (.bool ((rd_T70 l0 x9_1).f0)) := (blk_cell BK645.out 0).trans rfl;have hcz51_1 : wc.cell? ⟨gb645,1,none⟩ = some (.int .i64 ((rd_T70 l0 x9_1).f1)) := (blk_cell BK645.out 1).trans rfl;have hfz51_0 := fZ BK645 0;have hfz51_1 := fZ BK645 1;go_wp2
        go_roundg kj8
        case measure => have := HK1.out;have := HJ8.out;omega
        case rel => (try rw [← Nbq14.out]);exact ⟨(wrap64 (x9_1 + 1)),(xqh_1),(xqg_1),rD,H',o2 HK1 HJ8,⟨kN BK642⟩,⟨kN BK643⟩,⟨bN HB⟩⟩
   ·simp only [Option.some.injEq,Prod.mk.injEq] at H;obtain ⟨rfl,rfl⟩ := H;have hnb52 := NB643_642.out;have hnc52 := NB642_643.out;have hcz53_0 := y0 BK643;have hcz53_1 := y1 BK643;have hfz53_0 := fZ BK643 0;have hfz53_1 := fZ BK643 1;have hcz54_0 := y0 BK642;have hcz54_1 := y1 BK642;have hfz54_0 := fZ BK642 0;have hfz54_1 := fZ BK642 1;go_wp2;refine bodyPost_ret (results_cell_row rfl _ _ gb642 70 #[.bool xqh_1,.int .i64 xqg_1] (0,0) _ rfl (kP BK642) Try.underlying70 rfl (by kernel_rfl)) rfl ?_;exact eR (bN HB)
theorem ZK.has57 : HasFn 57 := ⟨_, Try.func57, by kernel_rfl, rfl⟩
theorem ZK.hv57 : ∀ (k : Nat) (A : Option Addr) (c : Nat) (xs : List S70) (r1 : Bool) (r2 : Int) (w : World), Kd.C k70 w A xs.length xs → xs.length ≤ c → Zr.f k xs = some (r1, r2) → Calls Try.prog 57 (#[.slice A xs.length c] ++ #[]) w fun e w' => e = .returned (.agg #[.bool r1, .int .i64 r2]) ∧ Below w.heap.size w w' := by
 intro k A c xs r1 r2 w hr hc h;rw [Array.append_empty];exact Zr.calls k A c xs r1 r2 w hr hc h
def ZK.l0 : Nat → Int → List Int → List (S70) → Int → Int → Option (List Int × Int)
 | 0,_,_,_,_,_ => none
 | k + 1,x5,x6,x15,x16,x17 => if x17 < x16 then (if 0 ≤ x17 then (if x17 < (x15.length : Int) then (if x6.length < 17592186044416 then (ZK.l0 k x5 (x6 ++ [(rd_T70 x15 x17).f1]) x15 x16 (wrap64 (x17 + 1))) else (none)) else (none)) else (none)) else (some (x6,x5))
def ZK.f (k : Nat) (l0_0 : List (List Int)) : Option (List Int × Int) := (ZJ.f Zr.f k l0_0).bind fun bt664 => (ZK.l0 k bt664.2 (([] : List Int)) bt664.1 (bt664.1.length : Int) 0)
theorem ZK.mono_l : ∀ k, (∀ y0 y1 y2 y3 y4, LeO (ZK.l0 k y0 y1 y2 y3 y4) (ZK.l0 (k + 1) y0 y1 y2 y3 y4))
 | 0 => fun _ _ _ _ _ r h => by simp [ZK.l0] at h
 | k + 1 => by
  have ih0 := ZK.mono_l k
  ·intro y0 y1 y2 y3 y4;unfold ZK.l0
   repeat' first | (with_reducible exact ih0 _ _ _ _ _) | (with_reducible exact ZJ.mono Zr.f Zr.mono _ _) | (with_reducible exact LeO.refl _) | (with_reducible exact LeO.none _) | (with_reducible refine LeO.ite ?_ ?_) | (with_reducible refine LeO.bind ?_ (fun _ => ?_))
theorem ZK.mono : ∀ a0 k, LeO (ZK.f k a0) (ZK.f (k + 1) a0) := by
 intro a0 k;have ih0 := ZK.mono_l k;unfold ZK.f
 repeat' first | (with_reducible exact ih0 _ _ _ _ _) | (with_reducible exact ZJ.mono Zr.f Zr.mono _ _) | (with_reducible exact LeO.refl _) | (with_reducible exact LeO.none _) | (with_reducible refine LeO.ite ?_ ?_) | (with_reducible refine LeO.bind ?_ (fun _ => ?_))
theorem ZK.calls (k : Nat) (A0_0 : Option Addr) (c0_0 : Nat) (l0_0 : List (List Int)) (r1 : List Int) (r2 : Int) (w : World) (hr0_0 : Kd.C (Kd.slice 2 (Kd.int .i64)) w A0_0 l0_0.length l0_0) (hc0_0 : l0_0.length ≤ c0_0) (h : ZK.f k l0_0 = some (r1, r2)) :
 Calls Try.prog 19 #[.agg #[.slice A0_0 l0_0.length c0_0]] w fun e w' => ∃ v0_ : Value,e = .returned (.tuple #[v0_,.int .i64 r2]) ∧ Kd.R (Kd.int .i64) 2 w' w.heap.size (fun _ => True) v0_ r1 ∧ Below w.heap.size w w' := by
 have hu26 := Try.underlying26;have hu70 := Try.underlying70;have HR0_0 := aK hr0_0;have HC0_0 := aK hc0_0;clear hr0_0 hc0_0;have HB := aK (Below.refl w.heap.size w);have H := h;clear h;unfold ZK.f at H;replace H := bE H;obtain ⟨⟨t664,t667⟩,A2,H⟩ := H;dsimp only at H;obtain ⟨y668,hy668⟩ : ∃ y_ : List Int,y_ = (([] : List Int)) := ⟨_,rfl⟩;rw [← hy668] at H;have Ny668 := aK hy668;clear hy668;have H' := aK H;clear H;go_enter Try.func19,Try.ntmps19
 go_wp2_with ((with_reducible refine wP ?_);first | (refine boxE 1 #[.slice A0_0 l0_0.length c0_0] 26 ?_;intro gb663 hg w3 hbox hb;have BK663 := aK (hbox);have GW663 := aK (zG HB hg);have GE663 := aK (zG HB hg);replace HB := hB HB hb;clear hb hbox hg;have hcz4_0 := z0 BK663;have hfz4_0 := fZ BK663 0) | (refine gS 11 Try.func56 (ZJ.calls Zr.f 57 #[] ZK.has57 ZK.hv57 k _ _ l0_0 t664 t667 _ (cB HR0_0 HB) HC0_0.out A2.out) ?_;rintro e w5 ⟨v665,rfl,ho0,hb⟩;refine ⟨_,rfl,?_⟩;have HO666 := rl ho0 HB;replace BK663 := kB BK663 hb;replace HB := hB HB hb;clear hb ho0) | (refine Kd.R_lit (Kd.int .i64) _ 2 ?hg (N := 14) ?hd (xs := ([] : List Int)) (inner := []) (ok := fun _ => True) (okp := fun _ => True) ?hr ?hp (fun _ hk => hk) trivial (Below.refl _ _) (Nat.le_refl _) (by simp) ?_;(case hd => rfl);(case hg => rfl);(case hr => first | (go_simp;done) | (go_simp;rfl));(case hp => exact (Reps.none _ _));intro v669 w6 ho7 hb hg_ hnew_;clear hg_ hnew_;(first | rw [← Ny668.out] at ho7 | (simp only [Int.reduceToNat] at ho7;rw [← Ny668.out] at ho7));replace HO666 := rB HO666 hb;have HO670 := rl ho7 HB;replace BK663 := kB BK663 hb;replace HB := hB HB hb;clear hb ho7;obtain ⟨Ao8,co8,eo8⟩ := Kd.R_slice HO666.out;subst eo8))
 go_loopg [6,17] k (fun kq v6 v17 w' => ∃ (x6_1 : List Int) (x17_1 : Int),v17 = .int .i64 x17_1 ∧ Aside0 (ZK.l0 kq t667 x6_1 t664 (t664.length : Int) x17_1 = some (r1,r2)) ∧ Aside0 (kq ≤ k) ∧ Aside0 (Kd.R (Kd.int .i64) 2 w' w.heap.size (fun _ => True) v6 x6_1) ∧ Aside0 (Kd.R k70 70 w' w.heap.size (fun _ => True) (.slice Ao8 t664.length co8) t664) ∧ Aside0 (w'.heap[gb663]? = some (.cells #[(.slice A0_0 l0_0.length c0_0)] 26 (0,0))) ∧ Aside0 (Below w.heap.size w w'))
 case atStart => exact ⟨(y668),(0),rD,H',⟨Nat.le_refl _⟩,⟨rN HO670⟩,⟨rN HO666⟩,⟨kN BK663⟩,⟨bN HB⟩⟩
 case round =>
  clear H';clear hcz4_0 hfz4_0;obtain ⟨x6_1,x17_1,rfl,HA,HK1,HO_6,HO_15,BK663,HB⟩ := hrel
  cases gk with
  | zero => exact absurd HA.out (by simp [ZK.l0])
  | succ k1 =>
   have H := HA.out;clear HA;simp only [ZK.l0] at H;replace H := iT H;obtain ⟨c9b0,H⟩|⟨c9b0,H⟩ := H
   ·replace H := iP H;obtain ⟨c10b0,H⟩ := H;replace H := iP H;obtain ⟨c11b0,H⟩ := H;replace H := iA H;obtain ⟨LMc12,H⟩ := H;obtain ⟨y673,hy673⟩ : ∃ y_ : List Int,y_ = (x6_1 ++ [(rd_T70 t664 x17_1).f1]) := ⟨_,rfl⟩;rw [← hy673] at H;have Ny673 := aK hy673;clear hy673;have H' := aK H;clear H;have p671 : 0 ≤ (x17_1 : Int) := dT;have q671 : x17_1 < (t664.length : Int) := dT;obtain ⟨ad671,e671,hx671_0,hx671_1⟩ := at_T70 (rr HO_15) x17_1 p671 q671;cases e671;replace p671 := eq_true p671;replace q671 := eq_true q671
    go_wp2_with (first | ((with_reducible refine wP ?_);refine boxE 8 #[.bool false,.int .i64 0] 70 ?_;intro gb672 hg w13 hbox hb;replace HO_6 := rB HO_6 hb;replace HO_15 := aK (Kd.R_below (Kd.R_elderB (rN HO_15) gb672 (Nat.le_of_eq hg.symm)) hb);have BK672 := aK (hbox);have GW672 := aK (zG HB hg);have GE672 := aK (zG HB hg);replace HB := hB HB hb;obtain ⟨NB663_672,NB672_663⟩ := nG hg BK663;replace BK663 := kB BK663 hb;clear hb hbox hg;have hnb14 := NB672_663.out;have hnc14 := NB663_672.out;have hcz15_0 := y0 BK672;have hcz15_1 := y1 BK672;have hfz15_0 := fZ BK672 0;have hfz15_1 := fZ BK672 1) | ((with_reducible refine gate_builtin (b := .append) (xs := #[.tmp 21,.tmp 24]) rfl ?_);at_builtin;refine Kd.R_append (Kd.int .i64) (w0 := w) w.heap.size rfl (.tmp 21) (.tmp 24) 29 2 (.int .i64 0) 8 rfl Try.underlying29 info2 rfl (by decide) (by omega) u6 x6_1 ((rd_T70 t664 x17_1).f1) [.int .i64 ((rd_T70 t664 x17_1).f1)] (fun _ => True) (fun _ => False) rfl (by first | (go_simp;done) | (go_simp;rfl)) ?aP (fun _ hk => hk.elim) ?aF ?aO ?aB ?aS ?aL ?_;(case aP => exact rfl);(case aB => exact (bN HB));(case aF => exact (fun _ _ => trivial));(case aO => exact (rM (Kd.R_mono (Kd.R_far (p := ⟨gb672,1,none⟩) (Kd.R_far (p := ⟨gb672,0,none⟩) (Kd.R_types HO_6.out BK672.out (by decide)) (fun _ hk => hk.2) (.bool ((rd_T70 t664 x17_1).f0))) (fun _ hk => hk.2) (.int .i64 ((rd_T70 t664 x17_1).f1))) (fun _ hk => trivial))));(case aS => exact (below_size (bN HB)));(case aL => have := LMc12.out;omega);intro v674 w16 ho hb hg hat;rw [← Ny673.out] at ho;replace HO_15 := aK (Kd.R_over' (rM ((Kd.R_mono (Kd.R_far (p := ⟨gb672,1,none⟩) (Kd.R_far (p := ⟨gb672,0,none⟩) (Kd.R_mono HO_15.out (fun k_ hk => (⟨hk,hk.2⟩ : _ ∧ k_ ≠ gb672))) (fun _ hk => hk.2) (.bool ((rd_T70 t664 x17_1).f0))) (fun _ hk => hk.2) (.int .i64 ((rd_T70 t664 x17_1).f1))) (fun _ h_ => h_.1)))) (Kd.R_typed (rM ((Kd.R_mono (Kd.R_far (p := ⟨gb672,1,none⟩) (Kd.R_far (p := ⟨gb672,0,none⟩) (Kd.R_types HO_6.out BK672.out (by decide)) (fun _ hk => hk.2) (.bool ((rd_T70 t664 x17_1).f0))) (fun _ hk => hk.2) (.int .i64 ((rd_T70 t664 x17_1).f1))) (fun _ h_ => h_.1))))) (by decide) hg);replace BK663 := aK (blk_grown (g := gb663) (o := .cells #[.slice A0_0 l0_0.length c0_0] 26 (0,0)) (kZ BK663) hg (Kd.R_ne HO_6.out BK663.out (by decide)));replace BK672 := aK (blk_grown (g := gb672) (o := .cells #[.bool ((rd_T70 t664 x17_1).f0),.int .i64 ((rd_T70 t664 x17_1).f1)] 70 (0,0)) (kP BK672) hg (Kd.R_ne HO_6.out BK672.out (by decide)));replace HB := aK (hb);have HO675 := aK (ho);clear HO_6;clear ho hb hg hat))
    go_roundg k1
    case measure => have := HK1.out;omega
    case rel => exact ⟨(y673),(wrap64 (x17_1 + 1)),rD,H',o1 HK1,⟨rN HO675⟩,rW HO_15,⟨kN BK663⟩,⟨bN HB⟩⟩
   ·simp only [Option.some.injEq,Prod.mk.injEq] at H;obtain ⟨rfl,rfl⟩ := H;go_wp2;go_ret2;exact ⟨_,eR ⟨by (with_reducible repeat (first | apply Kd.R_alloc | apply Kd.R_drewN | apply Kd.R_drew));exact HO_6.out,(bN HB)⟩⟩
theorem l01In_eq (a b c : Int) : Zac.f a b c = some (decide (b ≤ a) && decide (a ≤ c)) := by
 unfold Zac.f
 by_cases h : b ≤ a <;> simp [h]
theorem within_eq (a b c : Int) : Zaa.f a b c = some (decide (b ≤ a) && decide (a ≤ c)) := by
 unfold Zaa.f
 by_cases h : b ≤ a <;> simp [h]
theorem ev_add {α : Type} {g f : Nat → Option α} {r : α} (n : Nat) (h : ∀ k, g (k + n) = f k) (k : Ev f r) : Ev g r := by
 obtain ⟨K,hK⟩ := k
 refine ⟨K + n,fun m hm => ?_⟩
 obtain ⟨d,rfl⟩ : ∃ d,m = d + n := ⟨m - n,by omega⟩
 rw [h]
 exact hK d (by omega)
def firstOf (a b : Bool) (x y : Int) : Int := if a = true then (if b = true then 0 else y) else x
theorem first2_ev (a b : Bool) (x y : Int) : Ev (fun k => ZZ.f k (([(⟨a, x⟩ : S82), (⟨b, y⟩ : S82)] : List (S82)))) (firstOf a b x y) := by
 cases a <;> cases b
 ·exact ev_add (f := fun _ => some x) 3 (fun k => by kernel_rfl) (Ev.now _)
 ·exact ev_add (f := fun _ => some x) 3 (fun k => by kernel_rfl) (Ev.now _)
 ·exact ev_add (f := fun _ => some y) 3 (fun k => by kernel_rfl) (Ev.now _)
 ·exact ev_add (f := fun _ => some 0) 3 (fun k => by kernel_rfl) (Ev.now _)
def okRow (last n : Int) : List Int → Bool
 | [] => true
 | x :: r => decide (last < x) && (decide (x < n) && okRow x n r)
def okRows (n : Int) : Int → List (List Int) → Bool
 | _,[] => true
 | p,row :: rest => okRow p n row && okRows n (p + 1) rest
def isGame (g : List (List Int)) : Bool := decide (1 ≤ g.length) && (decide (g.length ≤ 40) && okRows g.length 0 g)
theorem is_row (g : List (List Int)) (row : List Int) (p : Nat) (hp : g[p]? = some row) (hl : row.length < 4611686018427387904) (hg : g.length < 4611686018427387904) (v : Bool)
 (hv : Ev (fun k => Zp.l0 k (g.length : Int) ((p + 1 : Nat) : Int) g) v) (d : Nat) :
 ∀ (i : Nat) (last : Int),i + d = row.length → Ev (fun k => Zp.l1 k (g.length : Int) (p : Int) last (i : Int) g) (okRow last g.length (row.drop i) && v) := by
 have hpl : p < g.length := (List.getElem?_eq_some_iff.1 hp).1
 have hr : rd_L2 g (p : Int) = row := by rw [rdL2_nat];exact getD_of hp
 induction d with
 | zero =>
  intro i last hd
  have e : row.drop i = [] := List.drop_eq_nil_of_le (by omega)
  rw [e]
  refine Ev.step (fun k => ?_) (r := v) (show Ev _ _ from hv)
  simp only [Zp.l1]
  rw [if_pos (by omega),if_pos (by omega),hr,if_neg (by omega),wrapS (by omega) (by omega),cast_succ]
 | succ d ih =>
  intro i last hd
  obtain ⟨x,hx⟩ := get_some (xs := row) (i := i) (by omega)
  have hrx : rd row (i : Int) = x := by rw [rd_nat];exact getD_of hx
  have h1 : ∀ k,Zp.l1 (k + 1) (g.length : Int) (p : Int) last (i : Int) g = (if x ≤ last then (some false) else (if x ≥ (g.length : Int) then (some false) else (Zp.l1 k (g.length : Int) (p : Int) x ((i + 1 : Nat) : Int) g))) := fun k => by
   simp only [Zp.l1]
   rw [if_pos (by omega),if_pos (by omega),hr,if_pos (by omega),if_pos (by omega),hrx,wrapS (by omega) (by omega),cast_succ]
  rw [drop_of hx]
  simp only [okRow]
  by_cases c1 : x ≤ last
  ·have : (decide (last < x)) = false := by simp;omega
   rw [this]
   exact Ev.step (fun k => by rw [h1,if_pos c1]) (Ev.now false)
  ·have : (decide (last < x)) = true := by simp;omega
   rw [this]
   by_cases c2 : x ≥ (g.length : Int)
   ·have : (decide (x < (g.length : Int))) = false := by simp;omega
    rw [this]
    exact Ev.step (fun k => by rw [h1,if_neg c1,if_pos c2]) (Ev.now false)
   ·have : (decide (x < (g.length : Int))) = true := by simp;omega
    rw [this]
    simp only [Bool.true_and]
    exact Ev.step (fun k => by rw [h1,if_neg c1,if_neg c2]) (ih (i + 1) x (by omega))
theorem is_rows (g : List (List Int)) (hl : ∀ row ∈ g, row.length < 4611686018427387904) (hg : g.length < 4611686018427387904) (d : Nat) :
 ∀ p : Nat,p + d = g.length → Ev (fun k => Zp.l0 k (g.length : Int) (p : Int) g) (okRows g.length p (g.drop p)) := by
 induction d with
 | zero =>
  intro p hd
  rw [List.drop_eq_nil_of_le (by omega)]
  refine Ev.step (f := fun _ => some true) (fun k => ?_) (Ev.now true)
  simp only [Zp.l0];rw [if_neg (by omega)]
 | succ d ih =>
  intro p hd
  obtain ⟨row,hp⟩ := get_some (xs := g) (i := p) (by omega)
  rw [drop_of hp]
  simp only [okRows,cast_succ]
  refine Ev.step (fun k => ?_) (is_row g row p hp (hl row (List.mem_of_getElem? hp)) hg _ (ih (p + 1) (by omega)) row.length 0 (p : Int) (by omega))
  simp only [Zp.l0];rw [if_pos (by omega)];rfl
theorem l01Is_ev (g : List (List Int)) (hl : ∀ row ∈ g, row.length < 4611686018427387904) (hg : g.length < 4611686018427387904) : Ev (fun k => Zp.f k g) (isGame g) := by
 have hin : Zac.f (g.length : Int) 1 40 = some (decide (1 ≤ g.length) && decide (g.length ≤ 40)) := by
  unfold Zac.f
  by_cases h : (g.length : Int) ≥ 1
  ·rw [if_pos h]
   have : decide (1 ≤ g.length) = true := decide_eq_true (by omega)
   have e2 : decide ((g.length : Int) ≤ 40) = decide (g.length ≤ 40) := by rw [decide_eq_decide];omega
   rw [this,Bool.true_and,e2]
  ·rw [if_neg h]
   have : decide (1 ≤ g.length) = false := decide_eq_false (by omega)
   rw [this];rfl
 unfold isGame
 by_cases h1 : (decide (1 ≤ g.length) && decide (g.length ≤ 40)) = true
 ·have h2 : (decide (1 ≤ g.length) = true) ∧ (decide (g.length ≤ 40) = true) := by simpa using h1
  rw [h2.1,h2.2]
  simp only [Bool.true_and]
  refine Ev.congr (fun k => ?_) (is_rows g hl hg g.length 0 (by omega))
  unfold Zp.f Zq.f
  simp only [Option.bind_some,hin]
  rw [if_pos h1];rfl
 ·have h2 : (decide (1 ≤ g.length) && (decide (g.length ≤ 40) && okRows (g.length : Int) 0 g)) = false := by
   cases a : decide (1 ≤ g.length) <;> cases b : decide (g.length ≤ 40) <;> simp_all
  rw [h2]
  refine Ev.congr (f := fun _ => some false) (fun k => ?_) (Ev.now false)
  unfold Zp.f Zq.f
  simp only [Option.bind_some,hin]
  rw [if_neg h1]
theorem rising_loop (xs : List Int) (lo hi : Int) (hl : xs.length < 4611686018427387904) (d : Nat) :
 ∀ (i : Nat) (last : Int),i + d = xs.length → (if i = 0 then last = lo - 1 else xs[i - 1]? = some last) → lo - 1 ≤ last → Ev (fun k => ZG.l0 k xs lo hi xs (xs.length : Int) (i : Int)) (okRow last (hi + 1) (xs.drop i)) := by
 have hw : ∀ a b c : Int,Zaa.f a b c = some (decide (b ≤ a) && decide (a ≤ c)) := by
  intro a b c
  unfold Zaa.f
  by_cases h : b ≤ a <;> simp [h]
 induction d with
 | zero =>
  intro i last hd _ _
  rw [List.drop_eq_nil_of_le (by omega)]
  refine Ev.step (f := fun _ => some true) (fun k => ?_) (Ev.now true)
  simp only [ZG.l0];rw [if_neg (by omega)]
 | succ d ih =>
  intro i last hd hlast hge
  obtain ⟨x,hx⟩ := get_some (xs := xs) (i := i) (by omega)
  have hrx : rd xs (i : Int) = x := by rw [rd_nat];exact getD_of hx
  rw [drop_of hx]
  simp only [okRow]
  have hn := ih (i + 1) x (by omega) (by rw [if_neg (by omega)];simpa using hx)
  by_cases h0 : i = 0
  ·subst h0
   rw [if_pos rfl] at hlast
   subst hlast
   have h1 : ∀ k,ZG.l0 (k + 1) xs lo hi xs (xs.length : Int) ((0 : Nat) : Int) = (if (decide (lo ≤ x) && decide (x ≤ hi)) = true then (ZG.l0 k xs lo hi xs (xs.length : Int) ((0 + 1 : Nat) : Int)) else (some false)) := fun k => by
    simp only [ZG.l0]
    rw [if_pos (by omega),if_pos (by omega),if_pos (by omega),hrx,hw]
    simp only [Option.bind_some]
    rw [if_neg (show ¬ (((0 : Nat) : Int) > 0) by omega),wrapS (by omega) (by omega),cast_succ]
   by_cases c : (decide (lo ≤ x) && decide (x ≤ hi)) = true
   ·have c' : lo ≤ x ∧ x ≤ hi := by simpa using c
    have e1 : decide (lo - 1 < x) = true := by simp;omega
    have e2 : decide (x < hi + 1) = true := by simp;omega
    rw [e1,e2]
    simp only [Bool.true_and]
    exact Ev.step (fun k => by rw [h1,if_pos c]) (hn (by omega))
   ·have e : (decide (lo - 1 < x) && (decide (x < hi + 1) && okRow x (hi + 1) (xs.drop (0 + 1)))) = false := by
     cases a : decide (lo - 1 < x) <;> cases b : decide (x < hi + 1) <;> simp_all <;> omega
    rw [e]
    exact Ev.step (fun k => by rw [h1,if_neg c]) (Ev.now false)
  ·rw [if_neg h0] at hlast
   have hw1 : wrap64 ((i : Int) - 1) = ((i - 1 : Nat) : Int) := by rw [wrapS (by omega) (by omega)];omega
   have hrl : rd xs ((i - 1 : Nat) : Int) = last := by
    rw [rd_nat]
    exact getD_of hlast
   have h1 : ∀ k,ZG.l0 (k + 1) xs lo hi xs (xs.length : Int) (i : Int) = (if (decide (lo ≤ x) && decide (x ≤ hi)) = true then (if x ≤ last then (some false) else (ZG.l0 k xs lo hi xs (xs.length : Int) ((i + 1 : Nat) : Int))) else (some false)) := fun k => by
    simp only [ZG.l0]
    rw [if_pos (by omega),if_pos (by omega),if_pos (by omega),hrx,hw]
    simp only [Option.bind_some]
    rw [if_pos (show ((i : Int) > 0) by omega),hw1,if_pos (show (0 : Int) ≤ ((i - 1 : Nat) : Int) by omega),if_pos (show ((i - 1 : Nat) : Int) < (xs.length : Int) by omega),hrl,wrapS (by omega) (by omega),cast_succ]
   by_cases c1 : x ≤ last
   ·have e : decide (last < x) = false := by simp;omega
    rw [e]
    refine Ev.step (f := fun _ => some false) (fun k => ?_) (Ev.now false)
    rw [h1,if_pos c1];split <;> rfl
   ·have e : decide (last < x) = true := by simp;omega
    rw [e]
    simp only [Bool.true_and]
    by_cases c2 : x ≤ hi
    ·have e2 : decide (x < hi + 1) = true := by simp;omega
     rw [e2]
     simp only [Bool.true_and]
     exact Ev.step (fun k => by rw [h1,if_pos (by simp;omega),if_neg c1]) (hn (by omega))
    ·have e2 : decide (x < hi + 1) = false := by simp;omega
     rw [e2]
     exact Ev.step (fun k => by rw [h1,if_neg (by simp;omega)]) (Ev.now false)
theorem rising_ev (xs : List Int) (lo hi : Int) (hl : xs.length < 4611686018427387904) : Ev (fun k => ZG.f k xs lo hi) (okRow (lo - 1) (hi + 1) xs) := by
 have := rising_loop xs lo hi hl xs.length 0 (lo - 1) (by omega) (by simp) (by omega)
 exact this
theorem isg_loop (g : List (List Int)) (hl : ∀ row ∈ g, row.length < 4611686018427387904) (hg : g.length < 4611686018427387904) (d : Nat) :
 ∀ p : Nat,p + d = g.length → Ev (fun k => ZC.l0 k (g.length : Int) g (g.length : Int) (p : Int)) (okRows g.length p (g.drop p) && (decide (1 ≤ g.length) && decide (g.length ≤ 40))) := by
 induction d with
 | zero =>
  intro p hd
  rw [List.drop_eq_nil_of_le (by omega)]
  refine Ev.step (f := fun _ => some (decide (1 ≤ g.length) && decide (g.length ≤ 40))) (fun k => ?_) (by simp only [okRows,Bool.true_and];exact Ev.now _)
  simp only [ZC.l0];rw [if_neg (by omega)]
  unfold Zaa.f
  by_cases h : (1 : Int) ≤ (g.length : Int)
  ·rw [if_pos h]
   have e : decide (1 ≤ g.length) = true := decide_eq_true (by omega)
   rw [e];simp;omega
  ·rw [if_neg h]
   have e : decide (1 ≤ g.length) = false := decide_eq_false (by omega)
   rw [e];simp
 | succ d ih =>
  intro p hd
  obtain ⟨row,hp⟩ := get_some (xs := g) (i := p) (by omega)
  have hr : rd_L2 g (p : Int) = row := by rw [rdL2_nat];exact getD_of hp
  rw [drop_of hp]
  simp only [okRows,cast_succ]
  have hrow := rising_ev row (wrap64 ((p : Int) + 1)) (wrap64 ((g.length : Int) - 1)) (hl row (List.mem_of_getElem? hp))
  rw [wrapS (by omega) (by omega),wrapS (by omega) (by omega),show (p : Int) + 1 - 1 = (p : Int) by omega,show (g.length : Int) - 1 + 1 = (g.length : Int) by omega] at hrow
  have hn := ih (p + 1) (by omega)
  refine Ev.step (f := fun k => (ZG.f k row ((p : Int) + 1) ((g.length : Int) - 1)).bind fun t => if t = true then (ZC.l0 k (g.length : Int) g (g.length : Int) ((p + 1 : Nat) : Int)) else (some false)) (fun k => ?_) (Ev.bind hrow ?_)
  ·simp only [ZC.l0]
   rw [if_pos (by omega),if_pos (by omega),if_pos (by omega),hr,wrapS (i := (p : Int) + 1) (by omega) (by omega),wrapS (i := (g.length : Int) - 1) (by omega) (by omega),cast_succ]
  ·cases okRow (p : Int) (g.length : Int) row with
   | true => simp only [Bool.true_and];exact Ev.congr (fun k => by simp) hn
   | false => exact Ev.congr (f := fun _ => some false) (fun k => by simp) (Ev.now false)
theorem IsGame_ev (g : List (List Int)) (hl : ∀ row ∈ g, row.length < 4611686018427387904) (hg : g.length < 4611686018427387904) : Ev (fun k => ZC.f k g) (isGame g) := by
 have := isg_loop g hl hg g.length 0 (by omega)
 have e : isGame g = (okRows (g.length : Int) ((0 : Nat) : Int) (g.drop 0) && (decide (1 ≤ g.length) && decide (g.length ≤ 40))) := by
  unfold isGame
  rw [List.drop_zero]
  cases decide (1 ≤ g.length) <;> cases decide (g.length ≤ 40) <;> simp
 rw [e]
 exact this
theorem okRow_mem {n : Int} : ∀ {xs : List Int} {last : Int}, okRow last n xs = true → ∀ q ∈ xs, last < q ∧ q < n
 | [],_,_,q,h => by simp at h
 | x :: r,last,h,q,hq => by
  simp only [okRow,Bool.and_eq_true,decide_eq_true_eq] at h
  rcases List.mem_cons.1 hq with rfl | hq
  ·exact ⟨h.1,h.2.1⟩
  ·have := okRow_mem h.2.2 q hq
   exact ⟨by omega,this.2⟩
theorem okRow_len {n : Int} : ∀ {xs : List Int} {last : Int}, okRow last n xs = true → last < n → (xs.length : Int) ≤ n - 1 - last
 | [],last,_,h => by simp only [List.length_nil];omega
 | x :: r,last,h,hl => by
  simp only [okRow,Bool.and_eq_true,decide_eq_true_eq] at h
  have := okRow_len h.2.2 h.2.1
  simp only [List.length_cons]
  omega
theorem okRows_get {n : Int} : ∀ {g : List (List Int)} {p : Int} {i : Nat} {row : List Int}, okRows n p g = true → g[i]? = some row → okRow (p + i) n row = true
 | [],_,_,_,_,h => by simp at h
 | x :: r,p,i,row,h,hi => by
  simp only [okRows,Bool.and_eq_true] at h
  cases i with
  | zero =>
   simp only [List.getElem?_cons_zero,Option.some.injEq] at hi
   subst hi
   simpa using h.1
  | succ i =>
   simp only [List.getElem?_cons_succ] at hi
   have := okRows_get h.2 hi
   rw [show p + ((i + 1 : Nat) : Int) = p + 1 + i by omega]
   exact this
theorem game_row {g : List (List Int)} (h : isGame g = true) {p : Nat} {row : List Int} (hp : g[p]? = some row) :
 (∀ q ∈ row,(p : Int) < q ∧ q < g.length) ∧ row.length ≤ 40 := by
 simp only [isGame,Bool.and_eq_true,decide_eq_true_eq] at h
 have hr := okRows_get h.2.2 hp
 have hl : p < g.length := (List.getElem?_eq_some_iff.1 hp).1
 have h1 := okRow_mem hr
 have h2 := okRow_len hr (by omega)
 exact ⟨fun q hq => ⟨by have := h1 q hq;omega,(h1 q hq).2⟩,by omega⟩
theorem game_len {g : List (List Int)} (h : isGame g = true) : 1 ≤ g.length ∧ g.length ≤ 40 := by
 simp only [isGame,Bool.and_eq_true,decide_eq_true_eq] at h
 exact ⟨h.1,h.2.1⟩
def backAt {α : Type} (sem : List α → α) (z : α) (g : List (List Int)) : Nat → List α
 | 0 => []
 | d + 1 => sem ((g.getD (g.length - (d + 1)) []).map fun q => (backAt sem z g d).getD (q.toNat - (g.length - d)) z) :: backAt sem z g d
theorem backAt_length {α : Type} (sem : List α → α) (z : α) (g : List (List Int)) : ∀ d, (backAt sem z g d).length = d
 | 0 => rfl
 | d + 1 => by simp only [backAt,List.length_cons,backAt_length sem z g d]
def backs {α : Type} (sem : List α → α) (z : α) (g : List (List Int)) : List α := backAt sem z g g.length
def seen {α : Type} (sem : List α → α) (z : α) (g : List (List Int)) (p d : Nat) (row : List Int) : List α := row.map fun q => (backAt sem z g d).getD (q.toNat - (p + 1)) z
theorem backAt_succ {α : Type} (sem : List α → α) (z : α) (g : List (List Int)) (p d : Nat) (row : List Int) (hg : g.length = p + 1 + d) (hp : g[p]? = some row) :
 backAt sem z g (d + 1) = sem (seen sem z g p d row) :: backAt sem z g d := by
 simp only [backAt,seen]
 rw [show g.length - (d + 1) = p by omega,show g.length - d = p + 1 by omega,getD_of hp]
theorem arr_get {α : Type} (z : α) (m : Nat) (bs : List α) (q : Nat) (h : m ≤ q) : (List.replicate m z ++ bs).getD q z = bs.getD (q - m) z := by
 rw [List.getD_eq_getElem?_getD,List.getD_eq_getElem?_getD,List.getElem?_append_right (by simpa using h),List.length_replicate]
theorem arr_set {α : Type} (z v : α) (p : Nat) (bs : List α) : (List.replicate (p + 1) z ++ bs).set p v = List.replicate p z ++ v :: bs := by
 rw [List.replicate_succ',List.append_assoc,List.set_append_right _ _ (by simp)]
 simp
theorem seen_all {α : Type} (sem : List α → α) (z : α) (Q : α → Prop) (g : List (List Int)) (p d : Nat) (row : List Int) (hg : g.length = p + 1 + d)
 (hq : ∀ q ∈ row,(p : Int) < q ∧ q < g.length) (hb : ∀ x ∈ backAt sem z g d,Q x) : ∀ x ∈ seen sem z g p d row,Q x := by
 intro x hx
 obtain ⟨q,hm,rfl⟩ := List.mem_map.1 hx
 have h := hq q hm
 have hl : q.toNat - (p + 1) < (backAt sem z g d).length := by rw [backAt_length];omega
 rw [List.getD_eq_getElem?_getD,List.getElem?_eq_getElem hl]
 exact hb _ (List.getElem_mem hl)
theorem backAt_all {α : Type} (sem : List α → α) (z : α) (Q : α → Prop) (g : List (List Int)) (h : isGame g = true) (hs : ∀ xs : List α, xs.length ≤ 40 → (∀ x ∈ xs, Q x) → Q (sem xs)) :
 ∀ d,d ≤ g.length → ∀ x ∈ backAt sem z g d,Q x
 | 0,_,x,hx => by simp [backAt] at hx
 | d + 1,hd,x,hx => by
  obtain ⟨p,hp⟩ : ∃ p,g.length = p + 1 + d := ⟨g.length - (d + 1),by omega⟩
  obtain ⟨row,hr⟩ := get_some (xs := g) (i := p) (by omega)
  have ih := backAt_all sem z Q g h hs d (by omega)
  have hw := game_row h hr
  rw [backAt_succ sem z g p d row hp hr] at hx
  rcases List.mem_cons.1 hx with rfl | hx
  ·exact hs _ (by simp only [seen,List.length_map];exact hw.2) (seen_all sem z Q g p d row hp hw.1 ih)
  ·exact ih x hx
theorem len_le {l : List Nat} : ∀ {l' : List Nat}, l.Nodup → (∀ x ∈ l, x ∈ l') → l.length ≤ l'.length := by
 induction l with
 | nil => intro l' _ _;simp
 | cons x t ih =>
  intro l' nd h
  have hx : x ∈ l' := h x List.mem_cons_self
  have nd' := List.nodup_cons.1 nd
  have := ih (l' := l'.erase x) nd'.2 (fun y hy => by
   have hne : y ≠ x := fun e => nd'.1 (e ▸ hy)
   exact (List.mem_erase_of_ne hne).2 (h y (List.mem_cons_of_mem _ hy)))
  rw [List.length_erase_of_mem hx] at this
  have hp : 0 < l'.length := List.length_pos_of_mem hx
  simp only [List.length_cons]
  omega
theorem missing (xs : List Int) : ∃ n : Nat, n ≤ xs.length ∧ (n : Int) ∉ xs := by
 apply Classical.byContradiction
 intro hc
 have h : ∀ n : Nat,n ≤ xs.length → (n : Int) ∈ xs := fun n hn => Classical.byContradiction fun h => hc ⟨n,hn,h⟩
 have := len_le (l := List.range (xs.length + 1)) (l' := xs.map Int.toNat) List.nodup_range (fun n hn => by
  rw [List.mem_range] at hn
  exact List.mem_map.2 ⟨(n : Int),h n (by omega),by simp⟩)
 simp at this;omega
def IsMex (xs : List Int) (n : Nat) : Prop := n ≤ xs.length ∧ (n : Int) ∉ xs ∧ ∀ m : Nat, m < n → (m : Int) ∈ xs
theorem mex_ex (xs : List Int) : ∃ n, IsMex xs n := by
 obtain ⟨n,hn,hm⟩ := missing xs
 have : ∀ d : Nat,∀ j : Nat,j + d = n → (∀ m : Nat,m < j → (m : Int) ∈ xs) → ∃ n,IsMex xs n := by
  intro d
  induction d with
  | zero =>
   intro j hj hb
   have : j = n := by omega
   subst this
   exact ⟨j,hn,hm,hb⟩
  | succ d ih =>
   intro j hj hb
   by_cases c : (j : Int) ∈ xs
   ·exact ih (j + 1) (by omega) (fun m hm => by
     rcases Nat.lt_or_ge m j with h | h
     ·exact hb m h
     ·have : m = j := by omega
      subst this;exact c)
   ·exact ⟨j,by omega,c,hb⟩
 exact this n 0 (by omega) (fun m hm => absurd hm (Nat.not_lt_zero _))
noncomputable def mexOf (xs : List Int) : Nat := Classical.choose (mex_ex xs)
theorem mexOf_is (xs : List Int) : IsMex xs (mexOf xs) := Classical.choose_spec (mex_ex xs)
theorem mexOf_eq {xs : List Int} {n : Nat} (h1 : (n : Int) ∉ xs) (h2 : ∀ m : Nat, m < n → (m : Int) ∈ xs) : mexOf xs = n := by
 obtain ⟨_,a,b⟩ := mexOf_is xs
 rcases Nat.lt_trichotomy (mexOf xs) n with h | h | h
 ·exact absurd (h2 _ h) a
 ·exact h
 ·exact absurd (b _ h) h1
theorem index_loop (xs : List Int) (x : Int) (hn : xs.length < 4611686018427387904) (d : Nat) : ∀ i : Nat, i + d = xs.length → ∃ t, Ev (fun k => Zs.l0 k xs x (xs.length : Int) (i : Int)) t ∧ decide (t ≥ 0) = decide (x ∈ xs.drop i) := by
 induction d with
 | zero =>
  intro i hd
  refine ⟨-1,Ev.step (f := fun _ => some (-1)) (fun k => ?_) (Ev.now _),?_⟩
  ·simp only [Zs.l0];rw [if_neg (by omega)]
  ·rw [List.drop_eq_nil_of_le (by omega)];simp
 | succ d ih =>
  intro i hd
  obtain ⟨y,hy⟩ := get_some (xs := xs) (i := i) (by omega)
  have hrx : rd xs (i : Int) = y := by rw [rd_nat];exact getD_of hy
  rw [drop_of hy]
  by_cases c : x = y
  ·refine ⟨(i : Int),Ev.step (f := fun _ => some (i : Int)) (fun k => ?_) (Ev.now _),?_⟩
   ·simp only [Zs.l0];rw [if_pos (by omega),if_pos (by omega),if_pos (by omega),hrx,if_pos c]
   ·rw [decide_eq_true (show x ∈ y :: xs.drop (i + 1) by rw [c];exact List.mem_cons_self),decide_eq_true (by omega)]
  ·obtain ⟨t,ht,he⟩ := ih (i + 1) (by omega)
   refine ⟨t,Ev.step (fun k => ?_) ht,?_⟩
   ·simp only [Zs.l0];rw [if_pos (by omega),if_pos (by omega),if_pos (by omega),hrx,if_neg c,wrapS (by omega) (by omega),cast_succ]
   ·rw [he,decide_eq_decide]
    simp [c]
theorem contains_ev (xs : List Int) (x : Int) (hn : xs.length < 4611686018427387904) : Ev (fun k => ZQ.f k xs x) (decide (x ∈ xs)) := by
 obtain ⟨t,ht,he⟩ := index_loop xs x hn xs.length 0 (by omega)
 rw [List.drop_zero] at he
 rw [← he]
 exact Ev.congr (f := fun k => (Zs.f k xs x).bind fun t => (some (decide (t ≥ 0)))) (fun k => rfl) (Ev.bind ht (Ev.now _))
theorem mexi_loop (xs : List Int) (hn : xs.length < 4611686018427387904) (d : Nat) : ∀ i : Nat, i + d = mexOf xs → Ev (fun k => Zam.l0 k xs (i : Int)) (mexOf xs : Int) := by
 obtain ⟨hl,a,b⟩ := mexOf_is xs
 have st : ∀ i : Nat,∀ k,Zam.l0 (k + 1) xs (i : Int) = (ZQ.f k xs (i : Int)).bind fun t => (if t = true then (Zam.l0 k xs (wrap64 ((i : Int) + 1))) else (some (i : Int))) := fun i k => rfl
 induction d with
 | zero =>
  intro i hd
  have : i = mexOf xs := by omega
  rw [← this] at a ⊢
  refine Ev.step (st i) (Ev.bind (contains_ev xs (i : Int) hn) ?_)
  exact Ev.congr (f := fun _ => some (i : Int)) (fun k => by rw [if_neg (by simp [a])]) (Ev.now _)
 | succ d ih =>
  intro i hd
  refine Ev.step (st i) (Ev.bind (contains_ev xs (i : Int) hn) ?_)
  exact Ev.congr (fun k => by rw [if_pos (by simp [b i (by omega)]),wrapS (by omega) (by omega),cast_succ]) (ih (i + 1) (by omega))
theorem mexi_ev (xs : List Int) (hn : xs.length < 4611686018427387904) : Ev (fun k => Zam.f k xs) (mexOf xs : Int) := mexi_loop xs hn (mexOf xs) 0 (by omega)
theorem rdOf_nat (xs : List Bool) (i : Nat) : rdOf false xs (i : Int) = xs.getD i false := by unfold rdOf; rfl
def MetOf (xs : List Int) (i n : Nat) (met : List Bool) : Prop := met.length = n ∧ ∀ j : Nat, j < n → met.getD j false = decide ((j : Int) ∈ xs.take i)
theorem mexs_end (xs : List Int) (met : List Bool) (hm : MetOf xs xs.length (xs.length + 1) met) (hn : xs.length < 4611686018427387904) (d : Nat) : ∀ i : Nat, i + d = mexOf xs → Ev (fun k => ZH.l1 k met (i : Int)) (mexOf xs : Int) := by
 obtain ⟨hl,a,b⟩ := mexOf_is xs
 obtain ⟨m1,m2⟩ := hm
 rw [List.take_length] at m2
 induction d with
 | zero =>
  intro i hd
  have : i = mexOf xs := by omega
  rw [← this] at a ⊢
  refine Ev.step (f := fun _ => some (i : Int)) (fun k => ?_) (Ev.now _)
  simp only [ZH.l1]
  rw [if_pos (by omega),if_pos (by omega),rdOf_nat,m2 i (by omega),decide_eq_false a]
  rfl
 | succ d ih =>
  intro i hd
  refine Ev.step (fun k => ?_) (ih (i + 1) (by omega))
  simp only [ZH.l1]
  rw [if_pos (by omega),if_pos (by omega),rdOf_nat,m2 i (by omega),decide_eq_true (b i (by omega)),if_pos rfl,wrapS (by omega) (by omega),cast_succ]
theorem mexs_loop (xs : List Int) (hp : ∀ x ∈ xs, 0 ≤ x) (hn : xs.length < 4611686018427387904) (d : Nat) : ∀ (i : Nat) (met : List Bool), i + d = xs.length → MetOf xs i (xs.length + 1) met → Ev (fun k => ZH.l0 k xs met (i : Int)) (mexOf xs : Int) := by
 induction d with
 | zero =>
  intro i met hd hm
  have : i = xs.length := by omega
  subst this
  refine Ev.step (fun k => ?_) (mexs_end xs met hm hn (mexOf xs) 0 (by omega))
  simp only [ZH.l0];rw [if_neg (by omega)];rfl
 | succ d ih =>
  intro i met hd hm
  obtain ⟨x,hx⟩ := get_some (xs := xs) (i := i) (by omega)
  have hrx : rd xs (i : Int) = x := by rw [rd_nat];exact getD_of hx
  have hx0 : 0 ≤ x := hp x (List.mem_of_getElem? hx)
  obtain ⟨m1,m2⟩ := hm
  have htk : ∀ j : Nat,((j : Int) ∈ xs.take (i + 1)) ↔ ((j : Int) ∈ xs.take i ∨ (j : Int) = x) := fun j => by
   obtain ⟨hlt,hxe⟩ := List.getElem?_eq_some_iff.1 hx
   rw [List.take_succ_eq_append_getElem hlt,hxe,List.mem_append,List.mem_singleton]
  by_cases c : x < (met.length : Int)
  ·refine Ev.step (fun k => ?_) (ih (i + 1) (met.set x.toNat true) (by omega) ⟨by rw [List.length_set,m1],fun j hj => ?_⟩)
   ·simp only [ZH.l0];rw [if_pos (by omega),if_pos (by omega),hrx,if_pos c,if_pos hx0,wrapS (by omega) (by omega),cast_succ]
   ·rw [List.getD_eq_getElem?_getD,List.getElem?_set]
    by_cases e : x.toNat = j
    ·rw [if_pos e,if_pos (by omega)]
     rw [decide_eq_true ((htk j).2 (.inr (by omega)))];rfl
    ·rw [if_neg e,← List.getD_eq_getElem?_getD,m2 j hj,decide_eq_decide,htk j]
     constructor
     ·exact .inl
     ·rintro (h | h)
      ·exact h
      ·omega
  ·refine Ev.step (fun k => ?_) (ih (i + 1) met (by omega) ⟨m1,fun j hj => ?_⟩)
   ·simp only [ZH.l0];rw [if_pos (by omega),if_pos (by omega),hrx,if_neg c,wrapS (by omega) (by omega),cast_succ]
   ·rw [m2 j hj,decide_eq_decide,htk j]
    constructor
    ·exact .inl
    ·rintro (h | h)
     ·exact h
     ·omega
theorem mexs_ev (xs : List Int) (hp : ∀ x ∈ xs, 0 ≤ x) (hn : xs.length ≤ 1000000) : Ev (fun k => ZH.f k xs) (mexOf xs : Int) := by
 have h := mexs_loop xs hp (by omega) xs.length 0 (List.replicate (xs.length + 1) false) (by omega) ⟨by simp,fun j hj => by
  rw [List.getD_eq_getElem?_getD,List.getElem?_replicate,if_pos hj];simp⟩
 refine Ev.congr (fun k => ?_) h
 unfold ZH.f
 rw [wrapS (by omega) (by omega),if_pos (by omega),cast_succ,Int.toNat_natCast,if_pos (by omega)]
 rfl
theorem backB_inner (V : Nat → List Bool → Option Bool) (sem : List Bool → Bool) (g : List (List Int)) (p d : Nat) (row : List Int) (v : Bool) (r : List Bool × Int) (hg : g.length = p + 1 + d) (h40 : g.length ≤ 40)
 (hrow : g[p]? = some row) (hq : ∀ q ∈ row,(p : Int) < q ∧ q < g.length) (hl : row.length ≤ 40) (hV : Ev (fun k => V k (seen sem false g p d row)) v)
 (next : Ev (fun k => Zj.l0 V k (List.replicate p false ++ v :: backAt sem false g d) ((p : Int) - 1) g) r) (e : Nat) : ∀ j : Nat,j + e = row.length →
 Ev (fun k => Zj.l1 V k (List.replicate (p + 1) false ++ backAt sem false g d) (p : Int) (seen sem false g p d (row.take j)) row (row.length : Int) (j : Int) g) r := by
 induction e with
 | zero =>
  intro j hj
  have ej : j = row.length := by omega
  subst ej
  rw [List.take_length]
  refine Ev.step (fun k => by simp only [Zj.l1];rw [if_neg (by omega)]) (Ev.bind hV ?_)
  refine Ev.congr (fun k => ?_) next
  ·rw [if_pos (by omega),if_pos (by simp only [List.length_append,List.length_replicate];omega),Int.toNat_natCast,arr_set,wrapS (by omega) (by omega)]
 | succ e ih =>
  intro j hj
  obtain ⟨q,hjq⟩ := get_some (xs := row) (i := j) (by omega)
  have hm := hq q (List.mem_of_getElem? hjq)
  have eq1 : rd row (j : Int) = q := by rw [rd_nat,getD_of hjq]
  have e2 : rdOf false (List.replicate (p + 1) false ++ backAt sem false g d) q = (backAt sem false g d).getD (q.toNat - (p + 1)) false := by
   obtain ⟨n,rfl⟩ : ∃ n : Nat,q = (n : Int) := ⟨q.toNat,by omega⟩
   rw [rdOf_nat,arr_get _ _ _ _ (by omega),Int.toNat_natCast]
  refine Ev.step (fun k => ?_) (ih (j + 1) (by omega))
  simp only [Zj.l1]
  rw [if_pos (by omega),if_pos (by omega),if_pos (by omega),eq1,if_pos (by omega),if_pos (by simp only [List.length_append,List.length_replicate,backAt_length];omega),
   if_pos (by simp only [seen,List.length_map,List.length_take];omega),e2,wrapS (by omega) (by omega),cast_succ]
  congr 1
  simp only [seen]
  rw [List.take_add_one,hjq]
  simp
theorem backB_loop (V : Nat → List Bool → Option Bool) (sem : List Bool → Bool) (Q : Bool → Prop) (g : List (List Int)) (h : isGame g = true)
 (hV : ∀ xs : List Bool,xs.length ≤ 40 → (∀ x ∈ xs,Q x) → Ev (fun k => V k xs) (sem xs) ∧ Q (sem xs)) :
 ∀ (m d : Nat),g.length = m + d → Ev (fun k => Zj.l0 V k (List.replicate m false ++ backAt sem false g d) ((m : Int) - 1) g) (backs sem false g,0)
 | 0,d,hg => by
  refine Ev.step (f := fun _ => some (backs sem false g,0)) (fun k => ?_) (Ev.now _)
  simp only [Zj.l0]
  rw [if_neg (by omega),backs,show g.length = d by omega]
  rfl
 | p + 1,d,hg => by
  obtain ⟨row,hr⟩ := get_some (xs := g) (i := p) (by omega)
  have hw := game_row h hr
  have hn := game_len h
  have hall := backAt_all sem false Q g h (fun xs h1 h2 => (hV xs h1 h2).2) d (by omega)
  have hv := (hV (seen sem false g p d row) (by simp only [seen,List.length_map];exact hw.2) (seen_all sem false Q g p d row hg hw.1 hall)).1
  have next := backB_loop V sem Q g h hV p (d + 1) (by omega)
  rw [backAt_succ sem false g p d row hg hr] at next
  refine Ev.step (fun k => ?_) (backB_inner V sem g p d row _ _ hg hn.2 hr hw.1 hw.2 hv next row.length 0 (by omega))
  simp only [Zj.l0]
  rw [show ((p + 1 : Nat) : Int) - 1 = (p : Int) by omega,if_pos (by omega),if_pos (by omega),if_pos (by omega),rdL2_nat,getD_of hr]
  rfl
theorem backB_ev (V : Nat → List Bool → Option Bool) (sem : List Bool → Bool) (Q : Bool → Prop) (g : List (List Int)) (hl : ∀ row ∈ g, row.length < 4611686018427387904) (hg : g.length < 4611686018427387904)
 (hV : ∀ xs : List Bool,xs.length ≤ 40 → (∀ x ∈ xs,Q x) → Ev (fun k => V k xs) (sem xs) ∧ Q (sem xs)) :
 Ev (fun k => Zj.f V k g) (if isGame g = true then (backs sem false g,0) else ([],1)) := by
 have hi := IsGame_ev g hl hg
 by_cases h : isGame g = true
 ·rw [if_pos h]
  rw [h] at hi
  have hn := game_len h
  have hb := backB_loop V sem Q g h hV g.length 0 (by omega)
  simp only [backAt,List.append_nil] at hb
  unfold Zj.f
  refine Ev.bind hi (Ev.congr (fun k => ?_) hb)
  rw [if_pos rfl,if_pos (by omega),if_pos (by omega),Option.bind_some,List.length_replicate,Int.toNat_natCast,wrapS (by omega) (by omega)]
 ·rw [if_neg h]
  have hf : isGame g = false := by simpa using h
  rw [hf] at hi
  unfold Zj.f
  exact Ev.bind hi (Ev.congr (f := fun _ => some (([] : List Bool),(1 : Int))) (fun k => by rw [if_neg (by decide)]) (Ev.now _))
theorem mid_self {α : Type} (z a : α) (p : Nat) (bs : List α) : (List.replicate p z ++ a :: bs).getD p z = a := by
 rw [List.getD_eq_getElem?_getD,List.getElem?_append_right (by simp),List.length_replicate,Nat.sub_self]
 rfl
theorem mid_get {α : Type} (z a : α) (p : Nat) (bs : List α) (q : Nat) (h : p + 1 ≤ q) : (List.replicate p z ++ a :: bs).getD q z = bs.getD (q - (p + 1)) z := by
 rw [List.getD_eq_getElem?_getD,List.getD_eq_getElem?_getD,List.getElem?_append_right (by simp only [List.length_replicate];omega),List.length_replicate,show q - p = (q - (p + 1)) + 1 by omega,List.getElem?_cons_succ]
theorem mid_set {α : Type} (z a v : α) (p : Nat) (bs : List α) : (List.replicate p z ++ a :: bs).set p v = List.replicate p z ++ v :: bs := by
 rw [List.set_append_right _ _ (by simp)]
 simp
theorem mid_len {α : Type} (z a : α) (p : Nat) (bs : List α) : (List.replicate p z ++ a :: bs).length = p + 1 + bs.length := by
 simp only [List.length_append,List.length_replicate,List.length_cons]
 omega
theorem start_mid {α : Type} (z : α) (p : Nat) (bs : List α) : List.replicate (p + 1) z ++ bs = List.replicate p z ++ z :: bs := by
 rw [List.replicate_succ',List.append_assoc]
 rfl
theorem seen_take {α : Type} (sem : List α → α) (z : α) (g : List (List Int)) (p d : Nat) (row : List Int) (j : Nat) (q : Int) (hj : row[j]? = some q) :
 seen sem z g p d (row.take (j + 1)) = seen sem z g p d (row.take j) ++ [(backAt sem z g d).getD (q.toNat - (p + 1)) z] := by
 simp only [seen]
 rw [List.take_add_one,hj]
 simp
theorem backAt_allN {α : Type} (sem : List α → α) (z : α) (Q : Nat → α → Prop) (g : List (List Int)) (h : isGame g = true) (hm : ∀ d x, Q d x → Q (d + 1) x)
 (hs : ∀ d,∀ xs : List α,xs.length ≤ 40 → (∀ x ∈ xs,Q d x) → Q (d + 1) (sem xs)) :
 ∀ d,d ≤ g.length → ∀ x ∈ backAt sem z g d,Q d x
 | 0,_,x,hx => by simp [backAt] at hx
 | d + 1,hd,x,hx => by
  obtain ⟨p,hp⟩ : ∃ p,g.length = p + 1 + d := ⟨g.length - (d + 1),by omega⟩
  obtain ⟨row,hr⟩ := get_some (xs := g) (i := p) (by omega)
  have ih := backAt_allN sem z Q g h hm hs d (by omega)
  have hw := game_row h hr
  rw [backAt_succ sem z g p d row hp hr] at hx
  rcases List.mem_cons.1 hx with rfl | hx
  ·exact hs d _ (by simp only [seen,List.length_map];exact hw.2) (seen_all sem z (Q d) g p d row hp hw.1 ih)
  ·exact hm d x (ih x hx)
def wonOf (ends : Bool) (xs : List Bool) : Bool := (ends && decide (xs.length = 0)) || xs.any (fun x => !x)
theorem won_inner (ends : Bool) (g : List (List Int)) (p d : Nat) (row : List Int) (r : List Bool) (hg : g.length = p + 1 + d) (h40 : g.length ≤ 40)
 (hrow : g[p]? = some row) (hq : ∀ q ∈ row,(p : Int) < q ∧ q < g.length) (hl : row.length ≤ 40)
 (next : Ev (fun k => Zt.l0 k ends (List.replicate p false ++ wonOf ends (seen (wonOf ends) false g p d row) :: backAt (wonOf ends) false g d) ((p : Int) - 1) g) r) (e : Nat) : ∀ j : Nat,j + e = row.length →
 Ev (fun k => Zt.l1 k ends (List.replicate p false ++ ((ends && decide (row.length = 0)) || (seen (wonOf ends) false g p d (row.take j)).any (fun x => !x)) :: backAt (wonOf ends) false g d) (p : Int) (j : Int) g) r := by
 have er : rd_L2 g (p : Int) = row := by rw [rdL2_nat,getD_of hrow]
 induction e with
 | zero =>
  intro j hj
  have ej : j = row.length := by omega
  subst ej
  rw [List.take_length]
  refine Ev.step (fun k => ?_) next
  simp only [Zt.l1]
  rw [if_pos (by omega),if_pos (by omega),er,if_neg (by omega),wrapS (by omega) (by omega)]
  simp only [wonOf,seen,List.length_map]
 | succ e ih =>
  intro j hj
  obtain ⟨q,hjq⟩ := get_some (xs := row) (i := j) (by omega)
  have hm := hq q (List.mem_of_getElem? hjq)
  have eq1 : rd row (j : Int) = q := by rw [rd_nat,getD_of hjq]
  have hx := ih (j + 1) (by omega)
  rw [seen_take (wonOf ends) false g p d row j q hjq] at hx
  generalize hA : seen (wonOf ends) false g p d (row.take j) = A at hx ⊢
  have e2 : ∀ a,rdOf false (List.replicate p false ++ a :: backAt (wonOf ends) false g d) q = (backAt (wonOf ends) false g d).getD (q.toNat - (p + 1)) false := by
   intro a
   obtain ⟨n,rfl⟩ : ∃ n : Nat,q = (n : Int) := ⟨q.toNat,by omega⟩
   rw [rdOf_nat,mid_get _ _ _ _ _ (by omega),Int.toNat_natCast]
  have e3 : ∀ a,rdOf false (List.replicate p false ++ a :: backAt (wonOf ends) false g d) (p : Int) = a := fun a => by rw [rdOf_nat,mid_self]
  generalize hy : (backAt (wonOf ends) false g d).getD (q.toNat - (p + 1)) false = y at hx e2
  refine Ev.step (fun k => ?_) hx
  simp only [Zt.l1]
  rw [if_pos (by omega),if_pos (by omega),er,if_pos (by omega),if_pos (by rw [mid_len];omega),e3,eq1,e2,wrapS (by omega) (by omega),cast_succ,Int.toNat_natCast,mid_set,mid_set]
  rw [List.any_append]
  cases hc : ((ends && decide (row.length = 0)) || A.any (fun x => !x))
  ·rw [if_neg (by decide),if_pos (by omega),if_pos (by omega),if_pos (by rw [mid_len,backAt_length];omega)]
   rw [← Bool.or_assoc,hc]
   simp
  ·rw [if_pos rfl,← Bool.or_assoc,hc]
   simp
theorem won_loop (ends : Bool) (g : List (List Int)) (h : isGame g = true) :
 ∀ (m d : Nat),g.length = m + d → Ev (fun k => Zt.l0 k ends (List.replicate m false ++ backAt (wonOf ends) false g d) ((m : Int) - 1) g) (backs (wonOf ends) false g)
 | 0,d,hg => by
  refine Ev.step (f := fun _ => some (backs (wonOf ends) false g)) (fun k => ?_) (Ev.now _)
  simp only [Zt.l0]
  rw [if_neg (by omega),backs,show g.length = d by omega]
  rfl
 | p + 1,d,hg => by
  obtain ⟨row,hr⟩ := get_some (xs := g) (i := p) (by omega)
  have hw := game_row h hr
  have hn := game_len h
  have next := won_loop ends g h p (d + 1) (by omega)
  rw [backAt_succ (wonOf ends) false g p d row hg hr] at next
  have er : rd_L2 g (p : Int) = row := by rw [rdL2_nat,getD_of hr]
  have hi := won_inner ends g p d row _ hg hn.2 hr hw.1 hw.2 next row.length 0 (by omega)
  refine Ev.step (fun k => ?_) (Ev.step (g := fun k => Zt.j1 k ends (List.replicate p false ++ (ends && decide (row.length = 0)) :: backAt (wonOf ends) false g d) (p : Int) g) (fun k => ?_) hi)
  ·simp only [Zt.l0]
   rw [show ((p + 1 : Nat) : Int) - 1 = (p : Int) by omega,if_pos (by omega),start_mid,Int.toNat_natCast,mid_set,mid_set,er]
   cases ends
   ·rw [if_neg (by decide),if_pos (by omega),if_pos (by rw [mid_len];omega)]
    rfl
   ·rw [if_pos rfl,if_pos (by omega),if_pos (by omega),if_pos (by rw [mid_len];omega)]
    congr 3
    by_cases c : row.length = 0
    ·rw [c];rfl
    ·rw [Bool.true_and,decide_eq_false c]
     exact beq_false_of_ne (by omega)
  ·simp only [Zt.j1]
   simp [seen]
theorem l01Won_ev (ends : Bool) (g : List (List Int)) (h : isGame g = true) : Ev (fun k => Zt.f k g ends) (backs (wonOf ends) false g) := by
 have hn := game_len h
 have hb := won_loop ends g h g.length 0 (by omega)
 simp only [backAt,List.append_nil] at hb
 unfold Zt.f Zq.f
 refine Ev.congr (fun k => ?_) hb
 rw [Option.bind_some,if_pos (by omega),if_pos (by omega),Option.bind_some,Int.toNat_natCast,wrapS (by omega) (by omega)]
def wons (ends : Bool) (g : List (List Int)) : List Bool × Int := if isGame g = true then (backs (wonOf ends) false g, 0) else ([], 1)
theorem wons_len (ends : Bool) (g : List (List Int)) : (wons ends g).1.length ≤ 40 := by
 unfold wons
 by_cases h : isGame g = true
 ·rw [if_pos h]
  have := game_len h
  simp only [backs,backAt_length]
  omega
 ·rw [if_neg h]
  simp
theorem indexB_loop (xs : List Bool) (x : Bool) (hn : xs.length < 4611686018427387904) (d : Nat) : ∀ i : Nat, i + d = xs.length → ∃ t, Ev (fun k => Zy.l0 k xs x (xs.length : Int) (i : Int)) t ∧ decide (t ≥ 0) = decide (x ∈ xs.drop i) := by
 induction d with
 | zero =>
  intro i hd
  refine ⟨-1,Ev.step (f := fun _ => some (-1)) (fun k => ?_) (Ev.now _),?_⟩
  ·simp only [Zy.l0];rw [if_neg (by omega)]
  ·rw [List.drop_eq_nil_of_le (by omega)];simp
 | succ d ih =>
  intro i hd
  obtain ⟨y,hy⟩ := get_some (xs := xs) (i := i) (by omega)
  have hrx : rdOf false xs (i : Int) = y := by rw [rdOf_nat];exact getD_of hy
  rw [drop_of hy]
  by_cases c : x = y
  ·refine ⟨(i : Int),Ev.step (f := fun _ => some (i : Int)) (fun k => ?_) (Ev.now _),?_⟩
   ·simp only [Zy.l0];rw [if_pos (by omega),if_pos (by omega),if_pos (by omega),hrx,if_pos (by rw [c];exact beq_self_eq_true y)]
   ·rw [decide_eq_true (show x ∈ y :: xs.drop (i + 1) by rw [c];exact List.mem_cons_self),decide_eq_true (by omega)]
  ·obtain ⟨t,ht,he⟩ := ih (i + 1) (by omega)
   refine ⟨t,Ev.step (fun k => ?_) ht,?_⟩
   ·simp only [Zy.l0];rw [if_pos (by omega),if_pos (by omega),if_pos (by omega),hrx,if_neg (by simpa using c),wrapS (by omega) (by omega),cast_succ]
   ·rw [he,decide_eq_decide]
    simp [c]
theorem containsB_ev (xs : List Bool) (x : Bool) (hn : xs.length < 4611686018427387904) : Ev (fun k => ZW.f k xs x) (decide (x ∈ xs)) := by
 obtain ⟨t,ht,he⟩ := indexB_loop xs x hn xs.length 0 (by omega)
 rw [List.drop_zero] at he
 rw [← he]
 exact Ev.congr (f := fun k => (Zy.f k xs x).bind fun t => (some (decide (t ≥ 0)))) (fun k => rfl) (Ev.bind ht (Ev.now _))
theorem any_not : ∀ xs : List Bool, xs.any (fun x => !x) = decide (false ∈ xs)
 | [] => by simp
 | x :: r => by
  rw [List.any_cons,any_not r]
  cases x <;> simp
theorem wonV_ev (xs : List Bool) (hn : xs.length < 4611686018427387904) : Ev (fun k => Zaf.f k xs) (wonOf false xs) := by
 unfold Zaf.f wonOf
 rw [Bool.false_and,Bool.false_or,any_not]
 exact Ev.bind (containsB_ev xs false hn) (Ev.now _)
theorem implWon_ev (g : List (List Int)) (hl : ∀ row ∈ g, row.length < 4611686018427387904) (hg : g.length < 4611686018427387904) : Ev (fun k => ZS.f k g) (wons false g) := by
 unfold ZS.f
 exact Ev.bind (backB_ev Zaf.f (wonOf false) (fun _ => True) g hl hg (fun xs h1 _ => ⟨wonV_ev xs (by omega),trivial⟩)) (Ev.now _)
def endRow (g : List (List Int)) (p : Nat) : Bool := (((g.getD p []).length : Int) == 0)
def endsUpto (g : List (List Int)) (i : Nat) : List Int := ((List.range i).filter (endRow g)).map (fun p => ((p : Nat) : Int))
theorem endsUpto_succ (g : List (List Int)) (i : Nat) : endsUpto g (i + 1) = if endRow g i = true then endsUpto g i ++ [(i : Int)] else endsUpto g i := by
 unfold endsUpto
 rw [List.range_succ,List.filter_append,List.map_append]
 by_cases h : endRow g i = true
 ·rw [if_pos h]
  simp [h]
 ·rw [if_neg h]
  simp [h]
theorem endsUpto_len (g : List (List Int)) (i : Nat) : (endsUpto g i).length ≤ i := by
 unfold endsUpto
 rw [List.length_map]
 exact Nat.le_trans (List.length_filter_le _ _) (by simp)
theorem chosenEnds_loop (g : List (List Int)) (hg : g.length ≤ 40) (d : Nat) : ∀ i : Nat, i + d = g.length → Ev (fun k => Zad.l0 (endV g) k (endsUpto g i) (g.length : Int) (i : Int)) (endsUpto g g.length) := by
 induction d with
 | zero =>
  intro i hd
  refine Ev.step (f := fun _ => some (endsUpto g g.length)) (fun k => ?_) (Ev.now _)
  simp only [Zad.l0]
  rw [if_neg (by omega),show i = g.length by omega]
 | succ d ih =>
  intro i hd
  have hx := ih (i + 1) (by omega)
  rw [endsUpto_succ] at hx
  have hl := endsUpto_len g i
  have he : endV g (i : Int) = some (endRow g i) := by unfold endV endRow;rw [if_pos (by omega),if_pos (by omega),rdL2_nat]
  refine Ev.step (fun k => ?_) hx
  simp only [Zad.l0]
  rw [if_pos (by omega),he,Option.bind_some,wrapS (by omega) (by omega),cast_succ]
  by_cases c : endRow g i = true
  ·rw [if_pos c,if_pos c,if_pos (by omega)]
  ·rw [if_neg c,if_neg c]
def endsOf (g : List (List Int)) : List Int × Int := if isGame g = true then (endsUpto g g.length, 0) else ([], 1)
theorem endsOf_len (g : List (List Int)) : (endsOf g).1.length ≤ 40 := by
 unfold endsOf
 by_cases h : isGame g = true
 ·rw [if_pos h]
  have := game_len h
  have := endsUpto_len g g.length
  simp only
  omega
 ·rw [if_neg h]
  simp
theorem implEnds_ev (g : List (List Int)) (hl : ∀ row ∈ g, row.length < 4611686018427387904) (hg : g.length < 4611686018427387904) : Ev (fun k => Zav.f k g) (endsOf g) := by
 have hi := IsGame_ev g hl hg
 unfold endsOf Zav.f
 by_cases h : isGame g = true
 ·rw [if_pos h]
  rw [h] at hi
  refine Ev.bind hi (Ev.congr (fun k => by rw [if_pos rfl]) (Ev.bind (Ev.congr (fun k => ?_) (chosenEnds_loop g (game_len h).2 g.length 0 (by omega))) (Ev.now _)))
  rfl
 ·rw [if_neg h]
  have hf : isGame g = false := by simpa using h
  rw [hf] at hi
  exact Ev.bind hi (Ev.congr (f := fun _ => some (([] : List Int),(1 : Int))) (fun k => by rw [if_neg (by decide)]) (Ev.now _))
def pv (v : S70) : Bool × Int := (v.f0, v.f1)
theorem rdT69_nat (xs : List S70) (i : Nat) : rd_T70 xs (i : Int) = xs.getD i z70 := by unfold rd_T70; rfl
theorem backL_inner (V : Nat → List S70 → Option (Bool × Int)) (sem : List S70 → S70) (g : List (List Int)) (p d : Nat) (row : List Int) (v : S70) (r : List S70 × Int) (hg : g.length = p + 1 + d) (h40 : g.length ≤ 40)
 (hrow : g[p]? = some row) (hq : ∀ q ∈ row,(p : Int) < q ∧ q < g.length) (hl : row.length ≤ 40) (hV : Ev (fun k => V k (seen sem z70 g p d row)) (pv v))
 (next : Ev (fun k => ZJ.l0 V k (List.replicate p z70 ++ v :: backAt sem z70 g d) ((p : Int) - 1) g) r) (e : Nat) : ∀ j : Nat,j + e = row.length →
 Ev (fun k => ZJ.l1 V k (List.replicate (p + 1) z70 ++ backAt sem z70 g d) (p : Int) (seen sem z70 g p d (row.take j)) row (row.length : Int) (j : Int) g) r := by
 induction e with
 | zero =>
  intro j hj
  have ej : j = row.length := by omega
  subst ej
  rw [List.take_length]
  refine Ev.step (fun k => by simp only [ZJ.l1];rw [if_neg (by omega)]) (Ev.bind hV ?_)
  refine Ev.congr (fun k => ?_) next
  ·rw [if_pos (by omega),if_pos (by simp only [List.length_append,List.length_replicate];omega),Int.toNat_natCast,arr_set,wrapS (by omega) (by omega)]
   rfl
 | succ e ih =>
  intro j hj
  obtain ⟨q,hjq⟩ := get_some (xs := row) (i := j) (by omega)
  have hm := hq q (List.mem_of_getElem? hjq)
  have eq1 : rd row (j : Int) = q := by rw [rd_nat,getD_of hjq]
  have e2 : rd_T70 (List.replicate (p + 1) z70 ++ backAt sem z70 g d) q = (backAt sem z70 g d).getD (q.toNat - (p + 1)) z70 := by
   obtain ⟨n,rfl⟩ : ∃ n : Nat,q = (n : Int) := ⟨q.toNat,by omega⟩
   rw [rdT69_nat,arr_get _ _ _ _ (by omega),Int.toNat_natCast]
  refine Ev.step (fun k => ?_) (ih (j + 1) (by omega))
  simp only [ZJ.l1]
  rw [if_pos (by omega),if_pos (by omega),if_pos (by omega),eq1,if_pos (by omega),if_pos (by simp only [List.length_append,List.length_replicate,backAt_length];omega),
   if_pos (by simp only [seen,List.length_map,List.length_take];omega),e2,wrapS (by omega) (by omega),cast_succ]
  congr 1
  simp only [seen]
  rw [List.take_add_one,hjq]
  first | (simp;done) | (simp;rfl)
theorem backL_loop (V : Nat → List S70 → Option (Bool × Int)) (sem : List S70 → S70) (Q : S70 → Prop) (g : List (List Int)) (h : isGame g = true)
 (hV : ∀ xs : List S70,xs.length ≤ 40 → (∀ x ∈ xs,Q x) → Ev (fun k => V k xs) (pv (sem xs)) ∧ Q (sem xs)) :
 ∀ (m d : Nat),g.length = m + d → Ev (fun k => ZJ.l0 V k (List.replicate m z70 ++ backAt sem z70 g d) ((m : Int) - 1) g) (backs sem z70 g,0)
 | 0,d,hg => by
  refine Ev.step (f := fun _ => some (backs sem z70 g,0)) (fun k => ?_) (Ev.now _)
  simp only [ZJ.l0]
  rw [if_neg (by omega),backs,show g.length = d by omega]
  rfl
 | p + 1,d,hg => by
  obtain ⟨row,hr⟩ := get_some (xs := g) (i := p) (by omega)
  have hw := game_row h hr
  have hn := game_len h
  have hall := backAt_all sem z70 Q g h (fun xs h1 h2 => (hV xs h1 h2).2) d (by omega)
  have hv := (hV (seen sem z70 g p d row) (by simp only [seen,List.length_map];exact hw.2) (seen_all sem z70 Q g p d row hg hw.1 hall)).1
  have next := backL_loop V sem Q g h hV p (d + 1) (by omega)
  rw [backAt_succ sem z70 g p d row hg hr] at next
  refine Ev.step (fun k => ?_) (backL_inner V sem g p d row _ _ hg hn.2 hr hw.1 hw.2 hv next row.length 0 (by omega))
  simp only [ZJ.l0]
  rw [show ((p + 1 : Nat) : Int) - 1 = (p : Int) by omega,if_pos (by omega),if_pos (by omega),if_pos (by omega),rdL2_nat,getD_of hr]
  rfl
theorem backL_ev (V : Nat → List S70 → Option (Bool × Int)) (sem : List S70 → S70) (Q : S70 → Prop) (g : List (List Int)) (hl : ∀ row ∈ g, row.length < 4611686018427387904) (hg : g.length < 4611686018427387904)
 (hV : ∀ xs : List S70,xs.length ≤ 40 → (∀ x ∈ xs,Q x) → Ev (fun k => V k xs) (pv (sem xs)) ∧ Q (sem xs)) :
 Ev (fun k => ZJ.f V k g) (if isGame g = true then (backs sem z70 g,0) else ([],1)) := by
 have hi := IsGame_ev g hl hg
 by_cases h : isGame g = true
 ·rw [if_pos h]
  rw [h] at hi
  have hn := game_len h
  have hb := backL_loop V sem Q g h hV g.length 0 (by omega)
  simp only [backAt,List.append_nil] at hb
  unfold ZJ.f
  refine Ev.bind hi (Ev.congr (fun k => ?_) hb)
  rw [if_pos rfl,if_pos (by omega),if_pos (by omega),Option.bind_some,List.length_replicate,Int.toNat_natCast,wrapS (by omega) (by omega)]
 ·rw [if_neg h]
  have hf : isGame g = false := by simpa using h
  rw [hf] at hi
  unfold ZJ.f
  exact Ev.bind hi (Ev.congr (f := fun _ => some (([] : List S70),(1 : Int))) (fun k => by rw [if_neg (by decide)]) (Ev.now _))
end Go.Proofs.Ytfpoppidppoeoaa.PX
