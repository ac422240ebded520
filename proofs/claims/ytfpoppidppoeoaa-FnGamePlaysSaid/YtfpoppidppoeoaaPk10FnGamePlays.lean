/- Part 10 of the texts under the row of FnGamePlays (no condition). -/
import Derived.Test.YtfpoppidppoeoaaPk7FnGamePlays
namespace Go.Proofs.Ytfpoppidppoeoaa.PX
open Go.RowKit Go.Proofs.YtfpoppidppoeoaaW.PrintWords Go.Proofs.YtfpoppidppoeoaaW.PrintLast Go.Proofs.YtfpoppidppoeoaaW.PrintMore
attribute [local go_sem] max2_int min2_int max_two min_two max_three min_three max_four min_four
set_option linter.unusedVariables false
set_option linter.unusedSimpArgs false
set_option maxHeartbeats 8000000
set_option maxRecDepth 100000
theorem Za.sec2 (HS3 : Za.S3) : Za.S2 := by
 unfold Za.S2;intros;rename_i _ _ _ _ _ _ _ _ l0 r w hu26 t900 t903 t905 _ t913 t921 gb904 Ao14 co14 _ _ v914 _ v922 _ _ HJ10 _ z2_450 _ _ z2_453 z2_454 t932 t936 v933 v937 _ _ _ z2_556 _ _ _ _ _ _ _ _ _ _ _ _ _ _ _ _ _ _ _ _ _ _ _ _ _ _ _ _ _ _ _ _ _ _ _ _ _ _ _ _ _ _ _ _ _ _ _ _ _ _ _ _ _ _ _ _ _ _ _ _ _ _ _ _ _ _ _ _ _ _ _ _ _ _ _ _ _ _ _ _ _ _ _ _ _ _ _ _ _ _ _ _ _ _ _ _ _ _ _ _ _ _ _ _ _ _ _ _ _ _ _ _ _ _ _ _ _ _ _ _ _ _ _ _ _ _ _ _ _ _ _ _ _ _ _ _ _ _ _ _ _ _ _ _ _ _ _ _ _ _ _ _ _ _ _ _ _ _ _ _ _ _ _ _ _ _ _ _ _ _ _ _ _ _ _ _ _ _ _ _ _ _ _ _ _ _ _ _ _ _ _ _ _ _ _ _ _ _ _ _ _ _ _ _ _ _ _ _ _ _ _ _ _ _ _ _ _ _ _ _ _ _ _ _ _ _ _ _ _ _ _ _ _ _ _ _ _ _ _ _ _ _ _ _ _ _ _ _ _ _ _ _ _ _ _ _ _ _ _ _ _ _ _ _ _ _ _ _ _ _ _ _ _ _ _ _ _ _ _ _ _ _ _ _ _ _ _ _ _ _ _ _ _ _ _ _ _ _ _ _ _ _ _ _ _ _ _ _ _ _ _ _ _ _ _ _ _ _ _ _ _ _ _ _ _ _ _ _ _ _ _ _ _ _ _ _ _ _ _ _ _ _ _ _ _ _ _ _ _ _ _ _ _ _ _ _ _ _ _ _ _ _ _ _ _ _ _ _ _ _ _ _ _ _ _ _ _ _ _ _ _ _ _ _ _ _ _ _ _ _ _ _ _ _ _ _ _ _ hcut
 conv => arg 2;whnf
 conv at z2_450 => enter [a,w];arg 1;arg 2;whnf
 conv at z2_556 => enter [a,w];arg 1;arg 2;whnf
 obtain ⟨kq,x199_59,rfl,HA,HJ59,HO_5,HO_9,HO_13,HO_17,HO_19,HO_q4,BK904,HB⟩ := hcut
 cases kq with
 | zero => exact absurd HA.out (by simp [Za.j1])
 | succ kj59 =>
  have H := HA.out;clear HA;simp only [Za.j1] at H
  replace H := iB H;obtain ⟨rfl,H⟩|⟨rfl,H⟩ := H
  ·obtain rfl := Option.some.inj H;go_wp2;go_ret;exact eR (bN HB)
  ·have H' := aK H;clear H;obtain ⟨Ao90,co90,eo90⟩ := Kd.R_slice HO_5.out;subst eo90;go_wp2
   go_loopg [25,203] kj59 (fun kq v25 v203 w' => ∃ (x25_3 : Int) (x203_3 : Int),v25 = .int .i64 x25_3 ∧ v203 = .int .i64 x203_3 ∧ Aside0 (Za.l0 kq l0 t903 t905 t913 t921 t932 t936 x25_3 (t905.length : Int) x203_3 t900 = some r) ∧ Aside0 (kq ≤ kj59) ∧ Aside0 (Kd.R (Kd.int .i64) 2 w' w.heap.size (fun k_ => some k_ ≠ (v914 : Value).ownBlock ∧ some k_ ≠ (v922 : Value).ownBlock ∧ some k_ ≠ (v937 : Value).ownBlock) (.slice Ao90 t905.length co90) t905) ∧ Aside0 (Kd.R (Kd.int .i64) 2 w' w.heap.size (fun k_ => some k_ ≠ ((.slice Ao90 t905.length co90) : Value).ownBlock ∧ some k_ ≠ (v922 : Value).ownBlock ∧ some k_ ≠ (v937 : Value).ownBlock) v914 t913) ∧ Aside0 (Kd.R (Kd.int .i64) 2 w' w.heap.size (fun k_ => some k_ ≠ ((.slice Ao90 t905.length co90) : Value).ownBlock ∧ some k_ ≠ (v914 : Value).ownBlock ∧ some k_ ≠ (v937 : Value).ownBlock) v922 t921) ∧ Aside0 (Kd.R Kd.bool 4 w' w.heap.size (fun _ => True) v933 t932) ∧ Aside0 (Kd.R (Kd.int .i64) 2 w' w.heap.size (fun k_ => some k_ ≠ ((.slice Ao90 t905.length co90) : Value).ownBlock ∧ some k_ ≠ (v914 : Value).ownBlock ∧ some k_ ≠ (v922 : Value).ownBlock) v937 t936) ∧ Aside0 (Kd.V (Kd.slice 2 (Kd.int .i64)) 29 w' w.heap.size (fun k_ => some k_ ≠ ((.slice Ao90 t905.length co90) : Value).ownBlock ∧ some k_ ≠ (v914 : Value).ownBlock ∧ some k_ ≠ (v922 : Value).ownBlock ∧ some k_ ≠ (v933 : Value).ownBlock ∧ some k_ ≠ (v937 : Value).ownBlock ∧ k_ ≠ gb904) (.slice Ao14 t900.length co14) t900) ∧ Aside0 (w'.heap[gb904]? = some (.cells #[(.slice Ao14 t900.length co14)] 26 (0,0))) ∧ Aside0 (Below w.heap.size w w'))
   case atStart => exact ⟨(t903),(0),rD,rD,H',⟨Nat.le_refl _⟩,⟨rN HO_5⟩,⟨rN HO_9⟩,⟨rN HO_13⟩,⟨rN HO_17⟩,⟨rN HO_19⟩,⟨vN HO_q4⟩,⟨kN BK904⟩,⟨bN HB⟩⟩
   case round =>
    as_aux_lemma =>
     clear H'
     try clear c1
     try clear c2
     try clear p2
     try clear c3
     try clear c4
     try clear c5
     try clear c6
     try clear c7
     try clear c8
     try clear c9
     try clear p9
     try clear q9
     try clear hx9
     try clear c10
     try clear c11
     try clear c13
     try clear c14
     try clear c15
     try clear c16
     try clear c27
     try clear c27b0
     try clear c27b1
     try clear c29
     try clear c30
     try clear c30b0
     try clear c30b1
     try clear c32
     try clear c33
     try clear c33b0
     try clear c33b1
     try clear c53
     try clear c55
     try clear c55b0
     try clear c55b1
     try clear c69
     try clear c69b0
     try clear c69b1
     try clear c70
     try clear c70b0
     try clear c70b1
     try clear c71
     try clear c71b0
     try clear c71b1
     try clear c72
     try clear c72b0
     try clear c72b1
     try clear c73
     try clear c73b0
     try clear c74
     try clear c74b0
     try clear c75
     try clear c75b0
     try clear c78
     try clear c78b0
     try clear c79
     try clear c79b0
     try clear c83
     try clear c83b0
     try clear c89
     try clear hcz15_0
     try clear hcz17_0
     try clear hcz19_0
     try clear hcz21_0
     try clear hcz23_0
     try clear hcz25_0
     try clear hcz61_0
     try clear hcz63_0
     try clear hcz65_0
     try clear hcz67_0
     try clear hfz15_0
     try clear hfz17_0
     try clear hfz19_0
     try clear hfz21_0
     try clear hfz23_0
     try clear hfz25_0
     try clear hfz61_0
     try clear hfz63_0
     try clear hfz65_0
     try clear hfz67_0
     try clear hx948_0
     try clear hx949_0
     try clear hx950_0
     try clear p2
     try clear p9
     try clear p948
     try clear p949
     try clear p950
     try clear q9
     try clear q948
     try clear q949
     try clear q950
     obtain ⟨x25_3,x203_3,rfl,rfl,HA,HK3,HO_5,HO_9,HO_13,HO_17,HO_19,HO_q4,BK904,HB⟩ := hrel
     cases gk with
     | zero => exact absurd HA.out (by simp [Za.l0])
     | succ k3 =>
      have H := HA.out;clear HA;simp only [Za.l0] at H
      replace H := iT H;obtain ⟨c91b0,H⟩|⟨c91b0,H⟩ := H
      ·replace H := iP H;obtain ⟨c92b0,H⟩ := H
       replace H := iP H;obtain ⟨c93b0,H⟩ := H
       replace H := iP H;obtain ⟨c94b0,H⟩ := H
       replace H := iP H;obtain ⟨c95b0,H⟩ := H;replace H := bE H;obtain ⟨t953,A96,H⟩ := H
       replace H := iB H;obtain ⟨rfl,H⟩|⟨rfl,H⟩ := H
       ·replace H := bE H;obtain ⟨t955,A98,H⟩ := H
        replace H := iB H;obtain ⟨rfl,H⟩|⟨rfl,H⟩ := H
        ·have H' := aK H;clear H
         try go_wp2
         replace HO_5 := aK (Kd.R_drew HO_5.out);replace HO_9 := aK (Kd.R_drew HO_9.out);replace HO_13 := aK (Kd.R_drew HO_13.out);replace HO_17 := aK (Kd.R_drew HO_17.out);replace HO_19 := aK (Kd.R_drew HO_19.out);replace HO_q4 := aK (Kd.V_drew HO_q4.out);replace BK904 := dK BK904;replace HB := dH HB;have p951 : 0 ≤ (x25_3 : Int) := dT;have q951 : x25_3 < (t900.length : Int) := dT;obtain ⟨ad951,A951_0,c951_0,e951,hx951_0,hl951_0,hi951_0⟩ := at_L2 (vr HO_q4) x25_3 p951 q951;cases e951;obtain ⟨ce951,hce951,hMe951,hcc951⟩ := Kd.V_get HO_q4.out [] x25_3 p951 (by first | exact q951 | exact of_decide_eq_true (by first | (with_reducible assumption) | assumption) | (have e_ := (Kd.V_reads' HO_q4.out).1;omega));obtain ⟨ua951_0,uc951_0,rfl,ul951_0,ge951_0⟩ := Kd.FK_slice_open hMe951;have hv951_0 := hcc951 0 _ rfl;rw [Nat.add_zero,show ((Kd.slice 2 (Kd.int .i64))).sz = 1 from rfl,Nat.mul_one] at hv951_0;replace hv951_0 := Option.some.inj (hv951_0.symm.trans hx951_0);injection hv951_0 with hva_ hvn_ hvc_
         rw [hva_] at ge951_0;rw [hvc_] at ul951_0;have HL951_0 := aK (show Kd.V (Kd.int .i64) 2 _ w.heap.size _ _ (rd_L2 t900 x25_3) from Kd.V_mk ul951_0 ge951_0);clear hva_ hvn_ hvc_ ge951_0 ul951_0;clear hcc951 hce951;have HR951_0 := aK hi951_0;have HC951_0 := aK hl951_0;clear hi951_0 hl951_0;replace p951 := eq_true p951;replace q951 := eq_true q951;obtain ⟨ad952,rfl,hx952_0,p952,q952⟩ := aJ (rr HO_5) x203_3;obtain ⟨ad954,e954,hx954_0,p954,q954⟩ := aJ (rr HO_5) x203_3;obtain rfl := iJ e954;refine start_ (n := 20) (S := fun w' => w'.cell? ⟨gb904,0,none⟩ = some (.slice (some ad951) t900.length co14) ∧ w'.cell? (ad951.add (x25_3).toNat) = some (.slice A951_0 (rd_L2 t900 x25_3).length c951_0) ∧ w'.cell? (ad952.add (x203_3).toNat) = some (.int .i64 (rd t905 x203_3)) ∧ w'.cell? (ad952.add (x203_3).toNat) = some (.int .i64 (rd t905 x203_3))) (ds := []) #[false,false,false,false,false,false,false,false,false,false,false,false,false,false,false,false,false,false,false,false] (by kernel_rfl) rfl rfl ⟨(blk_cell BK904.out 0).trans rfl,hx951_0,hx952_0,hx954_0⟩ (fun hHeld => ?_);refine with_tabW Za.tab23 Za.bits23 (fun HT_ HW_ => ?_)
         generalize wr.drew = w100 at HO_5 HO_9 HO_13 HO_17 HO_19 HO_q4 BK904 HB HL951_0 HR951_0 hx951_0 hx952_0 hx954_0 hHeld ⊢
         refine pT HT_ 0 (some 206) ?_;refine pT HT_ 2 (some 208) ?_;refine pT HT_ 5 (some 211) ?_;refine pT HT_ 6 (some 212) ?_;refine pT HT_ 7 (some 213) ?_;refine tT HT_ HW_ hHeld 1 (some 207) ?_;refine pT HT_ 3 (some 209) ?_;refine tT HT_ HW_ hHeld 4 (some 210) ?_;refine tT HT_ HW_ hHeld 8 (some 214) ?_;refine oT HT_ 9 (some 215) (fun K hK => ?_);refine gO Try.func17 #[.slice A951_0 (rd_L2 t900 x25_3).length c951_0,.int .i64 (rd t905 x203_3)] ?_
         with_reducible refine (ZN.calls k3 _ _ (rd_L2 t900 x25_3) (rd t905 x203_3) true _ ?side1 ?side2 A96.out).mono ?_
         (case side1 => exact cM ((by repeat (first | (with_reducible exact HR951_0.out) | (with_reducible refine Kd.C_alloc ?_ _) | (with_reducible refine Kd.C_drewN ?_ _) | (with_reducible refine Kd.C_drew ?_) | exact HR951_0.out))))
         (case side2 => exact HC951_0.out)
         rintro e w' ⟨rfl,⟨nd,rfl⟩⟩;refine ⟨_,rfl,?_⟩;obtain ⟨Ao101,co101,eo101⟩ := Kd.R_slice HO_13.out;(first | subst eo101 | (injection eo101 with f1_ f2_ f3_;have f4_ := f1_.symm;have f5_ := f3_.symm;clear f1_ f2_ f3_;subst f4_;subst f5_));refine hK.out _ _ ⟨(blk_cell BK904.out 0).trans rfl,hHeld.2.1,hHeld.2.2.1,hHeld.2.2.2⟩ (fun hHeld => ?_);clear hK K;refine nT 215 ?_;refine pT HT_ 10 (some 216) ?_;refine pT HT_ 11 (some 217) ?_;refine pT HT_ 12 (some 218) ?_;refine pT HT_ 13 (some 219) ?_;refine pT HT_ 14 (some 220) ?_;refine pT HT_ 15 (some 221) ?_;refine tT HT_ HW_ hHeld 16 (some 222) ?_;refine oT HT_ 17 (some 223) (fun K hK => ?_);refine gO Try.func17 #[.slice Ao101 t921.length co101,.int .i64 (rd t905 x203_3)] ?_
         with_reducible refine (ZN.calls k3 _ _ t921 (rd t905 x203_3) true _ ?side1 ?side2 A98.out).mono ?_
         (case side1 => exact cR HO_13)
         (case side2 => exact (rq HO_13))
         rintro e w' ⟨rfl,⟨nd,rfl⟩⟩;refine ⟨_,rfl,?_⟩;refine hK.out _ _ ⟨(blk_cell BK904.out 0).trans rfl,hHeld.2.1,hHeld.2.2.1,hHeld.2.2.2⟩ (fun hHeld => ?_);clear hK K;refine nT 223 ?_;refine pT HT_ 18 (some 224) ?_;refine pT HT_ 19 (some 225) ?_;refine done_ (done_of HT_.out (by kernel_rfl)) ?_;obtain ⟨ad956,e956,hx956_0,p956,q956⟩ := aJ (rr HO_5) x203_3;obtain rfl := iJ e956
         try go_wp2
         go_roundg k3
         case measure => have := HJ10.out;have := HJ59.out;have := HK3.out;omega
         case rel => exact ⟨(rd t905 x203_3),(wrap64 (x203_3 + 1)),rD,rD,H',o3 HJ10 HJ59 HK3,⟨rN HO_5⟩,⟨rN HO_9⟩,⟨rN HO_13⟩,⟨rN HO_17⟩,⟨rN HO_19⟩,⟨vN HO_q4⟩,⟨kN BK904⟩,⟨bN HB⟩⟩
        ·obtain rfl := Option.some.inj H
         try go_wp2
         replace HO_5 := aK (Kd.R_drew HO_5.out);replace HO_9 := aK (Kd.R_drew HO_9.out);replace HO_13 := aK (Kd.R_drew HO_13.out);replace HO_17 := aK (Kd.R_drew HO_17.out);replace HO_19 := aK (Kd.R_drew HO_19.out);replace HO_q4 := aK (Kd.V_drew HO_q4.out);replace BK904 := dK BK904;replace HB := dH HB;have p951 : 0 ≤ (x25_3 : Int) := dT;have q951 : x25_3 < (t900.length : Int) := dT;obtain ⟨ad951,A951_0,c951_0,e951,hx951_0,hl951_0,hi951_0⟩ := at_L2 (vr HO_q4) x25_3 p951 q951;cases e951;obtain ⟨ce951,hce951,hMe951,hcc951⟩ := Kd.V_get HO_q4.out [] x25_3 p951 (by first | exact q951 | exact of_decide_eq_true (by first | (with_reducible assumption) | assumption) | (have e_ := (Kd.V_reads' HO_q4.out).1;omega));obtain ⟨ua951_0,uc951_0,rfl,ul951_0,ge951_0⟩ := Kd.FK_slice_open hMe951;have hv951_0 := hcc951 0 _ rfl;rw [Nat.add_zero,show ((Kd.slice 2 (Kd.int .i64))).sz = 1 from rfl,Nat.mul_one] at hv951_0;replace hv951_0 := Option.some.inj (hv951_0.symm.trans hx951_0);injection hv951_0 with hva_ hvn_ hvc_
         rw [hva_] at ge951_0;rw [hvc_] at ul951_0;have HL951_0 := aK (show Kd.V (Kd.int .i64) 2 _ w.heap.size _ _ (rd_L2 t900 x25_3) from Kd.V_mk ul951_0 ge951_0);clear hva_ hvn_ hvc_ ge951_0 ul951_0;clear hcc951 hce951;have HR951_0 := aK hi951_0;have HC951_0 := aK hl951_0;clear hi951_0 hl951_0;replace p951 := eq_true p951;replace q951 := eq_true q951;obtain ⟨ad952,rfl,hx952_0,p952,q952⟩ := aJ (rr HO_5) x203_3;obtain ⟨ad954,e954,hx954_0,p954,q954⟩ := aJ (rr HO_5) x203_3;obtain rfl := iJ e954;refine start_ (n := 20) (S := fun w' => w'.cell? ⟨gb904,0,none⟩ = some (.slice (some ad951) t900.length co14) ∧ w'.cell? (ad951.add (x25_3).toNat) = some (.slice A951_0 (rd_L2 t900 x25_3).length c951_0) ∧ w'.cell? (ad952.add (x203_3).toNat) = some (.int .i64 (rd t905 x203_3)) ∧ w'.cell? (ad952.add (x203_3).toNat) = some (.int .i64 (rd t905 x203_3))) (ds := []) #[false,false,false,false,false,false,false,false,false,false,false,false,false,false,false,false,false,false,false,false] (by kernel_rfl) rfl rfl ⟨(blk_cell BK904.out 0).trans rfl,hx951_0,hx952_0,hx954_0⟩ (fun hHeld => ?_);refine with_tabW Za.tab23 Za.bits23 (fun HT_ HW_ => ?_)
         generalize wr.drew = w102 at HO_5 HO_9 HO_13 HO_17 HO_19 HO_q4 BK904 HB HL951_0 HR951_0 hx951_0 hx952_0 hx954_0 hHeld ⊢
         refine pT HT_ 0 (some 206) ?_;refine pT HT_ 2 (some 208) ?_;refine pT HT_ 5 (some 211) ?_;refine pT HT_ 6 (some 212) ?_;refine pT HT_ 7 (some 213) ?_;refine tT HT_ HW_ hHeld 1 (some 207) ?_;refine pT HT_ 3 (some 209) ?_;refine tT HT_ HW_ hHeld 4 (some 210) ?_;refine tT HT_ HW_ hHeld 8 (some 214) ?_;refine oT HT_ 9 (some 215) (fun K hK => ?_);refine gO Try.func17 #[.slice A951_0 (rd_L2 t900 x25_3).length c951_0,.int .i64 (rd t905 x203_3)] ?_
         with_reducible refine (ZN.calls k3 _ _ (rd_L2 t900 x25_3) (rd t905 x203_3) true _ ?side1 ?side2 A96.out).mono ?_
         (case side1 => exact cM ((by repeat (first | (with_reducible exact HR951_0.out) | (with_reducible refine Kd.C_alloc ?_ _) | (with_reducible refine Kd.C_drewN ?_ _) | (with_reducible refine Kd.C_drew ?_) | exact HR951_0.out))))
         (case side2 => exact HC951_0.out)
         rintro e w' ⟨rfl,⟨nd,rfl⟩⟩;refine ⟨_,rfl,?_⟩;obtain ⟨Ao103,co103,eo103⟩ := Kd.R_slice HO_13.out;(first | subst eo103 | (injection eo103 with f1_ f2_ f3_;have f4_ := f1_.symm;have f5_ := f3_.symm;clear f1_ f2_ f3_;subst f4_;subst f5_));refine hK.out _ _ ⟨(blk_cell BK904.out 0).trans rfl,hHeld.2.1,hHeld.2.2.1,hHeld.2.2.2⟩ (fun hHeld => ?_);clear hK K;refine nT 215 ?_;refine pT HT_ 10 (some 216) ?_;refine pT HT_ 11 (some 217) ?_;refine pT HT_ 12 (some 218) ?_;refine pT HT_ 13 (some 219) ?_;refine pT HT_ 14 (some 220) ?_;refine pT HT_ 15 (some 221) ?_;refine tT HT_ HW_ hHeld 16 (some 222) ?_;refine oT HT_ 17 (some 223) (fun K hK => ?_);refine gO Try.func17 #[.slice Ao103 t921.length co103,.int .i64 (rd t905 x203_3)] ?_
         with_reducible refine (ZN.calls k3 _ _ t921 (rd t905 x203_3) false _ ?side1 ?side2 A98.out).mono ?_
         (case side1 => exact cR HO_13)
         (case side2 => exact (rq HO_13))
         rintro e w' ⟨rfl,⟨nd,rfl⟩⟩;refine ⟨_,rfl,?_⟩;refine hK.out _ _ ⟨(blk_cell BK904.out 0).trans rfl,hHeld.2.1,hHeld.2.2.1,hHeld.2.2.2⟩ (fun hHeld => ?_);clear hK K;refine nT 223 ?_;refine pT HT_ 18 (some 224) ?_;refine pT HT_ 19 (some 225) ?_;refine done_ (done_of HT_.out (by kernel_rfl)) ?_
         try go_wp2
         go_ret;exact eR (bN HB)
       ·obtain rfl := Option.some.inj H
        try go_wp2
        replace HO_5 := aK (Kd.R_drew HO_5.out);replace HO_9 := aK (Kd.R_drew HO_9.out);replace HO_13 := aK (Kd.R_drew HO_13.out);replace HO_17 := aK (Kd.R_drew HO_17.out);replace HO_19 := aK (Kd.R_drew HO_19.out);replace HO_q4 := aK (Kd.V_drew HO_q4.out);replace BK904 := dK BK904;replace HB := dH HB;have p951 : 0 ≤ (x25_3 : Int) := dT;have q951 : x25_3 < (t900.length : Int) := dT;obtain ⟨ad951,A951_0,c951_0,e951,hx951_0,hl951_0,hi951_0⟩ := at_L2 (vr HO_q4) x25_3 p951 q951;cases e951;obtain ⟨ce951,hce951,hMe951,hcc951⟩ := Kd.V_get HO_q4.out [] x25_3 p951 (by first | exact q951 | exact of_decide_eq_true (by first | (with_reducible assumption) | assumption) | (have e_ := (Kd.V_reads' HO_q4.out).1;omega));obtain ⟨ua951_0,uc951_0,rfl,ul951_0,ge951_0⟩ := Kd.FK_slice_open hMe951;have hv951_0 := hcc951 0 _ rfl;rw [Nat.add_zero,show ((Kd.slice 2 (Kd.int .i64))).sz = 1 from rfl,Nat.mul_one] at hv951_0;replace hv951_0 := Option.some.inj (hv951_0.symm.trans hx951_0);injection hv951_0 with hva_ hvn_ hvc_
        rw [hva_] at ge951_0;rw [hvc_] at ul951_0;have HL951_0 := aK (show Kd.V (Kd.int .i64) 2 _ w.heap.size _ _ (rd_L2 t900 x25_3) from Kd.V_mk ul951_0 ge951_0);clear hva_ hvn_ hvc_ ge951_0 ul951_0;clear hcc951 hce951;have HR951_0 := aK hi951_0;have HC951_0 := aK hl951_0;clear hi951_0 hl951_0;replace p951 := eq_true p951;replace q951 := eq_true q951;obtain ⟨ad952,rfl,hx952_0,p952,q952⟩ := aJ (rr HO_5) x203_3;refine start_ (n := 20) (S := fun w' => w'.cell? ⟨gb904,0,none⟩ = some (.slice (some ad951) t900.length co14) ∧ w'.cell? (ad951.add (x25_3).toNat) = some (.slice A951_0 (rd_L2 t900 x25_3).length c951_0) ∧ w'.cell? (ad952.add (x203_3).toNat) = some (.int .i64 (rd t905 x203_3))) (ds := []) #[false,false,false,false,false,false,false,false,false,false,false,false,false,false,false,false,false,false,false,false] (by kernel_rfl) rfl rfl ⟨(blk_cell BK904.out 0).trans rfl,hx951_0,hx952_0⟩ (fun hHeld => ?_);refine with_tabW Za.tab23 Za.bits23 (fun HT_ HW_ => ?_)
        generalize wr.drew = w104 at HO_5 HO_9 HO_13 HO_17 HO_19 HO_q4 BK904 HB HL951_0 HR951_0 hx951_0 hx952_0 hHeld ⊢
        refine pT HT_ 0 (some 206) ?_;refine pT HT_ 2 (some 208) ?_;refine pT HT_ 5 (some 211) ?_;refine pT HT_ 6 (some 212) ?_;refine pT HT_ 7 (some 213) ?_;refine tT HT_ HW_ hHeld 1 (some 207) ?_;refine pT HT_ 3 (some 209) ?_;refine tT HT_ HW_ hHeld 4 (some 210) ?_;refine tT HT_ HW_ hHeld 8 (some 214) ?_;refine oT HT_ 9 (some 215) (fun K hK => ?_);refine gO Try.func17 #[.slice A951_0 (rd_L2 t900 x25_3).length c951_0,.int .i64 (rd t905 x203_3)] ?_
        with_reducible refine (ZN.calls k3 _ _ (rd_L2 t900 x25_3) (rd t905 x203_3) false _ ?side1 ?side2 A96.out).mono ?_
        (case side1 => exact cM ((by repeat (first | (with_reducible exact HR951_0.out) | (with_reducible refine Kd.C_alloc ?_ _) | (with_reducible refine Kd.C_drewN ?_ _) | (with_reducible refine Kd.C_drew ?_) | exact HR951_0.out))))
        (case side2 => exact HC951_0.out)
        rintro e w' ⟨rfl,⟨nd,rfl⟩⟩;refine ⟨_,rfl,?_⟩;refine hK.out _ _ ⟨(blk_cell BK904.out 0).trans rfl,hHeld.2.1,hHeld.2.2⟩ (fun hHeld => ?_);clear hK K;refine nT 215 ?_;refine pT HT_ 10 (some 216) ?_;refine pT HT_ 11 (some 217) ?_;refine uT HT_ 12 (some 218) ?_
        refine uT HT_ 13 (some 219) ?_
        refine uT HT_ 14 (some 220) ?_
        refine uT HT_ 15 (some 221) ?_
        refine uT HT_ 16 (some 222) ?_
        refine uT HT_ 17 (some 223) ?_
        refine uT HT_ 18 (some 224) ?_
        refine pT HT_ 19 (some 225) ?_;refine done_ (done_of HT_.out (by kernel_rfl)) ?_
        try go_wp2
        go_ret;exact eR (bN HB)
      ·have HC105 := aK H;clear H
       go_upto_region 27 with (fail)
       go_cut [245] (Za.R3 l0 r w t900 t913 gb904 Ao14 co14 v914 t932 v933 k3)
       case first =>
        as_aux_lemma =>
         have H := HC105.out;clear HC105;replace H := bE H;obtain ⟨t957,A106,H⟩ := H
         replace H := iB H;obtain ⟨rfl,H⟩|⟨rfl,H⟩ := H
         ·replace H := iP H;obtain ⟨c108b0,H⟩ := H;(first | rw [c108b0] | (simp only [i64_w,i32_w];rw [c108b0]) | skip)
          replace H := iP H;obtain ⟨c109b0,H⟩ := H;have H' := aK H;clear H;obtain ⟨Ao110,co110,eo110⟩ := Kd.R_slice HO_19.out;subst eo110
          as_aux_lemma =>
           go_wp2_with ((with_reducible refine wP ?_);first | (refine gT 233 Try.func17 (ZN.calls k3 _ _ t936 x25_3 true _ (cR HO_19) (rq HO_19) A106.out) ?_;rintro w' ⟨nd,rfl⟩;obtain ⟨Ao111,co111,eo111⟩ := Kd.R_slice HO_17.out;subst eo111;obtain ⟨ad958,rfl,hx958_0,p958,q958⟩ := aC (rr HO_17) t903))
           go_meet
           case rel => exact ⟨_,(((((t905.length : Int) % 2) == 1) != (rdOf false t932 t903))),rD,H',o3 HJ10 HJ59 HK3,rW HO_9,⟨rN HO_17⟩,vW HO_q4,⟨kN BK904⟩,⟨bN HB⟩⟩
         ·have H' := aK H;clear H;obtain ⟨Ao112,co112,eo112⟩ := Kd.R_slice HO_19.out;subst eo112
          as_aux_lemma =>
           go_wp2_with ((with_reducible refine wP ?_);first | (refine gT 233 Try.func17 (ZN.calls k3 _ _ t936 x25_3 false _ (cR HO_19) (rq HO_19) A106.out) ?_;rintro w' ⟨nd,rfl⟩))
           go_meet
           case rel => exact ⟨_,(true),rD,H',o3 HJ10 HJ59 HK3,rW HO_9,⟨rN HO_17⟩,vW HO_q4,⟨kN BK904⟩,⟨bN HB⟩⟩
       case rest =>
        clear HC105
        try clear c1
        try clear p2
        try clear p6
        try clear c9
        try clear p9
        try clear q9
        try clear hx9
        try clear c10
        try clear c17
        try clear p64
        try clear c91
        try clear c91b0
        try clear c92
        try clear c93
        try clear c94
        try clear c95
        try clear p95
        try clear q95
        try clear hx95
        try clear c97
        try clear c99
        try clear c107
        try clear c108
        try clear c108b0
        try clear c109
        try clear c109b0
        try clear hx951_0
        try clear hx952_0
        try clear hx954_0
        try clear hx956_0
        try clear hx958_0
        try clear p951
        try clear p952
        try clear p954
        try clear p956
        try clear p958
        try clear q951
        try clear q952
        try clear q954
        try clear q956
        try clear q958
        go_step;rename_i z3_515 z3_530 _ z3_539 _ z3_541;exact HS3 hu26 HJ10 z2_450 z2_454 HJ59 z2_453 z3_515 z3_530 HK3 z3_539 z3_541 hcut
end Go.Proofs.Ytfpoppidppoeoaa.PX
