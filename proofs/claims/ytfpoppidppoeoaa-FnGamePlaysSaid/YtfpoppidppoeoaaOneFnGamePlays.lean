/- The row of FnGamePlays: the law FnGamePlays holds for all arguments (condition: none beyond the row's own). -/
import Derived.Test.YtfpoppidppoeoaaRows
import Derived.WalkKit
import Derived.ProofKit
import Derived.OpenShut
import Derived.ShutString
import Derived.ChangeOld
import Derived.Below
import Derived.SizedLaws
import Derived.Test.YtfpoppidppoeoaaPk7FnGamePlays
import Derived.Test.YtfpoppidppoeoaaPk8FnGamePlays
import Derived.Test.YtfpoppidppoeoaaPk9FnGamePlays
import Derived.Test.YtfpoppidppoeoaaPk10FnGamePlays
import Derived.Test.YtfpoppidppoeoaaPk11FnGamePlays
import Derived.Test.YtfpoppidppoeoaaPk12FnGamePlays
import Derived.Test.YtfpoppidppoeoaaPk13FnGamePlays
namespace Go.Proofs.Ytfpoppidppoeoaa.PX
open Go.RowKit Go.Proofs.YtfpoppidppoeoaaW.PrintWords Go.Proofs.YtfpoppidppoeoaaW.PrintLast Go.Proofs.YtfpoppidppoeoaaW.PrintMore
attribute [local go_sem] max2_int min2_int max_two min_two max_three min_three max_four min_four
set_option linter.unusedVariables false
set_option linter.unusedSimpArgs false
set_option maxHeartbeats 8000000
set_option maxRecDepth 100000
theorem Za.sec6 (HS7 : Za.S7) : Za.S6 := by
 unfold Za.S6;intros;rename_i _ _ _ l0 r w hu26 HR0 HC0 t900 gb904 Ao14 co14 _ _ _ _ _ _ _ HJ10 _ HJ53 t961 gb964 Ao136 co136 hnb137 hnc137 _ _ _ _ _ _ _ _ _ HJ132 _ hcut
 conv => arg 2;whnf
 obtain ⟨kq,HA,HJ197,HO_q4,HO_q8,BK904,BK964,HB⟩ := hcut
 cases kq with
 | zero => exact absurd HA.out (by simp [Za.j8])
 | succ kj197 =>
  have H := HA.out;clear HA;simp only [Za.j8] at H;replace H := bE H;obtain ⟨⟨t1012,t1013⟩,A239,H⟩ := H;dsimp only at H;replace H := bE H;obtain ⟨⟨t1016,t1019⟩,A240,H⟩ := H;dsimp only at H;replace H := bE H;obtain ⟨⟨t1021,t1024⟩,A241,H⟩ := H;dsimp only at H;have HC242 := aK H;clear H
  go_upto_region 59 with (first | ((with_reducible refine wP ?_);refine gS 400 Try.func25 (Zae.calls kj197 _ _ l0 t1012 t1013 _ (cB HR0 HB) HC0.out A239.out) ?_;rintro e w243 ⟨v1014,rfl,ho0,hb⟩;refine ⟨_,rfl,?_⟩;replace HO_q4 := vL HO_q4 (rb ho0) hb;replace HO_q8 := vL HO_q8 (rb ho0) hb;have HO1015 := rl ho0 HB;replace BK904 := kB BK904 hb;replace BK964 := kB BK964 hb;replace HB := hB HB hb;(try clear hb);(try clear hb2);(try clear hk);(try clear hi);(try clear ho0);obtain ⟨Ao244,co244,eo244⟩ := Kd.R_slice HO1015.out;subst eo244) | ((with_reducible refine wP ?_);refine gS 406 Try.func26 (Zl.calls kj197 t1012 _ _ t1013 t1016 t1019 _ (cR HO1015) (rq HO1015) A240.out) ?_;rintro e w245 ⟨v1017,rfl,ho0,hb⟩;refine ⟨_,rfl,?_⟩;replace HO_q4 := vL HO_q4 (sb ho0) hb;replace HO_q8 := vL HO_q8 (sb ho0) hb;have HO1018 := sl (Kd.S_new' ho0 (rt HO1015)) HB;replace HO1015 := rB HO1015 hb;replace BK904 := kB BK904 hb;replace BK964 := kB BK964 hb;replace HB := hB HB hb;(try clear hb);(try clear hb2);(try clear hk);(try clear hi);(try clear ho0)) | ((with_reducible refine gate_dst (N := 50) rfl ?_);(try (refine gate_guard (by rfl) ?_;dsimp only));refine boxE 50 #[.slice none 0 0] 26 ?_;intro gb1020 hg w246 hbox hb;replace HO_q4 := vE HO_q4 hg hb;replace HO_q8 := vE HO_q8 hg hb;replace HO1015 := rB HO1015 hb;replace HO1018 := sB HO1018 hb;have BK1020 := aK (hbox);have GW1020 := aK (zG HB hg);have GE1020 := aK (zG HB hg);replace HB := hB HB hb;obtain ⟨NB904_1020,NB1020_904⟩ := nG hg BK904;replace BK904 := kB BK904 hb;obtain ⟨NB964_1020,NB1020_964⟩ := nG hg BK964;replace BK964 := kB BK964 hb;clear hb hbox hg;obtain ⟨Ao247,co247,eo247⟩ := Kd.S_slice HO1018.out;subst eo247;have hnb248 := NB1020_904.out;have hnc248 := NB904_1020.out;have hnb249 := NB1020_964.out;have hnc249 := NB964_1020.out;have hcz250_0 := z0 BK1020;have hfz250_0 := fZ BK1020 0) | ((with_reducible refine wP ?_);refine gS 412 Try.func27 (ZB.calls kj197 t1012 _ _ t1013 t1021 t1024 _ ?side1 (rq HO1015) A241.out) ?_;(case side1 => refine (Kd.R_reads' (e := 2) (base := w.heap.size) (ok := fun k_ => True) (n := t1013.length) (c := co244) ?_).2.2;exact (rM ((Kd.R_mono (Kd.R_far (p := ⟨gb1020,0,none⟩) (Kd.R_types HO1015.out BK1020.out (by decide)) (fun _ hk => hk.2) (.slice Ao247 t1016.length co247)) (fun _ h_ => h_.1)))));rintro e w251 ⟨v1022,rfl,ho0,hb⟩;refine ⟨_,rfl,?_⟩;replace HO_q4 := aK (Kd.V_elder' (vM ((Kd.V_mono (Kd.V_far (p := ⟨gb1020,0,none⟩) (Kd.V_mono HO_q4.out (fun k_ hk => (⟨hk,hk.2⟩ : _ ∧ k_ ≠ gb1020))) (fun _ hk => hk.2) (.slice Ao247 t1016.length co247)) (fun _ h_ => h_.1)))) (Kd.S_base ho0) hb);replace HO_q8 := aK (Kd.V_elder' (vM ((Kd.V_mono (Kd.V_far (p := ⟨gb1020,0,none⟩) (Kd.V_mono HO_q8.out (fun k_ hk => (⟨hk,hk.2⟩ : _ ∧ k_ ≠ gb1020))) (fun _ hk => hk.2) (.slice Ao247 t1016.length co247)) (fun _ h_ => h_.1)))) (Kd.S_base ho0) hb);have HO1023 := aK (Kd.S_lower (Kd.S_new' (Kd.S_new' ho0 (Kd.R_lt (rM ((Kd.R_mono (Kd.R_far (p := ⟨gb1020,0,none⟩) (Kd.R_types HO1015.out BK1020.out (by decide)) (fun _ hk => hk.2) (.slice Ao247 t1016.length co247)) (fun _ h_ => h_.1)))))) (Kd.S_lt (sM ((Kd.S_mono (Kd.S_far (p := ⟨gb1020,0,none⟩) (Kd.S_types HO1018.out BK1020.out (by decide)) (fun _ hk => hk.2) (.slice Ao247 t1016.length co247)) (fun _ h_ => h_.1)))))) (below_size (bN HB)));replace HO1015 := aK (Kd.R_below (rM ((Kd.R_mono (Kd.R_far (p := ⟨gb1020,0,none⟩) (Kd.R_types HO1015.out BK1020.out (by decide)) (fun _ hk => hk.2) (.slice Ao247 t1016.length co247)) (fun _ h_ => h_.1)))) hb);replace HO1018 := aK (Kd.S_elder' (sM ((Kd.S_mono (Kd.S_far (p := ⟨gb1020,0,none⟩) (Kd.S_types HO1018.out BK1020.out (by decide)) (fun _ hk => hk.2) (.slice Ao247 t1016.length co247)) (fun _ h_ => h_.1)))) (Kd.S_base ho0) hb);replace BK904 := kY BK904 hb;replace BK964 := kY BK964 hb;replace BK1020 := kX #[.slice Ao247 t1016.length co247] BK1020 hb;replace HB := hB HB hb;(try clear hb);(try clear hb2);(try clear hk);(try clear hi);(try clear ho0)) | ((with_reducible refine gate_dst (N := 52) rfl ?_);(try (refine gate_guard (by rfl) ?_;dsimp only));refine boxE 52 #[.slice none 0 0] 26 ?_;intro gb1025 hg w252 hbox hb;replace HO_q4 := vE HO_q4 hg hb;replace HO_q8 := vE HO_q8 hg hb;replace HO1015 := rB HO1015 hb;replace HO1018 := sB HO1018 hb;replace HO1023 := sB HO1023 hb;have BK1025 := aK (hbox);have GW1025 := aK (zG HB hg);have GE1025 := aK (zG HB hg);replace HB := hB HB hb;obtain ⟨NB904_1025,NB1025_904⟩ := nG hg BK904;replace BK904 := kB BK904 hb;obtain ⟨NB964_1025,NB1025_964⟩ := nG hg BK964;replace BK964 := kB BK964 hb;obtain ⟨NB1020_1025,NB1025_1020⟩ := nG hg BK1020;replace BK1020 := kB BK1020 hb;clear hb hbox hg;obtain ⟨Ao253,co253,eo253⟩ := Kd.S_slice HO1023.out;subst eo253;have hnb254 := NB1025_904.out;have hnc254 := NB904_1025.out;have hnb255 := NB1025_964.out;have hnc255 := NB964_1025.out;have hnb256 := NB1025_1020.out;have hnc256 := NB1020_1025.out;have hcz257_0 := z0 BK1025;have hfz257_0 := fZ BK1025 0))
  (try simp only [Act.put,List.setIfInBounds_toArray,List.set_cons_zero,List.set_cons_succ])
  go_cut [423] (Za.R7 l0 r w t900 gb904 Ao14 co14 t961 gb964 Ao136 co136 kj197 t1012 t1016 t1019 t1021 gb1020 Ao247 co247 gb1025 Ao253 co253)
  case first =>
   have H := HC242.out;clear HC242
   by_cases c258 : t1019 = t1024
   ·rw [if_pos c258] at H;have c258b0 := beq_iff_eq.mpr c258;have c258b1 := bne_eq_false_iff_eq.mpr c258;clear c258;(first | rw [c258b0] | (simp only [i64_w,i32_w];rw [c258b0]) | skip);replace H := bE H;obtain ⟨t1026,A259,H⟩ := H;have H' := aK H;clear H;have hnb260 := NB1020_904.out;have hnc260 := NB904_1020.out;have hnb261 := NB1020_964.out;have hnc261 := NB964_1020.out;have hnb262 := NB1020_1025.out;have hnc262 := NB1025_1020.out;have hcz263_0 := z0 BK1020;have hfz263_0 := fZ BK1020 0;have hnb264 := NB1025_904.out;have hnc264 := NB904_1025.out;have hnb265 := NB1025_964.out;have hnc265 := NB964_1025.out;have hcz266_0 := z0 BK1025;have hfz266_0 := fZ BK1025 0
    go_wp2_with (first | (go_at_call 28;refine cA (Zas.calls kj197 _ _ t1016 _ _ t1021 t1026 _ ?side1 (sq HO1018) ?side3 (sq HO1023) A259.out) ?_;(case side1 => refine (Kd.S_reads' (e := 29) (base := w.heap.size) (ok := fun k_ => ((True ∧ some k_ ≠ (.slice Ao244 t1013.length co244 : Value).ownBlock) ∧ some k_ ≠ (.slice Ao253 t1021.length co253 : Value).ownBlock)) (n := t1016.length) (c := co247) ?_).2.2;exact (sM ((Kd.S_mono (Kd.S_far (p := ⟨gb1025,0,none⟩) (Kd.S_types HO1018.out BK1025.out (by decide)) (fun _ hk => hk.2) (.slice Ao253 t1021.length co253)) (fun _ h_ => h_.1)))));(case side3 => refine (Kd.S_reads' (e := 29) (base := w.heap.size) (ok := fun k_ => ((True ∧ some k_ ≠ (.slice Ao244 t1013.length co244 : Value).ownBlock) ∧ some k_ ≠ (.slice Ao247 t1016.length co247 : Value).ownBlock)) (n := t1021.length) (c := co253) ?_).2.2;exact (sM ((Kd.S_mono (Kd.S_far (p := ⟨gb1025,0,none⟩) (Kd.S_types HO1023.out BK1025.out (by decide)) (fun _ hk => hk.2) (.slice Ao253 t1021.length co253)) (fun _ h_ => h_.1)))));rintro e w267 ⟨rfl,hb⟩;replace HO_q4 := aK (Kd.V_below (vM ((Kd.V_mono (Kd.V_far (p := ⟨gb1025,0,none⟩) (Kd.V_mono HO_q4.out (fun k_ hk => (⟨hk,hk.2⟩ : _ ∧ k_ ≠ gb1025))) (fun _ hk => hk.2) (.slice Ao253 t1021.length co253)) (fun _ h_ => h_.1)))) hb);replace HO_q8 := aK (Kd.V_below (vM ((Kd.V_mono (Kd.V_far (p := ⟨gb1025,0,none⟩) (Kd.V_mono HO_q8.out (fun k_ hk => (⟨hk,hk.2⟩ : _ ∧ k_ ≠ gb1025))) (fun _ hk => hk.2) (.slice Ao253 t1021.length co253)) (fun _ h_ => h_.1)))) hb);replace HO1015 := aK (Kd.R_below (rM ((Kd.R_mono (Kd.R_far (p := ⟨gb1025,0,none⟩) (Kd.R_types HO1015.out BK1025.out (by decide)) (fun _ hk => hk.2) (.slice Ao253 t1021.length co253)) (fun _ h_ => h_.1)))) hb);replace HO1018 := aK (Kd.S_below (sM ((Kd.S_mono (Kd.S_far (p := ⟨gb1025,0,none⟩) (Kd.S_types HO1018.out BK1025.out (by decide)) (fun _ hk => hk.2) (.slice Ao253 t1021.length co253)) (fun _ h_ => h_.1)))) hb);replace HO1023 := aK (Kd.S_below (sM ((Kd.S_mono (Kd.S_far (p := ⟨gb1025,0,none⟩) (Kd.S_types HO1023.out BK1025.out (by decide)) (fun _ hk => hk.2) (.slice Ao253 t1021.length co253)) (fun _ h_ => h_.1)))) hb);replace BK904 := kY BK904 hb;replace BK964 := kY BK964 hb;replace BK1020 := kY BK1020 hb;replace BK1025 := kX #[.slice Ao253 t1021.length co253] BK1025 hb;replace HB := hB HB hb;(try clear hb);(try clear hb2);(try clear hk);(try clear hi)))
    go_meet
    case rel => exact ⟨_,(!t1026),rD,H',o4 HJ10 HJ53 HJ132 HJ197,vW HO_q4,vW HO_q8,sW HO1018,sW HO1023,⟨kN BK904⟩,⟨kN BK964⟩,⟨kN BK1020⟩,⟨kN BK1025⟩,⟨bN HB⟩⟩
   ·rw [if_neg c258] at H;have c258b0 := beq_eq_false_iff_ne.mpr c258;have c258b1 := bne_iff_ne.mpr c258;(first | rw [c258b0] | (simp only [i64_w,i32_w];rw [c258b0]) | skip);have H' := aK H;clear H;go_wp2;go_meet
    case rel => exact ⟨_,(true),rD,H',o4 HJ10 HJ53 HJ132 HJ197,⟨vM (Kd.V_mono (Kd.V_far (p := ⟨gb1025,0,none⟩) (Kd.V_mono HO_q4.out (fun k_ hk => (⟨hk,hk.2⟩ : _ ∧ k_ ≠ gb1025))) (fun _ hk => hk.2) (.slice Ao253 t1021.length co253)) (fun _ hk => ⟨hk.1.1.1.1.2,⟨hk.1.1.2,⟨hk.1.1.1.1.1.1.1,⟨hk.1.1.1.1.1.1.2,⟨hk.1.1.1.2,hk.1.2⟩⟩⟩⟩⟩))⟩,⟨vM (Kd.V_mono (Kd.V_far (p := ⟨gb1025,0,none⟩) (Kd.V_mono HO_q8.out (fun k_ hk => (⟨hk,hk.2⟩ : _ ∧ k_ ≠ gb1025))) (fun _ hk => hk.2) (.slice Ao253 t1021.length co253)) (fun _ hk => ⟨hk.1.1.1.1.2,⟨hk.1.1.2,⟨hk.1.1.1.1.1.1.1,⟨hk.1.1.1.1.1.1.2,⟨hk.1.1.1.2,hk.1.2⟩⟩⟩⟩⟩))⟩,⟨sM (Kd.S_mono (Kd.S_far (p := ⟨gb1025,0,none⟩) (Kd.S_types HO1018.out BK1025.out (by decide)) (fun _ hk => hk.2) (.slice Ao253 t1021.length co253)) (fun _ hk => hk.1.2))⟩,⟨sM (Kd.S_mono (Kd.S_far (p := ⟨gb1025,0,none⟩) (Kd.S_types HO1023.out BK1025.out (by decide)) (fun _ hk => hk.2) (.slice Ao253 t1021.length co253)) (fun _ hk => hk.1.2))⟩,⟨kZ BK904⟩,⟨kZ BK964⟩,⟨kZ BK1020⟩,⟨kP BK1025⟩,⟨bN HB⟩⟩
  case rest =>
   clear HC242
   try clear c1
   try clear p1
   try clear q1
   try clear hx1
   try clear c2
   try clear p2
   try clear p6
   try clear p10
   try clear q10
   try clear hx10
   try clear c13
   try clear c19
   try clear c20
   try clear c21
   try clear c22
   try clear c23
   try clear c24
   try clear c25
   try clear c26
   try clear c27
   try clear p64
   try clear p100
   try clear q100
   try clear hx100
   try clear p101
   try clear q101
   try clear hx101
   try clear c199
   try clear c199b0
   try clear c199b1
   try clear c201
   try clear c201b0
   try clear c201b1
   try clear c206
   try clear c206b0
   try clear c207
   try clear c208
   try clear c209
   try clear c213
   try clear c218
   try clear c224
   try clear c225
   try clear c225b0
   try clear c236
   try clear c248
   try clear c249
   try clear c254
   try clear c255
   try clear c256
   try clear c258
   try clear c258b0
   try clear c258b1
   try clear c260
   try clear c261
   try clear c262
   try clear c264
   try clear c265
   try clear hcz237_0
   try clear hcz250_0
   try clear hcz257_0
   try clear hcz263_0
   try clear hcz266_0
   try clear hfz237_0
   try clear hfz250_0
   try clear hfz257_0
   try clear hfz263_0
   try clear hfz266_0
   try clear hx1005_0
   try clear hx1006_0
   try clear hx1007_0
   try clear hx1008_0
   try clear hx1009_0
   try clear hx1010_0
   try clear hx1011_0
   try clear p1
   try clear p10
   try clear p100
   try clear p1005
   try clear p1006
   try clear p1007
   try clear p1008
   try clear p1009
   try clear p101
   try clear p1010
   try clear p1011
   try clear p2
   try clear p6
   try clear p64
   try clear q1
   try clear q10
   try clear q100
   try clear q1005
   try clear q1006
   try clear q1007
   try clear q1008
   try clear q1009
   try clear q101
   try clear q1010
   try clear q1011
   go_step;rename_i z7_621;exact HS7 hu26 HR0 HC0 HJ10 HJ53 hnb137 hnc137 HJ132 HJ197 NB904_1020 NB1020_904 NB964_1020 NB1020_964 hnb248 hnc248 hnb249 hnc249 NB1020_1025 NB1025_1020 hnb254 hnc254 hnb255 hnc255 hnb256 hnc256 z7_621 hcut
theorem Za.sec7 (HS8 : Za.S8) : Za.S7 := by
 unfold Za.S7;intros;rename_i _ _ _ l0 r w hu26 HR0 HC0 t900 gb904 Ao14 co14 _ _ _ _ _ _ _ HJ10 _ HJ53 t961 gb964 Ao136 co136 hnb137 hnc137 _ _ _ _ _ _ _ _ _ HJ132 _ HJ197 t1012 t1016 t1019 t1021 gb1020 NB904_1020 NB1020_904 NB964_1020 NB1020_964 Ao247 co247 hnb248 hnc248 hnb249 hnc249 gb1025 NB1020_1025 NB1025_1020 Ao253 co253 hnb254 hnc254 hnb255 hnc255 hnb256 hnc256 _ z7_621 _ _ hcut
 conv => arg 2;whnf
 conv at z7_621 => enter [a,w];arg 1;arg 2;whnf
 obtain ⟨kq,x423_241,rfl,HA,HJ241,HO_q4,HO_q8,HO_qd,HO_qe,BK904,BK964,BK1020,BK1025,HB⟩ := hcut
 cases kq with
 | zero => exact absurd HA.out (by simp [Za.j9])
 | succ kj241 =>
  have H := HA.out;clear HA;simp only [Za.j9] at H
  replace H := iB H;obtain ⟨rfl,H⟩|⟨rfl,H⟩ := H
  ·obtain rfl := Option.some.inj H;go_wp2;go_ret;exact eR (bN HB)
  ·have HC269 := aK H;clear H
   go_upto_region 61 with (fail)
   go_cut [433] (Za.R8 l0 r w t900 gb904 Ao14 co14 t961 gb964 Ao136 co136 t1016 t1021 gb1020 Ao247 co247 gb1025 Ao253 co253 kj241)
   case first =>
    have H := HC269.out;clear HC269
    by_cases c270 : t1019 = 0
    ·rw [if_pos c270] at H;have c270b0 := beq_iff_eq.mpr c270;have c270b1 := bne_eq_false_iff_eq.mpr c270;clear c270;(first | rw [c270b0] | (simp only [i64_w,i32_w];rw [c270b0]) | skip);have H' := aK H;clear H;have hnb271 := NB1020_904.out;have hnc271 := NB904_1020.out;have hnb272 := NB1020_964.out;have hnc272 := NB964_1020.out;have hnb273 := NB1020_1025.out;have hnc273 := NB1025_1020.out;have hcz274_0 := z0 BK1020;have hfz274_0 := fZ BK1020 0;go_wp2;go_meet
     case rel => exact ⟨_,(((t1016.length : Int) != (wrap64 (t1012 + 1)))),rD,H',o5 HJ10 HJ53 HJ132 HJ197 HJ241,⟨vN HO_q4⟩,⟨vN HO_q8⟩,⟨sN HO_qd⟩,⟨sN HO_qe⟩,⟨kN BK904⟩,⟨kN BK964⟩,⟨kN BK1020⟩,⟨kN BK1025⟩,⟨bN HB⟩⟩
    ·rw [if_neg c270] at H;have c270b0 := beq_eq_false_iff_ne.mpr c270;have c270b1 := bne_iff_ne.mpr c270;(first | rw [c270b0] | (simp only [i64_w,i32_w];rw [c270b0]) | skip);have H' := aK H;clear H;go_wp2;go_meet
     case rel => exact ⟨_,(false),rD,H',o5 HJ10 HJ53 HJ132 HJ197 HJ241,⟨vN HO_q4⟩,⟨vN HO_q8⟩,⟨sN HO_qd⟩,⟨sN HO_qe⟩,⟨kN BK904⟩,⟨kN BK964⟩,⟨kN BK1020⟩,⟨kN BK1025⟩,⟨bN HB⟩⟩
   case rest =>
    clear HC269
    try clear c1
    try clear p1
    try clear q1
    try clear hx1
    try clear c2
    try clear p2
    try clear p6
    try clear p10
    try clear q10
    try clear hx10
    try clear c13
    try clear c19
    try clear c20
    try clear c21
    try clear c22
    try clear c23
    try clear c24
    try clear c25
    try clear c26
    try clear c27
    try clear p64
    try clear p100
    try clear q100
    try clear hx100
    try clear p101
    try clear q101
    try clear hx101
    try clear c199
    try clear c199b0
    try clear c199b1
    try clear c201
    try clear c201b0
    try clear c201b1
    try clear c206
    try clear c206b0
    try clear c207
    try clear c208
    try clear c209
    try clear c213
    try clear c218
    try clear c224
    try clear c225
    try clear c225b0
    try clear c236
    try clear c248
    try clear c249
    try clear c254
    try clear c255
    try clear c256
    try clear c258
    try clear c258b0
    try clear c258b1
    try clear c260
    try clear c261
    try clear c262
    try clear c264
    try clear c265
    try clear c268
    try clear c270
    try clear c270b0
    try clear c270b1
    try clear c271
    try clear c272
    try clear c273
    try clear hcz237_0
    try clear hcz250_0
    try clear hcz257_0
    try clear hcz263_0
    try clear hcz266_0
    try clear hcz274_0
    try clear hfz237_0
    try clear hfz250_0
    try clear hfz257_0
    try clear hfz263_0
    try clear hfz266_0
    try clear hfz274_0
    try clear hx1005_0
    try clear hx1006_0
    try clear hx1007_0
    try clear hx1008_0
    try clear hx1009_0
    try clear hx1010_0
    try clear hx1011_0
    try clear p1
    try clear p10
    try clear p100
    try clear p1005
    try clear p1006
    try clear p1007
    try clear p1008
    try clear p1009
    try clear p101
    try clear p1010
    try clear p1011
    try clear p2
    try clear p6
    try clear p64
    try clear q1
    try clear q10
    try clear q100
    try clear q1005
    try clear q1006
    try clear q1007
    try clear q1008
    try clear q1009
    try clear q101
    try clear q1010
    try clear q1011
    go_step;rename_i z8_529;exact HS8 hu26 HR0 HC0 hnb137 hnc137 hnb248 hnc248 hnb249 hnc249 hnb254 hnc254 hnb255 hnc255 hnb256 hnc256 z8_529 hcut
theorem Za.sec8 : Za.S8 := by
 unfold Za.S8;intros;rename_i _ _ l0 _ w _ HR0 HC0 t900 gb904 Ao14 co14 _ _ _ _ _ _ t961 gb964 Ao136 co136 _ _ _ _ _ _ _ _ _ _ t1016 t1021 gb1020 Ao247 co247 _ _ _ _ gb1025 Ao253 co253 _ _ _ _ _ _ _ _ z8_529 _ _ hcut
 conv => arg 2;whnf
 conv at z8_529 => enter [a,w];arg 1;arg 2;whnf
 obtain ⟨kq,x433_268,rfl,HA,HJ268,HO_q4,HO_q8,HO_qd,HO_qe,BK904,BK964,BK1020,BK1025,HB⟩ := hcut
 cases kq with
 | zero => exact absurd HA.out (by simp [Za.j10])
 | succ kj268 =>
  have H := HA.out;clear HA;simp only [Za.j10] at H
  replace H := iB H;obtain ⟨rfl,H⟩|⟨rfl,H⟩ := H
  ·obtain rfl := Option.some.inj H;go_wp2;go_ret;exact eR (bN HB)
  ·replace H := bE H;obtain ⟨⟨t1027,t1030,t1031,t1034⟩,A276,H⟩ := H;dsimp only at H;replace H := bE H;obtain ⟨⟨t1037,t1038⟩,A277,H⟩ := H;dsimp only at H;replace H := bE H;obtain ⟨⟨t1039,t1040⟩,A278,H⟩ := H;dsimp only at H
   by_cases c279 : t1038 = t1040
   ·rw [if_pos c279] at H;have c279b0 := beq_iff_eq.mpr c279;have c279b1 := bne_eq_false_iff_eq.mpr c279;clear c279;obtain rfl := Option.some.inj H
    go_wp2_with (first | ((with_reducible refine wP ?_);refine gS 436 Try.func29 (Zn.calls kj268 _ _ l0 t1027 t1030 t1031 t1034 _ (cB HR0 HB) HC0.out A276.out) ?_;rintro e w280 ⟨v1028,v1032,rfl,ho0,ho1,hb⟩;refine ⟨_,rfl,?_⟩;replace HO_q4 := vB HO_q4 hb;replace HO_q8 := vB HO_q8 hb;have HO1029 := vl (Kd.V_mono (ok' := fun k_ => some k_ ≠ (.slice Ao247 t1016.length co247 : Value).ownBlock ∧ some k_ ≠ (.slice Ao253 t1021.length co253 : Value).ownBlock ∧ k_ ≠ gb904 ∧ k_ ≠ gb964 ∧ k_ ≠ gb1020 ∧ k_ ≠ gb1025) ho0 (fun k_ hk_ => ⟨(Kd.fresh' (Kd.S_lt (sN HO_qd)) k_ hk_),(Kd.fresh' (Kd.S_lt (sN HO_qe)) k_ hk_),(Kd.freshB (g := gb904) (o := .cells #[.slice Ao14 t900.length co14] 26 (0,0)) (kN BK904) k_ hk_),(Kd.freshB (g := gb964) (o := .cells #[.slice Ao136 t961.length co136] 26 (0,0)) (kN BK964) k_ hk_),(Kd.freshB (g := gb1020) (o := .cells #[.slice Ao247 t1016.length co247] 26 (0,0)) (kN BK1020) k_ hk_),(Kd.freshB (g := gb1025) (o := .cells #[.slice Ao253 t1021.length co253] 26 (0,0)) (kN BK1025) k_ hk_)⟩)) HB;have HO1033 := vl (Kd.V_mono (ok' := fun k_ => some k_ ≠ (.slice Ao247 t1016.length co247 : Value).ownBlock ∧ some k_ ≠ (.slice Ao253 t1021.length co253 : Value).ownBlock ∧ k_ ≠ gb904 ∧ k_ ≠ gb964 ∧ k_ ≠ gb1020 ∧ k_ ≠ gb1025) ho1 (fun k_ hk_ => ⟨(Kd.fresh' (Kd.S_lt (sN HO_qd)) k_ hk_),(Kd.fresh' (Kd.S_lt (sN HO_qe)) k_ hk_),(Kd.freshB (g := gb904) (o := .cells #[.slice Ao14 t900.length co14] 26 (0,0)) (kN BK904) k_ hk_),(Kd.freshB (g := gb964) (o := .cells #[.slice Ao136 t961.length co136] 26 (0,0)) (kN BK964) k_ hk_),(Kd.freshB (g := gb1020) (o := .cells #[.slice Ao247 t1016.length co247] 26 (0,0)) (kN BK1020) k_ hk_),(Kd.freshB (g := gb1025) (o := .cells #[.slice Ao253 t1021.length co253] 26 (0,0)) (kN BK1025) k_ hk_)⟩)) HB;replace HO_qd := sB HO_qd hb;replace HO_qe := sB HO_qe hb;replace BK904 := kB BK904 hb;replace BK964 := kB BK964 hb;replace BK1020 := kB BK1020 hb;replace BK1025 := kB BK1025 hb;replace HB := hB HB hb;(try clear hb);(try clear hb2);(try clear hk);(try clear hi);(try clear ho0);(try clear ho1)) | ((with_reducible refine gate_dst (N := 54) rfl ?_);(try (refine gate_guard (by rfl) ?_;dsimp only));refine boxE 54 #[.slice none 0 0] 26 ?_;intro gb1035 hg w281 hbox hb;replace HO_q4 := vE HO_q4 hg hb;replace HO_q8 := vE HO_q8 hg hb;replace HO_qd := sB HO_qd hb;replace HO_qe := sB HO_qe hb;replace HO1029 := vE HO1029 hg hb;replace HO1033 := vE HO1033 hg hb;have BK1035 := aK (hbox);have GW1035 := aK (zG HB hg);have GE1035 := aK (zG HB hg);replace HB := hB HB hb;obtain ⟨NB904_1035,NB1035_904⟩ := nG hg BK904;replace BK904 := kB BK904 hb;obtain ⟨NB964_1035,NB1035_964⟩ := nG hg BK964;replace BK964 := kB BK964 hb;obtain ⟨NB1020_1035,NB1035_1020⟩ := nG hg BK1020;replace BK1020 := kB BK1020 hb;obtain ⟨NB1025_1035,NB1035_1025⟩ := nG hg BK1025;replace BK1025 := kB BK1025 hb;clear hb hbox hg) | ((with_reducible refine gate_dst (N := 56) rfl ?_);(try (refine gate_guard (by rfl) ?_;dsimp only));refine boxE 56 #[.slice none 0 0] 26 ?_;intro gb1036 hg w282 hbox hb;replace HO_q4 := vE HO_q4 hg hb;replace HO_q8 := vE HO_q8 hg hb;replace HO_qd := sB HO_qd hb;replace HO_qe := sB HO_qe hb;replace HO1029 := vE HO1029 hg hb;replace HO1033 := vE HO1033 hg hb;have BK1036 := aK (hbox);have GW1036 := aK (zG HB hg);have GE1036 := aK (zG HB hg);replace HB := hB HB hb;obtain ⟨NB904_1036,NB1036_904⟩ := nG hg BK904;replace BK904 := kB BK904 hb;obtain ⟨NB964_1036,NB1036_964⟩ := nG hg BK964;replace BK964 := kB BK964 hb;obtain ⟨NB1020_1036,NB1036_1020⟩ := nG hg BK1020;replace BK1020 := kB BK1020 hb;obtain ⟨NB1025_1036,NB1036_1025⟩ := nG hg BK1025;replace BK1025 := kB BK1025 hb;obtain ⟨NB1035_1036,NB1036_1035⟩ := nG hg BK1035;replace BK1035 := kB BK1035 hb;clear hb hbox hg;obtain ⟨Ao283,co283,eo283⟩ := Kd.V_slice HO1029.out;subst eo283;have hnb284 := NB1035_904.out;have hnc284 := NB904_1035.out;have hnb285 := NB1035_964.out;have hnc285 := NB964_1035.out;have hnb286 := NB1035_1020.out;have hnc286 := NB1020_1035.out;have hnb287 := NB1035_1025.out;have hnc287 := NB1025_1035.out;have hnb288 := NB1035_1036.out;have hnc288 := NB1036_1035.out;have hcz289_0 := z0 BK1035;have hfz289_0 := fZ BK1035 0;obtain ⟨Ao290,co290,eo290⟩ := Kd.V_slice HO1033.out;subst eo290;have hnb291 := NB1036_904.out;have hnc291 := NB904_1036.out;have hnb292 := NB1036_964.out;have hnc292 := NB964_1036.out;have hnb293 := NB1036_1020.out;have hnc293 := NB1020_1036.out;have hnb294 := NB1036_1025.out;have hnc294 := NB1025_1036.out;have hcz295_0 := z0 BK1036;have hfz295_0 := fZ BK1036 0) | ((with_reducible refine wP ?_);refine gT 446 Try.func30 (Zg.calls kj268 _ _ t1027 t1030 _ _ t1031 t1034 t1037 t1038 _ ?side1 (vq HO1029) ?side3 (vq HO1033) A277.out) ?_;(case side1 => refine (Kd.V_reads' (e := 29) (base := w.heap.size) (ok := fun k_ => (((some k_ ≠ (.slice Ao247 t1016.length co247 : Value).ownBlock ∧ (some k_ ≠ (.slice Ao253 t1021.length co253 : Value).ownBlock ∧ (k_ ≠ gb904 ∧ (k_ ≠ gb964 ∧ (k_ ≠ gb1020 ∧ k_ ≠ gb1025))))) ∧ k_ ≠ gb1035) ∧ k_ ≠ gb1036)) (n := t1027.length) (c := co283) ?_).2.2;exact (vM ((Kd.V_mono (Kd.V_mono (Kd.V_far (p := ⟨gb1036,0,none⟩) (Kd.V_far (p := ⟨gb1035,0,none⟩) (Kd.V_mono (Kd.V_mono HO1029.out (fun k_ hk => (⟨hk,hk.1.2⟩ : _ ∧ k_ ≠ gb1035))) (fun k_ hk => (⟨hk,hk.1.2⟩ : _ ∧ k_ ≠ gb1036))) (fun _ hk => hk.1.2) (.slice Ao283 t1027.length co283)) (fun _ hk => hk.2) (.slice Ao290 t1031.length co290)) (fun _ h_ => h_.1)) (fun _ h_ => h_.1)))));(case side3 => refine (Kd.V_reads' (e := 29) (base := w.heap.size) (ok := fun k_ => (((some k_ ≠ (.slice Ao247 t1016.length co247 : Value).ownBlock ∧ (some k_ ≠ (.slice Ao253 t1021.length co253 : Value).ownBlock ∧ (k_ ≠ gb904 ∧ (k_ ≠ gb964 ∧ (k_ ≠ gb1020 ∧ k_ ≠ gb1025))))) ∧ k_ ≠ gb1035) ∧ k_ ≠ gb1036)) (n := t1031.length) (c := co290) ?_).2.2;exact (vM ((Kd.V_mono (Kd.V_mono (Kd.V_far (p := ⟨gb1036,0,none⟩) (Kd.V_far (p := ⟨gb1035,0,none⟩) (Kd.V_mono (Kd.V_mono HO1033.out (fun k_ hk => (⟨hk,hk.1.2⟩ : _ ∧ k_ ≠ gb1035))) (fun k_ hk => (⟨hk,hk.1.2⟩ : _ ∧ k_ ≠ gb1036))) (fun _ hk => hk.1.2) (.slice Ao283 t1027.length co283)) (fun _ hk => hk.2) (.slice Ao290 t1031.length co290)) (fun _ h_ => h_.1)) (fun _ h_ => h_.1)))));intro w296 hb;replace HO_q4 := aK (Kd.V_below (vM ((Kd.V_mono (Kd.V_mono (Kd.V_far (p := ⟨gb1036,0,none⟩) (Kd.V_far (p := ⟨gb1035,0,none⟩) (Kd.V_mono (Kd.V_mono HO_q4.out (fun k_ hk => (⟨hk,hk.1.2⟩ : _ ∧ k_ ≠ gb1035))) (fun k_ hk => (⟨hk,hk.1.2⟩ : _ ∧ k_ ≠ gb1036))) (fun _ hk => hk.1.2) (.slice Ao283 t1027.length co283)) (fun _ hk => hk.2) (.slice Ao290 t1031.length co290)) (fun _ h_ => h_.1)) (fun _ h_ => h_.1)))) hb);replace HO_q8 := aK (Kd.V_below (vM ((Kd.V_mono (Kd.V_mono (Kd.V_far (p := ⟨gb1036,0,none⟩) (Kd.V_far (p := ⟨gb1035,0,none⟩) (Kd.V_mono (Kd.V_mono HO_q8.out (fun k_ hk => (⟨hk,hk.1.2⟩ : _ ∧ k_ ≠ gb1035))) (fun k_ hk => (⟨hk,hk.1.2⟩ : _ ∧ k_ ≠ gb1036))) (fun _ hk => hk.1.2) (.slice Ao283 t1027.length co283)) (fun _ hk => hk.2) (.slice Ao290 t1031.length co290)) (fun _ h_ => h_.1)) (fun _ h_ => h_.1)))) hb);replace HO_qd := aK (Kd.S_below (sM ((Kd.S_mono (Kd.S_mono (Kd.S_far (p := ⟨gb1036,0,none⟩) (Kd.S_far (p := ⟨gb1035,0,none⟩) (Kd.S_types (Kd.S_types HO_qd.out BK1035.out (by decide)) BK1036.out (by decide)) (fun _ hk => hk.1.2) (.slice Ao283 t1027.length co283)) (fun _ hk => hk.2) (.slice Ao290 t1031.length co290)) (fun _ h_ => h_.1)) (fun _ h_ => h_.1)))) hb);replace HO_qe := aK (Kd.S_below (sM ((Kd.S_mono (Kd.S_mono (Kd.S_far (p := ⟨gb1036,0,none⟩) (Kd.S_far (p := ⟨gb1035,0,none⟩) (Kd.S_types (Kd.S_types HO_qe.out BK1035.out (by decide)) BK1036.out (by decide)) (fun _ hk => hk.1.2) (.slice Ao283 t1027.length co283)) (fun _ hk => hk.2) (.slice Ao290 t1031.length co290)) (fun _ h_ => h_.1)) (fun _ h_ => h_.1)))) hb);replace HO1029 := aK (Kd.V_below (vM ((Kd.V_mono (Kd.V_mono (Kd.V_far (p := ⟨gb1036,0,none⟩) (Kd.V_far (p := ⟨gb1035,0,none⟩) (Kd.V_mono (Kd.V_mono HO1029.out (fun k_ hk => (⟨hk,hk.1.2⟩ : _ ∧ k_ ≠ gb1035))) (fun k_ hk => (⟨hk,hk.1.2⟩ : _ ∧ k_ ≠ gb1036))) (fun _ hk => hk.1.2) (.slice Ao283 t1027.length co283)) (fun _ hk => hk.2) (.slice Ao290 t1031.length co290)) (fun _ h_ => h_.1)) (fun _ h_ => h_.1)))) hb);replace HO1033 := aK (Kd.V_below (vM ((Kd.V_mono (Kd.V_mono (Kd.V_far (p := ⟨gb1036,0,none⟩) (Kd.V_far (p := ⟨gb1035,0,none⟩) (Kd.V_mono (Kd.V_mono HO1033.out (fun k_ hk => (⟨hk,hk.1.2⟩ : _ ∧ k_ ≠ gb1035))) (fun k_ hk => (⟨hk,hk.1.2⟩ : _ ∧ k_ ≠ gb1036))) (fun _ hk => hk.1.2) (.slice Ao283 t1027.length co283)) (fun _ hk => hk.2) (.slice Ao290 t1031.length co290)) (fun _ h_ => h_.1)) (fun _ h_ => h_.1)))) hb);replace BK904 := kY BK904 hb;replace BK964 := kY BK964 hb;replace BK1020 := kY BK1020 hb;replace BK1025 := kY BK1025 hb;replace BK1035 := kX #[.slice Ao283 t1027.length co283] BK1035 hb;replace BK1036 := kX #[.slice Ao290 t1031.length co290] BK1036 hb;replace HB := hB HB hb;(try clear hb);(try clear hb2);(try clear hk);(try clear hi);have hcz297_0 := z0 BK1035;have hfz297_0 := fZ BK1035 0;have hcz298_0 := z0 BK1036;have hfz298_0 := fZ BK1036 0) | ((with_reducible refine wP ?_);refine gT 454 Try.func31 (Zc.calls kj268 _ _ t1027 t1030 _ _ t1031 t1034 t1039 t1040 _ (cM (vr HO1029)) (vq HO1029) (cM (vr HO1033)) (vq HO1033) A278.out) ?_;intro w299 hb;replace HO_q4 := vB HO_q4 hb;replace HO_q8 := vB HO_q8 hb;replace HO_qd := sB HO_qd hb;replace HO_qe := sB HO_qe hb;replace HO1029 := vB HO1029 hb;replace HO1033 := vB HO1033 hb;replace BK904 := kB BK904 hb;replace BK964 := kB BK964 hb;replace BK1020 := kB BK1020 hb;replace BK1025 := kB BK1025 hb;replace BK1035 := kB BK1035 hb;replace BK1036 := kB BK1036 hb;replace HB := hB HB hb;(try clear hb);(try clear hb2);(try clear hk);(try clear hi)))
    go_ret;exact eR (bN HB)
   ·rw [if_neg c279] at H;have c279b0 := beq_eq_false_iff_ne.mpr c279;have c279b1 := bne_iff_ne.mpr c279;obtain rfl := Option.some.inj H
    go_wp2_with (first | ((with_reducible refine wP ?_);refine gS 436 Try.func29 (Zn.calls kj268 _ _ l0 t1027 t1030 t1031 t1034 _ (cB HR0 HB) HC0.out A276.out) ?_;rintro e w300 ⟨v1028,v1032,rfl,ho0,ho1,hb⟩;refine ⟨_,rfl,?_⟩;replace HO_q4 := vB HO_q4 hb;replace HO_q8 := vB HO_q8 hb;have HO1029 := vl (Kd.V_mono (ok' := fun k_ => some k_ ≠ (.slice Ao247 t1016.length co247 : Value).ownBlock ∧ some k_ ≠ (.slice Ao253 t1021.length co253 : Value).ownBlock ∧ k_ ≠ gb904 ∧ k_ ≠ gb964 ∧ k_ ≠ gb1020 ∧ k_ ≠ gb1025) ho0 (fun k_ hk_ => ⟨(Kd.fresh' (Kd.S_lt (sN HO_qd)) k_ hk_),(Kd.fresh' (Kd.S_lt (sN HO_qe)) k_ hk_),(Kd.freshB (g := gb904) (o := .cells #[.slice Ao14 t900.length co14] 26 (0,0)) (kN BK904) k_ hk_),(Kd.freshB (g := gb964) (o := .cells #[.slice Ao136 t961.length co136] 26 (0,0)) (kN BK964) k_ hk_),(Kd.freshB (g := gb1020) (o := .cells #[.slice Ao247 t1016.length co247] 26 (0,0)) (kN BK1020) k_ hk_),(Kd.freshB (g := gb1025) (o := .cells #[.slice Ao253 t1021.length co253] 26 (0,0)) (kN BK1025) k_ hk_)⟩)) HB;have HO1033 := vl (Kd.V_mono (ok' := fun k_ => some k_ ≠ (.slice Ao247 t1016.length co247 : Value).ownBlock ∧ some k_ ≠ (.slice Ao253 t1021.length co253 : Value).ownBlock ∧ k_ ≠ gb904 ∧ k_ ≠ gb964 ∧ k_ ≠ gb1020 ∧ k_ ≠ gb1025) ho1 (fun k_ hk_ => ⟨(Kd.fresh' (Kd.S_lt (sN HO_qd)) k_ hk_),(Kd.fresh' (Kd.S_lt (sN HO_qe)) k_ hk_),(Kd.freshB (g := gb904) (o := .cells #[.slice Ao14 t900.length co14] 26 (0,0)) (kN BK904) k_ hk_),(Kd.freshB (g := gb964) (o := .cells #[.slice Ao136 t961.length co136] 26 (0,0)) (kN BK964) k_ hk_),(Kd.freshB (g := gb1020) (o := .cells #[.slice Ao247 t1016.length co247] 26 (0,0)) (kN BK1020) k_ hk_),(Kd.freshB (g := gb1025) (o := .cells #[.slice Ao253 t1021.length co253] 26 (0,0)) (kN BK1025) k_ hk_)⟩)) HB;replace HO_qd := sB HO_qd hb;replace HO_qe := sB HO_qe hb;replace BK904 := kB BK904 hb;replace BK964 := kB BK964 hb;replace BK1020 := kB BK1020 hb;replace BK1025 := kB BK1025 hb;replace HB := hB HB hb;(try clear hb);(try clear hb2);(try clear hk);(try clear hi);(try clear ho0);(try clear ho1)) | ((with_reducible refine gate_dst (N := 54) rfl ?_);(try (refine gate_guard (by rfl) ?_;dsimp only));refine boxE 54 #[.slice none 0 0] 26 ?_;intro gb1035 hg w301 hbox hb;replace HO_q4 := vE HO_q4 hg hb;replace HO_q8 := vE HO_q8 hg hb;replace HO_qd := sB HO_qd hb;replace HO_qe := sB HO_qe hb;replace HO1029 := vE HO1029 hg hb;replace HO1033 := vE HO1033 hg hb;have BK1035 := aK (hbox);have GW1035 := aK (zG HB hg);have GE1035 := aK (zG HB hg);replace HB := hB HB hb;obtain ⟨NB904_1035,NB1035_904⟩ := nG hg BK904;replace BK904 := kB BK904 hb;obtain ⟨NB964_1035,NB1035_964⟩ := nG hg BK964;replace BK964 := kB BK964 hb;obtain ⟨NB1020_1035,NB1035_1020⟩ := nG hg BK1020;replace BK1020 := kB BK1020 hb;obtain ⟨NB1025_1035,NB1035_1025⟩ := nG hg BK1025;replace BK1025 := kB BK1025 hb;clear hb hbox hg) | ((with_reducible refine gate_dst (N := 56) rfl ?_);(try (refine gate_guard (by rfl) ?_;dsimp only));refine boxE 56 #[.slice none 0 0] 26 ?_;intro gb1036 hg w302 hbox hb;replace HO_q4 := vE HO_q4 hg hb;replace HO_q8 := vE HO_q8 hg hb;replace HO_qd := sB HO_qd hb;replace HO_qe := sB HO_qe hb;replace HO1029 := vE HO1029 hg hb;replace HO1033 := vE HO1033 hg hb;have BK1036 := aK (hbox);have GW1036 := aK (zG HB hg);have GE1036 := aK (zG HB hg);replace HB := hB HB hb;obtain ⟨NB904_1036,NB1036_904⟩ := nG hg BK904;replace BK904 := kB BK904 hb;obtain ⟨NB964_1036,NB1036_964⟩ := nG hg BK964;replace BK964 := kB BK964 hb;obtain ⟨NB1020_1036,NB1036_1020⟩ := nG hg BK1020;replace BK1020 := kB BK1020 hb;obtain ⟨NB1025_1036,NB1036_1025⟩ := nG hg BK1025;replace BK1025 := kB BK1025 hb;obtain ⟨NB1035_1036,NB1036_1035⟩ := nG hg BK1035;replace BK1035 := kB BK1035 hb;clear hb hbox hg;obtain ⟨Ao303,co303,eo303⟩ := Kd.V_slice HO1029.out;subst eo303;have hnb304 := NB1035_904.out;have hnc304 := NB904_1035.out;have hnb305 := NB1035_964.out;have hnc305 := NB964_1035.out;have hnb306 := NB1035_1020.out;have hnc306 := NB1020_1035.out;have hnb307 := NB1035_1025.out;have hnc307 := NB1025_1035.out;have hnb308 := NB1035_1036.out;have hnc308 := NB1036_1035.out;have hcz309_0 := z0 BK1035;have hfz309_0 := fZ BK1035 0;obtain ⟨Ao310,co310,eo310⟩ := Kd.V_slice HO1033.out;subst eo310;have hnb311 := NB1036_904.out;have hnc311 := NB904_1036.out;have hnb312 := NB1036_964.out;have hnc312 := NB964_1036.out;have hnb313 := NB1036_1020.out;have hnc313 := NB1020_1036.out;have hnb314 := NB1036_1025.out;have hnc314 := NB1025_1036.out;have hcz315_0 := z0 BK1036;have hfz315_0 := fZ BK1036 0) | ((with_reducible refine wP ?_);refine gT 446 Try.func30 (Zg.calls kj268 _ _ t1027 t1030 _ _ t1031 t1034 t1037 t1038 _ ?side1 (vq HO1029) ?side3 (vq HO1033) A277.out) ?_;(case side1 => refine (Kd.V_reads' (e := 29) (base := w.heap.size) (ok := fun k_ => (((some k_ ≠ (.slice Ao247 t1016.length co247 : Value).ownBlock ∧ (some k_ ≠ (.slice Ao253 t1021.length co253 : Value).ownBlock ∧ (k_ ≠ gb904 ∧ (k_ ≠ gb964 ∧ (k_ ≠ gb1020 ∧ k_ ≠ gb1025))))) ∧ k_ ≠ gb1035) ∧ k_ ≠ gb1036)) (n := t1027.length) (c := co303) ?_).2.2;exact (vM ((Kd.V_mono (Kd.V_mono (Kd.V_far (p := ⟨gb1036,0,none⟩) (Kd.V_far (p := ⟨gb1035,0,none⟩) (Kd.V_mono (Kd.V_mono HO1029.out (fun k_ hk => (⟨hk,hk.1.2⟩ : _ ∧ k_ ≠ gb1035))) (fun k_ hk => (⟨hk,hk.1.2⟩ : _ ∧ k_ ≠ gb1036))) (fun _ hk => hk.1.2) (.slice Ao303 t1027.length co303)) (fun _ hk => hk.2) (.slice Ao310 t1031.length co310)) (fun _ h_ => h_.1)) (fun _ h_ => h_.1)))));(case side3 => refine (Kd.V_reads' (e := 29) (base := w.heap.size) (ok := fun k_ => (((some k_ ≠ (.slice Ao247 t1016.length co247 : Value).ownBlock ∧ (some k_ ≠ (.slice Ao253 t1021.length co253 : Value).ownBlock ∧ (k_ ≠ gb904 ∧ (k_ ≠ gb964 ∧ (k_ ≠ gb1020 ∧ k_ ≠ gb1025))))) ∧ k_ ≠ gb1035) ∧ k_ ≠ gb1036)) (n := t1031.length) (c := co310) ?_).2.2;exact (vM ((Kd.V_mono (Kd.V_mono (Kd.V_far (p := ⟨gb1036,0,none⟩) (Kd.V_far (p := ⟨gb1035,0,none⟩) (Kd.V_mono (Kd.V_mono HO1033.out (fun k_ hk => (⟨hk,hk.1.2⟩ : _ ∧ k_ ≠ gb1035))) (fun k_ hk => (⟨hk,hk.1.2⟩ : _ ∧ k_ ≠ gb1036))) (fun _ hk => hk.1.2) (.slice Ao303 t1027.length co303)) (fun _ hk => hk.2) (.slice Ao310 t1031.length co310)) (fun _ h_ => h_.1)) (fun _ h_ => h_.1)))));intro w316 hb;replace HO_q4 := aK (Kd.V_below (vM ((Kd.V_mono (Kd.V_mono (Kd.V_far (p := ⟨gb1036,0,none⟩) (Kd.V_far (p := ⟨gb1035,0,none⟩) (Kd.V_mono (Kd.V_mono HO_q4.out (fun k_ hk => (⟨hk,hk.1.2⟩ : _ ∧ k_ ≠ gb1035))) (fun k_ hk => (⟨hk,hk.1.2⟩ : _ ∧ k_ ≠ gb1036))) (fun _ hk => hk.1.2) (.slice Ao303 t1027.length co303)) (fun _ hk => hk.2) (.slice Ao310 t1031.length co310)) (fun _ h_ => h_.1)) (fun _ h_ => h_.1)))) hb);replace HO_q8 := aK (Kd.V_below (vM ((Kd.V_mono (Kd.V_mono (Kd.V_far (p := ⟨gb1036,0,none⟩) (Kd.V_far (p := ⟨gb1035,0,none⟩) (Kd.V_mono (Kd.V_mono HO_q8.out (fun k_ hk => (⟨hk,hk.1.2⟩ : _ ∧ k_ ≠ gb1035))) (fun k_ hk => (⟨hk,hk.1.2⟩ : _ ∧ k_ ≠ gb1036))) (fun _ hk => hk.1.2) (.slice Ao303 t1027.length co303)) (fun _ hk => hk.2) (.slice Ao310 t1031.length co310)) (fun _ h_ => h_.1)) (fun _ h_ => h_.1)))) hb);replace HO_qd := aK (Kd.S_below (sM ((Kd.S_mono (Kd.S_mono (Kd.S_far (p := ⟨gb1036,0,none⟩) (Kd.S_far (p := ⟨gb1035,0,none⟩) (Kd.S_types (Kd.S_types HO_qd.out BK1035.out (by decide)) BK1036.out (by decide)) (fun _ hk => hk.1.2) (.slice Ao303 t1027.length co303)) (fun _ hk => hk.2) (.slice Ao310 t1031.length co310)) (fun _ h_ => h_.1)) (fun _ h_ => h_.1)))) hb);replace HO_qe := aK (Kd.S_below (sM ((Kd.S_mono (Kd.S_mono (Kd.S_far (p := ⟨gb1036,0,none⟩) (Kd.S_far (p := ⟨gb1035,0,none⟩) (Kd.S_types (Kd.S_types HO_qe.out BK1035.out (by decide)) BK1036.out (by decide)) (fun _ hk => hk.1.2) (.slice Ao303 t1027.length co303)) (fun _ hk => hk.2) (.slice Ao310 t1031.length co310)) (fun _ h_ => h_.1)) (fun _ h_ => h_.1)))) hb);replace HO1029 := aK (Kd.V_below (vM ((Kd.V_mono (Kd.V_mono (Kd.V_far (p := ⟨gb1036,0,none⟩) (Kd.V_far (p := ⟨gb1035,0,none⟩) (Kd.V_mono (Kd.V_mono HO1029.out (fun k_ hk => (⟨hk,hk.1.2⟩ : _ ∧ k_ ≠ gb1035))) (fun k_ hk => (⟨hk,hk.1.2⟩ : _ ∧ k_ ≠ gb1036))) (fun _ hk => hk.1.2) (.slice Ao303 t1027.length co303)) (fun _ hk => hk.2) (.slice Ao310 t1031.length co310)) (fun _ h_ => h_.1)) (fun _ h_ => h_.1)))) hb);replace HO1033 := aK (Kd.V_below (vM ((Kd.V_mono (Kd.V_mono (Kd.V_far (p := ⟨gb1036,0,none⟩) (Kd.V_far (p := ⟨gb1035,0,none⟩) (Kd.V_mono (Kd.V_mono HO1033.out (fun k_ hk => (⟨hk,hk.1.2⟩ : _ ∧ k_ ≠ gb1035))) (fun k_ hk => (⟨hk,hk.1.2⟩ : _ ∧ k_ ≠ gb1036))) (fun _ hk => hk.1.2) (.slice Ao303 t1027.length co303)) (fun _ hk => hk.2) (.slice Ao310 t1031.length co310)) (fun _ h_ => h_.1)) (fun _ h_ => h_.1)))) hb);replace BK904 := kY BK904 hb;replace BK964 := kY BK964 hb;replace BK1020 := kY BK1020 hb;replace BK1025 := kY BK1025 hb;replace BK1035 := kX #[.slice Ao303 t1027.length co303] BK1035 hb;replace BK1036 := kX #[.slice Ao310 t1031.length co310] BK1036 hb;replace HB := hB HB hb;(try clear hb);(try clear hb2);(try clear hk);(try clear hi);have hcz317_0 := z0 BK1035;have hfz317_0 := fZ BK1035 0;have hcz318_0 := z0 BK1036;have hfz318_0 := fZ BK1036 0) | ((with_reducible refine wP ?_);refine gT 454 Try.func31 (Zc.calls kj268 _ _ t1027 t1030 _ _ t1031 t1034 t1039 t1040 _ (cM (vr HO1029)) (vq HO1029) (cM (vr HO1033)) (vq HO1033) A278.out) ?_;intro w319 hb;replace HO_q4 := vB HO_q4 hb;replace HO_q8 := vB HO_q8 hb;replace HO_qd := sB HO_qd hb;replace HO_qe := sB HO_qe hb;replace HO1029 := vB HO1029 hb;replace HO1033 := vB HO1033 hb;replace BK904 := kB BK904 hb;replace BK964 := kB BK964 hb;replace BK1020 := kB BK1020 hb;replace BK1025 := kB BK1025 hb;replace BK1035 := kB BK1035 hb;replace BK1036 := kB BK1036 hb;replace HB := hB HB hb;(try clear hb);(try clear hb2);(try clear hk);(try clear hi)))
    go_ret;exact eR (bN HB)
theorem Za.calls (k : Nat) (A0 : Option Addr) (c0 : Nat) (l0 : List Int) (r : Bool) (w : World) (hr0 : Kd.C (Kd.int .u8) w A0 l0.length l0) (hc0 : l0.length ≤ c0) (h : Za.f k l0 = some r) :
 Calls Try.prog 3 #[.slice A0 l0.length c0] w fun e w' => e = .returned (.bool r) ∧ Below w.heap.size w w' :=
 Za.sec0 (Za.sec1 (Za.sec2 (Za.sec3)) (Za.sec4 (Za.sec5 (Za.sec6 (Za.sec7 (Za.sec8)))))) k A0 c0 l0 r w hr0 hc0 h
theorem Za.walk (P : Za.Pure) (a0 : Option Addr) (len0 cap0 : Nat) (z0 : List Int) (w : World) (w0 : (a0 = none ∧ len0 = 0 ∧ cap0 = 0 ∧ z0 = []) ∨ ∃ x, a0 = some x ∧ len0 ≤ cap0 ∧ cap0 ≤ maxLen ∧ z0.length = cap0 ∧ (∀ i, i < z0.length → w.cell? (x.add i) = some (.int .u8 (z0.getD i 0))) ∧ ∀ n ∈ z0, (Lit.int .u8 n).wf = true) (y0 : len0 * 1 ≤ 140737488351232) :
 Calls Try.prog 3 #[.slice a0 len0 cap0] w fun e w' => e = .returned (.bool true) ∧ Below w.heap.size w w' := by
 obtain ⟨l0,rfl,hr0,hm0,hw0,hc0⟩ := ReadsInt.ofRowC w0;obtain ⟨k,h⟩ := P l0 hm0 y0 hw0;refine (Za.calls k _ _ l0 true w (Kd.C_of_reads (d := (0 : Int)) (h1 := fun _ => rfl) hr0) hc0 h).mono ?_;rintro e w' ⟨rfl,hd⟩;exact ⟨rfl,hd⟩
def reach (g : List (List Int)) : Nat → List Int → Nat → List Int
 | 0,_,_ => []
 | d + 1,L,q => if (q : Int) ∈ L then (q : Int) :: reach g d (L ++ g.getD q []) (q + 1) else reach g d L (q + 1)
theorem reach_len (g : List (List Int)) : ∀ d L q, (reach g d L q).length ≤ d
 | 0,_,_ => Nat.le_refl _
 | d + 1,L,q => by
  unfold reach
  by_cases c : (q : Int) ∈ L
  ·rw [if_pos c,List.length_cons]
   have := reach_len g d (L ++ g.getD q []) (q + 1)
   omega
  ·rw [if_neg c]
   have := reach_len g d L (q + 1)
   omega
theorem reach_skip (g : List (List Int)) (p : Nat) : ∀ (j q d : Nat), q + j = p → reach g (d + j) [(p : Int)] q = reach g d [(p : Int)] p
 | 0,q,d,h => by
  have : q = p := by omega
  subst this
  rfl
 | j + 1,q,d,h => by
  have e1 : reach g (d + (j + 1)) [(p : Int)] q = if (q : Int) ∈ [(p : Int)] then (q : Int) :: reach g (d + j) ([(p : Int)] ++ g.getD q []) (q + 1) else reach g (d + j) [(p : Int)] (q + 1) := rfl
  rw [e1,if_neg (by simp;omega)]
  exact reach_skip g p j (q + 1) d (by omega)
theorem wf_small {x : Int} (h0 : 0 ≤ x) (h1 : x < 1000000) : (Lit.int .i64 x).wf = true := WalkArith.wf_i64 (by omega)
theorem Zaz (g : List (List Int)) (h : isGame g = true) : ∀ (d q : Nat) (L acc : List Int), q + d = g.length → L.length ≤ 40 * q + 1 → acc.length ≤ q →
 Ev (fun k => chosenS.l0 (reachV g) k L acc (g.length : Int) (q : Int)) (acc ++ reach g d L q)
 | 0,q,L,acc,hd,hL,ha => by
  have hn := game_len h
  refine Ev.step (f := fun _ => some (acc ++ [])) (fun k => ?_) (Ev.now _)
  simp only [chosenS.l0]
  rw [if_neg (by omega),List.append_nil]
 | d + 1,q,L,acc,hd,hL,ha => by
  have hn := game_len h
  obtain ⟨row,hr⟩ := get_some (xs := g) (i := q) (by omega)
  have hrow := game_row h hr
  have er : rd_L2 g (q : Int) = row := by rw [rdL2_nat,getD_of hr]
  have hall : row.all (fun x => (Lit.int .i64 x).wf) = true := by
   rw [List.all_eq_true]
   intro x hx
   have := hrow.1 x hx
   exact wf_small (by omega) (by omega)
  have hw : wrap64 ((q : Int) + 1) = ((q + 1 : Nat) : Int) := by rw [wrapS (by omega) (by omega),cast_succ]
  unfold reach
  by_cases c : (q : Int) ∈ L
  ·have ih := Zaz g h d (q + 1) (L ++ row) (acc ++ [(q : Int)]) (by omega) (by have := hrow.2;rw [List.length_append];omega) (by simp;omega)
   rw [if_pos c,getD_of hr]
   rw [List.append_assoc] at ih
   refine Ev.step (fun k => ?_) ih
   simp only [chosenS.l0,reachV]
   have h2 := hrow.2
   rw [if_pos (by omega),if_pos (by omega),if_pos (by omega),if_pos c,er,if_pos (by omega),if_pos hall]
   show (if acc.length < 17592186044416 then _ else none) = _
   rw [if_pos (by omega),hw]
  ·have ih := Zaz g h d (q + 1) L acc (by omega) (by omega) (by omega)
   rw [if_neg c]
   refine Ev.step (fun k => ?_) ih
   simp only [chosenS.l0,reachV]
   rw [if_pos (by omega),if_pos (by omega),if_pos (by omega),if_neg c]
   show (if (false : Bool) = true then (if acc.length < 17592186044416 then (chosenS.l0 (reachV g) k L (acc ++ [(q : Int)]) (g.length : Int) (wrap64 ((q : Int) + 1))) else none) else chosenS.l0 (reachV g) k L acc (g.length : Int) (wrap64 ((q : Int) + 1))) = _
   rw [if_neg (by decide),hw]
theorem getD_set_b (met : List Bool) (i x : Nat) (hi : i < met.length) : (met.set i true).getD x false = (met.getD x false || decide (x = i)) := by
 rw [List.getD_eq_getElem?_getD,List.getD_eq_getElem?_getD,List.getElem?_set]
 by_cases c : i = x
 ·subst c
  rw [if_pos rfl,if_pos hi]
  simp
 ·rw [if_neg c,decide_eq_false (fun e => c e.symm),Bool.or_false]
theorem ZaD (g : List (List Int)) (h : isGame g = true) (q : Nat) (row : List Int) (hr : g[q]? = some row) (out : List Int) (r : List Int × Int) : ∀ (d i : Nat) (met : List Bool), i + d = row.length → met.length = g.length →
 (∀ met' : List Bool,met'.length = g.length → (∀ x,met'.getD x false = (met.getD x false || decide ((x : Int) ∈ row.drop i))) → Ev (fun k => Zk.l0 k met' out ((q + 1 : Nat) : Int) g) r) →
 Ev (fun k => Zk.l1 k met out (q : Int) (i : Int) g) r
 | 0,i,met,hi,hm,hk => by
  have hn := game_len h
  have hq : q < g.length := (List.getElem?_eq_some_iff.1 hr).1
  have hrow := game_row h hr
  have er : rd_L2 g (q : Int) = row := by rw [rdL2_nat,getD_of hr]
  refine Ev.step (fun k => ?_) (hk met hm (fun x => by rw [List.drop_of_length_le (by omega)];simp))
  simp only [Zk.l1]
  rw [if_pos (by omega),if_pos (by omega),er,if_neg (by omega),wrapS (i := (q : Int) + 1) (by omega) (by omega),cast_succ]
 | d + 1,i,met,hi,hm,hk => by
  have hn := game_len h
  have hq : q < g.length := (List.getElem?_eq_some_iff.1 hr).1
  have hrow := game_row h hr
  have er : rd_L2 g (q : Int) = row := by rw [rdL2_nat,getD_of hr]
  obtain ⟨x,hx⟩ := get_some (xs := row) (i := i) (by omega)
  have hxm := hrow.1 x (List.mem_of_getElem? hx)
  have ex : rd row (i : Int) = x := by rw [rd_nat,getD_of hx]
  have ih := ZaD g h q row hr out r d (i + 1) (met.set x.toNat true) (by omega) (by rw [List.length_set];exact hm) (fun met' h1 h2 => hk met' h1 (fun y => by
   have e1 : decide ((y : Int) ∈ row.drop i) = (decide (y = x.toNat) || decide ((y : Int) ∈ row.drop (i + 1))) := by
    apply Bool.eq_iff_iff.2
    simp only [Bool.or_eq_true,decide_eq_true_eq,drop_of hx,List.mem_cons]
    constructor
    ·rintro (h3 | h3)
     ·exact Or.inl (by omega)
     ·exact Or.inr h3
    ·rintro (h3 | h3)
     ·exact Or.inl (by omega)
     ·exact Or.inr h3
   rw [h2 y,getD_set_b _ _ _ (by omega),e1,Bool.or_assoc]))
  refine Ev.step (fun k => ?_) ih
  simp only [Zk.l1]
  rw [if_pos (by omega),if_pos (by omega),er,if_pos (by have := hrow.2;omega),if_pos (by omega),ex,if_pos (by omega),if_pos (by omega),wrapS (i := (i : Int) + 1) (by omega) (by have := hrow.2;omega),cast_succ]
theorem ZaA (g : List (List Int)) (h : isGame g = true) : ∀ (d q : Nat) (L out : List Int) (met : List Bool), q + d = g.length → met.length = g.length → (∀ x, x < g.length → met.getD x false = decide ((x : Int) ∈ L)) → out.length ≤ q →
 Ev (fun k => Zk.l0 k met out (q : Int) g) (out ++ reach g d L q,0)
 | 0,q,L,out,met,hd,hm,hL,ha => by
  have hn := game_len h
  refine Ev.step (f := fun _ => some (out ++ [],0)) (fun k => ?_) (Ev.now _)
  simp only [Zk.l0,Zq.f]
  show (if (q : Int) < (g.length : Int) then _ else _) = _
  rw [if_neg (by omega),List.append_nil]
 | d + 1,q,L,out,met,hd,hm,hL,ha => by
  have hn := game_len h
  obtain ⟨row,hr⟩ := get_some (xs := g) (i := q) (by omega)
  have hrow := game_row h hr
  have eb : rdOf false met (q : Int) = decide ((q : Int) ∈ L) := by rw [rdOf_nat,hL q (by omega)]
  have hw : wrap64 ((q : Int) + 1) = ((q + 1 : Nat) : Int) := by rw [wrapS (by omega) (by omega),cast_succ]
  unfold reach
  by_cases c : (q : Int) ∈ L
  ·rw [if_pos c,getD_of hr]
   have ih := ZaD g h q row hr (out ++ [(q : Int)]) (out ++ ((q : Int) :: reach g d (L ++ row) (q + 1)),0) row.length 0 met (by omega) hm (fun met' h1 h2 => by
    have := ZaA g h d (q + 1) (L ++ row) (out ++ [(q : Int)]) met' (by omega) h1 (fun x hx => by
     rw [h2 x,hL x hx,List.drop_zero]
     apply Bool.eq_iff_iff.2
     simp only [Bool.or_eq_true,decide_eq_true_eq,List.mem_append]) (by simp;omega)
    rw [List.append_assoc] at this
    exact this)
   refine Ev.step (fun k => ?_) ih
   simp only [Zk.l0,Zq.f]
   show (if (q : Int) < (g.length : Int) then _ else _) = _
   rw [if_pos (by omega),if_pos (by omega),if_pos (by omega),eb,if_pos (decide_eq_true c),if_pos (by omega)]
   rfl
  ·rw [if_neg c]
   have ih := ZaA g h d (q + 1) L out met (by omega) hm hL (by omega)
   refine Ev.step (fun k => ?_) ih
   simp only [Zk.l0,Zq.f]
   show (if (q : Int) < (g.length : Int) then _ else _) = _
   rw [if_pos (by omega),if_pos (by omega),if_pos (by omega),eb,if_neg (by rw [decide_eq_false c];decide),hw]
def reached (g : List (List Int)) (p : Int) : List Int × Int := if placeOf g p = 0 then (reach g g.length [p] 0, 0) else ([], placeOf g p)
theorem specReached_ev (g : List (List Int)) (p : Int) (hl : ∀ row ∈ g, row.length < 4611686018427387904) (hg : g.length < 4611686018427387904) : Ev (fun k => Zk.f k g p) (reached g p) := by
 have hp := specPlace_ev g p hl hg
 unfold reached Zk.f
 refine Ev.bind hp ?_
 by_cases c : placeOf g p = 0
 ·have ho := place_ok c
  have hgl := game_len ho.1
  obtain ⟨n,rfl⟩ : ∃ n : Nat,p = (n : Int) := ⟨p.toNat,by omega⟩
  rw [if_pos c]
  refine Ev.congr (f := fun k => Zk.l0 k ((List.replicate g.length false).set n true) [] (n : Int) g) (fun k => ?_) ?_
  ·rw [if_pos c]
   unfold Zq.f
   simp only [Option.bind_some]
   rw [if_pos (show (0 : Int) ≤ (g.length : Int) by omega),if_pos (by omega),if_pos (show (0 : Int) ≤ (n : Int) by omega),if_pos (by simp;omega)]
   rfl
  ·have := ZaA g ho.1 (g.length - n) n [(n : Int)] [] ((List.replicate g.length false).set n true) (by omega) (by simp) (fun x hx => by
    rw [getD_set_b _ _ _ (by simp;omega)]
    have e0 : (List.replicate g.length false).getD x false = false := by
     rw [List.getD_eq_getElem?_getD,List.getElem?_replicate]
     split <;> rfl
    rw [e0,Bool.false_or]
    apply Bool.eq_iff_iff.2
    simp only [decide_eq_true_eq,List.mem_singleton]
    omega) (by simp)
   rw [List.nil_append] at this
   have e1 := reach_skip g n n 0 (g.length - n) (by omega)
   rw [show g.length - n + n = g.length by omega] at e1
   rw [e1]
   exact this
 ·rw [if_neg c]
  exact Ev.congr (f := fun _ => some ([],placeOf g p)) (fun k => by rw [if_neg c]) (Ev.now _)
theorem implReached_ev (g : List (List Int)) (p : Int) (hl : ∀ row ∈ g, row.length < 4611686018427387904) (hg : g.length < 4611686018427387904) : Ev (fun k => Zao.f k g p) (reached g p) := by
 have hp := implPlace_ev g p hl hg
 unfold reached Zao.f
 refine Ev.bind hp ?_
 by_cases c : placeOf g p = 0
 ·have ho := place_ok c
  have hgl := game_len ho.1
  rw [if_pos c]
  refine Ev.congr (fun k => by rw [if_pos c,if_pos (wf_small ho.2.1 (by omega))]) (Ev.bind (a := reach g g.length [p] 0) ?_ (Ev.now _))
  have := Zaz g ho.1 g.length 0 [p] [] (by omega) (by simp) (by simp)
  rw [List.nil_append] at this
  exact this
 ·rw [if_neg c]
  exact Ev.congr (f := fun _ => some ([],placeOf g p)) (fun k => by rw [if_neg c]) (Ev.now _)
theorem reached_le (g : List (List Int)) (p : Int) : (reached g p).1.length ≤ 40 := by
 unfold reached
 by_cases c : placeOf g p = 0
 ·rw [if_pos c]
  have ho := place_ok c
  have hgl := game_len ho.1
  exact Nat.le_trans (reach_len g _ _ _) (by omega)
 ·rw [if_neg c]
  simp
theorem backs_at {α : Type} (sem : List α → α) (z : α) {g : List (List Int)} (h : isGame g = true) {p : Nat} {row : List Int} (hr : g[p]? = some row) :
 (backs sem z g).getD p z = sem (row.map fun q => (backs sem z g).getD q.toNat z) := by
 have hp : p < g.length := (List.getElem?_eq_some_iff.1 hr).1
 obtain ⟨d,hd⟩ : ∃ d,g.length = p + 1 + d := ⟨g.length - (p + 1),by omega⟩
 have hw := game_row h hr
 rw [backs_get sem z g p (d + 1) p (by omega) (Nat.le_refl _),Nat.sub_self,backAt_succ sem z g p d row hd hr]
 show sem (seen sem z g p d row) = _
 congr 1
 unfold seen
 refine List.map_congr_left (fun q hq => ?_)
 have hq2 := hw.1 q hq
 rw [backs_get sem z g (p + 1) d q.toNat (by omega) (by omega)]
theorem backs_length {α : Type} (sem : List α → α) (z : α) (g : List (List Int)) : (backs sem z g).length = g.length := backAt_length sem z g g.length
theorem getD_mem {α : Type} {xs : List α} {i : Nat} {z : α} (h : i < xs.length) : xs.getD i z ∈ xs := by
 rw [List.getD_eq_getElem?_getD,List.getElem?_eq_getElem h]
 exact List.getElem_mem h
abbrev wv (g : List (List Int)) (p : Nat) : Bool := (backs (wonOf false) false g).getD p false
abbrev fv (g : List (List Int)) (p : Nat) : Int := (backs fewOf 0 g).getD p 0
abbrev mv (g : List (List Int)) (p : Nat) : Int := (backs mostOf 0 g).getD p 0
abbrev cv (g : List (List Int)) (p : Nat) : Int := (backs cntOf 0 g).getD p 0
abbrev Lv (g : List (List Int)) (p : Nat) : S70 := (backs lenOf z70 g).getD p z70
theorem few_bnd {g : List (List Int)} (h : isGame g = true) {p : Nat} (hp : p < g.length) : 0 ≤ fv g p ∧ fv g p ≤ 40 := by
 have hn := game_len h
 have hall := backAt_allN fewOf 0 (fun d x => d ≤ 40 → 0 ≤ x ∧ x ≤ (d : Int)) g h (fun d x hx hd => by have := hx (by omega);omega)
  (fun d xs _ hx hd => by have := fewOf_bound (d : Int) (by omega) (by omega) xs (fun y hy => hx y hy (by omega));omega) g.length (Nat.le_refl _)
 have := hall _ (getD_mem (z := 0) (by rw [backAt_length];exact hp)) hn.2
 exact ⟨this.1,by have := this.2;show (backAt fewOf 0 g g.length).getD p 0 ≤ 40;omega⟩
theorem most_bnd {g : List (List Int)} (h : isGame g = true) {p : Nat} (hp : p < g.length) : 0 ≤ mv g p ∧ mv g p ≤ 40 := by
 have hn := game_len h
 have hall := backAt_allN mostOf 0 (fun d x => d ≤ 40 → 0 ≤ x ∧ x ≤ (d : Int)) g h (fun d x hx hd => by have := hx (by omega);omega)
  (fun d xs _ hx hd => by have := mostOf_bound (d : Int) (by omega) (by omega) xs (fun y hy => hx y hy (by omega));omega) g.length (Nat.le_refl _)
 have := hall _ (getD_mem (z := 0) (by rw [backAt_length];exact hp)) hn.2
 exact ⟨this.1,by have := this.2;show (backAt mostOf 0 g g.length).getD p 0 ≤ 40;omega⟩
theorem len_bnd {g : List (List Int)} (h : isGame g = true) {p : Nat} (hp : p < g.length) : 0 ≤ (Lv g p).f1 ∧ (Lv g p).f1 ≤ 40 := by
 have hn := game_len h
 have := len_bounds g h g.length (Nat.le_refl _) _ (getD_mem (z := z70) (by rw [backAt_length];exact hp))
 exact ⟨this.1,by have := this.2;show ((backAt lenOf z70 g g.length).getD p z70).f1 ≤ 40;omega⟩
theorem mn_le (a b : Int) : mn a b ≤ a ∧ mn a b ≤ b := by unfold mn; split <;> omega
theorem le_mx (a b : Int) : a ≤ mx a b ∧ b ≤ mx a b := by unfold mx; split <;> omega
theorem minL_le : ∀ (r : List Int) (x : Int), r.foldl mn x ≤ x ∧ ∀ y ∈ r, r.foldl mn x ≤ y
 | [],x => ⟨Int.le_refl x,by simp⟩
 | a :: r,x => by
  have ih := minL_le r (mn x a)
  have hm := mn_le x a
  simp only [List.foldl_cons]
  refine ⟨by omega,fun y hy => ?_⟩
  rcases List.mem_cons.1 hy with rfl | hy
  ·omega
  ·exact ih.2 y hy
theorem le_maxL : ∀ (r : List Int) (x : Int), x ≤ r.foldl mx x ∧ ∀ y ∈ r, y ≤ r.foldl mx x
 | [],x => ⟨Int.le_refl x,by simp⟩
 | a :: r,x => by
  have ih := le_maxL r (mx x a)
  have hm := le_mx x a
  simp only [List.foldl_cons]
  refine ⟨by omega,fun y hy => ?_⟩
  rcases List.mem_cons.1 hy with rfl | hy
  ·omega
  ·exact ih.2 y hy
theorem fewOf_le {xs : List Int} (hb : ∀ y ∈ xs, 0 ≤ y ∧ y ≤ 40) {y : Int} (hy : y ∈ xs) : fewOf xs ≤ y + 1 := by
 cases xs with
 | nil => simp at hy
 | cons x r =>
  have h1 := minL_le r x
  have h2 := minL_bound 40 r x (hb x (by simp)).1 (hb x (by simp)).2 (fun y hy => hb y (by simp [hy]))
  show (if (x :: r).length = 0 then 0 else wrap64 (r.foldl mn x + 1)) ≤ y + 1
  rw [if_neg (by simp),wrapS (by omega) (by omega)]
  rcases List.mem_cons.1 hy with rfl | hy
  ·omega
  ·have := h1.2 y hy;omega
theorem le_mostOf {xs : List Int} (hb : ∀ y ∈ xs, 0 ≤ y ∧ y ≤ 40) {y : Int} (hy : y ∈ xs) : y + 1 ≤ mostOf xs := by
 cases xs with
 | nil => simp at hy
 | cons x r =>
  have h1 := le_maxL r x
  have h2 := maxL_bound 40 r x (hb x (by simp)).1 (hb x (by simp)).2 (fun y hy => hb y (by simp [hy]))
  show y + 1 ≤ (if (x :: r).length = 0 then 0 else wrap64 (r.foldl mx x + 1))
  rw [if_neg (by simp),wrapS (by omega) (by omega)]
  rcases List.mem_cons.1 hy with rfl | hy
  ·omega
  ·have := h1.2 y hy;omega
theorem row_lt {g : List (List Int)} (h : isGame g = true) {p : Nat} {row : List Int} (hr : g[p]? = some row) {q : Int} (hq : q ∈ row) : p < q.toNat ∧ q.toNat < g.length ∧ ((q.toNat : Nat) : Int) = q := by
 have := (game_row h hr).1 q hq
 exact ⟨by omega,by omega,by omega⟩
theorem few_step {g : List (List Int)} (h : isGame g = true) {p : Nat} {row : List Int} (hr : g[p]? = some row) {q : Int} (hq : q ∈ row) : fv g p ≤ fv g q.toNat + 1 := by
 unfold fv
 rw [backs_at fewOf 0 h hr]
 refine fewOf_le (fun y hy => ?_) (List.mem_map.2 ⟨q,hq,rfl⟩)
 obtain ⟨x,hx,rfl⟩ := List.mem_map.1 hy
 exact few_bnd h (row_lt h hr hx).2.1
theorem most_step {g : List (List Int)} (h : isGame g = true) {p : Nat} {row : List Int} (hr : g[p]? = some row) {q : Int} (hq : q ∈ row) : mv g q.toNat + 1 ≤ mv g p := by
 unfold mv
 rw [backs_at mostOf 0 h hr]
 refine le_mostOf (fun y hy => ?_) (List.mem_map.2 ⟨q,hq,rfl⟩)
 obtain ⟨x,hx,rfl⟩ := List.mem_map.1 hy
 exact most_bnd h (row_lt h hr hx).2.1
theorem few_end {g : List (List Int)} (h : isGame g = true) {p : Nat} (hr : g[p]? = some []) : fv g p = 0 := by unfold fv; rw [backs_at fewOf 0 h hr]; rfl
theorem most_end {g : List (List Int)} (h : isGame g = true) {p : Nat} (hr : g[p]? = some []) : mv g p = 0 := by unfold mv; rw [backs_at mostOf 0 h hr]; rfl
theorem won_at {g : List (List Int)} (h : isGame g = true) {p : Nat} {row : List Int} (hr : g[p]? = some row) : wv g p = row.any fun q => !wv g q.toNat := by
 unfold wv
 rw [backs_at (wonOf false) false h hr]
 unfold wonOf
 rw [Bool.false_and,Bool.false_or,List.any_map]
 rfl
theorem lenUp_or (a x : S70) : lenUp a x = a ∨ lenUp a x = ⟨!x.f0, wrap64 (x.f1 + 1)⟩ := by
 obtain ⟨a0,a1⟩ := a
 obtain ⟨x0,x1⟩ := x
 cases x0 <;> cases a0
 ·exact Or.inr rfl
 ·by_cases c : wrap64 (x1 + 1) < a1
  ·exact Or.inr (by simp [lenUp,c])
  ·exact Or.inl (by simp [lenUp,c])
 ·by_cases c : a1 < wrap64 (x1 + 1)
  ·exact Or.inr (by simp [lenUp,mx,c])
  ·exact Or.inl (by simp [lenUp,mx,c])
 ·exact Or.inl rfl
theorem lenUp_fold : ∀ (xs : List S70) (a : S70), xs.foldl lenUp a = a ∨ ∃ x ∈ xs, xs.foldl lenUp a = ⟨!x.f0, wrap64 (x.f1 + 1)⟩
 | [],a => Or.inl rfl
 | x :: r,a => by
  simp only [List.foldl_cons]
  rcases lenUp_fold r (lenUp a x) with h | ⟨y,hy,h⟩
  ·rcases lenUp_or a x with h2 | h2
   ·exact Or.inl (h.trans h2)
   ·exact Or.inr ⟨x,by simp,h.trans h2⟩
  ·exact Or.inr ⟨y,by simp [hy],h⟩
theorem lenOf_ex {xs : List S70} (hx : xs ≠ []) (hb : ∀ x ∈ xs, 0 ≤ x.f1 ∧ x.f1 ≤ 40) : ∃ x ∈ xs, lenOf xs = ⟨!x.f0, x.f1 + 1⟩ := by
 cases xs with
 | nil => exact absurd rfl hx
 | cons x r =>
  have e : lenUp z70 x = ⟨!x.f0,x.f1 + 1⟩ := by
   have h1 := hb x (by simp)
   unfold lenUp
   show (if x.f0 = true then (if false = true then z70 else ⟨false,mx 0 (wrap64 (x.f1 + 1))⟩) else (if false = true then _ else ⟨true,wrap64 (x.f1 + 1)⟩)) = _
   rw [wrapS (by omega) (by omega)]
   by_cases c : x.f0 = true
   ·rw [if_pos c,if_neg (by decide),c]
    unfold mx
    rw [if_pos (by omega)]
    rfl
   ·rw [if_neg c,if_neg (by decide),Bool.eq_false_iff.mpr c]
    rfl
  unfold lenOf
  simp only [List.foldl_cons]
  rw [e]
  rcases lenUp_fold r ⟨!x.f0,x.f1 + 1⟩ with h | ⟨y,hy,h⟩
  ·exact ⟨x,by simp,h⟩
  ·have h1 := hb y (by simp [hy])
   exact ⟨y,by simp [hy],by rw [h,wrapS (by omega) (by omega)]⟩
theorem len_won_eq {g : List (List Int)} (h : isGame g = true) (p : Nat) : (Lv g p).f0 = wv g p := by
 have e := backAt_won g h g.length (Nat.le_refl _)
 unfold wv Lv backs
 rw [← e]
 exact (getD_map S70.f0 _ p z70).symm
theorem len_all {g : List (List Int)} (h : isGame g = true) : ∀ (d p : Nat), p < g.length → g.length ≤ p + d →
 ((Lv g p).f1 % 2 = 1 ↔ wv g p = true) ∧ fv g p ≤ (Lv g p).f1 ∧ (Lv g p).f1 ≤ mv g p
 | 0,p,h1,h2 => by omega
 | d + 1,p,h1,h2 => by
  obtain ⟨row,hr⟩ := get_some (xs := g) (i := p) h1
  by_cases hn : row = []
  ·subst hn
   have e1 : Lv g p = z70 := by unfold Lv;rw [backs_at lenOf z70 h hr];rfl
   have e2 : wv g p = false := by rw [won_at h hr];rfl
   rw [e1,e2,few_end h hr,most_end h hr]
   exact ⟨by simp [z70],Int.le_refl 0,Int.le_refl 0⟩
  ·have e1 : Lv g p = lenOf (row.map fun q => Lv g q.toNat) := by unfold Lv;rw [backs_at lenOf z70 h hr]
   obtain ⟨x,hx,he⟩ := lenOf_ex (xs := row.map fun q => Lv g q.toNat) (by simpa using hn) (fun y hy => by
    obtain ⟨q,hq,rfl⟩ := List.mem_map.1 hy
    exact len_bnd h (row_lt h hr hq).2.1)
   obtain ⟨q,hq,rfl⟩ := List.mem_map.1 hx
   have hq2 := row_lt h hr hq
   have ih := len_all h d q.toNat hq2.2.1 (by omega)
   have hf := few_step h hr hq
   have hm := most_step h hr hq
   have e3 : wv g p = !wv g q.toNat := by rw [← len_won_eq h p,e1,he];simp only [];rw [len_won_eq h]
   have e4 : (Lv g p).f1 = (Lv g q.toNat).f1 + 1 := by rw [e1,he]
   have hb := len_bnd h hq2.2.1
   rw [e3,e4]
   refine ⟨?_,by omega,by omega⟩
   cases hw : wv g q.toNat
   ·have hh := ih.1
    rw [hw] at hh
    simp only [Bool.false_eq_true,iff_false] at hh
    simp only [Bool.not_false,iff_true]
    omega
   ·have hh := ih.1.2 hw
    simp only [Bool.not_true,Bool.false_eq_true,iff_false]
    omega
theorem cnt_sum (n : Nat) (v : Int → Int) (hn : n ≤ 40) : ∀ (xs : List Int) (last a : Int), okRow last n xs = true → -1 ≤ last → last < n → 0 ≤ a → (∀ q ∈ xs, 1 ≤ v q ∧ v q ≤ 2 ^ (n - 1 - q.toNat)) → a + 2 ^ (n - 1 - last).toNat ≤ 4611686018427387904 →
 a + (xs.length : Int) ≤ (xs.map v).foldl cntUp a ∧ (xs.map v).foldl cntUp a < a + 2 ^ (n - 1 - last).toNat
 | [],last,a,_,_,_,_,_,_ => ⟨by simp,by
  have : (0 : Int) < 2 ^ ((n : Int) - 1 - last).toNat := Int.pow_pos (by decide)
  simp only [List.map_nil,List.foldl_nil];omega⟩
 | x :: r,last,a,h,h1,h2,h3,h4,h5 => by
  simp only [okRow,Bool.and_eq_true,decide_eq_true_eq] at h
  have hx := h4 x (by simp)
  have e1 : (2 : Int) ^ ((n : Int) - 1 - last).toNat ≥ 2 * 2 ^ ((n : Int) - 1 - x).toNat := by
   have : (2 : Int) ^ (((n : Int) - 1 - x).toNat + 1) ≤ 2 ^ ((n : Int) - 1 - last).toNat := by
    have := Nat.pow_le_pow_right (n := 2) (by decide) (show ((n : Int) - 1 - x).toNat + 1 ≤ ((n : Int) - 1 - last).toNat by omega)
    exact_mod_cast this
   rw [Int.pow_succ] at this
   omega
  have e2 : (n - 1 - x.toNat) = ((n : Int) - 1 - x).toNat := by omega
  rw [e2] at hx
  have hp : (0 : Int) < 2 ^ ((n : Int) - 1 - x).toNat := Int.pow_pos (by decide)
  have ew : cntUp a (v x) = a + v x := by
   unfold cntUp
   exact wrapS (by omega) (by omega)
  have ih := cnt_sum n v hn r x (a + v x) h.2.2 (by omega) h.2.1 (by omega) (fun q hq => h4 q (by simp [hq])) (by omega)
  simp only [List.map_cons,List.foldl_cons,List.length_cons]
  rw [ew]
  exact ⟨by omega,by omega⟩
theorem cnt_all {g : List (List Int)} (h : isGame g = true) : ∀ (d p : Nat), p < g.length → g.length ≤ p + d → 1 ≤ cv g p ∧ cv g p ≤ 2 ^ (g.length - 1 - p)
 | 0,p,h1,h2 => by omega
 | d + 1,p,h1,h2 => by
  obtain ⟨row,hr⟩ := get_some (xs := g) (i := p) h1
  have e : cv g p = cntOf (row.map fun q => cv g q.toNat) := by unfold cv;rw [backs_at cntOf 0 h hr]
  have hg := game_len h
  rw [e]
  unfold cntOf
  by_cases hn : row = []
  ·subst hn
   have : (0 : Int) < 2 ^ (g.length - 1 - p) := Int.pow_pos (by decide)
   simp only [List.map_nil,List.length_nil,if_true]
   omega
  ·have hl : 0 < row.length := List.length_pos_iff.2 hn
   rw [if_neg (by rw [List.length_map];omega)]
   have hk := (by simpa only [isGame,Bool.and_eq_true,decide_eq_true_eq] using h : 1 ≤ g.length ∧ g.length ≤ 40 ∧ okRows g.length 0 g = true).2.2
   have ho := okRows_get hk hr
   have hP : (2 : Int) ^ ((g.length : Int) - 1 - (0 + (p : Int))).toNat ≤ 4611686018427387904 := by
    have h62 := Nat.pow_le_pow_right (n := 2) (by decide) (show ((g.length : Int) - 1 - (0 + (p : Int))).toNat ≤ 62 by omega)
    rw [show (2 : Nat) ^ 62 = 4611686018427387904 by decide +kernel] at h62
    have hc : ((2 : Int) ^ ((g.length : Int) - 1 - (0 + (p : Int))).toNat) = (((2 : Nat) ^ ((g.length : Int) - 1 - (0 + (p : Int))).toNat : Nat) : Int) := by rw [Int.natCast_pow];rfl
    rw [hc]
    omega
   have hs := cnt_sum g.length (fun q => cv g q.toNat) hg.2 row (0 + (p : Int)) 0 ho (by omega) (by omega) (by omega) (fun q hq => by
    have hq2 := row_lt h hr hq
    exact cnt_all h d q.toNat hq2.2.1 (by omega)) (by omega)
   rw [show g.length - 1 - p = ((g.length : Int) - 1 - (0 + (p : Int))).toNat by omega]
   omega
theorem likeI_loop (xs : List Int) (hn : xs.length < 4611686018427387904) (d : Nat) : ∀ i : Nat, i + d = xs.length → Ev (fun k => Zd.l0 k xs xs (i : Int)) true := by
 induction d with
 | zero =>
  intro i hd
  refine Ev.step (f := fun _ => some true) (fun k => ?_) (Ev.now true)
  simp only [Zd.l0];rw [if_neg (by omega)]
 | succ d ih =>
  intro i hd
  refine Ev.step (fun k => ?_) (ih (i + 1) (by omega))
  simp only [Zd.l0];rw [if_pos (by omega),if_pos (by omega),if_pos (by omega),if_true,wrapS (by omega) (by omega),cast_succ]
theorem likeI_ev (xs : List Int) (hn : xs.length < 4611686018427387904) : Ev (fun k => Zd.f k xs xs) true := by
 refine Ev.congr (fun k => ?_) (likeI_loop xs hn xs.length 0 (by omega))
 unfold Zd.f
 rw [if_pos rfl];rfl
theorem rows_loop (g : List (List Int)) (hg : g.length < 4611686018427387904) (hr : ∀ row ∈ g, row.length < 4611686018427387904) (d : Nat) : ∀ i : Nat, i + d = g.length → Ev (fun k => Zai.l0 k g g (i : Int)) true := by
 induction d with
 | zero =>
  intro i hd
  refine Ev.step (f := fun _ => some true) (fun k => ?_) (Ev.now true)
  simp only [Zai.l0];rw [if_neg (by omega)]
 | succ d ih =>
  intro i hd
  obtain ⟨row,hi⟩ := get_some (xs := g) (i := i) (by omega)
  refine Ev.step (f := fun k => (Zd.f k row row).bind fun t => if t = true then Zai.l0 k g g ((i + 1 : Nat) : Int) else some false) (fun k => ?_) (Ev.bind (likeI_ev row (hr _ (List.mem_of_getElem? hi))) (Ev.congr (fun k => by rw [if_pos rfl]) (ih (i + 1) (by omega))))
  simp only [Zai.l0]
  rw [if_pos (by omega),if_pos (by omega),if_pos (by omega),rdL2_nat,getD_of hi,wrapS (by omega) (by omega),cast_succ]
theorem games_ev (g : List (List Int)) (hg : g.length < 4611686018427387904) (hr : ∀ row ∈ g, row.length < 4611686018427387904) : Ev (fun k => Zas.f k g g) true := by
 unfold Zas.f
 refine Ev.bind (Ev.congr (fun k => ?_) (rows_loop g hg hr g.length 0 (by omega))) (Ev.now _)
 unfold Zai.f
 rw [if_pos rfl];rfl
theorem has_loop (xs : List Int) (x : Int) (hn : xs.length < 4611686018427387904) (d : Nat) : ∀ i : Nat, i + d = xs.length → x ∈ xs.drop i → Ev (fun k => ZN.l0 k xs x (i : Int)) true := by
 induction d with
 | zero =>
  intro i hd hx
  rw [List.drop_of_length_le (by omega)] at hx
  simp at hx
 | succ d ih =>
  intro i hd hx
  obtain ⟨y,hi⟩ := get_some (xs := xs) (i := i) (by omega)
  rw [drop_of hi] at hx
  by_cases c : y = x
  ·refine Ev.step (f := fun _ => some true) (fun k => ?_) (Ev.now true)
   simp only [ZN.l0]
   rw [if_pos (by omega),if_pos (by omega),rd_nat,getD_of hi,if_pos c]
  ·refine Ev.step (fun k => ?_) (ih (i + 1) (by omega) ((List.mem_cons.1 hx).resolve_left (fun e => c e.symm)))
   simp only [ZN.l0]
   rw [if_pos (by omega),if_pos (by omega),rd_nat,getD_of hi,if_neg c,wrapS (by omega) (by omega),cast_succ]
theorem has_ev (xs : List Int) (x : Int) (hn : xs.length < 4611686018427387904) (hx : x ∈ xs) : Ev (fun k => ZN.f k xs x) true := has_loop xs x hn xs.length 0 (by omega) hx
theorem next_won {g : List (List Int)} (h : isGame g = true) {p : Nat} {row : List Int} (hr : g[p]? = some row) (hn : row ≠ []) : wv g p = !wv g (nextOf g row).toNat := by
 have hm := next_mem g hn
 cases hL : lostOf g row with
 | nil =>
  have ha : ∀ q ∈ row,wv g q.toNat = true := by
   intro q hq
   have := List.filter_eq_nil_iff.1 hL q hq
   simpa using this
  rw [ha _ hm,won_at h hr,Bool.not_true,List.any_eq_false]
  intro q hq
  rw [ha q hq]
  decide
 | cons q t =>
  have hq : q ∈ lostOf g row := by rw [hL];simp
  have hq2 := List.mem_filter.1 hq
  have e : nextOf g row = q := by unfold nextOf;rw [hL];rfl
  have ef : wv g q.toNat = false := by simpa using hq2.2
  rw [e,ef,won_at h hr,Bool.not_false,List.any_eq_true]
  exact ⟨q,hq2.1,by rw [ef];rfl⟩
theorem plays_all {g : List (List Int)} (h : isGame g = true) : ∀ (d p : Nat), p < g.length → g.length ≤ p + d →
 (((plays g d p).length : Int) % 2 = 1 ↔ wv g p = true) ∧ fv g p ≤ ((plays g d p).length : Int) ∧ ((plays g d p).length : Int) ≤ mv g p
 | 0,p,h1,h2 => by omega
 | d + 1,p,h1,h2 => by
  obtain ⟨row,hr⟩ := get_some (xs := g) (i := p) h1
  unfold plays
  rw [getD_of hr]
  by_cases hn : row = []
  ·subst hn
   rw [if_pos rfl,few_end h hr,most_end h hr,won_at h hr]
   simp
  ·have hq := next_mem g hn
   have hq2 := row_lt h hr hq
   have ih := plays_all h d (nextOf g row).toNat hq2.2.1 (by omega)
   have hf := few_step h hr hq
   have hm := most_step h hr hq
   have hw := next_won h hr hn
   rw [if_neg hn,hw,List.length_cons]
   refine ⟨?_,by omega,by omega⟩
   cases hv : wv g (nextOf g row).toNat
   ·have hh := ih.1
    rw [hv] at hh
    simp only [Bool.false_eq_true,iff_false] at hh
    simp only [Bool.not_false,iff_true]
    omega
   ·have hh := ih.1.2 hv
    simp only [Bool.not_true,Bool.false_eq_true,iff_false]
    omega
theorem reach_in (g : List (List Int)) : ∀ (d : Nat) (L : List Int) (q x : Nat), q + d = g.length → q ≤ x → x < g.length → (x : Int) ∈ L → (x : Int) ∈ reach g d L q
 | 0,L,q,x,h1,h2,h3,h4 => by omega
 | d + 1,L,q,x,h1,h2,h3,h4 => by
  unfold reach
  by_cases c : (q : Int) ∈ L
  ·rw [if_pos c]
   by_cases e : x = q
   ·rw [e];simp
   ·exact List.mem_cons_of_mem _ (reach_in g d _ (q + 1) x (by omega) (by omega) h3 (List.mem_append_left _ h4))
  ·rw [if_neg c]
   have e : x ≠ q := fun e => c (e ▸ h4)
   exact reach_in g d L (q + 1) x (by omega) (by omega) h3 h4
theorem reach_next {g : List (List Int)} (h : isGame g = true) : ∀ (d : Nat) (L : List Int) (q : Nat) (x : Int) (row : List Int), q + d = g.length → g[x.toNat]? = some row → x ∈ reach g d L q → ∀ y ∈ row, y ∈ reach g d L q
 | 0,L,q,x,row,h1,h2,h3,y,hy => by simp [reach] at h3
 | d + 1,L,q,x,row,h1,h2,h3,y,hy => by
  unfold reach at h3 ⊢
  by_cases c : (q : Int) ∈ L
  ·rw [if_pos c] at h3 ⊢
   rcases List.mem_cons.1 h3 with e | h3
   ·have hx : x.toNat = q := by omega
    rw [hx] at h2
    have hy2 := row_lt h h2 hy
    rw [← hy2.2.2]
    exact List.mem_cons_of_mem _ (reach_in g d _ (q + 1) y.toNat (by omega) (by omega) hy2.2.1 (List.mem_append_right _ (by rw [getD_of h2,hy2.2.2];exact hy)))
   ·exact List.mem_cons_of_mem _ (reach_next h d _ (q + 1) x row (by omega) h2 h3 y hy)
  ·rw [if_neg c] at h3 ⊢
   exact reach_next h d L (q + 1) x row (by omega) h2 h3 y hy
theorem ends_mem {g : List (List Int)} {p : Nat} (hp : g[p]? = some []) : (p : Int) ∈ endsUpto g g.length := by
 unfold endsUpto
 refine List.mem_map.2 ⟨p,List.mem_filter.2 ⟨List.mem_range.2 (List.getElem?_eq_some_iff.1 hp).1,?_⟩,rfl⟩
 unfold endRow
 rw [getD_of hp]
 rfl
theorem play_loop {g : List (List Int)} (h : isGame g = true) (x0 x9 R xs : List Int) (p : Nat) (hp : p < g.length) (hR : R.length < 4611686018427387904) (hRn : ∀ (x : Int) (row : List Int), g[x.toNat]? = some row → x ∈ R → ∀ y ∈ row, y ∈ R)
 (hl : xs.length ≤ 40) (hodd : ((xs.length : Int) % 2 = 1 ↔ wv g p = true)) {r : Bool} (next : Ev (fun k => Za.j3 k x0 x9 (backs (wonOf false) false g) false) r) :
 ∀ (d a : Nat) (pre : List Int),a < g.length → g.length ≤ a + d → xs = pre ++ plays g d a → (a : Int) ∈ R →
 Ev (fun k => Za.l0 k x0 p xs x9 R (backs (wonOf false) false g) (endsUpto g g.length) a xs.length pre.length g) r
 | 0,a,pre,h1,h2,h3,h4 => by omega
 | d + 1,a,pre,h1,h2,h3,h4 => by
  obtain ⟨row,hr⟩ := get_some (xs := g) (i := a) h1
  have hn := game_len h
  have e0 : plays g (d + 1) a = if row = [] then [] else nextOf g row :: plays g d (nextOf g row).toNat := by show (if g.getD a [] = [] then _ else _) = _;rw [getD_of hr]
  by_cases hz : row = []
  ·subst hz
   rw [e0,if_pos rfl,List.append_nil] at h3
   subst h3
   refine Ev.step (f := fun k => (ZN.f k (endsUpto g g.length) (a : Int)).bind fun t957 => (if t957 = true then (if 0 ≤ (p : Int) then (if (p : Int) < ((backs (wonOf false) false g).length : Int) then (Za.j3 k x0 x9 (backs (wonOf false) false g) ((((xs.length : Int) % 2) == 1) != (rdOf false (backs (wonOf false) false g) (p : Int)))) else (none)) else (none)) else (Za.j3 k x0 x9 (backs (wonOf false) false g) true))) (fun k => ?_) (Ev.bind (has_ev (endsUpto g g.length) (a : Int) (by have := endsUpto_len g g.length;omega) (ends_mem hr)) (Ev.congr (fun k => ?_) next))
   ·simp only [Za.l0]
    rw [if_neg (by omega)]
   ·rw [if_pos rfl,if_pos (by omega),if_pos (by rw [backs_length];omega),rdOf_nat]
    congr 1
    cases hv : (backs (wonOf false) false g).getD p false
    ·have : ¬ ((xs.length : Int) % 2 = 1) := fun e => by have := hodd.1 e;rw [show wv g p = false from hv] at this;exact Bool.false_ne_true this
     rw [beq_eq_false_iff_ne.mpr this];rfl
    ·rw [beq_iff_eq.mpr (hodd.2 hv)];rfl
  ·rw [e0,if_neg hz] at h3
   have hq := next_mem g hz
   generalize nextOf g row = q at h3 hq
   have hq2 := row_lt h hr hq
   have hqR := hRn (a : Int) row (by rw [Int.toNat_natCast];exact hr) h4 q hq
   have hrow := game_row h hr
   have ih := play_loop h x0 x9 R xs p hp hR hRn hl hodd next d q.toNat (pre ++ [q]) hq2.2.1 (by omega) (by rw [h3];simp) (by rw [hq2.2.2];exact hqR)
   have hlen : pre.length < xs.length := by rw [h3];simp
   have hrd : rd xs (pre.length : Int) = q := by rw [rd_nat,h3];simp
   refine Ev.step (f := fun k => (ZN.f k row q).bind fun t953 => (if t953 = true then ((ZN.f k R q).bind fun t955 => (if t955 = true then (Za.l0 k x0 p xs x9 R (backs (wonOf false) false g) (endsUpto g g.length) q xs.length (wrap64 ((pre.length : Int) + 1)) g) else (some false))) else (some false))) (fun k => ?_) (Ev.bind (has_ev row q (by omega) hq) (Ev.congr (fun k => by rw [if_pos rfl]) (Ev.bind (has_ev R q hR hqR) (Ev.congr (fun k => ?_) ih))))
   ·simp only [Za.l0]
    rw [if_pos (by omega),if_pos (by omega),if_pos (by omega),if_pos (by omega),if_pos (by omega),rdL2_nat,getD_of hr,hrd]
   ·rw [if_pos rfl,wrapS (i := (pre.length : Int) + 1) (by omega) (by omega),hq2.2.2,List.length_append]
    rfl
theorem best_loop2 (x0 xs : List Int) (W : List Bool) (hx : ∀ q ∈ xs, 0 ≤ q ∧ q < (W.length : Int) ∧ W.getD q.toNat false = false) (hl : xs.length ≤ 1000) {r : Bool} (next : Ev (fun k => Za.j5 k x0) r) : ∀ d i : Nat, i + d = xs.length →
 Ev (fun k => Za.l1 k x0 xs W xs.length i) r
 | 0,i,h => by
  refine Ev.step (fun k => ?_) next
  simp only [Za.l1]
  rw [if_neg (by omega)]
 | d + 1,i,h => by
  obtain ⟨q,hi⟩ := get_some (xs := xs) (i := i) (by omega)
  have hq := hx q (List.mem_of_getElem? hi)
  have ih := best_loop2 x0 xs W hx hl next d (i + 1) (by omega)
  refine Ev.step (fun k => ?_) ih
  have e : rdOf false W q = false := by unfold rdOf;exact hq.2.2
  simp only [Za.l1]
  rw [if_pos (by omega),if_pos (by omega),if_pos (by omega),rd_nat,getD_of hi,if_pos hq.1,if_pos hq.2.1,e,if_neg (by decide),wrapS (i := (i : Int) + 1) (by omega) (by omega),cast_succ]
theorem lens_loop {g : List (List Int)} (h : isGame g = true) (x0 : List Int) {r : Bool} (next : Ev (fun k => Za.j8 k x0) r) : ∀ d i : Nat, i + d = g.length →
 Ev (fun k => Za.l2 k x0 ((backs lenOf z70 g).map S70.f1) (backs cntOf 0 g) (backs fewOf 0 g) (backs mostOf 0 g) (backs (wonOf false) false g) g.length i) r
 | 0,i,hi => by
  refine Ev.step (fun k => ?_) next
  simp only [Za.l2]
  rw [if_neg (by omega)]
 | d + 1,i,hi => by
  have ih := lens_loop h x0 next d (i + 1) (by omega)
  have hn := game_len h
  have hL := len_all h g.length i (by omega) (by omega)
  have hb := len_bnd h (p := i) (by omega)
  have hc := cnt_all h g.length i (by omega) (by omega)
  refine Ev.step (fun k => ?_) ih
  have e1 : rd ((backs lenOf z70 g).map S70.f1) (i : Int) = (Lv g i).f1 := by rw [rd_nat];exact getD_map S70.f1 _ i z70
  have e2 : ((Int.tmod (Lv g i).f1 2 == 1) != wv g i) = false := by
   rw [Int.tmod_eq_emod_of_nonneg hb.1]
   cases hv : wv g i
   ·have : ¬ ((Lv g i).f1 % 2 = 1) := fun e => by have := hL.1.1 e;rw [hv] at this;exact Bool.false_ne_true this
    rw [beq_eq_false_iff_ne.mpr this];rfl
   ·rw [beq_iff_eq.mpr (hL.1.2 hv)];rfl
  simp only [Za.l2]
  rw [if_pos (by omega),if_pos (by omega),if_pos (by rw [List.length_map,backs_length];omega),if_pos (by rw [backs_length];omega),e1,rdOf_nat]
  rw [show ((Int.tmod (Lv g i).f1 2 == 1) != (backs (wonOf false) false g).getD i false) = false from e2,if_neg (by decide),if_pos (by rw [backs_length];omega),rd_nat,if_neg (by have := hL.2.1;show ¬ (Lv g i).f1 < fv g i;omega),
   if_pos (by rw [backs_length];omega),rd_nat,if_neg (by have := hL.2.2;show ¬ (Lv g i).f1 > mv g i;omega),if_pos (by rw [backs_length];omega),rd_nat,if_neg (by have := hc.1;show ¬ cv g i < 1;omega),wrapS (i := (i : Int) + 1) (by omega) (by omega),cast_succ]
end Go.Proofs.Ytfpoppidppoeoaa.PX
namespace Go.Proofs.Ytfpoppidppoeoaa.Pure
open Go.RowKit Go.Proofs.Ytfpoppidppoeoaa.PX Go.Proofs.YtfpoppidppoeoaaW.PrintWords Go.Proofs.YtfpoppidppoeoaaW.PrintLast
set_option linter.unusedVariables false
set_option maxHeartbeats 8000000
set_option maxRecDepth 100000
theorem j10_ok (l : List Int) (hb : Bytes l) (hl : l.length ≤ 4096) : Ev (fun k => Za.j10 k l false) true := by
 obtain ⟨g,p,h,q,eD,hg,hh⟩ := equal_draw l hb hl
 refine Ev.step (f := fun k => (Zn.f k l).bind fun bt1027 => ((Zg.f k bt1027.1 bt1027.2.1 bt1027.2.2.1 bt1027.2.2.2).bind fun bt1037 => ((Zc.f k bt1027.1 bt1027.2.1 bt1027.2.2.1 bt1027.2.2.2).bind fun bt1039 => (if bt1037.2 = bt1039.2 then (some (bt1037.1 == bt1039.1)) else (some false))))) (fun k => ?_)
  (Ev.bind eD (Ev.bind (implEq_ev g h p q hg.rows hg.len hh.rows hh.len) (Ev.bind (specEq_ev g h p q hg.rows hg.len hh.rows hh.len) (Ev.congr (f := fun _ => some true) (fun k => ?_) (Ev.now _)))))
 ·simp only [Za.j10]
  rw [if_neg (by decide)]
 ·rw [if_pos rfl,beq_self_eq_true]
theorem j8_ok (l : List Int) (hb : Bytes l) (hl : l.length ≤ 4096) : Ev (fun k => Za.j8 k l) true := by
 obtain ⟨K,xs,eD,hx⟩ := heap_draw l hb hl
 have hs := heapOf_size K xs
 have s9 : Ev (fun k => Za.j9 k l K (heapOf K xs).2 false (heapOf K xs).1) true := by
  refine Ev.step (fun k => ?_) (j10_ok l hb hl)
  simp only [Za.j9]
  rw [if_neg (by decide)]
  by_cases c : (heapOf K xs).2 = 0
  ·rw [if_pos c]
   unfold heapOf at c ⊢
   by_cases c2 : 0 ≤ K ∧ K ≤ 39 ∧ okRow 0 40 xs = true
   ·rw [if_pos c2]
    have : ((heapRows K xs (K + 1).toNat).length : Int) = wrap64 (K + 1) := by rw [heapRows_len,wrapS (by omega) (by omega)];omega
    show Za.j10 k l (((heapRows K xs (K + 1).toNat).length : Int) != wrap64 (K + 1)) = _
    rw [this,bne_self_eq_false]
   ·rw [if_neg c2] at c
    exact absurd c (by decide)
  ·rw [if_neg c]
 refine Ev.step (f := fun k => (Zae.f k l).bind fun bt1012 => ((Zl.f k bt1012.1 bt1012.2).bind fun bt1016 => ((ZB.f k bt1012.1 bt1012.2).bind fun bt1021 => (if bt1016.2 = bt1021.2 then ((Zas.f k bt1016.1 bt1021.1).bind fun t1026 => (Za.j9 k l bt1012.1 bt1016.2 (!t1026) bt1016.1)) else (Za.j9 k l bt1012.1 bt1016.2 true bt1016.1))))) (fun k => ?_)
  (Ev.bind eD (Ev.bind (implHeap_ev K xs (by omega)) (Ev.bind (specHeap_ev K xs (by omega)) (Ev.congr (fun k => by rw [if_pos rfl]) (Ev.bind (games_ev (heapOf K xs).1 (by omega) (fun row hr => by have := hs.2 row hr;omega)) s9)))))
 simp only [Za.j8]
theorem j5_ok (l : List Int) (hb : Bytes l) (hl : l.length ≤ 4096) : Ev (fun k => Za.j5 k l) true := by
 obtain ⟨g,eD,hg⟩ := lengths_draw l hb hl
 have h8 := j8_ok l hb hl
 have b1 := lens_len g
 have b2 := Counts_len g
 have b3 := Fews_len g
 have b4 := Mosts_len g
 have s6 : Ev (fun k => Za.j6 k l (lens g).1 (lens g).2 (Counts g).1 (Fews g).1 (Mosts g).1 false g) true := by
  by_cases c : isGame g = true
  ·have e1 : lens g = ((backs lenOf z70 g).map S70.f1,0) := by unfold lens;rw [if_pos c]
   have e2 : Counts g = (backs cntOf 0 g,0) := by unfold Counts;rw [if_pos c]
   have e3 : Fews g = (backs fewOf 0 g,0) := by unfold Fews;rw [if_pos c]
   have e4 : Mosts g = (backs mostOf 0 g,0) := by unfold Mosts;rw [if_pos c]
   have e5 : wons false g = (backs (wonOf false) false g,0) := by unfold wons;rw [if_pos c]
   have hw := implWon_ev g hg.rows hg.len
   rw [e5] at hw
   have hL := lens_loop c l h8 g.length 0 (by omega)
   refine Ev.step (f := fun k => (ZS.f k g).bind fun bt1001 => (if bt1001.2 = 0 then (Za.l2 k l (lens g).1 (Counts g).1 (Fews g).1 (Mosts g).1 bt1001.1 ((lens g).1.length : Int) 0) else (some false))) (fun k => ?_)
    (Ev.bind hw (Ev.congr (fun k => ?_) hL))
   ·simp only [Za.j6]
    rw [if_neg (by decide),if_pos (by rw [e1])]
   ·rw [if_pos rfl,e1,e2,e3,e4]
    simp only [List.length_map,backs_length]
    rfl
  ·have e1 : lens g = ([],1) := by unfold lens;rw [if_neg c]
   refine Ev.step (fun k => ?_) h8
   simp only [Za.j6]
   rw [if_neg (by decide),if_neg (by rw [e1];decide)]
 refine Ev.step (f := fun k => (Zaj.f k l).bind fun t961 => ((ZK.f k t961).bind fun bt965 => ((Zf.f k t961).bind fun bt969 => ((Zah.f k t961).bind fun bt973 => ((Zb.f k t961).bind fun bt977 => ((ZT.f k t961).bind fun bt981 => ((Zo.f k t961).bind fun bt985 => ((ZY.f k t961).bind fun bt989 => ((Zm.f k t961).bind fun bt993 => (if bt965.2 = bt969.2 then ((Zd.f k bt965.1 bt969.1).bind fun t997 => (if t997 = true then (if bt973.2 = bt977.2 then ((Zd.f k bt973.1 bt977.1).bind fun t998 => (if t998 = true then (if bt981.2 = bt985.2 then ((Zd.f k bt981.1 bt985.1).bind fun t999 => (if t999 = true then (if bt989.2 = bt993.2 then ((Zd.f k bt989.1 bt993.1).bind fun t1000 => (Za.j6 k l bt965.1 bt965.2 bt973.1 bt981.1 bt989.1 (!t1000) t961)) else (Za.j6 k l bt965.1 bt965.2 bt973.1 bt981.1 bt989.1 true t961)) else (Za.j6 k l bt965.1 bt965.2 bt973.1 bt981.1 bt989.1 true t961))) else (Za.j6 k l bt965.1 bt965.2 bt973.1 bt981.1 bt989.1 true t961)) else (Za.j6 k l bt965.1 bt965.2 bt973.1 bt981.1 bt989.1 true t961))) else (Za.j6 k l bt965.1 bt965.2 bt973.1 bt981.1 bt989.1 true t961)) else (Za.j6 k l bt965.1 bt965.2 bt973.1 bt981.1 bt989.1 true t961))) else (Za.j6 k l bt965.1 bt965.2 bt973.1 bt981.1 bt989.1 true t961))))))))))) (fun k => ?_) (Ev.bind eD (Ev.bind (implLens_ev g hg.rows hg.len) (Ev.bind (specLens_ev g hg.rows hg.len) (Ev.bind (implCount_ev g hg.rows hg.len) (Ev.bind (specCount_ev g hg.rows hg.len) (Ev.bind (implFew_ev g hg.rows hg.len) (Ev.bind (specFew_ev g hg.rows hg.len) (Ev.bind (implMost_ev g hg.rows hg.len) (Ev.bind (specMost_ev g hg.rows hg.len) ?_)))))))))
 ·simp only [Za.j5]
 ·exact Ev.congr (fun k => by rw [if_pos rfl]) (Ev.bind (likeI_ev _ (by omega)) (Ev.congr (fun k => by rw [if_pos rfl,if_pos rfl]) (Ev.bind (likeI_ev _ (by omega)) (Ev.congr (fun k => by rw [if_pos rfl,if_pos rfl]) (Ev.bind (likeI_ev _ (by omega)) (Ev.congr (fun k => by rw [if_pos rfl,if_pos rfl]) (Ev.bind (likeI_ev _ (by omega)) s6)))))))
theorem first_ok (l : List Int) (hb : Bytes l) (hl : l.length ≤ 4096) (g : List (List Int)) (p : Int) (hg : Sm g) :
 Ev (fun k => Za.j0 k l p (playsOf g p).1 (playsOf g p).2 (bests g p).1 (reached g p).1 false g) true := by
 have h5 := j5_ok l hb hl
 by_cases c : placeOf g p = 0
 ·obtain ⟨hG,p0,p1⟩ := place_ok c
  obtain ⟨n,rfl⟩ := Int.eq_ofNat_of_zero_le p0
  have hn : n < g.length := by omega
  have h40 := game_len hG
  obtain ⟨row,hr⟩ := get_some (xs := g) (i := n) hn
  have e1 : playsOf g n = (plays g g.length n,0) := by unfold playsOf;rw [if_pos c,Int.toNat_natCast]
  have e2 : bests g n = (row.filter (fun q => !((backs (wonOf false) false g).getD q.toNat false)),0) := by unfold bests;rw [if_pos c,rdL2_nat,getD_of hr]
  have e3 : reached g n = (reach g g.length [(n : Int)] 0,0) := by unfold reached;rw [if_pos c]
  have e4 : wons false g = (backs (wonOf false) false g,0) := by unfold wons;rw [if_pos hG]
  have e5 : endsOf g = (endsUpto g g.length,0) := by unfold endsOf;rw [if_pos hG]
  have e6 : Fews g = (backs fewOf 0 g,0) := by unfold Fews;rw [if_pos hG]
  have e7 : Mosts g = (backs mostOf 0 g,0) := by unfold Mosts;rw [if_pos hG]
  have hW := implWon_ev g hg.rows hg.len
  have hE := implEnds_ev g hg.rows hg.len
  have hF := implFew_ev g hg.rows hg.len
  have hM := implMost_ev g hg.rows hg.len
  rw [e4] at hW;rw [e5] at hE;rw [e6] at hF;rw [e7] at hM
  rw [e1,e2,e3]
  have hP := plays_all hG g.length n hn (by omega)
  have hPl := plays_len g g.length n
  have hRl := reach_len g g.length [(n : Int)] 0
  have hrow := game_row hG hr
  generalize hbst : row.filter (fun q => !((backs (wonOf false) false g).getD q.toNat false)) = best
  have hB : ∀ q ∈ best,0 ≤ q ∧ q < ((backs (wonOf false) false g).length : Int) ∧ (backs (wonOf false) false g).getD q.toNat false = false := by
   intro q hq
   rw [← hbst] at hq
   have hq2 := List.mem_filter.1 hq
   have hq3 := row_lt hG hr hq2.1
   refine ⟨by omega,by rw [backs_length];omega,by simpa using hq2.2⟩
  have hBl : best.length ≤ 40 := by
   rw [← hbst]
   have := List.length_filter_le (fun q => !((backs (wonOf false) false g).getD q.toNat false)) row
   omega
  have hBw : (wv g n != decide ((best.length : Int) > 0)) = false := by
   rw [won_at hG hr,← hbst]
   cases hz : row.filter (fun q => !((backs (wonOf false) false g).getD q.toNat false)) with
   | nil =>
    have : (row.any fun q => !wv g q.toNat) = false := by
     rw [List.any_eq_false]
     intro q hq
     exact List.filter_eq_nil_iff.1 hz q hq
    rw [this];rfl
   | cons q t =>
    have hq : q ∈ row.filter (fun q => !((backs (wonOf false) false g).getD q.toNat false)) := by rw [hz];simp
    have : (row.any fun q => !wv g q.toNat) = true := by
     rw [List.any_eq_true]
     exact ⟨q,(List.mem_filter.1 hq).1,(List.mem_filter.1 hq).2⟩
    rw [this,decide_eq_true (by simp only [List.length_cons];omega)];rfl
  have s3 : Ev (fun k => Za.j3 k l best (backs (wonOf false) false g) false) true := by
   refine Ev.step (fun k => ?_) (best_loop2 l best _ hB (by omega) h5 best.length 0 (by omega))
   simp only [Za.j3]
   rw [if_neg (by decide)]
   rfl
  have s1 : Ev (fun k => Za.j1 k l n (plays g g.length n) best (reach g g.length [(n : Int)] 0) (backs (wonOf false) false g) (endsUpto g g.length) false g) true := by
   refine Ev.step (fun k => ?_) (play_loop hG l best (reach g g.length [(n : Int)] 0) (plays g g.length n) n hn (by omega) (fun x row' h1 h2 y hy => reach_next hG g.length _ 0 x row' (by omega) h1 h2 y hy) (by omega) hP.1 s3 g.length n [] hn (by omega) rfl
    (reach_in g g.length _ 0 n (by omega) (by omega) hn (by simp)))
   simp only [Za.j1]
   rw [if_neg (by decide)]
   rfl
  refine Ev.step (f := fun k => (ZS.f k g).bind fun bt932 => ((Zav.f k g).bind fun bt936 => ((ZT.f k g).bind fun bt940 => ((ZY.f k g).bind fun bt944 => (if bt932.2 = 0 then (if bt936.2 = 0 then (if bt940.2 = 0 then (if bt944.2 = 0 then (if 0 ≤ (n : Int) then (if (n : Int) < (bt940.1.length : Int) then (if ((plays g g.length n).length : Int) < (rd bt940.1 (n : Int)) then (Za.j1 k l (n : Int) (plays g g.length n) best (reach g g.length [(n : Int)] 0) bt932.1 bt936.1 true g) else (if (n : Int) < (bt944.1.length : Int) then (if ((plays g g.length n).length : Int) > (rd bt944.1 (n : Int)) then (Za.j1 k l (n : Int) (plays g g.length n) best (reach g g.length [(n : Int)] 0) bt932.1 bt936.1 true g) else (if (n : Int) < (bt932.1.length : Int) then (Za.j1 k l (n : Int) (plays g g.length n) best (reach g g.length [(n : Int)] 0) bt932.1 bt936.1 ((rdOf false bt932.1 (n : Int)) != (decide ((best.length : Int) > 0))) g) else (none))) else (none))) else (none)) else (none)) else (Za.j1 k l (n : Int) (plays g g.length n) best (reach g g.length [(n : Int)] 0) bt932.1 bt936.1 true g)) else (Za.j1 k l (n : Int) (plays g g.length n) best (reach g g.length [(n : Int)] 0) bt932.1 bt936.1 true g)) else (Za.j1 k l (n : Int) (plays g g.length n) best (reach g g.length [(n : Int)] 0) bt932.1 bt936.1 true g)) else (Za.j1 k l (n : Int) (plays g g.length n) best (reach g g.length [(n : Int)] 0) bt932.1 bt936.1 true g)))))) (fun k => ?_) (Ev.bind hW (Ev.bind hE (Ev.bind hF (Ev.bind hM (Ev.congr (fun k => ?_) s1)))))
  ·simp only [Za.j0]
   rw [if_neg (by decide),if_pos trivial]
  ·rw [if_pos rfl,if_pos rfl,if_pos rfl,if_pos rfl,if_pos p0,if_pos (by rw [backs_length];omega),if_neg (by rw [rd_nat];have := hP.2.1;show ¬ ((plays g g.length n).length : Int) < fv g n;omega),if_pos (by rw [backs_length];omega),
    if_neg (by rw [rd_nat];have := hP.2.2;show ¬ ((plays g g.length n).length : Int) > mv g n;omega),if_pos (by rw [backs_length];omega),rdOf_nat]
   rw [show ((backs (wonOf false) false g).getD n false != decide ((best.length : Int) > 0)) = false from hBw]
 ·have e1 : playsOf g p = ([],placeOf g p) := by unfold playsOf;rw [if_neg c]
  refine Ev.step (fun k => ?_) h5
  simp only [Za.j0]
  rw [if_neg (by decide),if_neg (by rw [e1];exact c)]
theorem FnGamePlays : PX.Za.Pure := by
 intro l _ _ hw
 have hb : Bytes l := fun x hx => by
  have := hw x hx
  have e1 : IntKind.u8.min = 0 := by decide
  have e2 : IntKind.u8.max = 255 := by decide
  simp only [Lit.wf,Bool.and_eq_true,decide_eq_true_eq] at this
  omega
 refine Ev.rounds ?_
 by_cases hbig : (l.length : Int) > 4096
 ·refine Ev.congr (f := fun _ => some true) (fun k => ?_) (Ev.now true)
  unfold Za.f Zay.f
  rw [Option.bind_some,if_pos (decide_eq_true hbig)]
 have hl : l.length ≤ 4096 := by omega
 obtain ⟨g,p,eD,hg⟩ := playfrom_draw l hb hl
 have b1 := plays_le g p
 have b2 := bests_len g p
 have b3 := reached_le g p
 refine Ev.congr (f := fun k => (Zal.f k l).bind fun bt900 => ((ZP.f k bt900.1 bt900.2).bind fun bt905 => ((ZM.f k bt900.1 bt900.2).bind fun bt909 => ((Zak.f k bt900.1 bt900.2).bind fun bt913 => ((Zap.f k bt900.1 bt900.2).bind fun bt917 => ((Zao.f k bt900.1 bt900.2).bind fun bt921 => ((Zk.f k bt900.1 bt900.2).bind fun bt925 => (if bt905.2 = bt909.2 then ((Zd.f k bt905.1 bt909.1).bind fun t929 => (if t929 = true then (if bt913.2 = bt917.2 then ((Zd.f k bt913.1 bt917.1).bind fun t930 => (if t930 = true then (if bt921.2 = bt925.2 then ((Zd.f k bt921.1 bt925.1).bind fun t931 => (Za.j0 k l bt900.2 bt905.1 bt905.2 bt913.1 bt921.1 (!t931) bt900.1)) else (Za.j0 k l bt900.2 bt905.1 bt905.2 bt913.1 bt921.1 true bt900.1)) else (Za.j0 k l bt900.2 bt905.1 bt905.2 bt913.1 bt921.1 true bt900.1))) else (Za.j0 k l bt900.2 bt905.1 bt905.2 bt913.1 bt921.1 true bt900.1)) else (Za.j0 k l bt900.2 bt905.1 bt905.2 bt913.1 bt921.1 true bt900.1))) else (Za.j0 k l bt900.2 bt905.1 bt905.2 bt913.1 bt921.1 true bt900.1))))))))) (fun k => ?_) (Ev.bind eD (Ev.bind (implPlay_ev g p hg.rows hg.len) (Ev.bind (specPlay_ev g p hg.rows hg.len) (Ev.bind (implBests_ev g p hg.rows hg.len) (Ev.bind (specBests_ev g p hg.rows hg.len) (Ev.bind (implReached_ev g p hg.rows hg.len) (Ev.bind (specReached_ev g p hg.rows hg.len) ?_)))))))
 ·unfold Za.f Zay.f
  rw [Option.bind_some,if_neg (by rw [decide_eq_false hbig];decide)]
 ·exact Ev.congr (fun k => by rw [if_pos rfl]) (Ev.bind (likeI_ev _ (by omega)) (Ev.congr (fun k => by rw [if_pos rfl,if_pos rfl]) (Ev.bind (likeI_ev _ (by omega)) (Ev.congr (fun k => by rw [if_pos rfl,if_pos rfl]) (Ev.bind (likeI_ev _ (by omega)) (first_ok l hb hl g p hg))))))
end Go.Proofs.Ytfpoppidppoeoaa.Pure
namespace Go.Proofs.Ytfpoppidppoeoaa.fnGamePlays
open Go.ChangeShapes Go.WideShapes Go.ChangeAt Go.RowKit
open Go.ChangeMaps (open_string shut_string)
set_option linter.unusedVariables false
theorem own : ownKnob Try.prog.godebug = none := by kernel_rfl
theorem laidOut : laidOutB Try.prog = true := by kernel_rfl
def IsRow (k : IntKind) (w : World) (a : Option Addr) (len cap : Nat) (zs : List Int) : Prop :=
  (a = none ∧ len = 0 ∧ cap = 0 ∧ zs = []) ∨
  ∃ x, a = some x ∧ len ≤ cap ∧ cap ≤ maxLen ∧ zs.length = cap ∧ (∀ i, i < zs.length → w.cell? (x.add i) = some (.int k (zs.getD i 0))) ∧ ∀ n ∈ zs, (Lit.int k n).wf = true
theorem lifted (os : Os) (started : os.Started) (H : Type) (enc : TypeId × Value → H) :
    ReturnsInHanded {} Try.checked os 3 .any (Rows.fnGamePlaysSpec.pre6 enc Try.prog Try.f3 Rows.fnGamePlaysRow.domain false) (Rows.fnGamePlaysSpec.post enc Try.prog Try.f3 false true false false) := by
  refine returnsInHanded_of_change_sized (C := Try.checked) own started (by kernel_rfl) Try.func3
    (ChangeSpec.witness6 (enc := enc) (C := Try.checked) false ⟨#[], #[.slice none 0 0], []⟩ 8 (by kernel_rfl) (by kernel_rfl) (by kernel_rfl) (by kernel_rfl)) ?_
  intro W base args ds gs before hval0 hW hcnd hsz0 _
  have hsz : (DataW.weightsEach Try.prog (Try.f3.params.toList ++ Rows.fnGamePlaysSpec.plain.varTypes Try.prog) (ds ++ gs)).all (· ≤ reachBytes) = true := hsz0
  have hval : ∀ (j : Nat) t v, Try.f3.params[j]? = some t → args[j]? = some v → Value.okWide Try.prog W .any base t v := hval0
  have hW' := hW
  obtain ⟨p, q, hA0, hV, rfl, hfz, hnd⟩ := hW
  have hA : DataW.TrodAll enc Try.prog W 0 (fun _ => true) true Try.f3.params.toList args.toList ds p := hA0
  rw [Try.params3] at hA hval hsz
  obtain ⟨v0, vs0, d0, ds0, p0, q0, hargs, rfl, rfl, h0, r0⟩ := trodAll_cons hA
  obtain ⟨rfl, rfl, rfl⟩ := trodAll_nil r0
  obtain rfl : args = #[v0] := by cases args; simp_all
  obtain ⟨rfl, rfl⟩ := trodVars_none hV
  obtain ⟨a0, len0, cap0, rfl⟩ := okWide_slice Try.underlying22 (hval 0 22 v0 rfl rfl)
  have k0 := h0
  have lt0 : ∀ x ∈ p0, x.block < W.heap.size := by obtain ⟨m, hm⟩ := k0; exact DataW.trod_lt m _ _ _ hm
  obtain ⟨z0, w0⟩ : ∃ zs, IsRow .u8 W a0 len0 cap0 zs := by
    obtain ⟨fuel, hf⟩ := h0
    rcases open_ints Try.underlying22 Try.underlying5 (by kernel_rfl) hf with ⟨hcs, _⟩ | ⟨x, l, c, zs, hcs, _, hl, hm, hz, _, hcell, hwz⟩
    · simp [Value.cells] at hcs
      obtain ⟨rfl, rfl, rfl⟩ := hcs
      exact ⟨[], .inl ⟨rfl, rfl, rfl, rfl⟩⟩
    · simp [Value.cells] at hcs
      obtain ⟨rfl, rfl, rfl⟩ := hcs
      exact ⟨zs, .inr ⟨_, rfl, hl, hm, by simpa using hz, hcell, hwz⟩⟩
  have y0 : len0 * 1 ≤ 140737488351232 := Go.Proofs.YtfpoppidppoeoaaW.PrintWords.sized_ints hsz (j := 0) (t := 22) rfl rfl Try.underlying22 Try.underlying5 (by kernel_rfl) (by kernel_rfl) h0
  clear hA0 hval0 hsz0 hsz
  refine (PX.Za.walk Pure.FnGamePlays a0 len0 cap0 z0 W w0 y0).mono fun e W' ⟨he, bel⟩ => ?_
  subst he
  exact ⟨_, rfl, _, _, _, [], _, [], hW', trodAll_mk1 (shut_bool Try.underlying4 _), (trodAll_cons_mk (Below.trod laidOut (by kernel_rfl) (of_decide_eq_true (by kernel_rfl)) k0 bel lt0) trodAll_mk0), rfl, bel.frame _, fun h => by cases h⟩
theorem over : Rows.fnGamePlaysRow.holds Try.pinned (OpenSpec.ofChange Rows.fnGamePlaysSpec) :=
  OpenClaim.holds_of_wide 3 Try.f3 rfl rfl rfl rfl rfl rfl rfl ⟨rfl, rfl, rfl, rfl, rfl⟩ rfl rfl rfl rfl rfl (by kernel_rfl) Try.func3 (by kernel_rfl)
    (of_decide_eq_true (by kernel_rfl)) (by unfold Func.isWrapper; first | (rw [if_pos (by decide +kernel)]; kernel_rfl) | (rw [if_neg (by decide +kernel)]; exact ⟨rfl, rfl⟩))
    (fun os started H enc _ => lifted os started H enc)
theorem proved : Rows.FnGamePlaysSaid := over
#print axioms proved
end Go.Proofs.Ytfpoppidppoeoaa.fnGamePlays
namespace Go.Proofs.Ytfpoppidppoeoaa
theorem fnGamePlays_holds : Rows.FnGamePlaysSaid := fnGamePlays.proved
end Go.Proofs.Ytfpoppidppoeoaa
