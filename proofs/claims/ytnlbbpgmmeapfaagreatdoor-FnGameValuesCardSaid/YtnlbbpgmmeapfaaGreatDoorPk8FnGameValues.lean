/- Part 8 of the texts under the row of FnGameValues (no condition). -/
import Derived.Test.YtnlbbpgmmeapfaaGreatDoorPk6FnGameValues
namespace Go.Proofs.YtnlbbpgmmeapfaaGreatDoor.PX
open Go.RowKit Go.Proofs.YtnlbbpgmmeapfaaGreatDoorW.PrintWords Go.Proofs.YtnlbbpgmmeapfaaGreatDoorW.PrintLast Go.Proofs.YtnlbbpgmmeapfaaGreatDoorW.PrintMore
attribute [local go_sem] max2_int min2_int max_two min_two max_three min_three max_four min_four
set_option linter.unusedVariables false
set_option linter.unusedSimpArgs false
set_option maxHeartbeats 8000000
set_option maxRecDepth 100000
theorem Za.sec1 (HS2 : Za.S2) (HS4 : Za.S4) : Za.S1 := by
 unfold Za.S1;intros;rename_i _ _ _ l0 r w HG hu26 HR0 HC0 t800 t804 t807 t812 t820 t828 gb803 _ Ao16 co16 hcz17_0 hfz17_0 _ v805 hcz19_0 hfz19_0 _ _ hcz21_0 hfz21_0 _ v813 hcz23_0 hfz23_0 _ _ hcz25_0 hfz25_0 _ v821 hcz27_0 hfz27_0 _ _ hcz29_0 hfz29_0 _ v829 hcz31_0 hfz31_0 _ _ z1_237 _ _ hcut
 conv => arg 2;whnf
 conv at z1_237 => enter [a,w];arg 1;arg 2;whnf
 obtain ⟨kq,x151_12,rfl,HA,HJ12,HO_4,HO_8,HO_12,HO_16,HO_q3,BK803,HB⟩ := hcut
 cases kq with
 | zero => exact absurd HA.out (by simp [Za.j0])
 | succ kj12 =>
  have H := HA.out;clear HA;simp only [Za.j0] at H;replace H := iB H;obtain ⟨rfl,H⟩|⟨rfl,H⟩ := H
  ·obtain rfl := Option.some.inj H;go_wp2;go_ret;exact eR (bN HB)
  ·as_aux_lemma =>
    have HC99 := aK H;clear H
    go_upto_if 153 with (fail)
    go_cut [] (Za.R4 l0 r w t800 gb803 Ao16 co16 kj12)
    case first =>
     as_aux_lemma =>
      have H := HC99.out;clear HC99
      by_cases c100 : t807 = 0
      ·as_aux_lemma =>
        rw [if_pos c100] at H;have c100b0 := beq_iff_eq.mpr c100;have c100b1 := bne_eq_false_iff_eq.mpr c100;clear c100;(first | rw [c100b0] | (simp only [i64_w,i32_w];rw [c100b0]) | skip);replace H := bE H;obtain ⟨⟨t842,t843⟩,A101,H⟩ := H;dsimp only at H;replace H := bE H;obtain ⟨⟨t844,t847⟩,A102,H⟩ := H;dsimp only at H;have HC103 := aK H;clear H;have hcz104_0 := z0 BK803;have hfz104_0 := fZ BK803 0
        go_upto_region 16 with (first | ((with_reducible refine wP ?_);refine gT 156 Tryz.func18 (ZS.calls kj12 _ _ t800 t842 t843 _ (cM (vr HO_q3)) (vq HO_q3) A101.out) ?_;intro w105 hb;replace HO_4 := rB HO_4 hb;replace HO_8 := rB HO_8 hb;replace HO_12 := rB HO_12 hb;replace HO_16 := rB HO_16 hb;replace HO_q3 := vB HO_q3 hb;replace BK803 := kB BK803 hb;replace HB := hB HB hb;clear hb))
        as_aux_lemma =>
         go_upto_region 17 with (first | ((with_reducible refine wP ?_);refine gS 161 Tryz.func19 (Zr.calls kj12 t842 t844 t847 _ A102.out (HG.out.below (bN HB))) ?_;rintro e w106 ⟨v845,rfl,ho0,hb⟩;refine ⟨_,rfl,?_⟩;replace HO_8 := rB HO_8 hb;replace HO_12 := rB HO_12 hb;replace HO_q3 := vL HO_q3 (sb ho0) hb;have HO846 := sl (Kd.S_new' (Kd.S_new' ho0 (rt HO_4)) (rt HO_16)) HB;replace HO_4 := rB HO_4 hb;replace HO_16 := rB HO_16 hb;replace BK803 := kB BK803 hb;replace HB := hB HB hb;clear hb ho0) | ((with_reducible refine gate_dst (N := 22) rfl ?_);(try (refine gate_guard (by rfl) ?_;dsimp only));refine boxE 22 #[.slice none 0 0] 26 ?_;intro gb848 hg w107 hbox hb;replace HO_4 := rB HO_4 hb;replace HO_8 := rB HO_8 hb;replace HO_12 := rB HO_12 hb;replace HO_16 := rB HO_16 hb;replace HO_q3 := vE HO_q3 hg hb;replace HO846 := sB HO846 hb;have BK848 := aK (hbox);have GW848 := aK (zG HB hg);have GE848 := aK (zG HB hg);replace HB := hB HB hb;obtain ⟨NB803_848,NB848_803⟩ := nG hg BK803;replace BK803 := kB BK803 hb;clear hb hbox hg;obtain ⟨Ao108,co108,eo108⟩ := Kd.S_slice HO846.out;subst eo108;have hnb109 := NB848_803.out;have hnc109 := NB803_848.out;have hcz110_0 := z0 BK848;have hfz110_0 := fZ BK848 0))
         (try simp only [Act.put,List.setIfInBounds_toArray,List.set_cons_zero,List.set_cons_succ])
         go_cut [175] (Za.R2 l0 r w t800 t804 t812 t820 t828 gb803 Ao16 co16 v805 v813 v821 v829 kj12 t844 gb848 Ao108 co108)
         case first =>
          as_aux_lemma =>
           have H := HC103.out;clear HC103
           by_cases c111 : t843 = 0
           ·as_aux_lemma =>
             rw [if_pos c111] at H;have c111b0 := beq_iff_eq.mpr c111;have c111b1 := bne_eq_false_iff_eq.mpr c111;clear c111;(first | rw [c111b0] | (simp only [i64_w,i32_w];rw [c111b0]) | skip)
             by_cases c112 : t847 = 0
             ·as_aux_lemma =>
               rw [if_pos c112] at H;have c112b0 := beq_iff_eq.mpr c112;have c112b1 := bne_eq_false_iff_eq.mpr c112;clear c112;replace H := bE H;obtain ⟨t849,A113,H⟩ := H;have H' := aK H;clear H;have hnb114 := NB848_803.out;have hnc114 := NB803_848.out;have hcz115_0 := z0 BK848;have hfz115_0 := fZ BK848 0;have hcz116_0 := z0 BK803;have hfz116_0 := fZ BK803 0
               as_aux_lemma =>
                go_wp2_with (first | (go_at_call 20;refine cA (Zan.calls kj12 _ _ t844 _ _ t800 t849 _ ?side1 (sq HO846) ?side3 (vq HO_q3) A113.out) ?_;(case side1 => refine (Kd.S_reads' (e := 28) (base := w.heap.size) (ok := fun k_ => ((True ∧ some k_ ≠ (v805 : Value).ownBlock) ∧ some k_ ≠ (v829 : Value).ownBlock)) (n := t844.length) (c := co108) ?_).2.2;exact (sM ((Kd.S_mono (Kd.S_far (p := ⟨gb848,0,none⟩) (Kd.S_types HO846.out BK848.out (by decide)) (fun _ hk => hk.2) (.slice Ao108 t844.length co108)) (fun _ h_ => h_.1)))));(case side3 => refine (Kd.V_reads' (e := 28) (base := w.heap.size) (ok := fun k_ => (((some k_ ≠ (v805 : Value).ownBlock ∧ (some k_ ≠ (v813 : Value).ownBlock ∧ (some k_ ≠ (v821 : Value).ownBlock ∧ (some k_ ≠ (v829 : Value).ownBlock ∧ k_ ≠ gb803)))) ∧ some k_ ≠ (.slice Ao108 t844.length co108 : Value).ownBlock) ∧ k_ ≠ gb848)) (n := t800.length) (c := co16) ?_).2.2;exact (vM ((Kd.V_mono (Kd.V_far (p := ⟨gb848,0,none⟩) (Kd.V_mono HO_q3.out (fun k_ hk => (⟨hk,hk.2⟩ : _ ∧ k_ ≠ gb848))) (fun _ hk => hk.2) (.slice Ao108 t844.length co108)) (fun _ h_ => h_.1)))));rintro e w117 ⟨rfl,hb⟩;replace HO_4 := aK (Kd.R_below (rM ((Kd.R_mono (Kd.R_far (p := ⟨gb848,0,none⟩) (Kd.R_types HO_4.out BK848.out (by decide)) (fun _ hk => hk.2) (.slice Ao108 t844.length co108)) (fun _ h_ => h_.1)))) hb);replace HO_8 := aK (Kd.R_below (rM ((Kd.R_mono (Kd.R_far (p := ⟨gb848,0,none⟩) (Kd.R_types HO_8.out BK848.out (by decide)) (fun _ hk => hk.2) (.slice Ao108 t844.length co108)) (fun _ h_ => h_.1)))) hb);replace HO_12 := aK (Kd.R_below (rM ((Kd.R_mono (Kd.R_far (p := ⟨gb848,0,none⟩) (Kd.R_types HO_12.out BK848.out (by decide)) (fun _ hk => hk.2) (.slice Ao108 t844.length co108)) (fun _ h_ => h_.1)))) hb);replace HO_16 := aK (Kd.R_below (rM ((Kd.R_mono (Kd.R_far (p := ⟨gb848,0,none⟩) (Kd.R_types HO_16.out BK848.out (by decide)) (fun _ hk => hk.2) (.slice Ao108 t844.length co108)) (fun _ h_ => h_.1)))) hb);replace HO_q3 := aK (Kd.V_below (vM ((Kd.V_mono (Kd.V_far (p := ⟨gb848,0,none⟩) (Kd.V_mono HO_q3.out (fun k_ hk => (⟨hk,hk.2⟩ : _ ∧ k_ ≠ gb848))) (fun _ hk => hk.2) (.slice Ao108 t844.length co108)) (fun _ h_ => h_.1)))) hb);replace HO846 := aK (Kd.S_below (sM ((Kd.S_mono (Kd.S_far (p := ⟨gb848,0,none⟩) (Kd.S_types HO846.out BK848.out (by decide)) (fun _ hk => hk.2) (.slice Ao108 t844.length co108)) (fun _ h_ => h_.1)))) hb);replace BK803 := kY BK803 hb;replace BK848 := kX #[.slice Ao108 t844.length co108] BK848 hb;replace HB := hB HB hb;clear hb))
                go_meet
                case rel => exact ⟨_,(!t849),rD,H',o1 HJ12,⟨rN HO_4⟩,⟨rN HO_8⟩,⟨rN HO_12⟩,⟨rN HO_16⟩,vW HO_q3,sW HO846,⟨kN BK803⟩,⟨kN BK848⟩,⟨bN HB⟩⟩
             ·rw [if_neg c112] at H;have c112b0 := beq_eq_false_iff_ne.mpr c112;have c112b1 := bne_iff_ne.mpr c112;have H' := aK H;clear H;go_wp2;go_meet
              case rel => exact ⟨_,(true),rD,H',o1 HJ12,⟨rM (Kd.R_mono (Kd.R_far (p := ⟨gb848,0,none⟩) (Kd.R_types HO_4.out BK848.out (by decide)) (fun _ hk => hk.2) (.slice Ao108 t844.length co108)) (fun _ hk => hk.1))⟩,⟨rM (Kd.R_mono (Kd.R_far (p := ⟨gb848,0,none⟩) (Kd.R_types HO_8.out BK848.out (by decide)) (fun _ hk => hk.2) (.slice Ao108 t844.length co108)) (fun _ hk => hk.1))⟩,⟨rM (Kd.R_mono (Kd.R_far (p := ⟨gb848,0,none⟩) (Kd.R_types HO_12.out BK848.out (by decide)) (fun _ hk => hk.2) (.slice Ao108 t844.length co108)) (fun _ hk => hk.1))⟩,⟨rM (Kd.R_mono (Kd.R_far (p := ⟨gb848,0,none⟩) (Kd.R_types HO_16.out BK848.out (by decide)) (fun _ hk => hk.2) (.slice Ao108 t844.length co108)) (fun _ hk => hk.1))⟩,⟨vM (Kd.V_mono (Kd.V_far (p := ⟨gb848,0,none⟩) (Kd.V_mono HO_q3.out (fun k_ hk => (⟨hk,hk.2⟩ : _ ∧ k_ ≠ gb848))) (fun _ hk => hk.2) (.slice Ao108 t844.length co108)) (fun _ hk => ⟨hk.1.1.1.1,⟨hk.1.1.1.2.1,⟨hk.1.1.1.2.2.1,⟨hk.1.1.1.2.2.2.1,⟨hk.1.1.2,⟨hk.1.1.1.2.2.2.2,hk.1.2⟩⟩⟩⟩⟩⟩))⟩,⟨sM (Kd.S_mono (Kd.S_far (p := ⟨gb848,0,none⟩) (Kd.S_types HO846.out BK848.out (by decide)) (fun _ hk => hk.2) (.slice Ao108 t844.length co108)) (fun _ hk => ⟨hk.1.1.2,hk.1.2⟩))⟩,⟨kZ BK803⟩,⟨kP BK848⟩,⟨bN HB⟩⟩
           ·rw [if_neg c111] at H;have c111b0 := beq_eq_false_iff_ne.mpr c111;have c111b1 := bne_iff_ne.mpr c111;(first | rw [c111b0] | (simp only [i64_w,i32_w];rw [c111b0]) | skip);have H' := aK H;clear H;go_wp2;go_meet
            case rel => exact ⟨_,(true),rD,H',o1 HJ12,⟨rM (Kd.R_mono (Kd.R_far (p := ⟨gb848,0,none⟩) (Kd.R_types HO_4.out BK848.out (by decide)) (fun _ hk => hk.2) (.slice Ao108 t844.length co108)) (fun _ hk => hk.1))⟩,⟨rM (Kd.R_mono (Kd.R_far (p := ⟨gb848,0,none⟩) (Kd.R_types HO_8.out BK848.out (by decide)) (fun _ hk => hk.2) (.slice Ao108 t844.length co108)) (fun _ hk => hk.1))⟩,⟨rM (Kd.R_mono (Kd.R_far (p := ⟨gb848,0,none⟩) (Kd.R_types HO_12.out BK848.out (by decide)) (fun _ hk => hk.2) (.slice Ao108 t844.length co108)) (fun _ hk => hk.1))⟩,⟨rM (Kd.R_mono (Kd.R_far (p := ⟨gb848,0,none⟩) (Kd.R_types HO_16.out BK848.out (by decide)) (fun _ hk => hk.2) (.slice Ao108 t844.length co108)) (fun _ hk => hk.1))⟩,⟨vM (Kd.V_mono (Kd.V_far (p := ⟨gb848,0,none⟩) (Kd.V_mono HO_q3.out (fun k_ hk => (⟨hk,hk.2⟩ : _ ∧ k_ ≠ gb848))) (fun _ hk => hk.2) (.slice Ao108 t844.length co108)) (fun _ hk => ⟨hk.1.1.1.1,⟨hk.1.1.1.2.1,⟨hk.1.1.1.2.2.1,⟨hk.1.1.1.2.2.2.1,⟨hk.1.1.2,⟨hk.1.1.1.2.2.2.2,hk.1.2⟩⟩⟩⟩⟩⟩))⟩,⟨sM (Kd.S_mono (Kd.S_far (p := ⟨gb848,0,none⟩) (Kd.S_types HO846.out BK848.out (by decide)) (fun _ hk => hk.2) (.slice Ao108 t844.length co108)) (fun _ hk => ⟨hk.1.1.2,hk.1.2⟩))⟩,⟨kZ BK803⟩,⟨kP BK848⟩,⟨bN HB⟩⟩
         case rest =>
          clear HC103;clear c100b0 c100b1 hcz104_0 hcz110_0 hfz104_0 hfz110_0;go_step;rename_i z2_442 _ _ z2_445 z2_446 _ z2_522;exact HS2 hu26 hcz17_0 hfz17_0 hcz19_0 hfz19_0 hcz21_0 hfz21_0 hcz23_0 hfz23_0 hcz25_0 hfz25_0 hcz27_0 hfz27_0 hcz29_0 hfz29_0 hcz31_0 hfz31_0 HJ12 z2_442 z2_445 z2_446 NB803_848 NB848_803 hnb109 hnc109 z2_522 hcut
      ·rw [if_neg c100] at H;have c100b0 := beq_eq_false_iff_ne.mpr c100;have c100b1 := bne_iff_ne.mpr c100;(first | rw [c100b0] | (simp only [i64_w,i32_w];rw [c100b0]) | skip);have H' := aK H;clear H;go_wp2;go_meet
       case rel => exact ⟨_,H',o1 HJ12,vW HO_q3,⟨kN BK803⟩,⟨bN HB⟩⟩
    case rest =>
     clear HC99;go_step;exact HS4 HG hu26 HR0 HC0 hcz17_0 hfz17_0 hcz19_0 hfz19_0 hcz21_0 hfz21_0 hcz23_0 hfz23_0 hcz25_0 hfz25_0 hcz27_0 hfz27_0 hcz29_0 hfz29_0 hcz31_0 hfz31_0 HJ12 hcut
end Go.Proofs.YtnlbbpgmmeapfaaGreatDoor.PX
