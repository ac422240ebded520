/- Part 12 of the texts under the row of FnGameValues (no condition). -/
import Derived.Test.YtnlbbpgmmeapfaaGreatDoorPk6FnGameValues
namespace Go.Proofs.YtnlbbpgmmeapfaaGreatDoor.PX
open Go.RowKit Go.Proofs.YtnlbbpgmmeapfaaGreatDoorW.PrintWords Go.Proofs.YtnlbbpgmmeapfaaGreatDoorW.PrintLast Go.Proofs.YtnlbbpgmmeapfaaGreatDoorW.PrintMore
attribute [local go_sem] max2_int min2_int max_two min_two max_three min_three max_four min_four
set_option linter.unusedVariables false
set_option linter.unusedSimpArgs false
set_option maxHeartbeats 8000000
set_option maxRecDepth 100000
theorem Za.sec5 (HS6 : Za.S6) (HS7 : Za.S7) : Za.S5 := by
 unfold Za.S5;intros;rename_i _ _ _ l0 r w HG hu26 HR0 HC0 t800 gb803 _ Ao16 co16 hcz17_0 hfz17_0 _ _ hcz19_0 hfz19_0 _ _ hcz21_0 hfz21_0 _ _ hcz23_0 hfz23_0 _ _ hcz25_0 hfz25_0 _ _ hcz27_0 hfz27_0 _ _ hcz29_0 hfz29_0 _ _ hcz31_0 hfz31_0 _ _ HJ12 _ HJ98 t869 t872 t877 t880 t882 gb875 NB803_875 NB875_803 gb876 NB803_876 NB876_803 NB875_876 NB876_875 Ao176 co176 hnb177 hnc177 hnb178 hnc178 Ao180 co180 hnb181 hnc181 gb881 NB803_881 NB881_803 NB875_881 NB881_875 NB876_881 NB881_876 Ao185 co185 hnb186 hnc186 hnb187 hnc187 hnb188 hnc188 gb886 NB875_886 NB886_875 NB876_886 NB886_876 NB881_886 NB886_881 Ao194 co194 hnb195 hnc195 hnb196 hnc196 hnb197 hnc197 hnb198 hnc198 _ z5_639 _ _ hcut
 conv => arg 2;whnf
 conv at z5_639 => enter [a,w];arg 1;arg 2;whnf
 obtain ⟨kq,x286_171,rfl,HA,HJ171,HO_q3,HO_q7,HO_q8,HO_q4,HO_q6,BK803,BK875,BK876,BK881,BK886,HB⟩ := hcut
 cases kq with
 | zero => exact absurd HA.out (by simp [Za.j6])
 | succ kj171 =>
  have H := HA.out;clear HA;simp only [Za.j6] at H;replace H := iB H;obtain ⟨rfl,H⟩|⟨rfl,H⟩ := H
  ·obtain rfl := Option.some.inj H;go_wp2;go_ret;exact eR (bN HB)
  ·as_aux_lemma =>
    have HC213 := aK H;clear H
    go_upto_if 288 with (fail)
    go_cut [] (Za.R7 l0 r w t800 gb803 Ao16 co16 t869 t872 t877 t882 gb875 gb876 Ao176 co176 Ao180 co180 gb881 Ao185 co185 gb886 Ao194 co194 kj171)
    case first =>
     as_aux_lemma =>
      have H := HC213.out;clear HC213
      by_cases c214 : t880 = 0
      ·as_aux_lemma =>
        rw [if_pos c214] at H;have c214b0 := beq_iff_eq.mpr c214;have c214b1 := bne_eq_false_iff_eq.mpr c214;clear c214;(first | rw [c214b0] | (simp only [i64_w,i32_w];rw [c214b0]) | skip);replace H := bE H;obtain ⟨⟨t888,t891⟩,A215,H⟩ := H;dsimp only at H;replace H := bE H;obtain ⟨⟨t892,t895⟩,A216,H⟩ := H;dsimp only at H;replace H := bE H;obtain ⟨⟨t896,t899⟩,A217,H⟩ := H;dsimp only at H;have HC218 := aK H;clear H;have hnb219 := NB875_803.out;have hnc219 := NB803_875.out;have hnb220 := NB875_876.out;have hnc220 := NB876_875.out;have hnb221 := NB875_881.out;have hnc221 := NB881_875.out;have hnb222 := NB875_886.out;have hnc222 := NB886_875.out;have hcz223_0 := z0 BK875;have hfz223_0 := fZ BK875 0
        go_upto_region 41 with ((with_reducible refine wP ?_);first | (refine gS 291 Tryz.func6 (ZO.calls kj171 _ _ t869 t888 t891 _ (cM (vr HO_q7)) (vq HO_q7) A215.out) ?_;rintro e w224 ⟨v889,rfl,ho0,hb⟩;refine ⟨_,rfl,?_⟩;replace HO_q3 := vL HO_q3 (rb ho0) hb;replace HO_q7 := vL HO_q7 (rb ho0) hb;replace HO_q8 := vL HO_q8 (rb ho0) hb;replace HO_q4 := sL HO_q4 (rb ho0) hb;replace HO_q6 := sL HO_q6 (rb ho0) hb;have HO890 := rl ho0 HB;replace BK803 := kB BK803 hb;replace BK875 := kB BK875 hb;replace BK876 := kB BK876 hb;replace BK881 := kB BK881 hb;replace BK886 := kB BK886 hb;replace HB := hB HB hb;clear hb ho0;have hnb225 := NB876_803.out;have hnc225 := NB803_876.out;have hnb226 := NB876_881.out;have hnc226 := NB881_876.out;have hnb227 := NB876_886.out;have hnc227 := NB886_876.out;have hcz228_0 := z0 BK876;have hfz228_0 := fZ BK876 0))
        as_aux_lemma =>
         go_upto_region 42 with ((with_reducible refine wP ?_);first | (refine gS 296 Tryz.func6 (ZO.calls kj171 _ _ t872 t892 t895 _ (cM (vr HO_q8)) (vq HO_q8) A216.out) ?_;rintro e w229 ⟨v893,rfl,ho0,hb⟩;refine ⟨_,rfl,?_⟩;replace HO_q3 := vL HO_q3 (rb ho0) hb;replace HO_q7 := vL HO_q7 (rb ho0) hb;replace HO_q8 := vL HO_q8 (rb ho0) hb;replace HO_q4 := sL HO_q4 (rb ho0) hb;replace HO_q6 := sL HO_q6 (rb ho0) hb;have HO894 := rl (rn ho0 HO890) HB;replace HO890 := rL HO890 (rb ho0) hb;replace BK803 := kB BK803 hb;replace BK875 := kB BK875 hb;replace BK876 := kB BK876 hb;replace BK881 := kB BK881 hb;replace BK886 := kB BK886 hb;replace HB := hB HB hb;clear hb ho0;have hnb230 := NB881_803.out;have hnc230 := NB803_881.out;have hnb231 := NB881_886.out;have hnc231 := NB886_881.out;have hcz232_0 := z0 BK881;have hfz232_0 := fZ BK881 0))
         as_aux_lemma =>
          go_upto_region 43 with ((with_reducible refine wP ?_);first | (refine gS 301 Tryz.func6 (ZO.calls kj171 _ _ t877 t896 t899 _ (cM (sr HO_q4)) (sq HO_q4) A217.out) ?_;rintro e w233 ⟨v897,rfl,ho0,hb⟩;refine ⟨_,rfl,?_⟩;replace HO_q3 := vL HO_q3 (rb ho0) hb;replace HO_q7 := vL HO_q7 (rb ho0) hb;replace HO_q8 := vL HO_q8 (rb ho0) hb;replace HO_q4 := sL HO_q4 (rb ho0) hb;replace HO_q6 := sL HO_q6 (rb ho0) hb;have HO898 := rl (rn (rn ho0 HO890) HO894) HB;replace HO890 := rL HO890 (rb ho0) hb;replace HO894 := rL HO894 (rb ho0) hb;replace BK803 := kB BK803 hb;replace BK875 := kB BK875 hb;replace BK876 := kB BK876 hb;replace BK881 := kB BK881 hb;replace BK886 := kB BK886 hb;replace HB := hB HB hb;clear hb ho0))
          (try simp only [Act.put,List.setIfInBounds_toArray,List.set_cons_zero,List.set_cons_succ])
          go_cut [323] (Za.R6 l0 r w t800 gb803 Ao16 co16 t869 t872 t877 t882 gb875 gb876 Ao176 co176 Ao180 co180 gb881 Ao185 co185 gb886 Ao194 co194 kj171 t888 t892 t896 v889 v893 v897)
          case first =>
           as_aux_lemma =>
            have H := HC218.out;clear HC218
            by_cases c234 : t891 = 0
            ·as_aux_lemma =>
              rw [if_pos c234] at H;have c234b0 := beq_iff_eq.mpr c234;have c234b1 := bne_eq_false_iff_eq.mpr c234;clear c234;(first | rw [c234b0] | (simp only [i64_w,i32_w];rw [c234b0]) | skip)
              by_cases c235 : t895 = 0
              ·as_aux_lemma =>
                rw [if_pos c235] at H;have c235b0 := beq_iff_eq.mpr c235;have c235b1 := bne_eq_false_iff_eq.mpr c235;clear c235
                by_cases c236 : t899 = 0
                ·rw [if_pos c236] at H;have c236b0 := beq_iff_eq.mpr c236;have c236b1 := bne_eq_false_iff_eq.mpr c236;clear c236;have H' := aK H;clear H;obtain ⟨Ao237,co237,eo237⟩ := Kd.R_slice HO898.out;subst eo237;obtain ⟨Ao238,co238,eo238⟩ := Kd.R_slice HO890.out;subst eo238;obtain ⟨Ao239,co239,eo239⟩ := Kd.R_slice HO894.out;subst eo239;go_wp2;go_meet
                 case rel => exact ⟨_,(((t896.length : Int) != (wrap64 ((t888.length : Int) * (t892.length : Int))))),rD,H',o3 HJ12 HJ98 HJ171,rW HO890,rW HO894,rW HO898,vW HO_q3,vW HO_q7,vW HO_q8,sW HO_q4,sW HO_q6,⟨kN BK803⟩,⟨kN BK875⟩,⟨kN BK876⟩,⟨kN BK881⟩,⟨kN BK886⟩,⟨bN HB⟩⟩
                ·rw [if_neg c236] at H;have c236b0 := beq_eq_false_iff_ne.mpr c236;have c236b1 := bne_iff_ne.mpr c236;have H' := aK H;clear H;go_wp2;go_meet
                 case rel => exact ⟨_,(true),rD,H',o3 HJ12 HJ98 HJ171,rW HO890,rW HO894,rW HO898,vW HO_q3,vW HO_q7,vW HO_q8,sW HO_q4,sW HO_q6,⟨kN BK803⟩,⟨kN BK875⟩,⟨kN BK876⟩,⟨kN BK881⟩,⟨kN BK886⟩,⟨bN HB⟩⟩
              ·rw [if_neg c235] at H;have c235b0 := beq_eq_false_iff_ne.mpr c235;have c235b1 := bne_iff_ne.mpr c235;have H' := aK H;clear H;go_wp2;go_meet
               case rel => exact ⟨_,(true),rD,H',o3 HJ12 HJ98 HJ171,rW HO890,rW HO894,rW HO898,vW HO_q3,vW HO_q7,vW HO_q8,sW HO_q4,sW HO_q6,⟨kN BK803⟩,⟨kN BK875⟩,⟨kN BK876⟩,⟨kN BK881⟩,⟨kN BK886⟩,⟨bN HB⟩⟩
            ·rw [if_neg c234] at H;have c234b0 := beq_eq_false_iff_ne.mpr c234;have c234b1 := bne_iff_ne.mpr c234;(first | rw [c234b0] | (simp only [i64_w,i32_w];rw [c234b0]) | skip);have H' := aK H;clear H;go_wp2;go_meet
             case rel => exact ⟨_,(true),rD,H',o3 HJ12 HJ98 HJ171,rW HO890,rW HO894,rW HO898,vW HO_q3,vW HO_q7,vW HO_q8,sW HO_q4,sW HO_q6,⟨kN BK803⟩,⟨kN BK875⟩,⟨kN BK876⟩,⟨kN BK881⟩,⟨kN BK886⟩,⟨bN HB⟩⟩
          case rest =>
           clear HC218;clear c214b0 c214b1 hcz223_0 hcz228_0 hcz232_0 hfz223_0 hfz228_0 hfz232_0;go_step;rename_i z6_516 _ _ z6_519 z6_520 _ z6_630;exact HS6 hu26 hcz17_0 hfz17_0 hcz19_0 hfz19_0 hcz21_0 hfz21_0 hcz23_0 hfz23_0 hcz25_0 hfz25_0 hcz27_0 hfz27_0 hcz29_0 hfz29_0 hcz31_0 hfz31_0 HJ12 HJ98 hnb177 hnc177 hnb178 hnc178 hnb181 hnc181 hnb186 hnc186 hnb187 hnc187 hnb188 hnc188 hnb195 hnc195 hnb196 hnc196 hnb197 hnc197 hnb198 hnc198 HJ171 z6_516 z6_519 z6_520 z6_630 hcut
      ·rw [if_neg c214] at H;have c214b0 := beq_eq_false_iff_ne.mpr c214;have c214b1 := bne_iff_ne.mpr c214;(first | rw [c214b0] | (simp only [i64_w,i32_w];rw [c214b0]) | skip);have H' := aK H;clear H;go_wp2;go_meet
       case rel => exact ⟨_,H',o3 HJ12 HJ98 HJ171,⟨vN HO_q3⟩,⟨vN HO_q7⟩,⟨vN HO_q8⟩,⟨sN HO_q4⟩,⟨sN HO_q6⟩,⟨kN BK803⟩,⟨kN BK875⟩,⟨kN BK876⟩,⟨kN BK881⟩,⟨kN BK886⟩,⟨bN HB⟩⟩
    case rest =>
     clear HC213;go_step;exact HS7 HG hu26 HR0 HC0 hcz17_0 hfz17_0 hcz19_0 hfz19_0 hcz21_0 hfz21_0 hcz23_0 hfz23_0 hcz25_0 hfz25_0 hcz27_0 hfz27_0 hcz29_0 hfz29_0 hcz31_0 hfz31_0 hnb177 hnc177 hnb178 hnc178 hnb181 hnc181 hnb186 hnc186 hnb187 hnc187 hnb188 hnc188 hnb195 hnc195 hnb196 hnc196 hnb197 hnc197 hnb198 hnc198 hcut
end Go.Proofs.YtnlbbpgmmeapfaaGreatDoor.PX
