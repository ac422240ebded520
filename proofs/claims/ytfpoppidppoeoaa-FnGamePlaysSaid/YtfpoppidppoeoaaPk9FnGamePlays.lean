/- Part 9 of the texts under the row of FnGamePlays (no condition). -/
import Derived.Test.YtfpoppidppoeoaaPk7FnGamePlays
namespace Go.Proofs.Ytfpoppidppoeoaa.PX
open Go.RowKit Go.Proofs.YtfpoppidppoeoaaW.PrintWords Go.Proofs.YtfpoppidppoeoaaW.PrintLast Go.Proofs.YtfpoppidppoeoaaW.PrintMore
attribute [local go_sem] max2_int min2_int max_two min_two max_three min_three max_four min_four
set_option linter.unusedVariables false
set_option linter.unusedSimpArgs false
set_option maxHeartbeats 8000000
set_option maxRecDepth 100000
theorem Za.sec1 (HS2 : Za.S2) (HS4 : Za.S4) : Za.S1 := by
 unfold Za.S1;intros;rename_i _ _ _ l0 r w hu26 HR0 HC0 t900 t903 t905 t908 t913 t921 gb904 Ao14 co14 v906 _ v914 _ v922 _ _ z1_185 _ _ hcut
 conv => arg 2;whnf
 conv at z1_185 => enter [a,w];arg 1;arg 2;whnf
 obtain ⟨kq,x135_10,rfl,HA,HJ10,HO_5,HO_9,HO_13,HO_q4,BK904,HB⟩ := hcut
 cases kq with
 | zero => exact absurd HA.out (by simp [Za.j0])
 | succ kj10 =>
  have H := HA.out;clear HA;simp only [Za.j0] at H
  by_cases c53 : x135_10 = true
  ·as_aux_lemma =>
    subst c53;rw [if_pos rfl] at H;obtain rfl := Option.some.inj H;go_wp2;go_ret;exact eR (bN HB)
  ·as_aux_lemma =>
    replace c53 := Bool.eq_false_iff.mpr c53;subst c53;rw [if_neg (show ¬ (false = true) by decide)] at H;have HC54 := aK H;clear H
    go_upto_if 137 with (fail)
    go_cut [] (Za.R4 l0 r w t900 gb904 Ao14 co14 kj10)
    case first =>
     as_aux_lemma =>
      have H := HC54.out;clear HC54
      by_cases c55 : t908 = 0
      ·as_aux_lemma =>
        rw [if_pos c55] at H;have c55b0 := beq_iff_eq.mpr c55;have c55b1 := bne_eq_false_iff_eq.mpr c55;clear c55;(first | rw [c55b0] | (simp only [i64_w,i32_w];rw [c55b0]) | skip);replace H := bE H;obtain ⟨⟨t932,t935⟩,A56,H⟩ := H;dsimp only at H;replace H := bE H;obtain ⟨⟨t936,t939⟩,A57,H⟩ := H;dsimp only at H;replace H := bE H;obtain ⟨⟨t940,t943⟩,A58,H⟩ := H;dsimp only at H;replace H := bE H;obtain ⟨⟨t944,t947⟩,A59,H⟩ := H;dsimp only at H;have HC60 := aK H;clear H;have hcz61_0 := z0 BK904;have hfz61_0 := fZ BK904 0
        go_upto_region 14 with ((with_reducible refine wP ?_);first | (refine gS 140 Try.func13 (ZS.calls kj10 _ _ t900 t932 t935 _ (cM (vr HO_q4)) (vq HO_q4) A56.out) ?_;rintro e w62 ⟨v933,rfl,ho0,hb⟩;refine ⟨_,rfl,?_⟩;replace HO_5 := rB HO_5 hb;replace HO_9 := rB HO_9 hb;replace HO_13 := rB HO_13 hb;replace HO_q4 := vL HO_q4 (rb ho0) hb;have HO934 := rl ho0 HB;replace BK904 := kB BK904 hb;replace HB := hB HB hb;(try clear hb);(try clear hb2);(try clear hk);(try clear hi);(try clear ho0);have hcz63_0 := z0 BK904;have hfz63_0 := fZ BK904 0))
        as_aux_lemma =>
         go_upto_region 15 with ((with_reducible refine wP ?_);first | (refine gS 145 Try.func14 (Zav.calls kj10 _ _ t900 t936 t939 _ (cM (vr HO_q4)) (vq HO_q4) A57.out) ?_;rintro e w64 ⟨v937,rfl,ho0,hb⟩;refine ⟨_,rfl,?_⟩;replace HO_q4 := vL HO_q4 (rb ho0) hb;replace HO934 := rB HO934 hb;have HO938 := rl (rn (rn (rn ho0 HO_5) HO_9) HO_13) HB;replace HO_5 := rL HO_5 (rb ho0) hb;replace HO_9 := rL HO_9 (rb ho0) hb;replace HO_13 := rL HO_13 (rb ho0) hb;replace BK904 := kB BK904 hb;replace HB := hB HB hb;(try clear hb);(try clear hb2);(try clear hk);(try clear hi);(try clear ho0);have hcz65_0 := z0 BK904;have hfz65_0 := fZ BK904 0))
         as_aux_lemma =>
          go_upto_region 16 with ((with_reducible refine wP ?_);first | (refine gS 150 Try.func15 (ZT.calls kj10 _ _ t900 t940 t943 _ (cM (vr HO_q4)) (vq HO_q4) A58.out) ?_;rintro e w66 ⟨v941,rfl,ho0,hb⟩;refine ⟨_,rfl,?_⟩;replace HO_q4 := vL HO_q4 (rb ho0) hb;replace HO934 := rB HO934 hb;have HO942 := rl (rn (rn (rn (rn ho0 HO_5) HO_9) HO_13) HO938) HB;replace HO_5 := rL HO_5 (rb ho0) hb;replace HO_9 := rL HO_9 (rb ho0) hb;replace HO_13 := rL HO_13 (rb ho0) hb;replace HO938 := rL HO938 (rb ho0) hb;replace BK904 := kB BK904 hb;replace HB := hB HB hb;(try clear hb);(try clear hb2);(try clear hk);(try clear hi);(try clear ho0);have hcz67_0 := z0 BK904;have hfz67_0 := fZ BK904 0))
          as_aux_lemma =>
           go_upto_region 17 with ((with_reducible refine wP ?_);first | (refine gS 155 Try.func16 (ZY.calls kj10 _ _ t900 t944 t947 _ (cM (vr HO_q4)) (vq HO_q4) A59.out) ?_;rintro e w68 ⟨v945,rfl,ho0,hb⟩;refine ⟨_,rfl,?_⟩;replace HO_q4 := vL HO_q4 (rb ho0) hb;replace HO934 := rB HO934 hb;have HO946 := rl (rn (rn (rn (rn (rn ho0 HO_5) HO_9) HO_13) HO938) HO942) HB;replace HO_5 := rL HO_5 (rb ho0) hb;replace HO_9 := rL HO_9 (rb ho0) hb;replace HO_13 := rL HO_13 (rb ho0) hb;replace HO938 := rL HO938 (rb ho0) hb;replace HO942 := rL HO942 (rb ho0) hb;replace BK904 := kB BK904 hb;replace HB := hB HB hb;(try clear hb);(try clear hb2);(try clear hk);(try clear hi);(try clear ho0)))
           (try simp only [Act.put,List.setIfInBounds_toArray,List.set_cons_zero,List.set_cons_succ])
           go_cut [199] (Za.R2 l0 r w t900 t903 t905 t913 t921 gb904 Ao14 co14 v906 v914 v922 kj10 t932 t936 v933 v937)
           case first =>
            as_aux_lemma =>
             have H := HC60.out;clear HC60
             by_cases c69 : t935 = 0
             ·as_aux_lemma =>
               rw [if_pos c69] at H;have c69b0 := beq_iff_eq.mpr c69;have c69b1 := bne_eq_false_iff_eq.mpr c69;clear c69;(first | rw [c69b0] | (simp only [i64_w,i32_w];rw [c69b0]) | skip)
               by_cases c70 : t939 = 0
               ·as_aux_lemma =>
                 rw [if_pos c70] at H;have c70b0 := beq_iff_eq.mpr c70;have c70b1 := bne_eq_false_iff_eq.mpr c70;clear c70
                 by_cases c71 : t943 = 0
                 ·as_aux_lemma =>
                   rw [if_pos c71] at H;have c71b0 := beq_iff_eq.mpr c71;have c71b1 := bne_eq_false_iff_eq.mpr c71;clear c71
                   by_cases c72 : t947 = 0
                   ·as_aux_lemma =>
                     rw [if_pos c72] at H;have c72b0 := beq_iff_eq.mpr c72;have c72b1 := bne_eq_false_iff_eq.mpr c72;clear c72
                     replace H := iP H;obtain ⟨c73b0,H⟩ := H
                     replace H := iP H;obtain ⟨c74b0,H⟩ := H
                     by_cases c75 : (t905.length : Int) < (rd t940 t903)
                     ·as_aux_lemma =>
                       rw [if_pos c75] at H;have c75b0 := decide_eq_true c75;clear c75;have H' := aK H;clear H;obtain ⟨Ao76,co76,eo76⟩ := Kd.R_slice HO_5.out;subst eo76;obtain ⟨Ao77,co77,eo77⟩ := Kd.R_slice HO942.out;subst eo77;obtain ⟨ad948,rfl,hx948_0,p948,q948⟩ := aJ (rr HO942) t903;go_wp2;go_meet
                       case rel => exact ⟨_,(true),rD,H',o1 HJ10,rW HO_5,rW HO_9,rW HO_13,⟨rN HO934⟩,rW HO938,vW HO_q4,⟨kN BK904⟩,⟨bN HB⟩⟩
                     ·as_aux_lemma =>
                       rw [if_neg c75] at H;have c75b0 := decide_eq_false c75;clear c75
                       replace H := iP H;obtain ⟨c78b0,H⟩ := H
                       by_cases c79 : (t905.length : Int) > (rd t944 t903)
                       ·as_aux_lemma =>
                         rw [if_pos c79] at H;have c79b0 := decide_eq_true c79;clear c79;have H' := aK H;clear H;obtain ⟨Ao80,co80,eo80⟩ := Kd.R_slice HO_5.out;subst eo80;obtain ⟨Ao81,co81,eo81⟩ := Kd.R_slice HO942.out;subst eo81;obtain ⟨ad948,rfl,hx948_0,p948,q948⟩ := aJ (rr HO942) t903;obtain ⟨Ao82,co82,eo82⟩ := Kd.R_slice HO946.out;subst eo82;obtain ⟨ad949,rfl,hx949_0,p949,q949⟩ := aJ (rr HO946) t903;go_wp2;go_meet
                         case rel => exact ⟨_,(true),rD,H',o1 HJ10,rW HO_5,rW HO_9,rW HO_13,⟨rN HO934⟩,rW HO938,vW HO_q4,⟨kN BK904⟩,⟨bN HB⟩⟩
                       ·as_aux_lemma =>
                         rw [if_neg c79] at H;have c79b0 := decide_eq_false c79;clear c79
                         replace H := iP H;obtain ⟨c83b0,H⟩ := H;have H' := aK H;clear H;obtain ⟨Ao84,co84,eo84⟩ := Kd.R_slice HO_5.out;subst eo84;obtain ⟨Ao85,co85,eo85⟩ := Kd.R_slice HO942.out;subst eo85;obtain ⟨ad948,rfl,hx948_0,p948,q948⟩ := aJ (rr HO942) t903;obtain ⟨Ao86,co86,eo86⟩ := Kd.R_slice HO946.out;subst eo86;obtain ⟨ad949,rfl,hx949_0,p949,q949⟩ := aJ (rr HO946) t903;obtain ⟨Ao87,co87,eo87⟩ := Kd.R_slice HO934.out;subst eo87;obtain ⟨ad950,rfl,hx950_0,p950,q950⟩ := aC (rr HO934) t903;obtain ⟨Ao88,co88,eo88⟩ := Kd.R_slice HO_9.out;subst eo88;go_wp2;go_meet
                         case rel => exact ⟨_,(((rdOf false t932 t903) != (decide ((t913.length : Int) > 0)))),(by first | rfl | (simp;done) | (simp [*];done) | (simp;exact (by decide : ∀ a b : Bool,(a == b) = !(a != b)) _ _) | (simp;exact (by decide : ∀ a b : Bool,(a == b) = ((!a) != b)) _ _)),H',o1 HJ10,rW HO_5,rW HO_9,rW HO_13,⟨rN HO934⟩,rW HO938,vW HO_q4,⟨kN BK904⟩,⟨bN HB⟩⟩
                   ·as_aux_lemma =>
                     rw [if_neg c72] at H;have c72b0 := beq_eq_false_iff_ne.mpr c72;have c72b1 := bne_iff_ne.mpr c72;have H' := aK H;clear H;go_wp2;go_meet
                     case rel => exact ⟨_,(true),rD,H',o1 HJ10,rW HO_5,rW HO_9,rW HO_13,⟨rN HO934⟩,rW HO938,vW HO_q4,⟨kN BK904⟩,⟨bN HB⟩⟩
                 ·as_aux_lemma =>
                   rw [if_neg c71] at H;have c71b0 := beq_eq_false_iff_ne.mpr c71;have c71b1 := bne_iff_ne.mpr c71;have H' := aK H;clear H;go_wp2;go_meet
                   case rel => exact ⟨_,(true),rD,H',o1 HJ10,rW HO_5,rW HO_9,rW HO_13,⟨rN HO934⟩,rW HO938,vW HO_q4,⟨kN BK904⟩,⟨bN HB⟩⟩
               ·as_aux_lemma =>
                 rw [if_neg c70] at H;have c70b0 := beq_eq_false_iff_ne.mpr c70;have c70b1 := bne_iff_ne.mpr c70;have H' := aK H;clear H;go_wp2;go_meet
                 case rel => exact ⟨_,(true),rD,H',o1 HJ10,rW HO_5,rW HO_9,rW HO_13,⟨rN HO934⟩,rW HO938,vW HO_q4,⟨kN BK904⟩,⟨bN HB⟩⟩
             ·as_aux_lemma =>
               rw [if_neg c69] at H;have c69b0 := beq_eq_false_iff_ne.mpr c69;have c69b1 := bne_iff_ne.mpr c69;(first | rw [c69b0] | (simp only [i64_w,i32_w];rw [c69b0]) | skip);have H' := aK H;clear H;go_wp2;go_meet
               case rel => exact ⟨_,(true),rD,H',o1 HJ10,rW HO_5,rW HO_9,rW HO_13,⟨rN HO934⟩,rW HO938,vW HO_q4,⟨kN BK904⟩,⟨bN HB⟩⟩
           case rest =>
            clear HC60
            try clear c1
            try clear c2
            try clear p2
            try clear c3
            try clear c4
            try clear c5
            try clear c6
            try clear c7
            try clear c8
            try clear c9
            try clear p9
            try clear q9
            try clear hx9
            try clear c10
            try clear c11
            try clear c13
            try clear c14
            try clear c15
            try clear c16
            try clear c27
            try clear c27b0
            try clear c27b1
            try clear c29
            try clear c30
            try clear c30b0
            try clear c30b1
            try clear c32
            try clear c33
            try clear c33b0
            try clear c33b1
            try clear c53
            try clear c55
            try clear c55b0
            try clear c55b1
            try clear c69
            try clear c69b0
            try clear c69b1
            try clear c70
            try clear c70b0
            try clear c70b1
            try clear c71
            try clear c71b0
            try clear c71b1
            try clear c72
            try clear c72b0
            try clear c72b1
            try clear c73
            try clear c73b0
            try clear c74
            try clear c74b0
            try clear c75
            try clear c75b0
            try clear c78
            try clear c78b0
            try clear c79
            try clear c79b0
            try clear c83
            try clear c83b0
            try clear hcz15_0
            try clear hcz17_0
            try clear hcz19_0
            try clear hcz21_0
            try clear hcz23_0
            try clear hcz25_0
            try clear hcz61_0
            try clear hcz63_0
            try clear hcz65_0
            try clear hcz67_0
            try clear hfz15_0
            try clear hfz17_0
            try clear hfz19_0
            try clear hfz21_0
            try clear hfz23_0
            try clear hfz25_0
            try clear hfz61_0
            try clear hfz63_0
            try clear hfz65_0
            try clear hfz67_0
            try clear hx948_0
            try clear hx949_0
            try clear hx950_0
            try clear p2
            try clear p948
            try clear p949
            try clear p950
            try clear q948
            try clear q949
            try clear q950
            go_step;rename_i z2_450 _ _ z2_453 z2_454 _ z2_556;exact HS2 hu26 HJ10 z2_450 z2_453 z2_454 z2_556 hcut
      ·as_aux_lemma =>
        rw [if_neg c55] at H;have c55b0 := beq_eq_false_iff_ne.mpr c55;have c55b1 := bne_iff_ne.mpr c55;(first | rw [c55b0] | (simp only [i64_w,i32_w];rw [c55b0]) | skip);have H' := aK H;clear H;go_wp2;go_meet
        case rel => exact ⟨_,H',o1 HJ10,vW HO_q4,⟨kN BK904⟩,⟨bN HB⟩⟩
    case rest =>
     clear HC54
     try clear c1
     try clear q1
     try clear p2
     try clear c5
     try clear p6
     try clear c9
     try clear p9
     try clear q9
     try clear hx9
     try clear c10
     try clear c11
     try clear c12
     try clear q12
     try clear c17
     try clear c55
     try clear c55b0
     try clear c55b1
     try clear p64
     try clear c91
     try clear c91b0
     try clear c92
     try clear c93
     try clear c94
     try clear c95
     try clear p95
     try clear q95
     try clear hx95
     try clear p96
     try clear q96
     try clear hx96
     try clear c97
     try clear c99
     try clear c107
     try clear c108
     try clear c108b0
     try clear c109
     try clear c109b0
     try clear c113
     try clear c115
     try clear c115b0
     try clear c116
     try clear c116b0
     try clear c117
     try clear c117b0
     try clear c118
     try clear c118b0
     try clear c119
     try clear c119b0
     try clear q120
     try clear c121
     try clear hx951_0
     try clear hx952_0
     try clear hx954_0
     try clear hx956_0
     try clear hx958_0
     try clear hx959_0
     try clear hx960_0
     try clear p2
     try clear p6
     try clear p64
     try clear p9
     try clear p95
     try clear p951
     try clear p952
     try clear p954
     try clear p956
     try clear p958
     try clear p959
     try clear p960
     try clear q9
     try clear q95
     try clear q951
     try clear q952
     try clear q954
     try clear q956
     try clear q958
     try clear q959
     try clear q960
     go_step;exact HS4 hu26 HR0 HC0 HJ10 hcut
end Go.Proofs.Ytfpoppidppoeoaa.PX
