/- Part 8 of the texts under the row of FnGamePlays (no condition). -/
import Derived.Test.YtfpoppidppoeoaaPk7FnGamePlays
namespace Go.Proofs.Ytfpoppidppoeoaa.PX
open Go.RowKit Go.Proofs.YtfpoppidppoeoaaW.PrintWords Go.Proofs.YtfpoppidppoeoaaW.PrintLast Go.Proofs.YtfpoppidppoeoaaW.PrintMore
attribute [local go_sem] max2_int min2_int max_two min_two max_three min_three max_four min_four
set_option linter.unusedVariables false
set_option linter.unusedSimpArgs false
set_option maxHeartbeats 8000000
set_option maxRecDepth 100000
theorem Za.sec0 (HS1 : Za.S1) (k : Nat) (A0 : Option Addr) (c0 : Nat) (l0 : List Int) (r : Bool) (w : World) (hr0 : Kd.C (Kd.int .u8) w A0 l0.length l0) (hc0 : l0.length ≤ c0) (h : Za.f k l0 = some r) :
 Calls Try.prog 3 #[.slice A0 l0.length c0] w fun e w' => e = .returned (.bool r) ∧ Below w.heap.size w w' := by
 have hu26 := Try.underlying26;have HR0 := aK hr0;have HC0 := aK hc0;clear hr0 hc0;have HB := aK (Below.refl w.heap.size w);have H := h;clear h;unfold Za.f at H;replace H := bE H;obtain ⟨t899,A2,H⟩ := H
 by_cases c3 : t899 = true
 ·as_aux_lemma =>
   subst c3;rw [if_pos rfl] at H;obtain rfl := Option.some.inj H;go_enter Try.func3,Try.ntmps3
   as_aux_lemma =>
    go_wp2_with ((with_reducible refine wP ?_);first | (refine gT 63 Try.func4 (Zay.calls _ _ l0 true _ (cM (HR0.out)) HC0.out A2.out) ?_;rintro w' ⟨nd,rfl⟩))
    go_ret;exact eR (bN HB)
 ·as_aux_lemma =>
   replace c3 := Bool.eq_false_iff.mpr c3;subst c3;rw [if_neg (show ¬ (false = true) by decide)] at H;replace H := bE H;obtain ⟨⟨t900,t903⟩,A4,H⟩ := H;dsimp only at H;replace H := bE H;obtain ⟨⟨t905,t908⟩,A5,H⟩ := H;dsimp only at H;replace H := bE H;obtain ⟨⟨t909,t912⟩,A6,H⟩ := H;dsimp only at H;replace H := bE H;obtain ⟨⟨t913,t916⟩,A7,H⟩ := H;dsimp only at H;replace H := bE H;obtain ⟨⟨t917,t920⟩,A8,H⟩ := H;dsimp only at H;replace H := bE H;obtain ⟨⟨t921,t924⟩,A9,H⟩ := H;dsimp only at H;replace H := bE H;obtain ⟨⟨t925,t928⟩,A10,H⟩ := H;dsimp only at H;have HC11 := aK H;clear H;go_enter Try.func3,Try.ntmps3
   go_upto_region 3 with (first | ((with_reducible refine wP ?_);refine gT 63 Try.func4 (Zay.calls _ _ l0 false _ (cM (HR0.out)) HC0.out A2.out) ?_;rintro w' ⟨nd,rfl⟩))
   as_aux_lemma =>
    go_upto_region 4 with (first | ((with_reducible refine wP ?_);refine gS 66 Try.func5 (Zal.calls k _ _ l0 t900 t903 _ (cM (HR0.out)) HC0.out A4.out) ?_;rintro e w12 ⟨v901,rfl,ho0,hb⟩;refine ⟨_,rfl,?_⟩;have HO902 := vl (Kd.V_mono (ok' := fun k_ => True) ho0 (fun k_ hk_ => trivial)) HB;replace HB := hB HB hb;(try clear hb);(try clear hb2);(try clear hk);(try clear hi);(try clear ho0)) | ((with_reducible refine gate_dst (N := 3) rfl ?_);(try (refine gate_guard (by rfl) ?_;dsimp only));refine boxE 3 #[.slice none 0 0] 26 ?_;intro gb904 hg w13 hbox hb;replace HO902 := vE HO902 hg hb;have BK904 := aK (hbox);have GW904 := aK (zG HB hg);have GE904 := aK (zG HB hg);replace HB := hB HB hb;clear hb hbox hg;obtain ⟨Ao14,co14,eo14⟩ := Kd.V_slice HO902.out;subst eo14;have hcz15_0 := z0 BK904;have hfz15_0 := fZ BK904 0))
    as_aux_lemma =>
     go_upto_region 5 with (first | ((with_reducible refine wP ?_);refine gS 72 Try.func6 (ZP.calls k _ _ t900 t903 t905 t908 _ ?side1 (vq HO902) A5.out) ?_;(case side1 => refine (Kd.V_reads' (e := 29) (base := w.heap.size) (ok := fun k_ => (True ∧ k_ ≠ gb904)) (n := t900.length) (c := co14) ?_).2.2;exact (vM ((Kd.V_mono (Kd.V_far (p := ⟨gb904,0,none⟩) (Kd.V_mono HO902.out (fun k_ hk => (⟨hk,hk.2⟩ : _ ∧ k_ ≠ gb904))) (fun _ hk => hk.2) (.slice Ao14 t900.length co14)) (fun _ h_ => h_.1)))));rintro e w16 ⟨v906,rfl,ho0,hb⟩;refine ⟨_,rfl,?_⟩;replace HO902 := aK (Kd.V_elder' (vM ((Kd.V_mono (Kd.V_far (p := ⟨gb904,0,none⟩) (Kd.V_mono HO902.out (fun k_ hk => (⟨hk,hk.2⟩ : _ ∧ k_ ≠ gb904))) (fun _ hk => hk.2) (.slice Ao14 t900.length co14)) (fun _ h_ => h_.1)))) (Kd.R_base ho0) hb);have HO907 := rl ho0 HB;replace BK904 := kX #[.slice Ao14 t900.length co14] BK904 hb;replace HB := hB HB hb;(try clear hb);(try clear hb2);(try clear hk);(try clear hi);(try clear ho0);have hcz17_0 := z0 BK904;have hfz17_0 := fZ BK904 0))
     as_aux_lemma =>
      go_upto_region 6 with (first | ((with_reducible refine wP ?_);refine gS 78 Try.func7 (ZM.calls k _ _ t900 t903 t909 t912 _ (cM (vr HO902)) (vq HO902) A6.out) ?_;rintro e w18 ⟨v910,rfl,ho0,hb⟩;refine ⟨_,rfl,?_⟩;replace HO902 := vL HO902 (rb ho0) hb;have HO911 := rl (rn ho0 HO907) HB;replace HO907 := rL HO907 (rb ho0) hb;replace BK904 := kB BK904 hb;replace HB := hB HB hb;(try clear hb);(try clear hb2);(try clear hk);(try clear hi);(try clear ho0);have hcz19_0 := z0 BK904;have hfz19_0 := fZ BK904 0))
      as_aux_lemma =>
       go_upto_region 7 with (first | ((with_reducible refine wP ?_);refine gS 84 Try.func8 (Zak.calls k _ _ t900 t903 t913 t916 _ (cM (vr HO902)) (vq HO902) A7.out) ?_;rintro e w20 ⟨v914,rfl,ho0,hb⟩;refine ⟨_,rfl,?_⟩;replace HO902 := vL HO902 (rb ho0) hb;have HO915 := rl (rn (rn ho0 HO907) HO911) HB;replace HO907 := rL HO907 (rb ho0) hb;replace HO911 := rL HO911 (rb ho0) hb;replace BK904 := kB BK904 hb;replace HB := hB HB hb;(try clear hb);(try clear hb2);(try clear hk);(try clear hi);(try clear ho0);have hcz21_0 := z0 BK904;have hfz21_0 := fZ BK904 0))
       as_aux_lemma =>
        go_upto_region 8 with (first | ((with_reducible refine wP ?_);refine gS 90 Try.func9 (Zap.calls k _ _ t900 t903 t917 t920 _ (cM (vr HO902)) (vq HO902) A8.out) ?_;rintro e w22 ⟨v918,rfl,ho0,hb⟩;refine ⟨_,rfl,?_⟩;replace HO902 := vL HO902 (rb ho0) hb;have HO919 := rl (rn (rn (rn ho0 HO907) HO911) HO915) HB;replace HO907 := rL HO907 (rb ho0) hb;replace HO911 := rL HO911 (rb ho0) hb;replace HO915 := rL HO915 (rb ho0) hb;replace BK904 := kB BK904 hb;replace HB := hB HB hb;(try clear hb);(try clear hb2);(try clear hk);(try clear hi);(try clear ho0);have hcz23_0 := z0 BK904;have hfz23_0 := fZ BK904 0))
        as_aux_lemma =>
         go_upto_region 9 with (first | ((with_reducible refine wP ?_);refine gS 96 Try.func10 (Zao.calls k _ _ t900 t903 t921 t924 _ (cM (vr HO902)) (vq HO902) A9.out) ?_;rintro e w24 ⟨v922,rfl,ho0,hb⟩;refine ⟨_,rfl,?_⟩;replace HO902 := vL HO902 (rb ho0) hb;have HO923 := rl (rn (rn (rn (rn ho0 HO907) HO911) HO915) HO919) HB;replace HO907 := rL HO907 (rb ho0) hb;replace HO911 := rL HO911 (rb ho0) hb;replace HO915 := rL HO915 (rb ho0) hb;replace HO919 := rL HO919 (rb ho0) hb;replace BK904 := kB BK904 hb;replace HB := hB HB hb;(try clear hb);(try clear hb2);(try clear hk);(try clear hi);(try clear ho0);have hcz25_0 := z0 BK904;have hfz25_0 := fZ BK904 0))
         as_aux_lemma =>
          go_upto_region 10 with (first | ((with_reducible refine wP ?_);refine gS 102 Try.func11 (Zk.calls k _ _ t900 t903 t925 t928 _ (cM (vr HO902)) (vq HO902) A10.out) ?_;rintro e w26 ⟨v926,rfl,ho0,hb⟩;refine ⟨_,rfl,?_⟩;replace HO902 := vL HO902 (rb ho0) hb;have HO927 := rl (rn (rn (rn (rn (rn ho0 HO907) HO911) HO915) HO919) HO923) HB;replace HO907 := rL HO907 (rb ho0) hb;replace HO911 := rL HO911 (rb ho0) hb;replace HO915 := rL HO915 (rb ho0) hb;replace HO919 := rL HO919 (rb ho0) hb;replace HO923 := rL HO923 (rb ho0) hb;replace BK904 := kB BK904 hb;replace HB := hB HB hb;(try clear hb);(try clear hb2);(try clear hk);(try clear hi);(try clear ho0)))
          (try simp only [Act.put,List.setIfInBounds_toArray,List.set_cons_zero,List.set_cons_succ])
          go_cut [135] (Za.R1 k l0 r w t900 t903 t905 t908 t913 t921 gb904 Ao14 co14 v906 v914 v922)
          case first =>
           as_aux_lemma =>
            have H := HC11.out;clear HC11
            by_cases c27 : t908 = t912
            ·as_aux_lemma =>
              rw [if_pos c27] at H;have c27b0 := beq_iff_eq.mpr c27;have c27b1 := bne_eq_false_iff_eq.mpr c27;clear c27;(first | rw [c27b0] | (simp only [i64_w,i32_w];rw [c27b0]) | skip);replace H := bE H;obtain ⟨t929,A28,H⟩ := H
              by_cases c29 : t929 = true
              ·as_aux_lemma =>
                subst c29;rw [if_pos rfl] at H
                by_cases c30 : t916 = t920
                ·as_aux_lemma =>
                  rw [if_pos c30] at H;have c30b0 := beq_iff_eq.mpr c30;have c30b1 := bne_eq_false_iff_eq.mpr c30;clear c30;replace H := bE H;obtain ⟨t930,A31,H⟩ := H
                  by_cases c32 : t930 = true
                  ·as_aux_lemma =>
                    subst c32;rw [if_pos rfl] at H
                    by_cases c33 : t924 = t928
                    ·as_aux_lemma =>
                      rw [if_pos c33] at H;have c33b0 := beq_iff_eq.mpr c33;have c33b1 := bne_eq_false_iff_eq.mpr c33;clear c33;replace H := bE H;obtain ⟨t931,A34,H⟩ := H;have H' := aK H;clear H;obtain ⟨Ao35,co35,eo35⟩ := Kd.R_slice HO907.out;subst eo35;obtain ⟨Ao36,co36,eo36⟩ := Kd.R_slice HO911.out;subst eo36
                      as_aux_lemma =>
                       go_wp2_with (first | (go_at_call 12;refine cA (Zd.calls k _ _ t905 _ _ t909 true _ (cR HO907) (rq HO907) (cR HO911) (rq HO911) A28.out) ?_;rintro e w' ⟨rfl,⟨nd,rfl⟩⟩;obtain ⟨Ao37,co37,eo37⟩ := Kd.R_slice HO915.out;subst eo37;obtain ⟨Ao38,co38,eo38⟩ := Kd.R_slice HO919.out;subst eo38) | (go_at_call 12;refine cA (Zd.calls k _ _ t913 _ _ t917 true _ (cR HO915) (rq HO915) (cR HO919) (rq HO919) A31.out) ?_;rintro e w' ⟨rfl,⟨nd,rfl⟩⟩;obtain ⟨Ao39,co39,eo39⟩ := Kd.R_slice HO923.out;subst eo39;obtain ⟨Ao40,co40,eo40⟩ := Kd.R_slice HO927.out;subst eo40) | (go_at_call 12;refine cA (Zd.calls k _ _ t921 _ _ t925 t931 _ (cR HO923) (rq HO923) (cR HO927) (rq HO927) A34.out) ?_;rintro e w' ⟨rfl,⟨nd,rfl⟩⟩))
                       go_meet
                       case rel => exact ⟨_,(!t931),rD,H',⟨by first | omega | exact Nat.le_refl _⟩,rW HO907,rW HO915,rW HO923,vW HO902,⟨kN BK904⟩,⟨bN HB⟩⟩
                    ·as_aux_lemma =>
                      rw [if_neg c33] at H;have c33b0 := beq_eq_false_iff_ne.mpr c33;have c33b1 := bne_iff_ne.mpr c33;have H' := aK H;clear H;obtain ⟨Ao41,co41,eo41⟩ := Kd.R_slice HO907.out;subst eo41;obtain ⟨Ao42,co42,eo42⟩ := Kd.R_slice HO911.out;subst eo42
                      as_aux_lemma =>
                       go_wp2_with (first | (go_at_call 12;refine cA (Zd.calls k _ _ t905 _ _ t909 true _ (cR HO907) (rq HO907) (cR HO911) (rq HO911) A28.out) ?_;rintro e w' ⟨rfl,⟨nd,rfl⟩⟩;obtain ⟨Ao43,co43,eo43⟩ := Kd.R_slice HO915.out;subst eo43;obtain ⟨Ao44,co44,eo44⟩ := Kd.R_slice HO919.out;subst eo44) | (go_at_call 12;refine cA (Zd.calls k _ _ t913 _ _ t917 true _ (cR HO915) (rq HO915) (cR HO919) (rq HO919) A31.out) ?_;rintro e w' ⟨rfl,⟨nd,rfl⟩⟩))
                       go_meet
                       case rel => exact ⟨_,(true),rD,H',⟨by first | omega | exact Nat.le_refl _⟩,rW HO907,rW HO915,rW HO923,vW HO902,⟨kN BK904⟩,⟨bN HB⟩⟩
                  ·as_aux_lemma =>
                    replace c32 := Bool.eq_false_iff.mpr c32;subst c32;rw [if_neg (show ¬ (false = true) by decide)] at H;have H' := aK H;clear H;obtain ⟨Ao45,co45,eo45⟩ := Kd.R_slice HO907.out;subst eo45;obtain ⟨Ao46,co46,eo46⟩ := Kd.R_slice HO911.out;subst eo46
                    as_aux_lemma =>
                     go_wp2_with (first | (go_at_call 12;refine cA (Zd.calls k _ _ t905 _ _ t909 true _ (cR HO907) (rq HO907) (cR HO911) (rq HO911) A28.out) ?_;rintro e w' ⟨rfl,⟨nd,rfl⟩⟩;obtain ⟨Ao47,co47,eo47⟩ := Kd.R_slice HO915.out;subst eo47;obtain ⟨Ao48,co48,eo48⟩ := Kd.R_slice HO919.out;subst eo48) | (go_at_call 12;refine cA (Zd.calls k _ _ t913 _ _ t917 false _ (cR HO915) (rq HO915) (cR HO919) (rq HO919) A31.out) ?_;rintro e w' ⟨rfl,⟨nd,rfl⟩⟩))
                     go_meet
                     case rel => exact ⟨_,(true),rD,H',⟨by first | omega | exact Nat.le_refl _⟩,rW HO907,rW HO915,rW HO923,vW HO902,⟨kN BK904⟩,⟨bN HB⟩⟩
                ·as_aux_lemma =>
                  rw [if_neg c30] at H;have c30b0 := beq_eq_false_iff_ne.mpr c30;have c30b1 := bne_iff_ne.mpr c30;have H' := aK H;clear H;obtain ⟨Ao49,co49,eo49⟩ := Kd.R_slice HO907.out;subst eo49;obtain ⟨Ao50,co50,eo50⟩ := Kd.R_slice HO911.out;subst eo50
                  as_aux_lemma =>
                   go_wp2_with (first | (go_at_call 12;refine cA (Zd.calls k _ _ t905 _ _ t909 true _ (cR HO907) (rq HO907) (cR HO911) (rq HO911) A28.out) ?_;rintro e w' ⟨rfl,⟨nd,rfl⟩⟩))
                   go_meet
                   case rel => exact ⟨_,(true),rD,H',⟨by first | omega | exact Nat.le_refl _⟩,rW HO907,rW HO915,rW HO923,vW HO902,⟨kN BK904⟩,⟨bN HB⟩⟩
              ·as_aux_lemma =>
                replace c29 := Bool.eq_false_iff.mpr c29;subst c29;rw [if_neg (show ¬ (false = true) by decide)] at H;have H' := aK H;clear H;obtain ⟨Ao51,co51,eo51⟩ := Kd.R_slice HO907.out;subst eo51;obtain ⟨Ao52,co52,eo52⟩ := Kd.R_slice HO911.out;subst eo52
                as_aux_lemma =>
                 go_wp2_with (first | (go_at_call 12;refine cA (Zd.calls k _ _ t905 _ _ t909 false _ (cR HO907) (rq HO907) (cR HO911) (rq HO911) A28.out) ?_;rintro e w' ⟨rfl,⟨nd,rfl⟩⟩))
                 go_meet
                 case rel => exact ⟨_,(true),rD,H',⟨by first | omega | exact Nat.le_refl _⟩,rW HO907,rW HO915,rW HO923,vW HO902,⟨kN BK904⟩,⟨bN HB⟩⟩
            ·as_aux_lemma =>
              rw [if_neg c27] at H;have c27b0 := beq_eq_false_iff_ne.mpr c27;have c27b1 := bne_iff_ne.mpr c27;(first | rw [c27b0] | (simp only [i64_w,i32_w];rw [c27b0]) | skip);have H' := aK H;clear H;go_wp2;go_meet
              case rel => exact ⟨_,(true),rD,H',⟨by first | omega | exact Nat.le_refl _⟩,rW HO907,rW HO915,rW HO923,vW HO902,⟨kN BK904⟩,⟨bN HB⟩⟩
          case rest =>
           clear HC11
           try clear c1
           try clear c2
           try clear p2
           try clear c3
           try clear c4
           try clear c5
           try clear c6
           try clear c7
           try clear c8
           try clear c9
           try clear c10
           try clear c11
           try clear c27
           try clear c27b0
           try clear c27b1
           try clear c29
           try clear c30
           try clear c30b0
           try clear c30b1
           try clear c32
           try clear c33
           try clear c33b0
           try clear c33b1
           try clear hcz15_0
           try clear hcz17_0
           try clear hcz19_0
           try clear hcz21_0
           try clear hcz23_0
           try clear hcz25_0
           try clear hfz15_0
           try clear hfz17_0
           try clear hfz19_0
           try clear hfz21_0
           try clear hfz23_0
           try clear hfz25_0
           go_step;rename_i z1_185;exact HS1 hu26 HR0 HC0 z1_185 hcut
end Go.Proofs.Ytfpoppidppoeoaa.PX
