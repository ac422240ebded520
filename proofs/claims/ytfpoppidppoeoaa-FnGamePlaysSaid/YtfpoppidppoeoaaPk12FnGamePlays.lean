/- Part 12 of the texts under the row of FnGamePlays (no condition). -/
import Derived.Test.YtfpoppidppoeoaaPk7FnGamePlays
namespace Go.Proofs.Ytfpoppidppoeoaa.PX
open Go.RowKit Go.Proofs.YtfpoppidppoeoaaW.PrintWords Go.Proofs.YtfpoppidppoeoaaW.PrintLast Go.Proofs.YtfpoppidppoeoaaW.PrintMore
attribute [local go_sem] max2_int min2_int max_two min_two max_three min_three max_four min_four
set_option linter.unusedVariables false
set_option linter.unusedSimpArgs false
set_option maxHeartbeats 8000000
set_option maxRecDepth 100000
theorem Za.sec4 (HS5 : Za.S5) : Za.S4 := by
 unfold Za.S4;intros;rename_i _ _ _ l0 r w hu26 HR0 HC0 t900 gb904 Ao14 co14 _ _ _ _ _ _ _ HJ10 _ hcut
 conv => arg 2;whnf
 obtain ⟨kq,HA,HJ53,HO_q4,BK904,HB⟩ := hcut
 cases kq with
 | zero => exact absurd HA.out (by simp [Za.j5])
 | succ kj53 =>
  have H := HA.out;clear HA;simp only [Za.j5] at H;replace H := bE H;obtain ⟨t961,A124,H⟩ := H;replace H := bE H;obtain ⟨⟨t965,t968⟩,A125,H⟩ := H;dsimp only at H;replace H := bE H;obtain ⟨⟨t969,t972⟩,A126,H⟩ := H;dsimp only at H;replace H := bE H;obtain ⟨⟨t973,t976⟩,A127,H⟩ := H;dsimp only at H;replace H := bE H;obtain ⟨⟨t977,t980⟩,A128,H⟩ := H;dsimp only at H;replace H := bE H;obtain ⟨⟨t981,t984⟩,A129,H⟩ := H;dsimp only at H;replace H := bE H;obtain ⟨⟨t985,t988⟩,A130,H⟩ := H;dsimp only at H;replace H := bE H;obtain ⟨⟨t989,t992⟩,A131,H⟩ := H;dsimp only at H;replace H := bE H;obtain ⟨⟨t993,t996⟩,A132,H⟩ := H;dsimp only at H;have HC133 := aK H;clear H
  go_upto_region 36 with (first | ((with_reducible refine wP ?_);refine gS 260 Try.func18 (Zaj.calls kj53 _ _ l0 t961 _ (cB HR0 HB) HC0.out A124.out) ?_;rintro e w134 ⟨v962,rfl,ho0,hb⟩;refine ⟨_,rfl,?_⟩;replace HO_q4 := vB HO_q4 hb;have HO963 := vl (Kd.V_mono (ok' := fun k_ => k_ ≠ gb904) ho0 (fun k_ hk_ => (Kd.freshB (g := gb904) (o := .cells #[.slice Ao14 t900.length co14] 26 (0,0)) (kN BK904) k_ hk_))) HB;replace BK904 := kB BK904 hb;replace HB := hB HB hb;(try clear hb);(try clear hb2);(try clear hk);(try clear hi);(try clear ho0)) | ((with_reducible refine gate_dst (N := 28) rfl ?_);(try (refine gate_guard (by rfl) ?_;dsimp only));refine boxE 28 #[.slice none 0 0] 26 ?_;intro gb964 hg w135 hbox hb;replace HO_q4 := vE HO_q4 hg hb;replace HO963 := vE HO963 hg hb;have BK964 := aK (hbox);have GW964 := aK (zG HB hg);have GE964 := aK (zG HB hg);replace HB := hB HB hb;obtain ⟨NB904_964,NB964_904⟩ := nG hg BK904;replace BK904 := kB BK904 hb;clear hb hbox hg;obtain ⟨Ao136,co136,eo136⟩ := Kd.V_slice HO963.out;subst eo136;have hnb137 := NB964_904.out;have hnc137 := NB904_964.out;have hcz138_0 := z0 BK964;have hfz138_0 := fZ BK964 0))
  as_aux_lemma =>
   go_upto_region 37 with (first | ((with_reducible refine wP ?_);refine gS 263 Try.func19 (ZK.calls kj53 _ _ t961 t965 t968 _ ?side1 (vq HO963) A125.out) ?_;(case side1 => refine (Kd.V_reads' (e := 29) (base := w.heap.size) (ok := fun k_ => (k_ ≠ gb904 ∧ k_ ≠ gb964)) (n := t961.length) (c := co136) ?_).2.2;exact (vM ((Kd.V_mono (Kd.V_far (p := ⟨gb964,0,none⟩) (Kd.V_mono HO963.out (fun k_ hk => (⟨hk,hk.2⟩ : _ ∧ k_ ≠ gb964))) (fun _ hk => hk.2) (.slice Ao136 t961.length co136)) (fun _ h_ => h_.1)))));rintro e w139 ⟨v966,rfl,ho0,hb⟩;refine ⟨_,rfl,?_⟩;replace HO_q4 := aK (Kd.V_elder' (vM ((Kd.V_mono (Kd.V_far (p := ⟨gb964,0,none⟩) (Kd.V_mono HO_q4.out (fun k_ hk => (⟨hk,hk.2⟩ : _ ∧ k_ ≠ gb964))) (fun _ hk => hk.2) (.slice Ao136 t961.length co136)) (fun _ h_ => h_.1)))) (Kd.R_base ho0) hb);replace HO963 := aK (Kd.V_elder' (vM ((Kd.V_mono (Kd.V_far (p := ⟨gb964,0,none⟩) (Kd.V_mono HO963.out (fun k_ hk => (⟨hk,hk.2⟩ : _ ∧ k_ ≠ gb964))) (fun _ hk => hk.2) (.slice Ao136 t961.length co136)) (fun _ h_ => h_.1)))) (Kd.R_base ho0) hb);have HO967 := rl ho0 HB;replace BK904 := kY BK904 hb;replace BK964 := kX #[.slice Ao136 t961.length co136] BK964 hb;replace HB := hB HB hb;(try clear hb);(try clear hb2);(try clear hk);(try clear hi);(try clear ho0);have hcz140_0 := z0 BK964;have hfz140_0 := fZ BK964 0))
   as_aux_lemma =>
    go_upto_region 38 with (first | ((with_reducible refine wP ?_);refine gS 268 Try.func20 (Zf.calls kj53 _ _ t961 t969 t972 _ (cM (vr HO963)) (vq HO963) A126.out) ?_;rintro e w141 ⟨v970,rfl,ho0,hb⟩;refine ⟨_,rfl,?_⟩;replace HO_q4 := vL HO_q4 (rb ho0) hb;replace HO963 := vL HO963 (rb ho0) hb;have HO971 := rl (rn ho0 HO967) HB;replace HO967 := rL HO967 (rb ho0) hb;replace BK904 := kB BK904 hb;replace BK964 := kB BK964 hb;replace HB := hB HB hb;(try clear hb);(try clear hb2);(try clear hk);(try clear hi);(try clear ho0);have hcz142_0 := z0 BK964;have hfz142_0 := fZ BK964 0))
    as_aux_lemma =>
     go_upto_region 39 with (first | ((with_reducible refine wP ?_);refine gS 273 Try.func21 (Zah.calls kj53 _ _ t961 t973 t976 _ (cM (vr HO963)) (vq HO963) A127.out) ?_;rintro e w143 ⟨v974,rfl,ho0,hb⟩;refine ⟨_,rfl,?_⟩;replace HO_q4 := vL HO_q4 (rb ho0) hb;replace HO963 := vL HO963 (rb ho0) hb;have HO975 := rl (rn (rn ho0 HO967) HO971) HB;replace HO967 := rL HO967 (rb ho0) hb;replace HO971 := rL HO971 (rb ho0) hb;replace BK904 := kB BK904 hb;replace BK964 := kB BK964 hb;replace HB := hB HB hb;(try clear hb);(try clear hb2);(try clear hk);(try clear hi);(try clear ho0);have hcz144_0 := z0 BK964;have hfz144_0 := fZ BK964 0))
     as_aux_lemma =>
      go_upto_region 40 with (first | ((with_reducible refine wP ?_);refine gS 278 Try.func22 (Zb.calls kj53 _ _ t961 t977 t980 _ (cM (vr HO963)) (vq HO963) A128.out) ?_;rintro e w145 ⟨v978,rfl,ho0,hb⟩;refine ⟨_,rfl,?_⟩;replace HO_q4 := vL HO_q4 (rb ho0) hb;replace HO963 := vL HO963 (rb ho0) hb;have HO979 := rl (rn (rn (rn ho0 HO967) HO971) HO975) HB;replace HO967 := rL HO967 (rb ho0) hb;replace HO971 := rL HO971 (rb ho0) hb;replace HO975 := rL HO975 (rb ho0) hb;replace BK904 := kB BK904 hb;replace BK964 := kB BK964 hb;replace HB := hB HB hb;(try clear hb);(try clear hb2);(try clear hk);(try clear hi);(try clear ho0);have hcz146_0 := z0 BK964;have hfz146_0 := fZ BK964 0))
      as_aux_lemma =>
       go_upto_region 41 with (first | ((with_reducible refine wP ?_);refine gS 283 Try.func15 (ZT.calls kj53 _ _ t961 t981 t984 _ (cM (vr HO963)) (vq HO963) A129.out) ?_;rintro e w147 ⟨v982,rfl,ho0,hb⟩;refine ⟨_,rfl,?_⟩;replace HO_q4 := vL HO_q4 (rb ho0) hb;replace HO963 := vL HO963 (rb ho0) hb;have HO983 := rl (rn (rn (rn (rn ho0 HO967) HO971) HO975) HO979) HB;replace HO967 := rL HO967 (rb ho0) hb;replace HO971 := rL HO971 (rb ho0) hb;replace HO975 := rL HO975 (rb ho0) hb;replace HO979 := rL HO979 (rb ho0) hb;replace BK904 := kB BK904 hb;replace BK964 := kB BK964 hb;replace HB := hB HB hb;(try clear hb);(try clear hb2);(try clear hk);(try clear hi);(try clear ho0);have hcz148_0 := z0 BK964;have hfz148_0 := fZ BK964 0))
       as_aux_lemma =>
        go_upto_region 42 with (first | ((with_reducible refine wP ?_);refine gS 288 Try.func23 (Zo.calls kj53 _ _ t961 t985 t988 _ (cM (vr HO963)) (vq HO963) A130.out) ?_;rintro e w149 ⟨v986,rfl,ho0,hb⟩;refine ⟨_,rfl,?_⟩;replace HO_q4 := vL HO_q4 (rb ho0) hb;replace HO963 := vL HO963 (rb ho0) hb;have HO987 := rl (rn (rn (rn (rn (rn ho0 HO967) HO971) HO975) HO979) HO983) HB;replace HO967 := rL HO967 (rb ho0) hb;replace HO971 := rL HO971 (rb ho0) hb;replace HO975 := rL HO975 (rb ho0) hb;replace HO979 := rL HO979 (rb ho0) hb;replace HO983 := rL HO983 (rb ho0) hb;replace BK904 := kB BK904 hb;replace BK964 := kB BK964 hb;replace HB := hB HB hb;(try clear hb);(try clear hb2);(try clear hk);(try clear hi);(try clear ho0);have hcz150_0 := z0 BK964;have hfz150_0 := fZ BK964 0))
        as_aux_lemma =>
         go_upto_region 43 with (first | ((with_reducible refine wP ?_);refine gS 293 Try.func16 (ZY.calls kj53 _ _ t961 t989 t992 _ (cM (vr HO963)) (vq HO963) A131.out) ?_;rintro e w151 ⟨v990,rfl,ho0,hb⟩;refine ⟨_,rfl,?_⟩;replace HO_q4 := vL HO_q4 (rb ho0) hb;replace HO963 := vL HO963 (rb ho0) hb;have HO991 := rl (Kd.R_new' (rn (rn (rn (rn (rn ho0 HO967) HO971) HO975) HO979) HO983) (rt HO987)) HB;replace HO967 := rL HO967 (rb ho0) hb;replace HO971 := rL HO971 (rb ho0) hb;replace HO975 := rL HO975 (rb ho0) hb;replace HO979 := rL HO979 (rb ho0) hb;replace HO983 := rL HO983 (rb ho0) hb;replace HO987 := rL HO987 (rb ho0) hb;replace BK904 := kB BK904 hb;replace BK964 := kB BK964 hb;replace HB := hB HB hb;(try clear hb);(try clear hb2);(try clear hk);(try clear hi);(try clear ho0);have hcz152_0 := z0 BK964;have hfz152_0 := fZ BK964 0))
         as_aux_lemma =>
          go_upto_region 44 with (first | ((with_reducible refine wP ?_);refine gS 298 Try.func24 (Zm.calls kj53 _ _ t961 t993 t996 _ (cM (vr HO963)) (vq HO963) A132.out) ?_;rintro e w153 ⟨v994,rfl,ho0,hb⟩;refine ⟨_,rfl,?_⟩;replace HO_q4 := vL HO_q4 (rb ho0) hb;replace HO963 := vL HO963 (rb ho0) hb;have HO995 := aK (Kd.R_lower (Kd.R_new' (Kd.R_new' (rn (rn (rn (rn (rn ho0 HO967) HO971) HO975) HO979) HO983) (rt HO987)) (rt HO991)) (below_size (bN HB)));replace HO967 := rL HO967 (rb ho0) hb;replace HO971 := rL HO971 (rb ho0) hb;replace HO975 := rL HO975 (rb ho0) hb;replace HO979 := rL HO979 (rb ho0) hb;replace HO983 := rL HO983 (rb ho0) hb;replace HO987 := rL HO987 (rb ho0) hb;replace HO991 := rL HO991 (rb ho0) hb;replace BK904 := kB BK904 hb;replace BK964 := kB BK964 hb;replace HB := hB HB hb;(try clear hb);(try clear hb2);(try clear hk);(try clear hi);(try clear ho0)))
          (try simp only [Act.put,List.setIfInBounds_toArray,List.set_cons_zero,List.set_cons_succ])
          go_cut [342] (Za.R5 l0 r w t900 gb904 Ao14 co14 kj53 t961 t965 t968 t973 t981 t989 gb964 Ao136 co136 v966 v974 v982 v990)
          case first =>
           as_aux_lemma =>
            have H := HC133.out;clear HC133
            by_cases c154 : t968 = t972
            ·rw [if_pos c154] at H;have c154b0 := beq_iff_eq.mpr c154;have c154b1 := bne_eq_false_iff_eq.mpr c154;clear c154;(first | rw [c154b0] | (simp only [i64_w,i32_w];rw [c154b0]) | skip);replace H := bE H;obtain ⟨t997,A155,H⟩ := H
             replace H := iB H;obtain ⟨rfl,H⟩|⟨rfl,H⟩ := H
             ·by_cases c157 : t976 = t980
              ·rw [if_pos c157] at H;have c157b0 := beq_iff_eq.mpr c157;have c157b1 := bne_eq_false_iff_eq.mpr c157;clear c157;replace H := bE H;obtain ⟨t998,A158,H⟩ := H
               replace H := iB H;obtain ⟨rfl,H⟩|⟨rfl,H⟩ := H
               ·by_cases c160 : t984 = t988
                ·rw [if_pos c160] at H;have c160b0 := beq_iff_eq.mpr c160;have c160b1 := bne_eq_false_iff_eq.mpr c160;clear c160;replace H := bE H;obtain ⟨t999,A161,H⟩ := H
                 replace H := iB H;obtain ⟨rfl,H⟩|⟨rfl,H⟩ := H
                 ·by_cases c163 : t992 = t996
                  ·rw [if_pos c163] at H;have c163b0 := beq_iff_eq.mpr c163;have c163b1 := bne_eq_false_iff_eq.mpr c163;clear c163;replace H := bE H;obtain ⟨t1000,A164,H⟩ := H;have H' := aK H;clear H;obtain ⟨Ao165,co165,eo165⟩ := Kd.R_slice HO967.out;subst eo165;obtain ⟨Ao166,co166,eo166⟩ := Kd.R_slice HO971.out;subst eo166
                   as_aux_lemma =>
                    go_wp2_with (first | (go_at_call 12;refine cA (Zd.calls kj53 _ _ t965 _ _ t969 true _ (cR HO967) (rq HO967) (cR HO971) (rq HO971) A155.out) ?_;rintro e w' ⟨rfl,⟨nd,rfl⟩⟩;obtain ⟨Ao167,co167,eo167⟩ := Kd.R_slice HO975.out;subst eo167;obtain ⟨Ao168,co168,eo168⟩ := Kd.R_slice HO979.out;subst eo168) | (go_at_call 12;refine cA (Zd.calls kj53 _ _ t973 _ _ t977 true _ (cR HO975) (rq HO975) (cR HO979) (rq HO979) A158.out) ?_;rintro e w' ⟨rfl,⟨nd,rfl⟩⟩;obtain ⟨Ao169,co169,eo169⟩ := Kd.R_slice HO983.out;subst eo169;obtain ⟨Ao170,co170,eo170⟩ := Kd.R_slice HO987.out;subst eo170) | (go_at_call 12;refine cA (Zd.calls kj53 _ _ t981 _ _ t985 true _ (cR HO983) (rq HO983) (cR HO987) (rq HO987) A161.out) ?_;rintro e w' ⟨rfl,⟨nd,rfl⟩⟩;obtain ⟨Ao171,co171,eo171⟩ := Kd.R_slice HO991.out;subst eo171;obtain ⟨Ao172,co172,eo172⟩ := Kd.R_slice HO995.out;subst eo172) | (go_at_call 12;refine cA (Zd.calls kj53 _ _ t989 _ _ t993 t1000 _ (cR HO991) (rq HO991) (cR HO995) (rq HO995) A164.out) ?_;rintro e w' ⟨rfl,⟨nd,rfl⟩⟩))
                    go_meet
                    case rel => exact ⟨_,(!t1000),rD,H',o2 HJ10 HJ53,rW HO967,rW HO975,rW HO983,rW HO991,vW HO_q4,vW HO963,⟨kN BK904⟩,⟨kN BK964⟩,⟨bN HB⟩⟩
                  ·rw [if_neg c163] at H;have c163b0 := beq_eq_false_iff_ne.mpr c163;have c163b1 := bne_iff_ne.mpr c163;have H' := aK H;clear H;obtain ⟨Ao173,co173,eo173⟩ := Kd.R_slice HO967.out;subst eo173;obtain ⟨Ao174,co174,eo174⟩ := Kd.R_slice HO971.out;subst eo174
                   as_aux_lemma =>
                    go_wp2_with (first | (go_at_call 12;refine cA (Zd.calls kj53 _ _ t965 _ _ t969 true _ (cR HO967) (rq HO967) (cR HO971) (rq HO971) A155.out) ?_;rintro e w' ⟨rfl,⟨nd,rfl⟩⟩;obtain ⟨Ao175,co175,eo175⟩ := Kd.R_slice HO975.out;subst eo175;obtain ⟨Ao176,co176,eo176⟩ := Kd.R_slice HO979.out;subst eo176) | (go_at_call 12;refine cA (Zd.calls kj53 _ _ t973 _ _ t977 true _ (cR HO975) (rq HO975) (cR HO979) (rq HO979) A158.out) ?_;rintro e w' ⟨rfl,⟨nd,rfl⟩⟩;obtain ⟨Ao177,co177,eo177⟩ := Kd.R_slice HO983.out;subst eo177;obtain ⟨Ao178,co178,eo178⟩ := Kd.R_slice HO987.out;subst eo178) | (go_at_call 12;refine cA (Zd.calls kj53 _ _ t981 _ _ t985 true _ (cR HO983) (rq HO983) (cR HO987) (rq HO987) A161.out) ?_;rintro e w' ⟨rfl,⟨nd,rfl⟩⟩))
                    go_meet
                    case rel => exact ⟨_,(true),rD,H',o2 HJ10 HJ53,rW HO967,rW HO975,rW HO983,rW HO991,vW HO_q4,vW HO963,⟨kN BK904⟩,⟨kN BK964⟩,⟨bN HB⟩⟩
                 ·have H' := aK H;clear H;obtain ⟨Ao179,co179,eo179⟩ := Kd.R_slice HO967.out;subst eo179;obtain ⟨Ao180,co180,eo180⟩ := Kd.R_slice HO971.out;subst eo180
                  as_aux_lemma =>
                   go_wp2_with (first | (go_at_call 12;refine cA (Zd.calls kj53 _ _ t965 _ _ t969 true _ (cR HO967) (rq HO967) (cR HO971) (rq HO971) A155.out) ?_;rintro e w' ⟨rfl,⟨nd,rfl⟩⟩;obtain ⟨Ao181,co181,eo181⟩ := Kd.R_slice HO975.out;subst eo181;obtain ⟨Ao182,co182,eo182⟩ := Kd.R_slice HO979.out;subst eo182) | (go_at_call 12;refine cA (Zd.calls kj53 _ _ t973 _ _ t977 true _ (cR HO975) (rq HO975) (cR HO979) (rq HO979) A158.out) ?_;rintro e w' ⟨rfl,⟨nd,rfl⟩⟩;obtain ⟨Ao183,co183,eo183⟩ := Kd.R_slice HO983.out;subst eo183;obtain ⟨Ao184,co184,eo184⟩ := Kd.R_slice HO987.out;subst eo184) | (go_at_call 12;refine cA (Zd.calls kj53 _ _ t981 _ _ t985 false _ (cR HO983) (rq HO983) (cR HO987) (rq HO987) A161.out) ?_;rintro e w' ⟨rfl,⟨nd,rfl⟩⟩))
                   go_meet
                   case rel => exact ⟨_,(true),rD,H',o2 HJ10 HJ53,rW HO967,rW HO975,rW HO983,rW HO991,vW HO_q4,vW HO963,⟨kN BK904⟩,⟨kN BK964⟩,⟨bN HB⟩⟩
                ·rw [if_neg c160] at H;have c160b0 := beq_eq_false_iff_ne.mpr c160;have c160b1 := bne_iff_ne.mpr c160;have H' := aK H;clear H;obtain ⟨Ao185,co185,eo185⟩ := Kd.R_slice HO967.out;subst eo185;obtain ⟨Ao186,co186,eo186⟩ := Kd.R_slice HO971.out;subst eo186
                 as_aux_lemma =>
                  go_wp2_with (first | (go_at_call 12;refine cA (Zd.calls kj53 _ _ t965 _ _ t969 true _ (cR HO967) (rq HO967) (cR HO971) (rq HO971) A155.out) ?_;rintro e w' ⟨rfl,⟨nd,rfl⟩⟩;obtain ⟨Ao187,co187,eo187⟩ := Kd.R_slice HO975.out;subst eo187;obtain ⟨Ao188,co188,eo188⟩ := Kd.R_slice HO979.out;subst eo188) | (go_at_call 12;refine cA (Zd.calls kj53 _ _ t973 _ _ t977 true _ (cR HO975) (rq HO975) (cR HO979) (rq HO979) A158.out) ?_;rintro e w' ⟨rfl,⟨nd,rfl⟩⟩))
                  go_meet
                  case rel => exact ⟨_,(true),rD,H',o2 HJ10 HJ53,rW HO967,rW HO975,rW HO983,rW HO991,vW HO_q4,vW HO963,⟨kN BK904⟩,⟨kN BK964⟩,⟨bN HB⟩⟩
               ·have H' := aK H;clear H;obtain ⟨Ao189,co189,eo189⟩ := Kd.R_slice HO967.out;subst eo189;obtain ⟨Ao190,co190,eo190⟩ := Kd.R_slice HO971.out;subst eo190
                as_aux_lemma =>
                 go_wp2_with (first | (go_at_call 12;refine cA (Zd.calls kj53 _ _ t965 _ _ t969 true _ (cR HO967) (rq HO967) (cR HO971) (rq HO971) A155.out) ?_;rintro e w' ⟨rfl,⟨nd,rfl⟩⟩;obtain ⟨Ao191,co191,eo191⟩ := Kd.R_slice HO975.out;subst eo191;obtain ⟨Ao192,co192,eo192⟩ := Kd.R_slice HO979.out;subst eo192) | (go_at_call 12;refine cA (Zd.calls kj53 _ _ t973 _ _ t977 false _ (cR HO975) (rq HO975) (cR HO979) (rq HO979) A158.out) ?_;rintro e w' ⟨rfl,⟨nd,rfl⟩⟩))
                 go_meet
                 case rel => exact ⟨_,(true),rD,H',o2 HJ10 HJ53,rW HO967,rW HO975,rW HO983,rW HO991,vW HO_q4,vW HO963,⟨kN BK904⟩,⟨kN BK964⟩,⟨bN HB⟩⟩
              ·rw [if_neg c157] at H;have c157b0 := beq_eq_false_iff_ne.mpr c157;have c157b1 := bne_iff_ne.mpr c157;have H' := aK H;clear H;obtain ⟨Ao193,co193,eo193⟩ := Kd.R_slice HO967.out;subst eo193;obtain ⟨Ao194,co194,eo194⟩ := Kd.R_slice HO971.out;subst eo194
               as_aux_lemma =>
                go_wp2_with (first | (go_at_call 12;refine cA (Zd.calls kj53 _ _ t965 _ _ t969 true _ (cR HO967) (rq HO967) (cR HO971) (rq HO971) A155.out) ?_;rintro e w' ⟨rfl,⟨nd,rfl⟩⟩))
                go_meet
                case rel => exact ⟨_,(true),rD,H',o2 HJ10 HJ53,rW HO967,rW HO975,rW HO983,rW HO991,vW HO_q4,vW HO963,⟨kN BK904⟩,⟨kN BK964⟩,⟨bN HB⟩⟩
             ·have H' := aK H;clear H;obtain ⟨Ao195,co195,eo195⟩ := Kd.R_slice HO967.out;subst eo195;obtain ⟨Ao196,co196,eo196⟩ := Kd.R_slice HO971.out;subst eo196
              as_aux_lemma =>
               go_wp2_with (first | (go_at_call 12;refine cA (Zd.calls kj53 _ _ t965 _ _ t969 false _ (cR HO967) (rq HO967) (cR HO971) (rq HO971) A155.out) ?_;rintro e w' ⟨rfl,⟨nd,rfl⟩⟩))
               go_meet
               case rel => exact ⟨_,(true),rD,H',o2 HJ10 HJ53,rW HO967,rW HO975,rW HO983,rW HO991,vW HO_q4,vW HO963,⟨kN BK904⟩,⟨kN BK964⟩,⟨bN HB⟩⟩
            ·rw [if_neg c154] at H;have c154b0 := beq_eq_false_iff_ne.mpr c154;have c154b1 := bne_iff_ne.mpr c154;(first | rw [c154b0] | (simp only [i64_w,i32_w];rw [c154b0]) | skip);have H' := aK H;clear H;go_wp2;go_meet
             case rel => exact ⟨_,(true),rD,H',o2 HJ10 HJ53,rW HO967,rW HO975,rW HO983,rW HO991,vW HO_q4,vW HO963,⟨kN BK904⟩,⟨kN BK964⟩,⟨bN HB⟩⟩
          case rest =>
           clear HC133
           try clear c1
           try clear q1
           try clear c2
           try clear p2
           try clear c5
           try clear p6
           try clear c9
           try clear p9
           try clear q9
           try clear hx9
           try clear c10
           try clear c11
           try clear c12
           try clear q12
           try clear c13
           try clear c15
           try clear c16
           try clear c17
           try clear c18
           try clear c19
           try clear c20
           try clear c21
           try clear c22
           try clear c23
           try clear c24
           try clear c55
           try clear c55b0
           try clear c55b1
           try clear p64
           try clear c91
           try clear c91b0
           try clear c92
           try clear c93
           try clear c94
           try clear c95
           try clear p95
           try clear q95
           try clear hx95
           try clear p96
           try clear q96
           try clear hx96
           try clear c97
           try clear c99
           try clear c107
           try clear c108
           try clear c108b0
           try clear c109
           try clear c109b0
           try clear c113
           try clear c115
           try clear c115b0
           try clear c116
           try clear c116b0
           try clear c117
           try clear c117b0
           try clear c118
           try clear c118b0
           try clear c119
           try clear c119b0
           try clear q120
           try clear c121
           try clear c137
           try clear c154
           try clear c154b0
           try clear c154b1
           try clear c156
           try clear c157
           try clear c157b0
           try clear c157b1
           try clear c159
           try clear c160
           try clear c160b0
           try clear c160b1
           try clear c162
           try clear c163
           try clear c163b0
           try clear c163b1
           try clear hcz138_0
           try clear hcz140_0
           try clear hcz142_0
           try clear hcz144_0
           try clear hcz146_0
           try clear hcz148_0
           try clear hcz150_0
           try clear hcz152_0
           try clear hfz138_0
           try clear hfz140_0
           try clear hfz142_0
           try clear hfz144_0
           try clear hfz146_0
           try clear hfz148_0
           try clear hfz150_0
           try clear hfz152_0
           try clear hx951_0
           try clear hx952_0
           try clear hx954_0
           try clear hx956_0
           try clear hx958_0
           try clear hx959_0
           try clear hx960_0
           try clear p2
           try clear p6
           try clear p64
           try clear p9
           try clear p95
           try clear p951
           try clear p952
           try clear p954
           try clear p956
           try clear p958
           try clear p959
           try clear p96
           try clear p960
           try clear q1
           try clear q12
           try clear q120
           try clear q9
           try clear q95
           try clear q951
           try clear q952
           try clear q954
           try clear q956
           try clear q958
           try clear q959
           try clear q96
           try clear q960
           go_step;rename_i z5_686;exact HS5 hu26 HR0 HC0 HJ10 HJ53 NB904_964 NB964_904 hnb137 hnc137 z5_686 hcut
end Go.Proofs.Ytfpoppidppoeoaa.PX
