/- Part 13 of the texts under the row of FnGamePlays (no condition). -/
import Derived.Test.YtfpoppidppoeoaaPk7FnGamePlays
namespace Go.Proofs.Ytfpoppidppoeoaa.PX
open Go.RowKit Go.Proofs.YtfpoppidppoeoaaW.PrintWords Go.Proofs.YtfpoppidppoeoaaW.PrintLast Go.Proofs.YtfpoppidppoeoaaW.PrintMore
attribute [local go_sem] max2_int min2_int max_two min_two max_three min_three max_four min_four
set_option linter.unusedVariables false
set_option linter.unusedSimpArgs false
set_option maxHeartbeats 8000000
set_option maxRecDepth 100000
theorem Za.sec5 (HS6 : Za.S6) : Za.S5 := by
 unfold Za.S5;intros;rename_i _ _ _ l0 r w hu26 HR0 HC0 t900 gb904 Ao14 co14 _ _ _ _ _ _ _ HJ10 _ HJ53 t961 t965 t968 t973 t981 t989 gb964 NB904_964 NB964_904 Ao136 co136 hnb137 hnc137 _ _ v974 _ v982 _ v990 _ _ z5_686 _ _ hcut
 conv => arg 2;whnf
 conv at z5_686 => enter [a,w];arg 1;arg 2;whnf
 obtain ⟨kq,x342_132,rfl,HA,HJ132,HO_29,HO_33,HO_37,HO_41,HO_q4,HO_q8,BK904,BK964,HB⟩ := hcut
 cases kq with
 | zero => exact absurd HA.out (by simp [Za.j6])
 | succ kj132 =>
  have H := HA.out;clear HA;simp only [Za.j6] at H
  by_cases c197 : x342_132 = true
  ·as_aux_lemma =>
    subst c197;rw [if_pos rfl] at H;obtain rfl := Option.some.inj H;go_wp2;go_ret;exact eR (bN HB)
  ·as_aux_lemma =>
    replace c197 := Bool.eq_false_iff.mpr c197;subst c197;rw [if_neg (show ¬ (false = true) by decide)] at H;have HC198 := aK H;clear H
    go_upto_if 344 with (fail)
    go_cut [] (Za.R6 l0 r w t900 gb904 Ao14 co14 t961 gb964 Ao136 co136 kj132)
    case first =>
     as_aux_lemma =>
      have H := HC198.out;clear HC198
      by_cases c199 : t968 = 0
      ·as_aux_lemma =>
        rw [if_pos c199] at H;have c199b0 := beq_iff_eq.mpr c199;have c199b1 := bne_eq_false_iff_eq.mpr c199;clear c199;(first | rw [c199b0] | (simp only [i64_w,i32_w];rw [c199b0]) | skip);replace H := bE H;obtain ⟨⟨t1001,t1004⟩,A200,H⟩ := H;dsimp only at H
        by_cases c201 : t1004 = 0
        ·as_aux_lemma =>
          rw [if_pos c201] at H;have c201b0 := beq_iff_eq.mpr c201;have c201b1 := bne_eq_false_iff_eq.mpr c201;clear c201;have H' := aK H;clear H;have hnb202 := NB964_904.out;have hnc202 := NB904_964.out;have hcz203_0 := z0 BK964;have hfz203_0 := fZ BK964 0
          as_aux_lemma =>
           go_wp2_with ((with_reducible refine wP ?_);first | (refine gS 347 Try.func13 (ZS.calls kj132 _ _ t961 t1001 t1004 _ (cM (vr HO_q8)) (vq HO_q8) A200.out) ?_;rintro e w204 ⟨v1002,rfl,ho0,hb⟩;refine ⟨_,rfl,?_⟩;replace HO_29 := rB HO_29 hb;replace HO_33 := rB HO_33 hb;replace HO_37 := rB HO_37 hb;replace HO_41 := rB HO_41 hb;replace HO_q4 := vL HO_q4 (rb ho0) hb;replace HO_q8 := vL HO_q8 (rb ho0) hb;have HO1003 := rl ho0 HB;replace BK904 := kB BK904 hb;replace BK964 := kB BK964 hb;replace HB := hB HB hb;(try clear hb);(try clear hb2);(try clear hk);(try clear hi);(try clear ho0);obtain ⟨Ao205,co205,eo205⟩ := Kd.R_slice HO_29.out;subst eo205))
           go_loopg [354] kj132 (fun kq v354 w' => ∃ (x354_4 : Int),v354 = .int .i64 x354_4 ∧ Aside0 (Za.l2 kq l0 t965 t973 t981 t989 t1001 (t965.length : Int) x354_4 = some r) ∧ Aside0 (kq ≤ kj132) ∧ Aside0 (Kd.R (Kd.int .i64) 2 w' w.heap.size (fun k_ => some k_ ≠ (v974 : Value).ownBlock ∧ some k_ ≠ (v982 : Value).ownBlock ∧ some k_ ≠ (v990 : Value).ownBlock) (.slice Ao205 t965.length co205) t965) ∧ Aside0 (Kd.R (Kd.int .i64) 2 w' w.heap.size (fun k_ => some k_ ≠ ((.slice Ao205 t965.length co205) : Value).ownBlock ∧ some k_ ≠ (v982 : Value).ownBlock ∧ some k_ ≠ (v990 : Value).ownBlock) v974 t973) ∧ Aside0 (Kd.R (Kd.int .i64) 2 w' w.heap.size (fun k_ => some k_ ≠ ((.slice Ao205 t965.length co205) : Value).ownBlock ∧ some k_ ≠ (v974 : Value).ownBlock ∧ some k_ ≠ (v990 : Value).ownBlock) v982 t981) ∧ Aside0 (Kd.R (Kd.int .i64) 2 w' w.heap.size (fun k_ => some k_ ≠ ((.slice Ao205 t965.length co205) : Value).ownBlock ∧ some k_ ≠ (v974 : Value).ownBlock ∧ some k_ ≠ (v982 : Value).ownBlock) v990 t989) ∧ Aside0 (Kd.R Kd.bool 4 w' w.heap.size (fun _ => True) v1002 t1001) ∧ Aside0 (Kd.V (Kd.slice 2 (Kd.int .i64)) 29 w' w.heap.size (fun k_ => some k_ ≠ ((.slice Ao205 t965.length co205) : Value).ownBlock ∧ some k_ ≠ (v974 : Value).ownBlock ∧ some k_ ≠ (v982 : Value).ownBlock ∧ some k_ ≠ (v990 : Value).ownBlock ∧ some k_ ≠ (v1002 : Value).ownBlock ∧ k_ ≠ gb904 ∧ k_ ≠ gb964) (.slice Ao14 t900.length co14) t900) ∧ Aside0 (Kd.V (Kd.slice 2 (Kd.int .i64)) 29 w' w.heap.size (fun k_ => some k_ ≠ ((.slice Ao205 t965.length co205) : Value).ownBlock ∧ some k_ ≠ (v974 : Value).ownBlock ∧ some k_ ≠ (v982 : Value).ownBlock ∧ some k_ ≠ (v990 : Value).ownBlock ∧ some k_ ≠ (v1002 : Value).ownBlock ∧ k_ ≠ gb904 ∧ k_ ≠ gb964) (.slice Ao136 t961.length co136) t961) ∧ Aside0 (w'.heap[gb904]? = some (.cells #[(.slice Ao14 t900.length co14)] 26 (0,0))) ∧ Aside0 (w'.heap[gb964]? = some (.cells #[(.slice Ao136 t961.length co136)] 26 (0,0))) ∧ Aside0 (Below w.heap.size w w'))
           case atStart => exact ⟨(0),rD,H',⟨Nat.le_refl _⟩,⟨rN HO_29⟩,⟨rN HO_33⟩,⟨rN HO_37⟩,⟨rN HO_41⟩,⟨rN HO1003⟩,vW HO_q4,vW HO_q8,⟨kN BK904⟩,⟨kN BK964⟩,⟨bN HB⟩⟩
           case round =>
            as_aux_lemma =>
             clear H'
             try clear c1
             try clear q1
             try clear c2
             try clear p2
             try clear c5
             try clear p6
             try clear c9
             try clear p9
             try clear q9
             try clear hx9
             try clear c10
             try clear c11
             try clear c12
             try clear q12
             try clear c13
             try clear c15
             try clear c16
             try clear c17
             try clear c18
             try clear c19
             try clear c20
             try clear c21
             try clear c22
             try clear c23
             try clear c24
             try clear c55
             try clear c55b0
             try clear c55b1
             try clear p64
             try clear c91
             try clear c91b0
             try clear c92
             try clear c93
             try clear c94
             try clear c95
             try clear p95
             try clear q95
             try clear hx95
             try clear p96
             try clear q96
             try clear hx96
             try clear c97
             try clear c99
             try clear c107
             try clear c108
             try clear c108b0
             try clear c109
             try clear c109b0
             try clear c113
             try clear c115
             try clear c115b0
             try clear c116
             try clear c116b0
             try clear c117
             try clear c117b0
             try clear c118
             try clear c118b0
             try clear c119
             try clear c119b0
             try clear q120
             try clear c121
             try clear c137
             try clear c154
             try clear c154b0
             try clear c154b1
             try clear c156
             try clear c157
             try clear c157b0
             try clear c157b1
             try clear c159
             try clear c160
             try clear c160b0
             try clear c160b1
             try clear c162
             try clear c163
             try clear c163b0
             try clear c163b1
             try clear c197
             try clear c199
             try clear c199b0
             try clear c199b1
             try clear c201
             try clear c201b0
             try clear c201b1
             try clear c202
             try clear hcz138_0
             try clear hcz140_0
             try clear hcz142_0
             try clear hcz144_0
             try clear hcz146_0
             try clear hcz148_0
             try clear hcz150_0
             try clear hcz152_0
             try clear hcz203_0
             try clear hfz138_0
             try clear hfz140_0
             try clear hfz142_0
             try clear hfz144_0
             try clear hfz146_0
             try clear hfz148_0
             try clear hfz150_0
             try clear hfz152_0
             try clear hfz203_0
             try clear hx951_0
             try clear hx952_0
             try clear hx954_0
             try clear hx956_0
             try clear hx958_0
             try clear hx959_0
             try clear hx960_0
             try clear p2
             try clear p6
             try clear p64
             try clear p9
             try clear p95
             try clear p951
             try clear p952
             try clear p954
             try clear p956
             try clear p958
             try clear p959
             try clear p96
             try clear p960
             try clear q1
             try clear q12
             try clear q120
             try clear q9
             try clear q95
             try clear q951
             try clear q952
             try clear q954
             try clear q956
             try clear q958
             try clear q959
             try clear q96
             try clear q960
             obtain ⟨x354_4,rfl,HA,HK4,HO_29,HO_33,HO_37,HO_41,HO_45,HO_q4,HO_q8,BK904,BK964,HB⟩ := hrel
             cases gk with
             | zero => exact absurd HA.out (by simp [Za.l2])
             | succ k4 =>
              have H := HA.out;clear HA;simp only [Za.l2] at H
              by_cases c206 : x354_4 < (t965.length : Int)
              ·as_aux_lemma =>
                rw [if_pos c206] at H;have c206b0 := decide_eq_true c206;clear c206
                replace H := iP H;obtain ⟨c207b0,H⟩ := H
                replace H := iP H;obtain ⟨c208b0,H⟩ := H
                replace H := iP H;obtain ⟨c209b0,H⟩ := H
                by_cases c210 : (((Int.tmod (rd t965 x354_4) 2) == 1) != (rdOf false t1001 x354_4)) = true
                ·as_aux_lemma =>
                  rw [if_pos c210] at H;have c210b0 : (((Int.tmod (rd t965 x354_4) 2) == 1) != (rdOf false t1001 x354_4)) = true := c210;(try (have c210b1 : decide (((Int.tmod (rd t965 x354_4) 2) == 1) = (rdOf false t1001 x354_4)) = false := by simpa using c210));(try (have c210b2 : (((Int.tmod (rd t965 x354_4) 2) == 1) == (rdOf false t1001 x354_4)) = false := by simpa using c210));(try (have c210b3 : ¬ (((Int.tmod (rd t965 x354_4) 2) == 1) = (rdOf false t1001 x354_4)) := by simpa using c210));clear c210;obtain rfl := Option.some.inj H
                  try go_wp2
                  replace HO_29 := aK (Kd.R_drew HO_29.out);replace HO_33 := aK (Kd.R_drew HO_33.out);replace HO_37 := aK (Kd.R_drew HO_37.out);replace HO_41 := aK (Kd.R_drew HO_41.out);replace HO_45 := aK (Kd.R_drew HO_45.out);replace HO_q4 := aK (Kd.V_drew HO_q4.out);replace HO_q8 := aK (Kd.V_drew HO_q8.out);replace BK904 := dK BK904;replace BK964 := dK BK964;replace HB := dH HB;obtain ⟨ad1005,rfl,hx1005_0,p1005,q1005⟩ := aJ (rr HO_29) x354_4;obtain ⟨Ao212,co212,eo212⟩ := Kd.R_slice HO_45.out;(first | subst eo212 | (injection eo212 with f1_ f2_ f3_;have f4_ := f1_.symm;have f5_ := f3_.symm;clear f1_ f2_ f3_;subst f4_;subst f5_));obtain ⟨ad1006,rfl,hx1006_0,p1006,q1006⟩ := aC (rr HO_45) x354_4;refine start_ (n := 40) (S := fun w' => w'.cell? (ad1005.add (x354_4).toNat) = some (.int .i64 (rd t965 x354_4)) ∧ w'.cell? (ad1006.add (x354_4).toNat) = some (.bool (rdOf false t1001 x354_4))) (ds := []) #[false,false,false,false,false,false,false,false,false,false,false,false,false,false,false,false,false,false,false,false,false,false,false,false,false,false,false,false,false,false,false,false,false,false,false,false,false,false,false,false] (by kernel_rfl) rfl rfl ⟨hx1005_0,hx1006_0⟩ (fun hHeld => ?_);refine with_tabW Za.tab53 Za.bits53 (fun HT_ HW_ => ?_)
                  generalize wr.drew = w211 at HO_29 HO_33 HO_37 HO_41 HO_45 HO_q4 HO_q8 BK904 BK964 HB hx1005_0 hx1006_0 hHeld ⊢
                  refine pT HT_ 0 (some 357) ?_;refine pT HT_ 1 (some 358) ?_;refine pT HT_ 2 (some 359) ?_;refine pT HT_ 6 (some 363) ?_;refine pT HT_ 7 (some 364) ?_;refine pT HT_ 8 (some 365) ?_;refine tT HT_ HW_ hHeld 3 (some 360) ?_;refine pT HT_ 4 (some 361) ?_;refine pT HT_ 5 (some 362) ?_;refine tT HT_ HW_ hHeld 9 (some 366) ?_;refine pT HT_ 10 (some 367) ?_;refine pT HT_ 11 (some 368) ?_;refine uT HT_ 12 (some 369) ?_
                  refine uT HT_ 13 (some 370) ?_
                  refine uT HT_ 14 (some 371) ?_
                  refine uT HT_ 15 (some 372) ?_
                  refine uT HT_ 16 (some 373) ?_
                  refine uT HT_ 17 (some 374) ?_
                  refine uT HT_ 18 (some 375) ?_
                  refine uT HT_ 19 (some 376) ?_
                  refine uT HT_ 20 (some 377) ?_
                  refine pT HT_ 21 (some 378) ?_;refine pT HT_ 22 (some 379) ?_;refine uT HT_ 23 (some 380) ?_
                  refine uT HT_ 24 (some 381) ?_
                  refine uT HT_ 25 (some 382) ?_
                  refine uT HT_ 26 (some 383) ?_
                  refine uT HT_ 27 (some 384) ?_
                  refine uT HT_ 28 (some 385) ?_
                  refine uT HT_ 29 (some 386) ?_
                  refine uT HT_ 30 (some 387) ?_
                  refine uT HT_ 31 (some 388) ?_
                  refine pT HT_ 32 (some 389) ?_;refine pT HT_ 33 (some 390) ?_;refine uT HT_ 34 (some 391) ?_
                  refine uT HT_ 35 (some 392) ?_
                  refine uT HT_ 36 (some 393) ?_
                  refine uT HT_ 37 (some 394) ?_
                  refine uT HT_ 38 (some 395) ?_
                  refine pT HT_ 39 (some 396) ?_;refine done_ (done_of HT_.out (by kernel_rfl)) ?_
                  try go_wp2
                  go_ret;exact eR (bN HB)
                ·as_aux_lemma =>
                  rw [if_neg c210] at H;have c210b0 : (((Int.tmod (rd t965 x354_4) 2) == 1) != (rdOf false t1001 x354_4)) = false := by simpa using c210
                  (try (have c210b1 : decide (((Int.tmod (rd t965 x354_4) 2) == 1) = (rdOf false t1001 x354_4)) = true := by simpa using c210));(try (have c210b2 : (((Int.tmod (rd t965 x354_4) 2) == 1) == (rdOf false t1001 x354_4)) = true := by simpa using c210));clear c210
                  replace H := iP H;obtain ⟨c213b0,H⟩ := H
                  by_cases c214 : (rd t965 x354_4) < (rd t981 x354_4)
                  ·as_aux_lemma =>
                    rw [if_pos c214] at H;have c214b0 := decide_eq_true c214;clear c214;obtain rfl := Option.some.inj H
                    try go_wp2
                    replace HO_29 := aK (Kd.R_drew HO_29.out);replace HO_33 := aK (Kd.R_drew HO_33.out);replace HO_37 := aK (Kd.R_drew HO_37.out);replace HO_41 := aK (Kd.R_drew HO_41.out);replace HO_45 := aK (Kd.R_drew HO_45.out);replace HO_q4 := aK (Kd.V_drew HO_q4.out);replace HO_q8 := aK (Kd.V_drew HO_q8.out);replace BK904 := dK BK904;replace BK964 := dK BK964;replace HB := dH HB;obtain ⟨ad1005,rfl,hx1005_0,p1005,q1005⟩ := aJ (rr HO_29) x354_4;obtain ⟨Ao216,co216,eo216⟩ := Kd.R_slice HO_45.out;(first | subst eo216 | (injection eo216 with f1_ f2_ f3_;have f4_ := f1_.symm;have f5_ := f3_.symm;clear f1_ f2_ f3_;subst f4_;subst f5_));obtain ⟨ad1006,rfl,hx1006_0,p1006,q1006⟩ := aC (rr HO_45) x354_4;obtain ⟨ad1007,e1007,hx1007_0,p1007,q1007⟩ := aJ (rr HO_29) x354_4;obtain rfl := iJ e1007;obtain ⟨Ao217,co217,eo217⟩ := Kd.R_slice HO_37.out;(first | subst eo217 | (injection eo217 with f1_ f2_ f3_;have f4_ := f1_.symm;have f5_ := f3_.symm;clear f1_ f2_ f3_;subst f4_;subst f5_));obtain ⟨ad1008,rfl,hx1008_0,p1008,q1008⟩ := aJ (rr HO_37) x354_4;refine start_ (n := 40) (S := fun w' => w'.cell? (ad1005.add (x354_4).toNat) = some (.int .i64 (rd t965 x354_4)) ∧ w'.cell? (ad1006.add (x354_4).toNat) = some (.bool (rdOf false t1001 x354_4)) ∧ w'.cell? (ad1005.add (x354_4).toNat) = some (.int .i64 (rd t965 x354_4)) ∧ w'.cell? (ad1008.add (x354_4).toNat) = some (.int .i64 (rd t981 x354_4))) (ds := []) #[false,false,false,false,false,false,false,false,false,false,false,false,false,false,false,false,false,false,false,false,false,false,false,false,false,false,false,false,false,false,false,false,false,false,false,false,false,false,false,false] (by kernel_rfl) rfl rfl ⟨hx1005_0,hx1006_0,hx1007_0,hx1008_0⟩ (fun hHeld => ?_);refine with_tabW Za.tab53 Za.bits53 (fun HT_ HW_ => ?_)
                    generalize wr.drew = w215 at HO_29 HO_33 HO_37 HO_41 HO_45 HO_q4 HO_q8 BK904 BK964 HB hx1005_0 hx1006_0 hx1007_0 hx1008_0 hHeld ⊢
                    refine pT HT_ 0 (some 357) ?_;refine pT HT_ 1 (some 358) ?_;refine pT HT_ 2 (some 359) ?_;refine pT HT_ 6 (some 363) ?_;refine pT HT_ 7 (some 364) ?_;refine pT HT_ 8 (some 365) ?_;refine tT HT_ HW_ hHeld 3 (some 360) ?_;refine pT HT_ 4 (some 361) ?_;refine pT HT_ 5 (some 362) ?_;refine tT HT_ HW_ hHeld 9 (some 366) ?_;refine pT HT_ 10 (some 367) ?_;refine pT HT_ 11 (some 368) ?_;refine pT HT_ 12 (some 369) ?_;refine pT HT_ 13 (some 370) ?_;refine pT HT_ 14 (some 371) ?_;refine pT HT_ 16 (some 373) ?_;refine pT HT_ 17 (some 374) ?_;refine pT HT_ 18 (some 375) ?_;refine tT HT_ HW_ hHeld 15 (some 372) ?_;refine tT HT_ HW_ hHeld 19 (some 376) ?_;refine pT HT_ 20 (some 377) ?_;refine pT HT_ 21 (some 378) ?_;refine pT HT_ 22 (some 379) ?_;refine uT HT_ 23 (some 380) ?_
                    refine uT HT_ 24 (some 381) ?_
                    refine uT HT_ 25 (some 382) ?_
                    refine uT HT_ 26 (some 383) ?_
                    refine uT HT_ 27 (some 384) ?_
                    refine uT HT_ 28 (some 385) ?_
                    refine uT HT_ 29 (some 386) ?_
                    refine uT HT_ 30 (some 387) ?_
                    refine uT HT_ 31 (some 388) ?_
                    refine pT HT_ 32 (some 389) ?_;refine pT HT_ 33 (some 390) ?_;refine uT HT_ 34 (some 391) ?_
                    refine uT HT_ 35 (some 392) ?_
                    refine uT HT_ 36 (some 393) ?_
                    refine uT HT_ 37 (some 394) ?_
                    refine uT HT_ 38 (some 395) ?_
                    refine pT HT_ 39 (some 396) ?_;refine done_ (done_of HT_.out (by kernel_rfl)) ?_
                    try go_wp2
                    go_ret;exact eR (bN HB)
                  ·as_aux_lemma =>
                    rw [if_neg c214] at H;have c214b0 := decide_eq_false c214;clear c214
                    replace H := iP H;obtain ⟨c218b0,H⟩ := H
                    by_cases c219 : (rd t965 x354_4) > (rd t989 x354_4)
                    ·as_aux_lemma =>
                      rw [if_pos c219] at H;have c219b0 := decide_eq_true c219;clear c219;obtain rfl := Option.some.inj H
                      try go_wp2
                      replace HO_29 := aK (Kd.R_drew HO_29.out);replace HO_33 := aK (Kd.R_drew HO_33.out);replace HO_37 := aK (Kd.R_drew HO_37.out);replace HO_41 := aK (Kd.R_drew HO_41.out);replace HO_45 := aK (Kd.R_drew HO_45.out);replace HO_q4 := aK (Kd.V_drew HO_q4.out);replace HO_q8 := aK (Kd.V_drew HO_q8.out);replace BK904 := dK BK904;replace BK964 := dK BK964;replace HB := dH HB;obtain ⟨ad1005,rfl,hx1005_0,p1005,q1005⟩ := aJ (rr HO_29) x354_4;obtain ⟨Ao221,co221,eo221⟩ := Kd.R_slice HO_45.out;(first | subst eo221 | (injection eo221 with f1_ f2_ f3_;have f4_ := f1_.symm;have f5_ := f3_.symm;clear f1_ f2_ f3_;subst f4_;subst f5_));obtain ⟨ad1006,rfl,hx1006_0,p1006,q1006⟩ := aC (rr HO_45) x354_4;obtain ⟨ad1007,e1007,hx1007_0,p1007,q1007⟩ := aJ (rr HO_29) x354_4;obtain rfl := iJ e1007;obtain ⟨Ao222,co222,eo222⟩ := Kd.R_slice HO_37.out;(first | subst eo222 | (injection eo222 with f1_ f2_ f3_;have f4_ := f1_.symm;have f5_ := f3_.symm;clear f1_ f2_ f3_;subst f4_;subst f5_));obtain ⟨ad1008,rfl,hx1008_0,p1008,q1008⟩ := aJ (rr HO_37) x354_4;obtain ⟨ad1009,e1009,hx1009_0,p1009,q1009⟩ := aJ (rr HO_29) x354_4;obtain rfl := iJ e1009;obtain ⟨Ao223,co223,eo223⟩ := Kd.R_slice HO_41.out;(first | subst eo223 | (injection eo223 with f1_ f2_ f3_;have f4_ := f1_.symm;have f5_ := f3_.symm;clear f1_ f2_ f3_;subst f4_;subst f5_));obtain ⟨ad1010,rfl,hx1010_0,p1010,q1010⟩ := aJ (rr HO_41) x354_4;refine start_ (n := 40) (S := fun w' => w'.cell? (ad1005.add (x354_4).toNat) = some (.int .i64 (rd t965 x354_4)) ∧ w'.cell? (ad1006.add (x354_4).toNat) = some (.bool (rdOf false t1001 x354_4)) ∧ w'.cell? (ad1005.add (x354_4).toNat) = some (.int .i64 (rd t965 x354_4)) ∧ w'.cell? (ad1008.add (x354_4).toNat) = some (.int .i64 (rd t981 x354_4)) ∧ w'.cell? (ad1005.add (x354_4).toNat) = some (.int .i64 (rd t965 x354_4)) ∧ w'.cell? (ad1010.add (x354_4).toNat) = some (.int .i64 (rd t989 x354_4))) (ds := []) #[false,false,false,false,false,false,false,false,false,false,false,false,false,false,false,false,false,false,false,false,false,false,false,false,false,false,false,false,false,false,false,false,false,false,false,false,false,false,false,false] (by kernel_rfl) rfl rfl ⟨hx1005_0,hx1006_0,hx1007_0,hx1008_0,hx1009_0,hx1010_0⟩ (fun hHeld => ?_);refine with_tabW Za.tab53 Za.bits53 (fun HT_ HW_ => ?_)
                      generalize wr.drew = w220 at HO_29 HO_33 HO_37 HO_41 HO_45 HO_q4 HO_q8 BK904 BK964 HB hx1005_0 hx1006_0 hx1007_0 hx1008_0 hx1009_0 hx1010_0 hHeld ⊢
                      refine pT HT_ 0 (some 357) ?_;refine pT HT_ 1 (some 358) ?_;refine pT HT_ 2 (some 359) ?_;refine pT HT_ 6 (some 363) ?_;refine pT HT_ 7 (some 364) ?_;refine pT HT_ 8 (some 365) ?_;refine tT HT_ HW_ hHeld 3 (some 360) ?_;refine pT HT_ 4 (some 361) ?_;refine pT HT_ 5 (some 362) ?_;refine tT HT_ HW_ hHeld 9 (some 366) ?_;refine pT HT_ 10 (some 367) ?_;refine pT HT_ 11 (some 368) ?_;refine pT HT_ 12 (some 369) ?_;refine pT HT_ 13 (some 370) ?_;refine pT HT_ 14 (some 371) ?_;refine pT HT_ 16 (some 373) ?_;refine pT HT_ 17 (some 374) ?_;refine pT HT_ 18 (some 375) ?_;refine tT HT_ HW_ hHeld 15 (some 372) ?_;refine tT HT_ HW_ hHeld 19 (some 376) ?_;refine pT HT_ 20 (some 377) ?_;refine pT HT_ 21 (some 378) ?_;refine pT HT_ 22 (some 379) ?_;refine pT HT_ 23 (some 380) ?_;refine pT HT_ 24 (some 381) ?_;refine pT HT_ 25 (some 382) ?_;refine pT HT_ 27 (some 384) ?_;refine pT HT_ 28 (some 385) ?_;refine pT HT_ 29 (some 386) ?_;refine tT HT_ HW_ hHeld 26 (some 383) ?_;refine tT HT_ HW_ hHeld 30 (some 387) ?_;refine pT HT_ 31 (some 388) ?_;refine pT HT_ 32 (some 389) ?_;refine pT HT_ 33 (some 390) ?_;refine uT HT_ 34 (some 391) ?_
                      refine uT HT_ 35 (some 392) ?_
                      refine uT HT_ 36 (some 393) ?_
                      refine uT HT_ 37 (some 394) ?_
                      refine uT HT_ 38 (some 395) ?_
                      refine pT HT_ 39 (some 396) ?_;refine done_ (done_of HT_.out (by kernel_rfl)) ?_
                      try go_wp2
                      go_ret;exact eR (bN HB)
                    ·as_aux_lemma =>
                      rw [if_neg c219] at H;have c219b0 := decide_eq_false c219;clear c219
                      replace H := iP H;obtain ⟨c224b0,H⟩ := H
                      by_cases c225 : (rd t973 x354_4) < 1
                      ·as_aux_lemma =>
                        rw [if_pos c225] at H;have c225b0 := decide_eq_true c225;clear c225;obtain rfl := Option.some.inj H
                        try go_wp2
                        replace HO_29 := aK (Kd.R_drew HO_29.out);replace HO_33 := aK (Kd.R_drew HO_33.out);replace HO_37 := aK (Kd.R_drew HO_37.out);replace HO_41 := aK (Kd.R_drew HO_41.out);replace HO_45 := aK (Kd.R_drew HO_45.out);replace HO_q4 := aK (Kd.V_drew HO_q4.out);replace HO_q8 := aK (Kd.V_drew HO_q8.out);replace BK904 := dK BK904;replace BK964 := dK BK964;replace HB := dH HB;obtain ⟨ad1005,rfl,hx1005_0,p1005,q1005⟩ := aJ (rr HO_29) x354_4;obtain ⟨Ao227,co227,eo227⟩ := Kd.R_slice HO_45.out;(first | subst eo227 | (injection eo227 with f1_ f2_ f3_;have f4_ := f1_.symm;have f5_ := f3_.symm;clear f1_ f2_ f3_;subst f4_;subst f5_));obtain ⟨ad1006,rfl,hx1006_0,p1006,q1006⟩ := aC (rr HO_45) x354_4;obtain ⟨ad1007,e1007,hx1007_0,p1007,q1007⟩ := aJ (rr HO_29) x354_4;obtain rfl := iJ e1007;obtain ⟨Ao228,co228,eo228⟩ := Kd.R_slice HO_37.out;(first | subst eo228 | (injection eo228 with f1_ f2_ f3_;have f4_ := f1_.symm;have f5_ := f3_.symm;clear f1_ f2_ f3_;subst f4_;subst f5_));obtain ⟨ad1008,rfl,hx1008_0,p1008,q1008⟩ := aJ (rr HO_37) x354_4;obtain ⟨ad1009,e1009,hx1009_0,p1009,q1009⟩ := aJ (rr HO_29) x354_4;obtain rfl := iJ e1009;obtain ⟨Ao229,co229,eo229⟩ := Kd.R_slice HO_41.out;(first | subst eo229 | (injection eo229 with f1_ f2_ f3_;have f4_ := f1_.symm;have f5_ := f3_.symm;clear f1_ f2_ f3_;subst f4_;subst f5_));obtain ⟨ad1010,rfl,hx1010_0,p1010,q1010⟩ := aJ (rr HO_41) x354_4;obtain ⟨Ao230,co230,eo230⟩ := Kd.R_slice HO_33.out;(first | subst eo230 | (injection eo230 with f1_ f2_ f3_;have f4_ := f1_.symm;have f5_ := f3_.symm;clear f1_ f2_ f3_;subst f4_;subst f5_));obtain ⟨ad1011,rfl,hx1011_0,p1011,q1011⟩ := aJ (rr HO_33) x354_4;refine start_ (n := 40) (S := fun w' => w'.cell? (ad1005.add (x354_4).toNat) = some (.int .i64 (rd t965 x354_4)) ∧ w'.cell? (ad1006.add (x354_4).toNat) = some (.bool (rdOf false t1001 x354_4)) ∧ w'.cell? (ad1005.add (x354_4).toNat) = some (.int .i64 (rd t965 x354_4)) ∧ w'.cell? (ad1008.add (x354_4).toNat) = some (.int .i64 (rd t981 x354_4)) ∧ w'.cell? (ad1005.add (x354_4).toNat) = some (.int .i64 (rd t965 x354_4)) ∧ w'.cell? (ad1010.add (x354_4).toNat) = some (.int .i64 (rd t989 x354_4)) ∧ w'.cell? (ad1011.add (x354_4).toNat) = some (.int .i64 (rd t973 x354_4))) (ds := []) #[false,false,false,false,false,false,false,false,false,false,false,false,false,false,false,false,false,false,false,false,false,false,false,false,false,false,false,false,false,false,false,false,false,false,false,false,false,false,false,false] (by kernel_rfl) rfl rfl ⟨hx1005_0,hx1006_0,hx1007_0,hx1008_0,hx1009_0,hx1010_0,hx1011_0⟩ (fun hHeld => ?_);refine with_tabW Za.tab53 Za.bits53 (fun HT_ HW_ => ?_)
                        generalize wr.drew = w226 at HO_29 HO_33 HO_37 HO_41 HO_45 HO_q4 HO_q8 BK904 BK964 HB hx1005_0 hx1006_0 hx1007_0 hx1008_0 hx1009_0 hx1010_0 hx1011_0 hHeld ⊢
                        refine pT HT_ 0 (some 357) ?_;refine pT HT_ 1 (some 358) ?_;refine pT HT_ 2 (some 359) ?_;refine pT HT_ 6 (some 363) ?_;refine pT HT_ 7 (some 364) ?_;refine pT HT_ 8 (some 365) ?_;refine tT HT_ HW_ hHeld 3 (some 360) ?_;refine pT HT_ 4 (some 361) ?_;refine pT HT_ 5 (some 362) ?_;refine tT HT_ HW_ hHeld 9 (some 366) ?_;refine pT HT_ 10 (some 367) ?_;refine pT HT_ 11 (some 368) ?_;refine pT HT_ 12 (some 369) ?_;refine pT HT_ 13 (some 370) ?_;refine pT HT_ 14 (some 371) ?_;refine pT HT_ 16 (some 373) ?_;refine pT HT_ 17 (some 374) ?_;refine pT HT_ 18 (some 375) ?_;refine tT HT_ HW_ hHeld 15 (some 372) ?_;refine tT HT_ HW_ hHeld 19 (some 376) ?_;refine pT HT_ 20 (some 377) ?_;refine pT HT_ 21 (some 378) ?_;refine pT HT_ 22 (some 379) ?_;refine pT HT_ 23 (some 380) ?_;refine pT HT_ 24 (some 381) ?_;refine pT HT_ 25 (some 382) ?_;refine pT HT_ 27 (some 384) ?_;refine pT HT_ 28 (some 385) ?_;refine pT HT_ 29 (some 386) ?_;refine tT HT_ HW_ hHeld 26 (some 383) ?_;refine tT HT_ HW_ hHeld 30 (some 387) ?_;refine pT HT_ 31 (some 388) ?_;refine pT HT_ 32 (some 389) ?_;refine pT HT_ 33 (some 390) ?_;refine pT HT_ 34 (some 391) ?_;refine pT HT_ 35 (some 392) ?_;refine pT HT_ 36 (some 393) ?_;refine tT HT_ HW_ hHeld 37 (some 394) ?_;refine pT HT_ 38 (some 395) ?_;refine pT HT_ 39 (some 396) ?_;refine done_ (done_of HT_.out (by kernel_rfl)) ?_
                        try go_wp2
                        go_ret;exact eR (bN HB)
                      ·as_aux_lemma =>
                        rw [if_neg c225] at H;have c225b0 := decide_eq_false c225;clear c225;have H' := aK H;clear H
                        try go_wp2
                        replace HO_29 := aK (Kd.R_drew HO_29.out);replace HO_33 := aK (Kd.R_drew HO_33.out);replace HO_37 := aK (Kd.R_drew HO_37.out);replace HO_41 := aK (Kd.R_drew HO_41.out);replace HO_45 := aK (Kd.R_drew HO_45.out);replace HO_q4 := aK (Kd.V_drew HO_q4.out);replace HO_q8 := aK (Kd.V_drew HO_q8.out);replace BK904 := dK BK904;replace BK964 := dK BK964;replace HB := dH HB;obtain ⟨ad1005,rfl,hx1005_0,p1005,q1005⟩ := aJ (rr HO_29) x354_4;obtain ⟨Ao232,co232,eo232⟩ := Kd.R_slice HO_45.out;(first | subst eo232 | (injection eo232 with f1_ f2_ f3_;have f4_ := f1_.symm;have f5_ := f3_.symm;clear f1_ f2_ f3_;subst f4_;subst f5_));obtain ⟨ad1006,rfl,hx1006_0,p1006,q1006⟩ := aC (rr HO_45) x354_4;obtain ⟨ad1007,e1007,hx1007_0,p1007,q1007⟩ := aJ (rr HO_29) x354_4;obtain rfl := iJ e1007;obtain ⟨Ao233,co233,eo233⟩ := Kd.R_slice HO_37.out;(first | subst eo233 | (injection eo233 with f1_ f2_ f3_;have f4_ := f1_.symm;have f5_ := f3_.symm;clear f1_ f2_ f3_;subst f4_;subst f5_));obtain ⟨ad1008,rfl,hx1008_0,p1008,q1008⟩ := aJ (rr HO_37) x354_4;obtain ⟨ad1009,e1009,hx1009_0,p1009,q1009⟩ := aJ (rr HO_29) x354_4;obtain rfl := iJ e1009;obtain ⟨Ao234,co234,eo234⟩ := Kd.R_slice HO_41.out;(first | subst eo234 | (injection eo234 with f1_ f2_ f3_;have f4_ := f1_.symm;have f5_ := f3_.symm;clear f1_ f2_ f3_;subst f4_;subst f5_));obtain ⟨ad1010,rfl,hx1010_0,p1010,q1010⟩ := aJ (rr HO_41) x354_4;obtain ⟨Ao235,co235,eo235⟩ := Kd.R_slice HO_33.out;(first | subst eo235 | (injection eo235 with f1_ f2_ f3_;have f4_ := f1_.symm;have f5_ := f3_.symm;clear f1_ f2_ f3_;subst f4_;subst f5_));obtain ⟨ad1011,rfl,hx1011_0,p1011,q1011⟩ := aJ (rr HO_33) x354_4;refine start_ (n := 40) (S := fun w' => w'.cell? (ad1005.add (x354_4).toNat) = some (.int .i64 (rd t965 x354_4)) ∧ w'.cell? (ad1006.add (x354_4).toNat) = some (.bool (rdOf false t1001 x354_4)) ∧ w'.cell? (ad1005.add (x354_4).toNat) = some (.int .i64 (rd t965 x354_4)) ∧ w'.cell? (ad1008.add (x354_4).toNat) = some (.int .i64 (rd t981 x354_4)) ∧ w'.cell? (ad1005.add (x354_4).toNat) = some (.int .i64 (rd t965 x354_4)) ∧ w'.cell? (ad1010.add (x354_4).toNat) = some (.int .i64 (rd t989 x354_4)) ∧ w'.cell? (ad1011.add (x354_4).toNat) = some (.int .i64 (rd t973 x354_4))) (ds := []) #[false,false,false,false,false,false,false,false,false,false,false,false,false,false,false,false,false,false,false,false,false,false,false,false,false,false,false,false,false,false,false,false,false,false,false,false,false,false,false,false] (by kernel_rfl) rfl rfl ⟨hx1005_0,hx1006_0,hx1007_0,hx1008_0,hx1009_0,hx1010_0,hx1011_0⟩ (fun hHeld => ?_);refine with_tabW Za.tab53 Za.bits53 (fun HT_ HW_ => ?_)
                        generalize wr.drew = w231 at HO_29 HO_33 HO_37 HO_41 HO_45 HO_q4 HO_q8 BK904 BK964 HB hx1005_0 hx1006_0 hx1007_0 hx1008_0 hx1009_0 hx1010_0 hx1011_0 hHeld ⊢
                        refine pT HT_ 0 (some 357) ?_;refine pT HT_ 1 (some 358) ?_;refine pT HT_ 2 (some 359) ?_;refine pT HT_ 6 (some 363) ?_;refine pT HT_ 7 (some 364) ?_;refine pT HT_ 8 (some 365) ?_;refine tT HT_ HW_ hHeld 3 (some 360) ?_;refine pT HT_ 4 (some 361) ?_;refine pT HT_ 5 (some 362) ?_;refine tT HT_ HW_ hHeld 9 (some 366) ?_;refine pT HT_ 10 (some 367) ?_;refine pT HT_ 11 (some 368) ?_;refine pT HT_ 12 (some 369) ?_;refine pT HT_ 13 (some 370) ?_;refine pT HT_ 14 (some 371) ?_;refine pT HT_ 16 (some 373) ?_;refine pT HT_ 17 (some 374) ?_;refine pT HT_ 18 (some 375) ?_;refine tT HT_ HW_ hHeld 15 (some 372) ?_;refine tT HT_ HW_ hHeld 19 (some 376) ?_;refine pT HT_ 20 (some 377) ?_;refine pT HT_ 21 (some 378) ?_;refine pT HT_ 22 (some 379) ?_;refine pT HT_ 23 (some 380) ?_;refine pT HT_ 24 (some 381) ?_;refine pT HT_ 25 (some 382) ?_;refine pT HT_ 27 (some 384) ?_;refine pT HT_ 28 (some 385) ?_;refine pT HT_ 29 (some 386) ?_;refine tT HT_ HW_ hHeld 26 (some 383) ?_;refine tT HT_ HW_ hHeld 30 (some 387) ?_;refine pT HT_ 31 (some 388) ?_;refine pT HT_ 32 (some 389) ?_;refine pT HT_ 33 (some 390) ?_;refine pT HT_ 34 (some 391) ?_;refine pT HT_ 35 (some 392) ?_;refine pT HT_ 36 (some 393) ?_;refine tT HT_ HW_ hHeld 37 (some 394) ?_;refine pT HT_ 38 (some 395) ?_;refine pT HT_ 39 (some 396) ?_;refine done_ (done_of HT_.out (by kernel_rfl)) ?_
                        try go_wp2
                        go_roundg k4
                        case measure => have := HJ10.out;have := HJ53.out;have := HJ132.out;have := HK4.out;omega
                        case rel => exact ⟨(wrap64 (x354_4 + 1)),rD,H',o4 HJ10 HJ53 HJ132 HK4,⟨rN HO_29⟩,⟨rN HO_33⟩,⟨rN HO_37⟩,⟨rN HO_41⟩,⟨rN HO_45⟩,⟨vN HO_q4⟩,⟨vN HO_q8⟩,⟨kN BK904⟩,⟨kN BK964⟩,⟨bN HB⟩⟩
              ·as_aux_lemma =>
                rw [if_neg c206] at H;have c206b0 := decide_eq_false c206;clear c206;have H' := aK H;clear H;go_wp2;go_meet
                case rel => exact ⟨_,H',o4 HJ10 HJ53 HJ132 HK4,vW HO_q4,vW HO_q8,⟨kN BK904⟩,⟨kN BK964⟩,⟨bN HB⟩⟩
        ·as_aux_lemma =>
          rw [if_neg c201] at H;have c201b0 := beq_eq_false_iff_ne.mpr c201;have c201b1 := bne_iff_ne.mpr c201;obtain rfl := Option.some.inj H;have hnb236 := NB964_904.out;have hnc236 := NB904_964.out;have hcz237_0 := z0 BK964;have hfz237_0 := fZ BK964 0
          as_aux_lemma =>
           go_wp2_with ((with_reducible refine wP ?_);first | (refine gS 347 Try.func13 (ZS.calls kj132 _ _ t961 t1001 t1004 _ (cM (vr HO_q8)) (vq HO_q8) A200.out) ?_;rintro e w238 ⟨v1002,rfl,ho0,hb⟩;refine ⟨_,rfl,?_⟩;replace HO_29 := rB HO_29 hb;replace HO_33 := rB HO_33 hb;replace HO_37 := rB HO_37 hb;replace HO_41 := rB HO_41 hb;replace HO_q4 := vL HO_q4 (rb ho0) hb;replace HO_q8 := vL HO_q8 (rb ho0) hb;have HO1003 := rl ho0 HB;replace BK904 := kB BK904 hb;replace BK964 := kB BK964 hb;replace HB := hB HB hb;(try clear hb);(try clear hb2);(try clear hk);(try clear hi);(try clear ho0)))
           go_ret;exact eR (bN HB)
      ·as_aux_lemma =>
        rw [if_neg c199] at H;have c199b0 := beq_eq_false_iff_ne.mpr c199;have c199b1 := bne_iff_ne.mpr c199;(first | rw [c199b0] | (simp only [i64_w,i32_w];rw [c199b0]) | skip);have H' := aK H;clear H;go_wp2;go_meet
        case rel => exact ⟨_,H',o3 HJ10 HJ53 HJ132,vW HO_q4,vW HO_q8,⟨kN BK904⟩,⟨kN BK964⟩,⟨bN HB⟩⟩
    case rest =>
     clear HC198
     try clear c1
     try clear p1
     try clear q1
     try clear hx1
     try clear c2
     try clear p2
     try clear p6
     try clear p10
     try clear q10
     try clear hx10
     try clear c13
     try clear c19
     try clear c20
     try clear c21
     try clear c22
     try clear c23
     try clear p64
     try clear p100
     try clear q100
     try clear hx100
     try clear p101
     try clear q101
     try clear hx101
     try clear c199
     try clear c199b0
     try clear c199b1
     try clear c201
     try clear c201b0
     try clear c201b1
     try clear c206
     try clear c206b0
     try clear c207
     try clear c208
     try clear c209
     try clear c213
     try clear c218
     try clear c224
     try clear c225
     try clear c225b0
     try clear c236
     try clear hcz237_0
     try clear hfz237_0
     try clear hx1005_0
     try clear hx1006_0
     try clear hx1007_0
     try clear hx1008_0
     try clear hx1009_0
     try clear hx1010_0
     try clear hx1011_0
     try clear p1005
     try clear p1006
     try clear p1007
     try clear p1008
     try clear p1009
     try clear p1010
     try clear p1011
     try clear q1005
     try clear q1006
     try clear q1007
     try clear q1008
     try clear q1009
     try clear q1010
     try clear q1011
     go_step;exact HS6 hu26 HR0 HC0 HJ10 HJ53 hnb137 hnc137 HJ132 hcut
end Go.Proofs.Ytfpoppidppoeoaa.PX
