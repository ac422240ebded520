/- Part 4 of the texts under the row of FnAnswers (no condition). -/
import Derived.Test.YtkbjoiebaphdoaaPk3FnAnswers
namespace Go.Proofs.Ytkbjoiebaphdoaa.PA
open Go.RowKit Go.Proofs.YtkbjoiebaphdoaaW.PrintWords Go.Proofs.YtkbjoiebaphdoaaW.PrintLast Go.Proofs.YtkbjoiebaphdoaaW.PrintMore
attribute [local go_sem] max2_int min2_int max_two min_two max_three min_three max_four min_four
set_option linter.unusedVariables false
set_option linter.unusedSimpArgs false
def spec_l04With.pick (s : List Int) (n m boxes : Int) (l : List Int) : Option (Int × Int × Int) :=
 if l.length = 0 then some (boxes,n,m) else
 (spec_l01Next.f s n m 8).bind fun p => if p.1 > 0 then (spec_l01Next.f s p.2.1 p.2.2 (l.length : Int)).bind fun q => (if 0 ≤ q.1 then (if q.1 < (l.length : Int) then some (rd l q.1,q.2.1,q.2.2) else none) else none) else some (boxes,p.2.1,p.2.2)
def spec_l04With.f (k : Nat) (l0 : List Int) : Option (List Int × List Int × Bool × Int) := (spec_l01From.f k l0).bind fun bt457 => ((spec_l04DrawOf.f k bt457.1 bt457.2.1 bt457.2.2).bind fun bt461 => ((spec_l01Next.f bt457.1 bt461.2.2.1 bt461.2.2.2 3).bind fun bt470 => ((spec_l01Pick.f bt457.1 bt470.2.1 bt470.2.2 (([0, 1, 3, 4, (-1)] : List Int))).bind fun bt476 => ((spec_l04With.pick bt457.1 bt476.2.1 bt476.2.2 bt476.1 (if bt470.1 = 0 then bt461.2.1 else bt461.1)).bind fun be => ((spec_l04Bad.f bt457.1 be.2.1 be.2.2 bt461.1 bt461.2.1).bind fun bt479 => (some (bt479.1, bt479.2.1, (bt470.1 == 0), be.1)))))))
theorem spec_l04With.mono : ∀ a0 k, LeO (spec_l04With.f k a0) (spec_l04With.f (k + 1) a0) := by
 intro a0 k;unfold spec_l04With.f
 repeat' first
  | (with_reducible exact spec_l01From.mono _ _)
  | (with_reducible exact spec_l04DrawOf.mono _ _ _ _)
  | (with_reducible exact LeO.refl _)
  | (with_reducible exact LeO.none _)
  | (with_reducible refine LeO.ite ?_ ?_)
  | (with_reducible refine LeO.bind ?_ (fun _ => ?_))
  | exact spec_l01From.mono _ _
  | exact spec_l04DrawOf.mono _ _ _ _
  | exact LeO.none _
  | refine LeO.ite ?_ ?_
  | refine LeO.bind ?_ (fun _ => ?_)
set_option maxHeartbeats 8000000 in
set_option maxRecDepth 100000 in
theorem spec_l04With.calls (k : Nat) (A0 : Option Addr) (c0 : Nat) (l0 : List Int) (r1 : List Int) (r2 : List Int) (r3 : Bool) (r4 : Int) (w : World) (hr0 : Kd.C (Kd.int .u8) w A0 l0.length l0) (hc0 : l0.length ≤ c0) (h : spec_l04With.f k l0 = some (r1, r2, r3, r4)) :
 Calls Try.prog 89 #[.slice A0 l0.length c0] w fun e w' => ∃ v0_ v1_ : Value,e = .returned (.tuple #[.agg #[v0_,v1_],.bool r3,.int .i64 r4]) ∧ Kd.R (Kd.int .i64) 2 w' w.heap.size (fun k_ => some k_ ≠ (v1_ : Value).ownBlock) v0_ r1 ∧ Kd.R (Kd.int .i64) 2 w' w.heap.size (fun k_ => some k_ ≠ (v0_ : Value).ownBlock) v1_ r2 ∧ Below w.heap.size w w' := by
 have hu27 := Try.underlying27;have HR0 := aK hr0;have HC0 := aK hc0;clear hr0 hc0;have HB := aK (Below.refl w.heap.size w);unfold spec_l04With.f at h;obtain ⟨⟨t457,t458,t459⟩,A20,H⟩ := Option.bind_eq_some_iff.mp h;clear h;have A2 := aK A20;clear A20;obtain ⟨⟨t461,t464,t467,t468⟩,A30,H⟩ := Option.bind_eq_some_iff.mp H;have A3 := aK A30;clear A30;obtain ⟨⟨t470,t471,t472⟩,A40,H⟩ := Option.bind_eq_some_iff.mp H;have A4 := aK A40;clear A40;obtain ⟨⟨t476,t477,t478⟩,A50,H⟩ := Option.bind_eq_some_iff.mp H;obtain ⟨y473,hy473⟩ : ∃ y_ : List Int,y_ = (([0,1,3,4,(-1)] : List Int)) := ⟨_,rfl⟩;rw [← hy473] at A50;have A5 := aK A50;clear A50;have Ny473 := aK hy473;clear hy473;obtain ⟨⟨x4,x5,x6⟩,hP,H⟩ := Option.bind_eq_some_iff.mp H;obtain ⟨⟨t479,t482,t485,t486⟩,A60,H⟩ := Option.bind_eq_some_iff.mp H;have A6 := aK A60;clear A60;simp only [Option.some.injEq,Prod.mk.injEq] at H;obtain ⟨rfl,rfl,rfl,rfl⟩ := H;have HP := aK hP;clear hP H;go_enter Try.func89,Try.ntmps89
 go_upto_region 4 with (first | ((with_reducible refine gate_dst (N := 2) rfl ?_);refine boxE 2 #[.slice none 0 0,.slice none 0 0] 27 ?_;intro gb456 hg w7 hbox hb;have BK456 := aK (hbox);have GW456 := aK (zG HB hg);have GE456 := aK (zG HB hg);replace HB := hB HB hb;clear hb hbox hg) | ((with_reducible refine gate_callee (f := 90) rfl ?_);refine goesE (some 11) Try.func90 #[.slice A0 l0.length c0] ?_;(with_reducible refine (spec_l01From.calls k _ _ l0 t457 t458 t459 w _ ?side1 ?side2 ?side3 A2.out).mono ?_);(case side1 => exact bN HB);(case side2 => exact HR0.out);(case side3 => exact HC0.out);rintro e w8 ⟨g460,rfl,hi,hb,hb2⟩;refine ⟨_,rfl,?_⟩;replace HB := aK (hb);have HI460 := aK (hi);have NB460_456 := aK (IsS118.ne_blk hi (blk_below (g := gb456) (o := .cells #[.slice none 0 0,.slice none 0 0] 27 (0,0)) (kN BK456) hb2) (by decide));have NB456_460 := aK (Ne.symm (IsS118.ne_blk hi (blk_below (g := gb456) (o := .cells #[.slice none 0 0,.slice none 0 0] 27 (0,0)) (kN BK456) hb2) (by decide)));replace BK456 := aK (blk_below (g := gb456) (o := .cells #[.slice none 0 0,.slice none 0 0] 27 (0,0)) (kN BK456) hb2);clear hb hb2 hi) | ((with_reducible refine gate_callee (f := 110) rfl ?_);refine goesE (some 13) Try.func110 #[.pointer (some ⟨g460,0,none⟩)] ?_;(with_reducible refine (spec_l04DrawOf.calls k g460 t457 t458 t459 t461 t464 t467 t468 w _ ?side1 ?side2 A3.out).mono ?_);(case side1 => exact iN HI460);(case side2 => exact bI HB);rintro e w9 ⟨v462,v465,rfl,ho0,ho1,hi,hb,hk⟩;refine ⟨_,rfl,?_⟩;replace BK456 := aK (KeepBut.blk hk (g' := gb456) (o := .cells #[.slice none 0 0,.slice none 0 0] 27 (0,0)) (kN BK456) NB456_460.out (by simp));have HO463 := aK (Kd.R_lower ho0 (below_size ((bI HB))));have HO466 := aK (Kd.R_lower ho1 (below_size ((bI HB))));replace HB := aK (hb);replace HI460 := aK (hi);clear hb hk hi ho0 ho1) | ((with_reducible refine gate_dst (N := 6) rfl ?_);refine boxE 6 #[.slice none 0 0,.slice none 0 0] 27 ?_;intro gb469 hg w10 hbox hb;replace HO463 := rB HO463 hb;replace HO466 := rB HO466 hb;have BK469 := aK (hbox);have GW469 := aK ((by rw [hg];exact (below_size ((bI HB))) : w.heap.size ≤ gb469));have GE469 := aK ((by rw [hg];exact (below_size ((bI HB))) : w.heap.size ≤ gb469));replace HB := aK (below_step ((bI HB)) hb);have NB456_469 := aK ((by rw [hg];exact Nat.ne_of_lt (blk_lt (g := gb456) (o := .cells #[.slice none 0 0,.slice none 0 0] 27 (0,0)) (kN BK456)) : gb456 ≠ gb469));have NB469_456 := aK ((by rw [hg];exact Nat.ne_of_gt (blk_lt (g := gb456) (o := .cells #[.slice none 0 0,.slice none 0 0] 27 (0,0)) (kN BK456)) : gb469 ≠ gb456));replace BK456 := kB BK456 hb;have NB460_469 := aK ((by rw [hg];exact Nat.ne_of_lt (IsS118.lt (show IsS118 w _ g460 t457 t467 t468 from (iN HI460))) : g460 ≠ gb469));have NB469_460 := aK ((by rw [hg];exact Nat.ne_of_gt (IsS118.lt (show IsS118 w _ g460 t457 t467 t468 from (iN HI460))) : gb469 ≠ g460));replace HI460 := aK (IsS118.below ((iN HI460)) hb);clear hb hbox hg;obtain ⟨Ao11,co11,eo11⟩ := Kd.R_slice HO463.out;subst eo11;have hnb12 := NB469_456.out;have hnc12 := NB456_469.out;have hnb13 := NB469_460.out;have hnc13 := NB460_469.out;have hcz14_0 := y0 BK469;have hcz14_1 := y1 BK469;have hfz14_0 := blk_frozen BK469.out 0;have hfz14_1 := blk_frozen BK469.out 1;obtain ⟨Ao15,co15,eo15⟩ := Kd.R_slice HO466.out;subst eo15) | ((with_reducible refine gate_callee (f := 111) rfl ?_);refine goesE (some 15) Try.func111 #[.pointer (some ⟨g460,0,none⟩),.int .i64 3] ?_;(with_reducible refine (spec_l01Next.calls g460 t457 t467 t468 3 t470 t471 t472 w _ ?side1 ?side2 A4.out).mono ?_);(case side1 => exact iN HI460);(case side2 => exact bI HB);rintro e w16 ⟨rfl,hi,hb,hk⟩;refine ⟨_,rfl,?_⟩;replace BK456 := aK (KeepBut.blk hk (g' := gb456) (o := .cells #[.slice none 0 0,.slice none 0 0] 27 (0,0)) (kZ BK456) NB456_460.out (by simp));replace HO463 := aK (Kd.R_mono (Kd.R_keep (IsS118.apart (show IsS118 w _ g460 t457 t467 t468 from (iN HI460)) (rM ((Kd.R_mono (Kd.R_far (p := ⟨gb469,1,none⟩) (Kd.R_far (p := ⟨gb469,0,none⟩) (Kd.R_types HO463.out BK469.out (by decide)) (fun _ hk => hk.2) (.slice Ao11 t461.length co11)) (fun _ hk => hk.2) (.slice Ao15 t464.length co15)) (fun _ h_ => h_.1)))) (by decide)) hk (fun _ h => h.2)) (fun _ h => h.1));replace HO466 := aK (Kd.R_mono (Kd.R_keep (IsS118.apart (show IsS118 w _ g460 t457 t467 t468 from (iN HI460)) (rM ((Kd.R_mono (Kd.R_far (p := ⟨gb469,1,none⟩) (Kd.R_far (p := ⟨gb469,0,none⟩) (Kd.R_types HO466.out BK469.out (by decide)) (fun _ hk => hk.2) (.slice Ao11 t461.length co11)) (fun _ hk => hk.2) (.slice Ao15 t464.length co15)) (fun _ h_ => h_.1)))) (by decide)) hk (fun _ h => h.2)) (fun _ h => h.1));replace BK469 := aK (KeepBut.blk hk (g' := gb469) (o := .cells #[.slice Ao11 t461.length co11,.slice Ao15 t464.length co15] 27 (0,0)) (by (with_reducible repeat (first | refine blk_drewN ?_ _ | refine blk_drew ?_ | refine blk_alloc ?_ _));refine blk_put (cs := #[.slice Ao11 t461.length co11,.slice none 0 0]) ?_ 1 _ rfl;(with_reducible repeat (first | refine blk_drewN ?_ _ | refine blk_drew ?_ | refine blk_alloc ?_ _));refine blk_put (cs := #[.slice none 0 0,.slice none 0 0]) ?_ 0 _ rfl;(with_reducible repeat (first | refine blk_drewN ?_ _ | refine blk_drew ?_ | refine blk_alloc ?_ _));exact BK469.out) NB469_460.out (by simp));replace HB := aK (hb);replace HI460 := aK (hi);clear hb hk hi) | ((with_reducible refine gate_dst (N := 18) rfl ?_);refine Kd.R_lit (Kd.int .i64) _ 2 ?hg (N := 18) ?hd (xs := ([0,1,3,4,(-1)] : List Int)) (inner := [.int .i64 0,.int .i64 1,.int .i64 3,.int .i64 4,.int .i64 (-1)]) (ok := fun _ => True) (okp := fun _ => True) ?hr ?hp (fun _ hk => hk) trivial (Below.refl _ _) (Nat.le_refl _) (by simp) ?_;(case hd => rfl);(case hg => rfl);(case hr => first | (go_simp;done) | (go_simp;rfl));(case hp => exact (Reps.one (show Kd.M (Kd.int .i64) _ _ _ 0 [.int .i64 0] from rfl) (Reps.one (show Kd.M (Kd.int .i64) _ _ _ 1 [.int .i64 1] from rfl) (Reps.one (show Kd.M (Kd.int .i64) _ _ _ 3 [.int .i64 3] from rfl) (Reps.one (show Kd.M (Kd.int .i64) _ _ _ 4 [.int .i64 4] from rfl) (Reps.one (show Kd.M (Kd.int .i64) _ _ _ (-1) [.int .i64 (-1)] from rfl) (Reps.none _ _)))))));intro v474 w17 ho18 hb hg_ hnew_;clear hg_ hnew_;(first | rw [← Ny473.out] at ho18 | (simp only [Int.reduceToNat] at ho18;rw [← Ny473.out] at ho18));have HO475 := aK (Kd.R_lower (Kd.R_new' (Kd.R_new' ho18 (Kd.R_lt (rN HO463))) (Kd.R_lt (rN HO466))) (below_size ((bI HB))));replace HO463 := aK (Kd.R_elder' (rN HO463) (Kd.R_base ho18) hb);replace HO466 := aK (Kd.R_elder' (rN HO466) (Kd.R_base ho18) hb);replace BK456 := kB BK456 hb;replace HI460 := aK (IsS118.below ((iN HI460)) hb);replace BK469 := kB BK469 hb;replace HB := aK (below_step ((bI HB)) hb);clear hb ho18;obtain ⟨Ao19,co19,eo19⟩ := Kd.R_slice HO475.out;subst eo19) | ((with_reducible refine gate_callee (f := 92) rfl ?_);refine goesE (some 19) Try.func92 #[.pointer (some ⟨g460,0,none⟩),.slice Ao19 y473.length co19] ?_;(with_reducible refine (spec_l01Pick.calls g460 t457 t471 t472 _ _ y473 t476 t477 t478 w _ ?side1 ?side2 ?side3 ?side4 ?side5 A5.out).mono ?_);(case side1 => exact iN HI460);(case side2 => exact bI HB);(case side3 => exact cR HO475);(case side4 => exact (Kd.R_reads' HO475.out).2.1);(case side5 => exact far_slice (IsS118.own_ne HI460.out HO475.out (by decide)));rintro e w20 ⟨rfl,hi,hb,hk⟩;refine ⟨_,rfl,?_⟩;replace BK456 := aK (KeepBut.blk hk (g' := gb456) (o := .cells #[.slice none 0 0,.slice none 0 0] 27 (0,0)) (kN BK456) NB456_460.out (by simp));replace HO463 := aK (Kd.R_mono (Kd.R_keep (IsS118.apart (show IsS118 w _ g460 t457 t471 t472 from (iN HI460)) (rN HO463) (by decide)) hk (fun _ h => h.2)) (fun _ h => h.1));replace HO466 := aK (Kd.R_mono (Kd.R_keep (IsS118.apart (show IsS118 w _ g460 t457 t471 t472 from (iN HI460)) (rN HO466) (by decide)) hk (fun _ h => h.2)) (fun _ h => h.1));replace BK469 := aK (KeepBut.blk hk (g' := gb469) (o := .cells #[.slice Ao11 t461.length co11,.slice Ao15 t464.length co15] 27 (0,0)) (kN BK469) NB469_460.out (by simp));replace HO475 := aK (Kd.R_mono (Kd.R_keep (IsS118.apart (show IsS118 w _ g460 t457 t471 t472 from (iN HI460)) (rN HO475) (by decide)) hk (fun _ h => h.2)) (fun _ h => h.1));replace HB := aK (hb);replace HI460 := aK (hi);clear hb hk hi;have hcz21_0 := y0 BK469;have hcz21_1 := y1 BK469;have hfz21_0 := blk_frozen BK469.out 0;have hfz21_1 := blk_frozen BK469.out 1))
 by_cases c7 : t470 = 0
 ·have HP1 := HP.out;clear HP;rw [if_pos c7] at HP1;have c7b := beq_iff_eq.mpr c7;clear c7;rw [c7b];unfold spec_l04With.pick at HP1
  by_cases c8 : t464.length = 0
  ·rw [if_pos c8] at HP1;simp only [Option.some.injEq,Prod.mk.injEq] at HP1;obtain ⟨rfl,rfl,rfl⟩ := HP1;have c8b : (0 < t464.length) = False := eq_false (by omega);clear c8
   go_wp2_with (first | ((with_reducible refine gate_callee (f := 112) rfl ?_);refine goesE (some 42) Try.func112 #[.pointer (some ⟨g460,0,none⟩),.agg #[.slice Ao11 t461.length co11,.slice Ao15 t464.length co15]] ?_;(with_reducible refine (spec_l04Bad.calls g460 t457 t477 t478 (fun k_ => some k_ = (.slice Ao11 t461.length co11 : Value).ownBlock) (.slice Ao11 t461.length co11) t461 (fun k_ => some k_ = (.slice Ao15 t464.length co15 : Value).ownBlock) (.slice Ao15 t464.length co15) t464 t479 t482 t485 t486 w _ ?side1 ?side2 ?side3 ?side4 ?side5 ?side6 A6.out).mono ?_);(case side1 => exact iN HI460);(case side2 => exact bI HB);(case side3 => exact Kd.R_tight rfl HO463.out);(case side4 => exact fun k_ e_ => (HO463.out.1 k_ e_.symm).1);(case side5 => exact Kd.R_tight rfl HO466.out);(case side6 => exact fun k_ e_ => (HO466.out.1 k_ e_.symm).1);rintro e w22 ⟨v480,v483,rfl,ho0,ho1,hi,hb,hkp⟩;refine ⟨_,rfl,?_⟩;replace BK456 := aK (blk_kept (kN BK456) hkp (fun hs_ => Or.elim hs_ (fun hs_ => Or.elim hs_ (fun e_ => (fun e_ => (Kd.R_ne HO463.out BK456.out (by decide)) e_) e_) (fun e_ => (fun e_ => (Kd.R_ne HO466.out BK456.out (by decide)) e_) e_)) (fun e_ => NB456_460.out e_)));replace HI460 := aK (hi);replace BK469 := aK (blk_kept (kN BK469) hkp (fun hs_ => Or.elim hs_ (fun hs_ => Or.elim hs_ (fun e_ => (fun e_ => (Kd.R_ne HO463.out BK469.out (by decide)) e_) e_) (fun e_ => (fun e_ => (Kd.R_ne HO466.out BK469.out (by decide)) e_) e_)) (fun e_ => NB469_460.out e_)));have HO481 := aK (Kd.R_mono (ok' := fun k_ => some k_ ≠ (v483 : Value).ownBlock) ho0 (fun k_ hk_ => hk_.2));have HO484 := aK (Kd.R_mono (ok' := fun k_ => some k_ ≠ (v480 : Value).ownBlock) ho1 (fun k_ hk_ => hk_.2));replace HB := aK (hb);clear HO475 HO463 HO466;clear hb hkp ho0 ho1;obtain ⟨Ao23,co23,eo23⟩ := Kd.R_slice HO481.out;subst eo23;have hnb24 := NB456_460.out;have hnc24 := NB460_456.out;have hcz25_0 := y0 BK456;have hcz25_1 := y1 BK456;have hfz25_0 := blk_frozen BK456.out 0;have hfz25_1 := blk_frozen BK456.out 1;obtain ⟨Ao26,co26,eo26⟩ := Kd.R_slice HO484.out;subst eo26))
   refine bodyPost_ret (results_ctt rfl _ _ gb456 27 #[.slice Ao23 t479.length co23,.slice Ao26 t482.length co26] (0,0) _ rfl (by (with_reducible repeat (first | refine blk_drewN ?_ _ | refine blk_drew ?_ | refine blk_alloc ?_ _));refine blk_put (cs := #[.slice Ao23 t479.length co23,.slice none 0 0]) ?_ 1 _ rfl;(with_reducible repeat (first | refine blk_drewN ?_ _ | refine blk_drew ?_ | refine blk_alloc ?_ _));refine blk_put (cs := #[.slice none 0 0,.slice none 0 0]) ?_ 0 _ rfl;(with_reducible repeat (first | refine blk_drewN ?_ _ | refine blk_drew ?_ | refine blk_alloc ?_ _));exact BK456.out) Try.underlying27 rfl (by kernel_rfl)) rfl ?_;exact ⟨_,_,by first | rfl | (simp [errW_none,errW_some] <;> rfl) | (simp [*,errW_none,errW_some] <;> rfl),by (with_reducible repeat (first | apply Kd.R_alloc | apply Kd.R_drewN | apply Kd.R_drew));exact Kd.R_mono (Kd.R_far (p := ⟨gb456,1,none⟩) (Kd.R_far (p := ⟨gb456,0,none⟩) (Kd.R_types HO481.out BK456.out (by decide)) (fun _ hk => hk.2) (.slice Ao23 t479.length co23)) (fun _ hk => hk.2) (.slice Ao26 t482.length co26)) (fun _ hk => hk.1),by (with_reducible repeat (first | apply Kd.R_alloc | apply Kd.R_drewN | apply Kd.R_drew));exact Kd.R_mono (Kd.R_far (p := ⟨gb456,1,none⟩) (Kd.R_far (p := ⟨gb456,0,none⟩) (Kd.R_types HO484.out BK456.out (by decide)) (fun _ hk => hk.2) (.slice Ao23 t479.length co23)) (fun _ hk => hk.2) (.slice Ao26 t482.length co26)) (fun _ hk => hk.1),(bI HB)⟩
  ·rw [if_neg c8] at HP1;have c8b : (0 < t464.length) = True := eq_true (by omega);obtain ⟨ad9,ea9,hx9⟩ := Kd.at_int (Kd.R_reads' HO466.out).2.2 0 (Int.le_refl 0) (by omega);clear hx9;subst ea9;clear c8;obtain ⟨⟨t500,t501,t502⟩,A70,HP1⟩ := Option.bind_eq_some_iff.mp HP1;have A7 := aK A70;clear A70
   by_cases c9 : t500 > 0
   ·replace HP1 := (if_pos c9).symm.trans HP1;obtain ⟨⟨t504,t505,t506⟩,A80,HP1⟩ := Option.bind_eq_some_iff.mp HP1;have A8 := aK A80;clear A80;have p504 : 0 ≤ t504 := by
     by_cases h : 0 ≤ t504
     ·exact h
     ·exact absurd ((if_neg h).symm.trans HP1) (by simp)
    replace HP1 := (if_pos p504).symm.trans HP1;have q504 : t504 < (t464.length : Int) := by
     by_cases h : t504 < (t464.length : Int)
     ·exact h
     ·exact absurd ((if_neg h).symm.trans HP1) (by simp)
    replace HP1 := (if_pos q504).symm.trans HP1;simp only [Option.some.injEq,Prod.mk.injEq] at HP1;obtain ⟨rfl,rfl,rfl⟩ := HP1;have c9b : (0 < t500) = True := eq_true c9;clear c9;have P504 := aK p504;have Q504 := aK q504;clear p504 q504
    go_wp2_with (first | ((with_reducible refine gate_callee (f := 111) rfl ?_);(try (refine gate_guard (by rfl) ?_;dsimp only));refine goesE (some 30) Try.func111 #[.pointer (some ⟨g460,0,none⟩),.int .i64 8] ?_;(with_reducible refine (spec_l01Next.calls g460 t457 t477 t478 8 t500 t501 t502 w _ ?side1 ?side2 A7.out).mono ?_);(case side1 => exact iN HI460);(case side2 => exact bI HB);rintro e w30 ⟨rfl,hi,hb,hk⟩;refine ⟨_,rfl,?_⟩;replace BK456 := aK (KeepBut.blk hk (g' := gb456) (o := .cells #[.slice none 0 0,.slice none 0 0] 27 (0,0)) (kN BK456) NB456_460.out (by simp));replace HO463 := aK (Kd.R_mono (Kd.R_keep (IsS118.apart (show IsS118 w _ g460 t457 t477 t478 from (iN HI460)) (rN HO463) (by decide)) hk (fun _ h => h.2)) (fun _ h => h.1));replace HO466 := aK (Kd.R_mono (Kd.R_keep (IsS118.apart (show IsS118 w _ g460 t457 t477 t478 from (iN HI460)) (rN HO466) (by decide)) hk (fun _ h => h.2)) (fun _ h => h.1));replace BK469 := aK (KeepBut.blk hk (g' := gb469) (o := .cells #[.slice Ao11 t461.length co11,.slice (some ad9) t464.length co15] 27 (0,0)) (kN BK469) NB469_460.out (by simp));replace HO475 := aK (Kd.R_mono (Kd.R_keep (IsS118.apart (show IsS118 w _ g460 t457 t477 t478 from (iN HI460)) (rN HO475) (by decide)) hk (fun _ h => h.2)) (fun _ h => h.1));replace HB := aK (hb);replace HI460 := aK (hi);clear hb hk hi;have hcz30_0 := y0 BK469;have hcz30_1 := y1 BK469;have hfz30_0 := blk_frozen BK469.out 0;have hfz30_1 := blk_frozen BK469.out 1) | ((with_reducible refine gate_callee (f := 111) rfl ?_);refine goesE (some 37) Try.func111 #[.pointer (some ⟨g460,0,none⟩),.int .i64 (t464.length : Int)] ?_;(with_reducible refine (spec_l01Next.calls g460 t457 t501 t502 (t464.length : Int) t504 t505 t506 w _ ?side1 ?side2 A8.out).mono ?_);(case side1 => exact iN HI460);(case side2 => exact bI HB);rintro e w37 ⟨rfl,hi,hb,hk⟩;refine ⟨_,rfl,?_⟩;replace BK456 := aK (KeepBut.blk hk (g' := gb456) (o := .cells #[.slice none 0 0,.slice none 0 0] 27 (0,0)) (kN BK456) NB456_460.out (by simp));replace HO463 := aK (Kd.R_mono (Kd.R_keep (IsS118.apart (show IsS118 w _ g460 t457 t501 t502 from (iN HI460)) (rN HO463) (by decide)) hk (fun _ h => h.2)) (fun _ h => h.1));replace HO466 := aK (Kd.R_mono (Kd.R_keep (IsS118.apart (show IsS118 w _ g460 t457 t501 t502 from (iN HI460)) (rN HO466) (by decide)) hk (fun _ h => h.2)) (fun _ h => h.1));replace BK469 := aK (KeepBut.blk hk (g' := gb469) (o := .cells #[.slice Ao11 t461.length co11,.slice (some ad9) t464.length co15] 27 (0,0)) (kN BK469) NB469_460.out (by simp));replace HO475 := aK (Kd.R_mono (Kd.R_keep (IsS118.apart (show IsS118 w _ g460 t457 t501 t502 from (iN HI460)) (rN HO475) (by decide)) hk (fun _ h => h.2)) (fun _ h => h.1));replace HB := aK (hb);replace HI460 := aK (hi);clear hb hk hi;have hcz37_0 := y0 BK469;have hcz37_1 := y1 BK469;have hfz37_0 := blk_frozen BK469.out 0;have hfz37_1 := blk_frozen BK469.out 1;obtain ⟨ad37,e37,hx37⟩ := Kd.at_int (Kd.R_reads' HO466.out).2.2 t504 P504.out Q504.out;replace e37 := Option.some.inj e37;subst e37;have p504 := eq_true P504.out;have q504 := eq_true Q504.out) | ((with_reducible refine gate_callee (f := 112) rfl ?_);refine goesE (some 42) Try.func112 #[.pointer (some ⟨g460,0,none⟩),.agg #[.slice Ao11 t461.length co11,.slice (some ad9) t464.length co15]] ?_;(with_reducible refine (spec_l04Bad.calls g460 t457 t505 t506 (fun k_ => some k_ = (.slice Ao11 t461.length co11 : Value).ownBlock) (.slice Ao11 t461.length co11) t461 (fun k_ => some k_ = (.slice (some ad9) t464.length co15 : Value).ownBlock) (.slice (some ad9) t464.length co15) t464 t479 t482 t485 t486 w _ ?side1 ?side2 ?side3 ?side4 ?side5 ?side6 A6.out).mono ?_);(case side1 => exact iN HI460);(case side2 => exact bI HB);(case side3 => exact Kd.R_tight rfl HO463.out);(case side4 => exact fun k_ e_ => (HO463.out.1 k_ e_.symm).1);(case side5 => exact Kd.R_tight rfl HO466.out);(case side6 => exact fun k_ e_ => (HO466.out.1 k_ e_.symm).1);rintro e w22 ⟨v480,v483,rfl,ho0,ho1,hi,hb,hkp⟩;refine ⟨_,rfl,?_⟩;replace BK456 := aK (blk_kept (kN BK456) hkp (fun hs_ => Or.elim hs_ (fun hs_ => Or.elim hs_ (fun e_ => (fun e_ => (Kd.R_ne HO463.out BK456.out (by decide)) e_) e_) (fun e_ => (fun e_ => (Kd.R_ne HO466.out BK456.out (by decide)) e_) e_)) (fun e_ => NB456_460.out e_)));replace HI460 := aK (hi);replace BK469 := aK (blk_kept (kN BK469) hkp (fun hs_ => Or.elim hs_ (fun hs_ => Or.elim hs_ (fun e_ => (fun e_ => (Kd.R_ne HO463.out BK469.out (by decide)) e_) e_) (fun e_ => (fun e_ => (Kd.R_ne HO466.out BK469.out (by decide)) e_) e_)) (fun e_ => NB469_460.out e_)));have HO481 := aK (Kd.R_mono (ok' := fun k_ => some k_ ≠ (v483 : Value).ownBlock) ho0 (fun k_ hk_ => hk_.2));have HO484 := aK (Kd.R_mono (ok' := fun k_ => some k_ ≠ (v480 : Value).ownBlock) ho1 (fun k_ hk_ => hk_.2));replace HB := aK (hb);clear HO475 HO463 HO466;clear hb hkp ho0 ho1;obtain ⟨Ao23,co23,eo23⟩ := Kd.R_slice HO481.out;subst eo23;have hnb24 := NB456_460.out;have hnc24 := NB460_456.out;have hcz25_0 := y0 BK456;have hcz25_1 := y1 BK456;have hfz25_0 := blk_frozen BK456.out 0;have hfz25_1 := blk_frozen BK456.out 1;obtain ⟨Ao26,co26,eo26⟩ := Kd.R_slice HO484.out;subst eo26))
    refine bodyPost_ret (results_ctt rfl _ _ gb456 27 #[.slice Ao23 t479.length co23,.slice Ao26 t482.length co26] (0,0) _ rfl (by (with_reducible repeat (first | refine blk_drewN ?_ _ | refine blk_drew ?_ | refine blk_alloc ?_ _));refine blk_put (cs := #[.slice Ao23 t479.length co23,.slice none 0 0]) ?_ 1 _ rfl;(with_reducible repeat (first | refine blk_drewN ?_ _ | refine blk_drew ?_ | refine blk_alloc ?_ _));refine blk_put (cs := #[.slice none 0 0,.slice none 0 0]) ?_ 0 _ rfl;(with_reducible repeat (first | refine blk_drewN ?_ _ | refine blk_drew ?_ | refine blk_alloc ?_ _));exact BK456.out) Try.underlying27 rfl (by kernel_rfl)) rfl ?_;exact ⟨_,_,by first | rfl | (simp [errW_none,errW_some] <;> rfl) | (simp [*,errW_none,errW_some] <;> rfl),by (with_reducible repeat (first | apply Kd.R_alloc | apply Kd.R_drewN | apply Kd.R_drew));exact Kd.R_mono (Kd.R_far (p := ⟨gb456,1,none⟩) (Kd.R_far (p := ⟨gb456,0,none⟩) (Kd.R_types HO481.out BK456.out (by decide)) (fun _ hk => hk.2) (.slice Ao23 t479.length co23)) (fun _ hk => hk.2) (.slice Ao26 t482.length co26)) (fun _ hk => hk.1),by (with_reducible repeat (first | apply Kd.R_alloc | apply Kd.R_drewN | apply Kd.R_drew));exact Kd.R_mono (Kd.R_far (p := ⟨gb456,1,none⟩) (Kd.R_far (p := ⟨gb456,0,none⟩) (Kd.R_types HO484.out BK456.out (by decide)) (fun _ hk => hk.2) (.slice Ao23 t479.length co23)) (fun _ hk => hk.2) (.slice Ao26 t482.length co26)) (fun _ hk => hk.1),(bI HB)⟩
   ·replace HP1 := (if_neg c9).symm.trans HP1;simp only [Option.some.injEq,Prod.mk.injEq] at HP1;obtain ⟨rfl,rfl,rfl⟩ := HP1;have c9b : (0 < t500) = False := eq_false c9;clear c9
    go_wp2_with (first | ((with_reducible refine gate_callee (f := 111) rfl ?_);(try (refine gate_guard (by rfl) ?_;dsimp only));refine goesE (some 30) Try.func111 #[.pointer (some ⟨g460,0,none⟩),.int .i64 8] ?_;(with_reducible refine (spec_l01Next.calls g460 t457 t477 t478 8 t500 t501 t502 w _ ?side1 ?side2 A7.out).mono ?_);(case side1 => exact iN HI460);(case side2 => exact bI HB);rintro e w30 ⟨rfl,hi,hb,hk⟩;refine ⟨_,rfl,?_⟩;replace BK456 := aK (KeepBut.blk hk (g' := gb456) (o := .cells #[.slice none 0 0,.slice none 0 0] 27 (0,0)) (kN BK456) NB456_460.out (by simp));replace HO463 := aK (Kd.R_mono (Kd.R_keep (IsS118.apart (show IsS118 w _ g460 t457 t477 t478 from (iN HI460)) (rN HO463) (by decide)) hk (fun _ h => h.2)) (fun _ h => h.1));replace HO466 := aK (Kd.R_mono (Kd.R_keep (IsS118.apart (show IsS118 w _ g460 t457 t477 t478 from (iN HI460)) (rN HO466) (by decide)) hk (fun _ h => h.2)) (fun _ h => h.1));replace BK469 := aK (KeepBut.blk hk (g' := gb469) (o := .cells #[.slice Ao11 t461.length co11,.slice (some ad9) t464.length co15] 27 (0,0)) (kN BK469) NB469_460.out (by simp));replace HO475 := aK (Kd.R_mono (Kd.R_keep (IsS118.apart (show IsS118 w _ g460 t457 t477 t478 from (iN HI460)) (rN HO475) (by decide)) hk (fun _ h => h.2)) (fun _ h => h.1));replace HB := aK (hb);replace HI460 := aK (hi);clear hb hk hi;have hcz30_0 := y0 BK469;have hcz30_1 := y1 BK469;have hfz30_0 := blk_frozen BK469.out 0;have hfz30_1 := blk_frozen BK469.out 1) | ((with_reducible refine gate_callee (f := 112) rfl ?_);refine goesE (some 42) Try.func112 #[.pointer (some ⟨g460,0,none⟩),.agg #[.slice Ao11 t461.length co11,.slice (some ad9) t464.length co15]] ?_;(with_reducible refine (spec_l04Bad.calls g460 t457 t501 t502 (fun k_ => some k_ = (.slice Ao11 t461.length co11 : Value).ownBlock) (.slice Ao11 t461.length co11) t461 (fun k_ => some k_ = (.slice (some ad9) t464.length co15 : Value).ownBlock) (.slice (some ad9) t464.length co15) t464 t479 t482 t485 t486 w _ ?side1 ?side2 ?side3 ?side4 ?side5 ?side6 A6.out).mono ?_);(case side1 => exact iN HI460);(case side2 => exact bI HB);(case side3 => exact Kd.R_tight rfl HO463.out);(case side4 => exact fun k_ e_ => (HO463.out.1 k_ e_.symm).1);(case side5 => exact Kd.R_tight rfl HO466.out);(case side6 => exact fun k_ e_ => (HO466.out.1 k_ e_.symm).1);rintro e w22 ⟨v480,v483,rfl,ho0,ho1,hi,hb,hkp⟩;refine ⟨_,rfl,?_⟩;replace BK456 := aK (blk_kept (kN BK456) hkp (fun hs_ => Or.elim hs_ (fun hs_ => Or.elim hs_ (fun e_ => (fun e_ => (Kd.R_ne HO463.out BK456.out (by decide)) e_) e_) (fun e_ => (fun e_ => (Kd.R_ne HO466.out BK456.out (by decide)) e_) e_)) (fun e_ => NB456_460.out e_)));replace HI460 := aK (hi);replace BK469 := aK (blk_kept (kN BK469) hkp (fun hs_ => Or.elim hs_ (fun hs_ => Or.elim hs_ (fun e_ => (fun e_ => (Kd.R_ne HO463.out BK469.out (by decide)) e_) e_) (fun e_ => (fun e_ => (Kd.R_ne HO466.out BK469.out (by decide)) e_) e_)) (fun e_ => NB469_460.out e_)));have HO481 := aK (Kd.R_mono (ok' := fun k_ => some k_ ≠ (v483 : Value).ownBlock) ho0 (fun k_ hk_ => hk_.2));have HO484 := aK (Kd.R_mono (ok' := fun k_ => some k_ ≠ (v480 : Value).ownBlock) ho1 (fun k_ hk_ => hk_.2));replace HB := aK (hb);clear HO475 HO463 HO466;clear hb hkp ho0 ho1;obtain ⟨Ao23,co23,eo23⟩ := Kd.R_slice HO481.out;subst eo23;have hnb24 := NB456_460.out;have hnc24 := NB460_456.out;have hcz25_0 := y0 BK456;have hcz25_1 := y1 BK456;have hfz25_0 := blk_frozen BK456.out 0;have hfz25_1 := blk_frozen BK456.out 1;obtain ⟨Ao26,co26,eo26⟩ := Kd.R_slice HO484.out;subst eo26))
    refine bodyPost_ret (results_ctt rfl _ _ gb456 27 #[.slice Ao23 t479.length co23,.slice Ao26 t482.length co26] (0,0) _ rfl (by (with_reducible repeat (first | refine blk_drewN ?_ _ | refine blk_drew ?_ | refine blk_alloc ?_ _));refine blk_put (cs := #[.slice Ao23 t479.length co23,.slice none 0 0]) ?_ 1 _ rfl;(with_reducible repeat (first | refine blk_drewN ?_ _ | refine blk_drew ?_ | refine blk_alloc ?_ _));refine blk_put (cs := #[.slice none 0 0,.slice none 0 0]) ?_ 0 _ rfl;(with_reducible repeat (first | refine blk_drewN ?_ _ | refine blk_drew ?_ | refine blk_alloc ?_ _));exact BK456.out) Try.underlying27 rfl (by kernel_rfl)) rfl ?_;exact ⟨_,_,by first | rfl | (simp [errW_none,errW_some] <;> rfl) | (simp [*,errW_none,errW_some] <;> rfl),by (with_reducible repeat (first | apply Kd.R_alloc | apply Kd.R_drewN | apply Kd.R_drew));exact Kd.R_mono (Kd.R_far (p := ⟨gb456,1,none⟩) (Kd.R_far (p := ⟨gb456,0,none⟩) (Kd.R_types HO481.out BK456.out (by decide)) (fun _ hk => hk.2) (.slice Ao23 t479.length co23)) (fun _ hk => hk.2) (.slice Ao26 t482.length co26)) (fun _ hk => hk.1),by (with_reducible repeat (first | apply Kd.R_alloc | apply Kd.R_drewN | apply Kd.R_drew));exact Kd.R_mono (Kd.R_far (p := ⟨gb456,1,none⟩) (Kd.R_far (p := ⟨gb456,0,none⟩) (Kd.R_types HO484.out BK456.out (by decide)) (fun _ hk => hk.2) (.slice Ao23 t479.length co23)) (fun _ hk => hk.2) (.slice Ao26 t482.length co26)) (fun _ hk => hk.1),(bI HB)⟩
 ·have HP1 := HP.out;clear HP;rw [if_neg c7] at HP1;have c7b := beq_eq_false_iff_ne.mpr c7;clear c7;rw [c7b];unfold spec_l04With.pick at HP1
  by_cases c8 : t461.length = 0
  ·rw [if_pos c8] at HP1;simp only [Option.some.injEq,Prod.mk.injEq] at HP1;obtain ⟨rfl,rfl,rfl⟩ := HP1;have c8b : (0 < t461.length) = False := eq_false (by omega);clear c8
   go_wp2_with (first | ((with_reducible refine gate_callee (f := 112) rfl ?_);refine goesE (some 42) Try.func112 #[.pointer (some ⟨g460,0,none⟩),.agg #[.slice Ao11 t461.length co11,.slice Ao15 t464.length co15]] ?_;(with_reducible refine (spec_l04Bad.calls g460 t457 t477 t478 (fun k_ => some k_ = (.slice Ao11 t461.length co11 : Value).ownBlock) (.slice Ao11 t461.length co11) t461 (fun k_ => some k_ = (.slice Ao15 t464.length co15 : Value).ownBlock) (.slice Ao15 t464.length co15) t464 t479 t482 t485 t486 w _ ?side1 ?side2 ?side3 ?side4 ?side5 ?side6 A6.out).mono ?_);(case side1 => exact iN HI460);(case side2 => exact bI HB);(case side3 => exact Kd.R_tight rfl HO463.out);(case side4 => exact fun k_ e_ => (HO463.out.1 k_ e_.symm).1);(case side5 => exact Kd.R_tight rfl HO466.out);(case side6 => exact fun k_ e_ => (HO466.out.1 k_ e_.symm).1);rintro e w22 ⟨v480,v483,rfl,ho0,ho1,hi,hb,hkp⟩;refine ⟨_,rfl,?_⟩;replace BK456 := aK (blk_kept (kN BK456) hkp (fun hs_ => Or.elim hs_ (fun hs_ => Or.elim hs_ (fun e_ => (fun e_ => (Kd.R_ne HO463.out BK456.out (by decide)) e_) e_) (fun e_ => (fun e_ => (Kd.R_ne HO466.out BK456.out (by decide)) e_) e_)) (fun e_ => NB456_460.out e_)));replace HI460 := aK (hi);replace BK469 := aK (blk_kept (kN BK469) hkp (fun hs_ => Or.elim hs_ (fun hs_ => Or.elim hs_ (fun e_ => (fun e_ => (Kd.R_ne HO463.out BK469.out (by decide)) e_) e_) (fun e_ => (fun e_ => (Kd.R_ne HO466.out BK469.out (by decide)) e_) e_)) (fun e_ => NB469_460.out e_)));have HO481 := aK (Kd.R_mono (ok' := fun k_ => some k_ ≠ (v483 : Value).ownBlock) ho0 (fun k_ hk_ => hk_.2));have HO484 := aK (Kd.R_mono (ok' := fun k_ => some k_ ≠ (v480 : Value).ownBlock) ho1 (fun k_ hk_ => hk_.2));replace HB := aK (hb);clear HO475 HO463 HO466;clear hb hkp ho0 ho1;obtain ⟨Ao23,co23,eo23⟩ := Kd.R_slice HO481.out;subst eo23;have hnb24 := NB456_460.out;have hnc24 := NB460_456.out;have hcz25_0 := y0 BK456;have hcz25_1 := y1 BK456;have hfz25_0 := blk_frozen BK456.out 0;have hfz25_1 := blk_frozen BK456.out 1;obtain ⟨Ao26,co26,eo26⟩ := Kd.R_slice HO484.out;subst eo26))
   refine bodyPost_ret (results_ctt rfl _ _ gb456 27 #[.slice Ao23 t479.length co23,.slice Ao26 t482.length co26] (0,0) _ rfl (by (with_reducible repeat (first | refine blk_drewN ?_ _ | refine blk_drew ?_ | refine blk_alloc ?_ _));refine blk_put (cs := #[.slice Ao23 t479.length co23,.slice none 0 0]) ?_ 1 _ rfl;(with_reducible repeat (first | refine blk_drewN ?_ _ | refine blk_drew ?_ | refine blk_alloc ?_ _));refine blk_put (cs := #[.slice none 0 0,.slice none 0 0]) ?_ 0 _ rfl;(with_reducible repeat (first | refine blk_drewN ?_ _ | refine blk_drew ?_ | refine blk_alloc ?_ _));exact BK456.out) Try.underlying27 rfl (by kernel_rfl)) rfl ?_;exact ⟨_,_,by first | rfl | (simp [errW_none,errW_some] <;> rfl) | (simp [*,errW_none,errW_some] <;> rfl),by (with_reducible repeat (first | apply Kd.R_alloc | apply Kd.R_drewN | apply Kd.R_drew));exact Kd.R_mono (Kd.R_far (p := ⟨gb456,1,none⟩) (Kd.R_far (p := ⟨gb456,0,none⟩) (Kd.R_types HO481.out BK456.out (by decide)) (fun _ hk => hk.2) (.slice Ao23 t479.length co23)) (fun _ hk => hk.2) (.slice Ao26 t482.length co26)) (fun _ hk => hk.1),by (with_reducible repeat (first | apply Kd.R_alloc | apply Kd.R_drewN | apply Kd.R_drew));exact Kd.R_mono (Kd.R_far (p := ⟨gb456,1,none⟩) (Kd.R_far (p := ⟨gb456,0,none⟩) (Kd.R_types HO484.out BK456.out (by decide)) (fun _ hk => hk.2) (.slice Ao23 t479.length co23)) (fun _ hk => hk.2) (.slice Ao26 t482.length co26)) (fun _ hk => hk.1),(bI HB)⟩
  ·rw [if_neg c8] at HP1;have c8b : (0 < t461.length) = True := eq_true (by omega);obtain ⟨ad9,ea9,hx9⟩ := Kd.at_int (Kd.R_reads' HO463.out).2.2 0 (Int.le_refl 0) (by omega);clear hx9;subst ea9;clear c8;obtain ⟨⟨t500,t501,t502⟩,A70,HP1⟩ := Option.bind_eq_some_iff.mp HP1;have A7 := aK A70;clear A70
   by_cases c9 : t500 > 0
   ·replace HP1 := (if_pos c9).symm.trans HP1;obtain ⟨⟨t504,t505,t506⟩,A80,HP1⟩ := Option.bind_eq_some_iff.mp HP1;have A8 := aK A80;clear A80;have p504 : 0 ≤ t504 := by
     by_cases h : 0 ≤ t504
     ·exact h
     ·exact absurd ((if_neg h).symm.trans HP1) (by simp)
    replace HP1 := (if_pos p504).symm.trans HP1;have q504 : t504 < (t461.length : Int) := by
     by_cases h : t504 < (t461.length : Int)
     ·exact h
     ·exact absurd ((if_neg h).symm.trans HP1) (by simp)
    replace HP1 := (if_pos q504).symm.trans HP1;simp only [Option.some.injEq,Prod.mk.injEq] at HP1;obtain ⟨rfl,rfl,rfl⟩ := HP1;have c9b : (0 < t500) = True := eq_true c9;clear c9;have P504 := aK p504;have Q504 := aK q504;clear p504 q504
    go_wp2_with (first | ((with_reducible refine gate_callee (f := 111) rfl ?_);(try (refine gate_guard (by rfl) ?_;dsimp only));refine goesE (some 30) Try.func111 #[.pointer (some ⟨g460,0,none⟩),.int .i64 8] ?_;(with_reducible refine (spec_l01Next.calls g460 t457 t477 t478 8 t500 t501 t502 w _ ?side1 ?side2 A7.out).mono ?_);(case side1 => exact iN HI460);(case side2 => exact bI HB);rintro e w30 ⟨rfl,hi,hb,hk⟩;refine ⟨_,rfl,?_⟩;replace BK456 := aK (KeepBut.blk hk (g' := gb456) (o := .cells #[.slice none 0 0,.slice none 0 0] 27 (0,0)) (kN BK456) NB456_460.out (by simp));replace HO463 := aK (Kd.R_mono (Kd.R_keep (IsS118.apart (show IsS118 w _ g460 t457 t477 t478 from (iN HI460)) (rN HO463) (by decide)) hk (fun _ h => h.2)) (fun _ h => h.1));replace HO466 := aK (Kd.R_mono (Kd.R_keep (IsS118.apart (show IsS118 w _ g460 t457 t477 t478 from (iN HI460)) (rN HO466) (by decide)) hk (fun _ h => h.2)) (fun _ h => h.1));replace BK469 := aK (KeepBut.blk hk (g' := gb469) (o := .cells #[.slice (some ad9) t461.length co11,.slice Ao15 t464.length co15] 27 (0,0)) (kN BK469) NB469_460.out (by simp));replace HO475 := aK (Kd.R_mono (Kd.R_keep (IsS118.apart (show IsS118 w _ g460 t457 t477 t478 from (iN HI460)) (rN HO475) (by decide)) hk (fun _ h => h.2)) (fun _ h => h.1));replace HB := aK (hb);replace HI460 := aK (hi);clear hb hk hi;have hcz30_0 := y0 BK469;have hcz30_1 := y1 BK469;have hfz30_0 := blk_frozen BK469.out 0;have hfz30_1 := blk_frozen BK469.out 1) | ((with_reducible refine gate_callee (f := 111) rfl ?_);refine goesE (some 37) Try.func111 #[.pointer (some ⟨g460,0,none⟩),.int .i64 (t461.length : Int)] ?_;(with_reducible refine (spec_l01Next.calls g460 t457 t501 t502 (t461.length : Int) t504 t505 t506 w _ ?side1 ?side2 A8.out).mono ?_);(case side1 => exact iN HI460);(case side2 => exact bI HB);rintro e w37 ⟨rfl,hi,hb,hk⟩;refine ⟨_,rfl,?_⟩;replace BK456 := aK (KeepBut.blk hk (g' := gb456) (o := .cells #[.slice none 0 0,.slice none 0 0] 27 (0,0)) (kN BK456) NB456_460.out (by simp));replace HO463 := aK (Kd.R_mono (Kd.R_keep (IsS118.apart (show IsS118 w _ g460 t457 t501 t502 from (iN HI460)) (rN HO463) (by decide)) hk (fun _ h => h.2)) (fun _ h => h.1));replace HO466 := aK (Kd.R_mono (Kd.R_keep (IsS118.apart (show IsS118 w _ g460 t457 t501 t502 from (iN HI460)) (rN HO466) (by decide)) hk (fun _ h => h.2)) (fun _ h => h.1));replace BK469 := aK (KeepBut.blk hk (g' := gb469) (o := .cells #[.slice (some ad9) t461.length co11,.slice Ao15 t464.length co15] 27 (0,0)) (kN BK469) NB469_460.out (by simp));replace HO475 := aK (Kd.R_mono (Kd.R_keep (IsS118.apart (show IsS118 w _ g460 t457 t501 t502 from (iN HI460)) (rN HO475) (by decide)) hk (fun _ h => h.2)) (fun _ h => h.1));replace HB := aK (hb);replace HI460 := aK (hi);clear hb hk hi;have hcz37_0 := y0 BK469;have hcz37_1 := y1 BK469;have hfz37_0 := blk_frozen BK469.out 0;have hfz37_1 := blk_frozen BK469.out 1;obtain ⟨ad37,e37,hx37⟩ := Kd.at_int (Kd.R_reads' HO463.out).2.2 t504 P504.out Q504.out;replace e37 := Option.some.inj e37;subst e37;have p504 := eq_true P504.out;have q504 := eq_true Q504.out) | ((with_reducible refine gate_callee (f := 112) rfl ?_);refine goesE (some 42) Try.func112 #[.pointer (some ⟨g460,0,none⟩),.agg #[.slice (some ad9) t461.length co11,.slice Ao15 t464.length co15]] ?_;(with_reducible refine (spec_l04Bad.calls g460 t457 t505 t506 (fun k_ => some k_ = (.slice (some ad9) t461.length co11 : Value).ownBlock) (.slice (some ad9) t461.length co11) t461 (fun k_ => some k_ = (.slice Ao15 t464.length co15 : Value).ownBlock) (.slice Ao15 t464.length co15) t464 t479 t482 t485 t486 w _ ?side1 ?side2 ?side3 ?side4 ?side5 ?side6 A6.out).mono ?_);(case side1 => exact iN HI460);(case side2 => exact bI HB);(case side3 => exact Kd.R_tight rfl HO463.out);(case side4 => exact fun k_ e_ => (HO463.out.1 k_ e_.symm).1);(case side5 => exact Kd.R_tight rfl HO466.out);(case side6 => exact fun k_ e_ => (HO466.out.1 k_ e_.symm).1);rintro e w22 ⟨v480,v483,rfl,ho0,ho1,hi,hb,hkp⟩;refine ⟨_,rfl,?_⟩;replace BK456 := aK (blk_kept (kN BK456) hkp (fun hs_ => Or.elim hs_ (fun hs_ => Or.elim hs_ (fun e_ => (fun e_ => (Kd.R_ne HO463.out BK456.out (by decide)) e_) e_) (fun e_ => (fun e_ => (Kd.R_ne HO466.out BK456.out (by decide)) e_) e_)) (fun e_ => NB456_460.out e_)));replace HI460 := aK (hi);replace BK469 := aK (blk_kept (kN BK469) hkp (fun hs_ => Or.elim hs_ (fun hs_ => Or.elim hs_ (fun e_ => (fun e_ => (Kd.R_ne HO463.out BK469.out (by decide)) e_) e_) (fun e_ => (fun e_ => (Kd.R_ne HO466.out BK469.out (by decide)) e_) e_)) (fun e_ => NB469_460.out e_)));have HO481 := aK (Kd.R_mono (ok' := fun k_ => some k_ ≠ (v483 : Value).ownBlock) ho0 (fun k_ hk_ => hk_.2));have HO484 := aK (Kd.R_mono (ok' := fun k_ => some k_ ≠ (v480 : Value).ownBlock) ho1 (fun k_ hk_ => hk_.2));replace HB := aK (hb);clear HO475 HO463 HO466;clear hb hkp ho0 ho1;obtain ⟨Ao23,co23,eo23⟩ := Kd.R_slice HO481.out;subst eo23;have hnb24 := NB456_460.out;have hnc24 := NB460_456.out;have hcz25_0 := y0 BK456;have hcz25_1 := y1 BK456;have hfz25_0 := blk_frozen BK456.out 0;have hfz25_1 := blk_frozen BK456.out 1;obtain ⟨Ao26,co26,eo26⟩ := Kd.R_slice HO484.out;subst eo26))
    refine bodyPost_ret (results_ctt rfl _ _ gb456 27 #[.slice Ao23 t479.length co23,.slice Ao26 t482.length co26] (0,0) _ rfl (by (with_reducible repeat (first | refine blk_drewN ?_ _ | refine blk_drew ?_ | refine blk_alloc ?_ _));refine blk_put (cs := #[.slice Ao23 t479.length co23,.slice none 0 0]) ?_ 1 _ rfl;(with_reducible repeat (first | refine blk_drewN ?_ _ | refine blk_drew ?_ | refine blk_alloc ?_ _));refine blk_put (cs := #[.slice none 0 0,.slice none 0 0]) ?_ 0 _ rfl;(with_reducible repeat (first | refine blk_drewN ?_ _ | refine blk_drew ?_ | refine blk_alloc ?_ _));exact BK456.out) Try.underlying27 rfl (by kernel_rfl)) rfl ?_;exact ⟨_,_,by first | rfl | (simp [errW_none,errW_some] <;> rfl) | (simp [*,errW_none,errW_some] <;> rfl),by (with_reducible repeat (first | apply Kd.R_alloc | apply Kd.R_drewN | apply Kd.R_drew));exact Kd.R_mono (Kd.R_far (p := ⟨gb456,1,none⟩) (Kd.R_far (p := ⟨gb456,0,none⟩) (Kd.R_types HO481.out BK456.out (by decide)) (fun _ hk => hk.2) (.slice Ao23 t479.length co23)) (fun _ hk => hk.2) (.slice Ao26 t482.length co26)) (fun _ hk => hk.1),by (with_reducible repeat (first | apply Kd.R_alloc | apply Kd.R_drewN | apply Kd.R_drew));exact Kd.R_mono (Kd.R_far (p := ⟨gb456,1,none⟩) (Kd.R_far (p := ⟨gb456,0,none⟩) (Kd.R_types HO484.out BK456.out (by decide)) (fun _ hk => hk.2) (.slice Ao23 t479.length co23)) (fun _ hk => hk.2) (.slice Ao26 t482.length co26)) (fun _ hk => hk.1),(bI HB)⟩
   ·replace HP1 := (if_neg c9).symm.trans HP1;simp only [Option.some.injEq,Prod.mk.injEq] at HP1;obtain ⟨rfl,rfl,rfl⟩ := HP1;have c9b : (0 < t500) = False := eq_false c9;clear c9
    go_wp2_with (first | ((with_reducible refine gate_callee (f := 111) rfl ?_);(try (refine gate_guard (by rfl) ?_;dsimp only));refine goesE (some 30) Try.func111 #[.pointer (some ⟨g460,0,none⟩),.int .i64 8] ?_;(with_reducible refine (spec_l01Next.calls g460 t457 t477 t478 8 t500 t501 t502 w _ ?side1 ?side2 A7.out).mono ?_);(case side1 => exact iN HI460);(case side2 => exact bI HB);rintro e w30 ⟨rfl,hi,hb,hk⟩;refine ⟨_,rfl,?_⟩;replace BK456 := aK (KeepBut.blk hk (g' := gb456) (o := .cells #[.slice none 0 0,.slice none 0 0] 27 (0,0)) (kN BK456) NB456_460.out (by simp));replace HO463 := aK (Kd.R_mono (Kd.R_keep (IsS118.apart (show IsS118 w _ g460 t457 t477 t478 from (iN HI460)) (rN HO463) (by decide)) hk (fun _ h => h.2)) (fun _ h => h.1));replace HO466 := aK (Kd.R_mono (Kd.R_keep (IsS118.apart (show IsS118 w _ g460 t457 t477 t478 from (iN HI460)) (rN HO466) (by decide)) hk (fun _ h => h.2)) (fun _ h => h.1));replace BK469 := aK (KeepBut.blk hk (g' := gb469) (o := .cells #[.slice (some ad9) t461.length co11,.slice Ao15 t464.length co15] 27 (0,0)) (kN BK469) NB469_460.out (by simp));replace HO475 := aK (Kd.R_mono (Kd.R_keep (IsS118.apart (show IsS118 w _ g460 t457 t477 t478 from (iN HI460)) (rN HO475) (by decide)) hk (fun _ h => h.2)) (fun _ h => h.1));replace HB := aK (hb);replace HI460 := aK (hi);clear hb hk hi;have hcz30_0 := y0 BK469;have hcz30_1 := y1 BK469;have hfz30_0 := blk_frozen BK469.out 0;have hfz30_1 := blk_frozen BK469.out 1) | ((with_reducible refine gate_callee (f := 112) rfl ?_);refine goesE (some 42) Try.func112 #[.pointer (some ⟨g460,0,none⟩),.agg #[.slice (some ad9) t461.length co11,.slice Ao15 t464.length co15]] ?_;(with_reducible refine (spec_l04Bad.calls g460 t457 t501 t502 (fun k_ => some k_ = (.slice (some ad9) t461.length co11 : Value).ownBlock) (.slice (some ad9) t461.length co11) t461 (fun k_ => some k_ = (.slice Ao15 t464.length co15 : Value).ownBlock) (.slice Ao15 t464.length co15) t464 t479 t482 t485 t486 w _ ?side1 ?side2 ?side3 ?side4 ?side5 ?side6 A6.out).mono ?_);(case side1 => exact iN HI460);(case side2 => exact bI HB);(case side3 => exact Kd.R_tight rfl HO463.out);(case side4 => exact fun k_ e_ => (HO463.out.1 k_ e_.symm).1);(case side5 => exact Kd.R_tight rfl HO466.out);(case side6 => exact fun k_ e_ => (HO466.out.1 k_ e_.symm).1);rintro e w22 ⟨v480,v483,rfl,ho0,ho1,hi,hb,hkp⟩;refine ⟨_,rfl,?_⟩;replace BK456 := aK (blk_kept (kN BK456) hkp (fun hs_ => Or.elim hs_ (fun hs_ => Or.elim hs_ (fun e_ => (fun e_ => (Kd.R_ne HO463.out BK456.out (by decide)) e_) e_) (fun e_ => (fun e_ => (Kd.R_ne HO466.out BK456.out (by decide)) e_) e_)) (fun e_ => NB456_460.out e_)));replace HI460 := aK (hi);replace BK469 := aK (blk_kept (kN BK469) hkp (fun hs_ => Or.elim hs_ (fun hs_ => Or.elim hs_ (fun e_ => (fun e_ => (Kd.R_ne HO463.out BK469.out (by decide)) e_) e_) (fun e_ => (fun e_ => (Kd.R_ne HO466.out BK469.out (by decide)) e_) e_)) (fun e_ => NB469_460.out e_)));have HO481 := aK (Kd.R_mono (ok' := fun k_ => some k_ ≠ (v483 : Value).ownBlock) ho0 (fun k_ hk_ => hk_.2));have HO484 := aK (Kd.R_mono (ok' := fun k_ => some k_ ≠ (v480 : Value).ownBlock) ho1 (fun k_ hk_ => hk_.2));replace HB := aK (hb);clear HO475 HO463 HO466;clear hb hkp ho0 ho1;obtain ⟨Ao23,co23,eo23⟩ := Kd.R_slice HO481.out;subst eo23;have hnb24 := NB456_460.out;have hnc24 := NB460_456.out;have hcz25_0 := y0 BK456;have hcz25_1 := y1 BK456;have hfz25_0 := blk_frozen BK456.out 0;have hfz25_1 := blk_frozen BK456.out 1;obtain ⟨Ao26,co26,eo26⟩ := Kd.R_slice HO484.out;subst eo26))
    refine bodyPost_ret (results_ctt rfl _ _ gb456 27 #[.slice Ao23 t479.length co23,.slice Ao26 t482.length co26] (0,0) _ rfl (by (with_reducible repeat (first | refine blk_drewN ?_ _ | refine blk_drew ?_ | refine blk_alloc ?_ _));refine blk_put (cs := #[.slice Ao23 t479.length co23,.slice none 0 0]) ?_ 1 _ rfl;(with_reducible repeat (first | refine blk_drewN ?_ _ | refine blk_drew ?_ | refine blk_alloc ?_ _));refine blk_put (cs := #[.slice none 0 0,.slice none 0 0]) ?_ 0 _ rfl;(with_reducible repeat (first | refine blk_drewN ?_ _ | refine blk_drew ?_ | refine blk_alloc ?_ _));exact BK456.out) Try.underlying27 rfl (by kernel_rfl)) rfl ?_;exact ⟨_,_,by first | rfl | (simp [errW_none,errW_some] <;> rfl) | (simp [*,errW_none,errW_some] <;> rfl),by (with_reducible repeat (first | apply Kd.R_alloc | apply Kd.R_drewN | apply Kd.R_drew));exact Kd.R_mono (Kd.R_far (p := ⟨gb456,1,none⟩) (Kd.R_far (p := ⟨gb456,0,none⟩) (Kd.R_types HO481.out BK456.out (by decide)) (fun _ hk => hk.2) (.slice Ao23 t479.length co23)) (fun _ hk => hk.2) (.slice Ao26 t482.length co26)) (fun _ hk => hk.1),by (with_reducible repeat (first | apply Kd.R_alloc | apply Kd.R_drewN | apply Kd.R_drew));exact Kd.R_mono (Kd.R_far (p := ⟨gb456,1,none⟩) (Kd.R_far (p := ⟨gb456,0,none⟩) (Kd.R_types HO484.out BK456.out (by decide)) (fun _ hk => hk.2) (.slice Ao23 t479.length co23)) (fun _ hk => hk.2) (.slice Ao26 t482.length co26)) (fun _ hk => hk.1),(bI HB)⟩
/-! ### spec_DrawBestAnswer: function 47 -/
def spec_DrawBestAnswer.f (k : Nat) (l0 : List Int) : Option (List Int × List Int × Bool × Int) := (spec_l04With.f k l0).bind fun bt488 => (some (bt488.1, bt488.2.1, bt488.2.2.1, bt488.2.2.2))
theorem spec_DrawBestAnswer.mono : ∀ a0 k, LeO (spec_DrawBestAnswer.f k a0) (spec_DrawBestAnswer.f (k + 1) a0) := by
 intro a0 k;unfold spec_DrawBestAnswer.f
 repeat' first
  | (with_reducible exact spec_l04With.mono _ _)
  | (with_reducible exact LeO.refl _)
  | (with_reducible exact LeO.none _)
  | (with_reducible refine LeO.ite ?_ ?_)
  | (with_reducible refine LeO.bind ?_ (fun _ => ?_))
  | exact spec_l04With.mono _ _
  | exact LeO.none _
  | refine LeO.ite ?_ ?_
  | refine LeO.bind ?_ (fun _ => ?_)
set_option maxHeartbeats 8000000 in
set_option maxRecDepth 100000 in
theorem spec_DrawBestAnswer.calls (k : Nat) (A0 : Option Addr) (c0 : Nat) (l0 : List Int) (r1 : List Int) (r2 : List Int) (r3 : Bool) (r4 : Int) (w : World) (hr0 : Kd.C (Kd.int .u8) w A0 l0.length l0) (hc0 : l0.length ≤ c0) (h : spec_DrawBestAnswer.f k l0 = some (r1, r2, r3, r4)) :
 Calls Try.prog 47 #[.slice A0 l0.length c0] w fun e w' => ∃ v0_ v1_ : Value,e = .returned (.tuple #[.agg #[v0_,v1_],.bool r3,.int .i64 r4]) ∧ Kd.R (Kd.int .i64) 2 w' w.heap.size (fun k_ => some k_ ≠ (v1_ : Value).ownBlock) v0_ r1 ∧ Kd.R (Kd.int .i64) 2 w' w.heap.size (fun k_ => some k_ ≠ (v0_ : Value).ownBlock) v1_ r2 ∧ Below w.heap.size w w' := by
 have hu27 := Try.underlying27;have HR0 := aK hr0;have HC0 := aK hc0;clear hr0 hc0;have HB := aK (Below.refl w.heap.size w);have H := h;clear h;unfold spec_DrawBestAnswer.f at H;replace H := bE H;obtain ⟨⟨t488,t491,t494,t495⟩,A2,H⟩ := H;dsimp only at H;simp only [Option.some.injEq,Prod.mk.injEq] at H;obtain ⟨rfl,rfl,rfl,rfl⟩ := H;go_enter Try.func47,Try.ntmps47
 go_wp2_with (first | ((with_reducible refine gate_dst (N := 2) rfl ?_);refine boxE 2 #[.slice none 0 0,.slice none 0 0] 27 ?_;intro gb487 hg w3 hbox hb;have BK487 := aK (hbox);have GW487 := aK (zG HB hg);have GE487 := aK (zG HB hg);replace HB := hB HB hb;clear hb hbox hg) | ((with_reducible refine gate_callee (f := 89) rfl ?_);refine goesE (some 6) Try.func89 #[.slice A0 l0.length c0] ?_;(with_reducible refine (spec_l04With.calls k _ _ l0 t488 t491 t494 t495 _ ?side1 ?side2 A2.out).mono ?_);(case side1 => exact cB HR0 HB);(case side2 => exact HC0.out);rintro e w4 ⟨v489,v492,rfl,ho0,ho1,hb⟩;refine ⟨_,rfl,?_⟩;have HO490 := aK (Kd.R_lower ho0 (below_size (bN HB)));have HO493 := aK (Kd.R_lower ho1 (below_size (bN HB)));replace BK487 := kB BK487 hb;replace HB := hB HB hb;clear hb ho0 ho1;obtain ⟨Ao5,co5,eo5⟩ := Kd.R_slice HO490.out;subst eo5;have hcz6_0 := y0 BK487;have hcz6_1 := y1 BK487;have hfz6_0 := blk_frozen BK487.out 0;have hfz6_1 := blk_frozen BK487.out 1;obtain ⟨Ao7,co7,eo7⟩ := Kd.R_slice HO493.out;subst eo7))
 refine bodyPost_ret (results_ctt rfl _ _ gb487 27 #[.slice Ao5 t488.length co5,.slice Ao7 t491.length co7] (0,0) _ rfl (by (with_reducible repeat (first | refine blk_drewN ?_ _ | refine blk_drew ?_ | refine blk_alloc ?_ _));refine blk_put (cs := #[.slice Ao5 t488.length co5,.slice none 0 0]) ?_ 1 _ rfl;(with_reducible repeat (first | refine blk_drewN ?_ _ | refine blk_drew ?_ | refine blk_alloc ?_ _));refine blk_put (cs := #[.slice none 0 0,.slice none 0 0]) ?_ 0 _ rfl;(with_reducible repeat (first | refine blk_drewN ?_ _ | refine blk_drew ?_ | refine blk_alloc ?_ _));exact BK487.out) Try.underlying27 rfl (by kernel_rfl)) rfl ?_;exact ⟨_,_,by first | rfl | (simp [errW_none,errW_some] <;> rfl) | (simp [*,errW_none,errW_some] <;> rfl),by (with_reducible repeat (first | apply Kd.R_alloc | apply Kd.R_drewN | apply Kd.R_drew));exact Kd.R_mono (Kd.R_far (p := ⟨gb487,1,none⟩) (Kd.R_far (p := ⟨gb487,0,none⟩) (Kd.R_types HO490.out BK487.out (by decide)) (fun _ hk => hk.2) (.slice Ao5 t488.length co5)) (fun _ hk => hk.2) (.slice Ao7 t491.length co7)) (fun _ hk => hk.1),by (with_reducible repeat (first | apply Kd.R_alloc | apply Kd.R_drewN | apply Kd.R_drew));exact Kd.R_mono (Kd.R_far (p := ⟨gb487,1,none⟩) (Kd.R_far (p := ⟨gb487,0,none⟩) (Kd.R_types HO493.out BK487.out (by decide)) (fun _ hk => hk.2) (.slice Ao5 t488.length co5)) (fun _ hk => hk.2) (.slice Ao7 t491.length co7)) (fun _ hk => hk.1),(bN HB)⟩
/-! ### laws_likeInts: function 53 -/
def laws_likeInts.l0 : Nat → List Int → List Int → Int → Option (Bool)
 | 0,_,_,_ => none
 | k + 1,x0,x1,x5 => if x5 < (x0.length : Int) then (if 0 ≤ x5 then (if x5 < (x1.length : Int) then (if (rd x0 x5) = (rd x1 x5) then (laws_likeInts.l0 k x0 x1 (wrap64 (x5 + 1))) else (some false)) else (none)) else (none)) else (some true)
def laws_likeInts.f (k : Nat) (l0 : List Int) (l1 : List Int) : Option (Bool) := if (l0.length : Int) = (l1.length : Int) then (laws_likeInts.l0 k l0 l1 0) else (some false)
theorem laws_likeInts.mono_l : ∀ k, (∀ y0 y1 y2, LeO (laws_likeInts.l0 k y0 y1 y2) (laws_likeInts.l0 (k + 1) y0 y1 y2))
 | 0 => fun _ _ _ r h => by simp [laws_likeInts.l0] at h
 | k + 1 => by
  have ih0 := laws_likeInts.mono_l k
  ·intro y0 y1 y2;unfold laws_likeInts.l0
   repeat' first
   | (with_reducible exact ih0 _ _ _)
   | (with_reducible exact LeO.refl _)
   | (with_reducible exact LeO.none _)
   | (with_reducible refine LeO.ite ?_ ?_)
   | (with_reducible refine LeO.bind ?_ (fun _ => ?_))
   | exact ih0 _ _ _
   | exact LeO.none _
   | refine LeO.ite ?_ ?_
   | refine LeO.bind ?_ (fun _ => ?_)
theorem laws_likeInts.mono : ∀ a0 a1 k, LeO (laws_likeInts.f k a0 a1) (laws_likeInts.f (k + 1) a0 a1) := by
 intro a0 a1 k;have ih0 := laws_likeInts.mono_l k;unfold laws_likeInts.f
 repeat' first
  | (with_reducible exact ih0 _ _ _)
  | (with_reducible exact LeO.refl _)
  | (with_reducible exact LeO.none _)
  | (with_reducible refine LeO.ite ?_ ?_)
  | (with_reducible refine LeO.bind ?_ (fun _ => ?_))
  | exact ih0 _ _ _
  | exact LeO.none _
  | refine LeO.ite ?_ ?_
  | refine LeO.bind ?_ (fun _ => ?_)
set_option maxHeartbeats 8000000 in
set_option maxRecDepth 100000 in
theorem laws_likeInts.calls (k : Nat) (A0 : Option Addr) (c0 : Nat) (l0 : List Int) (A1 : Option Addr) (c1 : Nat) (l1 : List Int) (r : Bool) (w : World) (hr0 : Kd.C (Kd.int .i64) w A0 l0.length l0) (hc0 : l0.length ≤ c0) (hr1 : Kd.C (Kd.int .i64) w A1 l1.length l1) (hc1 : l1.length ≤ c1) (h : laws_likeInts.f k l0 l1 = some r) :
 Calls Try.prog 53 #[.slice A0 l0.length c0,.slice A1 l1.length c1] w fun e w' => e = .returned (.bool r) ∧ Drawn0 w w' := by
 have HR0 := aK hr0;have HC0 := aK hc0;clear hr0 hc0;have HR1 := aK hr1;have HC1 := aK hc1;clear hr1 hc1;have H := h;clear h;unfold laws_likeInts.f at H
 by_cases c3 : (l0.length : Int) = (l1.length : Int)
 ·rw [if_pos c3] at H;have c3b0 := beq_iff_eq.mpr c3;have c3b1 := bne_eq_false_iff_eq.mpr c3;have c3b2 : (l0.length == l1.length) = true := by first | simpa using c3 | (simp at c3 ⊢;omega)
  clear c3;have H' := aK H;clear H;go_enter Try.func53,Try.ntmps53;go_wp2
  repeat (go_quiet (fail);try go_wp2)
  go_loopg [5] k (fun kq v5 w' => ∃ (x5_1 : Int),v5 = .int .i64 x5_1 ∧ Aside0 (laws_likeInts.l0 kq l0 l1 x5_1 = some r) ∧ Aside0 (kq ≤ k) ∧ Drawn0 w w')
  case atStart => exact ⟨(0),rD,H',⟨Nat.le_refl _⟩,dD⟩
  case round =>
   clear H';clear c3b0 c3b1 c3b2;obtain ⟨x5_1,rfl,HA,HK1,⟨m1,rfl⟩⟩ := hrel
   cases gk with
   | zero => exact absurd HA.out (by simp [laws_likeInts.l0])
   | succ k1 =>
    have H := HA.out;clear HA;simp only [laws_likeInts.l0] at H
    by_cases c4 : x5_1 < (l0.length : Int)
    ·rw [if_pos c4] at H;have c4b0 := decide_eq_true c4;clear c4
     by_cases c5 : 0 ≤ x5_1
     rotate_left
     ·rw [if_neg c5] at H;exact absurd H (by simp)
     rw [if_pos c5] at H;have c5b0 := decide_eq_true c5;clear c5
     by_cases c6 : x5_1 < (l1.length : Int)
     rotate_left
     ·rw [if_neg c6] at H;exact absurd H (by simp)
     rw [if_pos c6] at H;have c6b0 := decide_eq_true c6;clear c6
     by_cases c7 : (rd l0 x5_1) = (rd l1 x5_1)
     ·rw [if_pos c7] at H;have c7b0 := beq_iff_eq.mpr c7;have c7b1 := bne_eq_false_iff_eq.mpr c7;clear c7;have H' := aK H;clear H;have p496 : 0 ≤ (x5_1 : Int) := dT;have q496 : x5_1 < (l0.length : Int) := dT;obtain ⟨ad496,e496,hx496_0⟩ := Kd.at_int HR0.out x5_1 p496 q496;cases e496;replace p496 := eq_true p496;replace q496 := eq_true q496;have p497 : 0 ≤ (x5_1 : Int) := dT;have q497 : x5_1 < (l1.length : Int) := dT;obtain ⟨ad497,e497,hx497_0⟩ := Kd.at_int HR1.out x5_1 p497 q497;cases e497;replace p497 := eq_true p497;replace q497 := eq_true q497;go_wp2
      repeat (go_quiet (fail);try go_wp2)
      go_roundg k1
      case measure => have := HK1.out;omega
      case rel => exact ⟨(wrap64 (x5_1 + 1)),rD,H',⟨by have := HK1.out;omega⟩,dD⟩
     ·rw [if_neg c7] at H;have c7b0 := beq_eq_false_iff_ne.mpr c7;have c7b1 := bne_iff_ne.mpr c7;obtain rfl := Option.some.inj H;have p496 : 0 ≤ (x5_1 : Int) := dT;have q496 : x5_1 < (l0.length : Int) := dT;obtain ⟨ad496,e496,hx496_0⟩ := Kd.at_int HR0.out x5_1 p496 q496;cases e496;replace p496 := eq_true p496;replace q496 := eq_true q496;have p497 : 0 ≤ (x5_1 : Int) := dT;have q497 : x5_1 < (l1.length : Int) := dT;obtain ⟨ad497,e497,hx497_0⟩ := Kd.at_int HR1.out x5_1 p497 q497;cases e497;replace p497 := eq_true p497;replace q497 := eq_true q497;go_wp2
      repeat (go_quiet (fail);try go_wp2)
      go_ret;exact ⟨rD,dD⟩
    ·rw [if_neg c4] at H;have c4b0 := decide_eq_false c4;clear c4;obtain rfl := Option.some.inj H;go_wp2
     repeat (go_quiet (fail);try go_wp2)
     go_ret;exact ⟨rD,dD⟩
 ·rw [if_neg c3] at H;have c3b0 := beq_eq_false_iff_ne.mpr c3;have c3b1 := bne_iff_ne.mpr c3;have c3b2 : (l0.length == l1.length) = false := by first | simpa using c3 | (simp at c3 ⊢;omega)
  obtain rfl := Option.some.inj H;go_enter Try.func53,Try.ntmps53;go_wp2
  repeat (go_quiet (fail);try go_wp2)
  go_ret;exact ⟨rD,dD⟩
/-! ### laws_ending9: function 48 -/
def laws_ending9.f (k : Nat) (l0_0 : List Int) (l0_1 : List Int) (l1_0 : List Int) (l1_1 : List Int) : Option (Bool) := (laws_likeInts.f k l0_0 l1_0).bind fun t500 => (if t500 = true then ((laws_likeInts.f k l0_1 l1_1).bind fun t501 => (some t501)) else (some false))
theorem laws_ending9.mono : ∀ a0 a1 a2 a3 k, LeO (laws_ending9.f k a0 a1 a2 a3) (laws_ending9.f (k + 1) a0 a1 a2 a3) := by
 intro a0 a1 a2 a3 k;unfold laws_ending9.f
 repeat' first
  | (with_reducible exact laws_likeInts.mono _ _ _)
  | (with_reducible exact LeO.refl _)
  | (with_reducible exact LeO.none _)
  | (with_reducible refine LeO.ite ?_ ?_)
  | (with_reducible refine LeO.bind ?_ (fun _ => ?_))
  | exact laws_likeInts.mono _ _ _
  | exact LeO.none _
  | refine LeO.ite ?_ ?_
  | refine LeO.bind ?_ (fun _ => ?_)
set_option maxHeartbeats 8000000 in
set_option maxRecDepth 100000 in
theorem laws_ending9.calls (k : Nat) (A0_0 : Option Addr) (c0_0 : Nat) (l0_0 : List Int) (A0_1 : Option Addr) (c0_1 : Nat) (l0_1 : List Int) (A1_0 : Option Addr) (c1_0 : Nat) (l1_0 : List Int) (A1_1 : Option Addr) (c1_1 : Nat) (l1_1 : List Int) (r : Bool) (w : World) (hr0_0 : Kd.C (Kd.int .i64) w A0_0 l0_0.length l0_0) (hc0_0 : l0_0.length ≤ c0_0) (hr0_1 : Kd.C (Kd.int .i64) w A0_1 l0_1.length l0_1) (hc0_1 : l0_1.length ≤ c0_1) (hr1_0 : Kd.C (Kd.int .i64) w A1_0 l1_0.length l1_0) (hc1_0 : l1_0.length ≤ c1_0) (hr1_1 : Kd.C (Kd.int .i64) w A1_1 l1_1.length l1_1) (hc1_1 : l1_1.length ≤ c1_1) (h : laws_ending9.f k l0_0 l0_1 l1_0 l1_1 = some r) :
 Calls Try.prog 48 #[.agg #[.slice A0_0 l0_0.length c0_0,.slice A0_1 l0_1.length c0_1],.agg #[.slice A1_0 l1_0.length c1_0,.slice A1_1 l1_1.length c1_1]] w fun e w' => e = .returned (.bool r) ∧ Below w.heap.size w w' := by
 have hu27 := Try.underlying27;have HR0_0 := aK hr0_0;have HC0_0 := aK hc0_0;clear hr0_0 hc0_0;have HR0_1 := aK hr0_1;have HC0_1 := aK hc0_1;clear hr0_1 hc0_1;have HR1_0 := aK hr1_0;have HC1_0 := aK hc1_0;clear hr1_0 hc1_0;have HR1_1 := aK hr1_1;have HC1_1 := aK hc1_1;clear hr1_1 hc1_1;have HB := aK (Below.refl w.heap.size w);have H := h;clear h;unfold laws_ending9.f at H;replace H := bE H;obtain ⟨t500,A3,H⟩ := H
 by_cases c4 : t500 = true
 ·subst c4;rw [if_pos rfl] at H;replace H := bE H;obtain ⟨t501,A5,H⟩ := H;obtain rfl := Option.some.inj H;go_enter Try.func48,Try.ntmps48
  go_wp2_with (first | ((with_reducible refine gate_dst (N := 2) rfl ?_);refine boxE 2 #[.slice A0_0 l0_0.length c0_0,.slice A0_1 l0_1.length c0_1] 27 ?_;intro gb498 hg w6 hbox hb;have BK498 := aK (hbox);have GW498 := aK (zG HB hg);have GE498 := aK (zG HB hg);replace HB := hB HB hb;clear hb hbox hg) | ((with_reducible refine gate_dst (N := 3) rfl ?_);refine boxE 3 #[.slice A1_0 l1_0.length c1_0,.slice A1_1 l1_1.length c1_1] 27 ?_;intro gb499 hg w7 hbox hb;have BK499 := aK (hbox);have GW499 := aK (zG HB hg);have GE499 := aK (zG HB hg);replace HB := hB HB hb;have NB498_499 := aK ((by rw [hg];exact Nat.ne_of_lt (blk_lt (g := gb498) (o := .cells #[.slice A0_0 l0_0.length c0_0,.slice A0_1 l0_1.length c0_1] 27 (0,0)) (kN BK498)) : gb498 ≠ gb499));have NB499_498 := aK ((by rw [hg];exact Nat.ne_of_gt (blk_lt (g := gb498) (o := .cells #[.slice A0_0 l0_0.length c0_0,.slice A0_1 l0_1.length c0_1] 27 (0,0)) (kN BK498)) : gb499 ≠ gb498));replace BK498 := kB BK498 hb;clear hb hbox hg;have hnb8 := NB498_499.out;have hnc8 := NB499_498.out;have hcz9_0 := y0 BK498;have hcz9_1 := y1 BK498;have hfz9_0 := blk_frozen BK498.out 0;have hfz9_1 := blk_frozen BK498.out 1;have hcz10_0 := y0 BK499;have hcz10_1 := y1 BK499;have hfz10_0 := blk_frozen BK499.out 0;have hfz10_1 := blk_frozen BK499.out 1) | ((with_reducible refine gate_callee (f := 53) rfl ?_);refine goesE (some 9) Try.func53 #[.slice A0_0 l0_0.length c0_0,.slice A1_0 l1_0.length c1_0] ?_;(with_reducible refine (laws_likeInts.calls k _ _ l0_0 _ _ l1_0 true _ ?side1 ?side2 ?side3 ?side4 A3.out).mono ?_);(case side1 => exact cB HR0_0 HB);(case side2 => exact HC0_0.out);(case side3 => exact cB HR1_0 HB);(case side4 => exact HC1_0.out);rintro e w' ⟨rfl,⟨nd,rfl⟩⟩;refine ⟨_,rfl,?_⟩) | (go_at_call 53;(with_reducible refine (laws_likeInts.calls k _ _ l0_1 _ _ l1_1 t501 _ ?side1 ?side2 ?side3 ?side4 A5.out).mono ?_);(case side1 => exact cM ((Kd.C_below HR0_1.out (bN HB))));(case side2 => exact HC0_1.out);(case side3 => exact cM ((Kd.C_below HR1_1.out (bN HB))));(case side4 => exact HC1_1.out);rintro e w' ⟨rfl,⟨nd,rfl⟩⟩))
  go_ret;exact eR (bN HB)
 ·replace c4 := Bool.eq_false_iff.mpr c4;subst c4;rw [if_neg (show ¬ (false = true) by decide)] at H;obtain rfl := Option.some.inj H;go_enter Try.func48,Try.ntmps48
  go_wp2_with (first | ((with_reducible refine gate_dst (N := 2) rfl ?_);refine boxE 2 #[.slice A0_0 l0_0.length c0_0,.slice A0_1 l0_1.length c0_1] 27 ?_;intro gb498 hg w11 hbox hb;have BK498 := aK (hbox);have GW498 := aK (zG HB hg);have GE498 := aK (zG HB hg);replace HB := hB HB hb;clear hb hbox hg) | ((with_reducible refine gate_dst (N := 3) rfl ?_);refine boxE 3 #[.slice A1_0 l1_0.length c1_0,.slice A1_1 l1_1.length c1_1] 27 ?_;intro gb499 hg w12 hbox hb;have BK499 := aK (hbox);have GW499 := aK (zG HB hg);have GE499 := aK (zG HB hg);replace HB := hB HB hb;have NB498_499 := aK ((by rw [hg];exact Nat.ne_of_lt (blk_lt (g := gb498) (o := .cells #[.slice A0_0 l0_0.length c0_0,.slice A0_1 l0_1.length c0_1] 27 (0,0)) (kN BK498)) : gb498 ≠ gb499));have NB499_498 := aK ((by rw [hg];exact Nat.ne_of_gt (blk_lt (g := gb498) (o := .cells #[.slice A0_0 l0_0.length c0_0,.slice A0_1 l0_1.length c0_1] 27 (0,0)) (kN BK498)) : gb499 ≠ gb498));replace BK498 := kB BK498 hb;clear hb hbox hg;have hnb13 := NB498_499.out;have hnc13 := NB499_498.out;have hcz14_0 := y0 BK498;have hcz14_1 := y1 BK498;have hfz14_0 := blk_frozen BK498.out 0;have hfz14_1 := blk_frozen BK498.out 1;have hcz15_0 := y0 BK499;have hcz15_1 := y1 BK499;have hfz15_0 := blk_frozen BK499.out 0;have hfz15_1 := blk_frozen BK499.out 1) | ((with_reducible refine gate_callee (f := 53) rfl ?_);refine goesE (some 9) Try.func53 #[.slice A0_0 l0_0.length c0_0,.slice A1_0 l1_0.length c1_0] ?_;(with_reducible refine (laws_likeInts.calls k _ _ l0_0 _ _ l1_0 false _ ?side1 ?side2 ?side3 ?side4 A3.out).mono ?_);(case side1 => exact cB HR0_0 HB);(case side2 => exact HC0_0.out);(case side3 => exact cB HR1_0 HB);(case side4 => exact HC1_0.out);rintro e w' ⟨rfl,⟨nd,rfl⟩⟩;refine ⟨_,rfl,?_⟩))
  go_ret;exact eR (bN HB)
/-! ### spec_l01Near: function 91 -/
def spec_l01Near.f (s0_0 : List Int) (s0_1 : Int) (s0_2 : Int) (a1 : Int) : Option (Int × Int × Int) := (spec_l01Next.f s0_0 s0_1 s0_2 14).bind fun bt502 => (if bt502.1 = 0 then ((spec_l01Pick.f s0_0 bt502.2.1 bt502.2.2 (([(-1), wrap64 (a1 + 1), 1099511627776, (-4611686018427387904)] : List Int))).bind fun bt508 => (some (bt508.1, bt508.2.1, bt508.2.2))) else ((spec_l01Next.f s0_0 bt502.2.1 bt502.2.2 (wrap64 (a1 + 1))).bind fun bt511 => (some (bt511.1, bt511.2.1, bt511.2.2))))
set_option maxHeartbeats 8000000 in
set_option maxRecDepth 100000 in
theorem spec_l01Near.calls (g : Nat) (s0_0 : List Int) (s0_1 : Int) (s0_2 : Int) (a1 : Int) (r1 : Int) (r2 : Int) (r3 : Int) (w0 w : World) (hI : IsS118 w0 w g s0_0 s0_1 s0_2) (hB : Below w0.heap.size w0 w) (h : spec_l01Near.f s0_0 s0_1 s0_2 a1 = some (r1, r2, r3)) :
 Calls Try.prog 91 #[.pointer (some ⟨g,0,none⟩),.int .i64 a1] w fun e w' => e = .returned (.int .i64 r1) ∧ IsS118 w0 w' g s0_0 r2 r3 ∧ Below w0.heap.size w0 w' ∧ KeepBut w w' g none := by
 have HI0 := aK hI;have HK := aK (KeepBut.refl w g none);have HL := aK hB.size;clear hI;have HW0 := aK hB.size;have HB := aK hB;clear hB;have H := h;clear h;unfold spec_l01Near.f at H;replace H := bE H;obtain ⟨⟨t502,t503,t504⟩,A3,H⟩ := H;dsimp only at H
 by_cases c4 : t502 = 0
 ·rw [if_pos c4] at H;have c4b0 := beq_iff_eq.mpr c4;have c4b1 := bne_eq_false_iff_eq.mpr c4;clear c4;obtain ⟨y505,hy505⟩ : ∃ y_ : List Int,y_ = (([(-1),wrap64 (a1 + 1),1099511627776,(-4611686018427387904)] : List Int)) := ⟨_,rfl⟩;replace H : ((spec_l01Pick.f s0_0 t503 t504 y505).bind fun bt508 => (some (bt508.1,bt508.2.1,bt508.2.2))) = some (r1,r2,r3) := by first | (rw [hy505];with_reducible exact H) | (have H2_ := (Option.bind_some _ _).symm.trans H;rw [hy505];with_reducible exact H2_) | (have H2_ := (Option.bind_some _ _).symm.trans H;with_reducible exact H2_) | with_reducible exact H | (rw [hy505];exact H) | exact H
  have Ny505 := aK hy505;clear hy505;replace H := bE H;obtain ⟨⟨t508,t509,t510⟩,A5,H⟩ := H;dsimp only at H;simp only [Option.some.injEq,Prod.mk.injEq] at H;obtain ⟨rfl,rfl,rfl⟩ := H;go_enter Try.func91,Try.ntmps91
  go_wp2_with (first | ((with_reducible refine gate_callee (f := 111) rfl ?_);refine goesE (some 6) Try.func111 #[.pointer (some ⟨g,0,none⟩),.int .i64 14] ?_;(with_reducible refine (spec_l01Next.calls g s0_0 s0_1 s0_2 14 t502 t503 t504 w0 _ ?side1 ?side2 A3.out).mono ?_);(case side1 => exact iN HI0);(case side2 => exact bI HB);rintro e w6 ⟨rfl,hi,hb,hk⟩;refine ⟨_,rfl,?_⟩;replace HK := aK (KeepBut.trans ((jN HK)) hk (.inl rfl));replace HB := aK (hb);replace HI0 := aK (hi);clear hb hk hi) | ((with_reducible refine gate_dst (N := 11) rfl ?_);refine Kd.R_lit (Kd.int .i64) _ 2 ?hg (N := 11) ?hd (xs := ([(-1),wrap64 (a1 + 1),1099511627776,(-4611686018427387904)] : List Int)) (inner := [.int .i64 (-1),.int .i64 (wrap64 (a1 + 1)),.int .i64 1099511627776,.int .i64 (-4611686018427387904)]) (ok := fun _ => True) (okp := fun _ => True) ?hr ?hp (fun _ hk => hk) trivial (Below.refl _ _) (Nat.le_refl _) (by simp) ?_;(case hd => rfl);(case hg => rfl);(case hr => first | (go_simp;done) | (go_simp;rfl));(case hp => exact (Reps.one (show Kd.M (Kd.int .i64) _ _ _ (-1) [.int .i64 (-1)] from rfl) (Reps.one (show Kd.M (Kd.int .i64) _ _ _ (wrap64 (a1 + 1)) [.int .i64 (wrap64 (a1 + 1))] from rfl) (Reps.one (show Kd.M (Kd.int .i64) _ _ _ 1099511627776 [.int .i64 1099511627776] from rfl) (Reps.one (show Kd.M (Kd.int .i64) _ _ _ (-4611686018427387904) [.int .i64 (-4611686018427387904)] from rfl) (Reps.none _ _))))));intro v506 w7 ho8 hb hg_ hnew_;clear hg_ hnew_;(first | rw [← Ny505.out] at ho8 | (simp only [Int.reduceToNat] at ho8;rw [← Ny505.out] at ho8));have HO507 := aK (Kd.R_lower ho8 (keep_size (w := w) (g := g) (row := none) ((jN HK))));replace HI0 := aK (IsS118.below ((iN HI0)) hb);replace HK := aK (KeepBut.trans ((jN HK)) (KeepBut.of_below hb g none) (.inl rfl));replace HB := aK (below_step ((bI HB)) hb);clear hb ho8;obtain ⟨Ao9,co9,eo9⟩ := Kd.R_slice HO507.out;subst eo9) | ((with_reducible refine gate_callee (f := 92) rfl ?_);refine goesE (some 12) Try.func92 #[.pointer (some ⟨g,0,none⟩),.slice Ao9 y505.length co9] ?_;(with_reducible refine (spec_l01Pick.calls g s0_0 t503 t504 _ _ y505 t508 t509 t510 w0 _ ?side1 ?side2 ?side3 ?side4 ?side5 A5.out).mono ?_);(case side1 => exact iN HI0);(case side2 => exact bI HB);(case side3 => exact cR HO507);(case side4 => exact (Kd.R_reads' HO507.out).2.1);(case side5 => exact far_slice (IsS118.own_ne HI0.out HO507.out (by decide)));rintro e w10 ⟨rfl,hi,hb,hk⟩;refine ⟨_,rfl,?_⟩;replace HO507 := aK (Kd.R_mono (Kd.R_keep (IsS118.apart (show IsS118 w0 _ g s0_0 t503 t504 from (iN HI0)) (rN HO507) (by decide)) hk (fun _ h => h.2)) (fun _ h => h.1));replace HK := aK (KeepBut.trans ((jN HK)) hk (.inl rfl));replace HB := aK (hb);replace HI0 := aK (hi);clear hb hk hi))
  go_ret;exact ⟨by first | rfl | (simp [errW_none,errW_some] <;> rfl) | (simp [*,errW_none,errW_some] <;> rfl),(iN HI0),(bI HB),(jN HK)⟩
 ·rw [if_neg c4] at H;have c4b0 := beq_eq_false_iff_ne.mpr c4;have c4b1 := bne_iff_ne.mpr c4;replace H := bE H;obtain ⟨⟨t511,t512,t513⟩,A11,H⟩ := H;dsimp only at H;simp only [Option.some.injEq,Prod.mk.injEq] at H;obtain ⟨rfl,rfl,rfl⟩ := H;go_enter Try.func91,Try.ntmps91
  go_wp2_with (first | ((with_reducible refine gate_callee (f := 111) rfl ?_);refine goesE (some 6) Try.func111 #[.pointer (some ⟨g,0,none⟩),.int .i64 14] ?_;(with_reducible refine (spec_l01Next.calls g s0_0 s0_1 s0_2 14 t502 t503 t504 w0 _ ?side1 ?side2 A3.out).mono ?_);(case side1 => exact iN HI0);(case side2 => exact bI HB);rintro e w12 ⟨rfl,hi,hb,hk⟩;refine ⟨_,rfl,?_⟩;replace HK := aK (KeepBut.trans ((jN HK)) hk (.inl rfl));replace HB := aK (hb);replace HI0 := aK (hi);clear hb hk hi) | ((with_reducible refine gate_callee (f := 111) rfl ?_);refine goesE (some 16) Try.func111 #[.pointer (some ⟨g,0,none⟩),.int .i64 (wrap64 (a1 + 1))] ?_;(with_reducible refine (spec_l01Next.calls g s0_0 t503 t504 (wrap64 (a1 + 1)) t511 t512 t513 w0 _ ?side1 ?side2 A11.out).mono ?_);(case side1 => exact iN HI0);(case side2 => exact bI HB);rintro e w13 ⟨rfl,hi,hb,hk⟩;refine ⟨_,rfl,?_⟩;replace HK := aK (KeepBut.trans ((jN HK)) hk (.inl rfl));replace HB := aK (hb);replace HI0 := aK (hi);clear hb hk hi))
  go_ret;exact ⟨by first | rfl | (simp [errW_none,errW_some] <;> rfl) | (simp [*,errW_none,errW_some] <;> rfl),(iN HI0),(bI HB),(jN HK)⟩
/-! ### spec_DrawTurnsOf: function 49 -/
def spec_DrawTurnsOf.f (k : Nat) (l0 : List Int) : Option (Int × Int × Int) := (spec_l01From.f k l0).bind fun bt514 => ((spec_l01Pick.f bt514.1 bt514.2.1 bt514.2.2 (([5, 1000] : List Int))).bind fun bt521 => ((spec_l01Near.f bt514.1 bt521.2.1 bt521.2.2 bt521.1).bind fun bt524 => ((spec_l01Pick.f bt514.1 bt524.2.1 bt524.2.2 (([5, 1000] : List Int))).bind fun bt530 => ((spec_l01Near.f bt514.1 bt530.2.1 bt530.2.2 bt530.1).bind fun bt533 => ((spec_l01Near.f bt514.1 bt533.2.1 bt533.2.2 12).bind fun bt536 => ((spec_l01Pick.f bt514.1 bt536.2.1 bt536.2.2 (([0, 1, 2, bt536.1] : List Int))).bind fun bt542 => (some (bt524.1, bt533.1, bt542.1))))))))
theorem spec_DrawTurnsOf.mono : ∀ a0 k, LeO (spec_DrawTurnsOf.f k a0) (spec_DrawTurnsOf.f (k + 1) a0) := by
 intro a0 k;unfold spec_DrawTurnsOf.f
 repeat' first
  | (with_reducible exact spec_l01From.mono _ _)
  | (with_reducible exact LeO.refl _)
  | (with_reducible exact LeO.none _)
  | (with_reducible refine LeO.ite ?_ ?_)
  | (with_reducible refine LeO.bind ?_ (fun _ => ?_))
  | exact spec_l01From.mono _ _
  | exact LeO.none _
  | refine LeO.ite ?_ ?_
  | refine LeO.bind ?_ (fun _ => ?_)
set_option maxHeartbeats 8000000 in
set_option maxRecDepth 100000 in
theorem spec_DrawTurnsOf.calls (k : Nat) (A0 : Option Addr) (c0 : Nat) (l0 : List Int) (r1 : Int) (r2 : Int) (r3 : Int) (w : World) (hr0 : Kd.C (Kd.int .u8) w A0 l0.length l0) (hc0 : l0.length ≤ c0) (h : spec_DrawTurnsOf.f k l0 = some (r1, r2, r3)) :
 Calls Try.prog 49 #[.slice A0 l0.length c0] w fun e w' => e = .returned (.tuple #[.int .i64 r1,.int .i64 r2,.int .i64 r3]) ∧ Below w.heap.size w w' := by
 have HR0 := aK hr0;have HC0 := aK hc0;clear hr0 hc0;have HB := aK (Below.refl w.heap.size w);have H := h;clear h;unfold spec_DrawTurnsOf.f at H;replace H := bE H;obtain ⟨⟨t514,t515,t516⟩,A2,H⟩ := H;dsimp only at H;obtain ⟨y518,hy518⟩ : ∃ y_ : List Int,y_ = (([5,1000] : List Int)) := ⟨_,rfl⟩;replace H : ((spec_l01Pick.f t514 t515 t516 y518).bind fun bt521 => ((spec_l01Near.f t514 bt521.2.1 bt521.2.2 bt521.1).bind fun bt524 => ((spec_l01Pick.f t514 bt524.2.1 bt524.2.2 (([5,1000] : List Int))).bind fun bt530 => ((spec_l01Near.f t514 bt530.2.1 bt530.2.2 bt530.1).bind fun bt533 => ((spec_l01Near.f t514 bt533.2.1 bt533.2.2 12).bind fun bt536 => ((spec_l01Pick.f t514 bt536.2.1 bt536.2.2 (([0,1,2,bt536.1] : List Int))).bind fun bt542 => (some (bt524.1,bt533.1,bt542.1)))))))) = some (r1,r2,r3) := by first | (rw [hy518];with_reducible exact H) | (have H2_ := (Option.bind_some _ _).symm.trans H;rw [hy518];with_reducible exact H2_) | (have H2_ := (Option.bind_some _ _).symm.trans H;with_reducible exact H2_) | with_reducible exact H | (rw [hy518];exact H) | exact H
 have Ny518 := aK hy518;clear hy518;replace H := bE H;obtain ⟨⟨t521,t522,t523⟩,A3,H⟩ := H;dsimp only at H;replace H := bE H;obtain ⟨⟨t524,t525,t526⟩,A4,H⟩ := H;dsimp only at H;obtain ⟨y527,hy527⟩ : ∃ y_ : List Int,y_ = (([5,1000] : List Int)) := ⟨_,rfl⟩;replace H : ((spec_l01Pick.f t514 t525 t526 y527).bind fun bt530 => ((spec_l01Near.f t514 bt530.2.1 bt530.2.2 bt530.1).bind fun bt533 => ((spec_l01Near.f t514 bt533.2.1 bt533.2.2 12).bind fun bt536 => ((spec_l01Pick.f t514 bt536.2.1 bt536.2.2 (([0,1,2,bt536.1] : List Int))).bind fun bt542 => (some (t524,bt533.1,bt542.1)))))) = some (r1,r2,r3) := by first | (rw [hy527];with_reducible exact H) | (have H2_ := (Option.bind_some _ _).symm.trans H;rw [hy527];with_reducible exact H2_) | (have H2_ := (Option.bind_some _ _).symm.trans H;with_reducible exact H2_) | with_reducible exact H | (rw [hy527];exact H) | exact H
 have Ny527 := aK hy527;clear hy527;replace H := bE H;obtain ⟨⟨t530,t531,t532⟩,A5,H⟩ := H;dsimp only at H;replace H := bE H;obtain ⟨⟨t533,t534,t535⟩,A6,H⟩ := H;dsimp only at H;replace H := bE H;obtain ⟨⟨t536,t537,t538⟩,A7,H⟩ := H;dsimp only at H;obtain ⟨y539,hy539⟩ : ∃ y_ : List Int,y_ = (([0,1,2,t536] : List Int)) := ⟨_,rfl⟩;replace H : ((spec_l01Pick.f t514 t537 t538 y539).bind fun bt542 => (some (t524,t533,bt542.1))) = some (r1,r2,r3) := by first | (rw [hy539];with_reducible exact H) | (have H2_ := (Option.bind_some _ _).symm.trans H;rw [hy539];with_reducible exact H2_) | (have H2_ := (Option.bind_some _ _).symm.trans H;with_reducible exact H2_) | with_reducible exact H | (rw [hy539];exact H) | exact H
 have Ny539 := aK hy539;clear hy539;replace H := bE H;obtain ⟨⟨t542,t543,t544⟩,A8,H⟩ := H;dsimp only at H;simp only [Option.some.injEq,Prod.mk.injEq] at H;obtain ⟨rfl,rfl,rfl⟩ := H;go_enter Try.func49,Try.ntmps49
 go_wp2_with (first | ((with_reducible refine gate_callee (f := 90) rfl ?_);refine goesE (some 7) Try.func90 #[.slice A0 l0.length c0] ?_;(with_reducible refine (spec_l01From.calls k _ _ l0 t514 t515 t516 w _ ?side1 ?side2 ?side3 A2.out).mono ?_);(case side1 => exact bN HB);(case side2 => exact HR0.out);(case side3 => exact HC0.out);rintro e w9 ⟨g517,rfl,hi,hb,hb2⟩;refine ⟨_,rfl,?_⟩;replace HB := aK (hb);have HI517 := aK (hi);clear hb hb2 hi) | ((with_reducible refine gate_dst (N := 10) rfl ?_);refine Kd.R_lit (Kd.int .i64) _ 2 ?hg (N := 10) ?hd (xs := ([5,1000] : List Int)) (inner := [.int .i64 5,.int .i64 1000]) (ok := fun _ => True) (okp := fun _ => True) ?hr ?hp (fun _ hk => hk) trivial (Below.refl _ _) (Nat.le_refl _) (by simp) ?_;(case hd => rfl);(case hg => rfl);(case hr => first | (go_simp;done) | (go_simp;rfl));(case hp => exact (Reps.one (show Kd.M (Kd.int .i64) _ _ _ 5 [.int .i64 5] from rfl) (Reps.one (show Kd.M (Kd.int .i64) _ _ _ 1000 [.int .i64 1000] from rfl) (Reps.none _ _))));intro v519 w10 ho11 hb hg_ hnew_;clear hg_ hnew_;(first | rw [← Ny518.out] at ho11 | (simp only [Int.reduceToNat] at ho11;rw [← Ny518.out] at ho11));have HO520 := aK (Kd.R_lower ho11 (below_size ((bI HB))));replace HI517 := aK (IsS118.below ((iN HI517)) hb);replace HB := aK (below_step ((bI HB)) hb);clear hb ho11;obtain ⟨Ao12,co12,eo12⟩ := Kd.R_slice HO520.out;subst eo12) | ((with_reducible refine gate_callee (f := 92) rfl ?_);refine goesE (some 11) Try.func92 #[.pointer (some ⟨g517,0,none⟩),.slice Ao12 y518.length co12] ?_;(with_reducible refine (spec_l01Pick.calls g517 t514 t515 t516 _ _ y518 t521 t522 t523 w _ ?side1 ?side2 ?side3 ?side4 ?side5 A3.out).mono ?_);(case side1 => exact iN HI517);(case side2 => exact bI HB);(case side3 => exact cR HO520);(case side4 => exact (Kd.R_reads' HO520.out).2.1);(case side5 => exact far_slice (IsS118.own_ne HI517.out HO520.out (by decide)));rintro e w13 ⟨rfl,hi,hb,hk⟩;refine ⟨_,rfl,?_⟩;replace HO520 := aK (Kd.R_mono (Kd.R_keep (IsS118.apart (show IsS118 w _ g517 t514 t515 t516 from (iN HI517)) (rN HO520) (by decide)) hk (fun _ h => h.2)) (fun _ h => h.1));replace HB := aK (hb);replace HI517 := aK (hi);clear hb hk hi) | ((with_reducible refine gate_callee (f := 91) rfl ?_);refine goesE (some 12) Try.func91 #[.pointer (some ⟨g517,0,none⟩),.int .i64 t521] ?_;(with_reducible refine (spec_l01Near.calls g517 t514 t522 t523 t521 t524 t525 t526 w _ ?side1 ?side2 A4.out).mono ?_);(case side1 => exact iN HI517);(case side2 => exact bI HB);rintro e w14 ⟨rfl,hi,hb,hk⟩;refine ⟨_,rfl,?_⟩;replace HO520 := aK (Kd.R_mono (Kd.R_keep (IsS118.apart (show IsS118 w _ g517 t514 t522 t523 from (iN HI517)) (rN HO520) (by decide)) hk (fun _ h => h.2)) (fun _ h => h.1));replace HB := aK (hb);replace HI517 := aK (hi);clear hb hk hi) | ((with_reducible refine gate_dst (N := 15) rfl ?_);refine Kd.R_lit (Kd.int .i64) _ 2 ?hg (N := 15) ?hd (xs := ([5,1000] : List Int)) (inner := [.int .i64 5,.int .i64 1000]) (ok := fun _ => True) (okp := fun _ => True) ?hr ?hp (fun _ hk => hk) trivial (Below.refl _ _) (Nat.le_refl _) (by simp) ?_;(case hd => rfl);(case hg => rfl);(case hr => first | (go_simp;done) | (go_simp;rfl));(case hp => exact (Reps.one (show Kd.M (Kd.int .i64) _ _ _ 5 [.int .i64 5] from rfl) (Reps.one (show Kd.M (Kd.int .i64) _ _ _ 1000 [.int .i64 1000] from rfl) (Reps.none _ _))));intro v528 w15 ho16 hb hg_ hnew_;clear hg_ hnew_;(first | rw [← Ny527.out] at ho16 | (simp only [Int.reduceToNat] at ho16;rw [← Ny527.out] at ho16));have HO529 := aK (Kd.R_lower (Kd.R_new' ho16 (Kd.R_lt (rN HO520))) (below_size ((bI HB))));replace HO520 := aK (Kd.R_elder' (rN HO520) (Kd.R_base ho16) hb);replace HI517 := aK (IsS118.below ((iN HI517)) hb);replace HB := aK (below_step ((bI HB)) hb);clear hb ho16;obtain ⟨Ao17,co17,eo17⟩ := Kd.R_slice HO529.out;subst eo17) | ((with_reducible refine gate_callee (f := 92) rfl ?_);refine goesE (some 16) Try.func92 #[.pointer (some ⟨g517,0,none⟩),.slice Ao17 y527.length co17] ?_;(with_reducible refine (spec_l01Pick.calls g517 t514 t525 t526 _ _ y527 t530 t531 t532 w _ ?side1 ?side2 ?side3 ?side4 ?side5 A5.out).mono ?_);(case side1 => exact iN HI517);(case side2 => exact bI HB);(case side3 => exact cR HO529);(case side4 => exact (Kd.R_reads' HO529.out).2.1);(case side5 => exact far_slice (IsS118.own_ne HI517.out HO529.out (by decide)));rintro e w18 ⟨rfl,hi,hb,hk⟩;refine ⟨_,rfl,?_⟩;replace HO520 := aK (Kd.R_mono (Kd.R_keep (IsS118.apart (show IsS118 w _ g517 t514 t525 t526 from (iN HI517)) (rN HO520) (by decide)) hk (fun _ h => h.2)) (fun _ h => h.1));replace HO529 := aK (Kd.R_mono (Kd.R_keep (IsS118.apart (show IsS118 w _ g517 t514 t525 t526 from (iN HI517)) (rN HO529) (by decide)) hk (fun _ h => h.2)) (fun _ h => h.1));replace HB := aK (hb);replace HI517 := aK (hi);clear hb hk hi) | ((with_reducible refine gate_callee (f := 91) rfl ?_);refine goesE (some 17) Try.func91 #[.pointer (some ⟨g517,0,none⟩),.int .i64 t530] ?_;(with_reducible refine (spec_l01Near.calls g517 t514 t531 t532 t530 t533 t534 t535 w _ ?side1 ?side2 A6.out).mono ?_);(case side1 => exact iN HI517);(case side2 => exact bI HB);rintro e w19 ⟨rfl,hi,hb,hk⟩;refine ⟨_,rfl,?_⟩;replace HO520 := aK (Kd.R_mono (Kd.R_keep (IsS118.apart (show IsS118 w _ g517 t514 t531 t532 from (iN HI517)) (rN HO520) (by decide)) hk (fun _ h => h.2)) (fun _ h => h.1));replace HO529 := aK (Kd.R_mono (Kd.R_keep (IsS118.apart (show IsS118 w _ g517 t514 t531 t532 from (iN HI517)) (rN HO529) (by decide)) hk (fun _ h => h.2)) (fun _ h => h.1));replace HB := aK (hb);replace HI517 := aK (hi);clear hb hk hi) | ((with_reducible refine gate_callee (f := 91) rfl ?_);refine goesE (some 20) Try.func91 #[.pointer (some ⟨g517,0,none⟩),.int .i64 12] ?_;(with_reducible refine (spec_l01Near.calls g517 t514 t534 t535 12 t536 t537 t538 w _ ?side1 ?side2 A7.out).mono ?_);(case side1 => exact iN HI517);(case side2 => exact bI HB);rintro e w20 ⟨rfl,hi,hb,hk⟩;refine ⟨_,rfl,?_⟩;replace HO520 := aK (Kd.R_mono (Kd.R_keep (IsS118.apart (show IsS118 w _ g517 t514 t534 t535 from (iN HI517)) (rN HO520) (by decide)) hk (fun _ h => h.2)) (fun _ h => h.1));replace HO529 := aK (Kd.R_mono (Kd.R_keep (IsS118.apart (show IsS118 w _ g517 t514 t534 t535 from (iN HI517)) (rN HO529) (by decide)) hk (fun _ h => h.2)) (fun _ h => h.1));replace HB := aK (hb);replace HI517 := aK (hi);clear hb hk hi) | ((with_reducible refine gate_dst (N := 21) rfl ?_);refine Kd.R_lit (Kd.int .i64) _ 2 ?hg (N := 21) ?hd (xs := ([0,1,2,t536] : List Int)) (inner := [.int .i64 0,.int .i64 1,.int .i64 2,.int .i64 t536]) (ok := fun _ => True) (okp := fun _ => True) ?hr ?hp (fun _ hk => hk) trivial (Below.refl _ _) (Nat.le_refl _) (by simp) ?_;(case hd => rfl);(case hg => rfl);(case hr => first | (go_simp;done) | (go_simp;rfl));(case hp => exact (Reps.one (show Kd.M (Kd.int .i64) _ _ _ 0 [.int .i64 0] from rfl) (Reps.one (show Kd.M (Kd.int .i64) _ _ _ 1 [.int .i64 1] from rfl) (Reps.one (show Kd.M (Kd.int .i64) _ _ _ 2 [.int .i64 2] from rfl) (Reps.one (show Kd.M (Kd.int .i64) _ _ _ t536 [.int .i64 t536] from rfl) (Reps.none _ _))))));intro v540 w21 ho22 hb hg_ hnew_;clear hg_ hnew_;(first | rw [← Ny539.out] at ho22 | (simp only [Int.reduceToNat] at ho22;rw [← Ny539.out] at ho22));have HO541 := aK (Kd.R_lower (Kd.R_new' (Kd.R_new' ho22 (Kd.R_lt (rN HO520))) (Kd.R_lt (rN HO529))) (below_size ((bI HB))));replace HO520 := aK (Kd.R_elder' (rN HO520) (Kd.R_base ho22) hb);replace HO529 := aK (Kd.R_elder' (rN HO529) (Kd.R_base ho22) hb);replace HI517 := aK (IsS118.below ((iN HI517)) hb);replace HB := aK (below_step ((bI HB)) hb);clear hb ho22;obtain ⟨Ao23,co23,eo23⟩ := Kd.R_slice HO541.out;subst eo23) | ((with_reducible refine gate_callee (f := 92) rfl ?_);refine goesE (some 22) Try.func92 #[.pointer (some ⟨g517,0,none⟩),.slice Ao23 y539.length co23] ?_;(with_reducible refine (spec_l01Pick.calls g517 t514 t537 t538 _ _ y539 t542 t543 t544 w _ ?side1 ?side2 ?side3 ?side4 ?side5 A8.out).mono ?_);(case side1 => exact iN HI517);(case side2 => exact bI HB);(case side3 => exact cR HO541);(case side4 => exact (Kd.R_reads' HO541.out).2.1);(case side5 => exact far_slice (IsS118.own_ne HI517.out HO541.out (by decide)));rintro e w24 ⟨rfl,hi,hb,hk⟩;refine ⟨_,rfl,?_⟩;replace HO520 := aK (Kd.R_mono (Kd.R_keep (IsS118.apart (show IsS118 w _ g517 t514 t537 t538 from (iN HI517)) (rN HO520) (by decide)) hk (fun _ h => h.2)) (fun _ h => h.1));replace HO529 := aK (Kd.R_mono (Kd.R_keep (IsS118.apart (show IsS118 w _ g517 t514 t537 t538 from (iN HI517)) (rN HO529) (by decide)) hk (fun _ h => h.2)) (fun _ h => h.1));replace HO541 := aK (Kd.R_mono (Kd.R_keep (IsS118.apart (show IsS118 w _ g517 t514 t537 t538 from (iN HI517)) (rN HO541) (by decide)) hk (fun _ h => h.2)) (fun _ h => h.1));replace HB := aK (hb);replace HI517 := aK (hi);clear hb hk hi))
 go_ret3;exact eR (bI HB)
/-! ### impl_TurnsOf: function 50 -/
def impl_TurnsOf.f (a0 : Int) (a1 : Int) (a2 : Int) : Option (Int × Int) := (impl_within.f a0 1 1000).bind fun t545 => (if t545 = true then ((impl_within.f a1 1 1000).bind fun t546 => (if t546 = true then ((impl_within.f a2 0 (wrap64 (Int.tdiv (wrap64 (a0 * a1)) 2))).bind fun t547 => (if t547 = true then (some (wrap64 ((wrap64 ((wrap64 (a0 + 1)) * (wrap64 (a1 + 1)))) + a2), 0)) else (some (0, 2)))) else (some (0, 2)))) else (some (0, 2)))
set_option maxHeartbeats 8000000 in
set_option maxRecDepth 100000 in
theorem impl_TurnsOf.calls (a0 : Int) (a1 : Int) (a2 : Int) (r1 : Int) (r2 : Int) (w : World) (h : impl_TurnsOf.f a0 a1 a2 = some (r1, r2)) :
 Calls Try.prog 50 #[.int .i64 a0,.int .i64 a1,.int .i64 a2] w fun e w' => e = .returned (.tuple #[.int .i64 r1,.int .i64 r2]) ∧ Drawn0 w w' := by
 have H := h;clear h;unfold impl_TurnsOf.f at H;replace H := bE H;obtain ⟨t545,A4,H⟩ := H
 by_cases c5 : t545 = true
 ·subst c5;rw [if_pos rfl] at H;replace H := bE H;obtain ⟨t546,A6,H⟩ := H
  by_cases c7 : t546 = true
  ·subst c7;rw [if_pos rfl] at H;replace H := bE H;obtain ⟨t547,A8,H⟩ := H
   by_cases c9 : t547 = true
   ·subst c9;rw [if_pos rfl] at H;simp only [Option.some.injEq,Prod.mk.injEq] at H;obtain ⟨rfl,rfl⟩ := H;go_enter Try.func50,Try.ntmps50
    go_wp2_with (first | ((with_reducible refine gate_callee (f := 86) rfl ?_);refine goesE (some 9) Try.func86 #[.int .i64 a0,.int .i64 1,.int .i64 1000] ?_;(with_reducible refine (impl_within.calls a0 1 1000 true _ A4.out).mono ?_);rintro e w' ⟨rfl,⟨nd,rfl⟩⟩;refine ⟨_,rfl,?_⟩) | (go_at_call 86;(with_reducible refine (impl_within.calls a1 1 1000 true _ A6.out).mono ?_);rintro e w' ⟨rfl,⟨nd,rfl⟩⟩) | (go_at_call 86;(with_reducible refine (impl_within.calls a2 0 (wrap64 (Int.tdiv (wrap64 (a0 * a1)) 2)) true _ A8.out).mono ?_);rintro e w' ⟨rfl,⟨nd,rfl⟩⟩))
    go_ret2;exact ⟨rD,dD⟩
   ·replace c9 := Bool.eq_false_iff.mpr c9;subst c9;rw [if_neg (show ¬ (false = true) by decide)] at H;simp only [Option.some.injEq,Prod.mk.injEq] at H;obtain ⟨rfl,rfl⟩ := H;go_enter Try.func50,Try.ntmps50
    go_wp2_with (first | ((with_reducible refine gate_callee (f := 86) rfl ?_);refine goesE (some 9) Try.func86 #[.int .i64 a0,.int .i64 1,.int .i64 1000] ?_;(with_reducible refine (impl_within.calls a0 1 1000 true _ A4.out).mono ?_);rintro e w' ⟨rfl,⟨nd,rfl⟩⟩;refine ⟨_,rfl,?_⟩) | (go_at_call 86;(with_reducible refine (impl_within.calls a1 1 1000 true _ A6.out).mono ?_);rintro e w' ⟨rfl,⟨nd,rfl⟩⟩) | (go_at_call 86;(with_reducible refine (impl_within.calls a2 0 (wrap64 (Int.tdiv (wrap64 (a0 * a1)) 2)) false _ A8.out).mono ?_);rintro e w' ⟨rfl,⟨nd,rfl⟩⟩))
    go_ret2;exact ⟨rD,dD⟩
  ·replace c7 := Bool.eq_false_iff.mpr c7;subst c7;rw [if_neg (show ¬ (false = true) by decide)] at H;simp only [Option.some.injEq,Prod.mk.injEq] at H;obtain ⟨rfl,rfl⟩ := H;go_enter Try.func50,Try.ntmps50
   go_wp2_with (first | ((with_reducible refine gate_callee (f := 86) rfl ?_);refine goesE (some 9) Try.func86 #[.int .i64 a0,.int .i64 1,.int .i64 1000] ?_;(with_reducible refine (impl_within.calls a0 1 1000 true _ A4.out).mono ?_);rintro e w' ⟨rfl,⟨nd,rfl⟩⟩;refine ⟨_,rfl,?_⟩) | (go_at_call 86;(with_reducible refine (impl_within.calls a1 1 1000 false _ A6.out).mono ?_);rintro e w' ⟨rfl,⟨nd,rfl⟩⟩))
   go_ret2;exact ⟨rD,dD⟩
 ·replace c5 := Bool.eq_false_iff.mpr c5;subst c5;rw [if_neg (show ¬ (false = true) by decide)] at H;simp only [Option.some.injEq,Prod.mk.injEq] at H;obtain ⟨rfl,rfl⟩ := H;go_enter Try.func50,Try.ntmps50
  go_wp2_with (first | ((with_reducible refine gate_callee (f := 86) rfl ?_);refine goesE (some 9) Try.func86 #[.int .i64 a0,.int .i64 1,.int .i64 1000] ?_;(with_reducible refine (impl_within.calls a0 1 1000 false _ A4.out).mono ?_);rintro e w' ⟨rfl,⟨nd,rfl⟩⟩;refine ⟨_,rfl,?_⟩))
  go_ret2;exact ⟨rD,dD⟩
/-! ### spec_TurnsOf: function 51 -/
def spec_TurnsOf.f (a0 : Int) (a1 : Int) (a2 : Int) : Option (Int × Int) := (spec_l01In.f a0 1 1000).bind fun t548 => (if t548 = true then ((spec_l01In.f a1 1 1000).bind fun t549 => (if t549 = true then ((spec_l01In.f a2 0 (wrap64 (Int.tdiv (wrap64 (a0 * a1)) 2))).bind fun t550 => (if t550 = true then (some (wrap64 ((wrap64 ((wrap64 (a0 + 1)) * (wrap64 (a1 + 1)))) + a2), 0)) else (some (0, 2)))) else (some (0, 2)))) else (some (0, 2)))
set_option maxHeartbeats 8000000 in
set_option maxRecDepth 100000 in
theorem spec_TurnsOf.calls (a0 : Int) (a1 : Int) (a2 : Int) (r1 : Int) (r2 : Int) (w : World) (h : spec_TurnsOf.f a0 a1 a2 = some (r1, r2)) :
 Calls Try.prog 51 #[.int .i64 a0,.int .i64 a1,.int .i64 a2] w fun e w' => e = .returned (.tuple #[.int .i64 r1,.int .i64 r2]) ∧ Drawn0 w w' := by
 have H := h;clear h;unfold spec_TurnsOf.f at H;replace H := bE H;obtain ⟨t548,A4,H⟩ := H
 by_cases c5 : t548 = true
 ·subst c5;rw [if_pos rfl] at H;replace H := bE H;obtain ⟨t549,A6,H⟩ := H
  by_cases c7 : t549 = true
  ·subst c7;rw [if_pos rfl] at H;replace H := bE H;obtain ⟨t550,A8,H⟩ := H
   by_cases c9 : t550 = true
   ·subst c9;rw [if_pos rfl] at H;simp only [Option.some.injEq,Prod.mk.injEq] at H;obtain ⟨rfl,rfl⟩ := H;go_enter Try.func51,Try.ntmps51
    go_wp2_with (first | ((with_reducible refine gate_callee (f := 84) rfl ?_);refine goesE (some 9) Try.func84 #[.int .i64 a0,.int .i64 1,.int .i64 1000] ?_;(with_reducible refine (spec_l01In.calls a0 1 1000 true _ A4.out).mono ?_);rintro e w' ⟨rfl,⟨nd,rfl⟩⟩;refine ⟨_,rfl,?_⟩) | (go_at_call 84;(with_reducible refine (spec_l01In.calls a1 1 1000 true _ A6.out).mono ?_);rintro e w' ⟨rfl,⟨nd,rfl⟩⟩) | (go_at_call 84;(with_reducible refine (spec_l01In.calls a2 0 (wrap64 (Int.tdiv (wrap64 (a0 * a1)) 2)) true _ A8.out).mono ?_);rintro e w' ⟨rfl,⟨nd,rfl⟩⟩))
    go_ret2;exact ⟨rD,dD⟩
   ·replace c9 := Bool.eq_false_iff.mpr c9;subst c9;rw [if_neg (show ¬ (false = true) by decide)] at H;simp only [Option.some.injEq,Prod.mk.injEq] at H;obtain ⟨rfl,rfl⟩ := H;go_enter Try.func51,Try.ntmps51
    go_wp2_with (first | ((with_reducible refine gate_callee (f := 84) rfl ?_);refine goesE (some 9) Try.func84 #[.int .i64 a0,.int .i64 1,.int .i64 1000] ?_;(with_reducible refine (spec_l01In.calls a0 1 1000 true _ A4.out).mono ?_);rintro e w' ⟨rfl,⟨nd,rfl⟩⟩;refine ⟨_,rfl,?_⟩) | (go_at_call 84;(with_reducible refine (spec_l01In.calls a1 1 1000 true _ A6.out).mono ?_);rintro e w' ⟨rfl,⟨nd,rfl⟩⟩) | (go_at_call 84;(with_reducible refine (spec_l01In.calls a2 0 (wrap64 (Int.tdiv (wrap64 (a0 * a1)) 2)) false _ A8.out).mono ?_);rintro e w' ⟨rfl,⟨nd,rfl⟩⟩))
    go_ret2;exact ⟨rD,dD⟩
  ·replace c7 := Bool.eq_false_iff.mpr c7;subst c7;rw [if_neg (show ¬ (false = true) by decide)] at H;simp only [Option.some.injEq,Prod.mk.injEq] at H;obtain ⟨rfl,rfl⟩ := H;go_enter Try.func51,Try.ntmps51
   go_wp2_with (first | ((with_reducible refine gate_callee (f := 84) rfl ?_);refine goesE (some 9) Try.func84 #[.int .i64 a0,.int .i64 1,.int .i64 1000] ?_;(with_reducible refine (spec_l01In.calls a0 1 1000 true _ A4.out).mono ?_);rintro e w' ⟨rfl,⟨nd,rfl⟩⟩;refine ⟨_,rfl,?_⟩) | (go_at_call 84;(with_reducible refine (spec_l01In.calls a1 1 1000 false _ A6.out).mono ?_);rintro e w' ⟨rfl,⟨nd,rfl⟩⟩))
   go_ret2;exact ⟨rD,dD⟩
 ·replace c5 := Bool.eq_false_iff.mpr c5;subst c5;rw [if_neg (show ¬ (false = true) by decide)] at H;simp only [Option.some.injEq,Prod.mk.injEq] at H;obtain ⟨rfl,rfl⟩ := H;go_enter Try.func51,Try.ntmps51
  go_wp2_with (first | ((with_reducible refine gate_callee (f := 84) rfl ?_);refine goesE (some 9) Try.func84 #[.int .i64 a0,.int .i64 1,.int .i64 1000] ?_;(with_reducible refine (spec_l01In.calls a0 1 1000 false _ A4.out).mono ?_);rintro e w' ⟨rfl,⟨nd,rfl⟩⟩;refine ⟨_,rfl,?_⟩))
  go_ret2;exact ⟨rD,dD⟩
/-! ### spec_DrawBestParts: function 52 -/
def spec_DrawBestParts.f (k : Nat) (l0 : List Int) : Option (Int × Int) := (spec_l01From.f k l0).bind fun bt551 => ((spec_l01Pick.f bt551.1 bt551.2.1 bt551.2.2 (([8, 12, 20] : List Int))).bind fun bt558 => ((spec_l01Near.f bt551.1 bt558.2.1 bt558.2.2 bt558.1).bind fun bt561 => ((spec_l01Near.f bt551.1 bt561.2.1 bt561.2.2 6).bind fun bt564 => ((spec_l01Pick.f bt551.1 bt564.2.1 bt564.2.2 (([1, 2, 3, 4, bt564.1] : List Int))).bind fun bt570 => (some (bt561.1, bt570.1))))))
theorem spec_DrawBestParts.mono : ∀ a0 k, LeO (spec_DrawBestParts.f k a0) (spec_DrawBestParts.f (k + 1) a0) := by
 intro a0 k;unfold spec_DrawBestParts.f
 repeat' first
  | (with_reducible exact spec_l01From.mono _ _)
  | (with_reducible exact LeO.refl _)
  | (with_reducible exact LeO.none _)
  | (with_reducible refine LeO.ite ?_ ?_)
  | (with_reducible refine LeO.bind ?_ (fun _ => ?_))
  | exact spec_l01From.mono _ _
  | exact LeO.none _
  | refine LeO.ite ?_ ?_
  | refine LeO.bind ?_ (fun _ => ?_)
set_option maxHeartbeats 8000000 in
set_option maxRecDepth 100000 in
theorem spec_DrawBestParts.calls (k : Nat) (A0 : Option Addr) (c0 : Nat) (l0 : List Int) (r1 : Int) (r2 : Int) (w : World) (hr0 : Kd.C (Kd.int .u8) w A0 l0.length l0) (hc0 : l0.length ≤ c0) (h : spec_DrawBestParts.f k l0 = some (r1, r2)) :
 Calls Try.prog 52 #[.slice A0 l0.length c0] w fun e w' => e = .returned (.tuple #[.int .i64 r1,.int .i64 r2]) ∧ Below w.heap.size w w' := by
 have HR0 := aK hr0;have HC0 := aK hc0;clear hr0 hc0;have HB := aK (Below.refl w.heap.size w);have H := h;clear h;unfold spec_DrawBestParts.f at H;replace H := bE H;obtain ⟨⟨t551,t552,t553⟩,A2,H⟩ := H;dsimp only at H;obtain ⟨y555,hy555⟩ : ∃ y_ : List Int,y_ = (([8,12,20] : List Int)) := ⟨_,rfl⟩;replace H : ((spec_l01Pick.f t551 t552 t553 y555).bind fun bt558 => ((spec_l01Near.f t551 bt558.2.1 bt558.2.2 bt558.1).bind fun bt561 => ((spec_l01Near.f t551 bt561.2.1 bt561.2.2 6).bind fun bt564 => ((spec_l01Pick.f t551 bt564.2.1 bt564.2.2 (([1,2,3,4,bt564.1] : List Int))).bind fun bt570 => (some (bt561.1,bt570.1)))))) = some (r1,r2) := by first | (rw [hy555];with_reducible exact H) | (have H2_ := (Option.bind_some _ _).symm.trans H;rw [hy555];with_reducible exact H2_) | (have H2_ := (Option.bind_some _ _).symm.trans H;with_reducible exact H2_) | with_reducible exact H | (rw [hy555];exact H) | exact H
 have Ny555 := aK hy555;clear hy555;replace H := bE H;obtain ⟨⟨t558,t559,t560⟩,A3,H⟩ := H;dsimp only at H;replace H := bE H;obtain ⟨⟨t561,t562,t563⟩,A4,H⟩ := H;dsimp only at H;replace H := bE H;obtain ⟨⟨t564,t565,t566⟩,A5,H⟩ := H;dsimp only at H;obtain ⟨y567,hy567⟩ : ∃ y_ : List Int,y_ = (([1,2,3,4,t564] : List Int)) := ⟨_,rfl⟩;replace H : ((spec_l01Pick.f t551 t565 t566 y567).bind fun bt570 => (some (t561,bt570.1))) = some (r1,r2) := by first | (rw [hy567];with_reducible exact H) | (have H2_ := (Option.bind_some _ _).symm.trans H;rw [hy567];with_reducible exact H2_) | (have H2_ := (Option.bind_some _ _).symm.trans H;with_reducible exact H2_) | with_reducible exact H | (rw [hy567];exact H) | exact H
 have Ny567 := aK hy567;clear hy567;replace H := bE H;obtain ⟨⟨t570,t571,t572⟩,A6,H⟩ := H;dsimp only at H;simp only [Option.some.injEq,Prod.mk.injEq] at H;obtain ⟨rfl,rfl⟩ := H;go_enter Try.func52,Try.ntmps52
 go_wp2_with (first | ((with_reducible refine gate_callee (f := 90) rfl ?_);refine goesE (some 6) Try.func90 #[.slice A0 l0.length c0] ?_;(with_reducible refine (spec_l01From.calls k _ _ l0 t551 t552 t553 w _ ?side1 ?side2 ?side3 A2.out).mono ?_);(case side1 => exact bN HB);(case side2 => exact HR0.out);(case side3 => exact HC0.out);rintro e w7 ⟨g554,rfl,hi,hb,hb2⟩;refine ⟨_,rfl,?_⟩;replace HB := aK (hb);have HI554 := aK (hi);clear hb hb2 hi) | ((with_reducible refine gate_dst (N := 9) rfl ?_);refine Kd.R_lit (Kd.int .i64) _ 2 ?hg (N := 9) ?hd (xs := ([8,12,20] : List Int)) (inner := [.int .i64 8,.int .i64 12,.int .i64 20]) (ok := fun _ => True) (okp := fun _ => True) ?hr ?hp (fun _ hk => hk) trivial (Below.refl _ _) (Nat.le_refl _) (by simp) ?_;(case hd => rfl);(case hg => rfl);(case hr => first | (go_simp;done) | (go_simp;rfl));(case hp => exact (Reps.one (show Kd.M (Kd.int .i64) _ _ _ 8 [.int .i64 8] from rfl) (Reps.one (show Kd.M (Kd.int .i64) _ _ _ 12 [.int .i64 12] from rfl) (Reps.one (show Kd.M (Kd.int .i64) _ _ _ 20 [.int .i64 20] from rfl) (Reps.none _ _)))));intro v556 w8 ho9 hb hg_ hnew_;clear hg_ hnew_;(first | rw [← Ny555.out] at ho9 | (simp only [Int.reduceToNat] at ho9;rw [← Ny555.out] at ho9));have HO557 := aK (Kd.R_lower ho9 (below_size ((bI HB))));replace HI554 := aK (IsS118.below ((iN HI554)) hb);replace HB := aK (below_step ((bI HB)) hb);clear hb ho9;obtain ⟨Ao10,co10,eo10⟩ := Kd.R_slice HO557.out;subst eo10) | ((with_reducible refine gate_callee (f := 92) rfl ?_);refine goesE (some 10) Try.func92 #[.pointer (some ⟨g554,0,none⟩),.slice Ao10 y555.length co10] ?_;(with_reducible refine (spec_l01Pick.calls g554 t551 t552 t553 _ _ y555 t558 t559 t560 w _ ?side1 ?side2 ?side3 ?side4 ?side5 A3.out).mono ?_);(case side1 => exact iN HI554);(case side2 => exact bI HB);(case side3 => exact cR HO557);(case side4 => exact (Kd.R_reads' HO557.out).2.1);(case side5 => exact far_slice (IsS118.own_ne HI554.out HO557.out (by decide)));rintro e w11 ⟨rfl,hi,hb,hk⟩;refine ⟨_,rfl,?_⟩;replace HO557 := aK (Kd.R_mono (Kd.R_keep (IsS118.apart (show IsS118 w _ g554 t551 t552 t553 from (iN HI554)) (rN HO557) (by decide)) hk (fun _ h => h.2)) (fun _ h => h.1));replace HB := aK (hb);replace HI554 := aK (hi);clear hb hk hi) | ((with_reducible refine gate_callee (f := 91) rfl ?_);refine goesE (some 11) Try.func91 #[.pointer (some ⟨g554,0,none⟩),.int .i64 t558] ?_;(with_reducible refine (spec_l01Near.calls g554 t551 t559 t560 t558 t561 t562 t563 w _ ?side1 ?side2 A4.out).mono ?_);(case side1 => exact iN HI554);(case side2 => exact bI HB);rintro e w12 ⟨rfl,hi,hb,hk⟩;refine ⟨_,rfl,?_⟩;replace HO557 := aK (Kd.R_mono (Kd.R_keep (IsS118.apart (show IsS118 w _ g554 t551 t559 t560 from (iN HI554)) (rN HO557) (by decide)) hk (fun _ h => h.2)) (fun _ h => h.1));replace HB := aK (hb);replace HI554 := aK (hi);clear hb hk hi) | ((with_reducible refine gate_callee (f := 91) rfl ?_);refine goesE (some 14) Try.func91 #[.pointer (some ⟨g554,0,none⟩),.int .i64 6] ?_;(with_reducible refine (spec_l01Near.calls g554 t551 t562 t563 6 t564 t565 t566 w _ ?side1 ?side2 A5.out).mono ?_);(case side1 => exact iN HI554);(case side2 => exact bI HB);rintro e w13 ⟨rfl,hi,hb,hk⟩;refine ⟨_,rfl,?_⟩;replace HO557 := aK (Kd.R_mono (Kd.R_keep (IsS118.apart (show IsS118 w _ g554 t551 t562 t563 from (iN HI554)) (rN HO557) (by decide)) hk (fun _ h => h.2)) (fun _ h => h.1));replace HB := aK (hb);replace HI554 := aK (hi);clear hb hk hi) | ((with_reducible refine gate_dst (N := 15) rfl ?_);refine Kd.R_lit (Kd.int .i64) _ 2 ?hg (N := 15) ?hd (xs := ([1,2,3,4,t564] : List Int)) (inner := [.int .i64 1,.int .i64 2,.int .i64 3,.int .i64 4,.int .i64 t564]) (ok := fun _ => True) (okp := fun _ => True) ?hr ?hp (fun _ hk => hk) trivial (Below.refl _ _) (Nat.le_refl _) (by simp) ?_;(case hd => rfl);(case hg => rfl);(case hr => first | (go_simp;done) | (go_simp;rfl));(case hp => exact (Reps.one (show Kd.M (Kd.int .i64) _ _ _ 1 [.int .i64 1] from rfl) (Reps.one (show Kd.M (Kd.int .i64) _ _ _ 2 [.int .i64 2] from rfl) (Reps.one (show Kd.M (Kd.int .i64) _ _ _ 3 [.int .i64 3] from rfl) (Reps.one (show Kd.M (Kd.int .i64) _ _ _ 4 [.int .i64 4] from rfl) (Reps.one (show Kd.M (Kd.int .i64) _ _ _ t564 [.int .i64 t564] from rfl) (Reps.none _ _)))))));intro v568 w14 ho15 hb hg_ hnew_;clear hg_ hnew_;(first | rw [← Ny567.out] at ho15 | (simp only [Int.reduceToNat] at ho15;rw [← Ny567.out] at ho15));have HO569 := aK (Kd.R_lower (Kd.R_new' ho15 (Kd.R_lt (rN HO557))) (below_size ((bI HB))));replace HO557 := aK (Kd.R_elder' (rN HO557) (Kd.R_base ho15) hb);replace HI554 := aK (IsS118.below ((iN HI554)) hb);replace HB := aK (below_step ((bI HB)) hb);clear hb ho15;obtain ⟨Ao16,co16,eo16⟩ := Kd.R_slice HO569.out;subst eo16) | ((with_reducible refine gate_callee (f := 92) rfl ?_);refine goesE (some 16) Try.func92 #[.pointer (some ⟨g554,0,none⟩),.slice Ao16 y567.length co16] ?_;(with_reducible refine (spec_l01Pick.calls g554 t551 t565 t566 _ _ y567 t570 t571 t572 w _ ?side1 ?side2 ?side3 ?side4 ?side5 A6.out).mono ?_);(case side1 => exact iN HI554);(case side2 => exact bI HB);(case side3 => exact cR HO569);(case side4 => exact (Kd.R_reads' HO569.out).2.1);(case side5 => exact far_slice (IsS118.own_ne HI554.out HO569.out (by decide)));rintro e w17 ⟨rfl,hi,hb,hk⟩;refine ⟨_,rfl,?_⟩;replace HO557 := aK (Kd.R_mono (Kd.R_keep (IsS118.apart (show IsS118 w _ g554 t551 t565 t566 from (iN HI554)) (rN HO557) (by decide)) hk (fun _ h => h.2)) (fun _ h => h.1));replace HO569 := aK (Kd.R_mono (Kd.R_keep (IsS118.apart (show IsS118 w _ g554 t551 t565 t566 from (iN HI554)) (rN HO569) (by decide)) hk (fun _ h => h.2)) (fun _ h => h.1));replace HB := aK (hb);replace HI554 := aK (hi);clear hb hk hi))
 go_ret2;exact eR (bI HB)
/-! ### laws_sum: function 54 -/
def laws_sum.l0 : Nat → List Int → Int → Int → Option (Int)
 | 0,_,_,_ => none
 | k + 1,x0,x3,x4 => if x4 < (x0.length : Int) then (if 0 ≤ x4 then (laws_sum.l0 k x0 (wrap64 (x3 + (rd x0 x4))) (wrap64 (x4 + 1))) else (none)) else (some x3)
def laws_sum.f (k : Nat) (l0 : List Int) : Option (Int) := laws_sum.l0 k l0 0 0
theorem laws_sum.mono_l : ∀ k, (∀ y0 y1 y2, LeO (laws_sum.l0 k y0 y1 y2) (laws_sum.l0 (k + 1) y0 y1 y2))
 | 0 => fun _ _ _ r h => by simp [laws_sum.l0] at h
 | k + 1 => by
  have ih0 := laws_sum.mono_l k
  ·intro y0 y1 y2;unfold laws_sum.l0
   repeat' first
   | (with_reducible exact ih0 _ _ _)
   | (with_reducible exact LeO.refl _)
   | (with_reducible exact LeO.none _)
   | (with_reducible refine LeO.ite ?_ ?_)
   | (with_reducible refine LeO.bind ?_ (fun _ => ?_))
   | exact ih0 _ _ _
   | exact LeO.none _
   | refine LeO.ite ?_ ?_
   | refine LeO.bind ?_ (fun _ => ?_)
theorem laws_sum.mono : ∀ a0 k, LeO (laws_sum.f k a0) (laws_sum.f (k + 1) a0) := by
 intro a0 k;have ih0 := laws_sum.mono_l k;unfold laws_sum.f
 repeat' first
  | (with_reducible exact ih0 _ _ _)
  | (with_reducible exact LeO.refl _)
  | (with_reducible exact LeO.none _)
  | (with_reducible refine LeO.ite ?_ ?_)
  | (with_reducible refine LeO.bind ?_ (fun _ => ?_))
  | exact ih0 _ _ _
  | exact LeO.none _
  | refine LeO.ite ?_ ?_
  | refine LeO.bind ?_ (fun _ => ?_)
set_option maxHeartbeats 8000000 in
set_option maxRecDepth 100000 in
theorem laws_sum.calls (k : Nat) (A0 : Option Addr) (c0 : Nat) (l0 : List Int) (r : Int) (w : World) (hr0 : Kd.C (Kd.int .i64) w A0 l0.length l0) (hc0 : l0.length ≤ c0) (h : laws_sum.f k l0 = some r) :
 Calls Try.prog 54 #[.slice A0 l0.length c0] w fun e w' => e = .returned (.int .i64 r) ∧ Drawn0 w w' := by
 have HR0 := aK hr0;have HC0 := aK hc0;clear hr0 hc0;have H := h;clear h;unfold laws_sum.f at H;have H' := aK H;clear H;go_enter Try.func54,Try.ntmps54;go_wp2
 go_loopg [3,4] k (fun kq v3 v4 w' => ∃ (x3_1 : Int) (x4_1 : Int),v3 = .int .i64 x3_1 ∧ v4 = .int .i64 x4_1 ∧ Aside0 (laws_sum.l0 kq l0 x3_1 x4_1 = some r) ∧ Aside0 (kq ≤ k) ∧ Drawn0 w w')
 case atStart => exact ⟨(0),(0),rD,rD,H',⟨Nat.le_refl _⟩,dD⟩
 case round =>
  clear H';obtain ⟨x3_1,x4_1,rfl,rfl,HA,HK1,⟨m1,rfl⟩⟩ := hrel
  cases gk with
  | zero => exact absurd HA.out (by simp [laws_sum.l0])
  | succ k1 =>
   have H := HA.out;clear HA;simp only [laws_sum.l0] at H
   by_cases c2 : x4_1 < (l0.length : Int)
   ·rw [if_pos c2] at H;have c2b0 := decide_eq_true c2;clear c2
    by_cases c3 : 0 ≤ x4_1
    rotate_left
    ·rw [if_neg c3] at H;exact absurd H (by simp)
    rw [if_pos c3] at H;have c3b0 := decide_eq_true c3;clear c3;have H' := aK H;clear H;have p573 : 0 ≤ (x4_1 : Int) := dT;have q573 : x4_1 < (l0.length : Int) := dT;obtain ⟨ad573,e573,hx573_0⟩ := Kd.at_int HR0.out x4_1 p573 q573;cases e573;replace p573 := eq_true p573;replace q573 := eq_true q573;go_wp2
    go_roundg k1
    case measure => have := HK1.out;omega
    case rel => exact ⟨(wrap64 (x3_1 + (rd l0 x4_1))),(wrap64 (x4_1 + 1)),rD,rD,H',⟨by have := HK1.out;omega⟩,dD⟩
   ·rw [if_neg c2] at H;have c2b0 := decide_eq_false c2;clear c2;obtain rfl := Option.some.inj H;go_wp2;go_ret;exact ⟨rD,dD⟩
/-! ### impl_first: function 78 -/
def impl_first.l0 : Nat → List (S86) → Int → Int → Option (Int)
 | 0,_,_,_ => none
 | k + 1,x5,x6,x7 => if x7 < x6 then (if 0 ≤ x7 then (if x7 < (x5.length : Int) then (if ((rd_T86 x5 x7).f0 = true) then (impl_first.l0 k x5 x6 (wrap64 (x7 + 1))) else (some ((rd_T86 x5 x7).f1))) else (none)) else (none)) else (some 0)
def impl_first.f (k : Nat) (l0 : List (S86)) : Option (Int) := impl_first.l0 k l0 (l0.length : Int) 0
theorem impl_first.mono_l : ∀ k, (∀ y0 y1 y2, LeO (impl_first.l0 k y0 y1 y2) (impl_first.l0 (k + 1) y0 y1 y2))
 | 0 => fun _ _ _ r h => by simp [impl_first.l0] at h
 | k + 1 => by
  have ih0 := impl_first.mono_l k
  ·intro y0 y1 y2;unfold impl_first.l0
   repeat' first
   | (with_reducible exact ih0 _ _ _)
   | (with_reducible exact LeO.refl _)
   | (with_reducible exact LeO.none _)
   | (with_reducible refine LeO.ite ?_ ?_)
   | (with_reducible refine LeO.bind ?_ (fun _ => ?_))
   | exact ih0 _ _ _
   | exact LeO.none _
   | refine LeO.ite ?_ ?_
   | refine LeO.bind ?_ (fun _ => ?_)
theorem impl_first.mono : ∀ a0 k, LeO (impl_first.f k a0) (impl_first.f (k + 1) a0) := by
 intro a0 k;have ih0 := impl_first.mono_l k;unfold impl_first.f
 repeat' first
  | (with_reducible exact ih0 _ _ _)
  | (with_reducible exact LeO.refl _)
  | (with_reducible exact LeO.none _)
  | (with_reducible refine LeO.ite ?_ ?_)
  | (with_reducible refine LeO.bind ?_ (fun _ => ?_))
  | exact ih0 _ _ _
  | exact LeO.none _
  | refine LeO.ite ?_ ?_
  | refine LeO.bind ?_ (fun _ => ?_)
set_option maxHeartbeats 8000000 in
set_option maxRecDepth 100000 in
theorem impl_first.calls (k : Nat) (A0 : Option Addr) (c0 : Nat) (l0 : List (S86)) (r : Int) (w : World) (hr0 : Kd.C k86 w A0 l0.length l0) (hc0 : l0.length ≤ c0) (h : impl_first.f k l0 = some r) :
 Calls Try.prog 78 #[.slice A0 l0.length c0] w fun e w' => e = .returned (.int .i64 r) ∧ Below w.heap.size w w' := by
 have hu86 := Try.underlying86;have HR0 := aK hr0;have HC0 := aK hc0;clear hr0 hc0;have HB := aK (Below.refl w.heap.size w);have H := h;clear h;unfold impl_first.f at H;have H' := aK H;clear H;go_enter Try.func78,Try.ntmps78;go_wp2
 go_loopg [7] k (fun kq v7 w' => ∃ (x7_1 : Int),v7 = .int .i64 x7_1 ∧ Aside0 (impl_first.l0 kq l0 (l0.length : Int) x7_1 = some r) ∧ Aside0 (kq ≤ k) ∧ Aside0 (Below w.heap.size w w'))
 case atStart => exact ⟨(0),rD,H',⟨Nat.le_refl _⟩,⟨bN HB⟩⟩
 case round =>
  clear H';obtain ⟨x7_1,rfl,HA,HK1,HB⟩ := hrel
  cases gk with
  | zero => exact absurd HA.out (by simp [impl_first.l0])
  | succ k1 =>
   have H := HA.out;clear HA;simp only [impl_first.l0] at H
   by_cases c2 : x7_1 < (l0.length : Int)
   ·rw [if_pos c2] at H;have c2b0 := decide_eq_true c2;clear c2
    by_cases c3 : 0 ≤ x7_1
    rotate_left
    ·rw [if_neg c3] at H;exact absurd H (by simp)
    rw [if_pos c3] at H;have c3b0 := decide_eq_true c3;clear c3
    by_cases c4 : x7_1 < (l0.length : Int)
    rotate_left
    ·rw [if_neg c4] at H;exact absurd H (by simp)
    rw [if_pos c4] at H;have c4b0 := decide_eq_true c4;clear c4;obtain ⟨bq5,hbq5⟩ : ∃ b_ : Bool,b_ = ((rd_T86 l0 x7_1).f0) := ⟨_,rfl⟩;replace H : (if (bq5 = true) then (impl_first.l0 k1 l0 (l0.length : Int) (wrap64 (x7_1 + 1))) else (some ((rd_T86 l0 x7_1).f1))) = some r := by rw [← hbq5] at H;exact H
    have Nbq5 := aK hbq5;clear hbq5
    by_cases c6 : (bq5 = true)
    ·subst c6;rw [if_pos rfl] at H;have H' := aK H;clear H;have p201 : 0 ≤ (x7_1 : Int) := dT;have q201 : x7_1 < (l0.length : Int) := dT;obtain ⟨ad201,e201,hx201_0,hx201_1⟩ := at_T86 HR0.out x7_1 p201 q201;(try rw [← Nbq5.out] at hx201_0);cases e201;replace hx201_0 := cO HB hx201_0;replace hx201_1 := cO HB hx201_1;replace p201 := eq_true p201;replace q201 := eq_true q201
     go_wp2_with (first | ((with_reducible refine gate_dst (N := 4) rfl ?_);refine boxE 4 #[.bool false,.int .i64 0] 86 ?_;intro gb202 hg w7 hbox hb;have BK202 := aK (hbox);have GW202 := aK (zG HB hg);have GE202 := aK (zG HB hg);replace HB := hB HB hb;clear hb hbox hg;have hcz8_0 := y0 BK202;have hcz8_1 := y1 BK202;have hfz8_0 := blk_frozen BK202.out 0;have hfz8_1 := blk_frozen BK202.out 1))
     go_roundg k1
     case measure => have := HK1.out;omega
     case rel => exact ⟨(wrap64 (x7_1 + 1)),rD,H',⟨by have := HK1.out;omega⟩,⟨bN HB⟩⟩
    ·replace c6 := Bool.eq_false_iff.mpr c6;subst c6;rw [if_neg (show ¬ (false = true) by decide)] at H;obtain rfl := Option.some.inj H;have p201 : 0 ≤ (x7_1 : Int) := dT;have q201 : x7_1 < (l0.length : Int) := dT;obtain ⟨ad201,e201,hx201_0,hx201_1⟩ := at_T86 HR0.out x7_1 p201 q201;(try rw [← Nbq5.out] at hx201_0);cases e201;replace hx201_0 := cO HB hx201_0;replace hx201_1 := cO HB hx201_1;replace p201 := eq_true p201;replace q201 := eq_true q201
     go_wp2_with (first | ((with_reducible refine gate_dst (N := 4) rfl ?_);refine boxE 4 #[.bool false,.int .i64 0] 86 ?_;intro gb202 hg w9 hbox hb;have BK202 := aK (hbox);have GW202 := aK (zG HB hg);have GE202 := aK (zG HB hg);replace HB := hB HB hb;clear hb hbox hg;have hcz10_0 := y0 BK202;have hcz10_1 := y1 BK202;have hfz10_0 := blk_frozen BK202.out 0;have hfz10_1 := blk_frozen BK202.out 1))
     go_ret;exact eR (bN HB)
   ·rw [if_neg c2] at H;have c2b0 := decide_eq_false c2;clear c2;obtain rfl := Option.some.inj H;go_wp2;go_ret;exact eR (bN HB)
theorem l01In_eq (a b c : Int) : spec_l01In.f a b c = some (decide (b ≤ a) && decide (a ≤ c)) := by
  unfold spec_l01In.f
  by_cases h : b ≤ a <;> simp [h]
theorem within_eq (a b c : Int) : impl_within.f a b c = some (decide (b ≤ a) && decide (a ≤ c)) := by
  unfold impl_within.f
  by_cases h : b ≤ a <;> simp [h]
theorem ev_add {α : Type} {g f : Nat → Option α} {r : α} (n : Nat) (h : ∀ k, g (k + n) = f k) (k : Ev f r) : Ev g r := by
  obtain ⟨K,hK⟩ := k;refine ⟨K + n,fun m hm => ?_⟩;obtain ⟨d,rfl⟩ : ∃ d,m = d + n := ⟨m - n,by omega⟩;rw [h];exact hK d (by omega)
def firstOf (a b : Bool) (x y : Int) : Int := if a = true then (if b = true then 0 else y) else x
theorem first2_ev (a b : Bool) (x y : Int) : Ev (fun k => impl_first.f k (([(⟨a, x⟩ : S86), (⟨b, y⟩ : S86)] : List (S86)))) (firstOf a b x y) := by
  cases a <;> cases b
  · exact ev_add (f := fun _ => some x) 3 (fun k => by kernel_rfl) (Ev.now _)
  · exact ev_add (f := fun _ => some x) 3 (fun k => by kernel_rfl) (Ev.now _)
  · exact ev_add (f := fun _ => some y) 3 (fun k => by kernel_rfl) (Ev.now _)
  · exact ev_add (f := fun _ => some 0) 3 (fun k => by kernel_rfl) (Ev.now _)
theorem ev_from {α : Type} {g : Nat → Option α} {r : α} (n : Nat) (h : ∀ m, g (n + 1 + m) = some r) : Ev g r := ⟨n + 1, fun k hk => by
  have := h (k - (n + 1));rw [show n + 1 + (k - (n + 1)) = k by omega] at this;exact this⟩
def ascFrom (lo : Int) : Int → List Int → Bool
  | _,[] => true
  | p,x :: t => sizeOk lo x && decide (p ≤ x) && ascFrom lo x t
def asc (lo : Int) (l : List Int) : Bool := ascFrom lo lo l
def sortFrom : Int → List Int → Bool
  | _,[] => true
  | p,x :: t => decide (p ≤ x) && sortFrom x t
def srt : List Int → Bool
  | [] => true
  | x :: t => sortFrom x t
theorem sizeOk_lo {lo x : Int} (h : sizeOk lo x = true) : lo ≤ x ∧ x ≤ 30 := by
  simpa [sizeOk] using h
theorem ascFrom_eq (lo : Int) : ∀ (l : List Int) (p : Int), ascFrom lo p l = (sortFrom p l && l.all (sizeOk lo))
  | [],p => rfl
  | x :: t,p => by
    unfold ascFrom sortFrom;rw [ascFrom_eq lo t x,List.all_cons]
    cases sizeOk lo x <;> cases decide (p ≤ x) <;> cases sortFrom x t <;> simp
theorem asc_eq (lo : Int) (l : List Int) : asc lo l = (srt l && l.all (sizeOk lo)) := by
  unfold asc;rw [ascFrom_eq]
  cases l with
  | nil => rfl
  | cons x t =>
    unfold sortFrom srt;rw [List.all_cons]
    cases h : sizeOk lo x
    · simp
    · rw [decide_eq_true (sizeOk_lo h).1,Bool.true_and]
theorem sortFrom_snoc (a b : Int) : ∀ (l : List Int) (p : Int), sortFrom p (l ++ [a] ++ [b]) = (sortFrom p (l ++ [a]) && decide (a ≤ b))
  | [],p => by
    show (decide (p ≤ a) && (decide (a ≤ b) && true)) = ((decide (p ≤ a) && true) && decide (a ≤ b))
    cases decide (p ≤ a) <;> cases decide (a ≤ b) <;> rfl
  | x :: t,p => by
    show (decide (p ≤ x) && sortFrom x (t ++ [a] ++ [b])) = ((decide (p ≤ x) && sortFrom x (t ++ [a])) && decide (a ≤ b));rw [sortFrom_snoc a b t x,Bool.and_assoc]
theorem srt_snoc (a b : Int) (l : List Int) : srt (l ++ [a] ++ [b]) = (srt (l ++ [a]) && decide (a ≤ b)) := by
  cases l with
  | nil =>
    show (decide (a ≤ b) && true) = (true && decide (a ≤ b))
    cases decide (a ≤ b) <;> rfl
  | cons x t => exact sortFrom_snoc a b t x
theorem less_eq (a b : Int) : cmp_Less_int64.f a b = some (decide (a < b)) := by
  unfold cmp_Less_int64.f cmp_isNaN_int64.f
  simp
theorem sorted_loop (l : List Int) (hl : l.length < 4611686018427387904) : ∀ i : Nat, i < l.length → Ev (fun k => slices_IsSorted_int64_int64.l0 k l (i : Int)) (srt (l.take (i + 1)))
  | 0,hi => by
    obtain ⟨x,hx⟩ := get_some hi;have e : l.take 1 = [x] := by
      rw [List.take_add_one,hx];rfl
    rw [e];refine Ev.step (f := fun _ => some true) (fun k => ?_) (Ev.now _);simp only [slices_IsSorted_int64_int64.l0];rw [if_neg (by omega)]
  | i + 1,hi => by
    have ih := sorted_loop l hl i (by omega);obtain ⟨a,ha⟩ := get_some (xs := l) (i := i) (by omega);obtain ⟨b,hb⟩ := get_some hi;have e1 : l.take (i + 1) = l.take i ++ [a] := by rw [List.take_add_one,ha];rfl
    have e2 : l.take (i + 1 + 1) = l.take i ++ [a] ++ [b] := by rw [List.take_add_one,hb,e1];rfl
    have ew : wrap64 (((i + 1 : Nat) : Int) - 1) = (i : Int) := by rw [wrapS (by omega) (by omega)];omega
    rw [e2,srt_snoc];rw [e1] at ih
    by_cases c : b < a
    · rw [decide_eq_false (by omega : ¬ a ≤ b),Bool.and_false]
      refine Ev.step (f := fun _ => some false) (fun k => ?_) (Ev.now _);simp only [slices_IsSorted_int64_int64.l0];rw [if_pos (by omega),if_pos (by omega),if_pos (by omega),ew,if_pos (by omega),if_pos (by omega),less_eq,rd_nat,rd_nat,getD_of hb,getD_of ha,Option.bind_some,if_pos (decide_eq_true c)]
    · rw [decide_eq_true (by omega : a ≤ b),Bool.and_true]
      refine Ev.step (fun k => ?_) ih;simp only [slices_IsSorted_int64_int64.l0];rw [if_pos (by omega),if_pos (by omega),if_pos (by omega),ew,if_pos (by omega),if_pos (by omega),less_eq,rd_nat,rd_nat,getD_of hb,getD_of ha,Option.bind_some,if_neg (by rw [decide_eq_false c];decide)]
theorem sorted_ev (l : List Int) (hl : l.length < 4611686018427387904) : Ev (fun k => slices_IsSorted_int64_int64.f k l) (srt l) := by
  cases l with
  | nil =>
    refine Ev.step (f := fun _ => some true) (fun k => ?_) (Ev.now _);have e : wrap64 ((([] : List Int).length : Int) - 1) = -1 := by decide +kernel
    simp only [slices_IsSorted_int64_int64.f,slices_IsSorted_int64_int64.l0];rw [e,if_neg (by decide)]
  | cons x t =>
    have h := sorted_loop (x :: t) hl t.length (by simp);rw [show t.length + 1 = (x :: t).length from rfl,List.take_length] at h;refine Ev.congr (fun k => ?_) h;unfold slices_IsSorted_int64_int64.f;rw [List.length_cons,show wrap64 (((t.length + 1 : Nat) : Int) - 1) = (t.length : Int) by rw [wrapS (by omega) (by simp at hl;omega)];omega]
theorem sizes_ev (l : List Int) (lo : Int) (hl : l.length < 4611686018427387904) : Ev (fun k => impl_areSizes.f k l lo) (asc lo l) := by
  unfold impl_areSizes.f;rw [asc_eq];refine Ev.bind (sorted_ev l hl) ?_
  cases srt l
  · exact Ev.now _
  · refine Ev.congr (f := fun _ => some _) (fun k => ?_) (Ev.now _)
    rw [if_pos rfl,Bool.true_and]
    congr 1
    induction l with
    | nil => rfl
    | cons x t ih =>
      rw [List.any_cons,List.all_cons,Bool.not_or,Bool.not_not,ih (by simp at hl;omega)]
theorem l04In_eq (a b c : Int) : spec_l01In.f a b c = some (decide (b ≤ a) && decide (a ≤ c)) := by
  unfold spec_l01In.f
  by_cases h : b ≤ a
  · rw [if_pos (show a ≥ b from h),decide_eq_true h,Bool.true_and]
  · rw [if_neg (show ¬ a ≥ b from h),decide_eq_false h,Bool.false_and]
theorem asc_loop (l : List Int) (lo : Int) (hl : l.length < 4611686018427387904) : ∀ (d i : Nat) (p : Int), i + d = l.length → (i = 0 → p = lo) → (0 < i → p = l.getD (i - 1) 0) →
    Ev (fun k => spec_l04Ascends.l0 k l lo (i : Int)) (ascFrom lo p (l.drop i))
  | 0,i,p,hd,h0,h1 => by
    rw [List.drop_of_length_le (by omega)];refine Ev.step (f := fun _ => some true) (fun k => ?_) (Ev.now _);simp only [spec_l04Ascends.l0];rw [if_neg (by omega)]
  | d + 1,i,p,hd,h0,h1 => by
    obtain ⟨x,hx⟩ := get_some (xs := l) (i := i) (by omega);have ih := asc_loop l lo hl d (i + 1) x (by omega) (by omega) (fun _ => by rw [Nat.add_sub_cancel,getD_of hx]);have er : rd l (i : Int) = x := by rw [rd_nat,getD_of hx]
    have ew : wrap64 ((i : Int) + 1) = ((i + 1 : Nat) : Int) := by rw [wrapS (by omega) (by omega),cast_succ]
    rw [drop_of hx];unfold ascFrom
    by_cases c : sizeOk lo x = true
    · rw [c,Bool.true_and]
      have c' : (decide (lo ≤ x) && decide (x ≤ 30)) = true := c
      by_cases hi : i = 0
      · rw [h0 hi,decide_eq_true (sizeOk_lo c).1,Bool.true_and]
        refine Ev.step (fun k => ?_) ih;simp only [spec_l04Ascends.l0];rw [if_pos (by omega),if_pos (by omega),er,l04In_eq,Option.bind_some,if_pos c',if_neg (by omega),ew]
      · have ep := h1 (by omega)
        have em : wrap64 ((i : Int) - 1) = ((i - 1 : Nat) : Int) := by rw [wrapS (by omega) (by omega)];omega
        by_cases cp : p ≤ x
        · rw [decide_eq_true cp,Bool.true_and]
          refine Ev.step (fun k => ?_) ih;simp only [spec_l04Ascends.l0];rw [if_pos (by omega),if_pos (by omega),er,l04In_eq,Option.bind_some,if_pos c',if_pos (by omega),em,if_pos (by omega),if_pos (by omega),rd_nat,← ep,if_neg (by omega),ew]
        · rw [decide_eq_false cp,Bool.false_and]
          refine Ev.step (f := fun _ => some false) (fun k => ?_) (Ev.now _);simp only [spec_l04Ascends.l0];rw [if_pos (by omega),if_pos (by omega),er,l04In_eq,Option.bind_some,if_pos c',if_pos (by omega),em,if_pos (by omega),if_pos (by omega),rd_nat,← ep,if_pos (by omega)]
    · rw [Bool.eq_false_iff.mpr c,Bool.false_and,Bool.false_and]
      have c' : ¬ (decide (lo ≤ x) && decide (x ≤ 30)) = true := c;refine Ev.step (f := fun _ => some false) (fun k => ?_) (Ev.now _);simp only [spec_l04Ascends.l0];rw [if_pos (by omega),if_pos (by omega),er,l04In_eq,Option.bind_some,if_neg c']
theorem asc_ev (l : List Int) (lo : Int) (hl : l.length < 4611686018427387904) : Ev (fun k => spec_l04Ascends.f k l lo) (asc lo l) := by
  have h := asc_loop l lo hl l.length 0 lo (by omega) (fun _ => rfl) (fun h => absurd h (by omega));rw [List.drop_zero] at h;exact h
def isEnd (a b : List Int) : Bool := decide ((a.length : Int) + (b.length : Int) ≤ 8) && asc 1 a && asc 4 b
theorem isEnd_len {a b : List Int} (h : isEnd a b = true) : a.length + b.length ≤ 8 := by
  simp only [isEnd,Bool.and_eq_true,decide_eq_true_eq] at h;omega
theorem l04Is_ev (a b : List Int) (ha : a.length ≤ 1048576) (hb : b.length ≤ 1048576) : Ev (fun k => spec_l04Is.f k a b) (isEnd a b) := by
  unfold spec_l04Is.f isEnd;rw [wrapS (i := (a.length : Int) + (b.length : Int)) (by omega) (by omega)]
  by_cases c : (a.length : Int) + (b.length : Int) ≤ 8
  · rw [decide_eq_true c,Bool.true_and]
    refine Ev.congr (fun k => by rw [if_pos c]) (Ev.bind (asc_ev a 1 (by omega)) ?_)
    cases asc 1 a
    · exact Ev.now _
    · rw [Bool.true_and]
      exact Ev.congr (fun k => by rw [if_pos rfl]) (Ev.bind (asc_ev b 4 (by omega)) (Ev.now _))
  · rw [decide_eq_false c,Bool.false_and,Bool.false_and]
    exact Ev.congr (fun k => by rw [if_neg c]) (Ev.now _)
theorem IsEnding_ev (a b : List Int) (ha : a.length ≤ 1048576) (hb : b.length ≤ 1048576) : Ev (fun k => impl_IsEnding.f k a b) (isEnd a b) := by
  unfold impl_IsEnding.f isEnd;refine Ev.bind (sizes_ev a 1 (by omega)) ?_
  cases asc 1 a
  · rw [Bool.and_false,Bool.false_and]
    exact Ev.now _
  · rw [Bool.and_true]
    refine Ev.congr (fun k => by rw [if_pos rfl]) (Ev.bind (sizes_ev b 4 (by omega)) ?_)
    cases asc 4 b
    · rw [Bool.and_false]
      exact Ev.now _
    · rw [Bool.and_true]
      exact Ev.congr (f := fun _ => some _) (fun k => by rw [if_pos rfl,if_pos (by omega),if_pos (by omega)]) (Ev.now _)
def loopP (f : Int → List (List Int)) (K s : Int) : Nat → Int → List (List Int)
  | 0,_ => []
  | d + 1,x => if x * K ≤ s then f x ++ loopP f K s d (x + 1) else []
/-- The ascending lists: k numbers more, from 'low' on, with the sum s, behind b. -/
def parts : Nat → Int → Int → List Int → List (List Int)
  | 0,_,s,b => if s = 0 then [b] else []
  | k + 1,low,s,b => loopP (fun x => parts k x (s - x) (b ++ [x])) ((k : Int) + 1) s 21 low
def okL20 (l : List Int) : Prop := ∀ x ∈ l, 1 ≤ x ∧ x ≤ 20
theorem loopP_all {f : Int → List (List Int)} {K s : Int} {P : List Int → Prop} (hK : 1 ≤ K) (hs : s ≤ 20) (hf : ∀ x, 1 ≤ x → x ≤ 20 → x * K ≤ s → ∀ l ∈ f x, P l) : ∀ (d : Nat) (x : Int), 1 ≤ x → ∀ l ∈ loopP f K s d x, P l
  | 0,x,_,l,hl => by cases hl
  | d + 1,x,hx,l,hl => by
    unfold loopP at hl
    by_cases c : x * K ≤ s
    · rw [if_pos c] at hl
      have h20 : x ≤ 20 := by
        have : x * 1 ≤ x * K := Int.mul_le_mul_of_nonneg_left hK (by omega);omega
      rcases List.mem_append.1 hl with h | h
      · exact hf x hx h20 c l h
      · exact loopP_all hK hs hf d (x + 1) (by omega) l h
    · rw [if_neg c] at hl;cases hl
theorem parts_ok : ∀ (k : Nat) (low s : Int) (b : List Int), 1 ≤ low → s ≤ 20 → okL20 b → ∀ l ∈ parts k low s b, l.length = b.length + k ∧ okL20 l
  | 0,low,s,b,_,_,hb,l,hl => by
    unfold parts at hl
    split at hl
    · rw [List.mem_singleton.1 hl];exact ⟨rfl,hb⟩
    · cases hl
  | k + 1,low,s,b,h1,hs,hb,l,hl => by
    unfold parts at hl;refine loopP_all (P := fun l => l.length = b.length + (k + 1) ∧ okL20 l) (by omega) hs (fun x hx hx2 _ l hl => ?_) 21 low h1 l hl;have h := parts_ok k x (s - x) (b ++ [x]) hx (by omega) (fun y hy => by
      rcases List.mem_append.1 hy with h | h
      · exact hb y h
      · rw [List.mem_singleton.1 h];exact ⟨hx,hx2⟩) l hl
    refine ⟨?_,h.2⟩;rw [h.1,List.length_append]
    simp
    omega
theorem parts_len : ∀ (n : Fin 21) (k : Fin 7), (parts k.val 1 (n.val : Int) []).length ≤ 200 := by decide +kernel
theorem parts_some : ∀ (n : Fin 21) (k : Fin 7), 1 ≤ k.val → k.val ≤ n.val → 0 < (parts k.val 1 (n.val : Int) []).length := by decide +kernel
def boxSum (l : List Int) : Int := l.foldl (fun a x => wrap64 (a + x)) 0
theorem take_foldl {l : List Int} {i : Nat} {x : Int} (hx : l[i]? = some x) : (l.take (i + 1)).foldl (fun a x => wrap64 (a + x)) 0 = wrap64 ((l.take i).foldl (fun a x => wrap64 (a + x)) 0 + x) := by
  rw [List.take_add_one,hx,List.foldl_append];rfl
theorem sum_loop (l : List Int) (hl : l.length < 4611686018427387904) : ∀ d i : Nat, i + d = l.length → Ev (fun k => impl_sum.l0 k ((l.take i).foldl (fun a x => wrap64 (a + x)) 0) l (l.length : Int) (i : Int)) (boxSum l)
  | 0,i,hd => by
    refine Ev.step (f := fun _ => some _) (fun k => ?_) (Ev.now _);simp only [impl_sum.l0];rw [if_neg (by omega),List.take_of_length_le (by omega)]
    rfl
  | d + 1,i,hd => by
    obtain ⟨x,hx⟩ := get_some (xs := l) (i := i) (by omega);have ih := sum_loop l hl d (i + 1) (by omega);rw [take_foldl hx] at ih;refine Ev.step (fun k => ?_) ih;simp only [impl_sum.l0];rw [if_pos (by omega),if_pos (by omega),if_pos (by omega),rd_nat,getD_of hx,wrapS (i := (i : Int) + 1) (by omega) (by omega),cast_succ]
theorem sum_ev (l : List Int) (hl : l.length < 4611686018427387904) : Ev (fun k => impl_sum.f k l) (boxSum l) := sum_loop l hl l.length 0 (by omega)
def boxesOf (a b : List Int) : Int × Int := if isEnd a b = true then (wrap64 (boxSum a + boxSum b), 0) else (0, 1)
theorem implBoxes_ev (a b : List Int) (ha : a.length ≤ 1048576) (hb : b.length ≤ 1048576) : Ev (fun k => impl_BoxesOf.f k a b) (boxesOf a b) := by
  unfold impl_BoxesOf.f boxesOf;refine Ev.bind (IsEnding_ev a b ha hb) ?_
  cases isEnd a b
  · exact Ev.now _
  · refine Ev.congr (fun k => by rw [if_pos rfl]) (Ev.bind (sum_ev a (by omega)) (Ev.bind (sum_ev b (by omega)) ?_))
    exact Ev.now _
abbrev OpngS := S75
def opn (a b : List Int) : List OpngS := a.map (fun n => ⟨false, n⟩) ++ b.map (fun n => ⟨true, n⟩)
def moreOf (o : OpngS) : Int := if o.f0 = true then wrap64 (o.f1 - 8) else wrap64 (o.f1 - 4)
def openOf (o : OpngS) : Bool := if o.f0 = true then true else decide (o.f1 ≥ 3)
def spar : List OpngS → Int → Int → Int
  | [],acc,_ => acc
  | o :: t,acc,part => if openOf o = true ∧ t ≠ [] then spar t (wrap64 (acc + wrap64 (part * moreOf o))) part else spar t (wrap64 (acc + wrap64 (part * o.f1))) (wrap64 (-part))
theorem sparing_eq (o : OpngS) : impl_opening_sparing.f o.f0 o.f1 = some (moreOf o, openOf o) := by
  unfold impl_opening_sparing.f moreOf openOf
  cases o.f0 <;> simp
theorem ww (x : Int) : wrap64 (wrap64 x - 0) = wrap64 x := by unfold wrap64; omega
theorem taker_eq (o : OpngS) : ∃ z, spec_l04Taker.f o.f0 o.f1 0 = some (z, moreOf o, openOf o) := by
  unfold spec_l04Taker.f moreOf openOf;cases o.f0
  · refine ⟨wrap64 (o.f1 + 0),?_⟩
    rw [if_neg (by decide),if_neg (by decide),if_neg (by decide),ww,decide_eq_decide.2 (show o.f1 > 2 ↔ o.f1 ≥ 3 by omega)]
  · refine ⟨wrap64 (o.f1 + 0),?_⟩
    rw [if_pos rfl,if_pos rfl,if_pos rfl,ww]
theorem drop_ne {α : Type} {L : List α} {i : Nat} (h : i < L.length) : L.drop i ≠ [] := by
  intro e;have := congrArg List.length e;rw [List.length_drop] at this
  simp at this
  omega
theorem l2_loop (L : List OpngS) (hl : L.length < 1000) : ∀ (d i : Nat) (acc part : Int), i + d = L.length → Ev (fun k => impl_SparingNumber.l2 k L acc part L (L.length : Int) (i : Int)) (spar (L.drop i) acc part, 0)
  | 0,i,acc,part,hd => by
    rw [List.drop_of_length_le (by omega)];refine Ev.step (f := fun _ => some _) (fun k => ?_) (Ev.now _);simp only [impl_SparingNumber.l2];rw [if_neg (by omega)]
    rfl
  | d + 1,i,acc,part,hd => by
    obtain ⟨o,ho⟩ := get_some (xs := L) (i := i) (by omega);have er : rd_T75 L (i : Int) = o := by unfold rd_T75;rw [Int.toNat_natCast,getD_of ho]
    have ew : wrap64 ((i : Int) + 1) = ((i + 1 : Nat) : Int) := by rw [wrapS (by omega) (by omega),cast_succ]
    have el : wrap64 ((L.length : Int) - 1) = (L.length : Int) - 1 := wrapS (by omega) (by omega);rw [drop_of ho];unfold spar
    by_cases c : openOf o = true ∧ L.drop (i + 1) ≠ []
    · rw [if_pos c]
      have hlt : i + 1 < L.length := by
        rcases Nat.lt_or_ge (i + 1) L.length with h | h
        · exact h
        · exact absurd (List.drop_of_length_le h) c.2
      refine Ev.step (fun k => ?_) (l2_loop L hl d (i + 1) (wrap64 (acc + wrap64 (part * moreOf o))) part (by omega));simp only [impl_SparingNumber.l2];rw [if_pos (by omega),if_pos (by omega),if_pos (by omega),er,sparing_eq,Option.bind_some,if_pos c.1,el,if_pos (by omega),ew]
    · rw [if_neg c]
      refine Ev.step (fun k => ?_) (l2_loop L hl d (i + 1) (wrap64 (acc + wrap64 (part * o.f1))) (wrap64 (-part)) (by omega));simp only [impl_SparingNumber.l2];rw [if_pos (by omega),if_pos (by omega),if_pos (by omega),er,sparing_eq,Option.bind_some]
      by_cases c1 : openOf o = true
      · have : ¬ (i + 1 < L.length) := fun h => c ⟨c1,drop_ne h⟩
        rw [if_pos c1,el,if_neg (by omega),ew]
      · rw [if_neg c1,ew]
theorem l1_loop (a b : List Int) (ha : a.length + b.length ≤ 8) : ∀ d i : Nat, i + d = b.length → Ev (fun k => impl_SparingNumber.l1 k (opn a (b.take i)) b (b.length : Int) (i : Int)) (spar (opn a b) 0 1, 0)
  | 0,i,hd => by
    have hL : (opn a b).length ≤ 8 := by unfold opn;simp;omega
    refine Ev.step (fun k => ?_) (l2_loop (opn a b) (by omega) (opn a b).length 0 0 1 (by omega));simp only [impl_SparingNumber.l1];rw [if_neg (by omega),List.take_of_length_le (by omega)]
    rfl
  | d + 1,i,hd => by
    obtain ⟨x,hx⟩ := get_some (xs := b) (i := i) (by omega);have ih := l1_loop a b ha d (i + 1) (by omega);have e : opn a (b.take (i + 1)) = opn a (b.take i) ++ [⟨true,x⟩] := by
      unfold opn;rw [List.take_add_one,hx,List.map_append,← List.append_assoc];rfl
    rw [e] at ih;have hL : (opn a (b.take i)).length ≤ 8 := by unfold opn;simp;omega
    refine Ev.step (fun k => ?_) ih;simp only [impl_SparingNumber.l1];rw [if_pos (by omega),if_pos (by omega),if_pos (by omega),if_pos (by omega),rd_nat,getD_of hx,wrapS (i := (i : Int) + 1) (by omega) (by omega),cast_succ]
theorem l0_loop (a b : List Int) (ha : a.length + b.length ≤ 8) : ∀ d i : Nat, i + d = a.length → Ev (fun k => impl_SparingNumber.l0 k (opn (a.take i) []) a (a.length : Int) (i : Int) a b) (spar (opn a b) 0 1, 0)
  | 0,i,hd => by
    have h1 := l1_loop a b ha b.length 0 (by omega);rw [List.take_zero] at h1;refine Ev.step (fun k => ?_) h1;simp only [impl_SparingNumber.l0];rw [if_neg (by omega),List.take_of_length_le (by omega)]
    rfl
  | d + 1,i,hd => by
    obtain ⟨x,hx⟩ := get_some (xs := a) (i := i) (by omega);have ih := l0_loop a b ha d (i + 1) (by omega);have e : opn (a.take (i + 1)) [] = opn (a.take i) [] ++ [⟨false,x⟩] := by
      unfold opn;rw [List.take_add_one,hx,List.map_append];simp
    rw [e] at ih;have hL : (opn (a.take i) []).length ≤ 8 := by unfold opn;simp;omega
    refine Ev.step (fun k => ?_) ih;simp only [impl_SparingNumber.l0];rw [if_pos (by omega),if_pos (by omega),if_pos (by omega),if_pos (by omega),rd_nat,getD_of hx,wrapS (i := (i : Int) + 1) (by omega) (by omega),cast_succ]
theorem s0_loop (a b : List Int) (ha : a.length + b.length ≤ 8) : ∀ (d i : Nat) (acc part : Int), i + d = a.length + b.length → Ev (fun k => spec_SparingNumber.l0 k acc part ((a.length : Int) + (b.length : Int)) (i : Int) a b) (spar ((opn a b).drop i) acc part, 0)
  | 0,i,acc,part,hd => by
    rw [List.drop_of_length_le (by unfold opn;simp;omega)];refine Ev.step (f := fun _ => some _) (fun k => ?_) (Ev.now _);simp only [spec_SparingNumber.l0];rw [if_neg (by omega)]
    rfl
  | d + 1,i,acc,part,hd => by
    have hL : (opn a b).length = a.length + b.length := by unfold opn;simp
    have ew : wrap64 ((i : Int) + 1) = ((i + 1 : Nat) : Int) := by rw [wrapS (by omega) (by omega),cast_succ]
    have ih := s0_loop a b ha d (i + 1);have hne : ∀ h : i + 1 < a.length + b.length,(opn a b).drop (i + 1) ≠ [] := fun h => drop_ne (by omega)
    by_cases c0 : a.length ≤ i
    · obtain ⟨y,hy⟩ := get_some (xs := b) (i := i - a.length) (by omega)
      have ho : (opn a b)[i]? = some ⟨true,y⟩ := by
        unfold opn;rw [List.getElem?_append_right (by simp;omega),List.length_map,List.getElem?_map,hy];rfl
      have e1 : wrap64 ((i : Int) - (a.length : Int)) = ((i - a.length : Nat) : Int) := by rw [wrapS (by omega) (by omega)];omega
      have e2 : rd b ((i - a.length : Nat) : Int) = y := by rw [rd_nat,getD_of hy]
      obtain ⟨z,hz⟩ := taker_eq ⟨true,y⟩;have hz' : spec_l04Taker.f (decide ((i : Int) ≥ (a.length : Int))) y 0 = some (z,moreOf ⟨true,y⟩,openOf ⟨true,y⟩) := by rw [decide_eq_true (by omega : (i : Int) ≥ (a.length : Int))];exact hz
      rw [drop_of ho];unfold spar
      by_cases c : openOf ⟨true,y⟩ = true ∧ (opn a b).drop (i + 1) ≠ []
      · rw [if_pos c]
        have hlt : i + 1 < a.length + b.length := by
          rcases Nat.lt_or_ge (i + 1) (a.length + b.length) with h | h
          · exact h
          · exact absurd (List.drop_of_length_le (by omega)) c.2
        refine Ev.step (fun k => ?_) (ih (wrap64 (acc + wrap64 (part * moreOf ⟨true,y⟩))) part (by omega));simp only [spec_SparingNumber.l0];rw [if_pos (by omega),if_pos (by omega),e1,if_pos (by omega),if_pos (by omega),e2,hz',Option.bind_some,if_pos c.1,ew,if_pos (by omega)]
      · rw [if_neg c]
        refine Ev.step (fun k => ?_) (ih (wrap64 (acc + wrap64 (part * y))) (wrap64 (-part)) (by omega));simp only [spec_SparingNumber.l0];rw [if_pos (by omega),if_pos (by omega),e1,if_pos (by omega),if_pos (by omega),e2,hz',Option.bind_some]
        by_cases c1 : openOf ⟨true,y⟩ = true
        · have : ¬ (i + 1 < a.length + b.length) := fun h => c ⟨c1,hne h⟩
          rw [if_pos c1,ew,if_neg (by omega)]
        · rw [if_neg c1,ew]
    · obtain ⟨y,hy⟩ := get_some (xs := a) (i := i) (by omega)
      have ho : (opn a b)[i]? = some ⟨false,y⟩ := by
        unfold opn;rw [List.getElem?_append_left (by simp;omega),List.getElem?_map,hy];rfl
      have e2 : rd a (i : Int) = y := by rw [rd_nat,getD_of hy]
      obtain ⟨z,hz⟩ := taker_eq ⟨false,y⟩;have hz' : spec_l04Taker.f (decide ((i : Int) ≥ (a.length : Int))) y 0 = some (z,moreOf ⟨false,y⟩,openOf ⟨false,y⟩) := by rw [decide_eq_false (by omega : ¬ (i : Int) ≥ (a.length : Int))];exact hz
      rw [drop_of ho];unfold spar
      by_cases c : openOf ⟨false,y⟩ = true ∧ (opn a b).drop (i + 1) ≠ []
      · rw [if_pos c]
        have hlt : i + 1 < a.length + b.length := by
          rcases Nat.lt_or_ge (i + 1) (a.length + b.length) with h | h
          · exact h
          · exact absurd (List.drop_of_length_le (by omega)) c.2
        refine Ev.step (fun k => ?_) (ih (wrap64 (acc + wrap64 (part * moreOf ⟨false,y⟩))) part (by omega));simp only [spec_SparingNumber.l0];rw [if_pos (by omega),if_neg (by omega),if_pos (by omega),if_pos (by omega),e2,hz',Option.bind_some,if_pos c.1,ew,if_pos (by omega)]
      · rw [if_neg c]
        refine Ev.step (fun k => ?_) (ih (wrap64 (acc + wrap64 (part * y))) (wrap64 (-part)) (by omega));simp only [spec_SparingNumber.l0];rw [if_pos (by omega),if_neg (by omega),if_pos (by omega),if_pos (by omega),e2,hz',Option.bind_some]
        by_cases c1 : openOf ⟨false,y⟩ = true
        · have : ¬ (i + 1 < a.length + b.length) := fun h => c ⟨c1,hne h⟩
          rw [if_pos c1,ew,if_neg (by omega)]
        · rw [if_neg c1,ew]
def sparingOf (a b : List Int) : Int × Int := if isEnd a b = true then (spar (opn a b) 0 1, 0) else (0, 1)
theorem specSparing_ev (a b : List Int) (ha : a.length ≤ 1048576) (hb : b.length ≤ 1048576) : Ev (fun k => spec_SparingNumber.f k a b) (sparingOf a b) := by
  have he := l04Is_ev a b ha hb;unfold spec_SparingNumber.f sparingOf;refine Ev.bind he ?_
  cases h : isEnd a b
  · exact Ev.now _
  · have hl := isEnd_len h
    have h0 : Ev (fun k => spec_SparingNumber.l0 k 0 1 ((a.length : Int) + (b.length : Int)) 0 a b) (spar (opn a b) 0 1,0) := s0_loop a b hl (a.length + b.length) 0 0 1 (by omega);exact Ev.congr (fun k => by rw [if_pos rfl,wrapS (by omega) (by omega)]) h0
theorem implSparing_ev (a b : List Int) (ha : a.length ≤ 1048576) (hb : b.length ≤ 1048576) : Ev (fun k => impl_SparingNumber.f k a b) (sparingOf a b) := by
  have he := IsEnding_ev a b ha hb;unfold impl_SparingNumber.f sparingOf;refine Ev.bind he ?_
  cases h : isEnd a b
  · exact Ev.now _
  · have hl := isEnd_len h
    have h0 : Ev (fun k => impl_SparingNumber.l0 k [] a (a.length : Int) 0 a b) (spar (opn a b) 0 1,0) := l0_loop a b hl a.length 0 (by omega);exact Ev.congr (fun k => by rw [if_pos rfl]) h0
end Go.Proofs.Ytkbjoiebaphdoaa.PA
