/- Part 0 of the texts under the row of FnExactBestAnswer (no condition). -/
import Derived.Laws.EntriesVeiled
import Derived.Test.YtkbjoiebaphdoaaPk7FnExactEndingValue
namespace Go.Proofs.Ytkbjoiebaphdoaa.PX
open Go.RowKit Go.Proofs.YtkbjoiebaphdoaaW.PrintWords Go.Proofs.YtkbjoiebaphdoaaW.PrintLast Go.Proofs.YtkbjoiebaphdoaaW.PrintMore
attribute [local go_sem] max2_int min2_int max_two min_two max_three min_three max_four min_four   -- for this text's walks alone
set_option linter.unusedVariables false
set_option linter.unusedSimpArgs false

/-! ### spec_BestAnswer: function 34 -/
def spec_BestAnswer.f (k : Nat) (l0_0 : List Int) (l0_1 : List Int) (a1 : Bool) (a2 : Int) : Option (Bool × Int) := (spec_l04Is.f k l0_0 l0_1).bind fun t357 => (if t357 = true then ((spec_l04Without.f k l0_0 l0_1 a1 a2).bind fun bt358 => (if bt358.2.2 = true then ((spec_l04Value.f bt358.1 bt358.2.1).bind fun t366 => ((spec_l04Answer.f a1 a2 t366).bind fun bt367 => (some (bt367.2, 0)))) else (some (false, 5)))) else (some (false, 1)))
theorem spec_BestAnswer.mono : ∀ a0 a1 a2 a3 k, LeO (spec_BestAnswer.f k a0 a1 a2 a3) (spec_BestAnswer.f (k + 1) a0 a1 a2 a3) := by
  intro a0 a1 a2 a3 k
  unfold spec_BestAnswer.f
  repeat' first
      | (with_reducible exact spec_l04Is.mono _ _ _)
      | (with_reducible exact spec_l04Without.mono _ _ _ _ _)
      | (with_reducible exact LeO.refl _)
      | (with_reducible exact LeO.none _)
      | (with_reducible refine LeO.ite ?_ ?_)
      | (with_reducible refine LeO.bind ?_ (fun _ => ?_))
      | exact spec_l04Is.mono _ _ _
      | exact spec_l04Without.mono _ _ _ _ _
      | exact LeO.none _
      | refine LeO.ite ?_ ?_
      | refine LeO.bind ?_ (fun _ => ?_)
set_option maxHeartbeats 8000000 in
set_option maxRecDepth 100000 in
theorem spec_BestAnswer.calls (k : Nat) (A0_0 : Option Addr) (c0_0 : Nat) (l0_0 : List Int) (A0_1 : Option Addr) (c0_1 : Nat) (l0_1 : List Int) (a1 : Bool) (a2 : Int) (r1 : Bool) (r2 : Int) (w : World) (hr0_0 : Kd.C (Kd.int .i64) w A0_0 l0_0.length l0_0) (hc0_0 : l0_0.length ≤ c0_0) (hr0_1 : Kd.C (Kd.int .i64) w A0_1 l0_1.length l0_1) (hc0_1 : l0_1.length ≤ c0_1) (h : spec_BestAnswer.f k l0_0 l0_1 a1 a2 = some (r1, r2)) :
    Calls Try.prog 34 #[.agg #[.slice A0_0 l0_0.length c0_0, .slice A0_1 l0_1.length c0_1], .bool a1, .int .i64 a2] w fun e w' => e = .returned (.tuple #[.bool r1, .int .i64 r2]) ∧ Below w.heap.size w w' := by
  have hu27 := Try.underlying27
  have HR0_0 := Aside0.mk hr0_0
  have HC0_0 := Aside0.mk hc0_0
  clear hr0_0 hc0_0
  have HR0_1 := Aside0.mk hr0_1
  have HC0_1 := Aside0.mk hc0_1
  clear hr0_1 hc0_1
  have HB := Aside0.mk (Below.refl w.heap.size w)
  have H : ((spec_l04Is.f k l0_0 l0_1).bind fun t357 => (if t357 = true then ((spec_l04Without.f k l0_0 l0_1 a1 a2).bind fun bt358 => (if bt358.2.2 = true then ((spec_l04Value.f bt358.1 bt358.2.1).bind fun t366 => ((spec_l04Answer.f a1 a2 t366).bind fun bt367 => (some (bt367.2, 0)))) else (some (false, 5)))) else (some (false, 1)))) = some (r1, r2) := h
  clear h
  replace H := Option.bind_eq_some_iff.mp H
  obtain ⟨t357, A40, H⟩ := H
  replace H : (if t357 = true then ((spec_l04Without.f k l0_0 l0_1 a1 a2).bind fun bt358 => (if bt358.2.2 = true then ((spec_l04Value.f bt358.1 bt358.2.1).bind fun t366 => ((spec_l04Answer.f a1 a2 t366).bind fun bt367 => (some (bt367.2, 0)))) else (some (false, 5)))) else (some (false, 1))) = some (r1, r2) := H
  have A4 := Aside0.mk A40
  clear A40
  by_cases c5 : t357 = true
  · subst c5
    have H1 : ((spec_l04Without.f k l0_0 l0_1 a1 a2).bind fun bt358 => (if bt358.2.2 = true then ((spec_l04Value.f bt358.1 bt358.2.1).bind fun t366 => ((spec_l04Answer.f a1 a2 t366).bind fun bt367 => (some (bt367.2, 0)))) else (some (false, 5)))) = some (r1, r2) := by rw [if_pos rfl] at H; exact H
    clear H
    have H := H1
    clear H1
    replace H := Option.bind_eq_some_iff.mp H
    obtain ⟨⟨t358, t361, t364⟩, A60, H⟩ := H
    replace H : (if t364 = true then ((spec_l04Value.f t358 t361).bind fun t366 => ((spec_l04Answer.f a1 a2 t366).bind fun bt367 => (some (bt367.2, 0)))) else (some (false, 5))) = some (r1, r2) := H
    have A6 := Aside0.mk A60
    clear A60
    by_cases c7 : t364 = true
    · subst c7
      have H1 : ((spec_l04Value.f t358 t361).bind fun t366 => ((spec_l04Answer.f a1 a2 t366).bind fun bt367 => (some (bt367.2, 0)))) = some (r1, r2) := by rw [if_pos rfl] at H; exact H
      clear H
      have H := H1
      clear H1
      replace H := Option.bind_eq_some_iff.mp H
      obtain ⟨t366, A80, H⟩ := H
      replace H : ((spec_l04Answer.f a1 a2 t366).bind fun bt367 => (some (bt367.2, 0))) = some (r1, r2) := H
      have A8 := Aside0.mk A80
      clear A80
      replace H := Option.bind_eq_some_iff.mp H
      obtain ⟨⟨t367, t368⟩, A90, H⟩ := H
      replace H : (some (t368, 0)) = some (r1, r2) := H
      have A9 := Aside0.mk A90
      clear A90
      simp only [Option.some.injEq, Prod.mk.injEq] at H
      obtain ⟨rfl, rfl⟩ := H
      go_enter Try.func34, Try.ntmps34
      go_wp2_with (first | ((with_reducible refine gate_dst (N := 3) rfl ?_); refine box_event ?hg (N := 3) ?hd (cs := #[.slice A0_0 l0_0.length c0_0, .slice A0_1 l0_1.length c0_1]) (t := 27) ?hr ?_; (case hd => rfl); (case hg => rfl); (case hr => first | (go_simp; done) | (go_simp; rfl)); intro gb356 hg w10 hbox hb; have n0_ := Aside0.mk (below_step (by repeat (first | (with_reducible first | exact HB.out | apply below_alloc | apply pw_below_drewN | apply below_drew1) | exact HB.out)) hb); have n1_ := Aside0.mk (hbox); have n2_ := Aside0.mk ((by rw [hg]; exact (below_size (by repeat (first | (with_reducible first | exact HB.out | apply below_alloc | apply pw_below_drewN | apply below_drew1) | exact HB.out))) : w.heap.size ≤ gb356)); have n3_ := Aside0.mk ((by rw [hg]; exact (below_size (by repeat (first | (with_reducible first | exact HB.out | apply below_alloc | apply pw_below_drewN | apply below_drew1) | exact HB.out))) : w.heap.size ≤ gb356)); clear HB; have HB := n0_; have BK356 := n1_; have GW356 := n2_; have GE356 := n3_; clear n0_ n1_ n2_ n3_; clear hb hbox hg; have hcz11_0 : w10.cell? ⟨gb356, 0, none⟩ = some (.slice A0_0 l0_0.length c0_0) := (blk_cell BK356.out 0).trans rfl; have hcz11_1 : w10.cell? ⟨gb356, 1, none⟩ = some (.slice A0_1 l0_1.length c0_1) := (blk_cell BK356.out 1).trans rfl; have hfz11_0 := blk_frozen BK356.out 0; have hfz11_1 := blk_frozen BK356.out 1) | ((with_reducible refine gate_callee (f := 61) rfl ?_); refine goesL_ (some 13) rfl rfl Try.func61 (by kernel_rfl) rfl #[.agg #[.slice A0_0 l0_0.length c0_0, .slice A0_1 l0_1.length c0_1]] rfl (by (try simp only [List.map_toArray, List.map_cons, List.map_nil]); first | done | rfl | (simp only [List.length_drop, List.length_take]; rfl)) ?_; (with_reducible refine (spec_l04Is.calls k _ _ l0_0 _ _ l0_1 true _ ?side1 ?side2 ?side3 ?side4 A4.out).mono ?_); (case side1 => repeat (first | exact (Kd.C_below HR0_0.out HB.out) | (with_reducible refine Kd.C_alloc ?_ _) | (with_reducible refine Kd.C_drewN ?_ _) | (with_reducible refine Kd.C_drew ?_))); (case side2 => exact HC0_0.out); (case side3 => repeat (first | exact (Kd.C_below HR0_1.out HB.out) | (with_reducible refine Kd.C_alloc ?_ _) | (with_reducible refine Kd.C_drewN ?_ _) | (with_reducible refine Kd.C_drew ?_))); (case side4 => exact HC0_1.out); rintro e w12 ⟨rfl, hb⟩; refine ⟨_, rfl, ?_⟩; have n0_ := Aside0.mk (blk_below (g := gb356) (o := .cells #[.slice A0_0 l0_0.length c0_0, .slice A0_1 l0_1.length c0_1] 27 (0, 0)) (by (with_reducible repeat (first | refine blk_drewN ?_ _ | refine blk_drew ?_ | refine blk_alloc ?_ _)); exact BK356.out) hb); have n1_ := Aside0.mk (below_step (by repeat (first | (with_reducible first | exact HB.out | apply below_alloc | apply pw_below_drewN | apply below_drew1 | refine below_set ?_ GE356.out) | exact HB.out)) hb); clear BK356; clear HB; have BK356 := n0_; have HB := n1_; clear n0_ n1_; (try clear hb); (try clear hb2); (try clear hk); (try clear hi); have hcz13_0 : w12.cell? ⟨gb356, 0, none⟩ = some (.slice A0_0 l0_0.length c0_0) := (blk_cell BK356.out 0).trans rfl; have hcz13_1 : w12.cell? ⟨gb356, 1, none⟩ = some (.slice A0_1 l0_1.length c0_1) := (blk_cell BK356.out 1).trans rfl; have hfz13_0 := blk_frozen BK356.out 0; have hfz13_1 := blk_frozen BK356.out 1) | ((with_reducible refine gate_callee (f := 72) rfl ?_); refine goesL_ (some 19) rfl rfl Try.func72 (by kernel_rfl) rfl #[.agg #[.slice A0_0 l0_0.length c0_0, .slice A0_1 l0_1.length c0_1], .bool a1, .int .i64 a2] rfl (by (try simp only [List.map_toArray, List.map_cons, List.map_nil]); first | done | rfl | (simp only [List.length_drop, List.length_take]; rfl)) ?_; (with_reducible refine (spec_l04Without.calls k _ _ l0_0 _ _ l0_1 a1 a2 t358 t361 true _ ?side1 ?side2 ?side3 ?side4 A6.out).mono ?_); (case side1 => repeat (first | exact (Kd.C_below HR0_0.out HB.out) | (with_reducible refine Kd.C_alloc ?_ _) | (with_reducible refine Kd.C_drewN ?_ _) | (with_reducible refine Kd.C_drew ?_))); (case side2 => exact HC0_0.out); (case side3 => repeat (first | exact (Kd.C_below HR0_1.out HB.out) | (with_reducible refine Kd.C_alloc ?_ _) | (with_reducible refine Kd.C_drewN ?_ _) | (with_reducible refine Kd.C_drew ?_))); (case side4 => exact HC0_1.out); rintro e w14 ⟨v359, v362, rfl, ho0, ho1, hb⟩; refine ⟨_, rfl, ?_⟩; have n0_ := Aside0.mk (Kd.R_lower ho0 (below_size (by repeat (first | (with_reducible first | exact HB.out | apply below_alloc | apply pw_below_drewN | apply below_drew1 | refine below_set ?_ GE356.out) | exact HB.out)))); have n1_ := Aside0.mk (Kd.R_lower ho1 (below_size (by repeat (first | (with_reducible first | exact HB.out | apply below_alloc | apply pw_below_drewN | apply below_drew1 | refine below_set ?_ GE356.out) | exact HB.out)))); have n2_ := Aside0.mk (blk_below (g := gb356) (o := .cells #[.slice A0_0 l0_0.length c0_0, .slice A0_1 l0_1.length c0_1] 27 (0, 0)) (by (with_reducible repeat (first | refine blk_drewN ?_ _ | refine blk_drew ?_ | refine blk_alloc ?_ _)); exact BK356.out) hb); have n3_ := Aside0.mk (below_step (by repeat (first | (with_reducible first | exact HB.out | apply below_alloc | apply pw_below_drewN | apply below_drew1 | refine below_set ?_ GE356.out) | exact HB.out)) hb); clear BK356; clear HB; have HO360 := n0_; have HO363 := n1_; have BK356 := n2_; have HB := n3_; clear n0_ n1_ n2_ n3_; (try clear hb); (try clear hb2); (try clear hk); (try clear hi); (try clear ho0); (try clear ho1)) | ((with_reducible refine gate_dst (N := 8) rfl ?_); refine box_event ?hg (N := 8) ?hd (cs := #[.slice none 0 0, .slice none 0 0]) (t := 27) ?hr ?_; (case hd => rfl); (case hg => rfl); (case hr => first | (go_simp; done) | (go_simp; rfl)); intro gb365 hg w15 hbox hb; have n0_ := Aside0.mk (Kd.R_below (by (with_reducible repeat (first | apply Kd.R_alloc | apply Kd.R_drewN | apply Kd.R_drew)); exact HO360.out) hb); have n1_ := Aside0.mk (Kd.R_below (by (with_reducible repeat (first | apply Kd.R_alloc | apply Kd.R_drewN | apply Kd.R_drew)); exact HO363.out) hb); have n2_ := Aside0.mk (blk_below (g := gb356) (o := .cells #[.slice A0_0 l0_0.length c0_0, .slice A0_1 l0_1.length c0_1] 27 (0, 0)) (by (with_reducible repeat (first | refine blk_drewN ?_ _ | refine blk_drew ?_ | refine blk_alloc ?_ _)); exact BK356.out) hb); have n3_ := Aside0.mk (below_step (by repeat (first | (with_reducible first | exact HB.out | apply below_alloc | apply pw_below_drewN | apply below_drew1 | refine below_set ?_ GE356.out) | exact HB.out)) hb); have n4_ := Aside0.mk (hbox); have n5_ := Aside0.mk ((by rw [hg]; exact (below_size (by repeat (first | (with_reducible first | exact HB.out | apply below_alloc | apply pw_below_drewN | apply below_drew1 | refine below_set ?_ GE356.out) | exact HB.out))) : w.heap.size ≤ gb365)); have n6_ := Aside0.mk ((by rw [hg]; exact (below_size (by repeat (first | (with_reducible first | exact HB.out | apply below_alloc | apply pw_below_drewN | apply below_drew1 | refine below_set ?_ GE356.out) | exact HB.out))) : w.heap.size ≤ gb365)); have n7_ := Aside0.mk ((by rw [hg]; exact Nat.ne_of_lt (blk_lt (g := gb356) (o := .cells #[.slice A0_0 l0_0.length c0_0, .slice A0_1 l0_1.length c0_1] 27 (0, 0)) (by (with_reducible repeat (first | refine blk_drewN ?_ _ | refine blk_drew ?_ | refine blk_alloc ?_ _)); exact BK356.out)) : gb356 ≠ gb365)); have n8_ := Aside0.mk ((by rw [hg]; exact Nat.ne_of_gt (blk_lt (g := gb356) (o := .cells #[.slice A0_0 l0_0.length c0_0, .slice A0_1 l0_1.length c0_1] 27 (0, 0)) (by (with_reducible repeat (first | refine blk_drewN ?_ _ | refine blk_drew ?_ | refine blk_alloc ?_ _)); exact BK356.out)) : gb365 ≠ gb356)); clear HO360; clear HO363; clear BK356; clear HB; have HO360 := n0_; have HO363 := n1_; have BK356 := n2_; have HB := n3_; have BK365 := n4_; have GW365 := n5_; have GE365 := n6_; have NB356_365 := n7_; have NB365_356 := n8_; clear n0_ n1_ n2_ n3_ n4_ n5_ n6_ n7_ n8_; clear hb hbox hg; obtain ⟨Ao16, co16, eo16⟩ := Kd.R_slice HO360.out; subst eo16; have hnb17 := NB365_356.out; have hnc17 := NB356_365.out; have hcz18_0 : w15.cell? ⟨gb365, 0, none⟩ = some (.slice none 0 0) := (blk_cell BK365.out 0).trans rfl; have hcz18_1 : w15.cell? ⟨gb365, 1, none⟩ = some (.slice none 0 0) := (blk_cell BK365.out 1).trans rfl; have hfz18_0 := blk_frozen BK365.out 0; have hfz18_1 := blk_frozen BK365.out 1; obtain ⟨Ao19, co19, eo19⟩ := Kd.R_slice HO363.out; subst eo19) | ((with_reducible refine gate_callee (f := 75) rfl ?_); refine goesL_ (some 28) rfl rfl Try.func75 (by kernel_rfl) rfl #[.agg #[.slice Ao16 t358.length co16, .slice Ao19 t361.length co19]] rfl (by (try simp only [List.map_toArray, List.map_cons, List.map_nil]); first | done | rfl | (simp only [List.length_drop, List.length_take]; rfl)) ?_; (with_reducible refine (spec_l04Value.calls _ _ t358 _ _ t361 t366 _ ?side1 ?side2 ?side3 ?side4 A8.out).mono ?_); (case side1 => refine (Kd.R_reads' (e := 2) (base := w.heap.size) (ok := fun k_ => some k_ ≠ (.slice Ao19 t361.length co19 : Value).ownBlock) (n := t358.length) (c := co16) ?_).2.2; exact (by (with_reducible repeat (first | apply Kd.R_alloc | apply Kd.R_drewN | apply Kd.R_drew)); exact (Kd.R_mono (Kd.R_far (p := ⟨gb365, 1, none⟩) (Kd.R_far (p := ⟨gb365, 0, none⟩) (Kd.R_types HO360.out BK365.out (by decide)) (fun _ hk => hk.2) (.slice Ao16 t358.length co16)) (fun _ hk => hk.2) (.slice Ao19 t361.length co19)) (fun _ h_ => h_.1)))); (case side2 => exact (Kd.R_reads' HO360.out).2.1); (case side3 => refine (Kd.R_reads' (e := 2) (base := w.heap.size) (ok := fun k_ => some k_ ≠ (.slice Ao16 t358.length co16 : Value).ownBlock) (n := t361.length) (c := co19) ?_).2.2; exact (by (with_reducible repeat (first | apply Kd.R_alloc | apply Kd.R_drewN | apply Kd.R_drew)); exact (Kd.R_mono (Kd.R_far (p := ⟨gb365, 1, none⟩) (Kd.R_far (p := ⟨gb365, 0, none⟩) (Kd.R_types HO363.out BK365.out (by decide)) (fun _ hk => hk.2) (.slice Ao16 t358.length co16)) (fun _ hk => hk.2) (.slice Ao19 t361.length co19)) (fun _ h_ => h_.1)))); (case side4 => exact (Kd.R_reads' HO363.out).2.1); rintro e w20 ⟨rfl, hb⟩; refine ⟨_, rfl, ?_⟩; have n0_ := Aside0.mk (Kd.R_below (by (with_reducible repeat (first | apply Kd.R_alloc | apply Kd.R_drewN | apply Kd.R_drew)); exact (Kd.R_mono (Kd.R_far (p := ⟨gb365, 1, none⟩) (Kd.R_far (p := ⟨gb365, 0, none⟩) (Kd.R_types HO360.out BK365.out (by decide)) (fun _ hk => hk.2) (.slice Ao16 t358.length co16)) (fun _ hk => hk.2) (.slice Ao19 t361.length co19)) (fun _ h_ => h_.1))) hb); have n1_ := Aside0.mk (Kd.R_below (by (with_reducible repeat (first | apply Kd.R_alloc | apply Kd.R_drewN | apply Kd.R_drew)); exact (Kd.R_mono (Kd.R_far (p := ⟨gb365, 1, none⟩) (Kd.R_far (p := ⟨gb365, 0, none⟩) (Kd.R_types HO363.out BK365.out (by decide)) (fun _ hk => hk.2) (.slice Ao16 t358.length co16)) (fun _ hk => hk.2) (.slice Ao19 t361.length co19)) (fun _ h_ => h_.1))) hb); have n2_ := Aside0.mk (blk_below (g := gb356) (o := .cells #[.slice A0_0 l0_0.length c0_0, .slice A0_1 l0_1.length c0_1] 27 (0, 0)) (by (with_reducible repeat (first | refine blk_drewN ?_ _ | refine blk_drew ?_ | refine blk_alloc ?_ _)); refine blk_far ?_ NB356_365.out _; (with_reducible repeat (first | refine blk_drewN ?_ _ | refine blk_drew ?_ | refine blk_alloc ?_ _)); refine blk_far ?_ NB356_365.out _; (with_reducible repeat (first | refine blk_drewN ?_ _ | refine blk_drew ?_ | refine blk_alloc ?_ _)); exact BK356.out) hb); have n3_ := Aside0.mk (blk_below (g := gb365) (o := .cells #[.slice Ao16 t358.length co16, .slice Ao19 t361.length co19] 27 (0, 0)) (by (with_reducible repeat (first | refine blk_drewN ?_ _ | refine blk_drew ?_ | refine blk_alloc ?_ _)); refine blk_put (cs := #[.slice Ao16 t358.length co16, .slice none 0 0]) ?_ 1 _ rfl; (with_reducible repeat (first | refine blk_drewN ?_ _ | refine blk_drew ?_ | refine blk_alloc ?_ _)); refine blk_put (cs := #[.slice none 0 0, .slice none 0 0]) ?_ 0 _ rfl; (with_reducible repeat (first | refine blk_drewN ?_ _ | refine blk_drew ?_ | refine blk_alloc ?_ _)); exact BK365.out) hb); have n4_ := Aside0.mk (below_step (by repeat (first | (with_reducible first | exact HB.out | apply below_alloc | apply pw_below_drewN | apply below_drew1 | refine below_set ?_ GE356.out | refine below_set ?_ GE365.out) | exact HB.out)) hb); clear HO360; clear HO363; clear BK356; clear BK365; clear HB; have HO360 := n0_; have HO363 := n1_; have BK356 := n2_; have BK365 := n3_; have HB := n4_; clear n0_ n1_ n2_ n3_ n4_; (try clear hb); (try clear hb2); (try clear hk); (try clear hi)) | ((with_reducible refine gate_callee (f := 81) rfl ?_); refine goesL_ (some 29) rfl rfl Try.func81 (by kernel_rfl) rfl #[.bool a1, .int .i64 a2, .int .i64 t366] rfl (by (try simp only [List.map_toArray, List.map_cons, List.map_nil]); first | done | rfl | (simp only [List.length_drop, List.length_take]; rfl)) ?_; (with_reducible refine (spec_l04Answer.calls a1 a2 t366 t367 t368 _ A9.out).mono ?_); rintro e w' ⟨rfl, ⟨nd, rfl⟩⟩; refine ⟨_, rfl, ?_⟩))
      go_ret2
      exact ⟨by first | rfl | (simp [errW_none, errW_some] <;> rfl) | (simp [*, errW_none, errW_some] <;> rfl), by repeat (first | (with_reducible first | exact HB.out | apply below_alloc | apply pw_below_drewN | apply below_drew1 | refine below_set ?_ GE356.out | refine below_set ?_ GE365.out) | exact HB.out)⟩
    · replace c7 := Bool.eq_false_iff.mpr c7
      subst c7
      have H1 : (some (false, 5)) = some (r1, r2) := by rw [if_neg (show ¬ (false = true) by decide)] at H; exact H
      clear H
      have H := H1
      clear H1
      simp only [Option.some.injEq, Prod.mk.injEq] at H
      obtain ⟨rfl, rfl⟩ := H
      go_enter Try.func34, Try.ntmps34
      go_wp2_with (first | ((with_reducible refine gate_dst (N := 3) rfl ?_); refine box_event ?hg (N := 3) ?hd (cs := #[.slice A0_0 l0_0.length c0_0, .slice A0_1 l0_1.length c0_1]) (t := 27) ?hr ?_; (case hd => rfl); (case hg => rfl); (case hr => first | (go_simp; done) | (go_simp; rfl)); intro gb356 hg w21 hbox hb; have n0_ := Aside0.mk (below_step (by repeat (first | (with_reducible first | exact HB.out | apply below_alloc | apply pw_below_drewN | apply below_drew1) | exact HB.out)) hb); have n1_ := Aside0.mk (hbox); have n2_ := Aside0.mk ((by rw [hg]; exact (below_size (by repeat (first | (with_reducible first | exact HB.out | apply below_alloc | apply pw_below_drewN | apply below_drew1) | exact HB.out))) : w.heap.size ≤ gb356)); have n3_ := Aside0.mk ((by rw [hg]; exact (below_size (by repeat (first | (with_reducible first | exact HB.out | apply below_alloc | apply pw_below_drewN | apply below_drew1) | exact HB.out))) : w.heap.size ≤ gb356)); clear HB; have HB := n0_; have BK356 := n1_; have GW356 := n2_; have GE356 := n3_; clear n0_ n1_ n2_ n3_; clear hb hbox hg; have hcz22_0 : w21.cell? ⟨gb356, 0, none⟩ = some (.slice A0_0 l0_0.length c0_0) := (blk_cell BK356.out 0).trans rfl; have hcz22_1 : w21.cell? ⟨gb356, 1, none⟩ = some (.slice A0_1 l0_1.length c0_1) := (blk_cell BK356.out 1).trans rfl; have hfz22_0 := blk_frozen BK356.out 0; have hfz22_1 := blk_frozen BK356.out 1) | ((with_reducible refine gate_callee (f := 61) rfl ?_); refine goesL_ (some 13) rfl rfl Try.func61 (by kernel_rfl) rfl #[.agg #[.slice A0_0 l0_0.length c0_0, .slice A0_1 l0_1.length c0_1]] rfl (by (try simp only [List.map_toArray, List.map_cons, List.map_nil]); first | done | rfl | (simp only [List.length_drop, List.length_take]; rfl)) ?_; (with_reducible refine (spec_l04Is.calls k _ _ l0_0 _ _ l0_1 true _ ?side1 ?side2 ?side3 ?side4 A4.out).mono ?_); (case side1 => repeat (first | exact (Kd.C_below HR0_0.out HB.out) | (with_reducible refine Kd.C_alloc ?_ _) | (with_reducible refine Kd.C_drewN ?_ _) | (with_reducible refine Kd.C_drew ?_))); (case side2 => exact HC0_0.out); (case side3 => repeat (first | exact (Kd.C_below HR0_1.out HB.out) | (with_reducible refine Kd.C_alloc ?_ _) | (with_reducible refine Kd.C_drewN ?_ _) | (with_reducible refine Kd.C_drew ?_))); (case side4 => exact HC0_1.out); rintro e w23 ⟨rfl, hb⟩; refine ⟨_, rfl, ?_⟩; have n0_ := Aside0.mk (blk_below (g := gb356) (o := .cells #[.slice A0_0 l0_0.length c0_0, .slice A0_1 l0_1.length c0_1] 27 (0, 0)) (by (with_reducible repeat (first | refine blk_drewN ?_ _ | refine blk_drew ?_ | refine blk_alloc ?_ _)); exact BK356.out) hb); have n1_ := Aside0.mk (below_step (by repeat (first | (with_reducible first | exact HB.out | apply below_alloc | apply pw_below_drewN | apply below_drew1 | refine below_set ?_ GE356.out) | exact HB.out)) hb); clear BK356; clear HB; have BK356 := n0_; have HB := n1_; clear n0_ n1_; (try clear hb); (try clear hb2); (try clear hk); (try clear hi); have hcz24_0 : w23.cell? ⟨gb356, 0, none⟩ = some (.slice A0_0 l0_0.length c0_0) := (blk_cell BK356.out 0).trans rfl; have hcz24_1 : w23.cell? ⟨gb356, 1, none⟩ = some (.slice A0_1 l0_1.length c0_1) := (blk_cell BK356.out 1).trans rfl; have hfz24_0 := blk_frozen BK356.out 0; have hfz24_1 := blk_frozen BK356.out 1) | ((with_reducible refine gate_callee (f := 72) rfl ?_); refine goesL_ (some 19) rfl rfl Try.func72 (by kernel_rfl) rfl #[.agg #[.slice A0_0 l0_0.length c0_0, .slice A0_1 l0_1.length c0_1], .bool a1, .int .i64 a2] rfl (by (try simp only [List.map_toArray, List.map_cons, List.map_nil]); first | done | rfl | (simp only [List.length_drop, List.length_take]; rfl)) ?_; (with_reducible refine (spec_l04Without.calls k _ _ l0_0 _ _ l0_1 a1 a2 t358 t361 false _ ?side1 ?side2 ?side3 ?side4 A6.out).mono ?_); (case side1 => repeat (first | exact (Kd.C_below HR0_0.out HB.out) | (with_reducible refine Kd.C_alloc ?_ _) | (with_reducible refine Kd.C_drewN ?_ _) | (with_reducible refine Kd.C_drew ?_))); (case side2 => exact HC0_0.out); (case side3 => repeat (first | exact (Kd.C_below HR0_1.out HB.out) | (with_reducible refine Kd.C_alloc ?_ _) | (with_reducible refine Kd.C_drewN ?_ _) | (with_reducible refine Kd.C_drew ?_))); (case side4 => exact HC0_1.out); rintro e w25 ⟨v359, v362, rfl, ho0, ho1, hb⟩; refine ⟨_, rfl, ?_⟩; have n0_ := Aside0.mk (Kd.R_lower ho0 (below_size (by repeat (first | (with_reducible first | exact HB.out | apply below_alloc | apply pw_below_drewN | apply below_drew1 | refine below_set ?_ GE356.out) | exact HB.out)))); have n1_ := Aside0.mk (Kd.R_lower ho1 (below_size (by repeat (first | (with_reducible first | exact HB.out | apply below_alloc | apply pw_below_drewN | apply below_drew1 | refine below_set ?_ GE356.out) | exact HB.out)))); have n2_ := Aside0.mk (blk_below (g := gb356) (o := .cells #[.slice A0_0 l0_0.length c0_0, .slice A0_1 l0_1.length c0_1] 27 (0, 0)) (by (with_reducible repeat (first | refine blk_drewN ?_ _ | refine blk_drew ?_ | refine blk_alloc ?_ _)); exact BK356.out) hb); have n3_ := Aside0.mk (below_step (by repeat (first | (with_reducible first | exact HB.out | apply below_alloc | apply pw_below_drewN | apply below_drew1 | refine below_set ?_ GE356.out) | exact HB.out)) hb); clear BK356; clear HB; have HO360 := n0_; have HO363 := n1_; have BK356 := n2_; have HB := n3_; clear n0_ n1_ n2_ n3_; (try clear hb); (try clear hb2); (try clear hk); (try clear hi); (try clear ho0); (try clear ho1)) | ((with_reducible refine gate_dst (N := 8) rfl ?_); refine box_event ?hg (N := 8) ?hd (cs := #[.slice none 0 0, .slice none 0 0]) (t := 27) ?hr ?_; (case hd => rfl); (case hg => rfl); (case hr => first | (go_simp; done) | (go_simp; rfl)); intro gb365 hg w26 hbox hb; have n0_ := Aside0.mk (Kd.R_below (by (with_reducible repeat (first | apply Kd.R_alloc | apply Kd.R_drewN | apply Kd.R_drew)); exact HO360.out) hb); have n1_ := Aside0.mk (Kd.R_below (by (with_reducible repeat (first | apply Kd.R_alloc | apply Kd.R_drewN | apply Kd.R_drew)); exact HO363.out) hb); have n2_ := Aside0.mk (blk_below (g := gb356) (o := .cells #[.slice A0_0 l0_0.length c0_0, .slice A0_1 l0_1.length c0_1] 27 (0, 0)) (by (with_reducible repeat (first | refine blk_drewN ?_ _ | refine blk_drew ?_ | refine blk_alloc ?_ _)); exact BK356.out) hb); have n3_ := Aside0.mk (below_step (by repeat (first | (with_reducible first | exact HB.out | apply below_alloc | apply pw_below_drewN | apply below_drew1 | refine below_set ?_ GE356.out) | exact HB.out)) hb); have n4_ := Aside0.mk (hbox); have n5_ := Aside0.mk ((by rw [hg]; exact (below_size (by repeat (first | (with_reducible first | exact HB.out | apply below_alloc | apply pw_below_drewN | apply below_drew1 | refine below_set ?_ GE356.out) | exact HB.out))) : w.heap.size ≤ gb365)); have n6_ := Aside0.mk ((by rw [hg]; exact (below_size (by repeat (first | (with_reducible first | exact HB.out | apply below_alloc | apply pw_below_drewN | apply below_drew1 | refine below_set ?_ GE356.out) | exact HB.out))) : w.heap.size ≤ gb365)); have n7_ := Aside0.mk ((by rw [hg]; exact Nat.ne_of_lt (blk_lt (g := gb356) (o := .cells #[.slice A0_0 l0_0.length c0_0, .slice A0_1 l0_1.length c0_1] 27 (0, 0)) (by (with_reducible repeat (first | refine blk_drewN ?_ _ | refine blk_drew ?_ | refine blk_alloc ?_ _)); exact BK356.out)) : gb356 ≠ gb365)); have n8_ := Aside0.mk ((by rw [hg]; exact Nat.ne_of_gt (blk_lt (g := gb356) (o := .cells #[.slice A0_0 l0_0.length c0_0, .slice A0_1 l0_1.length c0_1] 27 (0, 0)) (by (with_reducible repeat (first | refine blk_drewN ?_ _ | refine blk_drew ?_ | refine blk_alloc ?_ _)); exact BK356.out)) : gb365 ≠ gb356)); clear HO360; clear HO363; clear BK356; clear HB; have HO360 := n0_; have HO363 := n1_; have BK356 := n2_; have HB := n3_; have BK365 := n4_; have GW365 := n5_; have GE365 := n6_; have NB356_365 := n7_; have NB365_356 := n8_; clear n0_ n1_ n2_ n3_ n4_ n5_ n6_ n7_ n8_; clear hb hbox hg; obtain ⟨Ao27, co27, eo27⟩ := Kd.R_slice HO360.out; subst eo27; have hnb28 := NB365_356.out; have hnc28 := NB356_365.out; have hcz29_0 : w26.cell? ⟨gb365, 0, none⟩ = some (.slice none 0 0) := (blk_cell BK365.out 0).trans rfl; have hcz29_1 : w26.cell? ⟨gb365, 1, none⟩ = some (.slice none 0 0) := (blk_cell BK365.out 1).trans rfl; have hfz29_0 := blk_frozen BK365.out 0; have hfz29_1 := blk_frozen BK365.out 1; obtain ⟨Ao30, co30, eo30⟩ := Kd.R_slice HO363.out; subst eo30))
      go_ret2
      exact ⟨by first | rfl | (simp [errW_none, errW_some] <;> rfl) | (simp [*, errW_none, errW_some] <;> rfl), by repeat (first | (with_reducible first | exact HB.out | apply below_alloc | apply pw_below_drewN | apply below_drew1 | refine below_set ?_ GE356.out | refine below_set ?_ GE365.out) | exact HB.out)⟩
  · replace c5 := Bool.eq_false_iff.mpr c5
    subst c5
    have H1 : (some (false, 1)) = some (r1, r2) := by rw [if_neg (show ¬ (false = true) by decide)] at H; exact H
    clear H
    have H := H1
    clear H1
    simp only [Option.some.injEq, Prod.mk.injEq] at H
    obtain ⟨rfl, rfl⟩ := H
    go_enter Try.func34, Try.ntmps34
    go_wp2_with (first | ((with_reducible refine gate_dst (N := 3) rfl ?_); refine box_event ?hg (N := 3) ?hd (cs := #[.slice A0_0 l0_0.length c0_0, .slice A0_1 l0_1.length c0_1]) (t := 27) ?hr ?_; (case hd => rfl); (case hg => rfl); (case hr => first | (go_simp; done) | (go_simp; rfl)); intro gb356 hg w31 hbox hb; have n0_ := Aside0.mk (below_step (by repeat (first | (with_reducible first | exact HB.out | apply below_alloc | apply pw_below_drewN | apply below_drew1) | exact HB.out)) hb); have n1_ := Aside0.mk (hbox); have n2_ := Aside0.mk ((by rw [hg]; exact (below_size (by repeat (first | (with_reducible first | exact HB.out | apply below_alloc | apply pw_below_drewN | apply below_drew1) | exact HB.out))) : w.heap.size ≤ gb356)); have n3_ := Aside0.mk ((by rw [hg]; exact (below_size (by repeat (first | (with_reducible first | exact HB.out | apply below_alloc | apply pw_below_drewN | apply below_drew1) | exact HB.out))) : w.heap.size ≤ gb356)); clear HB; have HB := n0_; have BK356 := n1_; have GW356 := n2_; have GE356 := n3_; clear n0_ n1_ n2_ n3_; clear hb hbox hg; have hcz32_0 : w31.cell? ⟨gb356, 0, none⟩ = some (.slice A0_0 l0_0.length c0_0) := (blk_cell BK356.out 0).trans rfl; have hcz32_1 : w31.cell? ⟨gb356, 1, none⟩ = some (.slice A0_1 l0_1.length c0_1) := (blk_cell BK356.out 1).trans rfl; have hfz32_0 := blk_frozen BK356.out 0; have hfz32_1 := blk_frozen BK356.out 1) | ((with_reducible refine gate_callee (f := 61) rfl ?_); refine goesL_ (some 13) rfl rfl Try.func61 (by kernel_rfl) rfl #[.agg #[.slice A0_0 l0_0.length c0_0, .slice A0_1 l0_1.length c0_1]] rfl (by (try simp only [List.map_toArray, List.map_cons, List.map_nil]); first | done | rfl | (simp only [List.length_drop, List.length_take]; rfl)) ?_; (with_reducible refine (spec_l04Is.calls k _ _ l0_0 _ _ l0_1 false _ ?side1 ?side2 ?side3 ?side4 A4.out).mono ?_); (case side1 => repeat (first | exact (Kd.C_below HR0_0.out HB.out) | (with_reducible refine Kd.C_alloc ?_ _) | (with_reducible refine Kd.C_drewN ?_ _) | (with_reducible refine Kd.C_drew ?_))); (case side2 => exact HC0_0.out); (case side3 => repeat (first | exact (Kd.C_below HR0_1.out HB.out) | (with_reducible refine Kd.C_alloc ?_ _) | (with_reducible refine Kd.C_drewN ?_ _) | (with_reducible refine Kd.C_drew ?_))); (case side4 => exact HC0_1.out); rintro e w33 ⟨rfl, hb⟩; refine ⟨_, rfl, ?_⟩; have n0_ := Aside0.mk (blk_below (g := gb356) (o := .cells #[.slice A0_0 l0_0.length c0_0, .slice A0_1 l0_1.length c0_1] 27 (0, 0)) (by (with_reducible repeat (first | refine blk_drewN ?_ _ | refine blk_drew ?_ | refine blk_alloc ?_ _)); exact BK356.out) hb); have n1_ := Aside0.mk (below_step (by repeat (first | (with_reducible first | exact HB.out | apply below_alloc | apply pw_below_drewN | apply below_drew1 | refine below_set ?_ GE356.out) | exact HB.out)) hb); clear BK356; clear HB; have BK356 := n0_; have HB := n1_; clear n0_ n1_; (try clear hb); (try clear hb2); (try clear hk); (try clear hi)))
    go_ret2
    exact ⟨by first | rfl | (simp [errW_none, errW_some] <;> rfl) | (simp [*, errW_none, errW_some] <;> rfl), by repeat (first | (with_reducible first | exact HB.out | apply below_alloc | apply pw_below_drewN | apply below_drew1 | refine below_set ?_ GE356.out) | exact HB.out)⟩

end Go.Proofs.Ytkbjoiebaphdoaa.PX

/- A new function value that knows values of endings, and nothing yet; a call of a function value where the order is drawn (no condition). -/
namespace Go.Proofs.Ytkbjoiebaphdoaa.PX
open Go.RowKit Go.Proofs.YtkbjoiebaphdoaaW.PrintWords Go.Proofs.YtkbjoiebaphdoaaW.PrintLast Go.Proofs.YtkbjoiebaphdoaaW.PrintMore
attribute [local go_sem] max2_int min2_int max_two min_two max_three min_three max_four min_four
set_option linter.unusedVariables false
set_option linter.unusedSimpArgs false
theorem MemAt.set {w : World} {b : Nat} {M : List (List Int × List Int)} (h : MemAt w b M) {p : Addr} (hne : b ≠ p.block) (v : Value) : MemAt (w.setCell p v) b M := ⟨World.ownsMap.setCell h.1 hne v, h.2⟩
section
variable {ops : Array Oper} {Q : Exit → Act → World → Prop} {oi : Oper} {a : Act} {w : World} {K : Act → World → Prop}
/-- A call of a function value, in a region whose order is drawn. -/
theorem goesVd_ (N : Option Tmp) (hd : oi.dst = N) (hw : Region.wanted oi (yielded ops a.tmps) = true) {t : Tmp} {os_ : Array Operand} {ts : Array TypeId} (f : FuncId) (cap : Array Value) (hf : HasFn f) (args : Array Value)
    (hop : oi.op = .call { callee := .value (.tmp t), args := os_, argTypes := ts }) (ht : a.eval (.tmp t) = .func (.func f) #[] cap) (hargs : os_.map a.eval = args)
    (h : Calls Try.prog f (args ++ cap) w fun e w' => ∃ v, e = .returned v ∧ K (a.put N v) w') : if Region.wanted oi (yielded ops a.tmps) = true then Oper.wp Try.prog oi a w K Q else K (a.put N undef) w := by
  obtain ⟨fn, hf, hname, hb⟩ := hf
  have he := enters_ hf hname hb (args ++ cap) w
  have hrun : (execOp a.eval oi).run Try.prog w = .ok (.enter f (args ++ cap)) w := by
    unfold execOp
    simp only [hop, resolve, ht, hargs]
    simp [Deferred.ofValue, invoke, he]
  exact call_ f (args ++ cap) hw hd hrun h
end
set_option maxHeartbeats 16000000 in
set_option maxRecDepth 100000 in
theorem values.calls (w : World) : Calls Try.prog 76 #[] w fun e w' => ∃ bm b7 bf : Nat, e = .returned (.func (.func 104) #[] #[.pointer (some ⟨b7, 0, none⟩), .pointer (some ⟨bf, 0, none⟩)]) ∧ w.heap.size ≤ bm ∧ Known bm b7 bf 0 w' ∧ Below w.heap.size w w' := by
  have HB := Aside0.mk (Below.refl w.heap.size w)
  go_enter Try.func76, Try.ntmps76
  go_wp2_with (first | ((with_reducible refine gate_dst (N := 3) rfl ?_); (try (refine gate_guard (by rfl) ?_; dsimp only)); refine mem_event ?hg (N := 3) ?hd ?hr ?_; (case hd => rfl); (case hg => rfl); (case hr => first | (go_simp; done) | (go_simp; rfl)); intro bm hgm w2 hs hb; have KM := Aside0.mk hs; have GM := Aside0.mk hgm; clear hs hgm; have n0_ := Aside0.mk (below_step HB.out hb); clear HB; have HB := n0_; clear n0_ hb) | ((with_reducible refine gate_dst (N := 1) rfl ?_); (try (refine gate_guard (by rfl) ?_; dsimp only)); refine box_event ?hg (N := 1) ?hd (cs := #[.map none]) (t := 109) ?hr ?_; (case hd => rfl); (case hg => rfl); (case hr => first | (go_simp; done) | (go_simp; rfl)); intro b7 hg w3 hbox hb; have G7 := Aside0.mk hg; have B7 := Aside0.mk hbox; have L7 := Aside0.mk (show bm < b7 by rw [hg]; exact MemAt.lt KM.out); have n0_ := Aside0.mk (below_step HB.out hb); have n1_ := Aside0.mk (MemAt.below KM.out hb (MemAt.lt KM.out)); have P7 := Aside0.mk (show w.heap.size ≤ b7 by rw [hg]; exact HB.out.size); clear HB KM hg hbox hb; have HB := n0_; have KM := n1_; clear n0_ n1_; have hz7 : w3.cell? ⟨b7, 0, none⟩ = some (.map none) := (blk_cell B7.out 0).trans rfl; have hf7 := blk_frozen B7.out 0) | ((with_reducible refine gate_dst (N := 2) rfl ?_); (try (refine gate_guard (by rfl) ?_; dsimp only)); refine box_event ?hg (N := 2) ?hd (cs := #[Value.nilFunc]) (t := 82) ?hr ?_; (case hd => rfl); (case hg => rfl); (case hr => first | (go_simp; done) | (go_simp; rfl)); intro bf hg w5 hbox hb; have HBs : Below w.heap.size w (w3.setCell ⟨b7, 0, none⟩ (.map (some bm))) := below_set HB.out P7.out; have KMs := MemAt.set KM.out (show bm ≠ (⟨b7, 0, none⟩ : Addr).block from Nat.ne_of_lt L7.out) (.map (some bm)); have B7s := blk_put (cs := #[.map none]) B7.out 0 (.map (some bm)) rfl; have LF := Aside0.mk (show b7 < bf by rw [hg]; exact blk_lt B7s); have LM := Aside0.mk (show bm < bf by rw [hg]; exact MemAt.lt KMs); have PF := Aside0.mk (show w.heap.size ≤ bf by rw [hg]; exact HBs.size); have n0_ := Aside0.mk (below_step HBs hb); have n1_ := Aside0.mk (MemAt.below KMs hb (MemAt.lt KMs)); have n2_ := Aside0.mk (blk_below (g := b7) B7s hb); have BF := Aside0.mk hbox; clear HB KM B7 HBs KMs B7s hg hbox hb; have HB := n0_; have KM := n1_; have B7 := n2_; clear n0_ n1_ n2_; have hzf : w5.cell? ⟨bf, 0, none⟩ = some (Value.nilFunc) := (blk_cell BF.out 0).trans rfl; have hff := blk_frozen BF.out 0))
  go_ret
  refine ⟨bm, b7, bf, rfl, ?_, ⟨⟨[], Nat.le_refl _, ?_⟩, ?_, ?_⟩, ?_⟩
  · rw [GM.out]; exact Nat.le_refl _
  · exact MemAt.set KM.out (show bm ≠ (⟨bf, 0, none⟩ : Addr).block from Nat.ne_of_lt LM.out) _
  · exact blk_far B7.out (Nat.ne_of_lt LF.out) _
  · exact blk_put (cs := #[Value.nilFunc]) BF.out 0 _ rfl
  · exact below_set HB.out PF.out

end Go.Proofs.Ytkbjoiebaphdoaa.PX

/- The walk of the program's EndingValue (conditions: the slices read as the lists; they fit in memory). -/
namespace Go.Proofs.Ytkbjoiebaphdoaa.PX
open Go.RowKit Go.Proofs.YtkbjoiebaphdoaaW.PrintWords Go.Proofs.YtkbjoiebaphdoaaW.PrintLast Go.Proofs.YtkbjoiebaphdoaaW.PrintMore
attribute [local go_sem] max2_int min2_int max_two min_two max_three min_three max_four min_four
set_option linter.unusedVariables false
set_option linter.unusedSimpArgs false
theorem RdE.came {w W : World} {bm c : Nat} {A : Option Addr} {xs : List Int} (h : Kd.C (Kd.int .i64) w A xs.length xs) (hc : xs.length ≤ c) (hb : Below w.heap.size w W) (hm : w.heap.size ≤ bm) : RdE W bm (.slice A xs.length c) xs :=
  Kd.V_mk hc (Kd.F_mono (Kd.F_below (Kd.C_F (Kd.heap_int .i64) h) hb) (fun k hk e => by subst e; omega))
theorem cost8 : 0 + costT 8 < 4294967296 := by decide
def endVal (C L : List Int) : Int × Int := if isEnd C L = true then (val C L, 0) else (0, 1)
def impl_EndingValue.f (_k : Nat) (C L : List Int) : Option (Int × Int) := if C.length ≤ 1048576 ∧ L.length ≤ 1048576 then some (endVal C L) else none
theorem impl_EndingValue.mono : ∀ a0 a1 k, LeO (impl_EndingValue.f k a0 a1) (impl_EndingValue.f (k + 1) a0 a1) := fun _ _ _ => LeO.refl _
set_option maxHeartbeats 16000000 in
set_option maxRecDepth 100000 in
theorem impl_EndingValue.calls (k : Nat) (A0 : Option Addr) (c0 : Nat) (C : List Int) (A1 : Option Addr) (c1 : Nat) (L : List Int) (r1 : Int) (r2 : Int) (w : World) (hr0 : Kd.C (Kd.int .i64) w A0 C.length C) (hc0 : C.length ≤ c0) (hr1 : Kd.C (Kd.int .i64) w A1 L.length L) (hc1 : L.length ≤ c1) (h : impl_EndingValue.f k C L = some (r1, r2)) :
    Calls Try.prog 31 #[.agg #[.slice A0 C.length c0, .slice A1 L.length c1]] w fun e w' => e = .returned (.tuple #[.int .i64 r1, .int .i64 r2]) ∧ Below w.heap.size w w' := by
  have hu27 := Try.underlying27
  have HR0 := Aside0.mk hr0
  have HC0 := Aside0.mk hc0
  have HR1 := Aside0.mk hr1
  have HC1 := Aside0.mk hc1
  have HB := Aside0.mk (Below.refl w.heap.size w)
  clear hr0 hc0 hr1 hc1
  unfold impl_EndingValue.f at h
  split at h
  rotate_left
  · cases h
  rename_i hsz
  obtain ⟨ki, hki⟩ := Ev.rounds (IsEnding_ev C L hsz.1 hsz.2)
  have HIE := Aside0.mk hki
  unfold endVal at h
  clear hsz hki
  cases hE : isEnd C L with
  | false =>
    rw [hE] at h HIE
    rw [if_neg Bool.false_ne_true] at h
    simp only [Option.some.injEq, Prod.mk.injEq] at h
    obtain ⟨rfl, rfl⟩ := h
    clear hE
    go_enter Try.func31, Try.ntmps31
    go_wp2_with (first | ((with_reducible refine gate_dst (N := 1) rfl ?_); (try (refine gate_guard (by rfl) ?_; dsimp only)); refine box_event ?hg (N := 1) ?hd (cs := #[.slice A0 C.length c0, .slice A1 L.length c1]) (t := 27) ?hr ?_; (case hd => rfl); (case hg => rfl); (case hr => first | (go_simp; done) | (go_simp; rfl)); intro gbx hg w2 hbox hb; have BX := Aside0.mk hbox; clear hg hbox; have n0_ := Aside0.mk (below_step HB.out hb); clear HB; have HB := n0_; clear n0_; clear hb; (try clear hz_gbx_0); have hz_gbx_0 : w2.cell? ⟨gbx, 0, none⟩ = some (.slice A0 C.length c0) := (blk_cell BX.out 0).trans rfl; (try clear hf_gbx_0); have hf_gbx_0 := blk_frozen BX.out 0; (try clear hz_gbx_1); have hz_gbx_1 : w2.cell? ⟨gbx, 1, none⟩ = some (.slice A1 L.length c1) := (blk_cell BX.out 1).trans rfl; (try clear hf_gbx_1); have hf_gbx_1 := blk_frozen BX.out 1) | ((with_reducible refine gate_dst (N := 5) rfl ?_); (try (refine gate_guard (by rfl) ?_; dsimp only)); refine goesL_ (some 5) rfl rfl Try.func18 (by kernel_rfl) rfl #[.agg #[.slice A0 C.length c0, .slice A1 L.length c1]] rfl (by (try simp only [List.map_toArray, List.map_cons, List.map_nil]); first | done | rfl) ?_; (with_reducible refine (impl_IsEnding.calls ki A0 c0 C A1 c1 L false _ ?side1 HC0.out ?side2 HC1.out HIE.out).mono ?_); (case side1 => exact Kd.C_below HR0.out HB.out); (case side2 => exact Kd.C_below HR1.out HB.out); rintro e w3 ⟨rfl, hb⟩; refine ⟨_, rfl, ?_⟩; have n0_ := Aside0.mk (blk_below (g := gbx) (o := .cells #[.slice A0 C.length c0, .slice A1 L.length c1] 27 (0, 0)) BX.out hb); have n1_ := Aside0.mk (below_step HB.out hb); clear BX HB; have BX := n0_; have HB := n1_; clear n0_ n1_; clear hb; (try clear hz_gbx_0); have hz_gbx_0 : w3.cell? ⟨gbx, 0, none⟩ = some (.slice A0 C.length c0) := (blk_cell BX.out 0).trans rfl; (try clear hf_gbx_0); have hf_gbx_0 := blk_frozen BX.out 0; (try clear hz_gbx_1); have hz_gbx_1 : w3.cell? ⟨gbx, 1, none⟩ = some (.slice A1 L.length c1) := (blk_cell BX.out 1).trans rfl; (try clear hf_gbx_1); have hf_gbx_1 := blk_frozen BX.out 1))
    go_ret2
    exact ⟨rfl, HB.out⟩
  | true =>
    have HO := Aside0.mk (isEnd_ok hE)
    rw [hE] at h HIE
    rw [if_pos rfl] at h
    simp only [Option.some.injEq, Prod.mk.injEq] at h
    obtain ⟨rfl, rfl⟩ := h
    clear hE
    go_enter Try.func31, Try.ntmps31
    go_wp2_with (first | ((with_reducible refine gate_dst (N := 1) rfl ?_); (try (refine gate_guard (by rfl) ?_; dsimp only)); refine box_event ?hg (N := 1) ?hd (cs := #[.slice A0 C.length c0, .slice A1 L.length c1]) (t := 27) ?hr ?_; (case hd => rfl); (case hg => rfl); (case hr => first | (go_simp; done) | (go_simp; rfl)); intro gbx hg w2 hbox hb; have BX := Aside0.mk hbox; clear hg hbox; have n0_ := Aside0.mk (below_step HB.out hb); clear HB; have HB := n0_; clear n0_; clear hb; (try clear hz_gbx_0); have hz_gbx_0 : w2.cell? ⟨gbx, 0, none⟩ = some (.slice A0 C.length c0) := (blk_cell BX.out 0).trans rfl; (try clear hf_gbx_0); have hf_gbx_0 := blk_frozen BX.out 0; (try clear hz_gbx_1); have hz_gbx_1 : w2.cell? ⟨gbx, 1, none⟩ = some (.slice A1 L.length c1) := (blk_cell BX.out 1).trans rfl; (try clear hf_gbx_1); have hf_gbx_1 := blk_frozen BX.out 1) | ((with_reducible refine gate_dst (N := 5) rfl ?_); (try (refine gate_guard (by rfl) ?_; dsimp only)); refine goesL_ (some 5) rfl rfl Try.func18 (by kernel_rfl) rfl #[.agg #[.slice A0 C.length c0, .slice A1 L.length c1]] rfl (by (try simp only [List.map_toArray, List.map_cons, List.map_nil]); first | done | rfl) ?_; (with_reducible refine (impl_IsEnding.calls ki A0 c0 C A1 c1 L true _ ?side1 HC0.out ?side2 HC1.out HIE.out).mono ?_); (case side1 => exact Kd.C_below HR0.out HB.out); (case side2 => exact Kd.C_below HR1.out HB.out); rintro e w3 ⟨rfl, hb⟩; refine ⟨_, rfl, ?_⟩; have n0_ := Aside0.mk (blk_below (g := gbx) (o := .cells #[.slice A0 C.length c0, .slice A1 L.length c1] 27 (0, 0)) BX.out hb); have n1_ := Aside0.mk (below_step HB.out hb); clear BX HB; have BX := n0_; have HB := n1_; clear n0_ n1_; clear hb; (try clear hz_gbx_0); have hz_gbx_0 : w3.cell? ⟨gbx, 0, none⟩ = some (.slice A0 C.length c0) := (blk_cell BX.out 0).trans rfl; (try clear hf_gbx_0); have hf_gbx_0 := blk_frozen BX.out 0; (try clear hz_gbx_1); have hz_gbx_1 : w3.cell? ⟨gbx, 1, none⟩ = some (.slice A1 L.length c1) := (blk_cell BX.out 1).trans rfl; (try clear hf_gbx_1); have hf_gbx_1 := blk_frozen BX.out 1))
    refine start_ (n := 5) (S := fun w' => w'.cell? ⟨gbx, 0, none⟩ = some (.slice A0 C.length c0) ∧ w'.cell? ⟨gbx, 1, none⟩ = some (.slice A1 L.length c1)) (ds := []) #[false, false, false, false, false] (by kernel_rfl) rfl rfl ⟨(blk_cell BX.out 0).trans rfl, (blk_cell BX.out 1).trans rfl⟩ (fun hHeld => ?_)
    have n0_ := Aside0.mk (blk_drew BX.out)
    have n1_ := Aside0.mk (below_drew1 HB.out)
    clear BX HB
    have BX := n0_
    have HB := n1_
    clear n0_ n1_
    generalize w3.drew = w4 at BX HB hHeld ⊢
    refine take_ (i := 1) (N := some 8) (v := ?_) (a' := ?_) #[false, true, false, false, false] rfl rfl (by kernel_rfl) (fun _ _ _ h => h) (Or.inl ⟨by rfl, ?_⟩) hHeld ?_ ?_
    rotate_left
    · rintro w' ⟨s0_, s1_⟩
      go_simp
      with_reducible rfl
    rotate_left
    · simp only [putAll, Act.put, List.setIfInBounds_toArray, List.set_cons_zero, List.set_cons_succ, i64_w, i32_w]
      rfl
    refine one_ (i := 0) (N := some 7) #[true, true, false, false, false] rfl rfl (by kernel_rfl) (by decide) (fun K hK => ?_)
    refine goes_ Try.func76 (by kernel_rfl) rfl #[] (by rfl) rfl rfl (by (try simp only [List.map_toArray, List.map_cons, List.map_nil]); first | done | rfl) ?_
    (with_reducible refine (values.calls _).mono ?_)
    rintro e w5 ⟨bm, b7, bf, rfl, hbm, hkn, hb⟩
    refine ⟨_, rfl, ?_⟩
    have HBM := Aside0.mk (Nat.le_trans HB.out.size hbm)
    have KN := Aside0.mk hkn
    clear hbm hkn
    have n0_ := Aside0.mk (blk_below (g := gbx) (o := .cells #[.slice A0 C.length c0, .slice A1 L.length c1] 27 (0, 0)) BX.out hb)
    have n1_ := Aside0.mk (below_step HB.out hb)
    clear BX HB
    have BX := n0_
    have HB := n1_
    clear n0_ n1_
    clear hb
    refine hK.out _ _ ⟨(blk_cell BX.out 0).trans rfl, (blk_cell BX.out 1).trans rfl⟩ (fun hHeld => ?_)
    clear hK K
    refine norm_ (a' := ?_) ?_ ?_
    rotate_left
    · show Act.put _ (some 7) _ = _
      simp only [putAll, Act.put, List.setIfInBounds_toArray, List.set_cons_zero, List.set_cons_succ, i64_w, i32_w]
      rfl
    refine one_ (i := 2) (N := some 9) #[true, true, true, false, false] rfl rfl (by kernel_rfl) (by decide) (fun K hK => ?_)
    refine goesVd_ (some 9) rfl (by rfl) 104 #[.pointer (some ⟨b7, 0, none⟩), .pointer (some ⟨bf, 0, none⟩)] find_has #[.agg #[.slice A0 C.length c0, .slice A1 L.length c1]] rfl rfl (by (try simp only [List.map_toArray, List.map_cons, List.map_nil]); first | done | rfl) ?_
    refine (find_ok 8 (Nat.le_refl _) bm b7 bf C L _ _ 0 _ HO.out.1 HO.out.2.1 HO.out.2.2 (RdE.came HR0.out HC0.out HB.out HBM.out) (RdE.came HR1.out HC1.out HB.out HBM.out) KN.out cost8).mono ?_
    rintro e w6 ⟨rfl, hkn2, hg⟩
    refine ⟨_, rfl, ?_⟩
    have n0_ := Aside0.mk (blk_grown (g := gbx) (o := .cells #[.slice A0 C.length c0, .slice A1 L.length c1] 27 (0, 0)) BX.out hg (Known.ne KN.out BX.out))
    have n1_ := Aside0.mk (Below.grown HB.out hg HB.out.size (fun k hk => by cases hk; exact HBM.out))
    clear BX HB
    have BX := n0_
    have HB := n1_
    clear n0_ n1_
    clear hg hkn2
    refine hK.out _ _ ⟨(blk_cell BX.out 0).trans rfl, (blk_cell BX.out 1).trans rfl⟩ (fun hHeld => ?_)
    clear hK K
    refine norm_ (a' := ?_) ?_ ?_
    rotate_left
    · show Act.put _ (some 9) _ = _
      simp only [putAll, Act.put, List.setIfInBounds_toArray, List.set_cons_zero, List.set_cons_succ, i64_w, i32_w]
      rfl
    refine pure_ (i := 3) (N := some 2) (v := ?_) (a' := ?_) #[true, true, true, true, false] rfl rfl (by kernel_rfl) (fun _ _ _ h => h) (Or.inl ⟨by rfl, ?_⟩) ?_ ?_
    rotate_left
    · intro w'
      go_simp
      with_reducible rfl
    rotate_left
    · simp only [putAll, Act.put, List.setIfInBounds_toArray, List.set_cons_zero, List.set_cons_succ, i64_w, i32_w]
      rfl
    refine pure_ (i := 4) (N := some 3) (v := ?_) (a' := ?_) #[true, true, true, true, true] rfl rfl (by kernel_rfl) (fun _ _ _ h => h) (Or.inl ⟨by rfl, ?_⟩) ?_ ?_
    rotate_left
    · intro w'
      go_simp
      with_reducible rfl
    rotate_left
    · simp only [putAll, Act.put, List.setIfInBounds_toArray, List.set_cons_zero, List.set_cons_succ, i64_w, i32_w]
      rfl
    refine done_ (by kernel_rfl) ?_
    try go_wp2
    go_ret2
    exact ⟨rfl, HB.out⟩

end Go.Proofs.Ytkbjoiebaphdoaa.PX

/- The walk of the program's BestAnswer (conditions: the slices read as the lists; they fit in memory). -/
namespace Go.Proofs.Ytkbjoiebaphdoaa.PX
open Go.RowKit Go.Proofs.YtkbjoiebaphdoaaW.PrintWords Go.Proofs.YtkbjoiebaphdoaaW.PrintLast Go.Proofs.YtkbjoiebaphdoaaW.PrintMore
attribute [local go_sem] max2_int min2_int max_two min_two max_three min_three max_four min_four
set_option linter.unusedVariables false
set_option linter.unusedSimpArgs false
def ansVal (C L : List Int) (o : Bool × Int) : Bool × Int := if isEnd C L = true then (if isIn C L o = true then ((worth C L o).2, 0) else (false, 5)) else (false, 1)
def impl_BestAnswer.f (_k : Nat) (C L : List Int) (ol : Bool) (ob : Int) : Option (Bool × Int) := if C.length ≤ 1048576 ∧ L.length ≤ 1048576 ∧ C.length + L.length ≤ 1048576 then some (ansVal C L (ol, ob)) else none
theorem impl_BestAnswer.mono : ∀ a0 a1 a2 a3 k, LeO (impl_BestAnswer.f k a0 a1 a2 a3) (impl_BestAnswer.f (k + 1) a0 a1 a2 a3) := fun _ _ _ _ _ => LeO.refl _
set_option maxHeartbeats 16000000 in
set_option maxRecDepth 100000 in
theorem impl_BestAnswer.calls (k : Nat) (A0 : Option Addr) (c0 : Nat) (C : List Int) (A1 : Option Addr) (c1 : Nat) (L : List Int) (ol : Bool) (ob : Int) (r1 : Bool) (r2 : Int) (w : World) (hr0 : Kd.C (Kd.int .i64) w A0 C.length C) (hc0 : C.length ≤ c0) (hr1 : Kd.C (Kd.int .i64) w A1 L.length L) (hc1 : L.length ≤ c1) (h : impl_BestAnswer.f k C L ol ob = some (r1, r2)) :
    Calls Try.prog 35 #[.agg #[.slice A0 C.length c0, .slice A1 L.length c1], .bool ol, .int .i64 ob] w fun e w' => e = .returned (.tuple #[.bool r1, .int .i64 r2]) ∧ Below w.heap.size w w' := by
  have hu27 := Try.underlying27
  have hu75 := Try.underlying75
  have HR0 := Aside0.mk hr0
  have HC0 := Aside0.mk hc0
  have HR1 := Aside0.mk hr1
  have HC1 := Aside0.mk hc1
  have HB := Aside0.mk (Below.refl w.heap.size w)
  clear hr0 hc0 hr1 hc1
  unfold impl_BestAnswer.f at h
  split at h
  rotate_left
  · cases h
  rename_i hsz
  obtain ⟨kc, hkc⟩ := Ev.rounds (code_ev C L (ol, ob) hsz.1 hsz.2.1)
  have HCO := Aside0.mk hkc
  clear hsz hkc
  unfold ansVal at h
  unfold codeOf at HCO
  cases hE : isEnd C L with
  | false =>
    rw [hE] at h HCO
    rw [if_neg Bool.false_ne_true] at h HCO
    simp only [Option.some.injEq, Prod.mk.injEq] at h
    obtain ⟨rfl, rfl⟩ := h
    clear hE
    go_enter Try.func35, Try.ntmps35
    go_wp2_with (first | ((with_reducible refine gate_dst (N := 3) rfl ?_); (try (refine gate_guard (by rfl) ?_; dsimp only)); refine box_event ?hg (N := 3) ?hd (cs := #[.slice A0 C.length c0, .slice A1 L.length c1]) (t := 27) ?hr ?_; (case hd => rfl); (case hg => rfl); (case hr => first | (go_simp; done) | (go_simp; rfl)); intro gbx hg w2 hbox hb; have BX := Aside0.mk hbox; clear hg hbox; have n0_ := Aside0.mk (below_step HB.out hb); clear HB; have HB := n0_; clear n0_; clear hb; (try clear hz_gbx_0); have hz_gbx_0 : w2.cell? ⟨gbx, 0, none⟩ = some (.slice A0 C.length c0) := (blk_cell BX.out 0).trans rfl; (try clear hf_gbx_0); have hf_gbx_0 := blk_frozen BX.out 0; (try clear hz_gbx_1); have hz_gbx_1 : w2.cell? ⟨gbx, 1, none⟩ = some (.slice A1 L.length c1) := (blk_cell BX.out 1).trans rfl; (try clear hf_gbx_1); have hf_gbx_1 := blk_frozen BX.out 1) | ((with_reducible refine gate_dst (N := 8) rfl ?_); (try (refine gate_guard (by rfl) ?_; dsimp only)); refine box_event ?hg (N := 8) ?hd (cs := #[.bool false, .int .i64 0]) (t := 75) ?hr ?_; (case hd => rfl); (case hg => rfl); (case hr => first | (go_simp; done) | (go_simp; rfl)); intro gbo hg w3 hbox hb; have HBB := Aside0.mk hb; have HGO := Aside0.mk hg; have BX2 := Aside0.mk (blk_below (g := gbx) (o := .cells #[.slice A0 C.length c0, .slice A1 L.length c1] 27 (0, 0)) BX.out hb); have BO2 := Aside0.mk hbox; have ne1 : gbx ≠ gbo := (by rw [hg]; exact Nat.ne_of_lt (blk_lt BX.out)); have ne2 : gbo ≠ gbx := Ne.symm ne1; clear hb hg hbox; (try clear hz_gbx_0); have hz_gbx_0 : w3.cell? ⟨gbx, 0, none⟩ = some (.slice A0 C.length c0) := (blk_cell BX2.out 0).trans rfl; (try clear hf_gbx_0); have hf_gbx_0 := blk_frozen BX2.out 0; (try clear hz_gbx_1); have hz_gbx_1 : w3.cell? ⟨gbx, 1, none⟩ = some (.slice A1 L.length c1) := (blk_cell BX2.out 1).trans rfl; (try clear hf_gbx_1); have hf_gbx_1 := blk_frozen BX2.out 1; (try clear hz_gbo_0); have hz_gbo_0 : w3.cell? ⟨gbo, 0, none⟩ = some (.bool false) := (blk_cell BO2.out 0).trans rfl; (try clear hf_gbo_0); have hf_gbo_0 := blk_frozen BO2.out 0; (try clear hz_gbo_1); have hz_gbo_1 : w3.cell? ⟨gbo, 1, none⟩ = some (.int .i64 0) := (blk_cell BO2.out 1).trans rfl; (try clear hf_gbo_1); have hf_gbo_1 := blk_frozen BO2.out 1) | ((with_reducible refine gate_dst (N := 17) rfl ?_); (try (refine gate_guard (by rfl) ?_; dsimp only)); refine goesL_ (some 17) rfl rfl Try.func73 (by kernel_rfl) rfl #[.agg #[.slice A0 C.length c0, .slice A1 L.length c1], .agg #[.bool ol, .int .i64 ob]] rfl (by (try simp only [List.map_toArray, List.map_cons, List.map_nil]); first | done | rfl) ?_; have hBs : Below w.heap.size w ((w3.setCell ⟨gbo, 0, none⟩ (.bool ol)).setCell ⟨gbo, 1, none⟩ (.int .i64 ob)) := below_set (below_set (below_step HB.out HBB.out) (by rw [HGO.out]; exact HB.out.size)) (by rw [HGO.out]; exact HB.out.size); have hXs := blk_far (p := ⟨gbo, 1, none⟩) (blk_far (p := ⟨gbo, 0, none⟩) BX2.out ne1 (.bool ol)) ne1 (.int .i64 ob); have hOs := blk_put (cs := #[.bool ol, .int .i64 0]) (blk_put (cs := #[.bool false, .int .i64 0]) BO2.out 0 (.bool ol) rfl) 1 (.int .i64 ob) rfl; (with_reducible refine (impl_openingCode.calls kc A0 c0 C A1 c1 L ol ob 1 _ ?side1 HC0.out ?side2 HC1.out HCO.out).mono ?_); (case side1 => exact Kd.C_below HR0.out hBs); (case side2 => exact Kd.C_below HR1.out hBs); rintro e w4 ⟨rfl, hb⟩; refine ⟨_, rfl, ?_⟩; have n0_ := Aside0.mk (blk_below (g := gbx) (o := .cells #[.slice A0 C.length c0, .slice A1 L.length c1] 27 (0, 0)) hXs hb); have n1_ := Aside0.mk (blk_below (g := gbo) (o := .cells #[.bool ol, .int .i64 ob] 75 (0, 0)) hOs hb); have n2_ := Aside0.mk (below_step hBs hb); clear BX BX2 BO2 HB HBB HGO hBs hXs hOs hb; have BX := n0_; have BO := n1_; have HB := n2_; clear n0_ n1_ n2_; (try clear hz_gbx_0 hz_gbx_1 hf_gbx_0 hf_gbx_1 hz_gbo_0 hz_gbo_1 hf_gbo_0 hf_gbo_1); (try clear hz_gbx_0); have hz_gbx_0 : w4.cell? ⟨gbx, 0, none⟩ = some (.slice A0 C.length c0) := (blk_cell BX.out 0).trans rfl; (try clear hf_gbx_0); have hf_gbx_0 := blk_frozen BX.out 0; (try clear hz_gbx_1); have hz_gbx_1 : w4.cell? ⟨gbx, 1, none⟩ = some (.slice A1 L.length c1) := (blk_cell BX.out 1).trans rfl; (try clear hf_gbx_1); have hf_gbx_1 := blk_frozen BX.out 1; (try clear hz_gbo_0); have hz_gbo_0 : w4.cell? ⟨gbo, 0, none⟩ = some (.bool ol) := (blk_cell BO.out 0).trans rfl; (try clear hf_gbo_0); have hf_gbo_0 := blk_frozen BO.out 0; (try clear hz_gbo_1); have hz_gbo_1 : w4.cell? ⟨gbo, 1, none⟩ = some (.int .i64 ob) := (blk_cell BO.out 1).trans rfl; (try clear hf_gbo_1); have hf_gbo_1 := blk_frozen BO.out 1))
    go_ret2
    exact ⟨rfl, HB.out⟩
  | true =>
    have HO := Aside0.mk (isEnd_ok hE)
    rw [hE] at h HCO
    rw [if_pos rfl] at h HCO
    clear hE
    cases hI : isIn C L (ol, ob) with
    | false =>
      rw [hI] at h HCO
      rw [if_neg Bool.false_ne_true] at h HCO
      simp only [Option.some.injEq, Prod.mk.injEq] at h
      obtain ⟨rfl, rfl⟩ := h
      clear hI
      go_enter Try.func35, Try.ntmps35
      go_wp2_with (first | ((with_reducible refine gate_dst (N := 3) rfl ?_); (try (refine gate_guard (by rfl) ?_; dsimp only)); refine box_event ?hg (N := 3) ?hd (cs := #[.slice A0 C.length c0, .slice A1 L.length c1]) (t := 27) ?hr ?_; (case hd => rfl); (case hg => rfl); (case hr => first | (go_simp; done) | (go_simp; rfl)); intro gbx hg w2 hbox hb; have BX := Aside0.mk hbox; clear hg hbox; have n0_ := Aside0.mk (below_step HB.out hb); clear HB; have HB := n0_; clear n0_; clear hb; (try clear hz_gbx_0); have hz_gbx_0 : w2.cell? ⟨gbx, 0, none⟩ = some (.slice A0 C.length c0) := (blk_cell BX.out 0).trans rfl; (try clear hf_gbx_0); have hf_gbx_0 := blk_frozen BX.out 0; (try clear hz_gbx_1); have hz_gbx_1 : w2.cell? ⟨gbx, 1, none⟩ = some (.slice A1 L.length c1) := (blk_cell BX.out 1).trans rfl; (try clear hf_gbx_1); have hf_gbx_1 := blk_frozen BX.out 1) | ((with_reducible refine gate_dst (N := 8) rfl ?_); (try (refine gate_guard (by rfl) ?_; dsimp only)); refine box_event ?hg (N := 8) ?hd (cs := #[.bool false, .int .i64 0]) (t := 75) ?hr ?_; (case hd => rfl); (case hg => rfl); (case hr => first | (go_simp; done) | (go_simp; rfl)); intro gbo hg w3 hbox hb; have HBB := Aside0.mk hb; have HGO := Aside0.mk hg; have BX2 := Aside0.mk (blk_below (g := gbx) (o := .cells #[.slice A0 C.length c0, .slice A1 L.length c1] 27 (0, 0)) BX.out hb); have BO2 := Aside0.mk hbox; have ne1 : gbx ≠ gbo := (by rw [hg]; exact Nat.ne_of_lt (blk_lt BX.out)); have ne2 : gbo ≠ gbx := Ne.symm ne1; clear hb hg hbox; (try clear hz_gbx_0); have hz_gbx_0 : w3.cell? ⟨gbx, 0, none⟩ = some (.slice A0 C.length c0) := (blk_cell BX2.out 0).trans rfl; (try clear hf_gbx_0); have hf_gbx_0 := blk_frozen BX2.out 0; (try clear hz_gbx_1); have hz_gbx_1 : w3.cell? ⟨gbx, 1, none⟩ = some (.slice A1 L.length c1) := (blk_cell BX2.out 1).trans rfl; (try clear hf_gbx_1); have hf_gbx_1 := blk_frozen BX2.out 1; (try clear hz_gbo_0); have hz_gbo_0 : w3.cell? ⟨gbo, 0, none⟩ = some (.bool false) := (blk_cell BO2.out 0).trans rfl; (try clear hf_gbo_0); have hf_gbo_0 := blk_frozen BO2.out 0; (try clear hz_gbo_1); have hz_gbo_1 : w3.cell? ⟨gbo, 1, none⟩ = some (.int .i64 0) := (blk_cell BO2.out 1).trans rfl; (try clear hf_gbo_1); have hf_gbo_1 := blk_frozen BO2.out 1) | ((with_reducible refine gate_dst (N := 17) rfl ?_); (try (refine gate_guard (by rfl) ?_; dsimp only)); refine goesL_ (some 17) rfl rfl Try.func73 (by kernel_rfl) rfl #[.agg #[.slice A0 C.length c0, .slice A1 L.length c1], .agg #[.bool ol, .int .i64 ob]] rfl (by (try simp only [List.map_toArray, List.map_cons, List.map_nil]); first | done | rfl) ?_; have hBs : Below w.heap.size w ((w3.setCell ⟨gbo, 0, none⟩ (.bool ol)).setCell ⟨gbo, 1, none⟩ (.int .i64 ob)) := below_set (below_set (below_step HB.out HBB.out) (by rw [HGO.out]; exact HB.out.size)) (by rw [HGO.out]; exact HB.out.size); have hXs := blk_far (p := ⟨gbo, 1, none⟩) (blk_far (p := ⟨gbo, 0, none⟩) BX2.out ne1 (.bool ol)) ne1 (.int .i64 ob); have hOs := blk_put (cs := #[.bool ol, .int .i64 0]) (blk_put (cs := #[.bool false, .int .i64 0]) BO2.out 0 (.bool ol) rfl) 1 (.int .i64 ob) rfl; (with_reducible refine (impl_openingCode.calls kc A0 c0 C A1 c1 L ol ob 5 _ ?side1 HC0.out ?side2 HC1.out HCO.out).mono ?_); (case side1 => exact Kd.C_below HR0.out hBs); (case side2 => exact Kd.C_below HR1.out hBs); rintro e w4 ⟨rfl, hb⟩; refine ⟨_, rfl, ?_⟩; have n0_ := Aside0.mk (blk_below (g := gbx) (o := .cells #[.slice A0 C.length c0, .slice A1 L.length c1] 27 (0, 0)) hXs hb); have n1_ := Aside0.mk (blk_below (g := gbo) (o := .cells #[.bool ol, .int .i64 ob] 75 (0, 0)) hOs hb); have n2_ := Aside0.mk (below_step hBs hb); clear BX BX2 BO2 HB HBB HGO hBs hXs hOs hb; have BX := n0_; have BO := n1_; have HB := n2_; clear n0_ n1_ n2_; (try clear hz_gbx_0 hz_gbx_1 hf_gbx_0 hf_gbx_1 hz_gbo_0 hz_gbo_1 hf_gbo_0 hf_gbo_1); (try clear hz_gbx_0); have hz_gbx_0 : w4.cell? ⟨gbx, 0, none⟩ = some (.slice A0 C.length c0) := (blk_cell BX.out 0).trans rfl; (try clear hf_gbx_0); have hf_gbx_0 := blk_frozen BX.out 0; (try clear hz_gbx_1); have hz_gbx_1 : w4.cell? ⟨gbx, 1, none⟩ = some (.slice A1 L.length c1) := (blk_cell BX.out 1).trans rfl; (try clear hf_gbx_1); have hf_gbx_1 := blk_frozen BX.out 1; (try clear hz_gbo_0); have hz_gbo_0 : w4.cell? ⟨gbo, 0, none⟩ = some (.bool ol) := (blk_cell BO.out 0).trans rfl; (try clear hf_gbo_0); have hf_gbo_0 := blk_frozen BO.out 0; (try clear hz_gbo_1); have hz_gbo_1 : w4.cell? ⟨gbo, 1, none⟩ = some (.int .i64 ob) := (blk_cell BO.out 1).trans rfl; (try clear hf_gbo_1); have hf_gbo_1 := blk_frozen BO.out 1))
      go_ret2
      exact ⟨rfl, HB.out⟩
    | true =>
      have HIN := Aside0.mk (isIn_opens.1 hI)
      rw [hI] at h HCO
      rw [if_pos rfl] at h HCO
      simp only [Option.some.injEq, Prod.mk.injEq] at h
      obtain ⟨rfl, rfl⟩ := h
      clear hI
      go_enter Try.func35, Try.ntmps35
      go_wp2_with (first | ((with_reducible refine gate_dst (N := 3) rfl ?_); (try (refine gate_guard (by rfl) ?_; dsimp only)); refine box_event ?hg (N := 3) ?hd (cs := #[.slice A0 C.length c0, .slice A1 L.length c1]) (t := 27) ?hr ?_; (case hd => rfl); (case hg => rfl); (case hr => first | (go_simp; done) | (go_simp; rfl)); intro gbx hg w2 hbox hb; have BX := Aside0.mk hbox; clear hg hbox; have n0_ := Aside0.mk (below_step HB.out hb); clear HB; have HB := n0_; clear n0_; clear hb; (try clear hz_gbx_0); have hz_gbx_0 : w2.cell? ⟨gbx, 0, none⟩ = some (.slice A0 C.length c0) := (blk_cell BX.out 0).trans rfl; (try clear hf_gbx_0); have hf_gbx_0 := blk_frozen BX.out 0; (try clear hz_gbx_1); have hz_gbx_1 : w2.cell? ⟨gbx, 1, none⟩ = some (.slice A1 L.length c1) := (blk_cell BX.out 1).trans rfl; (try clear hf_gbx_1); have hf_gbx_1 := blk_frozen BX.out 1) | ((with_reducible refine gate_dst (N := 8) rfl ?_); (try (refine gate_guard (by rfl) ?_; dsimp only)); refine box_event ?hg (N := 8) ?hd (cs := #[.bool false, .int .i64 0]) (t := 75) ?hr ?_; (case hd => rfl); (case hg => rfl); (case hr => first | (go_simp; done) | (go_simp; rfl)); intro gbo hg w3 hbox hb; have HBB := Aside0.mk hb; have HGO := Aside0.mk hg; have BX2 := Aside0.mk (blk_below (g := gbx) (o := .cells #[.slice A0 C.length c0, .slice A1 L.length c1] 27 (0, 0)) BX.out hb); have BO2 := Aside0.mk hbox; have ne1 : gbx ≠ gbo := (by rw [hg]; exact Nat.ne_of_lt (blk_lt BX.out)); have ne2 : gbo ≠ gbx := Ne.symm ne1; clear hb hg hbox; (try clear hz_gbx_0); have hz_gbx_0 : w3.cell? ⟨gbx, 0, none⟩ = some (.slice A0 C.length c0) := (blk_cell BX2.out 0).trans rfl; (try clear hf_gbx_0); have hf_gbx_0 := blk_frozen BX2.out 0; (try clear hz_gbx_1); have hz_gbx_1 : w3.cell? ⟨gbx, 1, none⟩ = some (.slice A1 L.length c1) := (blk_cell BX2.out 1).trans rfl; (try clear hf_gbx_1); have hf_gbx_1 := blk_frozen BX2.out 1; (try clear hz_gbo_0); have hz_gbo_0 : w3.cell? ⟨gbo, 0, none⟩ = some (.bool false) := (blk_cell BO2.out 0).trans rfl; (try clear hf_gbo_0); have hf_gbo_0 := blk_frozen BO2.out 0; (try clear hz_gbo_1); have hz_gbo_1 : w3.cell? ⟨gbo, 1, none⟩ = some (.int .i64 0) := (blk_cell BO2.out 1).trans rfl; (try clear hf_gbo_1); have hf_gbo_1 := blk_frozen BO2.out 1) | ((with_reducible refine gate_dst (N := 17) rfl ?_); (try (refine gate_guard (by rfl) ?_; dsimp only)); refine goesL_ (some 17) rfl rfl Try.func73 (by kernel_rfl) rfl #[.agg #[.slice A0 C.length c0, .slice A1 L.length c1], .agg #[.bool ol, .int .i64 ob]] rfl (by (try simp only [List.map_toArray, List.map_cons, List.map_nil]); first | done | rfl) ?_; have hBs : Below w.heap.size w ((w3.setCell ⟨gbo, 0, none⟩ (.bool ol)).setCell ⟨gbo, 1, none⟩ (.int .i64 ob)) := below_set (below_set (below_step HB.out HBB.out) (by rw [HGO.out]; exact HB.out.size)) (by rw [HGO.out]; exact HB.out.size); have hXs := blk_far (p := ⟨gbo, 1, none⟩) (blk_far (p := ⟨gbo, 0, none⟩) BX2.out ne1 (.bool ol)) ne1 (.int .i64 ob); have hOs := blk_put (cs := #[.bool ol, .int .i64 0]) (blk_put (cs := #[.bool false, .int .i64 0]) BO2.out 0 (.bool ol) rfl) 1 (.int .i64 ob) rfl; (with_reducible refine (impl_openingCode.calls kc A0 c0 C A1 c1 L ol ob 0 _ ?side1 HC0.out ?side2 HC1.out HCO.out).mono ?_); (case side1 => exact Kd.C_below HR0.out hBs); (case side2 => exact Kd.C_below HR1.out hBs); rintro e w4 ⟨rfl, hb⟩; refine ⟨_, rfl, ?_⟩; have n0_ := Aside0.mk (blk_below (g := gbx) (o := .cells #[.slice A0 C.length c0, .slice A1 L.length c1] 27 (0, 0)) hXs hb); have n1_ := Aside0.mk (blk_below (g := gbo) (o := .cells #[.bool ol, .int .i64 ob] 75 (0, 0)) hOs hb); have n2_ := Aside0.mk (below_step hBs hb); clear BX BX2 BO2 HB HBB HGO hBs hXs hOs hb; have BX := n0_; have BO := n1_; have HB := n2_; clear n0_ n1_ n2_; (try clear hz_gbx_0 hz_gbx_1 hf_gbx_0 hf_gbx_1 hz_gbo_0 hz_gbo_1 hf_gbo_0 hf_gbo_1); (try clear hz_gbx_0); have hz_gbx_0 : w4.cell? ⟨gbx, 0, none⟩ = some (.slice A0 C.length c0) := (blk_cell BX.out 0).trans rfl; (try clear hf_gbx_0); have hf_gbx_0 := blk_frozen BX.out 0; (try clear hz_gbx_1); have hz_gbx_1 : w4.cell? ⟨gbx, 1, none⟩ = some (.slice A1 L.length c1) := (blk_cell BX.out 1).trans rfl; (try clear hf_gbx_1); have hf_gbx_1 := blk_frozen BX.out 1; (try clear hz_gbo_0); have hz_gbo_0 : w4.cell? ⟨gbo, 0, none⟩ = some (.bool ol) := (blk_cell BO.out 0).trans rfl; (try clear hf_gbo_0); have hf_gbo_0 := blk_frozen BO.out 0; (try clear hz_gbo_1); have hz_gbo_1 : w4.cell? ⟨gbo, 1, none⟩ = some (.int .i64 ob) := (blk_cell BO.out 1).trans rfl; (try clear hf_gbo_1); have hf_gbo_1 := blk_frozen BO.out 1))
      refine start_ (n := 9) (S := fun w' => w'.cell? ⟨gbx, 0, none⟩ = some (.slice A0 C.length c0) ∧ w'.cell? ⟨gbx, 1, none⟩ = some (.slice A1 L.length c1) ∧ w'.cell? ⟨gbo, 0, none⟩ = some (.bool ol) ∧ w'.cell? ⟨gbo, 1, none⟩ = some (.int .i64 ob)) (ds := []) #[false, false, false, false, false, false, false, false, false] (by kernel_rfl) rfl rfl ⟨(blk_cell BX.out 0).trans rfl, (blk_cell BX.out 1).trans rfl, (blk_cell BO.out 0).trans rfl, (blk_cell BO.out 1).trans rfl⟩ (fun hHeld => ?_)
      have n0_ := Aside0.mk (blk_drew BX.out)
      have n1_ := Aside0.mk (blk_drew BO.out)
      have n2_ := Aside0.mk (below_drew1 HB.out)
      clear BX BO HB
      have BX := n0_
      have BO := n1_
      have HB := n2_
      clear n0_ n1_ n2_
      generalize w4.drew = w5 at BX BO HB hHeld ⊢
      refine take_ (i := 0) (N := some 22) (v := ?_) (a' := ?_) #[true, false, false, false, false, false, false, false, false] rfl rfl (by kernel_rfl) (fun _ _ _ h => h) (Or.inl ⟨by rfl, ?_⟩) hHeld ?_ ?_
      rotate_left
      · rintro w' ⟨s0_, s1_, s2_, s3_⟩
        go_simp
        with_reducible rfl
      rotate_left
      · simp only [putAll, Act.put, List.setIfInBounds_toArray, List.set_cons_zero, List.set_cons_succ, i64_w, i32_w]
        rfl
      refine take_ (i := 1) (N := some 23) (v := ?_) (a' := ?_) #[true, true, false, false, false, false, false, false, false] rfl rfl (by kernel_rfl) (fun _ _ _ h => h) (Or.inl ⟨by rfl, ?_⟩) hHeld ?_ ?_
      rotate_left
      · rintro w' ⟨s0_, s1_, s2_, s3_⟩
        go_simp
        with_reducible rfl
      rotate_left
      · simp only [putAll, Act.put, List.setIfInBounds_toArray, List.set_cons_zero, List.set_cons_succ, i64_w, i32_w]
        rfl
      refine one_ (i := 2) (N := some 24) #[true, true, true, false, false, false, false, false, false] rfl rfl (by kernel_rfl) (by decide) (fun K hK => ?_)
      refine goes_ Try.func76 (by kernel_rfl) rfl #[] (by rfl) rfl rfl (by (try simp only [List.map_toArray, List.map_cons, List.map_nil]); first | done | rfl) ?_
      (with_reducible refine (values.calls _).mono ?_)
      rintro e w6 ⟨bm, b7, bf, rfl, hbm, hkn, hb⟩
      refine ⟨_, rfl, ?_⟩
      have HBM := Aside0.mk (Nat.le_trans HB.out.size hbm)
      have KN := Aside0.mk hkn
      clear hbm hkn
      have n0_ := Aside0.mk (blk_below (g := gbx) (o := .cells #[.slice A0 C.length c0, .slice A1 L.length c1] 27 (0, 0)) BX.out hb)
      have n1_ := Aside0.mk (blk_below (g := gbo) (o := .cells #[.bool ol, .int .i64 ob] 75 (0, 0)) BO.out hb)
      have n2_ := Aside0.mk (below_step HB.out hb)
      clear BX BO HB
      have BX := n0_
      have BO := n1_
      have HB := n2_
      clear n0_ n1_ n2_
      clear hb
      refine hK.out _ _ ⟨(blk_cell BX.out 0).trans rfl, (blk_cell BX.out 1).trans rfl, (blk_cell BO.out 0).trans rfl, (blk_cell BO.out 1).trans rfl⟩ (fun hHeld => ?_)
      clear hK K
      refine norm_ (a' := ?_) ?_ ?_
      rotate_left
      · show Act.put _ (some 24) _ = _
        simp only [putAll, Act.put, List.setIfInBounds_toArray, List.set_cons_zero, List.set_cons_succ, i64_w, i32_w]
        rfl
      refine one_ (i := 3) (N := some 25) #[true, true, true, true, false, false, false, false, false] rfl rfl (by kernel_rfl) (by decide) (fun K hK => ?_)
      refine goes_ Try.func82 (by kernel_rfl) rfl #[.agg #[.slice A0 C.length c0, .slice A1 L.length c1], .agg #[.bool ol, .int .i64 ob], .func (.func 104) #[] #[.pointer (some ⟨b7, 0, none⟩), .pointer (some ⟨bf, 0, none⟩)]] (by rfl) rfl rfl (by (try simp only [List.map_toArray, List.map_cons, List.map_nil]); first | done | rfl) ?_
      (with_reducible refine (answered.calls 8 (find_ok 8 (Nat.le_refl _)) bm b7 bf C L (ol, ob) _ _ 0 _ HO.out.1 HO.out.2.1 HIN.out (Nat.le_trans HO.out.2.2 (by omega)) HO.out.2.2 (RdE.came HR0.out HC0.out HB.out HBM.out) (RdE.came HR1.out HC1.out HB.out HBM.out) KN.out cost8).mono ?_)
      rintro e w7 ⟨rfl, hkn2, hg⟩
      refine ⟨_, rfl, ?_⟩
      have n0_ := Aside0.mk (blk_grown (g := gbx) (o := .cells #[.slice A0 C.length c0, .slice A1 L.length c1] 27 (0, 0)) BX.out hg (Known.ne KN.out BX.out))
      have n1_ := Aside0.mk (blk_grown (g := gbo) (o := .cells #[.bool ol, .int .i64 ob] 75 (0, 0)) BO.out hg (Known.ne KN.out BO.out))
      have n2_ := Aside0.mk (Below.grown HB.out hg HB.out.size (fun k hk => by cases hk; exact HBM.out))
      clear BX BO HB
      have BX := n0_
      have BO := n1_
      have HB := n2_
      clear n0_ n1_ n2_
      clear hg hkn2
      refine hK.out _ _ ⟨(blk_cell BX.out 0).trans rfl, (blk_cell BX.out 1).trans rfl, (blk_cell BO.out 0).trans rfl, (blk_cell BO.out 1).trans rfl⟩ (fun hHeld => ?_)
      clear hK K
      refine norm_ (a' := ?_) ?_ ?_
      rotate_left
      · show Act.put _ (some 25) _ = _
        simp only [putAll, Act.put, List.setIfInBounds_toArray, List.set_cons_zero, List.set_cons_succ, i64_w, i32_w]
        rfl
      refine pure_ (i := 4) (N := some 21) (v := ?_) (a' := ?_) #[true, true, true, true, true, false, false, false, false] rfl rfl (by kernel_rfl) (fun _ _ _ h => h) (Or.inl ⟨by rfl, ?_⟩) ?_ ?_
      rotate_left
      · intro w'
        go_simp
        with_reducible rfl
      rotate_left
      · simp only [putAll, Act.put, List.setIfInBounds_toArray, List.set_cons_zero, List.set_cons_succ, i64_w, i32_w]
        rfl
      refine pure_ (i := 5) (N := some 26) (v := ?_) (a' := ?_) #[true, true, true, true, true, true, false, false, false] rfl rfl (by kernel_rfl) (fun _ _ _ h => h) (Or.inl ⟨by rfl, ?_⟩) ?_ ?_
      rotate_left
      · intro w'
        go_simp
        with_reducible rfl
      rotate_left
      · simp only [putAll, Act.put, List.setIfInBounds_toArray, List.set_cons_zero, List.set_cons_succ, i64_w, i32_w]
        rfl
      refine pure_ (i := 6) (N := some 27) (v := ?_) (a' := ?_) #[true, true, true, true, true, true, true, false, false] rfl rfl (by kernel_rfl) (fun _ _ _ h => h) (Or.inl ⟨by rfl, ?_⟩) ?_ ?_
      rotate_left
      · intro w'
        go_simp
        with_reducible rfl
      rotate_left
      · simp only [putAll, Act.put, List.setIfInBounds_toArray, List.set_cons_zero, List.set_cons_succ, i64_w, i32_w]
        rfl
      refine pure_ (i := 7) (N := some 10) (v := ?_) (a' := ?_) #[true, true, true, true, true, true, true, true, false] rfl rfl (by kernel_rfl) (fun _ _ _ h => h) (Or.inl ⟨by rfl, ?_⟩) ?_ ?_
      rotate_left
      · intro w'
        go_simp
        with_reducible rfl
      rotate_left
      · simp only [putAll, Act.put, List.setIfInBounds_toArray, List.set_cons_zero, List.set_cons_succ, i64_w, i32_w]
        rfl
      refine pure_ (i := 8) (N := some 11) (v := ?_) (a' := ?_) #[true, true, true, true, true, true, true, true, true] rfl rfl (by kernel_rfl) (fun _ _ _ h => h) (Or.inl ⟨by rfl, ?_⟩) ?_ ?_
      rotate_left
      · intro w'
        go_simp
        with_reducible rfl
      rotate_left
      · simp only [putAll, Act.put, List.setIfInBounds_toArray, List.set_cons_zero, List.set_cons_succ, i64_w, i32_w]
        rfl
      refine done_ (by kernel_rfl) ?_
      try go_wp2
      go_ret2
      exact ⟨rfl, HB.out⟩

end Go.Proofs.Ytkbjoiebaphdoaa.PX

namespace Go.Proofs.Ytkbjoiebaphdoaa.PX
open Go.RowKit Go.Proofs.YtkbjoiebaphdoaaW.PrintWords Go.Proofs.YtkbjoiebaphdoaaW.PrintLast Go.Proofs.YtkbjoiebaphdoaaW.PrintMore
attribute [local go_sem] max2_int min2_int max_two min_two max_three min_three max_four min_four   -- for this text's walks alone
set_option linter.unusedVariables false
set_option linter.unusedSimpArgs false

/-! ### laws_FnExactBestAnswer: function 10 -/
def laws_FnExactBestAnswer.j0 : Nat → Bool → List Int → List Int → List Int → List Int → Option (Bool)
  | 0, _, _, _, _, _ => none
  | k + 1, x42, x383000, x383001, x399000, x399001 => if x42 = true then (some false) else ((laws_toEnding.f k x383000 x383001).bind fun bt401 => ((laws_eqEnding.f k x399000 x399001 bt401.1 bt401.2).bind fun t407 => (if t407 = true then (some true) else (some false))))
def laws_FnExactBestAnswer.f (k : Nat) (l0_0 : List Int) (l0_1 : List Int) (a1 : Bool) (a2 : Int) : Option (Bool) := (laws_szEnding.f l0_0 l0_1 1048576).bind fun t383 => (if t383 < 0 then (some true) else ((laws_toEnding.f k l0_0 l0_1).bind fun bt384 => ((spec_BestAnswer.f k bt384.1 bt384.2 a1 a2).bind fun bt390 => ((laws_toEnding.f k l0_0 l0_1).bind fun bt392 => ((impl_BestAnswer.f k bt392.1 bt392.2 a1 a2).bind fun bt399 => (if (bt399.1 != bt390.1) = true then (laws_FnExactBestAnswer.j0 k true l0_0 l0_1 bt392.1 bt392.2) else (laws_FnExactBestAnswer.j0 k (bt399.2 != bt390.2) l0_0 l0_1 bt392.1 bt392.2)))))))
theorem laws_FnExactBestAnswer.mono_l : ∀ k, (∀ y0 y1 y2 y3 y4, LeO (laws_FnExactBestAnswer.j0 k y0 y1 y2 y3 y4) (laws_FnExactBestAnswer.j0 (k + 1) y0 y1 y2 y3 y4))
  | 0 => fun _ _ _ _ _ r h => by simp [laws_FnExactBestAnswer.j0] at h
  | k + 1 => by
    have ih0 := laws_FnExactBestAnswer.mono_l k
    · intro y0 y1 y2 y3 y4
      unfold laws_FnExactBestAnswer.j0
      repeat' first
      | (with_reducible exact ih0 _ _ _ _ _)
      | (with_reducible exact impl_BestAnswer.mono _ _ _ _ _)
      | (with_reducible exact laws_eqEnding.mono _ _ _ _ _)
      | (with_reducible exact laws_toEnding.mono _ _ _)
      | (with_reducible exact spec_BestAnswer.mono _ _ _ _ _)
      | (with_reducible exact LeO.refl _)
      | (with_reducible exact LeO.none _)
      | (with_reducible refine LeO.ite ?_ ?_)
      | (with_reducible refine LeO.bind ?_ (fun _ => ?_))
      | exact ih0 _ _ _ _ _
      | exact impl_BestAnswer.mono _ _ _ _ _
      | exact laws_eqEnding.mono _ _ _ _ _
      | exact laws_toEnding.mono _ _ _
      | exact spec_BestAnswer.mono _ _ _ _ _
      | exact LeO.none _
      | refine LeO.ite ?_ ?_
      | refine LeO.bind ?_ (fun _ => ?_)
theorem laws_FnExactBestAnswer.mono : ∀ a0 a1 a2 a3 k, LeO (laws_FnExactBestAnswer.f k a0 a1 a2 a3) (laws_FnExactBestAnswer.f (k + 1) a0 a1 a2 a3) := by
  intro a0 a1 a2 a3 k
  have ih0 := laws_FnExactBestAnswer.mono_l k
  unfold laws_FnExactBestAnswer.f
  repeat' first
      | (with_reducible exact ih0 _ _ _ _ _)
      | (with_reducible exact impl_BestAnswer.mono _ _ _ _ _)
      | (with_reducible exact laws_eqEnding.mono _ _ _ _ _)
      | (with_reducible exact laws_toEnding.mono _ _ _)
      | (with_reducible exact spec_BestAnswer.mono _ _ _ _ _)
      | (with_reducible exact LeO.refl _)
      | (with_reducible exact LeO.none _)
      | (with_reducible refine LeO.ite ?_ ?_)
      | (with_reducible refine LeO.bind ?_ (fun _ => ?_))
      | exact ih0 _ _ _ _ _
      | exact impl_BestAnswer.mono _ _ _ _ _
      | exact laws_eqEnding.mono _ _ _ _ _
      | exact laws_toEnding.mono _ _ _
      | exact spec_BestAnswer.mono _ _ _ _ _
      | exact LeO.none _
      | refine LeO.ite ?_ ?_
      | refine LeO.bind ?_ (fun _ => ?_)
set_option maxHeartbeats 8000000 in
set_option maxRecDepth 100000 in
theorem laws_FnExactBestAnswer.calls (k : Nat) (A0_0 : Option Addr) (c0_0 : Nat) (l0_0 : List Int) (A0_1 : Option Addr) (c0_1 : Nat) (l0_1 : List Int) (a1 : Bool) (a2 : Int) (r : Bool) (w : World) (hr0_0 : Kd.C (Kd.int .i64) w A0_0 l0_0.length l0_0) (hc0_0 : l0_0.length ≤ c0_0) (hr0_1 : Kd.C (Kd.int .i64) w A0_1 l0_1.length l0_1) (hc0_1 : l0_1.length ≤ c0_1) (h : laws_FnExactBestAnswer.f k l0_0 l0_1 a1 a2 = some r) :
    Calls Try.prog 10 #[.agg #[.slice A0_0 l0_0.length c0_0, .slice A0_1 l0_1.length c0_1], .bool a1, .int .i64 a2] w fun e w' => e = .returned (.bool r) ∧ Below w.heap.size w w' := by
  have hu24 := Try.underlying24
  have hu27 := Try.underlying27
  have HR0_0 := Aside0.mk hr0_0
  have HC0_0 := Aside0.mk hc0_0
  clear hr0_0 hc0_0
  have HR0_1 := Aside0.mk hr0_1
  have HC0_1 := Aside0.mk hc0_1
  clear hr0_1 hc0_1
  have HB := Aside0.mk (Below.refl w.heap.size w)
  have H : ((laws_szEnding.f l0_0 l0_1 1048576).bind fun t383 => (if t383 < 0 then (some true) else ((laws_toEnding.f k l0_0 l0_1).bind fun bt384 => ((spec_BestAnswer.f k bt384.1 bt384.2 a1 a2).bind fun bt390 => ((laws_toEnding.f k l0_0 l0_1).bind fun bt392 => ((impl_BestAnswer.f k bt392.1 bt392.2 a1 a2).bind fun bt399 => (if (bt399.1 != bt390.1) = true then (laws_FnExactBestAnswer.j0 k true l0_0 l0_1 bt392.1 bt392.2) else (laws_FnExactBestAnswer.j0 k (bt399.2 != bt390.2) l0_0 l0_1 bt392.1 bt392.2)))))))) = some r := h
  clear h
  replace H := Option.bind_eq_some_iff.mp H
  obtain ⟨t383, A40, H⟩ := H
  replace H : (if t383 < 0 then (some true) else ((laws_toEnding.f k l0_0 l0_1).bind fun bt384 => ((spec_BestAnswer.f k bt384.1 bt384.2 a1 a2).bind fun bt390 => ((laws_toEnding.f k l0_0 l0_1).bind fun bt392 => ((impl_BestAnswer.f k bt392.1 bt392.2 a1 a2).bind fun bt399 => (if (bt399.1 != bt390.1) = true then (laws_FnExactBestAnswer.j0 k true l0_0 l0_1 bt392.1 bt392.2) else (laws_FnExactBestAnswer.j0 k (bt399.2 != bt390.2) l0_0 l0_1 bt392.1 bt392.2))))))) = some r := H
  have A4 := Aside0.mk A40
  clear A40
  by_cases c5 : t383 < 0
  · rw [if_pos c5] at H
    have c5b0 : decide (t383 < 0) = true := decide_eq_true c5
    clear c5
    obtain rfl := Option.some.inj H
    go_enter Try.func10, Try.ntmps10
    go_wp2_with (first | ((with_reducible refine gate_dst (N := 3) rfl ?_); refine box_event ?hg (N := 3) ?hd (cs := #[.slice A0_0 l0_0.length c0_0, .slice A0_1 l0_1.length c0_1]) (t := 24) ?hr ?_; (case hd => rfl); (case hg => rfl); (case hr => first | (go_simp; done) | (go_simp; rfl)); intro gb382 hg w6 hbox hb; have n0_ := Aside0.mk (below_step (by repeat (first | (with_reducible first | exact HB.out | apply below_alloc | apply pw_below_drewN | apply below_drew1) | exact HB.out)) hb); have n1_ := Aside0.mk (hbox); have n2_ := Aside0.mk ((by rw [hg]; exact (below_size (by repeat (first | (with_reducible first | exact HB.out | apply below_alloc | apply pw_below_drewN | apply below_drew1) | exact HB.out))) : w.heap.size ≤ gb382)); have n3_ := Aside0.mk ((by rw [hg]; exact (below_size (by repeat (first | (with_reducible first | exact HB.out | apply below_alloc | apply pw_below_drewN | apply below_drew1) | exact HB.out))) : w.heap.size ≤ gb382)); clear HB; have HB := n0_; have BK382 := n1_; have GW382 := n2_; have GE382 := n3_; clear n0_ n1_ n2_ n3_; clear hb hbox hg; have hcz7_0 : w6.cell? ⟨gb382, 0, none⟩ = some (.slice A0_0 l0_0.length c0_0) := (blk_cell BK382.out 0).trans rfl; have hcz7_1 : w6.cell? ⟨gb382, 1, none⟩ = some (.slice A0_1 l0_1.length c0_1) := (blk_cell BK382.out 1).trans rfl; have hfz7_0 := blk_frozen BK382.out 0; have hfz7_1 := blk_frozen BK382.out 1) | ((with_reducible refine gate_callee (f := 15) rfl ?_); refine goesL_ (some 15) rfl rfl Try.func15 (by kernel_rfl) rfl #[.agg #[.slice A0_0 l0_0.length c0_0, .slice A0_1 l0_1.length c0_1], .int .i64 1048576] rfl (by (try simp only [List.map_toArray, List.map_cons, List.map_nil]); first | done | rfl | (simp only [List.length_drop, List.length_take]; rfl)) ?_; (with_reducible refine (laws_szEnding.calls _ _ l0_0 _ _ l0_1 1048576 t383 _ ?side1 ?side2 ?side3 ?side4 A4.out).mono ?_); (case side1 => repeat (first | exact (Kd.C_below HR0_0.out HB.out) | (with_reducible refine Kd.C_alloc ?_ _) | (with_reducible refine Kd.C_drewN ?_ _) | (with_reducible refine Kd.C_drew ?_))); (case side2 => exact HC0_0.out); (case side3 => repeat (first | exact (Kd.C_below HR0_1.out HB.out) | (with_reducible refine Kd.C_alloc ?_ _) | (with_reducible refine Kd.C_drewN ?_ _) | (with_reducible refine Kd.C_drew ?_))); (case side4 => exact HC0_1.out); rintro e w8 ⟨rfl, hb⟩; refine ⟨_, rfl, ?_⟩; have n0_ := Aside0.mk (blk_below (g := gb382) (o := .cells #[.slice A0_0 l0_0.length c0_0, .slice A0_1 l0_1.length c0_1] 24 (0, 0)) (by (with_reducible repeat (first | refine blk_drewN ?_ _ | refine blk_drew ?_ | refine blk_alloc ?_ _)); exact BK382.out) hb); have n1_ := Aside0.mk (below_step (by repeat (first | (with_reducible first | exact HB.out | apply below_alloc | apply pw_below_drewN | apply below_drew1 | refine below_set ?_ GE382.out) | exact HB.out)) hb); clear BK382; clear HB; have BK382 := n0_; have HB := n1_; clear n0_ n1_; (try clear hb); (try clear hb2); (try clear hk); (try clear hi)))
    go_ret
    exact ⟨by first | rfl | (simp [errW_none, errW_some] <;> rfl) | (simp [*, errW_none, errW_some] <;> rfl), by repeat (first | (with_reducible first | exact HB.out | apply below_alloc | apply pw_below_drewN | apply below_drew1 | refine below_set ?_ GE382.out) | exact HB.out)⟩
  · rw [if_neg c5] at H
    have c5b0 : decide (t383 < 0) = false := decide_eq_false c5
    clear c5
    replace H := Option.bind_eq_some_iff.mp H
    obtain ⟨⟨t384, t387⟩, A90, H⟩ := H
    replace H : ((spec_BestAnswer.f k t384 t387 a1 a2).bind fun bt390 => ((laws_toEnding.f k l0_0 l0_1).bind fun bt392 => ((impl_BestAnswer.f k bt392.1 bt392.2 a1 a2).bind fun bt399 => (if (bt399.1 != bt390.1) = true then (laws_FnExactBestAnswer.j0 k true l0_0 l0_1 bt392.1 bt392.2) else (laws_FnExactBestAnswer.j0 k (bt399.2 != bt390.2) l0_0 l0_1 bt392.1 bt392.2))))) = some r := H
    have A9 := Aside0.mk A90
    clear A90
    replace H := Option.bind_eq_some_iff.mp H
    obtain ⟨⟨t390, t391⟩, A100, H⟩ := H
    replace H : ((laws_toEnding.f k l0_0 l0_1).bind fun bt392 => ((impl_BestAnswer.f k bt392.1 bt392.2 a1 a2).bind fun bt399 => (if (bt399.1 != t390) = true then (laws_FnExactBestAnswer.j0 k true l0_0 l0_1 bt392.1 bt392.2) else (laws_FnExactBestAnswer.j0 k (bt399.2 != t391) l0_0 l0_1 bt392.1 bt392.2)))) = some r := H
    have A10 := Aside0.mk A100
    clear A100
    replace H := Option.bind_eq_some_iff.mp H
    obtain ⟨⟨t392, t395⟩, A110, H⟩ := H
    replace H : ((impl_BestAnswer.f k t392 t395 a1 a2).bind fun bt399 => (if (bt399.1 != t390) = true then (laws_FnExactBestAnswer.j0 k true l0_0 l0_1 t392 t395) else (laws_FnExactBestAnswer.j0 k (bt399.2 != t391) l0_0 l0_1 t392 t395))) = some r := H
    have A11 := Aside0.mk A110
    clear A110
    replace H := Option.bind_eq_some_iff.mp H
    obtain ⟨⟨t399, t400⟩, A120, H⟩ := H
    replace H : (if (t399 != t390) = true then (laws_FnExactBestAnswer.j0 k true l0_0 l0_1 t392 t395) else (laws_FnExactBestAnswer.j0 k (t400 != t391) l0_0 l0_1 t392 t395)) = some r := H
    have A12 := Aside0.mk A120
    clear A120
    have HC13 := Aside0.mk H
    clear H
    go_enter Try.func10, Try.ntmps10
    go_upto_region 8 with (first | ((with_reducible refine gate_dst (N := 3) rfl ?_); refine box_event ?hg (N := 3) ?hd (cs := #[.slice A0_0 l0_0.length c0_0, .slice A0_1 l0_1.length c0_1]) (t := 24) ?hr ?_; (case hd => rfl); (case hg => rfl); (case hr => first | (go_simp; done) | (go_simp; rfl)); intro gb382 hg w14 hbox hb; have n0_ := Aside0.mk (below_step (by repeat (first | (with_reducible first | exact HB.out | apply below_alloc | apply pw_below_drewN | apply below_drew1) | exact HB.out)) hb); have n1_ := Aside0.mk (hbox); have n2_ := Aside0.mk ((by rw [hg]; exact (below_size (by repeat (first | (with_reducible first | exact HB.out | apply below_alloc | apply pw_below_drewN | apply below_drew1) | exact HB.out))) : w.heap.size ≤ gb382)); have n3_ := Aside0.mk ((by rw [hg]; exact (below_size (by repeat (first | (with_reducible first | exact HB.out | apply below_alloc | apply pw_below_drewN | apply below_drew1) | exact HB.out))) : w.heap.size ≤ gb382)); clear HB; have HB := n0_; have BK382 := n1_; have GW382 := n2_; have GE382 := n3_; clear n0_ n1_ n2_ n3_; clear hb hbox hg; have hcz15_0 : w14.cell? ⟨gb382, 0, none⟩ = some (.slice A0_0 l0_0.length c0_0) := (blk_cell BK382.out 0).trans rfl; have hcz15_1 : w14.cell? ⟨gb382, 1, none⟩ = some (.slice A0_1 l0_1.length c0_1) := (blk_cell BK382.out 1).trans rfl; have hfz15_0 := blk_frozen BK382.out 0; have hfz15_1 := blk_frozen BK382.out 1) | ((with_reducible refine gate_callee (f := 15) rfl ?_); refine goesL_ (some 15) rfl rfl Try.func15 (by kernel_rfl) rfl #[.agg #[.slice A0_0 l0_0.length c0_0, .slice A0_1 l0_1.length c0_1], .int .i64 1048576] rfl (by (try simp only [List.map_toArray, List.map_cons, List.map_nil]); first | done | rfl | (simp only [List.length_drop, List.length_take]; rfl)) ?_; (with_reducible refine (laws_szEnding.calls _ _ l0_0 _ _ l0_1 1048576 t383 _ ?side1 ?side2 ?side3 ?side4 A4.out).mono ?_); (case side1 => repeat (first | exact (Kd.C_below HR0_0.out HB.out) | (with_reducible refine Kd.C_alloc ?_ _) | (with_reducible refine Kd.C_drewN ?_ _) | (with_reducible refine Kd.C_drew ?_))); (case side2 => exact HC0_0.out); (case side3 => repeat (first | exact (Kd.C_below HR0_1.out HB.out) | (with_reducible refine Kd.C_alloc ?_ _) | (with_reducible refine Kd.C_drewN ?_ _) | (with_reducible refine Kd.C_drew ?_))); (case side4 => exact HC0_1.out); rintro e w16 ⟨rfl, hb⟩; refine ⟨_, rfl, ?_⟩; have n0_ := Aside0.mk (blk_below (g := gb382) (o := .cells #[.slice A0_0 l0_0.length c0_0, .slice A0_1 l0_1.length c0_1] 24 (0, 0)) (by (with_reducible repeat (first | refine blk_drewN ?_ _ | refine blk_drew ?_ | refine blk_alloc ?_ _)); exact BK382.out) hb); have n1_ := Aside0.mk (below_step (by repeat (first | (with_reducible first | exact HB.out | apply below_alloc | apply pw_below_drewN | apply below_drew1 | refine below_set ?_ GE382.out) | exact HB.out)) hb); clear BK382; clear HB; have BK382 := n0_; have HB := n1_; clear n0_ n1_; (try clear hb); (try clear hb2); (try clear hk); (try clear hi); have hcz17_0 : w16.cell? ⟨gb382, 0, none⟩ = some (.slice A0_0 l0_0.length c0_0) := (blk_cell BK382.out 0).trans rfl; have hcz17_1 : w16.cell? ⟨gb382, 1, none⟩ = some (.slice A0_1 l0_1.length c0_1) := (blk_cell BK382.out 1).trans rfl; have hfz17_0 := blk_frozen BK382.out 0; have hfz17_1 := blk_frozen BK382.out 1) | ((with_reducible refine gate_callee (f := 17) rfl ?_); refine goesL_ (some 20) rfl rfl Try.func17 (by kernel_rfl) rfl #[.agg #[.slice A0_0 l0_0.length c0_0, .slice A0_1 l0_1.length c0_1]] rfl (by (try simp only [List.map_toArray, List.map_cons, List.map_nil]); first | done | rfl | (simp only [List.length_drop, List.length_take]; rfl)) ?_; (with_reducible refine (laws_toEnding.calls k _ _ l0_0 _ _ l0_1 t384 t387 _ ?side1 ?side2 ?side3 ?side4 A9.out).mono ?_); (case side1 => repeat (first | exact (Kd.C_below HR0_0.out HB.out) | (with_reducible refine Kd.C_alloc ?_ _) | (with_reducible refine Kd.C_drewN ?_ _) | (with_reducible refine Kd.C_drew ?_))); (case side2 => exact HC0_0.out); (case side3 => repeat (first | exact (Kd.C_below HR0_1.out HB.out) | (with_reducible refine Kd.C_alloc ?_ _) | (with_reducible refine Kd.C_drewN ?_ _) | (with_reducible refine Kd.C_drew ?_))); (case side4 => exact HC0_1.out); rintro e w18 ⟨v385, v388, rfl, ho0, ho1, hb⟩; refine ⟨_, rfl, ?_⟩; have n0_ := Aside0.mk (Kd.R_lower ho0 (below_size (by repeat (first | (with_reducible first | exact HB.out | apply below_alloc | apply pw_below_drewN | apply below_drew1 | refine below_set ?_ GE382.out) | exact HB.out)))); have n1_ := Aside0.mk (Kd.R_lower ho1 (below_size (by repeat (first | (with_reducible first | exact HB.out | apply below_alloc | apply pw_below_drewN | apply below_drew1 | refine below_set ?_ GE382.out) | exact HB.out)))); have n2_ := Aside0.mk (blk_below (g := gb382) (o := .cells #[.slice A0_0 l0_0.length c0_0, .slice A0_1 l0_1.length c0_1] 24 (0, 0)) (by (with_reducible repeat (first | refine blk_drewN ?_ _ | refine blk_drew ?_ | refine blk_alloc ?_ _)); exact BK382.out) hb); have n3_ := Aside0.mk (below_step (by repeat (first | (with_reducible first | exact HB.out | apply below_alloc | apply pw_below_drewN | apply below_drew1 | refine below_set ?_ GE382.out) | exact HB.out)) hb); clear BK382; clear HB; have HO386 := n0_; have HO389 := n1_; have BK382 := n2_; have HB := n3_; clear n0_ n1_ n2_ n3_; (try clear hb); (try clear hb2); (try clear hk); (try clear hi); (try clear ho0); (try clear ho1); obtain ⟨Ao19, co19, eo19⟩ := Kd.R_slice HO386.out; subst eo19; obtain ⟨Ao20, co20, eo20⟩ := Kd.R_slice HO389.out; subst eo20) | ((with_reducible refine gate_callee (f := 34) rfl ?_); refine goesL_ (some 23) rfl rfl Try.func34 (by kernel_rfl) rfl #[.agg #[.slice Ao19 t384.length co19, .slice Ao20 t387.length co20], .bool a1, .int .i64 a2] rfl (by (try simp only [List.map_toArray, List.map_cons, List.map_nil]); first | done | rfl | (simp only [List.length_drop, List.length_take]; rfl)) ?_; (with_reducible refine (spec_BestAnswer.calls k _ _ t384 _ _ t387 a1 a2 t390 t391 _ ?side1 ?side2 ?side3 ?side4 A10.out).mono ?_); (case side1 => repeat (first | exact (Kd.R_reads' HO386.out).2.2 | (with_reducible refine Kd.C_alloc ?_ _) | (with_reducible refine Kd.C_drewN ?_ _) | (with_reducible refine Kd.C_drew ?_))); (case side2 => exact (Kd.R_reads' HO386.out).2.1); (case side3 => repeat (first | exact (Kd.R_reads' HO389.out).2.2 | (with_reducible refine Kd.C_alloc ?_ _) | (with_reducible refine Kd.C_drewN ?_ _) | (with_reducible refine Kd.C_drew ?_))); (case side4 => exact (Kd.R_reads' HO389.out).2.1); rintro e w21 ⟨rfl, hb⟩; refine ⟨_, rfl, ?_⟩; have n0_ := Aside0.mk (Kd.R_below (by (with_reducible repeat (first | apply Kd.R_alloc | apply Kd.R_drewN | apply Kd.R_drew)); exact HO386.out) hb); have n1_ := Aside0.mk (Kd.R_below (by (with_reducible repeat (first | apply Kd.R_alloc | apply Kd.R_drewN | apply Kd.R_drew)); exact HO389.out) hb); have n2_ := Aside0.mk (blk_below (g := gb382) (o := .cells #[.slice A0_0 l0_0.length c0_0, .slice A0_1 l0_1.length c0_1] 24 (0, 0)) (by (with_reducible repeat (first | refine blk_drewN ?_ _ | refine blk_drew ?_ | refine blk_alloc ?_ _)); exact BK382.out) hb); have n3_ := Aside0.mk (below_step (by repeat (first | (with_reducible first | exact HB.out | apply below_alloc | apply pw_below_drewN | apply below_drew1 | refine below_set ?_ GE382.out) | exact HB.out)) hb); clear HO386; clear HO389; clear BK382; clear HB; have HO386 := n0_; have HO389 := n1_; have BK382 := n2_; have HB := n3_; clear n0_ n1_ n2_ n3_; (try clear hb); (try clear hb2); (try clear hk); (try clear hi); have hcz22_0 : w21.cell? ⟨gb382, 0, none⟩ = some (.slice A0_0 l0_0.length c0_0) := (blk_cell BK382.out 0).trans rfl; have hcz22_1 : w21.cell? ⟨gb382, 1, none⟩ = some (.slice A0_1 l0_1.length c0_1) := (blk_cell BK382.out 1).trans rfl; have hfz22_0 := blk_frozen BK382.out 0; have hfz22_1 := blk_frozen BK382.out 1) | ((with_reducible refine gate_callee (f := 17) rfl ?_); refine goesL_ (some 27) rfl rfl Try.func17 (by kernel_rfl) rfl #[.agg #[.slice A0_0 l0_0.length c0_0, .slice A0_1 l0_1.length c0_1]] rfl (by (try simp only [List.map_toArray, List.map_cons, List.map_nil]); first | done | rfl | (simp only [List.length_drop, List.length_take]; rfl)) ?_; (with_reducible refine (laws_toEnding.calls k _ _ l0_0 _ _ l0_1 t392 t395 _ ?side1 ?side2 ?side3 ?side4 A11.out).mono ?_); (case side1 => repeat (first | exact (Kd.C_below HR0_0.out HB.out) | (with_reducible refine Kd.C_alloc ?_ _) | (with_reducible refine Kd.C_drewN ?_ _) | (with_reducible refine Kd.C_drew ?_))); (case side2 => exact HC0_0.out); (case side3 => repeat (first | exact (Kd.C_below HR0_1.out HB.out) | (with_reducible refine Kd.C_alloc ?_ _) | (with_reducible refine Kd.C_drewN ?_ _) | (with_reducible refine Kd.C_drew ?_))); (case side4 => exact HC0_1.out); rintro e w23 ⟨v393, v396, rfl, ho0, ho1, hb⟩; refine ⟨_, rfl, ?_⟩; have n0_ := Aside0.mk (Kd.R_mono (Kd.R_told (Kd.R_told (Kd.R_old (by (with_reducible repeat (first | apply Kd.R_alloc | apply Kd.R_drewN | apply Kd.R_drew)); exact HO386.out) hb) (Kd.R_base ho0)) (Kd.R_base ho1)) (fun _ h_ => h_.1)); have n1_ := Aside0.mk (Kd.R_mono (Kd.R_told (Kd.R_told (Kd.R_old (by (with_reducible repeat (first | apply Kd.R_alloc | apply Kd.R_drewN | apply Kd.R_drew)); exact HO389.out) hb) (Kd.R_base ho0)) (Kd.R_base ho1)) (fun _ h_ => h_.1)); have n2_ := Aside0.mk (Kd.R_lower (Kd.R_new' (Kd.R_new' ho0 (Kd.R_lt (by (with_reducible repeat (first | apply Kd.R_alloc | apply Kd.R_drewN | apply Kd.R_drew)); exact HO386.out))) (Kd.R_lt (by (with_reducible repeat (first | apply Kd.R_alloc | apply Kd.R_drewN | apply Kd.R_drew)); exact HO389.out))) (below_size (by repeat (first | (with_reducible first | exact HB.out | apply below_alloc | apply pw_below_drewN | apply below_drew1 | refine below_set ?_ GE382.out) | exact HB.out)))); have n3_ := Aside0.mk (Kd.R_lower (Kd.R_new' (Kd.R_new' ho1 (Kd.R_lt (by (with_reducible repeat (first | apply Kd.R_alloc | apply Kd.R_drewN | apply Kd.R_drew)); exact HO386.out))) (Kd.R_lt (by (with_reducible repeat (first | apply Kd.R_alloc | apply Kd.R_drewN | apply Kd.R_drew)); exact HO389.out))) (below_size (by repeat (first | (with_reducible first | exact HB.out | apply below_alloc | apply pw_below_drewN | apply below_drew1 | refine below_set ?_ GE382.out) | exact HB.out)))); have n4_ := Aside0.mk (blk_below (g := gb382) (o := .cells #[.slice A0_0 l0_0.length c0_0, .slice A0_1 l0_1.length c0_1] 24 (0, 0)) (by (with_reducible repeat (first | refine blk_drewN ?_ _ | refine blk_drew ?_ | refine blk_alloc ?_ _)); exact BK382.out) hb); have n5_ := Aside0.mk (below_step (by repeat (first | (with_reducible first | exact HB.out | apply below_alloc | apply pw_below_drewN | apply below_drew1 | refine below_set ?_ GE382.out) | exact HB.out)) hb); clear HO386; clear HO389; clear BK382; clear HB; have HO386 := n0_; have HO389 := n1_; have HO394 := n2_; have HO397 := n3_; have BK382 := n4_; have HB := n5_; clear n0_ n1_ n2_ n3_ n4_ n5_; (try clear hb); (try clear hb2); (try clear hk); (try clear hi); (try clear ho0); (try clear ho1)) | ((with_reducible refine gate_dst (N := 10) rfl ?_); refine box_event ?hg (N := 10) ?hd (cs := #[.slice none 0 0, .slice none 0 0]) (t := 27) ?hr ?_; (case hd => rfl); (case hg => rfl); (case hr => first | (go_simp; done) | (go_simp; rfl)); intro gb398 hg w24 hbox hb; have n0_ := Aside0.mk (Kd.R_below (by (with_reducible repeat (first | apply Kd.R_alloc | apply Kd.R_drewN | apply Kd.R_drew)); exact HO386.out) hb); have n1_ := Aside0.mk (Kd.R_below (by (with_reducible repeat (first | apply Kd.R_alloc | apply Kd.R_drewN | apply Kd.R_drew)); exact HO389.out) hb); have n2_ := Aside0.mk (Kd.R_below (by (with_reducible repeat (first | apply Kd.R_alloc | apply Kd.R_drewN | apply Kd.R_drew)); exact HO394.out) hb); have n3_ := Aside0.mk (Kd.R_below (by (with_reducible repeat (first | apply Kd.R_alloc | apply Kd.R_drewN | apply Kd.R_drew)); exact HO397.out) hb); have n4_ := Aside0.mk (blk_below (g := gb382) (o := .cells #[.slice A0_0 l0_0.length c0_0, .slice A0_1 l0_1.length c0_1] 24 (0, 0)) (by (with_reducible repeat (first | refine blk_drewN ?_ _ | refine blk_drew ?_ | refine blk_alloc ?_ _)); exact BK382.out) hb); have n5_ := Aside0.mk (below_step (by repeat (first | (with_reducible first | exact HB.out | apply below_alloc | apply pw_below_drewN | apply below_drew1 | refine below_set ?_ GE382.out) | exact HB.out)) hb); have n6_ := Aside0.mk (hbox); have n7_ := Aside0.mk ((by rw [hg]; exact (below_size (by repeat (first | (with_reducible first | exact HB.out | apply below_alloc | apply pw_below_drewN | apply below_drew1 | refine below_set ?_ GE382.out) | exact HB.out))) : w.heap.size ≤ gb398)); have n8_ := Aside0.mk ((by rw [hg]; exact (below_size (by repeat (first | (with_reducible first | exact HB.out | apply below_alloc | apply pw_below_drewN | apply below_drew1 | refine below_set ?_ GE382.out) | exact HB.out))) : w.heap.size ≤ gb398)); have n9_ := Aside0.mk ((by rw [hg]; exact Nat.ne_of_lt (blk_lt (g := gb382) (o := .cells #[.slice A0_0 l0_0.length c0_0, .slice A0_1 l0_1.length c0_1] 24 (0, 0)) (by (with_reducible repeat (first | refine blk_drewN ?_ _ | refine blk_drew ?_ | refine blk_alloc ?_ _)); exact BK382.out)) : gb382 ≠ gb398)); have n10_ := Aside0.mk ((by rw [hg]; exact Nat.ne_of_gt (blk_lt (g := gb382) (o := .cells #[.slice A0_0 l0_0.length c0_0, .slice A0_1 l0_1.length c0_1] 24 (0, 0)) (by (with_reducible repeat (first | refine blk_drewN ?_ _ | refine blk_drew ?_ | refine blk_alloc ?_ _)); exact BK382.out)) : gb398 ≠ gb382)); clear HO386; clear HO389; clear HO394; clear HO397; clear BK382; clear HB; have HO386 := n0_; have HO389 := n1_; have HO394 := n2_; have HO397 := n3_; have BK382 := n4_; have HB := n5_; have BK398 := n6_; have GW398 := n7_; have GE398 := n8_; have NB382_398 := n9_; have NB398_382 := n10_; clear n0_ n1_ n2_ n3_ n4_ n5_ n6_ n7_ n8_ n9_ n10_; clear hb hbox hg; obtain ⟨Ao25, co25, eo25⟩ := Kd.R_slice HO394.out; subst eo25; have hnb26 := NB398_382.out; have hnc26 := NB382_398.out; have hcz27_0 : w24.cell? ⟨gb398, 0, none⟩ = some (.slice none 0 0) := (blk_cell BK398.out 0).trans rfl; have hcz27_1 : w24.cell? ⟨gb398, 1, none⟩ = some (.slice none 0 0) := (blk_cell BK398.out 1).trans rfl; have hfz27_0 := blk_frozen BK398.out 0; have hfz27_1 := blk_frozen BK398.out 1; obtain ⟨Ao28, co28, eo28⟩ := Kd.R_slice HO397.out; subst eo28) | ((with_reducible refine gate_callee (f := 35) rfl ?_); refine goesL_ (some 32) rfl rfl Try.func35 (by kernel_rfl) rfl #[.agg #[.slice Ao25 t392.length co25, .slice Ao28 t395.length co28], .bool a1, .int .i64 a2] rfl (by (try simp only [List.map_toArray, List.map_cons, List.map_nil]); first | done | rfl | (simp only [List.length_drop, List.length_take]; rfl)) ?_; (with_reducible refine (impl_BestAnswer.calls k _ _ t392 _ _ t395 a1 a2 t399 t400 _ ?side1 ?side2 ?side3 ?side4 A12.out).mono ?_); (case side1 => refine (Kd.R_reads' (e := 2) (base := w.heap.size) (ok := fun k_ => ((some k_ ≠ (.slice Ao28 t395.length co28 : Value).ownBlock ∧ some k_ ≠ (.slice Ao19 t384.length co19 : Value).ownBlock) ∧ some k_ ≠ (.slice Ao20 t387.length co20 : Value).ownBlock)) (n := t392.length) (c := co25) ?_).2.2; exact (by (with_reducible repeat (first | apply Kd.R_alloc | apply Kd.R_drewN | apply Kd.R_drew)); exact (Kd.R_mono (Kd.R_far (p := ⟨gb398, 1, none⟩) (Kd.R_far (p := ⟨gb398, 0, none⟩) (Kd.R_types HO394.out BK398.out (by decide)) (fun _ hk => hk.2) (.slice Ao25 t392.length co25)) (fun _ hk => hk.2) (.slice Ao28 t395.length co28)) (fun _ h_ => h_.1)))); (case side2 => exact (Kd.R_reads' HO394.out).2.1); (case side3 => refine (Kd.R_reads' (e := 2) (base := w.heap.size) (ok := fun k_ => ((some k_ ≠ (.slice Ao25 t392.length co25 : Value).ownBlock ∧ some k_ ≠ (.slice Ao19 t384.length co19 : Value).ownBlock) ∧ some k_ ≠ (.slice Ao20 t387.length co20 : Value).ownBlock)) (n := t395.length) (c := co28) ?_).2.2; exact (by (with_reducible repeat (first | apply Kd.R_alloc | apply Kd.R_drewN | apply Kd.R_drew)); exact (Kd.R_mono (Kd.R_far (p := ⟨gb398, 1, none⟩) (Kd.R_far (p := ⟨gb398, 0, none⟩) (Kd.R_types HO397.out BK398.out (by decide)) (fun _ hk => hk.2) (.slice Ao25 t392.length co25)) (fun _ hk => hk.2) (.slice Ao28 t395.length co28)) (fun _ h_ => h_.1)))); (case side4 => exact (Kd.R_reads' HO397.out).2.1); rintro e w29 ⟨rfl, hb⟩; refine ⟨_, rfl, ?_⟩; have n0_ := Aside0.mk (Kd.R_below (by (with_reducible repeat (first | apply Kd.R_alloc | apply Kd.R_drewN | apply Kd.R_drew)); exact (Kd.R_mono (Kd.R_far (p := ⟨gb398, 1, none⟩) (Kd.R_far (p := ⟨gb398, 0, none⟩) (Kd.R_types HO386.out BK398.out (by decide)) (fun _ hk => hk.2) (.slice Ao25 t392.length co25)) (fun _ hk => hk.2) (.slice Ao28 t395.length co28)) (fun _ h_ => h_.1))) hb); have n1_ := Aside0.mk (Kd.R_below (by (with_reducible repeat (first | apply Kd.R_alloc | apply Kd.R_drewN | apply Kd.R_drew)); exact (Kd.R_mono (Kd.R_far (p := ⟨gb398, 1, none⟩) (Kd.R_far (p := ⟨gb398, 0, none⟩) (Kd.R_types HO389.out BK398.out (by decide)) (fun _ hk => hk.2) (.slice Ao25 t392.length co25)) (fun _ hk => hk.2) (.slice Ao28 t395.length co28)) (fun _ h_ => h_.1))) hb); have n2_ := Aside0.mk (Kd.R_below (by (with_reducible repeat (first | apply Kd.R_alloc | apply Kd.R_drewN | apply Kd.R_drew)); exact (Kd.R_mono (Kd.R_far (p := ⟨gb398, 1, none⟩) (Kd.R_far (p := ⟨gb398, 0, none⟩) (Kd.R_types HO394.out BK398.out (by decide)) (fun _ hk => hk.2) (.slice Ao25 t392.length co25)) (fun _ hk => hk.2) (.slice Ao28 t395.length co28)) (fun _ h_ => h_.1))) hb); have n3_ := Aside0.mk (Kd.R_below (by (with_reducible repeat (first | apply Kd.R_alloc | apply Kd.R_drewN | apply Kd.R_drew)); exact (Kd.R_mono (Kd.R_far (p := ⟨gb398, 1, none⟩) (Kd.R_far (p := ⟨gb398, 0, none⟩) (Kd.R_types HO397.out BK398.out (by decide)) (fun _ hk => hk.2) (.slice Ao25 t392.length co25)) (fun _ hk => hk.2) (.slice Ao28 t395.length co28)) (fun _ h_ => h_.1))) hb); have n4_ := Aside0.mk (blk_below (g := gb382) (o := .cells #[.slice A0_0 l0_0.length c0_0, .slice A0_1 l0_1.length c0_1] 24 (0, 0)) (by (with_reducible repeat (first | refine blk_drewN ?_ _ | refine blk_drew ?_ | refine blk_alloc ?_ _)); refine blk_far ?_ NB382_398.out _; (with_reducible repeat (first | refine blk_drewN ?_ _ | refine blk_drew ?_ | refine blk_alloc ?_ _)); refine blk_far ?_ NB382_398.out _; (with_reducible repeat (first | refine blk_drewN ?_ _ | refine blk_drew ?_ | refine blk_alloc ?_ _)); exact BK382.out) hb); have n5_ := Aside0.mk (blk_below (g := gb398) (o := .cells #[.slice Ao25 t392.length co25, .slice Ao28 t395.length co28] 27 (0, 0)) (by (with_reducible repeat (first | refine blk_drewN ?_ _ | refine blk_drew ?_ | refine blk_alloc ?_ _)); refine blk_put (cs := #[.slice Ao25 t392.length co25, .slice none 0 0]) ?_ 1 _ rfl; (with_reducible repeat (first | refine blk_drewN ?_ _ | refine blk_drew ?_ | refine blk_alloc ?_ _)); refine blk_put (cs := #[.slice none 0 0, .slice none 0 0]) ?_ 0 _ rfl; (with_reducible repeat (first | refine blk_drewN ?_ _ | refine blk_drew ?_ | refine blk_alloc ?_ _)); exact BK398.out) hb); have n6_ := Aside0.mk (below_step (by repeat (first | (with_reducible first | exact HB.out | apply below_alloc | apply pw_below_drewN | apply below_drew1 | refine below_set ?_ GE382.out | refine below_set ?_ GE398.out) | exact HB.out)) hb); clear HO386; clear HO389; clear HO394; clear HO397; clear BK382; clear BK398; clear HB; have HO386 := n0_; have HO389 := n1_; have HO394 := n2_; have HO397 := n3_; have BK382 := n4_; have BK398 := n5_; have HB := n6_; clear n0_ n1_ n2_ n3_ n4_ n5_ n6_; (try clear hb); (try clear hb2); (try clear hk); (try clear hi)))
    (try simp only [Act.put, List.setIfInBounds_toArray, List.set_cons_zero, List.set_cons_succ])
    go_cut [42] (fun v42 wc => ∃ (kq : Nat) (x42_12 : Bool), v42 = .bool x42_12 ∧ Aside0 (laws_FnExactBestAnswer.j0 kq x42_12 l0_0 l0_1 t392 t395 = some r) ∧ Aside0 (kq ≤ k) ∧ Aside0 (Kd.R (Kd.int .i64) 2 wc w.heap.size (fun k_ => some k_ ≠ ((.slice Ao28 t395.length co28) : Value).ownBlock) (.slice Ao25 t392.length co25) t392) ∧ Aside0 (Kd.R (Kd.int .i64) 2 wc w.heap.size (fun k_ => some k_ ≠ ((.slice Ao25 t392.length co25) : Value).ownBlock) (.slice Ao28 t395.length co28) t395) ∧ Aside0 (wc.heap[gb382]? = some (.cells #[(.slice A0_0 l0_0.length c0_0), (.slice A0_1 l0_1.length c0_1)] 24 (0, 0))) ∧ Aside0 (wc.heap[gb398]? = some (.cells #[(.slice Ao25 t392.length co25), (.slice Ao28 t395.length co28)] 27 (0, 0))) ∧ Aside0 (Below w.heap.size w wc))
    case first =>
      have H := HC13.out
      clear HC13
      by_cases c30 : (t399 != t390) = true
      · rw [if_pos c30] at H
        have c30b0 : (t399 != t390) = true := c30
        (try (have c30b1 : decide (t399 = t390) = false := by simpa using c30))
        (try (have c30b2 : (t399 == t390) = false := by simpa using c30))
        (try (have c30b3 : ¬ (t399 = t390) := by simpa using c30))
        clear c30
        (first | rw [c30b0] | (simp only [i64_w, i32_w]; rw [c30b0]) | skip)
        have H' := Aside0.mk H
        clear H
        go_wp2
        go_meet
        case rel => exact ⟨_, (true), (by first | rfl | (simp; done) | (simp [*]; done)), H', ⟨by first | omega | exact Nat.le_refl _⟩, ⟨by (with_reducible repeat (first | apply Kd.R_alloc | apply Kd.R_drewN | apply Kd.R_drew)); exact Kd.R_mono HO394.out (fun _ hk => hk.1.1)⟩, ⟨by (with_reducible repeat (first | apply Kd.R_alloc | apply Kd.R_drewN | apply Kd.R_drew)); exact Kd.R_mono HO397.out (fun _ hk => hk.1.1)⟩, ⟨by (with_reducible repeat (first | refine blk_drewN ?_ _ | refine blk_drew ?_ | refine blk_alloc ?_ _)); exact BK382.out⟩, ⟨by (with_reducible repeat (first | refine blk_drewN ?_ _ | refine blk_drew ?_ | refine blk_alloc ?_ _)); exact BK398.out⟩, ⟨by repeat (first | (with_reducible first | exact HB.out | apply below_alloc | apply pw_below_drewN | apply below_drew1 | refine below_set ?_ GE382.out | refine below_set ?_ GE398.out) | exact HB.out)⟩⟩
      · rw [if_neg c30] at H
        have c30b0 : (t399 != t390) = false := by simpa using c30
        (try (have c30b1 : decide (t399 = t390) = true := by simpa using c30))
        (try (have c30b2 : (t399 == t390) = true := by simpa using c30))
        clear c30
        (first | rw [c30b0] | (simp only [i64_w, i32_w]; rw [c30b0]) | skip)
        have H' := Aside0.mk H
        clear H
        go_wp2
        go_meet
        case rel => exact ⟨_, ((t400 != t391)), (by first | rfl | (simp; done) | (simp [*]; done)), H', ⟨by first | omega | exact Nat.le_refl _⟩, ⟨by (with_reducible repeat (first | apply Kd.R_alloc | apply Kd.R_drewN | apply Kd.R_drew)); exact Kd.R_mono HO394.out (fun _ hk => hk.1.1)⟩, ⟨by (with_reducible repeat (first | apply Kd.R_alloc | apply Kd.R_drewN | apply Kd.R_drew)); exact Kd.R_mono HO397.out (fun _ hk => hk.1.1)⟩, ⟨by (with_reducible repeat (first | refine blk_drewN ?_ _ | refine blk_drew ?_ | refine blk_alloc ?_ _)); exact BK382.out⟩, ⟨by (with_reducible repeat (first | refine blk_drewN ?_ _ | refine blk_drew ?_ | refine blk_alloc ?_ _)); exact BK398.out⟩, ⟨by repeat (first | (with_reducible first | exact HB.out | apply below_alloc | apply pw_below_drewN | apply below_drew1 | refine below_set ?_ GE382.out | refine below_set ?_ GE398.out) | exact HB.out)⟩⟩
    case rest =>
      clear HC13
      try clear c1
      try clear c2
      try clear p2
      try clear c3
      try clear c5
      try clear c5b0
      try clear c10
      try clear c15
      try clear c17
      try clear c26
      try clear c30
      try clear c30b0
      try clear c30b1
      try clear c30b2
      try clear hcz15_0
      try clear hcz15_1
      try clear hcz17_0
      try clear hcz17_1
      try clear hcz22_0
      try clear hcz22_1
      try clear hcz27_0
      try clear hcz27_1
      try clear hcz7_0
      try clear hcz7_1
      try clear hfz15_0
      try clear hfz15_1
      try clear hfz17_0
      try clear hfz17_1
      try clear hfz22_0
      try clear hfz22_1
      try clear hfz27_0
      try clear hfz27_1
      try clear hfz7_0
      try clear hfz7_1
      obtain ⟨kq, x42_12, rfl, HA, HJ12, HO_399000, HO_399001, BK382, BK398, HB⟩ := hcut
      cases kq with
      | zero => exact absurd HA.out (by simp [laws_FnExactBestAnswer.j0])
      | succ kj12 =>
        have H := HA.out
        clear HA
        simp only [laws_FnExactBestAnswer.j0] at H
        by_cases c31 : x42_12 = true
        · subst c31
          have H1 : (some false) = some r := by rw [if_pos rfl] at H; exact H
          clear H
          have H := H1
          clear H1
          obtain rfl := Option.some.inj H
          go_wp2
          go_ret
          exact ⟨by first | rfl | (simp [errW_none, errW_some] <;> rfl) | (simp [*, errW_none, errW_some] <;> rfl), by repeat (first | (with_reducible first | exact HB.out | apply below_alloc | apply pw_below_drewN | apply below_drew1 | refine below_set ?_ GE382.out | refine below_set ?_ GE398.out) | exact HB.out)⟩
        · replace c31 := Bool.eq_false_iff.mpr c31
          subst c31
          have H1 : ((laws_toEnding.f kj12 l0_0 l0_1).bind fun bt401 => ((laws_eqEnding.f kj12 t392 t395 bt401.1 bt401.2).bind fun t407 => (if t407 = true then (some true) else (some false)))) = some r := by rw [if_neg (show ¬ (false = true) by decide)] at H; exact H
          clear H
          have H := H1
          clear H1
          replace H := Option.bind_eq_some_iff.mp H
          obtain ⟨⟨t401, t404⟩, A320, H⟩ := H
          replace H : ((laws_eqEnding.f kj12 t392 t395 t401 t404).bind fun t407 => (if t407 = true then (some true) else (some false))) = some r := H
          have A32 := Aside0.mk A320
          clear A320
          replace H := Option.bind_eq_some_iff.mp H
          obtain ⟨t407, A330, H⟩ := H
          replace H : (if t407 = true then (some true) else (some false)) = some r := H
          have A33 := Aside0.mk A330
          clear A330
          by_cases c34 : t407 = true
          · subst c34
            have H1 : (some true) = some r := by rw [if_pos rfl] at H; exact H
            clear H
            have H := H1
            clear H1
            obtain rfl := Option.some.inj H
            try go_wp2
            have n0_ := Aside0.mk (Kd.R_drew HO_399000.out)
            have n1_ := Aside0.mk (Kd.R_drew HO_399001.out)
            have n2_ := Aside0.mk (blk_drew BK382.out)
            have n3_ := Aside0.mk (blk_drew BK398.out)
            have n4_ := Aside0.mk (below_drew1 HB.out)
            clear HO_399000
            clear HO_399001
            clear BK382
            clear BK398
            clear HB
            have HO_399000 := n0_
            have HO_399001 := n1_
            have BK382 := n2_
            have BK398 := n3_
            have HB := n4_
            clear n0_ n1_ n2_ n3_ n4_
            refine start_ (n := 5) (S := fun w' => w'.cell? ⟨gb398, 0, none⟩ = some (.slice Ao25 t392.length co25) ∧ w'.cell? ⟨gb398, 1, none⟩ = some (.slice Ao28 t395.length co28) ∧ w'.cell? ⟨gb382, 0, none⟩ = some (.slice A0_0 l0_0.length c0_0) ∧ w'.cell? ⟨gb382, 1, none⟩ = some (.slice A0_1 l0_1.length c0_1)) (ds := []) #[false, false, false, false, false] (by kernel_rfl) rfl rfl ⟨(blk_cell BK398.out 0).trans rfl, (blk_cell BK398.out 1).trans rfl, (blk_cell BK382.out 0).trans rfl, (blk_cell BK382.out 1).trans rfl⟩ (fun hHeld => ?_)
            generalize wc.drew = w35 at HO_399000 HO_399001 BK382 BK398 HB hHeld ⊢
            refine take_ (i := 0) (N := some 43) (v := ?_) (a' := ?_) #[true, false, false, false, false] rfl rfl (by kernel_rfl) (fun _ _ _ h => h) (Or.inl ⟨by rfl, ?_⟩) hHeld ?_ ?_
            rotate_left
            · rintro w' ⟨s0, s1, s2, s3⟩
              go_simp
              with_reducible rfl
            rotate_left
            · simp only [Act.put, List.setIfInBounds_toArray, List.set_cons_zero, List.set_cons_succ, i64_w, i32_w]
              rfl
            refine take_ (i := 1) (N := some 44) (v := ?_) (a' := ?_) #[true, true, false, false, false] rfl rfl (by kernel_rfl) (fun _ _ _ h => h) (Or.inl ⟨by rfl, ?_⟩) hHeld ?_ ?_
            rotate_left
            · rintro w' ⟨s0, s1, s2, s3⟩
              go_simp
              with_reducible rfl
            rotate_left
            · simp only [Act.put, List.setIfInBounds_toArray, List.set_cons_zero, List.set_cons_succ, i64_w, i32_w]
              rfl
            refine one_ (i := 2) (N := some 45) #[true, true, true, false, false] rfl rfl (by kernel_rfl) (by decide) (fun K hK => ?_)
            refine goes_ Try.func17 (by kernel_rfl) rfl #[.agg #[.slice A0_0 l0_0.length c0_0, .slice A0_1 l0_1.length c0_1]] (by rfl) rfl rfl (by (try simp only [List.map_toArray, List.map_cons, List.map_nil]); first | done | rfl | (simp only [List.length_drop, List.length_take]; rfl)) ?_
            with_reducible refine (laws_toEnding.calls kj12 _ _ l0_0 _ _ l0_1 t401 t404 _ ?side1 ?side2 ?side3 ?side4 A32.out).mono ?_
            (case side1 => repeat (first | exact (Kd.C_below HR0_0.out HB.out) | (with_reducible refine Kd.C_alloc ?_ _) | (with_reducible refine Kd.C_drewN ?_ _) | (with_reducible refine Kd.C_drew ?_)))
            (case side2 => exact HC0_0.out)
            (case side3 => repeat (first | exact (Kd.C_below HR0_1.out HB.out) | (with_reducible refine Kd.C_alloc ?_ _) | (with_reducible refine Kd.C_drewN ?_ _) | (with_reducible refine Kd.C_drew ?_)))
            (case side4 => exact HC0_1.out)
            rintro e w36 ⟨v402, v405, rfl, ho0, ho1, hb⟩
            refine ⟨_, rfl, ?_⟩
            have n0_ := Aside0.mk (Kd.R_mono (Kd.R_told (Kd.R_told (Kd.R_old (by (with_reducible repeat (first | apply Kd.R_alloc | apply Kd.R_drewN | apply Kd.R_drew)); exact HO_399000.out) hb) (Kd.R_base ho0)) (Kd.R_base ho1)) (fun _ h_ => h_.1))
            have n1_ := Aside0.mk (Kd.R_mono (Kd.R_told (Kd.R_told (Kd.R_old (by (with_reducible repeat (first | apply Kd.R_alloc | apply Kd.R_drewN | apply Kd.R_drew)); exact HO_399001.out) hb) (Kd.R_base ho0)) (Kd.R_base ho1)) (fun _ h_ => h_.1))
            have n2_ := Aside0.mk (Kd.R_lower (Kd.R_new' (Kd.R_new' ho0 (Kd.R_lt (by (with_reducible repeat (first | apply Kd.R_alloc | apply Kd.R_drewN | apply Kd.R_drew)); exact HO_399000.out))) (Kd.R_lt (by (with_reducible repeat (first | apply Kd.R_alloc | apply Kd.R_drewN | apply Kd.R_drew)); exact HO_399001.out))) (below_size (by repeat (first | (with_reducible first | exact HB.out | apply below_alloc | apply pw_below_drewN | apply below_drew1 | refine below_set ?_ GE382.out | refine below_set ?_ GE398.out) | exact HB.out))))
            have n3_ := Aside0.mk (Kd.R_lower (Kd.R_new' (Kd.R_new' ho1 (Kd.R_lt (by (with_reducible repeat (first | apply Kd.R_alloc | apply Kd.R_drewN | apply Kd.R_drew)); exact HO_399000.out))) (Kd.R_lt (by (with_reducible repeat (first | apply Kd.R_alloc | apply Kd.R_drewN | apply Kd.R_drew)); exact HO_399001.out))) (below_size (by repeat (first | (with_reducible first | exact HB.out | apply below_alloc | apply pw_below_drewN | apply below_drew1 | refine below_set ?_ GE382.out | refine below_set ?_ GE398.out) | exact HB.out))))
            have n4_ := Aside0.mk (blk_below (g := gb382) (o := .cells #[.slice A0_0 l0_0.length c0_0, .slice A0_1 l0_1.length c0_1] 24 (0, 0)) (by (with_reducible repeat (first | refine blk_drewN ?_ _ | refine blk_drew ?_ | refine blk_alloc ?_ _)); exact BK382.out) hb)
            have n5_ := Aside0.mk (blk_below (g := gb398) (o := .cells #[.slice Ao25 t392.length co25, .slice Ao28 t395.length co28] 27 (0, 0)) (by (with_reducible repeat (first | refine blk_drewN ?_ _ | refine blk_drew ?_ | refine blk_alloc ?_ _)); exact BK398.out) hb)
            have n6_ := Aside0.mk (below_step (by repeat (first | (with_reducible first | exact HB.out | apply below_alloc | apply pw_below_drewN | apply below_drew1 | refine below_set ?_ GE382.out | refine below_set ?_ GE398.out) | exact HB.out)) hb)
            clear HO_399000
            clear HO_399001
            clear BK382
            clear BK398
            clear HB
            have HO_399000 := n0_
            have HO_399001 := n1_
            have HO403 := n2_
            have HO406 := n3_
            have BK382 := n4_
            have BK398 := n5_
            have HB := n6_
            clear n0_ n1_ n2_ n3_ n4_ n5_ n6_
            (try clear hb)
            (try clear hb2)
            (try clear hk)
            (try clear hi)
            (try clear ho0)
            (try clear ho1)
            obtain ⟨Ao37, co37, eo37⟩ := Kd.R_slice HO403.out
            (first | subst eo37 | (injection eo37 with f1_ f2_ f3_; have f4_ := f1_.symm; have f5_ := f3_.symm; clear f1_ f2_ f3_; subst f4_; subst f5_))
            obtain ⟨Ao38, co38, eo38⟩ := Kd.R_slice HO406.out
            (first | subst eo38 | (injection eo38 with f1_ f2_ f3_; have f4_ := f1_.symm; have f5_ := f3_.symm; clear f1_ f2_ f3_; subst f4_; subst f5_))
            refine hK.out _ _ ⟨(blk_cell BK398.out 0).trans rfl, (blk_cell BK398.out 1).trans rfl, (blk_cell BK382.out 0).trans rfl, (blk_cell BK382.out 1).trans rfl⟩ (fun hHeld => ?_)
            clear hK K
            refine norm_ (a' := ?_) ?_ ?_
            rotate_left
            · show Act.put _ (some 45) _ = _
              simp only [Act.put, List.setIfInBounds_toArray, List.set_cons_zero, List.set_cons_succ, i64_w, i32_w]
              rfl
            refine one_ (i := 3) (N := some 46) #[true, true, true, true, false] rfl rfl (by kernel_rfl) (by decide) (fun K hK => ?_)
            refine goes_ Try.func19 (by kernel_rfl) rfl #[.agg #[.slice Ao25 t392.length co25, .slice Ao28 t395.length co28], .agg #[.slice Ao37 t401.length co37, .slice Ao38 t404.length co38]] (by rfl) rfl rfl (by (try simp only [List.map_toArray, List.map_cons, List.map_nil]); first | done | rfl | (simp only [List.length_drop, List.length_take]; rfl)) ?_
            with_reducible refine (laws_eqEnding.calls kj12 _ _ t392 _ _ t395 _ _ t401 _ _ t404 true _ ?side1 ?side2 ?side3 ?side4 ?side5 ?side6 ?side7 ?side8 A33.out).mono ?_
            (case side1 => repeat (first | exact (Kd.R_reads' HO_399000.out).2.2 | (with_reducible refine Kd.C_alloc ?_ _) | (with_reducible refine Kd.C_drewN ?_ _) | (with_reducible refine Kd.C_drew ?_)))
            (case side2 => exact (Kd.R_reads' HO_399000.out).2.1)
            (case side3 => repeat (first | exact (Kd.R_reads' HO_399001.out).2.2 | (with_reducible refine Kd.C_alloc ?_ _) | (with_reducible refine Kd.C_drewN ?_ _) | (with_reducible refine Kd.C_drew ?_)))
            (case side4 => exact (Kd.R_reads' HO_399001.out).2.1)
            (case side5 => repeat (first | exact (Kd.R_reads' HO403.out).2.2 | (with_reducible refine Kd.C_alloc ?_ _) | (with_reducible refine Kd.C_drewN ?_ _) | (with_reducible refine Kd.C_drew ?_)))
            (case side6 => exact (Kd.R_reads' HO403.out).2.1)
            (case side7 => repeat (first | exact (Kd.R_reads' HO406.out).2.2 | (with_reducible refine Kd.C_alloc ?_ _) | (with_reducible refine Kd.C_drewN ?_ _) | (with_reducible refine Kd.C_drew ?_)))
            (case side8 => exact (Kd.R_reads' HO406.out).2.1)
            rintro e w39 ⟨rfl, hb⟩
            refine ⟨_, rfl, ?_⟩
            have n0_ := Aside0.mk (Kd.R_below (by (with_reducible repeat (first | apply Kd.R_alloc | apply Kd.R_drewN | apply Kd.R_drew)); exact HO_399000.out) hb)
            have n1_ := Aside0.mk (Kd.R_below (by (with_reducible repeat (first | apply Kd.R_alloc | apply Kd.R_drewN | apply Kd.R_drew)); exact HO_399001.out) hb)
            have n2_ := Aside0.mk (Kd.R_below (by (with_reducible repeat (first | apply Kd.R_alloc | apply Kd.R_drewN | apply Kd.R_drew)); exact HO403.out) hb)
            have n3_ := Aside0.mk (Kd.R_below (by (with_reducible repeat (first | apply Kd.R_alloc | apply Kd.R_drewN | apply Kd.R_drew)); exact HO406.out) hb)
            have n4_ := Aside0.mk (blk_below (g := gb382) (o := .cells #[.slice A0_0 l0_0.length c0_0, .slice A0_1 l0_1.length c0_1] 24 (0, 0)) (by (with_reducible repeat (first | refine blk_drewN ?_ _ | refine blk_drew ?_ | refine blk_alloc ?_ _)); exact BK382.out) hb)
            have n5_ := Aside0.mk (blk_below (g := gb398) (o := .cells #[.slice Ao25 t392.length co25, .slice Ao28 t395.length co28] 27 (0, 0)) (by (with_reducible repeat (first | refine blk_drewN ?_ _ | refine blk_drew ?_ | refine blk_alloc ?_ _)); exact BK398.out) hb)
            have n6_ := Aside0.mk (below_step (by repeat (first | (with_reducible first | exact HB.out | apply below_alloc | apply pw_below_drewN | apply below_drew1 | refine below_set ?_ GE382.out | refine below_set ?_ GE398.out) | exact HB.out)) hb)
            clear HO_399000
            clear HO_399001
            clear HO403
            clear HO406
            clear BK382
            clear BK398
            clear HB
            have HO_399000 := n0_
            have HO_399001 := n1_
            have HO403 := n2_
            have HO406 := n3_
            have BK382 := n4_
            have BK398 := n5_
            have HB := n6_
            clear n0_ n1_ n2_ n3_ n4_ n5_ n6_
            (try clear hb)
            (try clear hb2)
            (try clear hk)
            (try clear hi)
            refine hK.out _ _ ⟨(blk_cell BK398.out 0).trans rfl, (blk_cell BK398.out 1).trans rfl, (blk_cell BK382.out 0).trans rfl, (blk_cell BK382.out 1).trans rfl⟩ (fun hHeld => ?_)
            clear hK K
            refine norm_ (a' := ?_) ?_ ?_
            rotate_left
            · show Act.put _ (some 46) _ = _
              simp only [Act.put, List.setIfInBounds_toArray, List.set_cons_zero, List.set_cons_succ, i64_w, i32_w]
              rfl
            refine pure_ (i := 4) (N := some 47) (v := ?_) (a' := ?_) #[true, true, true, true, true] rfl rfl (by kernel_rfl) (fun _ _ _ h => h) (Or.inl ⟨by rfl, ?_⟩) ?_ ?_
            rotate_left
            · intro w'
              go_simp
              with_reducible rfl
            rotate_left
            · simp only [Act.put, List.setIfInBounds_toArray, List.set_cons_zero, List.set_cons_succ, i64_w, i32_w]
              rfl
            refine done_ (by kernel_rfl) ?_
            try go_wp2
            go_ret
            exact ⟨by first | rfl | (simp [errW_none, errW_some] <;> rfl) | (simp [*, errW_none, errW_some] <;> rfl), by repeat (first | (with_reducible first | exact HB.out | apply below_alloc | apply pw_below_drewN | apply below_drew1 | refine below_set ?_ GE382.out | refine below_set ?_ GE398.out) | exact HB.out)⟩
          · replace c34 := Bool.eq_false_iff.mpr c34
            subst c34
            have H1 : (some false) = some r := by rw [if_neg (show ¬ (false = true) by decide)] at H; exact H
            clear H
            have H := H1
            clear H1
            obtain rfl := Option.some.inj H
            try go_wp2
            have n0_ := Aside0.mk (Kd.R_drew HO_399000.out)
            have n1_ := Aside0.mk (Kd.R_drew HO_399001.out)
            have n2_ := Aside0.mk (blk_drew BK382.out)
            have n3_ := Aside0.mk (blk_drew BK398.out)
            have n4_ := Aside0.mk (below_drew1 HB.out)
            clear HO_399000
            clear HO_399001
            clear BK382
            clear BK398
            clear HB
            have HO_399000 := n0_
            have HO_399001 := n1_
            have BK382 := n2_
            have BK398 := n3_
            have HB := n4_
            clear n0_ n1_ n2_ n3_ n4_
            refine start_ (n := 5) (S := fun w' => w'.cell? ⟨gb398, 0, none⟩ = some (.slice Ao25 t392.length co25) ∧ w'.cell? ⟨gb398, 1, none⟩ = some (.slice Ao28 t395.length co28) ∧ w'.cell? ⟨gb382, 0, none⟩ = some (.slice A0_0 l0_0.length c0_0) ∧ w'.cell? ⟨gb382, 1, none⟩ = some (.slice A0_1 l0_1.length c0_1)) (ds := []) #[false, false, false, false, false] (by kernel_rfl) rfl rfl ⟨(blk_cell BK398.out 0).trans rfl, (blk_cell BK398.out 1).trans rfl, (blk_cell BK382.out 0).trans rfl, (blk_cell BK382.out 1).trans rfl⟩ (fun hHeld => ?_)
            generalize wc.drew = w40 at HO_399000 HO_399001 BK382 BK398 HB hHeld ⊢
            refine take_ (i := 0) (N := some 43) (v := ?_) (a' := ?_) #[true, false, false, false, false] rfl rfl (by kernel_rfl) (fun _ _ _ h => h) (Or.inl ⟨by rfl, ?_⟩) hHeld ?_ ?_
            rotate_left
            · rintro w' ⟨s0, s1, s2, s3⟩
              go_simp
              with_reducible rfl
            rotate_left
            · simp only [Act.put, List.setIfInBounds_toArray, List.set_cons_zero, List.set_cons_succ, i64_w, i32_w]
              rfl
            refine take_ (i := 1) (N := some 44) (v := ?_) (a' := ?_) #[true, true, false, false, false] rfl rfl (by kernel_rfl) (fun _ _ _ h => h) (Or.inl ⟨by rfl, ?_⟩) hHeld ?_ ?_
            rotate_left
            · rintro w' ⟨s0, s1, s2, s3⟩
              go_simp
              with_reducible rfl
            rotate_left
            · simp only [Act.put, List.setIfInBounds_toArray, List.set_cons_zero, List.set_cons_succ, i64_w, i32_w]
              rfl
            refine one_ (i := 2) (N := some 45) #[true, true, true, false, false] rfl rfl (by kernel_rfl) (by decide) (fun K hK => ?_)
            refine goes_ Try.func17 (by kernel_rfl) rfl #[.agg #[.slice A0_0 l0_0.length c0_0, .slice A0_1 l0_1.length c0_1]] (by rfl) rfl rfl (by (try simp only [List.map_toArray, List.map_cons, List.map_nil]); first | done | rfl | (simp only [List.length_drop, List.length_take]; rfl)) ?_
            with_reducible refine (laws_toEnding.calls kj12 _ _ l0_0 _ _ l0_1 t401 t404 _ ?side1 ?side2 ?side3 ?side4 A32.out).mono ?_
            (case side1 => repeat (first | exact (Kd.C_below HR0_0.out HB.out) | (with_reducible refine Kd.C_alloc ?_ _) | (with_reducible refine Kd.C_drewN ?_ _) | (with_reducible refine Kd.C_drew ?_)))
            (case side2 => exact HC0_0.out)
            (case side3 => repeat (first | exact (Kd.C_below HR0_1.out HB.out) | (with_reducible refine Kd.C_alloc ?_ _) | (with_reducible refine Kd.C_drewN ?_ _) | (with_reducible refine Kd.C_drew ?_)))
            (case side4 => exact HC0_1.out)
            rintro e w41 ⟨v402, v405, rfl, ho0, ho1, hb⟩
            refine ⟨_, rfl, ?_⟩
            have n0_ := Aside0.mk (Kd.R_mono (Kd.R_told (Kd.R_told (Kd.R_old (by (with_reducible repeat (first | apply Kd.R_alloc | apply Kd.R_drewN | apply Kd.R_drew)); exact HO_399000.out) hb) (Kd.R_base ho0)) (Kd.R_base ho1)) (fun _ h_ => h_.1))
            have n1_ := Aside0.mk (Kd.R_mono (Kd.R_told (Kd.R_told (Kd.R_old (by (with_reducible repeat (first | apply Kd.R_alloc | apply Kd.R_drewN | apply Kd.R_drew)); exact HO_399001.out) hb) (Kd.R_base ho0)) (Kd.R_base ho1)) (fun _ h_ => h_.1))
            have n2_ := Aside0.mk (Kd.R_lower (Kd.R_new' (Kd.R_new' ho0 (Kd.R_lt (by (with_reducible repeat (first | apply Kd.R_alloc | apply Kd.R_drewN | apply Kd.R_drew)); exact HO_399000.out))) (Kd.R_lt (by (with_reducible repeat (first | apply Kd.R_alloc | apply Kd.R_drewN | apply Kd.R_drew)); exact HO_399001.out))) (below_size (by repeat (first | (with_reducible first | exact HB.out | apply below_alloc | apply pw_below_drewN | apply below_drew1 | refine below_set ?_ GE382.out | refine below_set ?_ GE398.out) | exact HB.out))))
            have n3_ := Aside0.mk (Kd.R_lower (Kd.R_new' (Kd.R_new' ho1 (Kd.R_lt (by (with_reducible repeat (first | apply Kd.R_alloc | apply Kd.R_drewN | apply Kd.R_drew)); exact HO_399000.out))) (Kd.R_lt (by (with_reducible repeat (first | apply Kd.R_alloc | apply Kd.R_drewN | apply Kd.R_drew)); exact HO_399001.out))) (below_size (by repeat (first | (with_reducible first | exact HB.out | apply below_alloc | apply pw_below_drewN | apply below_drew1 | refine below_set ?_ GE382.out | refine below_set ?_ GE398.out) | exact HB.out))))
            have n4_ := Aside0.mk (blk_below (g := gb382) (o := .cells #[.slice A0_0 l0_0.length c0_0, .slice A0_1 l0_1.length c0_1] 24 (0, 0)) (by (with_reducible repeat (first | refine blk_drewN ?_ _ | refine blk_drew ?_ | refine blk_alloc ?_ _)); exact BK382.out) hb)
            have n5_ := Aside0.mk (blk_below (g := gb398) (o := .cells #[.slice Ao25 t392.length co25, .slice Ao28 t395.length co28] 27 (0, 0)) (by (with_reducible repeat (first | refine blk_drewN ?_ _ | refine blk_drew ?_ | refine blk_alloc ?_ _)); exact BK398.out) hb)
            have n6_ := Aside0.mk (below_step (by repeat (first | (with_reducible first | exact HB.out | apply below_alloc | apply pw_below_drewN | apply below_drew1 | refine below_set ?_ GE382.out | refine below_set ?_ GE398.out) | exact HB.out)) hb)
            clear HO_399000
            clear HO_399001
            clear BK382
            clear BK398
            clear HB
            have HO_399000 := n0_
            have HO_399001 := n1_
            have HO403 := n2_
            have HO406 := n3_
            have BK382 := n4_
            have BK398 := n5_
            have HB := n6_
            clear n0_ n1_ n2_ n3_ n4_ n5_ n6_
            (try clear hb)
            (try clear hb2)
            (try clear hk)
            (try clear hi)
            (try clear ho0)
            (try clear ho1)
            obtain ⟨Ao42, co42, eo42⟩ := Kd.R_slice HO403.out
            (first | subst eo42 | (injection eo42 with f1_ f2_ f3_; have f4_ := f1_.symm; have f5_ := f3_.symm; clear f1_ f2_ f3_; subst f4_; subst f5_))
            obtain ⟨Ao43, co43, eo43⟩ := Kd.R_slice HO406.out
            (first | subst eo43 | (injection eo43 with f1_ f2_ f3_; have f4_ := f1_.symm; have f5_ := f3_.symm; clear f1_ f2_ f3_; subst f4_; subst f5_))
            refine hK.out _ _ ⟨(blk_cell BK398.out 0).trans rfl, (blk_cell BK398.out 1).trans rfl, (blk_cell BK382.out 0).trans rfl, (blk_cell BK382.out 1).trans rfl⟩ (fun hHeld => ?_)
            clear hK K
            refine norm_ (a' := ?_) ?_ ?_
            rotate_left
            · show Act.put _ (some 45) _ = _
              simp only [Act.put, List.setIfInBounds_toArray, List.set_cons_zero, List.set_cons_succ, i64_w, i32_w]
              rfl
            refine one_ (i := 3) (N := some 46) #[true, true, true, true, false] rfl rfl (by kernel_rfl) (by decide) (fun K hK => ?_)
            refine goes_ Try.func19 (by kernel_rfl) rfl #[.agg #[.slice Ao25 t392.length co25, .slice Ao28 t395.length co28], .agg #[.slice Ao42 t401.length co42, .slice Ao43 t404.length co43]] (by rfl) rfl rfl (by (try simp only [List.map_toArray, List.map_cons, List.map_nil]); first | done | rfl | (simp only [List.length_drop, List.length_take]; rfl)) ?_
            with_reducible refine (laws_eqEnding.calls kj12 _ _ t392 _ _ t395 _ _ t401 _ _ t404 false _ ?side1 ?side2 ?side3 ?side4 ?side5 ?side6 ?side7 ?side8 A33.out).mono ?_
            (case side1 => repeat (first | exact (Kd.R_reads' HO_399000.out).2.2 | (with_reducible refine Kd.C_alloc ?_ _) | (with_reducible refine Kd.C_drewN ?_ _) | (with_reducible refine Kd.C_drew ?_)))
            (case side2 => exact (Kd.R_reads' HO_399000.out).2.1)
            (case side3 => repeat (first | exact (Kd.R_reads' HO_399001.out).2.2 | (with_reducible refine Kd.C_alloc ?_ _) | (with_reducible refine Kd.C_drewN ?_ _) | (with_reducible refine Kd.C_drew ?_)))
            (case side4 => exact (Kd.R_reads' HO_399001.out).2.1)
            (case side5 => repeat (first | exact (Kd.R_reads' HO403.out).2.2 | (with_reducible refine Kd.C_alloc ?_ _) | (with_reducible refine Kd.C_drewN ?_ _) | (with_reducible refine Kd.C_drew ?_)))
            (case side6 => exact (Kd.R_reads' HO403.out).2.1)
            (case side7 => repeat (first | exact (Kd.R_reads' HO406.out).2.2 | (with_reducible refine Kd.C_alloc ?_ _) | (with_reducible refine Kd.C_drewN ?_ _) | (with_reducible refine Kd.C_drew ?_)))
            (case side8 => exact (Kd.R_reads' HO406.out).2.1)
            rintro e w44 ⟨rfl, hb⟩
            refine ⟨_, rfl, ?_⟩
            have n0_ := Aside0.mk (Kd.R_below (by (with_reducible repeat (first | apply Kd.R_alloc | apply Kd.R_drewN | apply Kd.R_drew)); exact HO_399000.out) hb)
            have n1_ := Aside0.mk (Kd.R_below (by (with_reducible repeat (first | apply Kd.R_alloc | apply Kd.R_drewN | apply Kd.R_drew)); exact HO_399001.out) hb)
            have n2_ := Aside0.mk (Kd.R_below (by (with_reducible repeat (first | apply Kd.R_alloc | apply Kd.R_drewN | apply Kd.R_drew)); exact HO403.out) hb)
            have n3_ := Aside0.mk (Kd.R_below (by (with_reducible repeat (first | apply Kd.R_alloc | apply Kd.R_drewN | apply Kd.R_drew)); exact HO406.out) hb)
            have n4_ := Aside0.mk (blk_below (g := gb382) (o := .cells #[.slice A0_0 l0_0.length c0_0, .slice A0_1 l0_1.length c0_1] 24 (0, 0)) (by (with_reducible repeat (first | refine blk_drewN ?_ _ | refine blk_drew ?_ | refine blk_alloc ?_ _)); exact BK382.out) hb)
            have n5_ := Aside0.mk (blk_below (g := gb398) (o := .cells #[.slice Ao25 t392.length co25, .slice Ao28 t395.length co28] 27 (0, 0)) (by (with_reducible repeat (first | refine blk_drewN ?_ _ | refine blk_drew ?_ | refine blk_alloc ?_ _)); exact BK398.out) hb)
            have n6_ := Aside0.mk (below_step (by repeat (first | (with_reducible first | exact HB.out | apply below_alloc | apply pw_below_drewN | apply below_drew1 | refine below_set ?_ GE382.out | refine below_set ?_ GE398.out) | exact HB.out)) hb)
            clear HO_399000
            clear HO_399001
            clear HO403
            clear HO406
            clear BK382
            clear BK398
            clear HB
            have HO_399000 := n0_
            have HO_399001 := n1_
            have HO403 := n2_
            have HO406 := n3_
            have BK382 := n4_
            have BK398 := n5_
            have HB := n6_
            clear n0_ n1_ n2_ n3_ n4_ n5_ n6_
            (try clear hb)
            (try clear hb2)
            (try clear hk)
            (try clear hi)
            refine hK.out _ _ ⟨(blk_cell BK398.out 0).trans rfl, (blk_cell BK398.out 1).trans rfl, (blk_cell BK382.out 0).trans rfl, (blk_cell BK382.out 1).trans rfl⟩ (fun hHeld => ?_)
            clear hK K
            refine norm_ (a' := ?_) ?_ ?_
            rotate_left
            · show Act.put _ (some 46) _ = _
              simp only [Act.put, List.setIfInBounds_toArray, List.set_cons_zero, List.set_cons_succ, i64_w, i32_w]
              rfl
            refine pure_ (i := 4) (N := some 47) (v := ?_) (a' := ?_) #[true, true, true, true, true] rfl rfl (by kernel_rfl) (fun _ _ _ h => h) (Or.inl ⟨by rfl, ?_⟩) ?_ ?_
            rotate_left
            · intro w'
              go_simp
              with_reducible rfl
            rotate_left
            · simp only [Act.put, List.setIfInBounds_toArray, List.set_cons_zero, List.set_cons_succ, i64_w, i32_w]
              rfl
            refine done_ (by kernel_rfl) ?_
            try go_wp2
            go_ret
            exact ⟨by first | rfl | (simp [errW_none, errW_some] <;> rfl) | (simp [*, errW_none, errW_some] <;> rfl), by repeat (first | (with_reducible first | exact HB.out | apply below_alloc | apply pw_below_drewN | apply below_drew1 | refine below_set ?_ GE382.out | refine below_set ?_ GE398.out) | exact HB.out)⟩

end Go.Proofs.Ytkbjoiebaphdoaa.PX

/- The reference's best answer: as the program's (condition: lists that fit). -/
namespace Go.Proofs.Ytkbjoiebaphdoaa.PX
open Go.RowKit Go.Proofs.YtkbjoiebaphdoaaW.PrintWords Go.Proofs.YtkbjoiebaphdoaaW.PrintLast Go.Proofs.YtkbjoiebaphdoaaW.PrintMore
attribute [local go_sem] max2_int min2_int max_two min_two max_three min_three max_four min_four
set_option linter.unusedVariables false
set_option linter.unusedSimpArgs false
theorem specBestAnswer_ev (a b : List Int) (o : Bool × Int) (ha : a.length ≤ 1048576) (hb : b.length ≤ 1048576) : Ev (fun k => spec_BestAnswer.f k a b o.1 o.2) (ansVal a b o) := by
  unfold spec_BestAnswer.f ansVal
  refine Ev.bind (l04Is_ev a b ha hb) ?_
  cases hE : isEnd a b with
  | false => exact Ev.congr (f := fun _ => some (false, 1)) (fun k => rfl) (Ev.now _)
  | true =>
    obtain ⟨hC, hL, h8⟩ := isEnd_ok hE
    rw [if_pos rfl]
    refine Ev.congr (fun k => by rw [if_pos rfl]) (Ev.bind (withoutR_ev a b o (by omega) (by omega)) ?_)
    cases hI : isIn a b o with
    | false => exact Ev.congr (f := fun _ => some (false, 5)) (fun k => rfl) (Ev.now _)
    | true =>
      have ho := isIn_opens.1 hI
      have hl := less_len ho
      refine Ev.congr (f := fun _ => some ((worth a b o).2, 0)) (fun k => ?_) (Ev.now _)
      rw [if_pos (show (lessC a o, lessL b o, true).2.2 = true from rfl)]
      unfold spec_l04Value.f
      show (fV 8 (lessC a o) (lessL b o)).bind _ = _
      rw [fV_of (less_okC hC) (less_okL hL) (by omega), Option.bind_some, answerR_eq o _ (opens_size hC hL ho) (rest_le hC hL h8 ho)]
      rfl
theorem implBestAnswer_ev (a b : List Int) (o : Bool × Int) (h : (a.length : Int) + (b.length : Int) ≤ 1048576) : Ev (fun k => impl_BestAnswer.f k a b o.1 o.2) (ansVal a b o) :=
  Ev.congr (f := fun _ => some (ansVal a b o)) (fun k => if_pos ⟨by omega, by omega, by omega⟩) (Ev.now _)

end Go.Proofs.Ytkbjoiebaphdoaa.PX

/- BestAnswer: both sides answer alike (condition: sizes that fit). -/
namespace Go.Proofs.Ytkbjoiebaphdoaa.Pure
open Go.RowKit Go.Proofs.Ytkbjoiebaphdoaa.PX Go.Proofs.YtkbjoiebaphdoaaW.PrintWords Go.Proofs.YtkbjoiebaphdoaaW.PrintLast Go.Proofs.YtkbjoiebaphdoaaW.PrintMore
set_option linter.unusedSimpArgs false
set_option linter.unusedVariables false

theorem FnExactBestAnswer : ∀ (l0_0 : List Int) (l0_1 : List Int) (a1 : Bool) (a2 : Int), (l0_0.length ≤ 9223372036854775807 ∧ ∀ x0 ∈ l0_0, (Lit.int .i64 x0).wf = true) → (l0_1.length ≤ 9223372036854775807 ∧ ∀ x0 ∈ l0_1, (Lit.int .i64 x0).wf = true) → (Lit.int .i64 a2).wf = true → ∃ k, laws_FnExactBestAnswer.f k l0_0 l0_1 a1 a2 = some true := by
  intro a b ol ob ha hb hob
  obtain ⟨t, hs, ht⟩ := szE_eq a b ha.1 hb.1
  refine Ev.rounds (r := true) ?_
  unfold laws_FnExactBestAnswer.f
  rw [hs]
  rcases ht with ht | ⟨h0, h1⟩
  · exact Ev.congr (f := fun _ => some true) (fun k => by rw [Option.bind_some, if_pos ht]) (Ev.now true)
  · have hT := toE_ev a b h1
    refine Ev.congr (fun k => by rw [Option.bind_some, if_neg (by omega)]) (Ev.bind hT ?_)
    refine Ev.bind (specBestAnswer_ev a b (ol, ob) (by omega) (by omega)) ?_
    refine Ev.bind hT ?_
    refine Ev.bind (implBestAnswer_ev a b (ol, ob) h1) ?_
    refine Ev.congr (fun k => by rw [if_neg (by rw [bne_self_eq_false]; decide), bne_self_eq_false]) ?_
    refine Ev.step (f := fun k => (laws_toEnding.f k a b).bind fun bt => (laws_eqEnding.f k a b bt.1 bt.2).bind fun t => if t = true then some true else some false) (fun k => ?_) ?_
    · simp only [laws_FnExactBestAnswer.j0]
      rw [if_neg (by decide)]
    · refine Ev.bind hT (Ev.bind (eqE_ev a b h1) ?_)
      exact Ev.congr (f := fun _ => some true) (fun k => by rw [if_pos rfl]) (Ev.now true)

end Go.Proofs.Ytkbjoiebaphdoaa.Pure
