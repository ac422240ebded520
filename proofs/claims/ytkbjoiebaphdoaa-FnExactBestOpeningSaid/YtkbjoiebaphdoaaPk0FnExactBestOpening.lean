/- Part 0 of the texts under the row of FnExactBestOpening (no condition). -/
import Derived.Laws.EntriesVeiled
import Derived.Test.YtkbjoiebaphdoaaPk7FnExactEndingValue
namespace Go.Proofs.Ytkbjoiebaphdoaa.PX
open Go.RowKit Go.Proofs.YtkbjoiebaphdoaaW.PrintWords Go.Proofs.YtkbjoiebaphdoaaW.PrintLast Go.Proofs.YtkbjoiebaphdoaaW.PrintMore
attribute [local go_sem] max2_int min2_int max_two min_two max_three min_three max_four min_four   -- for this text's walks alone
set_option linter.unusedVariables false
set_option linter.unusedSimpArgs false

/-! ### spec_BestOpening: function 32 -/
def spec_BestOpening.f (k : Nat) (l0_0 : List Int) (l0_1 : List Int) : Option (Bool × Int × Int) := (spec_l04Is.f k l0_0 l0_1).bind fun t427 => (if t427 = true then (if (wrap64 ((l0_0.length : Int) + (l0_1.length : Int))) = 0 then (some (false, 0, 5)) else ((spec_l04Opening.f k l0_0 l0_1).bind fun bt428 => (some (bt428.1, bt428.2.1, 0)))) else (some (false, 0, 1)))
theorem spec_BestOpening.mono : ∀ a0 a1 k, LeO (spec_BestOpening.f k a0 a1) (spec_BestOpening.f (k + 1) a0 a1) := by
  intro a0 a1 k
  unfold spec_BestOpening.f
  repeat' first
      | (with_reducible exact spec_l04Is.mono _ _ _)
      | (with_reducible exact spec_l04Opening.mono _ _ _)
      | (with_reducible exact LeO.refl _)
      | (with_reducible exact LeO.none _)
      | (with_reducible refine LeO.ite ?_ ?_)
      | (with_reducible refine LeO.bind ?_ (fun _ => ?_))
      | exact spec_l04Is.mono _ _ _
      | exact spec_l04Opening.mono _ _ _
      | exact LeO.none _
      | refine LeO.ite ?_ ?_
      | refine LeO.bind ?_ (fun _ => ?_)
set_option maxHeartbeats 8000000 in
set_option maxRecDepth 100000 in
theorem spec_BestOpening.calls (k : Nat) (A0_0 : Option Addr) (c0_0 : Nat) (l0_0 : List Int) (A0_1 : Option Addr) (c0_1 : Nat) (l0_1 : List Int) (r1 : Bool) (r2 : Int) (r3 : Int) (w : World) (hr0_0 : Kd.C (Kd.int .i64) w A0_0 l0_0.length l0_0) (hc0_0 : l0_0.length ≤ c0_0) (hr0_1 : Kd.C (Kd.int .i64) w A0_1 l0_1.length l0_1) (hc0_1 : l0_1.length ≤ c0_1) (h : spec_BestOpening.f k l0_0 l0_1 = some (r1, r2, r3)) :
    Calls Try.prog 32 #[.agg #[.slice A0_0 l0_0.length c0_0, .slice A0_1 l0_1.length c0_1]] w fun e w' => e = .returned (.tuple #[.bool r1, .int .i64 r2, .int .i64 r3]) ∧ Below w.heap.size w w' := by
  have hu27 := Try.underlying27
  have HR0_0 := Aside0.mk hr0_0
  have HC0_0 := Aside0.mk hc0_0
  clear hr0_0 hc0_0
  have HR0_1 := Aside0.mk hr0_1
  have HC0_1 := Aside0.mk hc0_1
  clear hr0_1 hc0_1
  have HB := Aside0.mk (Below.refl w.heap.size w)
  have H : ((spec_l04Is.f k l0_0 l0_1).bind fun t427 => (if t427 = true then (if (wrap64 ((l0_0.length : Int) + (l0_1.length : Int))) = 0 then (some (false, 0, 5)) else ((spec_l04Opening.f k l0_0 l0_1).bind fun bt428 => (some (bt428.1, bt428.2.1, 0)))) else (some (false, 0, 1)))) = some (r1, r2, r3) := h
  clear h
  replace H := Option.bind_eq_some_iff.mp H
  obtain ⟨t427, A20, H⟩ := H
  replace H : (if t427 = true then (if (wrap64 ((l0_0.length : Int) + (l0_1.length : Int))) = 0 then (some (false, 0, 5)) else ((spec_l04Opening.f k l0_0 l0_1).bind fun bt428 => (some (bt428.1, bt428.2.1, 0)))) else (some (false, 0, 1))) = some (r1, r2, r3) := H
  have A2 := Aside0.mk A20
  clear A20
  by_cases c3 : t427 = true
  · subst c3
    have H1 : (if (wrap64 ((l0_0.length : Int) + (l0_1.length : Int))) = 0 then (some (false, 0, 5)) else ((spec_l04Opening.f k l0_0 l0_1).bind fun bt428 => (some (bt428.1, bt428.2.1, 0)))) = some (r1, r2, r3) := by rw [if_pos rfl] at H; exact H
    clear H
    have H := H1
    clear H1
    by_cases c4 : (wrap64 ((l0_0.length : Int) + (l0_1.length : Int))) = 0
    · rw [if_pos c4] at H
      have c4b0 : ((wrap64 ((l0_0.length : Int) + (l0_1.length : Int))) == 0) = true := beq_iff_eq.mpr c4
      have c4b1 : ((wrap64 ((l0_0.length : Int) + (l0_1.length : Int))) != 0) = false := bne_eq_false_iff_eq.mpr c4
      clear c4
      simp only [Option.some.injEq, Prod.mk.injEq] at H
      obtain ⟨rfl, rfl, rfl⟩ := H
      go_enter Try.func32, Try.ntmps32
      go_wp2_with (first | ((with_reducible refine gate_dst (N := 1) rfl ?_); refine box_event ?hg (N := 1) ?hd (cs := #[.slice A0_0 l0_0.length c0_0, .slice A0_1 l0_1.length c0_1]) (t := 27) ?hr ?_; (case hd => rfl); (case hg => rfl); (case hr => first | (go_simp; done) | (go_simp; rfl)); intro gb426 hg w5 hbox hb; have n0_ := Aside0.mk (below_step (by repeat (first | (with_reducible first | exact HB.out | apply below_alloc | apply pw_below_drewN | apply below_drew1) | exact HB.out)) hb); have n1_ := Aside0.mk (hbox); have n2_ := Aside0.mk ((by rw [hg]; exact (below_size (by repeat (first | (with_reducible first | exact HB.out | apply below_alloc | apply pw_below_drewN | apply below_drew1) | exact HB.out))) : w.heap.size ≤ gb426)); have n3_ := Aside0.mk ((by rw [hg]; exact (below_size (by repeat (first | (with_reducible first | exact HB.out | apply below_alloc | apply pw_below_drewN | apply below_drew1) | exact HB.out))) : w.heap.size ≤ gb426)); clear HB; have HB := n0_; have BK426 := n1_; have GW426 := n2_; have GE426 := n3_; clear n0_ n1_ n2_ n3_; clear hb hbox hg; have hcz6_0 : w5.cell? ⟨gb426, 0, none⟩ = some (.slice A0_0 l0_0.length c0_0) := (blk_cell BK426.out 0).trans rfl; have hcz6_1 : w5.cell? ⟨gb426, 1, none⟩ = some (.slice A0_1 l0_1.length c0_1) := (blk_cell BK426.out 1).trans rfl; have hfz6_0 := blk_frozen BK426.out 0; have hfz6_1 := blk_frozen BK426.out 1) | ((with_reducible refine gate_callee (f := 61) rfl ?_); refine goesL_ (some 10) rfl rfl Try.func61 (by kernel_rfl) rfl #[.agg #[.slice A0_0 l0_0.length c0_0, .slice A0_1 l0_1.length c0_1]] rfl (by (try simp only [List.map_toArray, List.map_cons, List.map_nil]); first | done | rfl | (simp only [List.length_drop, List.length_take]; rfl)) ?_; (with_reducible refine (spec_l04Is.calls k _ _ l0_0 _ _ l0_1 true _ ?side1 ?side2 ?side3 ?side4 A2.out).mono ?_); (case side1 => repeat (first | exact (Kd.C_below HR0_0.out HB.out) | (with_reducible refine Kd.C_alloc ?_ _) | (with_reducible refine Kd.C_drewN ?_ _) | (with_reducible refine Kd.C_drew ?_))); (case side2 => exact HC0_0.out); (case side3 => repeat (first | exact (Kd.C_below HR0_1.out HB.out) | (with_reducible refine Kd.C_alloc ?_ _) | (with_reducible refine Kd.C_drewN ?_ _) | (with_reducible refine Kd.C_drew ?_))); (case side4 => exact HC0_1.out); rintro e w7 ⟨rfl, hb⟩; refine ⟨_, rfl, ?_⟩; have n0_ := Aside0.mk (blk_below (g := gb426) (o := .cells #[.slice A0_0 l0_0.length c0_0, .slice A0_1 l0_1.length c0_1] 27 (0, 0)) (by (with_reducible repeat (first | refine blk_drewN ?_ _ | refine blk_drew ?_ | refine blk_alloc ?_ _)); exact BK426.out) hb); have n1_ := Aside0.mk (below_step (by repeat (first | (with_reducible first | exact HB.out | apply below_alloc | apply pw_below_drewN | apply below_drew1 | refine below_set ?_ GE426.out) | exact HB.out)) hb); clear BK426; clear HB; have BK426 := n0_; have HB := n1_; clear n0_ n1_; (try clear hb); (try clear hb2); (try clear hk); (try clear hi); have hcz8_0 : w7.cell? ⟨gb426, 0, none⟩ = some (.slice A0_0 l0_0.length c0_0) := (blk_cell BK426.out 0).trans rfl; have hcz8_1 : w7.cell? ⟨gb426, 1, none⟩ = some (.slice A0_1 l0_1.length c0_1) := (blk_cell BK426.out 1).trans rfl; have hfz8_0 := blk_frozen BK426.out 0; have hfz8_1 := blk_frozen BK426.out 1))
      go_ret3
      exact ⟨by first | rfl | (simp [errW_none, errW_some] <;> rfl) | (simp [*, errW_none, errW_some] <;> rfl), by repeat (first | (with_reducible first | exact HB.out | apply below_alloc | apply pw_below_drewN | apply below_drew1 | refine below_set ?_ GE426.out) | exact HB.out)⟩
    · rw [if_neg c4] at H
      have c4b0 : ((wrap64 ((l0_0.length : Int) + (l0_1.length : Int))) == 0) = false := beq_eq_false_iff_ne.mpr c4
      have c4b1 : ((wrap64 ((l0_0.length : Int) + (l0_1.length : Int))) != 0) = true := bne_iff_ne.mpr c4
      replace H := Option.bind_eq_some_iff.mp H
      obtain ⟨⟨t428, t429, t430⟩, A90, H⟩ := H
      replace H : (some (t428, t429, 0)) = some (r1, r2, r3) := H
      have A9 := Aside0.mk A90
      clear A90
      simp only [Option.some.injEq, Prod.mk.injEq] at H
      obtain ⟨rfl, rfl, rfl⟩ := H
      go_enter Try.func32, Try.ntmps32
      go_wp2_with (first | ((with_reducible refine gate_dst (N := 1) rfl ?_); refine box_event ?hg (N := 1) ?hd (cs := #[.slice A0_0 l0_0.length c0_0, .slice A0_1 l0_1.length c0_1]) (t := 27) ?hr ?_; (case hd => rfl); (case hg => rfl); (case hr => first | (go_simp; done) | (go_simp; rfl)); intro gb426 hg w10 hbox hb; have n0_ := Aside0.mk (below_step (by repeat (first | (with_reducible first | exact HB.out | apply below_alloc | apply pw_below_drewN | apply below_drew1) | exact HB.out)) hb); have n1_ := Aside0.mk (hbox); have n2_ := Aside0.mk ((by rw [hg]; exact (below_size (by repeat (first | (with_reducible first | exact HB.out | apply below_alloc | apply pw_below_drewN | apply below_drew1) | exact HB.out))) : w.heap.size ≤ gb426)); have n3_ := Aside0.mk ((by rw [hg]; exact (below_size (by repeat (first | (with_reducible first | exact HB.out | apply below_alloc | apply pw_below_drewN | apply below_drew1) | exact HB.out))) : w.heap.size ≤ gb426)); clear HB; have HB := n0_; have BK426 := n1_; have GW426 := n2_; have GE426 := n3_; clear n0_ n1_ n2_ n3_; clear hb hbox hg; have hcz11_0 : w10.cell? ⟨gb426, 0, none⟩ = some (.slice A0_0 l0_0.length c0_0) := (blk_cell BK426.out 0).trans rfl; have hcz11_1 : w10.cell? ⟨gb426, 1, none⟩ = some (.slice A0_1 l0_1.length c0_1) := (blk_cell BK426.out 1).trans rfl; have hfz11_0 := blk_frozen BK426.out 0; have hfz11_1 := blk_frozen BK426.out 1) | ((with_reducible refine gate_callee (f := 61) rfl ?_); refine goesL_ (some 10) rfl rfl Try.func61 (by kernel_rfl) rfl #[.agg #[.slice A0_0 l0_0.length c0_0, .slice A0_1 l0_1.length c0_1]] rfl (by (try simp only [List.map_toArray, List.map_cons, List.map_nil]); first | done | rfl | (simp only [List.length_drop, List.length_take]; rfl)) ?_; (with_reducible refine (spec_l04Is.calls k _ _ l0_0 _ _ l0_1 true _ ?side1 ?side2 ?side3 ?side4 A2.out).mono ?_); (case side1 => repeat (first | exact (Kd.C_below HR0_0.out HB.out) | (with_reducible refine Kd.C_alloc ?_ _) | (with_reducible refine Kd.C_drewN ?_ _) | (with_reducible refine Kd.C_drew ?_))); (case side2 => exact HC0_0.out); (case side3 => repeat (first | exact (Kd.C_below HR0_1.out HB.out) | (with_reducible refine Kd.C_alloc ?_ _) | (with_reducible refine Kd.C_drewN ?_ _) | (with_reducible refine Kd.C_drew ?_))); (case side4 => exact HC0_1.out); rintro e w12 ⟨rfl, hb⟩; refine ⟨_, rfl, ?_⟩; have n0_ := Aside0.mk (blk_below (g := gb426) (o := .cells #[.slice A0_0 l0_0.length c0_0, .slice A0_1 l0_1.length c0_1] 27 (0, 0)) (by (with_reducible repeat (first | refine blk_drewN ?_ _ | refine blk_drew ?_ | refine blk_alloc ?_ _)); exact BK426.out) hb); have n1_ := Aside0.mk (below_step (by repeat (first | (with_reducible first | exact HB.out | apply below_alloc | apply pw_below_drewN | apply below_drew1 | refine below_set ?_ GE426.out) | exact HB.out)) hb); clear BK426; clear HB; have BK426 := n0_; have HB := n1_; clear n0_ n1_; (try clear hb); (try clear hb2); (try clear hk); (try clear hi); have hcz13_0 : w12.cell? ⟨gb426, 0, none⟩ = some (.slice A0_0 l0_0.length c0_0) := (blk_cell BK426.out 0).trans rfl; have hcz13_1 : w12.cell? ⟨gb426, 1, none⟩ = some (.slice A0_1 l0_1.length c0_1) := (blk_cell BK426.out 1).trans rfl; have hfz13_0 := blk_frozen BK426.out 0; have hfz13_1 := blk_frozen BK426.out 1) | ((with_reducible refine gate_callee (f := 77) rfl ?_); refine goesL_ (some 23) rfl rfl Try.func77 (by kernel_rfl) rfl #[.agg #[.slice A0_0 l0_0.length c0_0, .slice A0_1 l0_1.length c0_1]] rfl (by (try simp only [List.map_toArray, List.map_cons, List.map_nil]); first | done | rfl | (simp only [List.length_drop, List.length_take]; rfl)) ?_; (with_reducible refine (spec_l04Opening.calls k (fun k_ => k_ < w.heap.size) _ _ l0_0 (fun k_ => k_ < w.heap.size) _ _ l0_1 t428 t429 t430 _ ?side1 ?side2 A9.out).mono ?_); (case side1 => exact Kd.V_mk HC0_0.out (Kd.F_below (Kd.C_F (Kd.heap_int .i64) HR0_0.out) (by repeat (first | (with_reducible first | exact HB.out | apply below_alloc | apply pw_below_drewN | apply below_drew1 | refine below_set ?_ GE426.out) | exact HB.out)))); (case side2 => exact Kd.V_mk HC0_1.out (Kd.F_below (Kd.C_F (Kd.heap_int .i64) HR0_1.out) (by repeat (first | (with_reducible first | exact HB.out | apply below_alloc | apply pw_below_drewN | apply below_drew1 | refine below_set ?_ GE426.out) | exact HB.out)))); rintro e w14 ⟨rfl, hb⟩; refine ⟨_, rfl, ?_⟩; have n0_ := Aside0.mk (blk_below (g := gb426) (o := .cells #[.slice A0_0 l0_0.length c0_0, .slice A0_1 l0_1.length c0_1] 27 (0, 0)) (by (with_reducible repeat (first | refine blk_drewN ?_ _ | refine blk_drew ?_ | refine blk_alloc ?_ _)); exact BK426.out) hb); have n1_ := Aside0.mk (below_step (by repeat (first | (with_reducible first | exact HB.out | apply below_alloc | apply pw_below_drewN | apply below_drew1 | refine below_set ?_ GE426.out) | exact HB.out)) hb); clear BK426; clear HB; have BK426 := n0_; have HB := n1_; clear n0_ n1_; (try clear hb); (try clear hb2); (try clear hk); (try clear hi)))
      go_ret3
      exact ⟨by first | rfl | (simp [errW_none, errW_some] <;> rfl) | (simp [*, errW_none, errW_some] <;> rfl), by repeat (first | (with_reducible first | exact HB.out | apply below_alloc | apply pw_below_drewN | apply below_drew1 | refine below_set ?_ GE426.out) | exact HB.out)⟩
  · replace c3 := Bool.eq_false_iff.mpr c3
    subst c3
    have H1 : (some (false, 0, 1)) = some (r1, r2, r3) := by rw [if_neg (show ¬ (false = true) by decide)] at H; exact H
    clear H
    have H := H1
    clear H1
    simp only [Option.some.injEq, Prod.mk.injEq] at H
    obtain ⟨rfl, rfl, rfl⟩ := H
    go_enter Try.func32, Try.ntmps32
    go_wp2_with (first | ((with_reducible refine gate_dst (N := 1) rfl ?_); refine box_event ?hg (N := 1) ?hd (cs := #[.slice A0_0 l0_0.length c0_0, .slice A0_1 l0_1.length c0_1]) (t := 27) ?hr ?_; (case hd => rfl); (case hg => rfl); (case hr => first | (go_simp; done) | (go_simp; rfl)); intro gb426 hg w15 hbox hb; have n0_ := Aside0.mk (below_step (by repeat (first | (with_reducible first | exact HB.out | apply below_alloc | apply pw_below_drewN | apply below_drew1) | exact HB.out)) hb); have n1_ := Aside0.mk (hbox); have n2_ := Aside0.mk ((by rw [hg]; exact (below_size (by repeat (first | (with_reducible first | exact HB.out | apply below_alloc | apply pw_below_drewN | apply below_drew1) | exact HB.out))) : w.heap.size ≤ gb426)); have n3_ := Aside0.mk ((by rw [hg]; exact (below_size (by repeat (first | (with_reducible first | exact HB.out | apply below_alloc | apply pw_below_drewN | apply below_drew1) | exact HB.out))) : w.heap.size ≤ gb426)); clear HB; have HB := n0_; have BK426 := n1_; have GW426 := n2_; have GE426 := n3_; clear n0_ n1_ n2_ n3_; clear hb hbox hg; have hcz16_0 : w15.cell? ⟨gb426, 0, none⟩ = some (.slice A0_0 l0_0.length c0_0) := (blk_cell BK426.out 0).trans rfl; have hcz16_1 : w15.cell? ⟨gb426, 1, none⟩ = some (.slice A0_1 l0_1.length c0_1) := (blk_cell BK426.out 1).trans rfl; have hfz16_0 := blk_frozen BK426.out 0; have hfz16_1 := blk_frozen BK426.out 1) | ((with_reducible refine gate_callee (f := 61) rfl ?_); refine goesL_ (some 10) rfl rfl Try.func61 (by kernel_rfl) rfl #[.agg #[.slice A0_0 l0_0.length c0_0, .slice A0_1 l0_1.length c0_1]] rfl (by (try simp only [List.map_toArray, List.map_cons, List.map_nil]); first | done | rfl | (simp only [List.length_drop, List.length_take]; rfl)) ?_; (with_reducible refine (spec_l04Is.calls k _ _ l0_0 _ _ l0_1 false _ ?side1 ?side2 ?side3 ?side4 A2.out).mono ?_); (case side1 => repeat (first | exact (Kd.C_below HR0_0.out HB.out) | (with_reducible refine Kd.C_alloc ?_ _) | (with_reducible refine Kd.C_drewN ?_ _) | (with_reducible refine Kd.C_drew ?_))); (case side2 => exact HC0_0.out); (case side3 => repeat (first | exact (Kd.C_below HR0_1.out HB.out) | (with_reducible refine Kd.C_alloc ?_ _) | (with_reducible refine Kd.C_drewN ?_ _) | (with_reducible refine Kd.C_drew ?_))); (case side4 => exact HC0_1.out); rintro e w17 ⟨rfl, hb⟩; refine ⟨_, rfl, ?_⟩; have n0_ := Aside0.mk (blk_below (g := gb426) (o := .cells #[.slice A0_0 l0_0.length c0_0, .slice A0_1 l0_1.length c0_1] 27 (0, 0)) (by (with_reducible repeat (first | refine blk_drewN ?_ _ | refine blk_drew ?_ | refine blk_alloc ?_ _)); exact BK426.out) hb); have n1_ := Aside0.mk (below_step (by repeat (first | (with_reducible first | exact HB.out | apply below_alloc | apply pw_below_drewN | apply below_drew1 | refine below_set ?_ GE426.out) | exact HB.out)) hb); clear BK426; clear HB; have BK426 := n0_; have HB := n1_; clear n0_ n1_; (try clear hb); (try clear hb2); (try clear hk); (try clear hi)))
    go_ret3
    exact ⟨by first | rfl | (simp [errW_none, errW_some] <;> rfl) | (simp [*, errW_none, errW_some] <;> rfl), by repeat (first | (with_reducible first | exact HB.out | apply below_alloc | apply pw_below_drewN | apply below_drew1 | refine below_set ?_ GE426.out) | exact HB.out)⟩

end Go.Proofs.Ytkbjoiebaphdoaa.PX

/- A new function value that knows values of endings, and nothing yet; a call of a function value where the order is drawn (no condition). -/
namespace Go.Proofs.Ytkbjoiebaphdoaa.PX
open Go.RowKit Go.Proofs.YtkbjoiebaphdoaaW.PrintWords Go.Proofs.YtkbjoiebaphdoaaW.PrintLast Go.Proofs.YtkbjoiebaphdoaaW.PrintMore
attribute [local go_sem] max2_int min2_int max_two min_two max_three min_three max_four min_four
set_option linter.unusedVariables false
set_option linter.unusedSimpArgs false
theorem MemAt.set {w : World} {b : Nat} {M : List (List Int × List Int)} (h : MemAt w b M) {p : Addr} (hne : b ≠ p.block) (v : Value) : MemAt (w.setCell p v) b M := ⟨World.ownsMap.setCell h.1 hne v, h.2⟩
section
variable {ops : Array Oper} {Q : Exit → Act → World → Prop} {oi : Oper} {a : Act} {w : World} {K : Act → World → Prop}
/-- A call of a function value, in a region whose order is drawn. -/
theorem goesVd_ (N : Option Tmp) (hd : oi.dst = N) (hw : Region.wanted oi (yielded ops a.tmps) = true) {t : Tmp} {os_ : Array Operand} {ts : Array TypeId} (f : FuncId) (cap : Array Value) (hf : HasFn f) (args : Array Value)
    (hop : oi.op = .call { callee := .value (.tmp t), args := os_, argTypes := ts }) (ht : a.eval (.tmp t) = .func (.func f) #[] cap) (hargs : os_.map a.eval = args)
    (h : Calls Try.prog f (args ++ cap) w fun e w' => ∃ v, e = .returned v ∧ K (a.put N v) w') : if Region.wanted oi (yielded ops a.tmps) = true then Oper.wp Try.prog oi a w K Q else K (a.put N undef) w := by
  obtain ⟨fn, hf, hname, hb⟩ := hf
  have he := enters_ hf hname hb (args ++ cap) w
  have hrun : (execOp a.eval oi).run Try.prog w = .ok (.enter f (args ++ cap)) w := by
    unfold execOp
    simp only [hop, resolve, ht, hargs]
    simp [Deferred.ofValue, invoke, he]
  exact call_ f (args ++ cap) hw hd hrun h
end
set_option maxHeartbeats 16000000 in
set_option maxRecDepth 100000 in
theorem values.calls (w : World) : Calls Try.prog 76 #[] w fun e w' => ∃ bm b7 bf : Nat, e = .returned (.func (.func 104) #[] #[.pointer (some ⟨b7, 0, none⟩), .pointer (some ⟨bf, 0, none⟩)]) ∧ w.heap.size ≤ bm ∧ Known bm b7 bf 0 w' ∧ Below w.heap.size w w' := by
  have HB := Aside0.mk (Below.refl w.heap.size w)
  go_enter Try.func76, Try.ntmps76
  go_wp2_with (first | ((with_reducible refine gate_dst (N := 3) rfl ?_); (try (refine gate_guard (by rfl) ?_; dsimp only)); refine mem_event ?hg (N := 3) ?hd ?hr ?_; (case hd => rfl); (case hg => rfl); (case hr => first | (go_simp; done) | (go_simp; rfl)); intro bm hgm w2 hs hb; have KM := Aside0.mk hs; have GM := Aside0.mk hgm; clear hs hgm; have n0_ := Aside0.mk (below_step HB.out hb); clear HB; have HB := n0_; clear n0_ hb) | ((with_reducible refine gate_dst (N := 1) rfl ?_); (try (refine gate_guard (by rfl) ?_; dsimp only)); refine box_event ?hg (N := 1) ?hd (cs := #[.map none]) (t := 109) ?hr ?_; (case hd => rfl); (case hg => rfl); (case hr => first | (go_simp; done) | (go_simp; rfl)); intro b7 hg w3 hbox hb; have G7 := Aside0.mk hg; have B7 := Aside0.mk hbox; have L7 := Aside0.mk (show bm < b7 by rw [hg]; exact MemAt.lt KM.out); have n0_ := Aside0.mk (below_step HB.out hb); have n1_ := Aside0.mk (MemAt.below KM.out hb (MemAt.lt KM.out)); have P7 := Aside0.mk (show w.heap.size ≤ b7 by rw [hg]; exact HB.out.size); clear HB KM hg hbox hb; have HB := n0_; have KM := n1_; clear n0_ n1_; have hz7 : w3.cell? ⟨b7, 0, none⟩ = some (.map none) := (blk_cell B7.out 0).trans rfl; have hf7 := blk_frozen B7.out 0) | ((with_reducible refine gate_dst (N := 2) rfl ?_); (try (refine gate_guard (by rfl) ?_; dsimp only)); refine box_event ?hg (N := 2) ?hd (cs := #[Value.nilFunc]) (t := 82) ?hr ?_; (case hd => rfl); (case hg => rfl); (case hr => first | (go_simp; done) | (go_simp; rfl)); intro bf hg w5 hbox hb; have HBs : Below w.heap.size w (w3.setCell ⟨b7, 0, none⟩ (.map (some bm))) := below_set HB.out P7.out; have KMs := MemAt.set KM.out (show bm ≠ (⟨b7, 0, none⟩ : Addr).block from Nat.ne_of_lt L7.out) (.map (some bm)); have B7s := blk_put (cs := #[.map none]) B7.out 0 (.map (some bm)) rfl; have LF := Aside0.mk (show b7 < bf by rw [hg]; exact blk_lt B7s); have LM := Aside0.mk (show bm < bf by rw [hg]; exact MemAt.lt KMs); have PF := Aside0.mk (show w.heap.size ≤ bf by rw [hg]; exact HBs.size); have n0_ := Aside0.mk (below_step HBs hb); have n1_ := Aside0.mk (MemAt.below KMs hb (MemAt.lt KMs)); have n2_ := Aside0.mk (blk_below (g := b7) B7s hb); have BF := Aside0.mk hbox; clear HB KM B7 HBs KMs B7s hg hbox hb; have HB := n0_; have KM := n1_; have B7 := n2_; clear n0_ n1_ n2_; have hzf : w5.cell? ⟨bf, 0, none⟩ = some (Value.nilFunc) := (blk_cell BF.out 0).trans rfl; have hff := blk_frozen BF.out 0))
  go_ret
  refine ⟨bm, b7, bf, rfl, ?_, ⟨⟨[], Nat.le_refl _, ?_⟩, ?_, ?_⟩, ?_⟩
  · rw [GM.out]; exact Nat.le_refl _
  · exact MemAt.set KM.out (show bm ≠ (⟨bf, 0, none⟩ : Addr).block from Nat.ne_of_lt LM.out) _
  · exact blk_far B7.out (Nat.ne_of_lt LF.out) _
  · exact blk_put (cs := #[Value.nilFunc]) BF.out 0 _ rfl
  · exact below_set HB.out PF.out

end Go.Proofs.Ytkbjoiebaphdoaa.PX

/- The program's best opening: the first one that is worth the value, by its function value (conditions: an ending of at most eight chains and loops, not over; the function value answers). -/
namespace Go.Proofs.Ytkbjoiebaphdoaa.PX
open Go.RowKit Go.Proofs.YtkbjoiebaphdoaaW.PrintWords Go.Proofs.YtkbjoiebaphdoaaW.PrintLast Go.Proofs.YtkbjoiebaphdoaaW.PrintMore
attribute [local go_sem] max2_int min2_int max_two min_two max_three min_three max_four min_four
set_option linter.unusedVariables false
set_option linter.unusedSimpArgs false
theorem grown_set {w W : World} {bm g j : Nat} {v : Value} (h : w.grownBy W (some bm)) (hg : w.heap.size ≤ g) : w.grownBy (W.setCell ⟨g, j, none⟩ v) (some bm) :=
  ⟨h.os, h.tape, h.output, by simpa [World.setCell] using h.size, fun i hi hne => (Below.heap_setCell W ⟨g, j, none⟩ v i (by show i ≠ g; omega)).trans (h.block i hi hne)⟩
theorem Known.set {bm b7 bf n g j : Nat} {w : World} {cs : Array Value} {t : TypeId} {v : Value} (h : Known bm b7 bf n w) (hg : w.heap[g]? = some (.cells cs t (0, 0))) (h1 : t ≠ 109) (h2 : t ≠ 82) : Known bm b7 bf n (w.setCell ⟨g, j, none⟩ v) := by
  have hne : bm ≠ g := fun e => Known.ne h hg (by rw [e])
  obtain ⟨⟨M, hM1, hM⟩, h7, hf⟩ := h
  have n7 : b7 ≠ g := by rintro rfl; rw [hg] at h7; injection h7 with h7; injection h7 with _ e; exact h1 e
  have nf : bf ≠ g := by rintro rfl; rw [hg] at hf; injection hf with hf; injection hf with _ e; exact h2 e
  exact ⟨⟨M, hM1, MemAt.set hM hne v⟩, blk_far h7 n7 v, blk_far hf nf v⟩
theorem open1_has : HasFn 108 := ⟨_, Try.func108, by kernel_rfl, rfl⟩
def costO : Nat := costT 7 + costT 8
set_option maxHeartbeats 16000000 in
set_option maxRecDepth 100000 in
theorem open1.calls (bm b7 bf gbx gbf : Nat) (C L : List Int) (o : Bool × Int) (A0 : Option Addr) (c0 : Nat) (A1 : Option Addr) (c1 : Nat) (n : Nat) (w : World) (hC : okC C) (hL : okL L) (ho : o ∈ opens C L) (h8 : C.length + L.length ≤ 8) (hn : n + costO < 4294967296)
    (rC : RdE w bm (.slice A0 C.length c0) C) (rL : RdE w bm (.slice A1 L.length c1) L) (hK : Known bm b7 bf n w) (hX : w.heap[gbx]? = some (.cells #[.slice A0 C.length c0, .slice A1 L.length c1] 27 (0, 0))) (hFv : w.heap[gbf]? = some (.cells #[.func (.func 104) #[] #[.pointer (some ⟨b7, 0, none⟩), .pointer (some ⟨bf, 0, none⟩)]] 82 (0, 0))) :
    Calls Try.prog 108 (#[.agg #[.bool o.1, .int .i64 o.2]] ++ #[.pointer (some ⟨gbx, 0, none⟩), .pointer (some ⟨gbf, 0, none⟩)]) w fun e w' => e = .returned (.bool ((worth C L o).1 == val C L)) ∧ Known bm b7 bf (n + costO) w' ∧ w.grownBy w' (some bm) := by
  show Calls Try.prog 108 #[.agg #[.bool o.1, .int .i64 o.2], .pointer (some ⟨gbx, 0, none⟩), .pointer (some ⟨gbf, 0, none⟩)] w fun e w' => e = .returned (.bool ((worth C L o).1 == val C L)) ∧ Known bm b7 bf (n + costO) w' ∧ w.grownBy w' (some bm)
  have hu27 := Try.underlying27
  have hu75 := Try.underlying75
  have hcs : n + costT 7 < 4294967296 ∧ n + costT 7 + costT 8 < 4294967296 ∧ n + costT 7 + costT 8 = n + costO := by unfold costO at *; omega
  have AN := Aside0.mk (fun (vC vL : Value) (w1 : World) (a : RdE w1 bm vC C) (b : RdE w1 bm vL L) (k : Known bm b7 bf n w1) => answered.calls 7 (find_ok 7 (by omega)) bm b7 bf C L o vC vL n w1 hC hL ho h8 h8 a b k hcs.1)
  have FN := Aside0.mk (fun (vC vL : Value) (w1 : World) (a : RdE w1 bm vC C) (b : RdE w1 bm vL L) (k : Known bm b7 bf (n + costT 7) w1) => find_ok 8 (Nat.le_refl _) bm b7 bf C L vC vL (n + costT 7) w1 hC hL h8 a b k hcs.2.1)
  have HCS := Aside0.mk hcs.2.2
  have RC := Aside0.mk rC
  have RL := Aside0.mk rL
  have KN := Aside0.mk hK
  have BX := Aside0.mk hX
  have BF := Aside0.mk hFv
  have HG := Aside0.mk (World.grownBy.refl w (some bm))
  clear rC rL hK hX hFv hC hL ho h8 hn hcs
  go_enter Try.func108, Try.ntmps108
  go_wp2_with (first | ((with_reducible refine gate_dst (N := 3) rfl ?_); (try (refine gate_guard (by rfl) ?_; dsimp only)); refine box_event ?hg (N := 3) ?hd (cs := #[.bool o.1, .int .i64 o.2]) (t := 75) ?hr ?_; (case hd => rfl); (case hg => rfl); (case hr => first | (go_simp; done) | (go_simp; rfl)); intro gbo hg w2 hbox hb; have BO := Aside0.mk hbox; clear hg hbox; have n0_ := Aside0.mk (Kd.V_below RC.out hb); have n1_ := Aside0.mk (Kd.V_below RL.out hb); have n2_ := Aside0.mk (Known.below KN.out hb); have n3_ := Aside0.mk (blk_below (g := gbx) (o := .cells #[.slice A0 C.length c0, .slice A1 L.length c1] 27 (0, 0)) BX.out hb); have n4_ := Aside0.mk (blk_below (g := gbf) (o := .cells #[.func (.func 104) #[] #[.pointer (some ⟨b7, 0, none⟩), .pointer (some ⟨bf, 0, none⟩)]] 82 (0, 0)) BF.out hb); have n5_ := Aside0.mk (HG.out.trans (grown_of_below hb _)); clear RC RL KN BX BF HG; have RC := n0_; have RL := n1_; have KN := n2_; have BX := n3_; have BF := n4_; have HG := n5_; clear n0_ n1_ n2_ n3_ n4_ n5_; clear hb; (try clear hz_gbx_0); have hz_gbx_0 : w2.cell? ⟨gbx, 0, none⟩ = some (.slice A0 C.length c0) := (blk_cell BX.out 0).trans rfl; (try clear hf_gbx_0); have hf_gbx_0 := blk_frozen BX.out 0; (try clear hz_gbx_1); have hz_gbx_1 : w2.cell? ⟨gbx, 1, none⟩ = some (.slice A1 L.length c1) := (blk_cell BX.out 1).trans rfl; (try clear hf_gbx_1); have hf_gbx_1 := blk_frozen BX.out 1; (try clear hz_gbf_0); have hz_gbf_0 : w2.cell? ⟨gbf, 0, none⟩ = some (.func (.func 104) #[] #[.pointer (some ⟨b7, 0, none⟩), .pointer (some ⟨bf, 0, none⟩)]) := (blk_cell BF.out 0).trans rfl; (try clear hf_gbf_0); have hf_gbf_0 := blk_frozen BF.out 0; (try clear hz_gbo_0); have hz_gbo_0 : w2.cell? ⟨gbo, 0, none⟩ = some (.bool o.1) := (blk_cell BO.out 0).trans rfl; (try clear hf_gbo_0); have hf_gbo_0 := blk_frozen BO.out 0; (try clear hz_gbo_1); have hz_gbo_1 : w2.cell? ⟨gbo, 1, none⟩ = some (.int .i64 o.2) := (blk_cell BO.out 1).trans rfl; (try clear hf_gbo_1); have hf_gbo_1 := blk_frozen BO.out 1) | ((with_reducible refine gate_dst (N := 11) rfl ?_); (try (refine gate_guard (by rfl) ?_; dsimp only)); refine goesL_ (some 11) rfl rfl Try.func82 (by kernel_rfl) rfl #[.agg #[.slice A0 C.length c0, .slice A1 L.length c1], .agg #[.bool o.1, .int .i64 o.2], .func (.func 104) #[] #[.pointer (some ⟨b7, 0, none⟩), .pointer (some ⟨bf, 0, none⟩)]] rfl (by (try simp only [List.map_toArray, List.map_cons, List.map_nil]); first | done | rfl) ?_; (with_reducible refine (AN.out _ _ _ RC.out RL.out KN.out).mono ?_); rintro e w3 ⟨rfl, hkn, hg⟩; refine ⟨_, rfl, ?_⟩; have n0_ := Aside0.mk (RdE.grown RC.out hg); have n1_ := Aside0.mk (RdE.grown RL.out hg); have n2_ := Aside0.mk (blk_grown (g := gbx) (o := .cells #[.slice A0 C.length c0, .slice A1 L.length c1] 27 (0, 0)) BX.out hg (Known.ne KN.out BX.out)); have n3_ := Aside0.mk (blk_grown (g := gbf) (o := .cells #[.func (.func 104) #[] #[.pointer (some ⟨b7, 0, none⟩), .pointer (some ⟨bf, 0, none⟩)]] 82 (0, 0)) BF.out hg (Known.ne KN.out BF.out)); have n4_ := Aside0.mk (blk_grown (g := gbo) (o := .cells #[.bool o.1, .int .i64 o.2] 75 (0, 0)) BO.out hg (Known.ne KN.out BO.out)); have n5_ := Aside0.mk (HG.out.trans hg); clear RC RL BX BF BO HG; have RC := n0_; have RL := n1_; have BX := n2_; have BF := n3_; have BO := n4_; have HG := n5_; clear n0_ n1_ n2_ n3_ n4_ n5_; clear KN; have KN := Aside0.mk hkn; clear hkn hg; (try clear hz_gbx_0); have hz_gbx_0 : w3.cell? ⟨gbx, 0, none⟩ = some (.slice A0 C.length c0) := (blk_cell BX.out 0).trans rfl; (try clear hf_gbx_0); have hf_gbx_0 := blk_frozen BX.out 0; (try clear hz_gbx_1); have hz_gbx_1 : w3.cell? ⟨gbx, 1, none⟩ = some (.slice A1 L.length c1) := (blk_cell BX.out 1).trans rfl; (try clear hf_gbx_1); have hf_gbx_1 := blk_frozen BX.out 1; (try clear hz_gbf_0); have hz_gbf_0 : w3.cell? ⟨gbf, 0, none⟩ = some (.func (.func 104) #[] #[.pointer (some ⟨b7, 0, none⟩), .pointer (some ⟨bf, 0, none⟩)]) := (blk_cell BF.out 0).trans rfl; (try clear hf_gbf_0); have hf_gbf_0 := blk_frozen BF.out 0; (try clear hz_gbo_0); have hz_gbo_0 : w3.cell? ⟨gbo, 0, none⟩ = some (.bool o.1) := (blk_cell BO.out 0).trans rfl; (try clear hf_gbo_0); have hf_gbo_0 := blk_frozen BO.out 0; (try clear hz_gbo_1); have hz_gbo_1 : w3.cell? ⟨gbo, 1, none⟩ = some (.int .i64 o.2) := (blk_cell BO.out 1).trans rfl; (try clear hf_gbo_1); have hf_gbo_1 := blk_frozen BO.out 1) | ((with_reducible refine gate_dst (N := 17) rfl ?_); (try (refine gate_guard (by rfl) ?_; dsimp only)); refine goesV_ (some 17) rfl rfl 104 #[.pointer (some ⟨b7, 0, none⟩), .pointer (some ⟨bf, 0, none⟩)] find_has #[.agg #[.slice A0 C.length c0, .slice A1 L.length c1]] rfl rfl (by (try simp only [List.map_toArray, List.map_cons, List.map_nil]); first | done | rfl) ?_; (with_reducible refine (FN.out _ _ _ RC.out RL.out KN.out).mono ?_); rintro e w4 ⟨rfl, hkn, hg⟩; refine ⟨_, rfl, ?_⟩; have n0_ := Aside0.mk (RdE.grown RC.out hg); have n1_ := Aside0.mk (RdE.grown RL.out hg); have n2_ := Aside0.mk (blk_grown (g := gbx) (o := .cells #[.slice A0 C.length c0, .slice A1 L.length c1] 27 (0, 0)) BX.out hg (Known.ne KN.out BX.out)); have n3_ := Aside0.mk (blk_grown (g := gbf) (o := .cells #[.func (.func 104) #[] #[.pointer (some ⟨b7, 0, none⟩), .pointer (some ⟨bf, 0, none⟩)]] 82 (0, 0)) BF.out hg (Known.ne KN.out BF.out)); have n4_ := Aside0.mk (blk_grown (g := gbo) (o := .cells #[.bool o.1, .int .i64 o.2] 75 (0, 0)) BO.out hg (Known.ne KN.out BO.out)); have n5_ := Aside0.mk (HG.out.trans hg); clear RC RL BX BF BO HG; have RC := n0_; have RL := n1_; have BX := n2_; have BF := n3_; have BO := n4_; have HG := n5_; clear n0_ n1_ n2_ n3_ n4_ n5_; clear KN; have KN := Aside0.mk hkn; clear hkn hg))
  go_ret
  exact ⟨rfl, by rw [← HCS.out]; exact KN.out, HG.out⟩
theorem find_first {os : List (Bool × Int)} {p : Bool × Int → Bool} {o : Bool × Int} (h : os.find? p = some o) : ∃ i : Nat, os[i]? = some o ∧ p o = true ∧ ∀ j q, j < i → os[j]? = some q → p q = false := by
  rw [List.find?_eq_some_iff_getElem] at h
  obtain ⟨h1, i, hi, h2, h3⟩ := h
  refine ⟨i, by rw [List.getElem?_eq_getElem hi, h2], h1, fun j q hj hq => ?_⟩
  have := h3 j hj
  obtain ⟨hjl, e⟩ := List.getElem?_eq_some_iff.1 hq
  rw [e] at this
  simpa using this
set_option maxHeartbeats 16000000 in
set_option maxRecDepth 100000 in
theorem IndexFuncO.calls (bm b7 bf gbx gbf : Nat) (C L : List Int) (i0 : Nat) (o0 : Bool × Int) (A0 : Option Addr) (c0 : Nat) (A1 : Option Addr) (c1 : Nat) (A2 : Option Addr) (c2 : Nat) (n : Nat) (w : World) (hC : okC C) (hL : okL L) (h8 : C.length + L.length ≤ 8) (hn : n + 8 * costO < 4294967296)
    (h0 : (opens C L)[i0]? = some o0) (h1 : ((worth C L o0).1 == val C L) = true) (h2 : ∀ j q, j < i0 → (opens C L)[j]? = some q → ((worth C L q).1 == val C L) = false)
    (rC : RdE w bm (.slice A0 C.length c0) C) (rL : RdE w bm (.slice A1 L.length c1) L) (rO : RdO w bm (.slice A2 (opens C L).length c2) ((opens C L).map toS)) (hK : Known bm b7 bf n w) (hX : w.heap[gbx]? = some (.cells #[.slice A0 C.length c0, .slice A1 L.length c1] 27 (0, 0))) (hFv : w.heap[gbf]? = some (.cells #[.func (.func 104) #[] #[.pointer (some ⟨b7, 0, none⟩), .pointer (some ⟨bf, 0, none⟩)]] 82 (0, 0))) :
    Calls Try.prog 107 #[.slice A2 (opens C L).length c2, .func (.func 108) #[] #[.pointer (some ⟨gbx, 0, none⟩), .pointer (some ⟨gbf, 0, none⟩)]] w fun e w' => e = .returned (.int .i64 (i0 : Int)) ∧ Known bm b7 bf (n + 8 * costO) w' ∧ w.grownBy w' (some bm) := by
  have hil := (List.getElem?_eq_some_iff.1 h0).1
  have hol := opens_len C L
  have hml : ((opens C L).map toS).length = (opens C L).length := List.length_map ..
  have HML := Aside0.mk hml
  have HIL := Aside0.mk (And.intro hil (show (opens C L).length ≤ 8 by omega))
  have H0 := Aside0.mk h0
  have H1 := Aside0.mk h1
  have H2 := Aside0.mk h2
  have HN := Aside0.mk hn
  have OPS := Aside0.mk (fun (o : Bool × Int) (ho : o ∈ opens C L) (m : Nat) (hm : m + costO < 4294967296) (w1 : World) (a : RdE w1 bm (.slice A0 C.length c0) C) (b : RdE w1 bm (.slice A1 L.length c1) L) (k : Known bm b7 bf m w1) (x : w1.heap[gbx]? = some (.cells #[.slice A0 C.length c0, .slice A1 L.length c1] 27 (0, 0))) (y : w1.heap[gbf]? = some (.cells #[.func (.func 104) #[] #[.pointer (some ⟨b7, 0, none⟩), .pointer (some ⟨bf, 0, none⟩)]] 82 (0, 0))) => open1.calls bm b7 bf gbx gbf C L o A0 c0 A1 c1 m w1 hC hL ho h8 hm a b k x y)
  have RC := Aside0.mk rC
  have RL := Aside0.mk rL
  have RO := Aside0.mk rO
  have KN := Aside0.mk hK
  have BX := Aside0.mk hX
  have BF := Aside0.mk hFv
  have HG := Aside0.mk (World.grownBy.refl w (some bm))
  clear rC rL rO hK hX hFv hC hL h8 hn h0 h1 h2 hil hol hml
  go_enter Try.func107, Try.ntmps107
  go_wp2
  go_loopg [8] 9 (fun gg v8 w' => ∃ i : Nat, v8 = .int .i64 (i : Int) ∧ Aside0 (i ≤ i0 ∧ 9 - i ≤ gg) ∧ Aside0 (Known bm b7 bf (n + i * costO) w') ∧ Aside0 (RdO w' bm (.slice A2 (opens C L).length c2) ((opens C L).map toS)) ∧ Aside0 (RdE w' bm (.slice A0 C.length c0) C) ∧ Aside0 (RdE w' bm (.slice A1 L.length c1) L) ∧ Aside0 (w'.heap[gbx]? = some (.cells #[.slice A0 C.length c0, .slice A1 L.length c1] 27 (0, 0))) ∧ Aside0 (w'.heap[gbf]? = some (.cells #[.func (.func 104) #[] #[.pointer (some ⟨b7, 0, none⟩), .pointer (some ⟨bf, 0, none⟩)]] 82 (0, 0))) ∧ Aside0 (w.grownBy w' (some bm)))
  case atStart => exact ⟨0, rfl, ⟨Nat.zero_le _, by omega⟩, ⟨by rw [Nat.zero_mul]; exact KN.out⟩, RO, RC, RL, BX, BF, HG⟩
  case round =>
    clear KN RO RC RL BX BF HG
    obtain ⟨i, rfl, HI, KN, RO, RC, RL, BX, BF, HG⟩ := hrel
    have hlt : i < (opens C L).length := by have := HI.out; have := HIL.out; omega
    obtain ⟨o, ho⟩ : ∃ o, (opens C L)[i]? = some o := ⟨_, List.getElem?_eq_getElem hlt⟩
    have HOI := Aside0.mk ho
    have HLT := Aside0.mk hlt
    have hml := HML.out
    have hjn : decide ((i : Int) < (((opens C L).map toS).length : Int)) = true := decide_eq_true (by omega)
    have hjn2 : decide (i < (opens C L).length) = true := decide_eq_true hlt
    have pj0 : 0 ≤ (i : Int) := by omega
    have qj0 : (i : Int) < (((opens C L).map toS).length : Int) := by omega
    obtain ⟨ad, e2, hx0, hx1⟩ := at_T75 (Kd.V_reads' RO.out).2.2 (i : Int) pj0 qj0
    have hrd : rd_T75 ((opens C L).map toS) (i : Int) = toS o := by
      unfold rd_T75
      rw [Int.toNat_natCast, List.getD_eq_getElem?_getD, List.getElem?_map, ho]; rfl
    rw [hrd, Int.toNat_natCast] at hx0 hx1
    replace hx0 : wr.cell? (ad.add (i * 2)) = some (.bool o.1) := hx0
    replace hx1 : wr.cell? ⟨(ad.add (i * 2)).block, (ad.add (i * 2)).off + 1, none⟩ = some (.int .i64 o.2) := hx1
    cases e2
    have pj := eq_true pj0
    have qj := eq_true qj0
    have qj2 : (i < (opens C L).length) = True := eq_true hlt
    have qj3 : ((i : Int) < ((opens C L).length : Int)) = True := eq_true (by omega)
    have hcs : n + i * costO + costO < 4294967296 ∧ n + i * costO + costO = n + (i + 1) * costO ∧ n + (i + 1) * costO ≤ n + 8 * costO := by
      have h1 : (i + 1) * costO ≤ 8 * costO := Nat.mul_le_mul_right _ (by have := HIL.out; omega)
      have h2 : (i + 1) * costO = i * costO + costO := Nat.succ_mul _ _
      have := HN.out
      omega
    have HCS := Aside0.mk hcs
    have OP := Aside0.mk (OPS.out o (List.mem_of_getElem? ho) (n + i * costO) hcs.1)
    clear ho hlt hml hrd pj0 qj0 hcs
    by_cases hi0 : i = i0
    · subst hi0
      have eo : o = o0 := by have h1 := HOI.out; have h2 := H0.out; rw [h1] at h2; exact Option.some.inj h2
      have HPO := Aside0.mk (show ((worth C L o).1 == val C L) = true by rw [eo]; exact H1.out)
      clear eo
      go_wp2_with (first | ((with_reducible refine gate_dst (N := 16) rfl ?_); (try (refine gate_guard (by rfl) ?_; dsimp only)); refine goesV_ (some 16) rfl rfl 108 #[.pointer (some ⟨gbx, 0, none⟩), .pointer (some ⟨gbf, 0, none⟩)] open1_has #[.agg #[.bool o.1, .int .i64 o.2]] rfl rfl (by (try simp only [List.map_toArray, List.map_cons, List.map_nil]); first | done | rfl) ?_; (with_reducible refine (OP.out _ RC.out RL.out KN.out BX.out BF.out).mono ?_); rintro e w4 ⟨rfl, hkn, hg⟩; refine ⟨_, rfl, ?_⟩; rw [HPO.out]; have n0_ := Aside0.mk (RdE.grown RC.out hg); have n1_ := Aside0.mk (RdE.grown RL.out hg); have n2_ := Aside0.mk (RdO.grown RO.out hg (.inr rfl)); have n3_ := Aside0.mk (blk_grown (g := gbx) (o := .cells #[.slice A0 C.length c0, .slice A1 L.length c1] 27 (0, 0)) BX.out hg (Known.ne KN.out BX.out)); have n4_ := Aside0.mk (blk_grown (g := gbf) (o := .cells #[.func (.func 104) #[] #[.pointer (some ⟨b7, 0, none⟩), .pointer (some ⟨bf, 0, none⟩)]] 82 (0, 0)) BF.out hg (Known.ne KN.out BF.out)); have n5_ := Aside0.mk (HG.out.trans hg); clear RC RL RO BX BF HG; have RC := n0_; have RL := n1_; have RO := n2_; have BX := n3_; have BF := n4_; have HG := n5_; clear n0_ n1_ n2_ n3_ n4_ n5_; clear KN; have KN := Aside0.mk hkn; clear hkn hg))
      go_ret
      exact ⟨rfl, Known.more KN.out (by have h1 := HCS.out.2.1; have h2 := HCS.out.2.2; omega), HG.out⟩
    · have HPO := Aside0.mk (H2.out i o (by have := HI.out; omega) HOI.out)
      have HNI := Aside0.mk hi0
      clear hi0
      go_wp2_with (first | ((with_reducible refine gate_dst (N := 16) rfl ?_); (try (refine gate_guard (by rfl) ?_; dsimp only)); refine goesV_ (some 16) rfl rfl 108 #[.pointer (some ⟨gbx, 0, none⟩), .pointer (some ⟨gbf, 0, none⟩)] open1_has #[.agg #[.bool o.1, .int .i64 o.2]] rfl rfl (by (try simp only [List.map_toArray, List.map_cons, List.map_nil]); first | done | rfl) ?_; (with_reducible refine (OP.out _ RC.out RL.out KN.out BX.out BF.out).mono ?_); rintro e w4 ⟨rfl, hkn, hg⟩; refine ⟨_, rfl, ?_⟩; rw [HPO.out]; have n0_ := Aside0.mk (RdE.grown RC.out hg); have n1_ := Aside0.mk (RdE.grown RL.out hg); have n2_ := Aside0.mk (RdO.grown RO.out hg (.inr rfl)); have n3_ := Aside0.mk (blk_grown (g := gbx) (o := .cells #[.slice A0 C.length c0, .slice A1 L.length c1] 27 (0, 0)) BX.out hg (Known.ne KN.out BX.out)); have n4_ := Aside0.mk (blk_grown (g := gbf) (o := .cells #[.func (.func 104) #[] #[.pointer (some ⟨b7, 0, none⟩), .pointer (some ⟨bf, 0, none⟩)]] 82 (0, 0)) BF.out hg (Known.ne KN.out BF.out)); have n5_ := Aside0.mk (HG.out.trans hg); clear RC RL RO BX BF HG; have RC := n0_; have RL := n1_; have RO := n2_; have BX := n3_; have BF := n4_; have HG := n5_; clear n0_ n1_ n2_ n3_ n4_ n5_; clear KN; have KN := Aside0.mk hkn; clear hkn hg))
      go_roundg (9 - (i + 1))
      case measure => have := HI.out; have := HIL.out; omega
      case rel =>
        have h1 := HI.out
        have h2 := HNI.out
        have h3 := HIL.out
        have hj_ : wrap64 ((i : Int) + 1) = ((i + 1 : Nat) : Int) := by unfold wrap64; omega
        exact ⟨i + 1, by first | (rw [← hj_]; done) | (rw [← hj_]; rfl), ⟨by omega, by omega⟩, ⟨by rw [← HCS.out.2.1]; exact KN.out⟩, RO, RC, RL, BX, BF, HG⟩
set_option maxHeartbeats 16000000 in
set_option maxRecDepth 100000 in
theorem bestOpening.calls (bm b7 bf : Nat) (C L : List Int) (o : Bool × Int) (vC vL : Value) (n : Nat) (w : World) (hC : okC C) (hL : okL L) (h8 : C.length + L.length ≤ 8) (hn : n + 8 * costO < 4294967296) (hf : (opens C L).find? (fun q => (worth C L q).1 == val C L) = some o)
    (rC : RdE w bm vC C) (rL : RdE w bm vL L) (hK : Known bm b7 bf n w) :
    Calls Try.prog 80 #[.agg #[vC, vL], .func (.func 104) #[] #[.pointer (some ⟨b7, 0, none⟩), .pointer (some ⟨bf, 0, none⟩)]] w fun e w' => e = .returned (.agg #[.bool o.1, .int .i64 o.2]) ∧ Known bm b7 bf (n + 8 * costO) w' ∧ w.grownBy w' (some bm) := by
  have hu27 := Try.underlying27
  have hu75 := Try.underlying75
  obtain ⟨A0, c0, rfl⟩ := Kd.V_slice rC
  obtain ⟨A1, c1, rfl⟩ := Kd.V_slice rL
  obtain ⟨i0, h0, h1, h2⟩ := find_first hf
  have hil := (List.getElem?_eq_some_iff.1 h0).1
  have hml : ((opens C L).map toS).length = (opens C L).length := List.length_map ..
  obtain ⟨ko, hko⟩ := Ev.rounds (open_ev C L (by omega) (by omega))
  have HOP := Aside0.mk hko
  have IXC := Aside0.mk (fun (gbx gbf : Nat) (A0 : Option Addr) (A1 : Option Addr) (A2 : Option Addr) (c2 : Nat) (w1 : World) (a : RdE w1 bm (.slice A0 C.length c0) C) (b : RdE w1 bm (.slice A1 L.length c1) L) (d : RdO w1 bm (.slice A2 (opens C L).length c2) ((opens C L).map toS)) (k : Known bm b7 bf n w1) (x : w1.heap[gbx]? = some (.cells #[.slice A0 C.length c0, .slice A1 L.length c1] 27 (0, 0))) (y : w1.heap[gbf]? = some (.cells #[.func (.func 104) #[] #[.pointer (some ⟨b7, 0, none⟩), .pointer (some ⟨bf, 0, none⟩)]] 82 (0, 0))) => IndexFuncO.calls bm b7 bf gbx gbf C L i0 o A0 c0 A1 c1 A2 c2 n w1 hC hL h8 hn h0 h1 h2 a b d k x y)
  have hrd : rd_T75 ((opens C L).map toS) (i0 : Int) = toS o := by
    unfold rd_T75
    rw [Int.toNat_natCast, List.getD_eq_getElem?_getD, List.getElem?_map, h0]; rfl
  have HRD := Aside0.mk hrd
  have PJ := Aside0.mk (show 0 ≤ (i0 : Int) by omega)
  have QJ := Aside0.mk (show (i0 : Int) < (((opens C L).map toS).length : Int) by omega)
  have pj := eq_true PJ.out
  have qj := eq_true QJ.out
  have qj2 : (i0 < (opens C L).length) = True := eq_true hil
  have qj3 : ((i0 : Int) < ((opens C L).length : Int)) = True := eq_true (by omega)
  have RC := Aside0.mk rC
  have RL := Aside0.mk rL
  have KN := Aside0.mk hK
  have HG := Aside0.mk (World.grownBy.refl w (some bm))
  clear rC rL hK hC hL h8 hn hf h0 h1 h2 hil hml hko hrd
  go_enter Try.func80, Try.ntmps80
  go_wp2_with (first | ((with_reducible refine gate_dst (N := 2) rfl ?_); (try (refine gate_guard (by rfl) ?_; dsimp only)); refine box_event ?hg (N := 2) ?hd (cs := #[.slice A0 C.length c0, .slice A1 L.length c1]) (t := 27) ?hr ?_; (case hd => rfl); (case hg => rfl); (case hr => first | (go_simp; done) | (go_simp; rfl)); intro gbx hg w2 hbox hb; have BX := Aside0.mk hbox; clear hg hbox; have n0_ := Aside0.mk (Kd.V_below RC.out hb); have n1_ := Aside0.mk (Kd.V_below RL.out hb); have n2_ := Aside0.mk (Known.below KN.out hb); have n3_ := Aside0.mk (HG.out.trans (grown_of_below hb _)); clear RC RL KN HG; have RC := n0_; have RL := n1_; have KN := n2_; have HG := n3_; clear n0_ n1_ n2_ n3_; clear hb) | ((with_reducible refine gate_dst (N := 3) rfl ?_); (try (refine gate_guard (by rfl) ?_; dsimp only)); refine box_event ?hg (N := 3) ?hd (cs := #[.func (.func 104) #[] #[.pointer (some ⟨b7, 0, none⟩), .pointer (some ⟨bf, 0, none⟩)]]) (t := 82) ?hr ?_; (case hd => rfl); (case hg => rfl); (case hr => first | (go_simp; done) | (go_simp; rfl)); intro gbf hg w3 hbox hb; have BF := Aside0.mk hbox; clear hg hbox; have n0_ := Aside0.mk (Kd.V_below RC.out hb); have n1_ := Aside0.mk (Kd.V_below RL.out hb); have n2_ := Aside0.mk (Known.below KN.out hb); have n3_ := Aside0.mk (blk_below (g := gbx) (o := .cells #[.slice A0 C.length c0, .slice A1 L.length c1] 27 (0, 0)) BX.out hb); have n4_ := Aside0.mk (HG.out.trans (grown_of_below hb _)); clear RC RL KN BX HG; have RC := n0_; have RL := n1_; have KN := n2_; have BX := n3_; have HG := n4_; clear n0_ n1_ n2_ n3_ n4_; clear hb) | ((with_reducible refine gate_dst (N := 4) rfl ?_); (try (refine gate_guard (by rfl) ?_; dsimp only)); refine box_event ?hg (N := 4) ?hd (cs := #[.bool false, .int .i64 0]) (t := 75) ?hr ?_; (case hd => rfl); (case hg => rfl); (case hr => first | (go_simp; done) | (go_simp; rfl)); intro gbr hg w4 hbox hb; have BR := Aside0.mk hbox; have GR := Aside0.mk (show w.heap.size ≤ gbr by rw [hg]; exact HG.out.size); clear hg hbox; have n0_ := Aside0.mk (Kd.V_below RC.out hb); have n1_ := Aside0.mk (Kd.V_below RL.out hb); have n2_ := Aside0.mk (Known.below KN.out hb); have n3_ := Aside0.mk (blk_below (g := gbx) (o := .cells #[.slice A0 C.length c0, .slice A1 L.length c1] 27 (0, 0)) BX.out hb); have n4_ := Aside0.mk (blk_below (g := gbf) (o := .cells #[.func (.func 104) #[] #[.pointer (some ⟨b7, 0, none⟩), .pointer (some ⟨bf, 0, none⟩)]] 82 (0, 0)) BF.out hb); have n5_ := Aside0.mk (HG.out.trans (grown_of_below hb _)); clear RC RL KN BX BF HG; have RC := n0_; have RL := n1_; have KN := n2_; have BX := n3_; have BF := n4_; have HG := n5_; clear n0_ n1_ n2_ n3_ n4_ n5_; clear hb; (try clear hz_gbx_0); have hz_gbx_0 : w4.cell? ⟨gbx, 0, none⟩ = some (.slice A0 C.length c0) := (blk_cell BX.out 0).trans rfl; (try clear hf_gbx_0); have hf_gbx_0 := blk_frozen BX.out 0; (try clear hz_gbx_1); have hz_gbx_1 : w4.cell? ⟨gbx, 1, none⟩ = some (.slice A1 L.length c1) := (blk_cell BX.out 1).trans rfl; (try clear hf_gbx_1); have hf_gbx_1 := blk_frozen BX.out 1) | ((with_reducible refine gate_dst (N := 8) rfl ?_); (try (refine gate_guard (by rfl) ?_; dsimp only)); refine goesL_ (some 8) rfl rfl Try.func79 (by kernel_rfl) rfl #[.agg #[.slice A0 C.length c0, .slice A1 L.length c1]] rfl (by (try simp only [List.map_toArray, List.map_cons, List.map_nil]); first | done | rfl) ?_; (with_reducible refine (impl_Ending_openings.calls ko _ _ C _ _ L ((opens C L).map toS) _ ?side1 ?side2 ?side3 ?side4 HOP.out).mono ?_); (case side1 => exact (Kd.V_reads' RC.out).2.2); (case side2 => exact (Kd.V_reads' RC.out).2.1); (case side3 => exact (Kd.V_reads' RL.out).2.2); (case side4 => exact (Kd.V_reads' RL.out).2.1); rintro e w5 ⟨vO, rfl, ho, hb⟩; refine ⟨_, rfl, ?_⟩; have RO := Aside0.mk (RdO.new ho (Known.lt KN.out)); clear ho; obtain ⟨A2, c2, eO⟩ := Kd.V_slice RO.out; subst eO; have RO2 := RO.out; rw [List.length_map] at RO2; clear RO; have RO := Aside0.mk RO2; clear RO2; have n0_ := Aside0.mk (Kd.V_below RC.out hb); have n1_ := Aside0.mk (Kd.V_below RL.out hb); have n2_ := Aside0.mk (Known.below KN.out hb); have n3_ := Aside0.mk (blk_below (g := gbx) (o := .cells #[.slice A0 C.length c0, .slice A1 L.length c1] 27 (0, 0)) BX.out hb); have n4_ := Aside0.mk (blk_below (g := gbf) (o := .cells #[.func (.func 104) #[] #[.pointer (some ⟨b7, 0, none⟩), .pointer (some ⟨bf, 0, none⟩)]] 82 (0, 0)) BF.out hb); have n5_ := Aside0.mk (blk_below (g := gbr) (o := .cells #[.bool false, .int .i64 0] 75 (0, 0)) BR.out hb); have n6_ := Aside0.mk (HG.out.trans (grown_of_below hb _)); clear RC RL KN BX BF BR HG; have RC := n0_; have RL := n1_; have KN := n2_; have BX := n3_; have BF := n4_; have BR := n5_; have HG := n6_; clear n0_ n1_ n2_ n3_ n4_ n5_ n6_; clear hb) | ((with_reducible refine gate_dst (N := 11) rfl ?_); (try (refine gate_guard (by rfl) ?_; dsimp only)); refine goesL_ (some 11) rfl rfl Try.func107 (by kernel_rfl) rfl #[.slice A2 (opens C L).length c2, .func (.func 108) #[] #[.pointer (some ⟨gbx, 0, none⟩), .pointer (some ⟨gbf, 0, none⟩)]] rfl (by (try simp only [List.map_toArray, List.map_cons, List.map_nil]); first | done | rfl) ?_; (with_reducible refine (IXC.out _ _ _ _ _ _ _ RC.out RL.out RO.out KN.out BX.out BF.out).mono ?_); rintro e w6 ⟨rfl, hkn, hg⟩; refine ⟨_, rfl, ?_⟩; have n0_ := Aside0.mk (RdE.grown RC.out hg); have n1_ := Aside0.mk (RdE.grown RL.out hg); have n2_ := Aside0.mk (RdO.grown RO.out hg (.inr rfl)); have n3_ := Aside0.mk (blk_grown (g := gbx) (o := .cells #[.slice A0 C.length c0, .slice A1 L.length c1] 27 (0, 0)) BX.out hg (Known.ne KN.out BX.out)); have n4_ := Aside0.mk (blk_grown (g := gbf) (o := .cells #[.func (.func 104) #[] #[.pointer (some ⟨b7, 0, none⟩), .pointer (some ⟨bf, 0, none⟩)]] 82 (0, 0)) BF.out hg (Known.ne KN.out BF.out)); have n5_ := Aside0.mk (blk_grown (g := gbr) (o := .cells #[.bool false, .int .i64 0] 75 (0, 0)) BR.out hg (Known.ne KN.out BR.out)); have n6_ := Aside0.mk (HG.out.trans hg); clear RC RL RO BX BF BR HG; have RC := n0_; have RL := n1_; have RO := n2_; have BX := n3_; have BF := n4_; have BR := n5_; have HG := n6_; clear n0_ n1_ n2_ n3_ n4_ n5_ n6_; clear KN; have KN := Aside0.mk hkn; clear hkn hg; (try clear hz_gbr_0); have hz_gbr_0 : w6.cell? ⟨gbr, 0, none⟩ = some (.bool false) := (blk_cell BR.out 0).trans rfl; (try clear hf_gbr_0); have hf_gbr_0 := blk_frozen BR.out 0; (try clear hz_gbr_1); have hz_gbr_1 : w6.cell? ⟨gbr, 1, none⟩ = some (.int .i64 0) := (blk_cell BR.out 1).trans rfl; (try clear hf_gbr_1); have hf_gbr_1 := blk_frozen BR.out 1; obtain ⟨ad, e2, hx0, hx1⟩ := at_T75 (Kd.V_reads' RO.out).2.2 (i0 : Int) PJ.out QJ.out; rw [HRD.out, Int.toNat_natCast] at hx0 hx1; replace hx0 : w6.cell? (ad.add (i0 * 2)) = some (.bool o.1) := hx0; replace hx1 : w6.cell? ⟨(ad.add (i0 * 2)).block, (ad.add (i0 * 2)).off + 1, none⟩ = some (.int .i64 o.2) := hx1; cases e2))
  have hgr : w.grownBy ((w6.setCell ⟨gbr, 0, none⟩ (.bool o.1)).setCell ⟨gbr, 1, none⟩ (.int .i64 o.2)) (some bm) := grown_set (grown_set HG.out GR.out) GR.out
  have hkk : Known bm b7 bf (n + 8 * costO) ((w6.setCell ⟨gbr, 0, none⟩ (.bool o.1)).setCell ⟨gbr, 1, none⟩ (.int .i64 o.2)) := Known.set (Known.set KN.out BR.out (by decide) (by decide)) (blk_put (cs := #[.bool false, .int .i64 0]) BR.out 0 _ rfl) (by decide) (by decide)
  refine bodyPost_ret (results_cell_row rfl _ _ gbr 75 #[.bool o.1, .int .i64 o.2] (0, 0) _ rfl (blk_put (cs := #[.bool o.1, .int .i64 0]) (blk_put (cs := #[.bool false, .int .i64 0]) BR.out 0 _ rfl) 1 _ rfl) Try.underlying75 rfl (by kernel_rfl)) rfl ?_
  exact ⟨rfl, hkk, hgr⟩

end Go.Proofs.Ytkbjoiebaphdoaa.PX

/- The walk of the program's EndingValue (conditions: the slices read as the lists; they fit in memory). -/
namespace Go.Proofs.Ytkbjoiebaphdoaa.PX
open Go.RowKit Go.Proofs.YtkbjoiebaphdoaaW.PrintWords Go.Proofs.YtkbjoiebaphdoaaW.PrintLast Go.Proofs.YtkbjoiebaphdoaaW.PrintMore
attribute [local go_sem] max2_int min2_int max_two min_two max_three min_three max_four min_four
set_option linter.unusedVariables false
set_option linter.unusedSimpArgs false
theorem RdE.came {w W : World} {bm c : Nat} {A : Option Addr} {xs : List Int} (h : Kd.C (Kd.int .i64) w A xs.length xs) (hc : xs.length ≤ c) (hb : Below w.heap.size w W) (hm : w.heap.size ≤ bm) : RdE W bm (.slice A xs.length c) xs :=
  Kd.V_mk hc (Kd.F_mono (Kd.F_below (Kd.C_F (Kd.heap_int .i64) h) hb) (fun k hk e => by subst e; omega))
theorem cost8 : 0 + costT 8 < 4294967296 := by decide
def endVal (C L : List Int) : Int × Int := if isEnd C L = true then (val C L, 0) else (0, 1)
def impl_EndingValue.f (_k : Nat) (C L : List Int) : Option (Int × Int) := if C.length ≤ 1048576 ∧ L.length ≤ 1048576 then some (endVal C L) else none
theorem impl_EndingValue.mono : ∀ a0 a1 k, LeO (impl_EndingValue.f k a0 a1) (impl_EndingValue.f (k + 1) a0 a1) := fun _ _ _ => LeO.refl _
set_option maxHeartbeats 16000000 in
set_option maxRecDepth 100000 in
theorem impl_EndingValue.calls (k : Nat) (A0 : Option Addr) (c0 : Nat) (C : List Int) (A1 : Option Addr) (c1 : Nat) (L : List Int) (r1 : Int) (r2 : Int) (w : World) (hr0 : Kd.C (Kd.int .i64) w A0 C.length C) (hc0 : C.length ≤ c0) (hr1 : Kd.C (Kd.int .i64) w A1 L.length L) (hc1 : L.length ≤ c1) (h : impl_EndingValue.f k C L = some (r1, r2)) :
    Calls Try.prog 31 #[.agg #[.slice A0 C.length c0, .slice A1 L.length c1]] w fun e w' => e = .returned (.tuple #[.int .i64 r1, .int .i64 r2]) ∧ Below w.heap.size w w' := by
  have hu27 := Try.underlying27
  have HR0 := Aside0.mk hr0
  have HC0 := Aside0.mk hc0
  have HR1 := Aside0.mk hr1
  have HC1 := Aside0.mk hc1
  have HB := Aside0.mk (Below.refl w.heap.size w)
  clear hr0 hc0 hr1 hc1
  unfold impl_EndingValue.f at h
  split at h
  rotate_left
  · cases h
  rename_i hsz
  obtain ⟨ki, hki⟩ := Ev.rounds (IsEnding_ev C L hsz.1 hsz.2)
  have HIE := Aside0.mk hki
  unfold endVal at h
  clear hsz hki
  cases hE : isEnd C L with
  | false =>
    rw [hE] at h HIE
    rw [if_neg Bool.false_ne_true] at h
    simp only [Option.some.injEq, Prod.mk.injEq] at h
    obtain ⟨rfl, rfl⟩ := h
    clear hE
    go_enter Try.func31, Try.ntmps31
    go_wp2_with (first | ((with_reducible refine gate_dst (N := 1) rfl ?_); (try (refine gate_guard (by rfl) ?_; dsimp only)); refine box_event ?hg (N := 1) ?hd (cs := #[.slice A0 C.length c0, .slice A1 L.length c1]) (t := 27) ?hr ?_; (case hd => rfl); (case hg => rfl); (case hr => first | (go_simp; done) | (go_simp; rfl)); intro gbx hg w2 hbox hb; have BX := Aside0.mk hbox; clear hg hbox; have n0_ := Aside0.mk (below_step HB.out hb); clear HB; have HB := n0_; clear n0_; clear hb; (try clear hz_gbx_0); have hz_gbx_0 : w2.cell? ⟨gbx, 0, none⟩ = some (.slice A0 C.length c0) := (blk_cell BX.out 0).trans rfl; (try clear hf_gbx_0); have hf_gbx_0 := blk_frozen BX.out 0; (try clear hz_gbx_1); have hz_gbx_1 : w2.cell? ⟨gbx, 1, none⟩ = some (.slice A1 L.length c1) := (blk_cell BX.out 1).trans rfl; (try clear hf_gbx_1); have hf_gbx_1 := blk_frozen BX.out 1) | ((with_reducible refine gate_dst (N := 5) rfl ?_); (try (refine gate_guard (by rfl) ?_; dsimp only)); refine goesL_ (some 5) rfl rfl Try.func18 (by kernel_rfl) rfl #[.agg #[.slice A0 C.length c0, .slice A1 L.length c1]] rfl (by (try simp only [List.map_toArray, List.map_cons, List.map_nil]); first | done | rfl) ?_; (with_reducible refine (impl_IsEnding.calls ki A0 c0 C A1 c1 L false _ ?side1 HC0.out ?side2 HC1.out HIE.out).mono ?_); (case side1 => exact Kd.C_below HR0.out HB.out); (case side2 => exact Kd.C_below HR1.out HB.out); rintro e w3 ⟨rfl, hb⟩; refine ⟨_, rfl, ?_⟩; have n0_ := Aside0.mk (blk_below (g := gbx) (o := .cells #[.slice A0 C.length c0, .slice A1 L.length c1] 27 (0, 0)) BX.out hb); have n1_ := Aside0.mk (below_step HB.out hb); clear BX HB; have BX := n0_; have HB := n1_; clear n0_ n1_; clear hb; (try clear hz_gbx_0); have hz_gbx_0 : w3.cell? ⟨gbx, 0, none⟩ = some (.slice A0 C.length c0) := (blk_cell BX.out 0).trans rfl; (try clear hf_gbx_0); have hf_gbx_0 := blk_frozen BX.out 0; (try clear hz_gbx_1); have hz_gbx_1 : w3.cell? ⟨gbx, 1, none⟩ = some (.slice A1 L.length c1) := (blk_cell BX.out 1).trans rfl; (try clear hf_gbx_1); have hf_gbx_1 := blk_frozen BX.out 1))
    go_ret2
    exact ⟨rfl, HB.out⟩
  | true =>
    have HO := Aside0.mk (isEnd_ok hE)
    rw [hE] at h HIE
    rw [if_pos rfl] at h
    simp only [Option.some.injEq, Prod.mk.injEq] at h
    obtain ⟨rfl, rfl⟩ := h
    clear hE
    go_enter Try.func31, Try.ntmps31
    go_wp2_with (first | ((with_reducible refine gate_dst (N := 1) rfl ?_); (try (refine gate_guard (by rfl) ?_; dsimp only)); refine box_event ?hg (N := 1) ?hd (cs := #[.slice A0 C.length c0, .slice A1 L.length c1]) (t := 27) ?hr ?_; (case hd => rfl); (case hg => rfl); (case hr => first | (go_simp; done) | (go_simp; rfl)); intro gbx hg w2 hbox hb; have BX := Aside0.mk hbox; clear hg hbox; have n0_ := Aside0.mk (below_step HB.out hb); clear HB; have HB := n0_; clear n0_; clear hb; (try clear hz_gbx_0); have hz_gbx_0 : w2.cell? ⟨gbx, 0, none⟩ = some (.slice A0 C.length c0) := (blk_cell BX.out 0).trans rfl; (try clear hf_gbx_0); have hf_gbx_0 := blk_frozen BX.out 0; (try clear hz_gbx_1); have hz_gbx_1 : w2.cell? ⟨gbx, 1, none⟩ = some (.slice A1 L.length c1) := (blk_cell BX.out 1).trans rfl; (try clear hf_gbx_1); have hf_gbx_1 := blk_frozen BX.out 1) | ((with_reducible refine gate_dst (N := 5) rfl ?_); (try (refine gate_guard (by rfl) ?_; dsimp only)); refine goesL_ (some 5) rfl rfl Try.func18 (by kernel_rfl) rfl #[.agg #[.slice A0 C.length c0, .slice A1 L.length c1]] rfl (by (try simp only [List.map_toArray, List.map_cons, List.map_nil]); first | done | rfl) ?_; (with_reducible refine (impl_IsEnding.calls ki A0 c0 C A1 c1 L true _ ?side1 HC0.out ?side2 HC1.out HIE.out).mono ?_); (case side1 => exact Kd.C_below HR0.out HB.out); (case side2 => exact Kd.C_below HR1.out HB.out); rintro e w3 ⟨rfl, hb⟩; refine ⟨_, rfl, ?_⟩; have n0_ := Aside0.mk (blk_below (g := gbx) (o := .cells #[.slice A0 C.length c0, .slice A1 L.length c1] 27 (0, 0)) BX.out hb); have n1_ := Aside0.mk (below_step HB.out hb); clear BX HB; have BX := n0_; have HB := n1_; clear n0_ n1_; clear hb; (try clear hz_gbx_0); have hz_gbx_0 : w3.cell? ⟨gbx, 0, none⟩ = some (.slice A0 C.length c0) := (blk_cell BX.out 0).trans rfl; (try clear hf_gbx_0); have hf_gbx_0 := blk_frozen BX.out 0; (try clear hz_gbx_1); have hz_gbx_1 : w3.cell? ⟨gbx, 1, none⟩ = some (.slice A1 L.length c1) := (blk_cell BX.out 1).trans rfl; (try clear hf_gbx_1); have hf_gbx_1 := blk_frozen BX.out 1))
    refine start_ (n := 5) (S := fun w' => w'.cell? ⟨gbx, 0, none⟩ = some (.slice A0 C.length c0) ∧ w'.cell? ⟨gbx, 1, none⟩ = some (.slice A1 L.length c1)) (ds := []) #[false, false, false, false, false] (by kernel_rfl) rfl rfl ⟨(blk_cell BX.out 0).trans rfl, (blk_cell BX.out 1).trans rfl⟩ (fun hHeld => ?_)
    have n0_ := Aside0.mk (blk_drew BX.out)
    have n1_ := Aside0.mk (below_drew1 HB.out)
    clear BX HB
    have BX := n0_
    have HB := n1_
    clear n0_ n1_
    generalize w3.drew = w4 at BX HB hHeld ⊢
    refine take_ (i := 1) (N := some 8) (v := ?_) (a' := ?_) #[false, true, false, false, false] rfl rfl (by kernel_rfl) (fun _ _ _ h => h) (Or.inl ⟨by rfl, ?_⟩) hHeld ?_ ?_
    rotate_left
    · rintro w' ⟨s0_, s1_⟩
      go_simp
      with_reducible rfl
    rotate_left
    · simp only [putAll, Act.put, List.setIfInBounds_toArray, List.set_cons_zero, List.set_cons_succ, i64_w, i32_w]
      rfl
    refine one_ (i := 0) (N := some 7) #[true, true, false, false, false] rfl rfl (by kernel_rfl) (by decide) (fun K hK => ?_)
    refine goes_ Try.func76 (by kernel_rfl) rfl #[] (by rfl) rfl rfl (by (try simp only [List.map_toArray, List.map_cons, List.map_nil]); first | done | rfl) ?_
    (with_reducible refine (values.calls _).mono ?_)
    rintro e w5 ⟨bm, b7, bf, rfl, hbm, hkn, hb⟩
    refine ⟨_, rfl, ?_⟩
    have HBM := Aside0.mk (Nat.le_trans HB.out.size hbm)
    have KN := Aside0.mk hkn
    clear hbm hkn
    have n0_ := Aside0.mk (blk_below (g := gbx) (o := .cells #[.slice A0 C.length c0, .slice A1 L.length c1] 27 (0, 0)) BX.out hb)
    have n1_ := Aside0.mk (below_step HB.out hb)
    clear BX HB
    have BX := n0_
    have HB := n1_
    clear n0_ n1_
    clear hb
    refine hK.out _ _ ⟨(blk_cell BX.out 0).trans rfl, (blk_cell BX.out 1).trans rfl⟩ (fun hHeld => ?_)
    clear hK K
    refine norm_ (a' := ?_) ?_ ?_
    rotate_left
    · show Act.put _ (some 7) _ = _
      simp only [putAll, Act.put, List.setIfInBounds_toArray, List.set_cons_zero, List.set_cons_succ, i64_w, i32_w]
      rfl
    refine one_ (i := 2) (N := some 9) #[true, true, true, false, false] rfl rfl (by kernel_rfl) (by decide) (fun K hK => ?_)
    refine goesVd_ (some 9) rfl (by rfl) 104 #[.pointer (some ⟨b7, 0, none⟩), .pointer (some ⟨bf, 0, none⟩)] find_has #[.agg #[.slice A0 C.length c0, .slice A1 L.length c1]] rfl rfl (by (try simp only [List.map_toArray, List.map_cons, List.map_nil]); first | done | rfl) ?_
    refine (find_ok 8 (Nat.le_refl _) bm b7 bf C L _ _ 0 _ HO.out.1 HO.out.2.1 HO.out.2.2 (RdE.came HR0.out HC0.out HB.out HBM.out) (RdE.came HR1.out HC1.out HB.out HBM.out) KN.out cost8).mono ?_
    rintro e w6 ⟨rfl, hkn2, hg⟩
    refine ⟨_, rfl, ?_⟩
    have n0_ := Aside0.mk (blk_grown (g := gbx) (o := .cells #[.slice A0 C.length c0, .slice A1 L.length c1] 27 (0, 0)) BX.out hg (Known.ne KN.out BX.out))
    have n1_ := Aside0.mk (Below.grown HB.out hg HB.out.size (fun k hk => by cases hk; exact HBM.out))
    clear BX HB
    have BX := n0_
    have HB := n1_
    clear n0_ n1_
    clear hg hkn2
    refine hK.out _ _ ⟨(blk_cell BX.out 0).trans rfl, (blk_cell BX.out 1).trans rfl⟩ (fun hHeld => ?_)
    clear hK K
    refine norm_ (a' := ?_) ?_ ?_
    rotate_left
    · show Act.put _ (some 9) _ = _
      simp only [putAll, Act.put, List.setIfInBounds_toArray, List.set_cons_zero, List.set_cons_succ, i64_w, i32_w]
      rfl
    refine pure_ (i := 3) (N := some 2) (v := ?_) (a' := ?_) #[true, true, true, true, false] rfl rfl (by kernel_rfl) (fun _ _ _ h => h) (Or.inl ⟨by rfl, ?_⟩) ?_ ?_
    rotate_left
    · intro w'
      go_simp
      with_reducible rfl
    rotate_left
    · simp only [putAll, Act.put, List.setIfInBounds_toArray, List.set_cons_zero, List.set_cons_succ, i64_w, i32_w]
      rfl
    refine pure_ (i := 4) (N := some 3) (v := ?_) (a' := ?_) #[true, true, true, true, true] rfl rfl (by kernel_rfl) (fun _ _ _ h => h) (Or.inl ⟨by rfl, ?_⟩) ?_ ?_
    rotate_left
    · intro w'
      go_simp
      with_reducible rfl
    rotate_left
    · simp only [putAll, Act.put, List.setIfInBounds_toArray, List.set_cons_zero, List.set_cons_succ, i64_w, i32_w]
      rfl
    refine done_ (by kernel_rfl) ?_
    try go_wp2
    go_ret2
    exact ⟨rfl, HB.out⟩

end Go.Proofs.Ytkbjoiebaphdoaa.PX

/- The walk of the program's BestOpening (conditions: the slices read as the lists; they fit in memory). -/
namespace Go.Proofs.Ytkbjoiebaphdoaa.PX
open Go.RowKit Go.Proofs.YtkbjoiebaphdoaaW.PrintWords Go.Proofs.YtkbjoiebaphdoaaW.PrintLast Go.Proofs.YtkbjoiebaphdoaaW.PrintMore
attribute [local go_sem] max2_int min2_int max_two min_two max_three min_three max_four min_four
set_option linter.unusedVariables false
set_option linter.unusedSimpArgs false
def bestOf (C L : List Int) : Bool × Int × Int := if isEnd C L = true then (match (opens C L).find? (fun q => (worth C L q).1 == val C L) with
  | some o => if opens C L = [] then (false, 0, 5) else (o.1, o.2, 0)
  | none => (false, 0, 5)) else (false, 0, 1)
theorem best_some {C L : List Int} (hC : okC C) (hL : okL L) (h8 : C.length + L.length ≤ 8) (hne : opens C L ≠ []) : ∃ o, (opens C L).find? (fun q => (worth C L q).1 == val C L) = some o := by
  obtain ⟨o, h1, _⟩ := openR_ev hC hL h8 (fun e => hne (opens_nil.2 e))
  exact ⟨o, h1⟩
def impl_BestOpening.f (_k : Nat) (C L : List Int) : Option (Bool × Int × Int) := if C.length ≤ 1048576 ∧ L.length ≤ 1048576 then some (bestOf C L) else none
theorem impl_BestOpening.mono : ∀ a0 a1 k, LeO (impl_BestOpening.f k a0 a1) (impl_BestOpening.f (k + 1) a0 a1) := fun _ _ _ => LeO.refl _
set_option maxHeartbeats 16000000 in
set_option maxRecDepth 100000 in
theorem impl_BestOpening.calls (k : Nat) (A0 : Option Addr) (c0 : Nat) (C : List Int) (A1 : Option Addr) (c1 : Nat) (L : List Int) (r1 : Bool) (r2 : Int) (r3 : Int) (w : World) (hr0 : Kd.C (Kd.int .i64) w A0 C.length C) (hc0 : C.length ≤ c0) (hr1 : Kd.C (Kd.int .i64) w A1 L.length L) (hc1 : L.length ≤ c1) (h : impl_BestOpening.f k C L = some (r1, r2, r3)) :
    Calls Try.prog 33 #[.agg #[.slice A0 C.length c0, .slice A1 L.length c1]] w fun e w' => e = .returned (.tuple #[.bool r1, .int .i64 r2, .int .i64 r3]) ∧ Below w.heap.size w w' := by
  have hu27 := Try.underlying27
  have hu75 := Try.underlying75
  have hu86 := Try.underlying86
  have HR0 := Aside0.mk hr0
  have HC0 := Aside0.mk hc0
  have HR1 := Aside0.mk hr1
  have HC1 := Aside0.mk hc1
  have HB := Aside0.mk (Below.refl w.heap.size w)
  clear hr0 hc0 hr1 hc1
  unfold impl_BestOpening.f at h
  split at h
  rotate_left
  · cases h
  rename_i hsz
  obtain ⟨ki, hki⟩ := Ev.rounds (IsEnding_ev C L hsz.1 hsz.2)
  obtain ⟨ko, hko⟩ := Ev.rounds (open_ev C L hsz.1 hsz.2)
  have HIE := Aside0.mk hki
  have HOP := Aside0.mk hko
  clear hsz hki hko
  unfold bestOf at h
  have hml : ((opens C L).map toS).length = (opens C L).length := List.length_map ..
  cases hE : isEnd C L with
  | false =>
    rw [hE] at h HIE
    rw [if_neg Bool.false_ne_true] at h
    simp only [Option.some.injEq, Prod.mk.injEq] at h
    obtain ⟨rfl, rfl, rfl⟩ := h
    by_cases hne : opens C L = []
    · obtain ⟨kf, hkf⟩ := Ev.rounds (first2_ev false false 1 5)
      have HFI := Aside0.mk (show impl_first.f kf ([(⟨false, 1⟩ : S86), (⟨false, 5⟩ : S86)] : List S86) = some 1 from hkf)
      have hl0 : (opens C L).length = 0 := by rw [hne]; rfl
      have hl1 : ¬ (0 < (opens C L).length) := by omega
      have hl2 : decide (0 < (opens C L).length) = false := decide_eq_false hl1
      clear hkf hne hE hml
      go_enter Try.func33, Try.ntmps33
      go_wp2_with (first | ((with_reducible refine gate_dst (N := 1) rfl ?_); (try (refine gate_guard (by rfl) ?_; dsimp only)); refine box_event ?hg (N := 1) ?hd (cs := #[.slice A0 C.length c0, .slice A1 L.length c1]) (t := 27) ?hr ?_; (case hd => rfl); (case hg => rfl); (case hr => first | (go_simp; done) | (go_simp; rfl)); intro gbx hg w2 hbox hb; have BX := Aside0.mk hbox; clear hg hbox; have n0_ := Aside0.mk (below_step HB.out hb); clear HB; have HB := n0_; clear n0_; clear hb))
      refine start_ (n := 11) (S := fun w' => w'.cell? ⟨gbx, 0, none⟩ = some (.slice A0 C.length c0) ∧ w'.cell? ⟨gbx, 1, none⟩ = some (.slice A1 L.length c1)) (ds := []) #[false, false, false, false, false, false, false, false, false, false, false] (by kernel_rfl) rfl rfl ⟨(blk_cell BX.out 0).trans rfl, (blk_cell BX.out 1).trans rfl⟩ (fun hHeld => ?_)
      have n0_ := Aside0.mk (blk_drew BX.out)
      have n1_ := Aside0.mk (below_drew1 HB.out)
      clear BX HB
      have BX := n0_
      have HB := n1_
      clear n0_ n1_
      generalize w2.drew = w3 at BX HB hHeld ⊢
      refine take_ (i := 0) (N := some 7) (v := ?_) (a' := ?_) #[true, false, false, false, false, false, false, false, false, false, false] rfl rfl (by kernel_rfl) (fun _ _ _ h => h) (Or.inl ⟨by rfl, ?_⟩) hHeld ?_ ?_
      rotate_left
      · rintro w' ⟨s0_, s1_⟩
        go_simp
        with_reducible rfl
      rotate_left
      · simp only [putAll, Act.put, List.setIfInBounds_toArray, List.set_cons_zero, List.set_cons_succ, i64_w, i32_w]
        rfl
      refine take_ (i := 3) (N := some 10) (v := ?_) (a' := ?_) #[true, false, false, true, false, false, false, false, false, false, false] rfl rfl (by kernel_rfl) (fun _ _ _ h => h) (Or.inl ⟨by rfl, ?_⟩) hHeld ?_ ?_
      rotate_left
      · rintro w' ⟨s0_, s1_⟩
        go_simp
        with_reducible rfl
      rotate_left
      · simp only [putAll, Act.put, List.setIfInBounds_toArray, List.set_cons_zero, List.set_cons_succ, i64_w, i32_w]
        rfl
      refine one_ (i := 1) (N := some 8) #[true, true, false, true, false, false, false, false, false, false, false] rfl rfl (by kernel_rfl) (by decide) (fun K hK => ?_)
      refine goes_ Try.func18 (by kernel_rfl) rfl #[.agg #[.slice A0 C.length c0, .slice A1 L.length c1]] (by rfl) rfl rfl (by (try simp only [List.map_toArray, List.map_cons, List.map_nil]); first | done | rfl) ?_
      (with_reducible refine (impl_IsEnding.calls ki A0 c0 C A1 c1 L false _ (Kd.C_below HR0.out HB.out) HC0.out (Kd.C_below HR1.out HB.out) HC1.out HIE.out).mono ?_)
      rintro e w4 ⟨rfl, hb⟩
      refine ⟨_, rfl, ?_⟩
      have n0_ := Aside0.mk (blk_below (g := gbx) (o := .cells #[.slice A0 C.length c0, .slice A1 L.length c1] 27 (0, 0)) BX.out hb)
      have n1_ := Aside0.mk (below_step HB.out hb)
      clear BX HB
      have BX := n0_
      have HB := n1_
      clear n0_ n1_
      clear hb
      refine hK.out _ _ ⟨(blk_cell BX.out 0).trans rfl, (blk_cell BX.out 1).trans rfl⟩ (fun hHeld => ?_)
      clear hK K
      refine norm_ (a' := ?_) ?_ ?_
      rotate_left
      · show Act.put _ (some 8) _ = _
        simp only [putAll, Act.put, List.setIfInBounds_toArray, List.set_cons_zero, List.set_cons_succ, i64_w, i32_w]
        rfl
      refine pure_ (i := 2) (N := some 9) (v := ?_) (a' := ?_) #[true, true, true, true, false, false, false, false, false, false, false] rfl rfl (by kernel_rfl) (fun _ _ _ h => h) (Or.inl ⟨by rfl, ?_⟩) ?_ ?_
      rotate_left
      · intro w'
        go_simp
        with_reducible rfl
      rotate_left
      · simp only [putAll, Act.put, List.setIfInBounds_toArray, List.set_cons_zero, List.set_cons_succ, i64_w, i32_w]
        rfl
      refine one_ (i := 4) (N := some 11) #[true, true, true, true, true, false, false, false, false, false, false] rfl rfl (by kernel_rfl) (by decide) (fun K hK => ?_)
      refine goes_ Try.func79 (by kernel_rfl) rfl #[.agg #[.slice A0 C.length c0, .slice A1 L.length c1]] (by rfl) rfl rfl (by (try simp only [List.map_toArray, List.map_cons, List.map_nil]); first | done | rfl) ?_
      (with_reducible refine (impl_Ending_openings.calls ko A0 c0 C A1 c1 L ((opens C L).map toS) _ (Kd.C_below HR0.out HB.out) HC0.out (Kd.C_below HR1.out HB.out) HC1.out HOP.out).mono ?_)
      rintro e w5 ⟨vO, rfl, ho, hb⟩
      refine ⟨_, rfl, ?_⟩
      obtain ⟨A2, c2, eO⟩ := Kd.R_slice ho
      subst eO
      clear ho
      have n0_ := Aside0.mk (blk_below (g := gbx) (o := .cells #[.slice A0 C.length c0, .slice A1 L.length c1] 27 (0, 0)) BX.out hb)
      have n1_ := Aside0.mk (below_step HB.out hb)
      clear BX HB
      have BX := n0_
      have HB := n1_
      clear n0_ n1_
      clear hb
      refine hK.out _ _ ⟨(blk_cell BX.out 0).trans rfl, (blk_cell BX.out 1).trans rfl⟩ (fun hHeld => ?_)
      clear hK K
      refine norm_ (a' := ?_) ?_ ?_
      rotate_left
      · show Act.put _ (some 11) _ = _
        simp only [putAll, Act.put, List.setIfInBounds_toArray, List.set_cons_zero, List.set_cons_succ, i64_w, i32_w]
        rfl
      refine pure_ (i := 5) (N := some 12) (v := ?_) (a' := ?_) #[true, true, true, true, true, true, false, false, false, false, false] rfl rfl (by kernel_rfl) (fun _ _ _ h => h) (Or.inl ⟨by rfl, ?_⟩) ?_ ?_
      rotate_left
      · intro w'
        go_simp
        with_reducible rfl
      rotate_left
      · simp only [putAll, Act.put, List.setIfInBounds_toArray, List.set_cons_zero, List.set_cons_succ, i64_w, i32_w]
        rfl
      refine pure_ (i := 6) (N := some 13) (v := ?_) (a' := ?_) #[true, true, true, true, true, true, true, false, false, false, false] rfl rfl (by kernel_rfl) (fun _ _ _ h => h) (Or.inl ⟨by rfl, ?_⟩) ?_ ?_
      rotate_left
      · intro w'
        go_simp
        with_reducible rfl
      rotate_left
      · simp only [putAll, Act.put, List.setIfInBounds_toArray, List.set_cons_zero, List.set_cons_succ, i64_w, i32_w]
        rfl
      refine pure_ (i := 7) (N := some 14) (v := ?_) (a' := ?_) #[true, true, true, true, true, true, true, true, false, false, false] rfl rfl (by kernel_rfl) (fun _ _ _ h => h) (Or.inl ⟨by rfl, ?_⟩) ?_ ?_
      rotate_left
      · intro w'
        go_simp
        with_reducible rfl
      rotate_left
      · simp only [putAll, Act.put, List.setIfInBounds_toArray, List.set_cons_zero, List.set_cons_succ, i64_w, i32_w]
        rfl
      refine one_ (i := 8) (N := some 15) #[true, true, true, true, true, true, true, true, true, false, false] rfl rfl (by kernel_rfl) (by decide) (fun K hK => ?_)
      refine Kd.R_lit_step k86 _ 86 ?hg (N := 15) ?hd (xs := ([(⟨false, 1⟩ : S86), (⟨false, 5⟩ : S86)] : List S86)) (inner := [.bool false, .int .i64 1, .bool false, .int .i64 5]) (ok := fun _ => True) (okp := fun _ => True) ?hr ?hp (fun _ hk => hk) trivial (Below.refl _ _) (Nat.le_refl _) (by simp) ?_
      (case hd => rfl)
      (case hg => rfl)
      (case hr => first | (go_simp; done) | (go_simp; rfl))
      (case hp => exact (Reps.c2 (show Kd.M k86 _ _ _ (⟨false, 1⟩ : S86) [.bool false, .int .i64 1] from (k86_mkM _ _ _ (⟨false, 1⟩ : S86))) (Reps.c2 (show Kd.M k86 _ _ _ (⟨false, 5⟩ : S86) [.bool false, .int .i64 5] from (k86_mkM _ _ _ (⟨false, 5⟩ : S86))) (Reps.none _ _))))
      intro vK w6 ho hb hg_ hnew_
      clear hg_ hnew_
      obtain ⟨A3, c3, eO⟩ := Kd.R_slice ho
      subst eO
      have HOK := Aside0.mk ho
      clear ho
      have n0_ := Aside0.mk (blk_below (g := gbx) (o := .cells #[.slice A0 C.length c0, .slice A1 L.length c1] 27 (0, 0)) BX.out hb)
      have n1_ := Aside0.mk (below_step HB.out hb)
      clear BX HB
      have BX := n0_
      have HB := n1_
      clear n0_ n1_
      clear hb
      refine hK.out _ _ ⟨(blk_cell BX.out 0).trans rfl, (blk_cell BX.out 1).trans rfl⟩ (fun hHeld => ?_)
      clear hK K
      refine norm_ (a' := ?_) ?_ ?_
      rotate_left
      · show Act.put _ (some 15) _ = _
        simp only [putAll, Act.put, List.setIfInBounds_toArray, List.set_cons_zero, List.set_cons_succ, i64_w, i32_w]
        rfl
      refine one_ (i := 9) (N := some 16) #[true, true, true, true, true, true, true, true, true, true, false] rfl rfl (by kernel_rfl) (by decide) (fun K hK => ?_)
      refine goes_ Try.func78 (by kernel_rfl) rfl #[.slice A3 2 c3] (by rfl) rfl rfl (by (try simp only [List.map_toArray, List.map_cons, List.map_nil]); first | done | rfl) ?_
      (refine (impl_first.calls kf A3 c3 ([(⟨false, 1⟩ : S86), (⟨false, 5⟩ : S86)] : List S86) 1 _ (Kd.R_reads' HOK.out).2.2 (Kd.R_reads' HOK.out).2.1 HFI.out).mono ?_)
      rintro e w7 ⟨rfl, hb⟩
      refine ⟨_, rfl, ?_⟩
      clear HOK
      have n0_ := Aside0.mk (blk_below (g := gbx) (o := .cells #[.slice A0 C.length c0, .slice A1 L.length c1] 27 (0, 0)) BX.out hb)
      have n1_ := Aside0.mk (below_step HB.out hb)
      clear BX HB
      have BX := n0_
      have HB := n1_
      clear n0_ n1_
      clear hb
      refine hK.out _ _ ⟨(blk_cell BX.out 0).trans rfl, (blk_cell BX.out 1).trans rfl⟩ (fun hHeld => ?_)
      clear hK K
      refine norm_ (a' := ?_) ?_ ?_
      rotate_left
      · show Act.put _ (some 16) _ = _
        simp only [putAll, Act.put, List.setIfInBounds_toArray, List.set_cons_zero, List.set_cons_succ, i64_w, i32_w]
        rfl
      refine pure_ (i := 10) (N := some 5) (v := ?_) (a' := ?_) #[true, true, true, true, true, true, true, true, true, true, true] rfl rfl (by kernel_rfl) (fun _ _ _ h => h) (Or.inl ⟨by rfl, ?_⟩) ?_ ?_
      rotate_left
      · intro w'
        go_simp
        with_reducible rfl
      rotate_left
      · simp only [putAll, Act.put, List.setIfInBounds_toArray, List.set_cons_zero, List.set_cons_succ, i64_w, i32_w]
        rfl
      refine done_ (by kernel_rfl) ?_
      go_wp2
      go_ret3
      exact ⟨rfl, by repeat (first | exact HB.out | apply pw_below_drewN | apply below_drew1)⟩
    · obtain ⟨kf, hkf⟩ := Ev.rounds (first2_ev false true 1 5)
      have HFI := Aside0.mk (show impl_first.f kf ([(⟨false, 1⟩ : S86), (⟨true, 5⟩ : S86)] : List S86) = some 1 from hkf)
      have hl1 : 0 < (opens C L).length := List.length_pos_iff.2 hne
      have hl2 : decide (0 < (opens C L).length) = true := decide_eq_true hl1
      have hl3 := hne
      clear hkf hne hE hml
      go_enter Try.func33, Try.ntmps33
      go_wp2_with (first | ((with_reducible refine gate_dst (N := 1) rfl ?_); (try (refine gate_guard (by rfl) ?_; dsimp only)); refine box_event ?hg (N := 1) ?hd (cs := #[.slice A0 C.length c0, .slice A1 L.length c1]) (t := 27) ?hr ?_; (case hd => rfl); (case hg => rfl); (case hr => first | (go_simp; done) | (go_simp; rfl)); intro gbx hg w2 hbox hb; have BX := Aside0.mk hbox; clear hg hbox; have n0_ := Aside0.mk (below_step HB.out hb); clear HB; have HB := n0_; clear n0_; clear hb))
      refine start_ (n := 11) (S := fun w' => w'.cell? ⟨gbx, 0, none⟩ = some (.slice A0 C.length c0) ∧ w'.cell? ⟨gbx, 1, none⟩ = some (.slice A1 L.length c1)) (ds := []) #[false, false, false, false, false, false, false, false, false, false, false] (by kernel_rfl) rfl rfl ⟨(blk_cell BX.out 0).trans rfl, (blk_cell BX.out 1).trans rfl⟩ (fun hHeld => ?_)
      have n0_ := Aside0.mk (blk_drew BX.out)
      have n1_ := Aside0.mk (below_drew1 HB.out)
      clear BX HB
      have BX := n0_
      have HB := n1_
      clear n0_ n1_
      generalize w2.drew = w3 at BX HB hHeld ⊢
      refine take_ (i := 0) (N := some 7) (v := ?_) (a' := ?_) #[true, false, false, false, false, false, false, false, false, false, false] rfl rfl (by kernel_rfl) (fun _ _ _ h => h) (Or.inl ⟨by rfl, ?_⟩) hHeld ?_ ?_
      rotate_left
      · rintro w' ⟨s0_, s1_⟩
        go_simp
        with_reducible rfl
      rotate_left
      · simp only [putAll, Act.put, List.setIfInBounds_toArray, List.set_cons_zero, List.set_cons_succ, i64_w, i32_w]
        rfl
      refine take_ (i := 3) (N := some 10) (v := ?_) (a' := ?_) #[true, false, false, true, false, false, false, false, false, false, false] rfl rfl (by kernel_rfl) (fun _ _ _ h => h) (Or.inl ⟨by rfl, ?_⟩) hHeld ?_ ?_
      rotate_left
      · rintro w' ⟨s0_, s1_⟩
        go_simp
        with_reducible rfl
      rotate_left
      · simp only [putAll, Act.put, List.setIfInBounds_toArray, List.set_cons_zero, List.set_cons_succ, i64_w, i32_w]
        rfl
      refine one_ (i := 1) (N := some 8) #[true, true, false, true, false, false, false, false, false, false, false] rfl rfl (by kernel_rfl) (by decide) (fun K hK => ?_)
      refine goes_ Try.func18 (by kernel_rfl) rfl #[.agg #[.slice A0 C.length c0, .slice A1 L.length c1]] (by rfl) rfl rfl (by (try simp only [List.map_toArray, List.map_cons, List.map_nil]); first | done | rfl) ?_
      (with_reducible refine (impl_IsEnding.calls ki A0 c0 C A1 c1 L false _ (Kd.C_below HR0.out HB.out) HC0.out (Kd.C_below HR1.out HB.out) HC1.out HIE.out).mono ?_)
      rintro e w4 ⟨rfl, hb⟩
      refine ⟨_, rfl, ?_⟩
      have n0_ := Aside0.mk (blk_below (g := gbx) (o := .cells #[.slice A0 C.length c0, .slice A1 L.length c1] 27 (0, 0)) BX.out hb)
      have n1_ := Aside0.mk (below_step HB.out hb)
      clear BX HB
      have BX := n0_
      have HB := n1_
      clear n0_ n1_
      clear hb
      refine hK.out _ _ ⟨(blk_cell BX.out 0).trans rfl, (blk_cell BX.out 1).trans rfl⟩ (fun hHeld => ?_)
      clear hK K
      refine norm_ (a' := ?_) ?_ ?_
      rotate_left
      · show Act.put _ (some 8) _ = _
        simp only [putAll, Act.put, List.setIfInBounds_toArray, List.set_cons_zero, List.set_cons_succ, i64_w, i32_w]
        rfl
      refine pure_ (i := 2) (N := some 9) (v := ?_) (a' := ?_) #[true, true, true, true, false, false, false, false, false, false, false] rfl rfl (by kernel_rfl) (fun _ _ _ h => h) (Or.inl ⟨by rfl, ?_⟩) ?_ ?_
      rotate_left
      · intro w'
        go_simp
        with_reducible rfl
      rotate_left
      · simp only [putAll, Act.put, List.setIfInBounds_toArray, List.set_cons_zero, List.set_cons_succ, i64_w, i32_w]
        rfl
      refine one_ (i := 4) (N := some 11) #[true, true, true, true, true, false, false, false, false, false, false] rfl rfl (by kernel_rfl) (by decide) (fun K hK => ?_)
      refine goes_ Try.func79 (by kernel_rfl) rfl #[.agg #[.slice A0 C.length c0, .slice A1 L.length c1]] (by rfl) rfl rfl (by (try simp only [List.map_toArray, List.map_cons, List.map_nil]); first | done | rfl) ?_
      (with_reducible refine (impl_Ending_openings.calls ko A0 c0 C A1 c1 L ((opens C L).map toS) _ (Kd.C_below HR0.out HB.out) HC0.out (Kd.C_below HR1.out HB.out) HC1.out HOP.out).mono ?_)
      rintro e w5 ⟨vO, rfl, ho, hb⟩
      refine ⟨_, rfl, ?_⟩
      obtain ⟨A2, c2, eO⟩ := Kd.R_slice ho
      subst eO
      clear ho
      have n0_ := Aside0.mk (blk_below (g := gbx) (o := .cells #[.slice A0 C.length c0, .slice A1 L.length c1] 27 (0, 0)) BX.out hb)
      have n1_ := Aside0.mk (below_step HB.out hb)
      clear BX HB
      have BX := n0_
      have HB := n1_
      clear n0_ n1_
      clear hb
      refine hK.out _ _ ⟨(blk_cell BX.out 0).trans rfl, (blk_cell BX.out 1).trans rfl⟩ (fun hHeld => ?_)
      clear hK K
      refine norm_ (a' := ?_) ?_ ?_
      rotate_left
      · show Act.put _ (some 11) _ = _
        simp only [putAll, Act.put, List.setIfInBounds_toArray, List.set_cons_zero, List.set_cons_succ, i64_w, i32_w]
        rfl
      refine pure_ (i := 5) (N := some 12) (v := ?_) (a' := ?_) #[true, true, true, true, true, true, false, false, false, false, false] rfl rfl (by kernel_rfl) (fun _ _ _ h => h) (Or.inl ⟨by rfl, ?_⟩) ?_ ?_
      rotate_left
      · intro w'
        go_simp
        with_reducible rfl
      rotate_left
      · simp only [putAll, Act.put, List.setIfInBounds_toArray, List.set_cons_zero, List.set_cons_succ, i64_w, i32_w]
        rfl
      refine pure_ (i := 6) (N := some 13) (v := ?_) (a' := ?_) #[true, true, true, true, true, true, true, false, false, false, false] rfl rfl (by kernel_rfl) (fun _ _ _ h => h) (Or.inl ⟨by rfl, ?_⟩) ?_ ?_
      rotate_left
      · intro w'
        go_simp
        with_reducible rfl
      rotate_left
      · simp only [putAll, Act.put, List.setIfInBounds_toArray, List.set_cons_zero, List.set_cons_succ, i64_w, i32_w]
        rfl
      refine pure_ (i := 7) (N := some 14) (v := ?_) (a' := ?_) #[true, true, true, true, true, true, true, true, false, false, false] rfl rfl (by kernel_rfl) (fun _ _ _ h => h) (Or.inl ⟨by rfl, ?_⟩) ?_ ?_
      rotate_left
      · intro w'
        go_simp
        with_reducible rfl
      rotate_left
      · simp only [putAll, Act.put, List.setIfInBounds_toArray, List.set_cons_zero, List.set_cons_succ, i64_w, i32_w]
        rfl
      refine one_ (i := 8) (N := some 15) #[true, true, true, true, true, true, true, true, true, false, false] rfl rfl (by kernel_rfl) (by decide) (fun K hK => ?_)
      refine Kd.R_lit_step k86 _ 86 ?hg (N := 15) ?hd (xs := ([(⟨false, 1⟩ : S86), (⟨true, 5⟩ : S86)] : List S86)) (inner := [.bool false, .int .i64 1, .bool true, .int .i64 5]) (ok := fun _ => True) (okp := fun _ => True) ?hr ?hp (fun _ hk => hk) trivial (Below.refl _ _) (Nat.le_refl _) (by simp) ?_
      (case hd => rfl)
      (case hg => rfl)
      (case hr => first | (go_simp; done) | (go_simp; rfl))
      (case hp => exact (Reps.c2 (show Kd.M k86 _ _ _ (⟨false, 1⟩ : S86) [.bool false, .int .i64 1] from (k86_mkM _ _ _ (⟨false, 1⟩ : S86))) (Reps.c2 (show Kd.M k86 _ _ _ (⟨true, 5⟩ : S86) [.bool true, .int .i64 5] from (k86_mkM _ _ _ (⟨true, 5⟩ : S86))) (Reps.none _ _))))
      intro vK w6 ho hb hg_ hnew_
      clear hg_ hnew_
      obtain ⟨A3, c3, eO⟩ := Kd.R_slice ho
      subst eO
      have HOK := Aside0.mk ho
      clear ho
      have n0_ := Aside0.mk (blk_below (g := gbx) (o := .cells #[.slice A0 C.length c0, .slice A1 L.length c1] 27 (0, 0)) BX.out hb)
      have n1_ := Aside0.mk (below_step HB.out hb)
      clear BX HB
      have BX := n0_
      have HB := n1_
      clear n0_ n1_
      clear hb
      refine hK.out _ _ ⟨(blk_cell BX.out 0).trans rfl, (blk_cell BX.out 1).trans rfl⟩ (fun hHeld => ?_)
      clear hK K
      refine norm_ (a' := ?_) ?_ ?_
      rotate_left
      · show Act.put _ (some 15) _ = _
        simp only [putAll, Act.put, List.setIfInBounds_toArray, List.set_cons_zero, List.set_cons_succ, i64_w, i32_w]
        rfl
      refine one_ (i := 9) (N := some 16) #[true, true, true, true, true, true, true, true, true, true, false] rfl rfl (by kernel_rfl) (by decide) (fun K hK => ?_)
      refine goes_ Try.func78 (by kernel_rfl) rfl #[.slice A3 2 c3] (by rfl) rfl rfl (by (try simp only [List.map_toArray, List.map_cons, List.map_nil]); first | done | rfl) ?_
      (refine (impl_first.calls kf A3 c3 ([(⟨false, 1⟩ : S86), (⟨true, 5⟩ : S86)] : List S86) 1 _ (Kd.R_reads' HOK.out).2.2 (Kd.R_reads' HOK.out).2.1 HFI.out).mono ?_)
      rintro e w7 ⟨rfl, hb⟩
      refine ⟨_, rfl, ?_⟩
      clear HOK
      have n0_ := Aside0.mk (blk_below (g := gbx) (o := .cells #[.slice A0 C.length c0, .slice A1 L.length c1] 27 (0, 0)) BX.out hb)
      have n1_ := Aside0.mk (below_step HB.out hb)
      clear BX HB
      have BX := n0_
      have HB := n1_
      clear n0_ n1_
      clear hb
      refine hK.out _ _ ⟨(blk_cell BX.out 0).trans rfl, (blk_cell BX.out 1).trans rfl⟩ (fun hHeld => ?_)
      clear hK K
      refine norm_ (a' := ?_) ?_ ?_
      rotate_left
      · show Act.put _ (some 16) _ = _
        simp only [putAll, Act.put, List.setIfInBounds_toArray, List.set_cons_zero, List.set_cons_succ, i64_w, i32_w]
        rfl
      refine pure_ (i := 10) (N := some 5) (v := ?_) (a' := ?_) #[true, true, true, true, true, true, true, true, true, true, true] rfl rfl (by kernel_rfl) (fun _ _ _ h => h) (Or.inl ⟨by rfl, ?_⟩) ?_ ?_
      rotate_left
      · intro w'
        go_simp
        with_reducible rfl
      rotate_left
      · simp only [putAll, Act.put, List.setIfInBounds_toArray, List.set_cons_zero, List.set_cons_succ, i64_w, i32_w]
        rfl
      refine done_ (by kernel_rfl) ?_
      go_wp2
      go_ret3
      exact ⟨rfl, by repeat (first | exact HB.out | apply pw_below_drewN | apply below_drew1)⟩
  | true =>
    have HO := Aside0.mk (isEnd_ok hE)
    rw [hE] at h HIE
    rw [if_pos rfl] at h
    by_cases hne : opens C L = []
    · obtain ⟨kf, hkf⟩ := Ev.rounds (first2_ev true false 1 5)
      have HFI := Aside0.mk (show impl_first.f kf ([(⟨true, 1⟩ : S86), (⟨false, 5⟩ : S86)] : List S86) = some 5 from hkf)
      have e5 : (r1, r2, r3) = (false, 0, 5) := by
        have h' := Option.some.inj h
        rw [hne] at h'
        exact h'.symm
      simp only [Prod.mk.injEq] at e5
      obtain ⟨rfl, rfl, rfl⟩ := e5
      have hl0 : (opens C L).length = 0 := by rw [hne]; rfl
      have hl1 : ¬ (0 < (opens C L).length) := by omega
      have hl2 : decide (0 < (opens C L).length) = false := decide_eq_false hl1
      clear hkf hne hE hml h
      go_enter Try.func33, Try.ntmps33
      go_wp2_with (first | ((with_reducible refine gate_dst (N := 1) rfl ?_); (try (refine gate_guard (by rfl) ?_; dsimp only)); refine box_event ?hg (N := 1) ?hd (cs := #[.slice A0 C.length c0, .slice A1 L.length c1]) (t := 27) ?hr ?_; (case hd => rfl); (case hg => rfl); (case hr => first | (go_simp; done) | (go_simp; rfl)); intro gbx hg w2 hbox hb; have BX := Aside0.mk hbox; clear hg hbox; have n0_ := Aside0.mk (below_step HB.out hb); clear HB; have HB := n0_; clear n0_; clear hb))
      refine start_ (n := 11) (S := fun w' => w'.cell? ⟨gbx, 0, none⟩ = some (.slice A0 C.length c0) ∧ w'.cell? ⟨gbx, 1, none⟩ = some (.slice A1 L.length c1)) (ds := []) #[false, false, false, false, false, false, false, false, false, false, false] (by kernel_rfl) rfl rfl ⟨(blk_cell BX.out 0).trans rfl, (blk_cell BX.out 1).trans rfl⟩ (fun hHeld => ?_)
      have n0_ := Aside0.mk (blk_drew BX.out)
      have n1_ := Aside0.mk (below_drew1 HB.out)
      clear BX HB
      have BX := n0_
      have HB := n1_
      clear n0_ n1_
      generalize w2.drew = w3 at BX HB hHeld ⊢
      refine take_ (i := 0) (N := some 7) (v := ?_) (a' := ?_) #[true, false, false, false, false, false, false, false, false, false, false] rfl rfl (by kernel_rfl) (fun _ _ _ h => h) (Or.inl ⟨by rfl, ?_⟩) hHeld ?_ ?_
      rotate_left
      · rintro w' ⟨s0_, s1_⟩
        go_simp
        with_reducible rfl
      rotate_left
      · simp only [putAll, Act.put, List.setIfInBounds_toArray, List.set_cons_zero, List.set_cons_succ, i64_w, i32_w]
        rfl
      refine take_ (i := 3) (N := some 10) (v := ?_) (a' := ?_) #[true, false, false, true, false, false, false, false, false, false, false] rfl rfl (by kernel_rfl) (fun _ _ _ h => h) (Or.inl ⟨by rfl, ?_⟩) hHeld ?_ ?_
      rotate_left
      · rintro w' ⟨s0_, s1_⟩
        go_simp
        with_reducible rfl
      rotate_left
      · simp only [putAll, Act.put, List.setIfInBounds_toArray, List.set_cons_zero, List.set_cons_succ, i64_w, i32_w]
        rfl
      refine one_ (i := 1) (N := some 8) #[true, true, false, true, false, false, false, false, false, false, false] rfl rfl (by kernel_rfl) (by decide) (fun K hK => ?_)
      refine goes_ Try.func18 (by kernel_rfl) rfl #[.agg #[.slice A0 C.length c0, .slice A1 L.length c1]] (by rfl) rfl rfl (by (try simp only [List.map_toArray, List.map_cons, List.map_nil]); first | done | rfl) ?_
      (with_reducible refine (impl_IsEnding.calls ki A0 c0 C A1 c1 L true _ (Kd.C_below HR0.out HB.out) HC0.out (Kd.C_below HR1.out HB.out) HC1.out HIE.out).mono ?_)
      rintro e w4 ⟨rfl, hb⟩
      refine ⟨_, rfl, ?_⟩
      have n0_ := Aside0.mk (blk_below (g := gbx) (o := .cells #[.slice A0 C.length c0, .slice A1 L.length c1] 27 (0, 0)) BX.out hb)
      have n1_ := Aside0.mk (below_step HB.out hb)
      clear BX HB
      have BX := n0_
      have HB := n1_
      clear n0_ n1_
      clear hb
      refine hK.out _ _ ⟨(blk_cell BX.out 0).trans rfl, (blk_cell BX.out 1).trans rfl⟩ (fun hHeld => ?_)
      clear hK K
      refine norm_ (a' := ?_) ?_ ?_
      rotate_left
      · show Act.put _ (some 8) _ = _
        simp only [putAll, Act.put, List.setIfInBounds_toArray, List.set_cons_zero, List.set_cons_succ, i64_w, i32_w]
        rfl
      refine pure_ (i := 2) (N := some 9) (v := ?_) (a' := ?_) #[true, true, true, true, false, false, false, false, false, false, false] rfl rfl (by kernel_rfl) (fun _ _ _ h => h) (Or.inl ⟨by rfl, ?_⟩) ?_ ?_
      rotate_left
      · intro w'
        go_simp
        with_reducible rfl
      rotate_left
      · simp only [putAll, Act.put, List.setIfInBounds_toArray, List.set_cons_zero, List.set_cons_succ, i64_w, i32_w]
        rfl
      refine one_ (i := 4) (N := some 11) #[true, true, true, true, true, false, false, false, false, false, false] rfl rfl (by kernel_rfl) (by decide) (fun K hK => ?_)
      refine goes_ Try.func79 (by kernel_rfl) rfl #[.agg #[.slice A0 C.length c0, .slice A1 L.length c1]] (by rfl) rfl rfl (by (try simp only [List.map_toArray, List.map_cons, List.map_nil]); first | done | rfl) ?_
      (with_reducible refine (impl_Ending_openings.calls ko A0 c0 C A1 c1 L ((opens C L).map toS) _ (Kd.C_below HR0.out HB.out) HC0.out (Kd.C_below HR1.out HB.out) HC1.out HOP.out).mono ?_)
      rintro e w5 ⟨vO, rfl, ho, hb⟩
      refine ⟨_, rfl, ?_⟩
      obtain ⟨A2, c2, eO⟩ := Kd.R_slice ho
      subst eO
      clear ho
      have n0_ := Aside0.mk (blk_below (g := gbx) (o := .cells #[.slice A0 C.length c0, .slice A1 L.length c1] 27 (0, 0)) BX.out hb)
      have n1_ := Aside0.mk (below_step HB.out hb)
      clear BX HB
      have BX := n0_
      have HB := n1_
      clear n0_ n1_
      clear hb
      refine hK.out _ _ ⟨(blk_cell BX.out 0).trans rfl, (blk_cell BX.out 1).trans rfl⟩ (fun hHeld => ?_)
      clear hK K
      refine norm_ (a' := ?_) ?_ ?_
      rotate_left
      · show Act.put _ (some 11) _ = _
        simp only [putAll, Act.put, List.setIfInBounds_toArray, List.set_cons_zero, List.set_cons_succ, i64_w, i32_w]
        rfl
      refine pure_ (i := 5) (N := some 12) (v := ?_) (a' := ?_) #[true, true, true, true, true, true, false, false, false, false, false] rfl rfl (by kernel_rfl) (fun _ _ _ h => h) (Or.inl ⟨by rfl, ?_⟩) ?_ ?_
      rotate_left
      · intro w'
        go_simp
        with_reducible rfl
      rotate_left
      · simp only [putAll, Act.put, List.setIfInBounds_toArray, List.set_cons_zero, List.set_cons_succ, i64_w, i32_w]
        rfl
      refine pure_ (i := 6) (N := some 13) (v := ?_) (a' := ?_) #[true, true, true, true, true, true, true, false, false, false, false] rfl rfl (by kernel_rfl) (fun _ _ _ h => h) (Or.inl ⟨by rfl, ?_⟩) ?_ ?_
      rotate_left
      · intro w'
        go_simp
        with_reducible rfl
      rotate_left
      · simp only [putAll, Act.put, List.setIfInBounds_toArray, List.set_cons_zero, List.set_cons_succ, i64_w, i32_w]
        rfl
      refine pure_ (i := 7) (N := some 14) (v := ?_) (a' := ?_) #[true, true, true, true, true, true, true, true, false, false, false] rfl rfl (by kernel_rfl) (fun _ _ _ h => h) (Or.inl ⟨by rfl, ?_⟩) ?_ ?_
      rotate_left
      · intro w'
        go_simp
        with_reducible rfl
      rotate_left
      · simp only [putAll, Act.put, List.setIfInBounds_toArray, List.set_cons_zero, List.set_cons_succ, i64_w, i32_w]
        rfl
      refine one_ (i := 8) (N := some 15) #[true, true, true, true, true, true, true, true, true, false, false] rfl rfl (by kernel_rfl) (by decide) (fun K hK => ?_)
      refine Kd.R_lit_step k86 _ 86 ?hg (N := 15) ?hd (xs := ([(⟨true, 1⟩ : S86), (⟨false, 5⟩ : S86)] : List S86)) (inner := [.bool true, .int .i64 1, .bool false, .int .i64 5]) (ok := fun _ => True) (okp := fun _ => True) ?hr ?hp (fun _ hk => hk) trivial (Below.refl _ _) (Nat.le_refl _) (by simp) ?_
      (case hd => rfl)
      (case hg => rfl)
      (case hr => first | (go_simp; done) | (go_simp; rfl))
      (case hp => exact (Reps.c2 (show Kd.M k86 _ _ _ (⟨true, 1⟩ : S86) [.bool true, .int .i64 1] from (k86_mkM _ _ _ (⟨true, 1⟩ : S86))) (Reps.c2 (show Kd.M k86 _ _ _ (⟨false, 5⟩ : S86) [.bool false, .int .i64 5] from (k86_mkM _ _ _ (⟨false, 5⟩ : S86))) (Reps.none _ _))))
      intro vK w6 ho hb hg_ hnew_
      clear hg_ hnew_
      obtain ⟨A3, c3, eO⟩ := Kd.R_slice ho
      subst eO
      have HOK := Aside0.mk ho
      clear ho
      have n0_ := Aside0.mk (blk_below (g := gbx) (o := .cells #[.slice A0 C.length c0, .slice A1 L.length c1] 27 (0, 0)) BX.out hb)
      have n1_ := Aside0.mk (below_step HB.out hb)
      clear BX HB
      have BX := n0_
      have HB := n1_
      clear n0_ n1_
      clear hb
      refine hK.out _ _ ⟨(blk_cell BX.out 0).trans rfl, (blk_cell BX.out 1).trans rfl⟩ (fun hHeld => ?_)
      clear hK K
      refine norm_ (a' := ?_) ?_ ?_
      rotate_left
      · show Act.put _ (some 15) _ = _
        simp only [putAll, Act.put, List.setIfInBounds_toArray, List.set_cons_zero, List.set_cons_succ, i64_w, i32_w]
        rfl
      refine one_ (i := 9) (N := some 16) #[true, true, true, true, true, true, true, true, true, true, false] rfl rfl (by kernel_rfl) (by decide) (fun K hK => ?_)
      refine goes_ Try.func78 (by kernel_rfl) rfl #[.slice A3 2 c3] (by rfl) rfl rfl (by (try simp only [List.map_toArray, List.map_cons, List.map_nil]); first | done | rfl) ?_
      (refine (impl_first.calls kf A3 c3 ([(⟨true, 1⟩ : S86), (⟨false, 5⟩ : S86)] : List S86) 5 _ (Kd.R_reads' HOK.out).2.2 (Kd.R_reads' HOK.out).2.1 HFI.out).mono ?_)
      rintro e w7 ⟨rfl, hb⟩
      refine ⟨_, rfl, ?_⟩
      clear HOK
      have n0_ := Aside0.mk (blk_below (g := gbx) (o := .cells #[.slice A0 C.length c0, .slice A1 L.length c1] 27 (0, 0)) BX.out hb)
      have n1_ := Aside0.mk (below_step HB.out hb)
      clear BX HB
      have BX := n0_
      have HB := n1_
      clear n0_ n1_
      clear hb
      refine hK.out _ _ ⟨(blk_cell BX.out 0).trans rfl, (blk_cell BX.out 1).trans rfl⟩ (fun hHeld => ?_)
      clear hK K
      refine norm_ (a' := ?_) ?_ ?_
      rotate_left
      · show Act.put _ (some 16) _ = _
        simp only [putAll, Act.put, List.setIfInBounds_toArray, List.set_cons_zero, List.set_cons_succ, i64_w, i32_w]
        rfl
      refine pure_ (i := 10) (N := some 5) (v := ?_) (a' := ?_) #[true, true, true, true, true, true, true, true, true, true, true] rfl rfl (by kernel_rfl) (fun _ _ _ h => h) (Or.inl ⟨by rfl, ?_⟩) ?_ ?_
      rotate_left
      · intro w'
        go_simp
        with_reducible rfl
      rotate_left
      · simp only [putAll, Act.put, List.setIfInBounds_toArray, List.set_cons_zero, List.set_cons_succ, i64_w, i32_w]
        rfl
      refine done_ (by kernel_rfl) ?_
      go_wp2
      go_ret3
      exact ⟨rfl, by repeat (first | exact HB.out | apply pw_below_drewN | apply below_drew1)⟩
    · obtain ⟨kf, hkf⟩ := Ev.rounds (first2_ev true true 1 5)
      have HFI := Aside0.mk (show impl_first.f kf ([(⟨true, 1⟩ : S86), (⟨true, 5⟩ : S86)] : List S86) = some 0 from hkf)
      obtain ⟨o, ho⟩ := best_some HO.out.1 HO.out.2.1 HO.out.2.2 hne
      have HFO := Aside0.mk ho
      rw [ho] at h
      simp only [Option.some.injEq] at h
      rw [if_neg hne] at h
      simp only [Prod.mk.injEq] at h
      obtain ⟨rfl, rfl, rfl⟩ := h
      have hl1 : 0 < (opens C L).length := List.length_pos_iff.2 hne
      have hl2 : decide (0 < (opens C L).length) = true := decide_eq_true hl1
      have hl3 := hne
      clear hkf hne hE hml ho
      go_enter Try.func33, Try.ntmps33
      go_wp2_with (first | ((with_reducible refine gate_dst (N := 1) rfl ?_); (try (refine gate_guard (by rfl) ?_; dsimp only)); refine box_event ?hg (N := 1) ?hd (cs := #[.slice A0 C.length c0, .slice A1 L.length c1]) (t := 27) ?hr ?_; (case hd => rfl); (case hg => rfl); (case hr => first | (go_simp; done) | (go_simp; rfl)); intro gbx hg w2 hbox hb; have BX := Aside0.mk hbox; clear hg hbox; have n0_ := Aside0.mk (below_step HB.out hb); clear HB; have HB := n0_; clear n0_; clear hb))
      refine start_ (n := 11) (S := fun w' => w'.cell? ⟨gbx, 0, none⟩ = some (.slice A0 C.length c0) ∧ w'.cell? ⟨gbx, 1, none⟩ = some (.slice A1 L.length c1)) (ds := []) #[false, false, false, false, false, false, false, false, false, false, false] (by kernel_rfl) rfl rfl ⟨(blk_cell BX.out 0).trans rfl, (blk_cell BX.out 1).trans rfl⟩ (fun hHeld => ?_)
      have n0_ := Aside0.mk (blk_drew BX.out)
      have n1_ := Aside0.mk (below_drew1 HB.out)
      clear BX HB
      have BX := n0_
      have HB := n1_
      clear n0_ n1_
      generalize w2.drew = w3 at BX HB hHeld ⊢
      refine take_ (i := 0) (N := some 7) (v := ?_) (a' := ?_) #[true, false, false, false, false, false, false, false, false, false, false] rfl rfl (by kernel_rfl) (fun _ _ _ h => h) (Or.inl ⟨by rfl, ?_⟩) hHeld ?_ ?_
      rotate_left
      · rintro w' ⟨s0_, s1_⟩
        go_simp
        with_reducible rfl
      rotate_left
      · simp only [putAll, Act.put, List.setIfInBounds_toArray, List.set_cons_zero, List.set_cons_succ, i64_w, i32_w]
        rfl
      refine take_ (i := 3) (N := some 10) (v := ?_) (a' := ?_) #[true, false, false, true, false, false, false, false, false, false, false] rfl rfl (by kernel_rfl) (fun _ _ _ h => h) (Or.inl ⟨by rfl, ?_⟩) hHeld ?_ ?_
      rotate_left
      · rintro w' ⟨s0_, s1_⟩
        go_simp
        with_reducible rfl
      rotate_left
      · simp only [putAll, Act.put, List.setIfInBounds_toArray, List.set_cons_zero, List.set_cons_succ, i64_w, i32_w]
        rfl
      refine one_ (i := 1) (N := some 8) #[true, true, false, true, false, false, false, false, false, false, false] rfl rfl (by kernel_rfl) (by decide) (fun K hK => ?_)
      refine goes_ Try.func18 (by kernel_rfl) rfl #[.agg #[.slice A0 C.length c0, .slice A1 L.length c1]] (by rfl) rfl rfl (by (try simp only [List.map_toArray, List.map_cons, List.map_nil]); first | done | rfl) ?_
      (with_reducible refine (impl_IsEnding.calls ki A0 c0 C A1 c1 L true _ (Kd.C_below HR0.out HB.out) HC0.out (Kd.C_below HR1.out HB.out) HC1.out HIE.out).mono ?_)
      rintro e w4 ⟨rfl, hb⟩
      refine ⟨_, rfl, ?_⟩
      have n0_ := Aside0.mk (blk_below (g := gbx) (o := .cells #[.slice A0 C.length c0, .slice A1 L.length c1] 27 (0, 0)) BX.out hb)
      have n1_ := Aside0.mk (below_step HB.out hb)
      clear BX HB
      have BX := n0_
      have HB := n1_
      clear n0_ n1_
      clear hb
      refine hK.out _ _ ⟨(blk_cell BX.out 0).trans rfl, (blk_cell BX.out 1).trans rfl⟩ (fun hHeld => ?_)
      clear hK K
      refine norm_ (a' := ?_) ?_ ?_
      rotate_left
      · show Act.put _ (some 8) _ = _
        simp only [putAll, Act.put, List.setIfInBounds_toArray, List.set_cons_zero, List.set_cons_succ, i64_w, i32_w]
        rfl
      refine pure_ (i := 2) (N := some 9) (v := ?_) (a' := ?_) #[true, true, true, true, false, false, false, false, false, false, false] rfl rfl (by kernel_rfl) (fun _ _ _ h => h) (Or.inl ⟨by rfl, ?_⟩) ?_ ?_
      rotate_left
      · intro w'
        go_simp
        with_reducible rfl
      rotate_left
      · simp only [putAll, Act.put, List.setIfInBounds_toArray, List.set_cons_zero, List.set_cons_succ, i64_w, i32_w]
        rfl
      refine one_ (i := 4) (N := some 11) #[true, true, true, true, true, false, false, false, false, false, false] rfl rfl (by kernel_rfl) (by decide) (fun K hK => ?_)
      refine goes_ Try.func79 (by kernel_rfl) rfl #[.agg #[.slice A0 C.length c0, .slice A1 L.length c1]] (by rfl) rfl rfl (by (try simp only [List.map_toArray, List.map_cons, List.map_nil]); first | done | rfl) ?_
      (with_reducible refine (impl_Ending_openings.calls ko A0 c0 C A1 c1 L ((opens C L).map toS) _ (Kd.C_below HR0.out HB.out) HC0.out (Kd.C_below HR1.out HB.out) HC1.out HOP.out).mono ?_)
      rintro e w5 ⟨vO, rfl, ho, hb⟩
      refine ⟨_, rfl, ?_⟩
      obtain ⟨A2, c2, eO⟩ := Kd.R_slice ho
      subst eO
      clear ho
      have n0_ := Aside0.mk (blk_below (g := gbx) (o := .cells #[.slice A0 C.length c0, .slice A1 L.length c1] 27 (0, 0)) BX.out hb)
      have n1_ := Aside0.mk (below_step HB.out hb)
      clear BX HB
      have BX := n0_
      have HB := n1_
      clear n0_ n1_
      clear hb
      refine hK.out _ _ ⟨(blk_cell BX.out 0).trans rfl, (blk_cell BX.out 1).trans rfl⟩ (fun hHeld => ?_)
      clear hK K
      refine norm_ (a' := ?_) ?_ ?_
      rotate_left
      · show Act.put _ (some 11) _ = _
        simp only [putAll, Act.put, List.setIfInBounds_toArray, List.set_cons_zero, List.set_cons_succ, i64_w, i32_w]
        rfl
      refine pure_ (i := 5) (N := some 12) (v := ?_) (a' := ?_) #[true, true, true, true, true, true, false, false, false, false, false] rfl rfl (by kernel_rfl) (fun _ _ _ h => h) (Or.inl ⟨by rfl, ?_⟩) ?_ ?_
      rotate_left
      · intro w'
        go_simp
        with_reducible rfl
      rotate_left
      · simp only [putAll, Act.put, List.setIfInBounds_toArray, List.set_cons_zero, List.set_cons_succ, i64_w, i32_w]
        rfl
      refine pure_ (i := 6) (N := some 13) (v := ?_) (a' := ?_) #[true, true, true, true, true, true, true, false, false, false, false] rfl rfl (by kernel_rfl) (fun _ _ _ h => h) (Or.inl ⟨by rfl, ?_⟩) ?_ ?_
      rotate_left
      · intro w'
        go_simp
        with_reducible rfl
      rotate_left
      · simp only [putAll, Act.put, List.setIfInBounds_toArray, List.set_cons_zero, List.set_cons_succ, i64_w, i32_w]
        rfl
      refine pure_ (i := 7) (N := some 14) (v := ?_) (a' := ?_) #[true, true, true, true, true, true, true, true, false, false, false] rfl rfl (by kernel_rfl) (fun _ _ _ h => h) (Or.inl ⟨by rfl, ?_⟩) ?_ ?_
      rotate_left
      · intro w'
        go_simp
        with_reducible rfl
      rotate_left
      · simp only [putAll, Act.put, List.setIfInBounds_toArray, List.set_cons_zero, List.set_cons_succ, i64_w, i32_w]
        rfl
      refine one_ (i := 8) (N := some 15) #[true, true, true, true, true, true, true, true, true, false, false] rfl rfl (by kernel_rfl) (by decide) (fun K hK => ?_)
      refine Kd.R_lit_step k86 _ 86 ?hg (N := 15) ?hd (xs := ([(⟨true, 1⟩ : S86), (⟨true, 5⟩ : S86)] : List S86)) (inner := [.bool true, .int .i64 1, .bool true, .int .i64 5]) (ok := fun _ => True) (okp := fun _ => True) ?hr ?hp (fun _ hk => hk) trivial (Below.refl _ _) (Nat.le_refl _) (by simp) ?_
      (case hd => rfl)
      (case hg => rfl)
      (case hr => first | (go_simp; done) | (go_simp; rfl))
      (case hp => exact (Reps.c2 (show Kd.M k86 _ _ _ (⟨true, 1⟩ : S86) [.bool true, .int .i64 1] from (k86_mkM _ _ _ (⟨true, 1⟩ : S86))) (Reps.c2 (show Kd.M k86 _ _ _ (⟨true, 5⟩ : S86) [.bool true, .int .i64 5] from (k86_mkM _ _ _ (⟨true, 5⟩ : S86))) (Reps.none _ _))))
      intro vK w6 ho hb hg_ hnew_
      clear hg_ hnew_
      obtain ⟨A3, c3, eO⟩ := Kd.R_slice ho
      subst eO
      have HOK := Aside0.mk ho
      clear ho
      have n0_ := Aside0.mk (blk_below (g := gbx) (o := .cells #[.slice A0 C.length c0, .slice A1 L.length c1] 27 (0, 0)) BX.out hb)
      have n1_ := Aside0.mk (below_step HB.out hb)
      clear BX HB
      have BX := n0_
      have HB := n1_
      clear n0_ n1_
      clear hb
      refine hK.out _ _ ⟨(blk_cell BX.out 0).trans rfl, (blk_cell BX.out 1).trans rfl⟩ (fun hHeld => ?_)
      clear hK K
      refine norm_ (a' := ?_) ?_ ?_
      rotate_left
      · show Act.put _ (some 15) _ = _
        simp only [putAll, Act.put, List.setIfInBounds_toArray, List.set_cons_zero, List.set_cons_succ, i64_w, i32_w]
        rfl
      refine one_ (i := 9) (N := some 16) #[true, true, true, true, true, true, true, true, true, true, false] rfl rfl (by kernel_rfl) (by decide) (fun K hK => ?_)
      refine goes_ Try.func78 (by kernel_rfl) rfl #[.slice A3 2 c3] (by rfl) rfl rfl (by (try simp only [List.map_toArray, List.map_cons, List.map_nil]); first | done | rfl) ?_
      (refine (impl_first.calls kf A3 c3 ([(⟨true, 1⟩ : S86), (⟨true, 5⟩ : S86)] : List S86) 0 _ (Kd.R_reads' HOK.out).2.2 (Kd.R_reads' HOK.out).2.1 HFI.out).mono ?_)
      rintro e w7 ⟨rfl, hb⟩
      refine ⟨_, rfl, ?_⟩
      clear HOK
      have n0_ := Aside0.mk (blk_below (g := gbx) (o := .cells #[.slice A0 C.length c0, .slice A1 L.length c1] 27 (0, 0)) BX.out hb)
      have n1_ := Aside0.mk (below_step HB.out hb)
      clear BX HB
      have BX := n0_
      have HB := n1_
      clear n0_ n1_
      clear hb
      refine hK.out _ _ ⟨(blk_cell BX.out 0).trans rfl, (blk_cell BX.out 1).trans rfl⟩ (fun hHeld => ?_)
      clear hK K
      refine norm_ (a' := ?_) ?_ ?_
      rotate_left
      · show Act.put _ (some 16) _ = _
        simp only [putAll, Act.put, List.setIfInBounds_toArray, List.set_cons_zero, List.set_cons_succ, i64_w, i32_w]
        rfl
      refine pure_ (i := 10) (N := some 5) (v := ?_) (a' := ?_) #[true, true, true, true, true, true, true, true, true, true, true] rfl rfl (by kernel_rfl) (fun _ _ _ h => h) (Or.inl ⟨by rfl, ?_⟩) ?_ ?_
      rotate_left
      · intro w'
        go_simp
        with_reducible rfl
      rotate_left
      · simp only [putAll, Act.put, List.setIfInBounds_toArray, List.set_cons_zero, List.set_cons_succ, i64_w, i32_w]
        rfl
      refine done_ (by kernel_rfl) ?_
      go_wp2
      refine start_ (n := 5) (S := fun w' => w'.cell? ⟨gbx, 0, none⟩ = some (.slice A0 C.length c0) ∧ w'.cell? ⟨gbx, 1, none⟩ = some (.slice A1 L.length c1)) (ds := []) #[false, false, false, false, false] (by kernel_rfl) rfl rfl ⟨(blk_cell BX.out 0).trans rfl, (blk_cell BX.out 1).trans rfl⟩ (fun hHeld => ?_)
      have n0_ := Aside0.mk (blk_drew BX.out)
      have n1_ := Aside0.mk (below_drew1 HB.out)
      clear BX HB
      have BX := n0_
      have HB := n1_
      clear n0_ n1_
      generalize w7.drew = w8 at BX HB hHeld ⊢
      refine take_ (i := 0) (N := some 20) (v := ?_) (a' := ?_) #[true, false, false, false, false] rfl rfl (by kernel_rfl) (fun _ _ _ h => h) (Or.inl ⟨by rfl, ?_⟩) hHeld ?_ ?_
      rotate_left
      · rintro w' ⟨s0_, s1_⟩
        go_simp
        with_reducible rfl
      rotate_left
      · simp only [putAll, Act.put, List.setIfInBounds_toArray, List.set_cons_zero, List.set_cons_succ, i64_w, i32_w]
        rfl
      refine join_ (σ := Nat × Nat × Nat × Nat) 1 #[true, true, true, true, false] (fun s_ => [(21, .func (.func 104) #[] #[.pointer (some ⟨s_.2.1, 0, none⟩), .pointer (some ⟨s_.2.2.1, 0, none⟩)]), (22, .agg #[.bool o.1, .int .i64 o.2]), (6, .pointer (some ⟨s_.2.2.2, 0, none⟩))]) (fun s_ w' => Below w.heap.size w w' ∧ w'.heap[gbx]? = some (.cells #[.slice A0 C.length c0, .slice A1 L.length c1] 27 (0, 0)) ∧ w'.heap[s_.2.2.2]? = some (.cells #[.bool false, .int .i64 0] 75 (0, 0)) ∧ gbx ≠ s_.2.2.2 ∧ w.heap.size ≤ s_.2.2.2) ?_ ?_
      rotate_left
      · intro hcont
        refine two_ (i := 1) (j := 3) (Ni := some 21) (Nj := some 6) #[true, true, false, false, false] #[true, false, false, true, false] rfl rfl rfl rfl (by kernel_rfl) (by decide) (by decide) (fun K hK => ?_) (fun K hK => ?_)
        · refine goes_ Try.func76 (by kernel_rfl) rfl #[] (by rfl) rfl rfl (by (try simp only [List.map_toArray, List.map_cons, List.map_nil]); first | done | rfl) ?_
          (with_reducible refine (values.calls _).mono ?_)
          rintro e w9 ⟨bm, b7, bf, rfl, hbm, hkn, hb⟩
          refine ⟨_, rfl, ?_⟩
          have HBM := Aside0.mk (Nat.le_trans HB.out.size hbm)
          have KN := Aside0.mk hkn
          clear hbm hkn
          have n0_ := Aside0.mk (blk_below (g := gbx) (o := .cells #[.slice A0 C.length c0, .slice A1 L.length c1] 27 (0, 0)) BX.out hb)
          have n1_ := Aside0.mk (below_step HB.out hb)
          clear BX HB
          have BX := n0_
          have HB := n1_
          clear n0_ n1_
          clear hb
          refine hK.out _ _ ⟨(blk_cell BX.out 0).trans rfl, (blk_cell BX.out 1).trans rfl⟩ (fun hHeld => ?_)
          clear hK K
          refine norm_ (a' := ?_) ?_ ?_
          rotate_left
          · show Act.put _ (some 21) _ = _
            simp only [putAll, Act.put, List.setIfInBounds_toArray, List.set_cons_zero, List.set_cons_succ, i64_w, i32_w]
            rfl
          refine two_ (i := 2) (j := 3) (Ni := some 22) (Nj := some 6) #[true, true, true, false, false] #[true, true, false, true, false] rfl rfl rfl rfl (by kernel_rfl) (by decide) (by decide) (fun K hK => ?_) (fun K hK => ?_)
          · refine goes_ Try.func80 (by kernel_rfl) rfl #[.agg #[.slice A0 C.length c0, .slice A1 L.length c1], .func (.func 104) #[] #[.pointer (some ⟨b7, 0, none⟩), .pointer (some ⟨bf, 0, none⟩)]] (by rfl) rfl rfl (by (try simp only [List.map_toArray, List.map_cons, List.map_nil]); first | done | rfl) ?_
            refine (bestOpening.calls bm b7 bf C L o _ _ 0 _ HO.out.1 HO.out.2.1 HO.out.2.2 (by decide) HFO.out (RdE.came HR0.out HC0.out HB.out HBM.out) (RdE.came HR1.out HC1.out HB.out HBM.out) KN.out).mono ?_
            rintro e w10 ⟨rfl, hkn2, hg⟩
            refine ⟨_, rfl, ?_⟩
            have n0_ := Aside0.mk (blk_grown (g := gbx) (o := .cells #[.slice A0 C.length c0, .slice A1 L.length c1] 27 (0, 0)) BX.out hg (Known.ne KN.out BX.out))
            have n1_ := Aside0.mk (Below.grown HB.out hg HB.out.size (fun k hk => by cases hk; exact HBM.out))
            clear BX HB
            have BX := n0_
            have HB := n1_
            clear n0_ n1_
            clear KN
            have KN := Aside0.mk hkn2
            clear hg hkn2
            refine hK.out _ _ ⟨(blk_cell BX.out 0).trans rfl, (blk_cell BX.out 1).trans rfl⟩ (fun hHeld => ?_)
            clear hK K
            refine norm_ (a' := ?_) ?_ ?_
            rotate_left
            · show Act.put _ (some 22) _ = _
              simp only [putAll, Act.put, List.setIfInBounds_toArray, List.set_cons_zero, List.set_cons_succ, i64_w, i32_w]
              rfl
            refine one_ (i := 3) (N := some 6) #[true, true, true, true, false] rfl rfl (by kernel_rfl) (by decide) (fun K hK => ?_)
            refine value_ (w1 := (w10.alloc (.cells #[.bool false, .int .i64 0] 75 (0, 0)))) (v := .pointer (some ⟨w10.heap.size, 0, none⟩)) (by rfl) rfl (by first | (go_simp; done) | (go_simp; rfl)) ?_
            have hbox := blk_new w10 (.cells #[.bool false, .int .i64 0] 75 (0, 0))
            have hb := below_alloc (Below.refl w10.heap.size w10) (.cells #[.bool false, .int .i64 0] 75 (0, 0))
            have hne := Nat.ne_of_lt (blk_lt BX.out)
            generalize w10.alloc (.cells #[.bool false, .int .i64 0] 75 (0, 0)) = w11 at hbox hb ⊢
            obtain ⟨gbr, hgb⟩ : ∃ gb, gb = w10.heap.size := ⟨_, rfl⟩
            rw [← hgb] at hbox hne ⊢
            have NE := Aside0.mk hne
            have GR := Aside0.mk (show w.heap.size ≤ gbr by rw [hgb]; exact HB.out.size)
            have BR := Aside0.mk hbox
            clear hgb hbox hne
            have n0_ := Aside0.mk (Known.below KN.out hb)
            clear KN
            have KN := n0_
            clear n0_
            have n0_ := Aside0.mk (blk_below (g := gbx) (o := .cells #[.slice A0 C.length c0, .slice A1 L.length c1] 27 (0, 0)) BX.out hb)
            have n1_ := Aside0.mk (below_step HB.out hb)
            clear BX HB
            have BX := n0_
            have HB := n1_
            clear n0_ n1_
            clear hb
            refine hK.out _ _ ⟨(blk_cell BX.out 0).trans rfl, (blk_cell BX.out 1).trans rfl⟩ (fun hHeld => ?_)
            clear hK K
            refine norm_ (a' := ?_) ?_ ?_
            rotate_left
            · show Act.put _ (some 6) _ = _
              simp only [putAll, Act.put, List.setIfInBounds_toArray, List.set_cons_zero, List.set_cons_succ, i64_w, i32_w]
              rfl
            exact norm_ (by first | rfl | (simp only [putAll, Act.put, List.setIfInBounds_toArray, List.set_cons_zero, List.set_cons_succ, i64_w, i32_w]) <;> rfl) (hcont (bm, b7, bf, gbr) w11 ⟨HB.out, BX.out, BR.out, NE.out, GR.out⟩)
          · refine value_ (w1 := (w9.alloc (.cells #[.bool false, .int .i64 0] 75 (0, 0)))) (v := .pointer (some ⟨w9.heap.size, 0, none⟩)) (by rfl) rfl (by first | (go_simp; done) | (go_simp; rfl)) ?_
            have hbox := blk_new w9 (.cells #[.bool false, .int .i64 0] 75 (0, 0))
            have hb := below_alloc (Below.refl w9.heap.size w9) (.cells #[.bool false, .int .i64 0] 75 (0, 0))
            have hne := Nat.ne_of_lt (blk_lt BX.out)
            generalize w9.alloc (.cells #[.bool false, .int .i64 0] 75 (0, 0)) = w10 at hbox hb ⊢
            obtain ⟨gbr, hgb⟩ : ∃ gb, gb = w9.heap.size := ⟨_, rfl⟩
            rw [← hgb] at hbox hne ⊢
            have NE := Aside0.mk hne
            have GR := Aside0.mk (show w.heap.size ≤ gbr by rw [hgb]; exact HB.out.size)
            have BR := Aside0.mk hbox
            clear hgb hbox hne
            have n0_ := Aside0.mk (Known.below KN.out hb)
            clear KN
            have KN := n0_
            clear n0_
            have n0_ := Aside0.mk (blk_below (g := gbx) (o := .cells #[.slice A0 C.length c0, .slice A1 L.length c1] 27 (0, 0)) BX.out hb)
            have n1_ := Aside0.mk (below_step HB.out hb)
            clear BX HB
            have BX := n0_
            have HB := n1_
            clear n0_ n1_
            clear hb
            refine hK.out _ _ ⟨(blk_cell BX.out 0).trans rfl, (blk_cell BX.out 1).trans rfl⟩ (fun hHeld => ?_)
            clear hK K
            refine norm_ (a' := ?_) ?_ ?_
            rotate_left
            · show Act.put _ (some 6) _ = _
              simp only [putAll, Act.put, List.setIfInBounds_toArray, List.set_cons_zero, List.set_cons_succ, i64_w, i32_w]
              rfl
            refine one_ (i := 2) (N := some 22) #[true, true, true, true, false] rfl rfl (by kernel_rfl) (by decide) (fun K hK => ?_)
            refine goes_ Try.func80 (by kernel_rfl) rfl #[.agg #[.slice A0 C.length c0, .slice A1 L.length c1], .func (.func 104) #[] #[.pointer (some ⟨b7, 0, none⟩), .pointer (some ⟨bf, 0, none⟩)]] (by rfl) rfl rfl (by (try simp only [List.map_toArray, List.map_cons, List.map_nil]); first | done | rfl) ?_
            refine (bestOpening.calls bm b7 bf C L o _ _ 0 _ HO.out.1 HO.out.2.1 HO.out.2.2 (by decide) HFO.out (RdE.came HR0.out HC0.out HB.out HBM.out) (RdE.came HR1.out HC1.out HB.out HBM.out) KN.out).mono ?_
            rintro e w11 ⟨rfl, hkn2, hg⟩
            refine ⟨_, rfl, ?_⟩
            have n0_ := Aside0.mk (blk_grown (g := gbx) (o := .cells #[.slice A0 C.length c0, .slice A1 L.length c1] 27 (0, 0)) BX.out hg (Known.ne KN.out BX.out))
            have n1_ := Aside0.mk (blk_grown (g := gbr) (o := .cells #[.bool false, .int .i64 0] 75 (0, 0)) BR.out hg (Known.ne KN.out BR.out))
            have n2_ := Aside0.mk (Below.grown HB.out hg HB.out.size (fun k hk => by cases hk; exact HBM.out))
            clear BX BR HB
            have BX := n0_
            have BR := n1_
            have HB := n2_
            clear n0_ n1_ n2_
            clear KN
            have KN := Aside0.mk hkn2
            clear hg hkn2
            refine hK.out _ _ ⟨(blk_cell BX.out 0).trans rfl, (blk_cell BX.out 1).trans rfl⟩ (fun hHeld => ?_)
            clear hK K
            refine norm_ (a' := ?_) ?_ ?_
            rotate_left
            · show Act.put _ (some 22) _ = _
              simp only [putAll, Act.put, List.setIfInBounds_toArray, List.set_cons_zero, List.set_cons_succ, i64_w, i32_w]
              rfl
            exact norm_ (by first | rfl | (simp only [putAll, Act.put, List.setIfInBounds_toArray, List.set_cons_zero, List.set_cons_succ, i64_w, i32_w]) <;> rfl) (hcont (bm, b7, bf, gbr) w11 ⟨HB.out, BX.out, BR.out, NE.out, GR.out⟩)
        · refine value_ (w1 := (w8.alloc (.cells #[.bool false, .int .i64 0] 75 (0, 0)))) (v := .pointer (some ⟨w8.heap.size, 0, none⟩)) (by rfl) rfl (by first | (go_simp; done) | (go_simp; rfl)) ?_
          have hbox := blk_new w8 (.cells #[.bool false, .int .i64 0] 75 (0, 0))
          have hb := below_alloc (Below.refl w8.heap.size w8) (.cells #[.bool false, .int .i64 0] 75 (0, 0))
          have hne := Nat.ne_of_lt (blk_lt BX.out)
          generalize w8.alloc (.cells #[.bool false, .int .i64 0] 75 (0, 0)) = w9 at hbox hb ⊢
          obtain ⟨gbr, hgb⟩ : ∃ gb, gb = w8.heap.size := ⟨_, rfl⟩
          rw [← hgb] at hbox hne ⊢
          have NE := Aside0.mk hne
          have GR := Aside0.mk (show w.heap.size ≤ gbr by rw [hgb]; exact HB.out.size)
          have BR := Aside0.mk hbox
          clear hgb hbox hne
          have n0_ := Aside0.mk (blk_below (g := gbx) (o := .cells #[.slice A0 C.length c0, .slice A1 L.length c1] 27 (0, 0)) BX.out hb)
          have n1_ := Aside0.mk (below_step HB.out hb)
          clear BX HB
          have BX := n0_
          have HB := n1_
          clear n0_ n1_
          clear hb
          refine hK.out _ _ ⟨(blk_cell BX.out 0).trans rfl, (blk_cell BX.out 1).trans rfl⟩ (fun hHeld => ?_)
          clear hK K
          refine norm_ (a' := ?_) ?_ ?_
          rotate_left
          · show Act.put _ (some 6) _ = _
            simp only [putAll, Act.put, List.setIfInBounds_toArray, List.set_cons_zero, List.set_cons_succ, i64_w, i32_w]
            rfl
          refine one_ (i := 1) (N := some 21) #[true, true, false, true, false] rfl rfl (by kernel_rfl) (by decide) (fun K hK => ?_)
          refine goes_ Try.func76 (by kernel_rfl) rfl #[] (by rfl) rfl rfl (by (try simp only [List.map_toArray, List.map_cons, List.map_nil]); first | done | rfl) ?_
          (with_reducible refine (values.calls _).mono ?_)
          rintro e w10 ⟨bm, b7, bf, rfl, hbm, hkn, hb⟩
          refine ⟨_, rfl, ?_⟩
          have HBM := Aside0.mk (Nat.le_trans HB.out.size hbm)
          have KN := Aside0.mk hkn
          clear hbm hkn
          have n0_ := Aside0.mk (blk_below (g := gbr) (o := .cells #[.bool false, .int .i64 0] 75 (0, 0)) BR.out hb)
          clear BR
          have BR := n0_
          clear n0_
          have n0_ := Aside0.mk (blk_below (g := gbx) (o := .cells #[.slice A0 C.length c0, .slice A1 L.length c1] 27 (0, 0)) BX.out hb)
          have n1_ := Aside0.mk (below_step HB.out hb)
          clear BX HB
          have BX := n0_
          have HB := n1_
          clear n0_ n1_
          clear hb
          refine hK.out _ _ ⟨(blk_cell BX.out 0).trans rfl, (blk_cell BX.out 1).trans rfl⟩ (fun hHeld => ?_)
          clear hK K
          refine norm_ (a' := ?_) ?_ ?_
          rotate_left
          · show Act.put _ (some 21) _ = _
            simp only [putAll, Act.put, List.setIfInBounds_toArray, List.set_cons_zero, List.set_cons_succ, i64_w, i32_w]
            rfl
          refine one_ (i := 2) (N := some 22) #[true, true, true, true, false] rfl rfl (by kernel_rfl) (by decide) (fun K hK => ?_)
          refine goes_ Try.func80 (by kernel_rfl) rfl #[.agg #[.slice A0 C.length c0, .slice A1 L.length c1], .func (.func 104) #[] #[.pointer (some ⟨b7, 0, none⟩), .pointer (some ⟨bf, 0, none⟩)]] (by rfl) rfl rfl (by (try simp only [List.map_toArray, List.map_cons, List.map_nil]); first | done | rfl) ?_
          refine (bestOpening.calls bm b7 bf C L o _ _ 0 _ HO.out.1 HO.out.2.1 HO.out.2.2 (by decide) HFO.out (RdE.came HR0.out HC0.out HB.out HBM.out) (RdE.came HR1.out HC1.out HB.out HBM.out) KN.out).mono ?_
          rintro e w11 ⟨rfl, hkn2, hg⟩
          refine ⟨_, rfl, ?_⟩
          have n0_ := Aside0.mk (blk_grown (g := gbx) (o := .cells #[.slice A0 C.length c0, .slice A1 L.length c1] 27 (0, 0)) BX.out hg (Known.ne KN.out BX.out))
          have n1_ := Aside0.mk (blk_grown (g := gbr) (o := .cells #[.bool false, .int .i64 0] 75 (0, 0)) BR.out hg (Known.ne KN.out BR.out))
          have n2_ := Aside0.mk (Below.grown HB.out hg HB.out.size (fun k hk => by cases hk; exact HBM.out))
          clear BX BR HB
          have BX := n0_
          have BR := n1_
          have HB := n2_
          clear n0_ n1_ n2_
          clear KN
          have KN := Aside0.mk hkn2
          clear hg hkn2
          refine hK.out _ _ ⟨(blk_cell BX.out 0).trans rfl, (blk_cell BX.out 1).trans rfl⟩ (fun hHeld => ?_)
          clear hK K
          refine norm_ (a' := ?_) ?_ ?_
          rotate_left
          · show Act.put _ (some 22) _ = _
            simp only [putAll, Act.put, List.setIfInBounds_toArray, List.set_cons_zero, List.set_cons_succ, i64_w, i32_w]
            rfl
          exact norm_ (by first | rfl | (simp only [putAll, Act.put, List.setIfInBounds_toArray, List.set_cons_zero, List.set_cons_succ, i64_w, i32_w]) <;> rfl) (hcont (bm, b7, bf, gbr) w11 ⟨HB.out, BX.out, BR.out, NE.out, GR.out⟩)
      rintro ⟨bm, b7, bf, gbr⟩ w12 ⟨hb_, hx_, hr_, hne_, hgr_⟩
      have HB2 := Aside0.mk hb_
      have BX2 := Aside0.mk hx_
      have BR := Aside0.mk hr_
      have GR := Aside0.mk hgr_
      have NE := Aside0.mk hne_
      clear hb_ hx_ hr_ hgr_ hne_ HB BX
      have HB := HB2
      have BX := BX2
      clear HB2 BX2
      refine norm_ (a' := ?_) ?_ ?_
      rotate_left
      · simp only [putAll, Act.put, List.setIfInBounds_toArray, List.set_cons_zero, List.set_cons_succ, i64_w, i32_w]
        rfl
      have hz0 : w12.cell? ⟨gbr, 0, none⟩ = some (.bool false) := (blk_cell BR.out 0).trans rfl
      have hz1 : w12.cell? ⟨gbr, 1, none⟩ = some (.int .i64 0) := (blk_cell BR.out 1).trans rfl
      have hf0 := blk_frozen BR.out 0
      have hf1 := blk_frozen BR.out 1
      refine one_ (i := 4) (N := none) #[true, true, true, true, true] rfl rfl (by kernel_rfl) (by decide) (fun K hK => ?_)
      refine skip_ (w1 := ((w12.setCell ⟨gbr, 0, none⟩ (.bool o.1)).setCell ⟨gbr, 1, none⟩ (.int .i64 o.2))) (by rfl) rfl (by first | (go_simp; done) | (go_simp; rfl)) ?_
      obtain ⟨w13, hw⟩ : ∃ w_, w_ = ((w12.setCell ⟨gbr, 0, none⟩ (.bool o.1)).setCell ⟨gbr, 1, none⟩ (.int .i64 o.2)) := ⟨_, rfl⟩
      rw [← hw]
      have n0_ := Aside0.mk (show Below w.heap.size w w13 by rw [hw]; exact below_set (below_set HB.out GR.out) GR.out)
      have n1_ := Aside0.mk (show w13.heap[gbx]? = some (.cells #[.slice A0 C.length c0, .slice A1 L.length c1] 27 (0, 0)) by rw [hw]; exact blk_far (p := ⟨gbr, 1, none⟩) (blk_far (p := ⟨gbr, 0, none⟩) BX.out NE.out _) NE.out _)
      have n2_ := Aside0.mk (show w13.heap[gbr]? = some (.cells #[.bool o.1, .int .i64 o.2] 75 (0, 0)) by rw [hw]; exact blk_put (cs := #[.bool o.1, .int .i64 0]) (blk_put (cs := #[.bool false, .int .i64 0]) BR.out 0 _ rfl) 1 _ rfl)
      clear HB BX BR hw hz0 hz1 hf0 hf1
      have HB := n0_
      have BX := n1_
      have BR := n2_
      clear n0_ n1_ n2_
      refine hK.out _ _ ⟨(blk_cell BX.out 0).trans rfl, (blk_cell BX.out 1).trans rfl⟩ (fun hHeld => ?_)
      clear hK K
      refine done_ (by kernel_rfl) ?_
      have hz0 : w13.cell? ⟨gbr, 0, none⟩ = some (.bool o.1) := (blk_cell BR.out 0).trans rfl
      have hz1 : w13.cell? ⟨gbr, 1, none⟩ = some (.int .i64 o.2) := (blk_cell BR.out 1).trans rfl
      have hf0 := blk_frozen BR.out 0
      have hf1 := blk_frozen BR.out 1
      go_wp2
      go_quiet (fail)
      try go_wp2
      go_ret3
      exact ⟨rfl, by repeat (first | exact HB.out | apply pw_below_drewN | apply below_drew1)⟩

end Go.Proofs.Ytkbjoiebaphdoaa.PX

namespace Go.Proofs.Ytkbjoiebaphdoaa.PX
open Go.RowKit Go.Proofs.YtkbjoiebaphdoaaW.PrintWords Go.Proofs.YtkbjoiebaphdoaaW.PrintLast Go.Proofs.YtkbjoiebaphdoaaW.PrintMore
attribute [local go_sem] max2_int min2_int max_two min_two max_three min_three max_four min_four   -- for this text's walks alone
set_option linter.unusedVariables false
set_option linter.unusedSimpArgs false

/-! ### laws_FnExactBestOpening: function 9 -/
def laws_FnExactBestOpening.j0 : Nat → Bool → List Int → List Int → List Int → List Int → Option (Bool)
  | 0, _, _, _, _, _ => none
  | k + 1, x43, x437000, x437001, x454000, x454001 => if x43 = true then (some false) else ((laws_toEnding.f k x437000 x437001).bind fun bt457 => ((laws_eqEnding.f k x454000 x454001 bt457.1 bt457.2).bind fun t463 => (if t463 = true then (some true) else (some false))))
def laws_FnExactBestOpening.f (k : Nat) (l0_0 : List Int) (l0_1 : List Int) : Option (Bool) := (laws_szEnding.f l0_0 l0_1 1048576).bind fun t437 => (if t437 < 0 then (some true) else ((laws_toEnding.f k l0_0 l0_1).bind fun bt438 => ((spec_BestOpening.f k bt438.1 bt438.2).bind fun bt444 => ((laws_toEnding.f k l0_0 l0_1).bind fun bt447 => ((impl_BestOpening.f k bt447.1 bt447.2).bind fun bt454 => (if (bt454.1 != bt444.1) = true then (laws_FnExactBestOpening.j0 k true l0_0 l0_1 bt447.1 bt447.2) else (if bt454.2.1 = bt444.2.1 then (laws_FnExactBestOpening.j0 k (bt454.2.2 != bt444.2.2) l0_0 l0_1 bt447.1 bt447.2) else (laws_FnExactBestOpening.j0 k true l0_0 l0_1 bt447.1 bt447.2))))))))
theorem laws_FnExactBestOpening.mono_l : ∀ k, (∀ y0 y1 y2 y3 y4, LeO (laws_FnExactBestOpening.j0 k y0 y1 y2 y3 y4) (laws_FnExactBestOpening.j0 (k + 1) y0 y1 y2 y3 y4))
  | 0 => fun _ _ _ _ _ r h => by simp [laws_FnExactBestOpening.j0] at h
  | k + 1 => by
    have ih0 := laws_FnExactBestOpening.mono_l k
    · intro y0 y1 y2 y3 y4
      unfold laws_FnExactBestOpening.j0
      repeat' first
      | (with_reducible exact ih0 _ _ _ _ _)
      | (with_reducible exact impl_BestOpening.mono _ _ _)
      | (with_reducible exact laws_eqEnding.mono _ _ _ _ _)
      | (with_reducible exact laws_toEnding.mono _ _ _)
      | (with_reducible exact spec_BestOpening.mono _ _ _)
      | (with_reducible exact LeO.refl _)
      | (with_reducible exact LeO.none _)
      | (with_reducible refine LeO.ite ?_ ?_)
      | (with_reducible refine LeO.bind ?_ (fun _ => ?_))
      | exact ih0 _ _ _ _ _
      | exact impl_BestOpening.mono _ _ _
      | exact laws_eqEnding.mono _ _ _ _ _
      | exact laws_toEnding.mono _ _ _
      | exact spec_BestOpening.mono _ _ _
      | exact LeO.none _
      | refine LeO.ite ?_ ?_
      | refine LeO.bind ?_ (fun _ => ?_)
theorem laws_FnExactBestOpening.mono : ∀ a0 a1 k, LeO (laws_FnExactBestOpening.f k a0 a1) (laws_FnExactBestOpening.f (k + 1) a0 a1) := by
  intro a0 a1 k
  have ih0 := laws_FnExactBestOpening.mono_l k
  unfold laws_FnExactBestOpening.f
  repeat' first
      | (with_reducible exact ih0 _ _ _ _ _)
      | (with_reducible exact impl_BestOpening.mono _ _ _)
      | (with_reducible exact laws_eqEnding.mono _ _ _ _ _)
      | (with_reducible exact laws_toEnding.mono _ _ _)
      | (with_reducible exact spec_BestOpening.mono _ _ _)
      | (with_reducible exact LeO.refl _)
      | (with_reducible exact LeO.none _)
      | (with_reducible refine LeO.ite ?_ ?_)
      | (with_reducible refine LeO.bind ?_ (fun _ => ?_))
      | exact ih0 _ _ _ _ _
      | exact impl_BestOpening.mono _ _ _
      | exact laws_eqEnding.mono _ _ _ _ _
      | exact laws_toEnding.mono _ _ _
      | exact spec_BestOpening.mono _ _ _
      | exact LeO.none _
      | refine LeO.ite ?_ ?_
      | refine LeO.bind ?_ (fun _ => ?_)
set_option maxHeartbeats 8000000 in
set_option maxRecDepth 100000 in
theorem laws_FnExactBestOpening.calls (k : Nat) (A0_0 : Option Addr) (c0_0 : Nat) (l0_0 : List Int) (A0_1 : Option Addr) (c0_1 : Nat) (l0_1 : List Int) (r : Bool) (w : World) (hr0_0 : Kd.C (Kd.int .i64) w A0_0 l0_0.length l0_0) (hc0_0 : l0_0.length ≤ c0_0) (hr0_1 : Kd.C (Kd.int .i64) w A0_1 l0_1.length l0_1) (hc0_1 : l0_1.length ≤ c0_1) (h : laws_FnExactBestOpening.f k l0_0 l0_1 = some r) :
    Calls Try.prog 9 #[.agg #[.slice A0_0 l0_0.length c0_0, .slice A0_1 l0_1.length c0_1]] w fun e w' => e = .returned (.bool r) ∧ Below w.heap.size w w' := by
  have hu24 := Try.underlying24
  have hu27 := Try.underlying27
  have HR0_0 := Aside0.mk hr0_0
  have HC0_0 := Aside0.mk hc0_0
  clear hr0_0 hc0_0
  have HR0_1 := Aside0.mk hr0_1
  have HC0_1 := Aside0.mk hc0_1
  clear hr0_1 hc0_1
  have HB := Aside0.mk (Below.refl w.heap.size w)
  have H : ((laws_szEnding.f l0_0 l0_1 1048576).bind fun t437 => (if t437 < 0 then (some true) else ((laws_toEnding.f k l0_0 l0_1).bind fun bt438 => ((spec_BestOpening.f k bt438.1 bt438.2).bind fun bt444 => ((laws_toEnding.f k l0_0 l0_1).bind fun bt447 => ((impl_BestOpening.f k bt447.1 bt447.2).bind fun bt454 => (if (bt454.1 != bt444.1) = true then (laws_FnExactBestOpening.j0 k true l0_0 l0_1 bt447.1 bt447.2) else (if bt454.2.1 = bt444.2.1 then (laws_FnExactBestOpening.j0 k (bt454.2.2 != bt444.2.2) l0_0 l0_1 bt447.1 bt447.2) else (laws_FnExactBestOpening.j0 k true l0_0 l0_1 bt447.1 bt447.2))))))))) = some r := h
  clear h
  replace H := Option.bind_eq_some_iff.mp H
  obtain ⟨t437, A20, H⟩ := H
  replace H : (if t437 < 0 then (some true) else ((laws_toEnding.f k l0_0 l0_1).bind fun bt438 => ((spec_BestOpening.f k bt438.1 bt438.2).bind fun bt444 => ((laws_toEnding.f k l0_0 l0_1).bind fun bt447 => ((impl_BestOpening.f k bt447.1 bt447.2).bind fun bt454 => (if (bt454.1 != bt444.1) = true then (laws_FnExactBestOpening.j0 k true l0_0 l0_1 bt447.1 bt447.2) else (if bt454.2.1 = bt444.2.1 then (laws_FnExactBestOpening.j0 k (bt454.2.2 != bt444.2.2) l0_0 l0_1 bt447.1 bt447.2) else (laws_FnExactBestOpening.j0 k true l0_0 l0_1 bt447.1 bt447.2)))))))) = some r := H
  have A2 := Aside0.mk A20
  clear A20
  by_cases c3 : t437 < 0
  · rw [if_pos c3] at H
    have c3b0 : decide (t437 < 0) = true := decide_eq_true c3
    clear c3
    obtain rfl := Option.some.inj H
    go_enter Try.func9, Try.ntmps9
    go_wp2_with (first | ((with_reducible refine gate_dst (N := 1) rfl ?_); refine box_event ?hg (N := 1) ?hd (cs := #[.slice A0_0 l0_0.length c0_0, .slice A0_1 l0_1.length c0_1]) (t := 24) ?hr ?_; (case hd => rfl); (case hg => rfl); (case hr => first | (go_simp; done) | (go_simp; rfl)); intro gb436 hg w4 hbox hb; have n0_ := Aside0.mk (below_step (by repeat (first | (with_reducible first | exact HB.out | apply below_alloc | apply pw_below_drewN | apply below_drew1) | exact HB.out)) hb); have n1_ := Aside0.mk (hbox); have n2_ := Aside0.mk ((by rw [hg]; exact (below_size (by repeat (first | (with_reducible first | exact HB.out | apply below_alloc | apply pw_below_drewN | apply below_drew1) | exact HB.out))) : w.heap.size ≤ gb436)); have n3_ := Aside0.mk ((by rw [hg]; exact (below_size (by repeat (first | (with_reducible first | exact HB.out | apply below_alloc | apply pw_below_drewN | apply below_drew1) | exact HB.out))) : w.heap.size ≤ gb436)); clear HB; have HB := n0_; have BK436 := n1_; have GW436 := n2_; have GE436 := n3_; clear n0_ n1_ n2_ n3_; clear hb hbox hg; have hcz5_0 : w4.cell? ⟨gb436, 0, none⟩ = some (.slice A0_0 l0_0.length c0_0) := (blk_cell BK436.out 0).trans rfl; have hcz5_1 : w4.cell? ⟨gb436, 1, none⟩ = some (.slice A0_1 l0_1.length c0_1) := (blk_cell BK436.out 1).trans rfl; have hfz5_0 := blk_frozen BK436.out 0; have hfz5_1 := blk_frozen BK436.out 1) | ((with_reducible refine gate_callee (f := 15) rfl ?_); refine goesL_ (some 13) rfl rfl Try.func15 (by kernel_rfl) rfl #[.agg #[.slice A0_0 l0_0.length c0_0, .slice A0_1 l0_1.length c0_1], .int .i64 1048576] rfl (by (try simp only [List.map_toArray, List.map_cons, List.map_nil]); first | done | rfl | (simp only [List.length_drop, List.length_take]; rfl)) ?_; (with_reducible refine (laws_szEnding.calls _ _ l0_0 _ _ l0_1 1048576 t437 _ ?side1 ?side2 ?side3 ?side4 A2.out).mono ?_); (case side1 => repeat (first | exact (Kd.C_below HR0_0.out HB.out) | (with_reducible refine Kd.C_alloc ?_ _) | (with_reducible refine Kd.C_drewN ?_ _) | (with_reducible refine Kd.C_drew ?_))); (case side2 => exact HC0_0.out); (case side3 => repeat (first | exact (Kd.C_below HR0_1.out HB.out) | (with_reducible refine Kd.C_alloc ?_ _) | (with_reducible refine Kd.C_drewN ?_ _) | (with_reducible refine Kd.C_drew ?_))); (case side4 => exact HC0_1.out); rintro e w6 ⟨rfl, hb⟩; refine ⟨_, rfl, ?_⟩; have n0_ := Aside0.mk (blk_below (g := gb436) (o := .cells #[.slice A0_0 l0_0.length c0_0, .slice A0_1 l0_1.length c0_1] 24 (0, 0)) (by (with_reducible repeat (first | refine blk_drewN ?_ _ | refine blk_drew ?_ | refine blk_alloc ?_ _)); exact BK436.out) hb); have n1_ := Aside0.mk (below_step (by repeat (first | (with_reducible first | exact HB.out | apply below_alloc | apply pw_below_drewN | apply below_drew1 | refine below_set ?_ GE436.out) | exact HB.out)) hb); clear BK436; clear HB; have BK436 := n0_; have HB := n1_; clear n0_ n1_; (try clear hb); (try clear hb2); (try clear hk); (try clear hi)))
    go_ret
    exact ⟨by first | rfl | (simp [errW_none, errW_some] <;> rfl) | (simp [*, errW_none, errW_some] <;> rfl), by repeat (first | (with_reducible first | exact HB.out | apply below_alloc | apply pw_below_drewN | apply below_drew1 | refine below_set ?_ GE436.out) | exact HB.out)⟩
  · rw [if_neg c3] at H
    have c3b0 : decide (t437 < 0) = false := decide_eq_false c3
    clear c3
    replace H := Option.bind_eq_some_iff.mp H
    obtain ⟨⟨t438, t441⟩, A70, H⟩ := H
    replace H : ((spec_BestOpening.f k t438 t441).bind fun bt444 => ((laws_toEnding.f k l0_0 l0_1).bind fun bt447 => ((impl_BestOpening.f k bt447.1 bt447.2).bind fun bt454 => (if (bt454.1 != bt444.1) = true then (laws_FnExactBestOpening.j0 k true l0_0 l0_1 bt447.1 bt447.2) else (if bt454.2.1 = bt444.2.1 then (laws_FnExactBestOpening.j0 k (bt454.2.2 != bt444.2.2) l0_0 l0_1 bt447.1 bt447.2) else (laws_FnExactBestOpening.j0 k true l0_0 l0_1 bt447.1 bt447.2)))))) = some r := H
    have A7 := Aside0.mk A70
    clear A70
    replace H := Option.bind_eq_some_iff.mp H
    obtain ⟨⟨t444, t445, t446⟩, A80, H⟩ := H
    replace H : ((laws_toEnding.f k l0_0 l0_1).bind fun bt447 => ((impl_BestOpening.f k bt447.1 bt447.2).bind fun bt454 => (if (bt454.1 != t444) = true then (laws_FnExactBestOpening.j0 k true l0_0 l0_1 bt447.1 bt447.2) else (if bt454.2.1 = t445 then (laws_FnExactBestOpening.j0 k (bt454.2.2 != t446) l0_0 l0_1 bt447.1 bt447.2) else (laws_FnExactBestOpening.j0 k true l0_0 l0_1 bt447.1 bt447.2))))) = some r := H
    have A8 := Aside0.mk A80
    clear A80
    replace H := Option.bind_eq_some_iff.mp H
    obtain ⟨⟨t447, t450⟩, A90, H⟩ := H
    replace H : ((impl_BestOpening.f k t447 t450).bind fun bt454 => (if (bt454.1 != t444) = true then (laws_FnExactBestOpening.j0 k true l0_0 l0_1 t447 t450) else (if bt454.2.1 = t445 then (laws_FnExactBestOpening.j0 k (bt454.2.2 != t446) l0_0 l0_1 t447 t450) else (laws_FnExactBestOpening.j0 k true l0_0 l0_1 t447 t450)))) = some r := H
    have A9 := Aside0.mk A90
    clear A90
    replace H := Option.bind_eq_some_iff.mp H
    obtain ⟨⟨t454, t455, t456⟩, A100, H⟩ := H
    replace H : (if (t454 != t444) = true then (laws_FnExactBestOpening.j0 k true l0_0 l0_1 t447 t450) else (if t455 = t445 then (laws_FnExactBestOpening.j0 k (t456 != t446) l0_0 l0_1 t447 t450) else (laws_FnExactBestOpening.j0 k true l0_0 l0_1 t447 t450))) = some r := H
    have A10 := Aside0.mk A100
    clear A100
    have HC11 := Aside0.mk H
    clear H
    go_enter Try.func9, Try.ntmps9
    go_upto_region 8 with (first | ((with_reducible refine gate_dst (N := 1) rfl ?_); refine box_event ?hg (N := 1) ?hd (cs := #[.slice A0_0 l0_0.length c0_0, .slice A0_1 l0_1.length c0_1]) (t := 24) ?hr ?_; (case hd => rfl); (case hg => rfl); (case hr => first | (go_simp; done) | (go_simp; rfl)); intro gb436 hg w12 hbox hb; have n0_ := Aside0.mk (below_step (by repeat (first | (with_reducible first | exact HB.out | apply below_alloc | apply pw_below_drewN | apply below_drew1) | exact HB.out)) hb); have n1_ := Aside0.mk (hbox); have n2_ := Aside0.mk ((by rw [hg]; exact (below_size (by repeat (first | (with_reducible first | exact HB.out | apply below_alloc | apply pw_below_drewN | apply below_drew1) | exact HB.out))) : w.heap.size ≤ gb436)); have n3_ := Aside0.mk ((by rw [hg]; exact (below_size (by repeat (first | (with_reducible first | exact HB.out | apply below_alloc | apply pw_below_drewN | apply below_drew1) | exact HB.out))) : w.heap.size ≤ gb436)); clear HB; have HB := n0_; have BK436 := n1_; have GW436 := n2_; have GE436 := n3_; clear n0_ n1_ n2_ n3_; clear hb hbox hg; have hcz13_0 : w12.cell? ⟨gb436, 0, none⟩ = some (.slice A0_0 l0_0.length c0_0) := (blk_cell BK436.out 0).trans rfl; have hcz13_1 : w12.cell? ⟨gb436, 1, none⟩ = some (.slice A0_1 l0_1.length c0_1) := (blk_cell BK436.out 1).trans rfl; have hfz13_0 := blk_frozen BK436.out 0; have hfz13_1 := blk_frozen BK436.out 1) | ((with_reducible refine gate_callee (f := 15) rfl ?_); refine goesL_ (some 13) rfl rfl Try.func15 (by kernel_rfl) rfl #[.agg #[.slice A0_0 l0_0.length c0_0, .slice A0_1 l0_1.length c0_1], .int .i64 1048576] rfl (by (try simp only [List.map_toArray, List.map_cons, List.map_nil]); first | done | rfl | (simp only [List.length_drop, List.length_take]; rfl)) ?_; (with_reducible refine (laws_szEnding.calls _ _ l0_0 _ _ l0_1 1048576 t437 _ ?side1 ?side2 ?side3 ?side4 A2.out).mono ?_); (case side1 => repeat (first | exact (Kd.C_below HR0_0.out HB.out) | (with_reducible refine Kd.C_alloc ?_ _) | (with_reducible refine Kd.C_drewN ?_ _) | (with_reducible refine Kd.C_drew ?_))); (case side2 => exact HC0_0.out); (case side3 => repeat (first | exact (Kd.C_below HR0_1.out HB.out) | (with_reducible refine Kd.C_alloc ?_ _) | (with_reducible refine Kd.C_drewN ?_ _) | (with_reducible refine Kd.C_drew ?_))); (case side4 => exact HC0_1.out); rintro e w14 ⟨rfl, hb⟩; refine ⟨_, rfl, ?_⟩; have n0_ := Aside0.mk (blk_below (g := gb436) (o := .cells #[.slice A0_0 l0_0.length c0_0, .slice A0_1 l0_1.length c0_1] 24 (0, 0)) (by (with_reducible repeat (first | refine blk_drewN ?_ _ | refine blk_drew ?_ | refine blk_alloc ?_ _)); exact BK436.out) hb); have n1_ := Aside0.mk (below_step (by repeat (first | (with_reducible first | exact HB.out | apply below_alloc | apply pw_below_drewN | apply below_drew1 | refine below_set ?_ GE436.out) | exact HB.out)) hb); clear BK436; clear HB; have BK436 := n0_; have HB := n1_; clear n0_ n1_; (try clear hb); (try clear hb2); (try clear hk); (try clear hi); have hcz15_0 : w14.cell? ⟨gb436, 0, none⟩ = some (.slice A0_0 l0_0.length c0_0) := (blk_cell BK436.out 0).trans rfl; have hcz15_1 : w14.cell? ⟨gb436, 1, none⟩ = some (.slice A0_1 l0_1.length c0_1) := (blk_cell BK436.out 1).trans rfl; have hfz15_0 := blk_frozen BK436.out 0; have hfz15_1 := blk_frozen BK436.out 1) | ((with_reducible refine gate_callee (f := 17) rfl ?_); refine goesL_ (some 18) rfl rfl Try.func17 (by kernel_rfl) rfl #[.agg #[.slice A0_0 l0_0.length c0_0, .slice A0_1 l0_1.length c0_1]] rfl (by (try simp only [List.map_toArray, List.map_cons, List.map_nil]); first | done | rfl | (simp only [List.length_drop, List.length_take]; rfl)) ?_; (with_reducible refine (laws_toEnding.calls k _ _ l0_0 _ _ l0_1 t438 t441 _ ?side1 ?side2 ?side3 ?side4 A7.out).mono ?_); (case side1 => repeat (first | exact (Kd.C_below HR0_0.out HB.out) | (with_reducible refine Kd.C_alloc ?_ _) | (with_reducible refine Kd.C_drewN ?_ _) | (with_reducible refine Kd.C_drew ?_))); (case side2 => exact HC0_0.out); (case side3 => repeat (first | exact (Kd.C_below HR0_1.out HB.out) | (with_reducible refine Kd.C_alloc ?_ _) | (with_reducible refine Kd.C_drewN ?_ _) | (with_reducible refine Kd.C_drew ?_))); (case side4 => exact HC0_1.out); rintro e w16 ⟨v439, v442, rfl, ho0, ho1, hb⟩; refine ⟨_, rfl, ?_⟩; have n0_ := Aside0.mk (Kd.R_lower ho0 (below_size (by repeat (first | (with_reducible first | exact HB.out | apply below_alloc | apply pw_below_drewN | apply below_drew1 | refine below_set ?_ GE436.out) | exact HB.out)))); have n1_ := Aside0.mk (Kd.R_lower ho1 (below_size (by repeat (first | (with_reducible first | exact HB.out | apply below_alloc | apply pw_below_drewN | apply below_drew1 | refine below_set ?_ GE436.out) | exact HB.out)))); have n2_ := Aside0.mk (blk_below (g := gb436) (o := .cells #[.slice A0_0 l0_0.length c0_0, .slice A0_1 l0_1.length c0_1] 24 (0, 0)) (by (with_reducible repeat (first | refine blk_drewN ?_ _ | refine blk_drew ?_ | refine blk_alloc ?_ _)); exact BK436.out) hb); have n3_ := Aside0.mk (below_step (by repeat (first | (with_reducible first | exact HB.out | apply below_alloc | apply pw_below_drewN | apply below_drew1 | refine below_set ?_ GE436.out) | exact HB.out)) hb); clear BK436; clear HB; have HO440 := n0_; have HO443 := n1_; have BK436 := n2_; have HB := n3_; clear n0_ n1_ n2_ n3_; (try clear hb); (try clear hb2); (try clear hk); (try clear hi); (try clear ho0); (try clear ho1); obtain ⟨Ao17, co17, eo17⟩ := Kd.R_slice HO440.out; subst eo17; obtain ⟨Ao18, co18, eo18⟩ := Kd.R_slice HO443.out; subst eo18) | ((with_reducible refine gate_callee (f := 32) rfl ?_); refine goesL_ (some 19) rfl rfl Try.func32 (by kernel_rfl) rfl #[.agg #[.slice Ao17 t438.length co17, .slice Ao18 t441.length co18]] rfl (by (try simp only [List.map_toArray, List.map_cons, List.map_nil]); first | done | rfl | (simp only [List.length_drop, List.length_take]; rfl)) ?_; (with_reducible refine (spec_BestOpening.calls k _ _ t438 _ _ t441 t444 t445 t446 _ ?side1 ?side2 ?side3 ?side4 A8.out).mono ?_); (case side1 => repeat (first | exact (Kd.R_reads' HO440.out).2.2 | (with_reducible refine Kd.C_alloc ?_ _) | (with_reducible refine Kd.C_drewN ?_ _) | (with_reducible refine Kd.C_drew ?_))); (case side2 => exact (Kd.R_reads' HO440.out).2.1); (case side3 => repeat (first | exact (Kd.R_reads' HO443.out).2.2 | (with_reducible refine Kd.C_alloc ?_ _) | (with_reducible refine Kd.C_drewN ?_ _) | (with_reducible refine Kd.C_drew ?_))); (case side4 => exact (Kd.R_reads' HO443.out).2.1); rintro e w19 ⟨rfl, hb⟩; refine ⟨_, rfl, ?_⟩; have n0_ := Aside0.mk (Kd.R_below (by (with_reducible repeat (first | apply Kd.R_alloc | apply Kd.R_drewN | apply Kd.R_drew)); exact HO440.out) hb); have n1_ := Aside0.mk (Kd.R_below (by (with_reducible repeat (first | apply Kd.R_alloc | apply Kd.R_drewN | apply Kd.R_drew)); exact HO443.out) hb); have n2_ := Aside0.mk (blk_below (g := gb436) (o := .cells #[.slice A0_0 l0_0.length c0_0, .slice A0_1 l0_1.length c0_1] 24 (0, 0)) (by (with_reducible repeat (first | refine blk_drewN ?_ _ | refine blk_drew ?_ | refine blk_alloc ?_ _)); exact BK436.out) hb); have n3_ := Aside0.mk (below_step (by repeat (first | (with_reducible first | exact HB.out | apply below_alloc | apply pw_below_drewN | apply below_drew1 | refine below_set ?_ GE436.out) | exact HB.out)) hb); clear HO440; clear HO443; clear BK436; clear HB; have HO440 := n0_; have HO443 := n1_; have BK436 := n2_; have HB := n3_; clear n0_ n1_ n2_ n3_; (try clear hb); (try clear hb2); (try clear hk); (try clear hi); have hcz20_0 : w19.cell? ⟨gb436, 0, none⟩ = some (.slice A0_0 l0_0.length c0_0) := (blk_cell BK436.out 0).trans rfl; have hcz20_1 : w19.cell? ⟨gb436, 1, none⟩ = some (.slice A0_1 l0_1.length c0_1) := (blk_cell BK436.out 1).trans rfl; have hfz20_0 := blk_frozen BK436.out 0; have hfz20_1 := blk_frozen BK436.out 1) | ((with_reducible refine gate_callee (f := 17) rfl ?_); refine goesL_ (some 24) rfl rfl Try.func17 (by kernel_rfl) rfl #[.agg #[.slice A0_0 l0_0.length c0_0, .slice A0_1 l0_1.length c0_1]] rfl (by (try simp only [List.map_toArray, List.map_cons, List.map_nil]); first | done | rfl | (simp only [List.length_drop, List.length_take]; rfl)) ?_; (with_reducible refine (laws_toEnding.calls k _ _ l0_0 _ _ l0_1 t447 t450 _ ?side1 ?side2 ?side3 ?side4 A9.out).mono ?_); (case side1 => repeat (first | exact (Kd.C_below HR0_0.out HB.out) | (with_reducible refine Kd.C_alloc ?_ _) | (with_reducible refine Kd.C_drewN ?_ _) | (with_reducible refine Kd.C_drew ?_))); (case side2 => exact HC0_0.out); (case side3 => repeat (first | exact (Kd.C_below HR0_1.out HB.out) | (with_reducible refine Kd.C_alloc ?_ _) | (with_reducible refine Kd.C_drewN ?_ _) | (with_reducible refine Kd.C_drew ?_))); (case side4 => exact HC0_1.out); rintro e w21 ⟨v448, v451, rfl, ho0, ho1, hb⟩; refine ⟨_, rfl, ?_⟩; have n0_ := Aside0.mk (Kd.R_mono (Kd.R_told (Kd.R_told (Kd.R_old (by (with_reducible repeat (first | apply Kd.R_alloc | apply Kd.R_drewN | apply Kd.R_drew)); exact HO440.out) hb) (Kd.R_base ho0)) (Kd.R_base ho1)) (fun _ h_ => h_.1)); have n1_ := Aside0.mk (Kd.R_mono (Kd.R_told (Kd.R_told (Kd.R_old (by (with_reducible repeat (first | apply Kd.R_alloc | apply Kd.R_drewN | apply Kd.R_drew)); exact HO443.out) hb) (Kd.R_base ho0)) (Kd.R_base ho1)) (fun _ h_ => h_.1)); have n2_ := Aside0.mk (Kd.R_lower (Kd.R_new' (Kd.R_new' ho0 (Kd.R_lt (by (with_reducible repeat (first | apply Kd.R_alloc | apply Kd.R_drewN | apply Kd.R_drew)); exact HO440.out))) (Kd.R_lt (by (with_reducible repeat (first | apply Kd.R_alloc | apply Kd.R_drewN | apply Kd.R_drew)); exact HO443.out))) (below_size (by repeat (first | (with_reducible first | exact HB.out | apply below_alloc | apply pw_below_drewN | apply below_drew1 | refine below_set ?_ GE436.out) | exact HB.out)))); have n3_ := Aside0.mk (Kd.R_lower (Kd.R_new' (Kd.R_new' ho1 (Kd.R_lt (by (with_reducible repeat (first | apply Kd.R_alloc | apply Kd.R_drewN | apply Kd.R_drew)); exact HO440.out))) (Kd.R_lt (by (with_reducible repeat (first | apply Kd.R_alloc | apply Kd.R_drewN | apply Kd.R_drew)); exact HO443.out))) (below_size (by repeat (first | (with_reducible first | exact HB.out | apply below_alloc | apply pw_below_drewN | apply below_drew1 | refine below_set ?_ GE436.out) | exact HB.out)))); have n4_ := Aside0.mk (blk_below (g := gb436) (o := .cells #[.slice A0_0 l0_0.length c0_0, .slice A0_1 l0_1.length c0_1] 24 (0, 0)) (by (with_reducible repeat (first | refine blk_drewN ?_ _ | refine blk_drew ?_ | refine blk_alloc ?_ _)); exact BK436.out) hb); have n5_ := Aside0.mk (below_step (by repeat (first | (with_reducible first | exact HB.out | apply below_alloc | apply pw_below_drewN | apply below_drew1 | refine below_set ?_ GE436.out) | exact HB.out)) hb); clear HO440; clear HO443; clear BK436; clear HB; have HO440 := n0_; have HO443 := n1_; have HO449 := n2_; have HO452 := n3_; have BK436 := n4_; have HB := n5_; clear n0_ n1_ n2_ n3_ n4_ n5_; (try clear hb); (try clear hb2); (try clear hk); (try clear hi); (try clear ho0); (try clear ho1)) | ((with_reducible refine gate_dst (N := 7) rfl ?_); refine box_event ?hg (N := 7) ?hd (cs := #[.slice none 0 0, .slice none 0 0]) (t := 27) ?hr ?_; (case hd => rfl); (case hg => rfl); (case hr => first | (go_simp; done) | (go_simp; rfl)); intro gb453 hg w22 hbox hb; have n0_ := Aside0.mk (Kd.R_below (by (with_reducible repeat (first | apply Kd.R_alloc | apply Kd.R_drewN | apply Kd.R_drew)); exact HO440.out) hb); have n1_ := Aside0.mk (Kd.R_below (by (with_reducible repeat (first | apply Kd.R_alloc | apply Kd.R_drewN | apply Kd.R_drew)); exact HO443.out) hb); have n2_ := Aside0.mk (Kd.R_below (by (with_reducible repeat (first | apply Kd.R_alloc | apply Kd.R_drewN | apply Kd.R_drew)); exact HO449.out) hb); have n3_ := Aside0.mk (Kd.R_below (by (with_reducible repeat (first | apply Kd.R_alloc | apply Kd.R_drewN | apply Kd.R_drew)); exact HO452.out) hb); have n4_ := Aside0.mk (blk_below (g := gb436) (o := .cells #[.slice A0_0 l0_0.length c0_0, .slice A0_1 l0_1.length c0_1] 24 (0, 0)) (by (with_reducible repeat (first | refine blk_drewN ?_ _ | refine blk_drew ?_ | refine blk_alloc ?_ _)); exact BK436.out) hb); have n5_ := Aside0.mk (below_step (by repeat (first | (with_reducible first | exact HB.out | apply below_alloc | apply pw_below_drewN | apply below_drew1 | refine below_set ?_ GE436.out) | exact HB.out)) hb); have n6_ := Aside0.mk (hbox); have n7_ := Aside0.mk ((by rw [hg]; exact (below_size (by repeat (first | (with_reducible first | exact HB.out | apply below_alloc | apply pw_below_drewN | apply below_drew1 | refine below_set ?_ GE436.out) | exact HB.out))) : w.heap.size ≤ gb453)); have n8_ := Aside0.mk ((by rw [hg]; exact (below_size (by repeat (first | (with_reducible first | exact HB.out | apply below_alloc | apply pw_below_drewN | apply below_drew1 | refine below_set ?_ GE436.out) | exact HB.out))) : w.heap.size ≤ gb453)); have n9_ := Aside0.mk ((by rw [hg]; exact Nat.ne_of_lt (blk_lt (g := gb436) (o := .cells #[.slice A0_0 l0_0.length c0_0, .slice A0_1 l0_1.length c0_1] 24 (0, 0)) (by (with_reducible repeat (first | refine blk_drewN ?_ _ | refine blk_drew ?_ | refine blk_alloc ?_ _)); exact BK436.out)) : gb436 ≠ gb453)); have n10_ := Aside0.mk ((by rw [hg]; exact Nat.ne_of_gt (blk_lt (g := gb436) (o := .cells #[.slice A0_0 l0_0.length c0_0, .slice A0_1 l0_1.length c0_1] 24 (0, 0)) (by (with_reducible repeat (first | refine blk_drewN ?_ _ | refine blk_drew ?_ | refine blk_alloc ?_ _)); exact BK436.out)) : gb453 ≠ gb436)); clear HO440; clear HO443; clear HO449; clear HO452; clear BK436; clear HB; have HO440 := n0_; have HO443 := n1_; have HO449 := n2_; have HO452 := n3_; have BK436 := n4_; have HB := n5_; have BK453 := n6_; have GW453 := n7_; have GE453 := n8_; have NB436_453 := n9_; have NB453_436 := n10_; clear n0_ n1_ n2_ n3_ n4_ n5_ n6_ n7_ n8_ n9_ n10_; clear hb hbox hg; obtain ⟨Ao23, co23, eo23⟩ := Kd.R_slice HO449.out; subst eo23; have hnb24 := NB453_436.out; have hnc24 := NB436_453.out; have hcz25_0 : w22.cell? ⟨gb453, 0, none⟩ = some (.slice none 0 0) := (blk_cell BK453.out 0).trans rfl; have hcz25_1 : w22.cell? ⟨gb453, 1, none⟩ = some (.slice none 0 0) := (blk_cell BK453.out 1).trans rfl; have hfz25_0 := blk_frozen BK453.out 0; have hfz25_1 := blk_frozen BK453.out 1; obtain ⟨Ao26, co26, eo26⟩ := Kd.R_slice HO452.out; subst eo26) | ((with_reducible refine gate_callee (f := 33) rfl ?_); refine goesL_ (some 27) rfl rfl Try.func33 (by kernel_rfl) rfl #[.agg #[.slice Ao23 t447.length co23, .slice Ao26 t450.length co26]] rfl (by (try simp only [List.map_toArray, List.map_cons, List.map_nil]); first | done | rfl | (simp only [List.length_drop, List.length_take]; rfl)) ?_; (with_reducible refine (impl_BestOpening.calls k _ _ t447 _ _ t450 t454 t455 t456 _ ?side1 ?side2 ?side3 ?side4 A10.out).mono ?_); (case side1 => refine (Kd.R_reads' (e := 2) (base := w.heap.size) (ok := fun k_ => ((some k_ ≠ (.slice Ao26 t450.length co26 : Value).ownBlock ∧ some k_ ≠ (.slice Ao17 t438.length co17 : Value).ownBlock) ∧ some k_ ≠ (.slice Ao18 t441.length co18 : Value).ownBlock)) (n := t447.length) (c := co23) ?_).2.2; exact (by (with_reducible repeat (first | apply Kd.R_alloc | apply Kd.R_drewN | apply Kd.R_drew)); exact (Kd.R_mono (Kd.R_far (p := ⟨gb453, 1, none⟩) (Kd.R_far (p := ⟨gb453, 0, none⟩) (Kd.R_types HO449.out BK453.out (by decide)) (fun _ hk => hk.2) (.slice Ao23 t447.length co23)) (fun _ hk => hk.2) (.slice Ao26 t450.length co26)) (fun _ h_ => h_.1)))); (case side2 => exact (Kd.R_reads' HO449.out).2.1); (case side3 => refine (Kd.R_reads' (e := 2) (base := w.heap.size) (ok := fun k_ => ((some k_ ≠ (.slice Ao23 t447.length co23 : Value).ownBlock ∧ some k_ ≠ (.slice Ao17 t438.length co17 : Value).ownBlock) ∧ some k_ ≠ (.slice Ao18 t441.length co18 : Value).ownBlock)) (n := t450.length) (c := co26) ?_).2.2; exact (by (with_reducible repeat (first | apply Kd.R_alloc | apply Kd.R_drewN | apply Kd.R_drew)); exact (Kd.R_mono (Kd.R_far (p := ⟨gb453, 1, none⟩) (Kd.R_far (p := ⟨gb453, 0, none⟩) (Kd.R_types HO452.out BK453.out (by decide)) (fun _ hk => hk.2) (.slice Ao23 t447.length co23)) (fun _ hk => hk.2) (.slice Ao26 t450.length co26)) (fun _ h_ => h_.1)))); (case side4 => exact (Kd.R_reads' HO452.out).2.1); rintro e w27 ⟨rfl, hb⟩; refine ⟨_, rfl, ?_⟩; have n0_ := Aside0.mk (Kd.R_below (by (with_reducible repeat (first | apply Kd.R_alloc | apply Kd.R_drewN | apply Kd.R_drew)); exact (Kd.R_mono (Kd.R_far (p := ⟨gb453, 1, none⟩) (Kd.R_far (p := ⟨gb453, 0, none⟩) (Kd.R_types HO440.out BK453.out (by decide)) (fun _ hk => hk.2) (.slice Ao23 t447.length co23)) (fun _ hk => hk.2) (.slice Ao26 t450.length co26)) (fun _ h_ => h_.1))) hb); have n1_ := Aside0.mk (Kd.R_below (by (with_reducible repeat (first | apply Kd.R_alloc | apply Kd.R_drewN | apply Kd.R_drew)); exact (Kd.R_mono (Kd.R_far (p := ⟨gb453, 1, none⟩) (Kd.R_far (p := ⟨gb453, 0, none⟩) (Kd.R_types HO443.out BK453.out (by decide)) (fun _ hk => hk.2) (.slice Ao23 t447.length co23)) (fun _ hk => hk.2) (.slice Ao26 t450.length co26)) (fun _ h_ => h_.1))) hb); have n2_ := Aside0.mk (Kd.R_below (by (with_reducible repeat (first | apply Kd.R_alloc | apply Kd.R_drewN | apply Kd.R_drew)); exact (Kd.R_mono (Kd.R_far (p := ⟨gb453, 1, none⟩) (Kd.R_far (p := ⟨gb453, 0, none⟩) (Kd.R_types HO449.out BK453.out (by decide)) (fun _ hk => hk.2) (.slice Ao23 t447.length co23)) (fun _ hk => hk.2) (.slice Ao26 t450.length co26)) (fun _ h_ => h_.1))) hb); have n3_ := Aside0.mk (Kd.R_below (by (with_reducible repeat (first | apply Kd.R_alloc | apply Kd.R_drewN | apply Kd.R_drew)); exact (Kd.R_mono (Kd.R_far (p := ⟨gb453, 1, none⟩) (Kd.R_far (p := ⟨gb453, 0, none⟩) (Kd.R_types HO452.out BK453.out (by decide)) (fun _ hk => hk.2) (.slice Ao23 t447.length co23)) (fun _ hk => hk.2) (.slice Ao26 t450.length co26)) (fun _ h_ => h_.1))) hb); have n4_ := Aside0.mk (blk_below (g := gb436) (o := .cells #[.slice A0_0 l0_0.length c0_0, .slice A0_1 l0_1.length c0_1] 24 (0, 0)) (by (with_reducible repeat (first | refine blk_drewN ?_ _ | refine blk_drew ?_ | refine blk_alloc ?_ _)); refine blk_far ?_ NB436_453.out _; (with_reducible repeat (first | refine blk_drewN ?_ _ | refine blk_drew ?_ | refine blk_alloc ?_ _)); refine blk_far ?_ NB436_453.out _; (with_reducible repeat (first | refine blk_drewN ?_ _ | refine blk_drew ?_ | refine blk_alloc ?_ _)); exact BK436.out) hb); have n5_ := Aside0.mk (blk_below (g := gb453) (o := .cells #[.slice Ao23 t447.length co23, .slice Ao26 t450.length co26] 27 (0, 0)) (by (with_reducible repeat (first | refine blk_drewN ?_ _ | refine blk_drew ?_ | refine blk_alloc ?_ _)); refine blk_put (cs := #[.slice Ao23 t447.length co23, .slice none 0 0]) ?_ 1 _ rfl; (with_reducible repeat (first | refine blk_drewN ?_ _ | refine blk_drew ?_ | refine blk_alloc ?_ _)); refine blk_put (cs := #[.slice none 0 0, .slice none 0 0]) ?_ 0 _ rfl; (with_reducible repeat (first | refine blk_drewN ?_ _ | refine blk_drew ?_ | refine blk_alloc ?_ _)); exact BK453.out) hb); have n6_ := Aside0.mk (below_step (by repeat (first | (with_reducible first | exact HB.out | apply below_alloc | apply pw_below_drewN | apply below_drew1 | refine below_set ?_ GE436.out | refine below_set ?_ GE453.out) | exact HB.out)) hb); clear HO440; clear HO443; clear HO449; clear HO452; clear BK436; clear BK453; clear HB; have HO440 := n0_; have HO443 := n1_; have HO449 := n2_; have HO452 := n3_; have BK436 := n4_; have BK453 := n5_; have HB := n6_; clear n0_ n1_ n2_ n3_ n4_ n5_ n6_; (try clear hb); (try clear hb2); (try clear hk); (try clear hi)))
    (try simp only [Act.put, List.setIfInBounds_toArray, List.set_cons_zero, List.set_cons_succ])
    go_cut [43] (fun v43 wc => ∃ (kq : Nat) (x43_10 : Bool), v43 = .bool x43_10 ∧ Aside0 (laws_FnExactBestOpening.j0 kq x43_10 l0_0 l0_1 t447 t450 = some r) ∧ Aside0 (kq ≤ k) ∧ Aside0 (Kd.R (Kd.int .i64) 2 wc w.heap.size (fun k_ => some k_ ≠ ((.slice Ao26 t450.length co26) : Value).ownBlock) (.slice Ao23 t447.length co23) t447) ∧ Aside0 (Kd.R (Kd.int .i64) 2 wc w.heap.size (fun k_ => some k_ ≠ ((.slice Ao23 t447.length co23) : Value).ownBlock) (.slice Ao26 t450.length co26) t450) ∧ Aside0 (wc.heap[gb436]? = some (.cells #[(.slice A0_0 l0_0.length c0_0), (.slice A0_1 l0_1.length c0_1)] 24 (0, 0))) ∧ Aside0 (wc.heap[gb453]? = some (.cells #[(.slice Ao23 t447.length co23), (.slice Ao26 t450.length co26)] 27 (0, 0))) ∧ Aside0 (Below w.heap.size w wc))
    case first =>
      have H := HC11.out
      clear HC11
      by_cases c28 : (t454 != t444) = true
      · rw [if_pos c28] at H
        have c28b0 : (t454 != t444) = true := c28
        (try (have c28b1 : decide (t454 = t444) = false := by simpa using c28))
        (try (have c28b2 : (t454 == t444) = false := by simpa using c28))
        (try (have c28b3 : ¬ (t454 = t444) := by simpa using c28))
        clear c28
        (first | rw [c28b0] | (simp only [i64_w, i32_w]; rw [c28b0]) | skip)
        have H' := Aside0.mk H
        clear H
        go_wp2
        go_meet
        case rel => exact ⟨_, (true), (by first | rfl | (simp; done) | (simp [*]; done)), H', ⟨by first | omega | exact Nat.le_refl _⟩, ⟨by (with_reducible repeat (first | apply Kd.R_alloc | apply Kd.R_drewN | apply Kd.R_drew)); exact Kd.R_mono HO449.out (fun _ hk => hk.1.1)⟩, ⟨by (with_reducible repeat (first | apply Kd.R_alloc | apply Kd.R_drewN | apply Kd.R_drew)); exact Kd.R_mono HO452.out (fun _ hk => hk.1.1)⟩, ⟨by (with_reducible repeat (first | refine blk_drewN ?_ _ | refine blk_drew ?_ | refine blk_alloc ?_ _)); exact BK436.out⟩, ⟨by (with_reducible repeat (first | refine blk_drewN ?_ _ | refine blk_drew ?_ | refine blk_alloc ?_ _)); exact BK453.out⟩, ⟨by repeat (first | (with_reducible first | exact HB.out | apply below_alloc | apply pw_below_drewN | apply below_drew1 | refine below_set ?_ GE436.out | refine below_set ?_ GE453.out) | exact HB.out)⟩⟩
      · rw [if_neg c28] at H
        have c28b0 : (t454 != t444) = false := by simpa using c28
        (try (have c28b1 : decide (t454 = t444) = true := by simpa using c28))
        (try (have c28b2 : (t454 == t444) = true := by simpa using c28))
        clear c28
        (first | rw [c28b0] | (simp only [i64_w, i32_w]; rw [c28b0]) | skip)
        by_cases c29 : t455 = t445
        · rw [if_pos c29] at H
          have c29b0 : (t455 == t445) = true := beq_iff_eq.mpr c29
          have c29b1 : (t455 != t445) = false := bne_eq_false_iff_eq.mpr c29
          clear c29
          have H' := Aside0.mk H
          clear H
          go_wp2
          go_meet
          case rel => exact ⟨_, ((t456 != t446)), (by first | rfl | (simp; done) | (simp [*]; done)), H', ⟨by first | omega | exact Nat.le_refl _⟩, ⟨by (with_reducible repeat (first | apply Kd.R_alloc | apply Kd.R_drewN | apply Kd.R_drew)); exact Kd.R_mono HO449.out (fun _ hk => hk.1.1)⟩, ⟨by (with_reducible repeat (first | apply Kd.R_alloc | apply Kd.R_drewN | apply Kd.R_drew)); exact Kd.R_mono HO452.out (fun _ hk => hk.1.1)⟩, ⟨by (with_reducible repeat (first | refine blk_drewN ?_ _ | refine blk_drew ?_ | refine blk_alloc ?_ _)); exact BK436.out⟩, ⟨by (with_reducible repeat (first | refine blk_drewN ?_ _ | refine blk_drew ?_ | refine blk_alloc ?_ _)); exact BK453.out⟩, ⟨by repeat (first | (with_reducible first | exact HB.out | apply below_alloc | apply pw_below_drewN | apply below_drew1 | refine below_set ?_ GE436.out | refine below_set ?_ GE453.out) | exact HB.out)⟩⟩
        · rw [if_neg c29] at H
          have c29b0 : (t455 == t445) = false := beq_eq_false_iff_ne.mpr c29
          have c29b1 : (t455 != t445) = true := bne_iff_ne.mpr c29
          have H' := Aside0.mk H
          clear H
          go_wp2
          go_meet
          case rel => exact ⟨_, (true), (by first | rfl | (simp; done) | (simp [*]; done)), H', ⟨by first | omega | exact Nat.le_refl _⟩, ⟨by (with_reducible repeat (first | apply Kd.R_alloc | apply Kd.R_drewN | apply Kd.R_drew)); exact Kd.R_mono HO449.out (fun _ hk => hk.1.1)⟩, ⟨by (with_reducible repeat (first | apply Kd.R_alloc | apply Kd.R_drewN | apply Kd.R_drew)); exact Kd.R_mono HO452.out (fun _ hk => hk.1.1)⟩, ⟨by (with_reducible repeat (first | refine blk_drewN ?_ _ | refine blk_drew ?_ | refine blk_alloc ?_ _)); exact BK436.out⟩, ⟨by (with_reducible repeat (first | refine blk_drewN ?_ _ | refine blk_drew ?_ | refine blk_alloc ?_ _)); exact BK453.out⟩, ⟨by repeat (first | (with_reducible first | exact HB.out | apply below_alloc | apply pw_below_drewN | apply below_drew1 | refine below_set ?_ GE436.out | refine below_set ?_ GE453.out) | exact HB.out)⟩⟩
    case rest =>
      clear HC11
      try clear c1
      try clear c2
      try clear p2
      try clear c3
      try clear c3b0
      try clear c9
      try clear c15
      try clear c17
      try clear c24
      try clear c28
      try clear c28b0
      try clear c28b1
      try clear c28b2
      try clear c29
      try clear c29b0
      try clear c29b1
      try clear hcz13_0
      try clear hcz13_1
      try clear hcz15_0
      try clear hcz15_1
      try clear hcz20_0
      try clear hcz20_1
      try clear hcz25_0
      try clear hcz25_1
      try clear hcz5_0
      try clear hcz5_1
      try clear hfz13_0
      try clear hfz13_1
      try clear hfz15_0
      try clear hfz15_1
      try clear hfz20_0
      try clear hfz20_1
      try clear hfz25_0
      try clear hfz25_1
      try clear hfz5_0
      try clear hfz5_1
      obtain ⟨kq, x43_10, rfl, HA, HJ10, HO_454000, HO_454001, BK436, BK453, HB⟩ := hcut
      cases kq with
      | zero => exact absurd HA.out (by simp [laws_FnExactBestOpening.j0])
      | succ kj10 =>
        have H := HA.out
        clear HA
        simp only [laws_FnExactBestOpening.j0] at H
        by_cases c30 : x43_10 = true
        · subst c30
          have H1 : (some false) = some r := by rw [if_pos rfl] at H; exact H
          clear H
          have H := H1
          clear H1
          obtain rfl := Option.some.inj H
          go_wp2
          go_ret
          exact ⟨by first | rfl | (simp [errW_none, errW_some] <;> rfl) | (simp [*, errW_none, errW_some] <;> rfl), by repeat (first | (with_reducible first | exact HB.out | apply below_alloc | apply pw_below_drewN | apply below_drew1 | refine below_set ?_ GE436.out | refine below_set ?_ GE453.out) | exact HB.out)⟩
        · replace c30 := Bool.eq_false_iff.mpr c30
          subst c30
          have H1 : ((laws_toEnding.f kj10 l0_0 l0_1).bind fun bt457 => ((laws_eqEnding.f kj10 t447 t450 bt457.1 bt457.2).bind fun t463 => (if t463 = true then (some true) else (some false)))) = some r := by rw [if_neg (show ¬ (false = true) by decide)] at H; exact H
          clear H
          have H := H1
          clear H1
          replace H := Option.bind_eq_some_iff.mp H
          obtain ⟨⟨t457, t460⟩, A310, H⟩ := H
          replace H : ((laws_eqEnding.f kj10 t447 t450 t457 t460).bind fun t463 => (if t463 = true then (some true) else (some false))) = some r := H
          have A31 := Aside0.mk A310
          clear A310
          replace H := Option.bind_eq_some_iff.mp H
          obtain ⟨t463, A320, H⟩ := H
          replace H : (if t463 = true then (some true) else (some false)) = some r := H
          have A32 := Aside0.mk A320
          clear A320
          by_cases c33 : t463 = true
          · subst c33
            have H1 : (some true) = some r := by rw [if_pos rfl] at H; exact H
            clear H
            have H := H1
            clear H1
            obtain rfl := Option.some.inj H
            try go_wp2
            have n0_ := Aside0.mk (Kd.R_drew HO_454000.out)
            have n1_ := Aside0.mk (Kd.R_drew HO_454001.out)
            have n2_ := Aside0.mk (blk_drew BK436.out)
            have n3_ := Aside0.mk (blk_drew BK453.out)
            have n4_ := Aside0.mk (below_drew1 HB.out)
            clear HO_454000
            clear HO_454001
            clear BK436
            clear BK453
            clear HB
            have HO_454000 := n0_
            have HO_454001 := n1_
            have BK436 := n2_
            have BK453 := n3_
            have HB := n4_
            clear n0_ n1_ n2_ n3_ n4_
            refine start_ (n := 5) (S := fun w' => w'.cell? ⟨gb453, 0, none⟩ = some (.slice Ao23 t447.length co23) ∧ w'.cell? ⟨gb453, 1, none⟩ = some (.slice Ao26 t450.length co26) ∧ w'.cell? ⟨gb436, 0, none⟩ = some (.slice A0_0 l0_0.length c0_0) ∧ w'.cell? ⟨gb436, 1, none⟩ = some (.slice A0_1 l0_1.length c0_1)) (ds := []) #[false, false, false, false, false] (by kernel_rfl) rfl rfl ⟨(blk_cell BK453.out 0).trans rfl, (blk_cell BK453.out 1).trans rfl, (blk_cell BK436.out 0).trans rfl, (blk_cell BK436.out 1).trans rfl⟩ (fun hHeld => ?_)
            generalize wc.drew = w34 at HO_454000 HO_454001 BK436 BK453 HB hHeld ⊢
            refine take_ (i := 0) (N := some 44) (v := ?_) (a' := ?_) #[true, false, false, false, false] rfl rfl (by kernel_rfl) (fun _ _ _ h => h) (Or.inl ⟨by rfl, ?_⟩) hHeld ?_ ?_
            rotate_left
            · rintro w' ⟨s0, s1, s2, s3⟩
              go_simp
              with_reducible rfl
            rotate_left
            · simp only [Act.put, List.setIfInBounds_toArray, List.set_cons_zero, List.set_cons_succ, i64_w, i32_w]
              rfl
            refine take_ (i := 1) (N := some 45) (v := ?_) (a' := ?_) #[true, true, false, false, false] rfl rfl (by kernel_rfl) (fun _ _ _ h => h) (Or.inl ⟨by rfl, ?_⟩) hHeld ?_ ?_
            rotate_left
            · rintro w' ⟨s0, s1, s2, s3⟩
              go_simp
              with_reducible rfl
            rotate_left
            · simp only [Act.put, List.setIfInBounds_toArray, List.set_cons_zero, List.set_cons_succ, i64_w, i32_w]
              rfl
            refine one_ (i := 2) (N := some 46) #[true, true, true, false, false] rfl rfl (by kernel_rfl) (by decide) (fun K hK => ?_)
            refine goes_ Try.func17 (by kernel_rfl) rfl #[.agg #[.slice A0_0 l0_0.length c0_0, .slice A0_1 l0_1.length c0_1]] (by rfl) rfl rfl (by (try simp only [List.map_toArray, List.map_cons, List.map_nil]); first | done | rfl | (simp only [List.length_drop, List.length_take]; rfl)) ?_
            with_reducible refine (laws_toEnding.calls kj10 _ _ l0_0 _ _ l0_1 t457 t460 _ ?side1 ?side2 ?side3 ?side4 A31.out).mono ?_
            (case side1 => repeat (first | exact (Kd.C_below HR0_0.out HB.out) | (with_reducible refine Kd.C_alloc ?_ _) | (with_reducible refine Kd.C_drewN ?_ _) | (with_reducible refine Kd.C_drew ?_)))
            (case side2 => exact HC0_0.out)
            (case side3 => repeat (first | exact (Kd.C_below HR0_1.out HB.out) | (with_reducible refine Kd.C_alloc ?_ _) | (with_reducible refine Kd.C_drewN ?_ _) | (with_reducible refine Kd.C_drew ?_)))
            (case side4 => exact HC0_1.out)
            rintro e w35 ⟨v458, v461, rfl, ho0, ho1, hb⟩
            refine ⟨_, rfl, ?_⟩
            have n0_ := Aside0.mk (Kd.R_mono (Kd.R_told (Kd.R_told (Kd.R_old (by (with_reducible repeat (first | apply Kd.R_alloc | apply Kd.R_drewN | apply Kd.R_drew)); exact HO_454000.out) hb) (Kd.R_base ho0)) (Kd.R_base ho1)) (fun _ h_ => h_.1))
            have n1_ := Aside0.mk (Kd.R_mono (Kd.R_told (Kd.R_told (Kd.R_old (by (with_reducible repeat (first | apply Kd.R_alloc | apply Kd.R_drewN | apply Kd.R_drew)); exact HO_454001.out) hb) (Kd.R_base ho0)) (Kd.R_base ho1)) (fun _ h_ => h_.1))
            have n2_ := Aside0.mk (Kd.R_lower (Kd.R_new' (Kd.R_new' ho0 (Kd.R_lt (by (with_reducible repeat (first | apply Kd.R_alloc | apply Kd.R_drewN | apply Kd.R_drew)); exact HO_454000.out))) (Kd.R_lt (by (with_reducible repeat (first | apply Kd.R_alloc | apply Kd.R_drewN | apply Kd.R_drew)); exact HO_454001.out))) (below_size (by repeat (first | (with_reducible first | exact HB.out | apply below_alloc | apply pw_below_drewN | apply below_drew1 | refine below_set ?_ GE436.out | refine below_set ?_ GE453.out) | exact HB.out))))
            have n3_ := Aside0.mk (Kd.R_lower (Kd.R_new' (Kd.R_new' ho1 (Kd.R_lt (by (with_reducible repeat (first | apply Kd.R_alloc | apply Kd.R_drewN | apply Kd.R_drew)); exact HO_454000.out))) (Kd.R_lt (by (with_reducible repeat (first | apply Kd.R_alloc | apply Kd.R_drewN | apply Kd.R_drew)); exact HO_454001.out))) (below_size (by repeat (first | (with_reducible first | exact HB.out | apply below_alloc | apply pw_below_drewN | apply below_drew1 | refine below_set ?_ GE436.out | refine below_set ?_ GE453.out) | exact HB.out))))
            have n4_ := Aside0.mk (blk_below (g := gb436) (o := .cells #[.slice A0_0 l0_0.length c0_0, .slice A0_1 l0_1.length c0_1] 24 (0, 0)) (by (with_reducible repeat (first | refine blk_drewN ?_ _ | refine blk_drew ?_ | refine blk_alloc ?_ _)); exact BK436.out) hb)
            have n5_ := Aside0.mk (blk_below (g := gb453) (o := .cells #[.slice Ao23 t447.length co23, .slice Ao26 t450.length co26] 27 (0, 0)) (by (with_reducible repeat (first | refine blk_drewN ?_ _ | refine blk_drew ?_ | refine blk_alloc ?_ _)); exact BK453.out) hb)
            have n6_ := Aside0.mk (below_step (by repeat (first | (with_reducible first | exact HB.out | apply below_alloc | apply pw_below_drewN | apply below_drew1 | refine below_set ?_ GE436.out | refine below_set ?_ GE453.out) | exact HB.out)) hb)
            clear HO_454000
            clear HO_454001
            clear BK436
            clear BK453
            clear HB
            have HO_454000 := n0_
            have HO_454001 := n1_
            have HO459 := n2_
            have HO462 := n3_
            have BK436 := n4_
            have BK453 := n5_
            have HB := n6_
            clear n0_ n1_ n2_ n3_ n4_ n5_ n6_
            (try clear hb)
            (try clear hb2)
            (try clear hk)
            (try clear hi)
            (try clear ho0)
            (try clear ho1)
            obtain ⟨Ao36, co36, eo36⟩ := Kd.R_slice HO459.out
            (first | subst eo36 | (injection eo36 with f1_ f2_ f3_; have f4_ := f1_.symm; have f5_ := f3_.symm; clear f1_ f2_ f3_; subst f4_; subst f5_))
            obtain ⟨Ao37, co37, eo37⟩ := Kd.R_slice HO462.out
            (first | subst eo37 | (injection eo37 with f1_ f2_ f3_; have f4_ := f1_.symm; have f5_ := f3_.symm; clear f1_ f2_ f3_; subst f4_; subst f5_))
            refine hK.out _ _ ⟨(blk_cell BK453.out 0).trans rfl, (blk_cell BK453.out 1).trans rfl, (blk_cell BK436.out 0).trans rfl, (blk_cell BK436.out 1).trans rfl⟩ (fun hHeld => ?_)
            clear hK K
            refine norm_ (a' := ?_) ?_ ?_
            rotate_left
            · show Act.put _ (some 46) _ = _
              simp only [Act.put, List.setIfInBounds_toArray, List.set_cons_zero, List.set_cons_succ, i64_w, i32_w]
              rfl
            refine one_ (i := 3) (N := some 47) #[true, true, true, true, false] rfl rfl (by kernel_rfl) (by decide) (fun K hK => ?_)
            refine goes_ Try.func19 (by kernel_rfl) rfl #[.agg #[.slice Ao23 t447.length co23, .slice Ao26 t450.length co26], .agg #[.slice Ao36 t457.length co36, .slice Ao37 t460.length co37]] (by rfl) rfl rfl (by (try simp only [List.map_toArray, List.map_cons, List.map_nil]); first | done | rfl | (simp only [List.length_drop, List.length_take]; rfl)) ?_
            with_reducible refine (laws_eqEnding.calls kj10 _ _ t447 _ _ t450 _ _ t457 _ _ t460 true _ ?side1 ?side2 ?side3 ?side4 ?side5 ?side6 ?side7 ?side8 A32.out).mono ?_
            (case side1 => repeat (first | exact (Kd.R_reads' HO_454000.out).2.2 | (with_reducible refine Kd.C_alloc ?_ _) | (with_reducible refine Kd.C_drewN ?_ _) | (with_reducible refine Kd.C_drew ?_)))
            (case side2 => exact (Kd.R_reads' HO_454000.out).2.1)
            (case side3 => repeat (first | exact (Kd.R_reads' HO_454001.out).2.2 | (with_reducible refine Kd.C_alloc ?_ _) | (with_reducible refine Kd.C_drewN ?_ _) | (with_reducible refine Kd.C_drew ?_)))
            (case side4 => exact (Kd.R_reads' HO_454001.out).2.1)
            (case side5 => repeat (first | exact (Kd.R_reads' HO459.out).2.2 | (with_reducible refine Kd.C_alloc ?_ _) | (with_reducible refine Kd.C_drewN ?_ _) | (with_reducible refine Kd.C_drew ?_)))
            (case side6 => exact (Kd.R_reads' HO459.out).2.1)
            (case side7 => repeat (first | exact (Kd.R_reads' HO462.out).2.2 | (with_reducible refine Kd.C_alloc ?_ _) | (with_reducible refine Kd.C_drewN ?_ _) | (with_reducible refine Kd.C_drew ?_)))
            (case side8 => exact (Kd.R_reads' HO462.out).2.1)
            rintro e w38 ⟨rfl, hb⟩
            refine ⟨_, rfl, ?_⟩
            have n0_ := Aside0.mk (Kd.R_below (by (with_reducible repeat (first | apply Kd.R_alloc | apply Kd.R_drewN | apply Kd.R_drew)); exact HO_454000.out) hb)
            have n1_ := Aside0.mk (Kd.R_below (by (with_reducible repeat (first | apply Kd.R_alloc | apply Kd.R_drewN | apply Kd.R_drew)); exact HO_454001.out) hb)
            have n2_ := Aside0.mk (Kd.R_below (by (with_reducible repeat (first | apply Kd.R_alloc | apply Kd.R_drewN | apply Kd.R_drew)); exact HO459.out) hb)
            have n3_ := Aside0.mk (Kd.R_below (by (with_reducible repeat (first | apply Kd.R_alloc | apply Kd.R_drewN | apply Kd.R_drew)); exact HO462.out) hb)
            have n4_ := Aside0.mk (blk_below (g := gb436) (o := .cells #[.slice A0_0 l0_0.length c0_0, .slice A0_1 l0_1.length c0_1] 24 (0, 0)) (by (with_reducible repeat (first | refine blk_drewN ?_ _ | refine blk_drew ?_ | refine blk_alloc ?_ _)); exact BK436.out) hb)
            have n5_ := Aside0.mk (blk_below (g := gb453) (o := .cells #[.slice Ao23 t447.length co23, .slice Ao26 t450.length co26] 27 (0, 0)) (by (with_reducible repeat (first | refine blk_drewN ?_ _ | refine blk_drew ?_ | refine blk_alloc ?_ _)); exact BK453.out) hb)
            have n6_ := Aside0.mk (below_step (by repeat (first | (with_reducible first | exact HB.out | apply below_alloc | apply pw_below_drewN | apply below_drew1 | refine below_set ?_ GE436.out | refine below_set ?_ GE453.out) | exact HB.out)) hb)
            clear HO_454000
            clear HO_454001
            clear HO459
            clear HO462
            clear BK436
            clear BK453
            clear HB
            have HO_454000 := n0_
            have HO_454001 := n1_
            have HO459 := n2_
            have HO462 := n3_
            have BK436 := n4_
            have BK453 := n5_
            have HB := n6_
            clear n0_ n1_ n2_ n3_ n4_ n5_ n6_
            (try clear hb)
            (try clear hb2)
            (try clear hk)
            (try clear hi)
            refine hK.out _ _ ⟨(blk_cell BK453.out 0).trans rfl, (blk_cell BK453.out 1).trans rfl, (blk_cell BK436.out 0).trans rfl, (blk_cell BK436.out 1).trans rfl⟩ (fun hHeld => ?_)
            clear hK K
            refine norm_ (a' := ?_) ?_ ?_
            rotate_left
            · show Act.put _ (some 47) _ = _
              simp only [Act.put, List.setIfInBounds_toArray, List.set_cons_zero, List.set_cons_succ, i64_w, i32_w]
              rfl
            refine pure_ (i := 4) (N := some 48) (v := ?_) (a' := ?_) #[true, true, true, true, true] rfl rfl (by kernel_rfl) (fun _ _ _ h => h) (Or.inl ⟨by rfl, ?_⟩) ?_ ?_
            rotate_left
            · intro w'
              go_simp
              with_reducible rfl
            rotate_left
            · simp only [Act.put, List.setIfInBounds_toArray, List.set_cons_zero, List.set_cons_succ, i64_w, i32_w]
              rfl
            refine done_ (by kernel_rfl) ?_
            try go_wp2
            go_ret
            exact ⟨by first | rfl | (simp [errW_none, errW_some] <;> rfl) | (simp [*, errW_none, errW_some] <;> rfl), by repeat (first | (with_reducible first | exact HB.out | apply below_alloc | apply pw_below_drewN | apply below_drew1 | refine below_set ?_ GE436.out | refine below_set ?_ GE453.out) | exact HB.out)⟩
          · replace c33 := Bool.eq_false_iff.mpr c33
            subst c33
            have H1 : (some false) = some r := by rw [if_neg (show ¬ (false = true) by decide)] at H; exact H
            clear H
            have H := H1
            clear H1
            obtain rfl := Option.some.inj H
            try go_wp2
            have n0_ := Aside0.mk (Kd.R_drew HO_454000.out)
            have n1_ := Aside0.mk (Kd.R_drew HO_454001.out)
            have n2_ := Aside0.mk (blk_drew BK436.out)
            have n3_ := Aside0.mk (blk_drew BK453.out)
            have n4_ := Aside0.mk (below_drew1 HB.out)
            clear HO_454000
            clear HO_454001
            clear BK436
            clear BK453
            clear HB
            have HO_454000 := n0_
            have HO_454001 := n1_
            have BK436 := n2_
            have BK453 := n3_
            have HB := n4_
            clear n0_ n1_ n2_ n3_ n4_
            refine start_ (n := 5) (S := fun w' => w'.cell? ⟨gb453, 0, none⟩ = some (.slice Ao23 t447.length co23) ∧ w'.cell? ⟨gb453, 1, none⟩ = some (.slice Ao26 t450.length co26) ∧ w'.cell? ⟨gb436, 0, none⟩ = some (.slice A0_0 l0_0.length c0_0) ∧ w'.cell? ⟨gb436, 1, none⟩ = some (.slice A0_1 l0_1.length c0_1)) (ds := []) #[false, false, false, false, false] (by kernel_rfl) rfl rfl ⟨(blk_cell BK453.out 0).trans rfl, (blk_cell BK453.out 1).trans rfl, (blk_cell BK436.out 0).trans rfl, (blk_cell BK436.out 1).trans rfl⟩ (fun hHeld => ?_)
            generalize wc.drew = w39 at HO_454000 HO_454001 BK436 BK453 HB hHeld ⊢
            refine take_ (i := 0) (N := some 44) (v := ?_) (a' := ?_) #[true, false, false, false, false] rfl rfl (by kernel_rfl) (fun _ _ _ h => h) (Or.inl ⟨by rfl, ?_⟩) hHeld ?_ ?_
            rotate_left
            · rintro w' ⟨s0, s1, s2, s3⟩
              go_simp
              with_reducible rfl
            rotate_left
            · simp only [Act.put, List.setIfInBounds_toArray, List.set_cons_zero, List.set_cons_succ, i64_w, i32_w]
              rfl
            refine take_ (i := 1) (N := some 45) (v := ?_) (a' := ?_) #[true, true, false, false, false] rfl rfl (by kernel_rfl) (fun _ _ _ h => h) (Or.inl ⟨by rfl, ?_⟩) hHeld ?_ ?_
            rotate_left
            · rintro w' ⟨s0, s1, s2, s3⟩
              go_simp
              with_reducible rfl
            rotate_left
            · simp only [Act.put, List.setIfInBounds_toArray, List.set_cons_zero, List.set_cons_succ, i64_w, i32_w]
              rfl
            refine one_ (i := 2) (N := some 46) #[true, true, true, false, false] rfl rfl (by kernel_rfl) (by decide) (fun K hK => ?_)
            refine goes_ Try.func17 (by kernel_rfl) rfl #[.agg #[.slice A0_0 l0_0.length c0_0, .slice A0_1 l0_1.length c0_1]] (by rfl) rfl rfl (by (try simp only [List.map_toArray, List.map_cons, List.map_nil]); first | done | rfl | (simp only [List.length_drop, List.length_take]; rfl)) ?_
            with_reducible refine (laws_toEnding.calls kj10 _ _ l0_0 _ _ l0_1 t457 t460 _ ?side1 ?side2 ?side3 ?side4 A31.out).mono ?_
            (case side1 => repeat (first | exact (Kd.C_below HR0_0.out HB.out) | (with_reducible refine Kd.C_alloc ?_ _) | (with_reducible refine Kd.C_drewN ?_ _) | (with_reducible refine Kd.C_drew ?_)))
            (case side2 => exact HC0_0.out)
            (case side3 => repeat (first | exact (Kd.C_below HR0_1.out HB.out) | (with_reducible refine Kd.C_alloc ?_ _) | (with_reducible refine Kd.C_drewN ?_ _) | (with_reducible refine Kd.C_drew ?_)))
            (case side4 => exact HC0_1.out)
            rintro e w40 ⟨v458, v461, rfl, ho0, ho1, hb⟩
            refine ⟨_, rfl, ?_⟩
            have n0_ := Aside0.mk (Kd.R_mono (Kd.R_told (Kd.R_told (Kd.R_old (by (with_reducible repeat (first | apply Kd.R_alloc | apply Kd.R_drewN | apply Kd.R_drew)); exact HO_454000.out) hb) (Kd.R_base ho0)) (Kd.R_base ho1)) (fun _ h_ => h_.1))
            have n1_ := Aside0.mk (Kd.R_mono (Kd.R_told (Kd.R_told (Kd.R_old (by (with_reducible repeat (first | apply Kd.R_alloc | apply Kd.R_drewN | apply Kd.R_drew)); exact HO_454001.out) hb) (Kd.R_base ho0)) (Kd.R_base ho1)) (fun _ h_ => h_.1))
            have n2_ := Aside0.mk (Kd.R_lower (Kd.R_new' (Kd.R_new' ho0 (Kd.R_lt (by (with_reducible repeat (first | apply Kd.R_alloc | apply Kd.R_drewN | apply Kd.R_drew)); exact HO_454000.out))) (Kd.R_lt (by (with_reducible repeat (first | apply Kd.R_alloc | apply Kd.R_drewN | apply Kd.R_drew)); exact HO_454001.out))) (below_size (by repeat (first | (with_reducible first | exact HB.out | apply below_alloc | apply pw_below_drewN | apply below_drew1 | refine below_set ?_ GE436.out | refine below_set ?_ GE453.out) | exact HB.out))))
            have n3_ := Aside0.mk (Kd.R_lower (Kd.R_new' (Kd.R_new' ho1 (Kd.R_lt (by (with_reducible repeat (first | apply Kd.R_alloc | apply Kd.R_drewN | apply Kd.R_drew)); exact HO_454000.out))) (Kd.R_lt (by (with_reducible repeat (first | apply Kd.R_alloc | apply Kd.R_drewN | apply Kd.R_drew)); exact HO_454001.out))) (below_size (by repeat (first | (with_reducible first | exact HB.out | apply below_alloc | apply pw_below_drewN | apply below_drew1 | refine below_set ?_ GE436.out | refine below_set ?_ GE453.out) | exact HB.out))))
            have n4_ := Aside0.mk (blk_below (g := gb436) (o := .cells #[.slice A0_0 l0_0.length c0_0, .slice A0_1 l0_1.length c0_1] 24 (0, 0)) (by (with_reducible repeat (first | refine blk_drewN ?_ _ | refine blk_drew ?_ | refine blk_alloc ?_ _)); exact BK436.out) hb)
            have n5_ := Aside0.mk (blk_below (g := gb453) (o := .cells #[.slice Ao23 t447.length co23, .slice Ao26 t450.length co26] 27 (0, 0)) (by (with_reducible repeat (first | refine blk_drewN ?_ _ | refine blk_drew ?_ | refine blk_alloc ?_ _)); exact BK453.out) hb)
            have n6_ := Aside0.mk (below_step (by repeat (first | (with_reducible first | exact HB.out | apply below_alloc | apply pw_below_drewN | apply below_drew1 | refine below_set ?_ GE436.out | refine below_set ?_ GE453.out) | exact HB.out)) hb)
            clear HO_454000
            clear HO_454001
            clear BK436
            clear BK453
            clear HB
            have HO_454000 := n0_
            have HO_454001 := n1_
            have HO459 := n2_
            have HO462 := n3_
            have BK436 := n4_
            have BK453 := n5_
            have HB := n6_
            clear n0_ n1_ n2_ n3_ n4_ n5_ n6_
            (try clear hb)
            (try clear hb2)
            (try clear hk)
            (try clear hi)
            (try clear ho0)
            (try clear ho1)
            obtain ⟨Ao41, co41, eo41⟩ := Kd.R_slice HO459.out
            (first | subst eo41 | (injection eo41 with f1_ f2_ f3_; have f4_ := f1_.symm; have f5_ := f3_.symm; clear f1_ f2_ f3_; subst f4_; subst f5_))
            obtain ⟨Ao42, co42, eo42⟩ := Kd.R_slice HO462.out
            (first | subst eo42 | (injection eo42 with f1_ f2_ f3_; have f4_ := f1_.symm; have f5_ := f3_.symm; clear f1_ f2_ f3_; subst f4_; subst f5_))
            refine hK.out _ _ ⟨(blk_cell BK453.out 0).trans rfl, (blk_cell BK453.out 1).trans rfl, (blk_cell BK436.out 0).trans rfl, (blk_cell BK436.out 1).trans rfl⟩ (fun hHeld => ?_)
            clear hK K
            refine norm_ (a' := ?_) ?_ ?_
            rotate_left
            · show Act.put _ (some 46) _ = _
              simp only [Act.put, List.setIfInBounds_toArray, List.set_cons_zero, List.set_cons_succ, i64_w, i32_w]
              rfl
            refine one_ (i := 3) (N := some 47) #[true, true, true, true, false] rfl rfl (by kernel_rfl) (by decide) (fun K hK => ?_)
            refine goes_ Try.func19 (by kernel_rfl) rfl #[.agg #[.slice Ao23 t447.length co23, .slice Ao26 t450.length co26], .agg #[.slice Ao41 t457.length co41, .slice Ao42 t460.length co42]] (by rfl) rfl rfl (by (try simp only [List.map_toArray, List.map_cons, List.map_nil]); first | done | rfl | (simp only [List.length_drop, List.length_take]; rfl)) ?_
            with_reducible refine (laws_eqEnding.calls kj10 _ _ t447 _ _ t450 _ _ t457 _ _ t460 false _ ?side1 ?side2 ?side3 ?side4 ?side5 ?side6 ?side7 ?side8 A32.out).mono ?_
            (case side1 => repeat (first | exact (Kd.R_reads' HO_454000.out).2.2 | (with_reducible refine Kd.C_alloc ?_ _) | (with_reducible refine Kd.C_drewN ?_ _) | (with_reducible refine Kd.C_drew ?_)))
            (case side2 => exact (Kd.R_reads' HO_454000.out).2.1)
            (case side3 => repeat (first | exact (Kd.R_reads' HO_454001.out).2.2 | (with_reducible refine Kd.C_alloc ?_ _) | (with_reducible refine Kd.C_drewN ?_ _) | (with_reducible refine Kd.C_drew ?_)))
            (case side4 => exact (Kd.R_reads' HO_454001.out).2.1)
            (case side5 => repeat (first | exact (Kd.R_reads' HO459.out).2.2 | (with_reducible refine Kd.C_alloc ?_ _) | (with_reducible refine Kd.C_drewN ?_ _) | (with_reducible refine Kd.C_drew ?_)))
            (case side6 => exact (Kd.R_reads' HO459.out).2.1)
            (case side7 => repeat (first | exact (Kd.R_reads' HO462.out).2.2 | (with_reducible refine Kd.C_alloc ?_ _) | (with_reducible refine Kd.C_drewN ?_ _) | (with_reducible refine Kd.C_drew ?_)))
            (case side8 => exact (Kd.R_reads' HO462.out).2.1)
            rintro e w43 ⟨rfl, hb⟩
            refine ⟨_, rfl, ?_⟩
            have n0_ := Aside0.mk (Kd.R_below (by (with_reducible repeat (first | apply Kd.R_alloc | apply Kd.R_drewN | apply Kd.R_drew)); exact HO_454000.out) hb)
            have n1_ := Aside0.mk (Kd.R_below (by (with_reducible repeat (first | apply Kd.R_alloc | apply Kd.R_drewN | apply Kd.R_drew)); exact HO_454001.out) hb)
            have n2_ := Aside0.mk (Kd.R_below (by (with_reducible repeat (first | apply Kd.R_alloc | apply Kd.R_drewN | apply Kd.R_drew)); exact HO459.out) hb)
            have n3_ := Aside0.mk (Kd.R_below (by (with_reducible repeat (first | apply Kd.R_alloc | apply Kd.R_drewN | apply Kd.R_drew)); exact HO462.out) hb)
            have n4_ := Aside0.mk (blk_below (g := gb436) (o := .cells #[.slice A0_0 l0_0.length c0_0, .slice A0_1 l0_1.length c0_1] 24 (0, 0)) (by (with_reducible repeat (first | refine blk_drewN ?_ _ | refine blk_drew ?_ | refine blk_alloc ?_ _)); exact BK436.out) hb)
            have n5_ := Aside0.mk (blk_below (g := gb453) (o := .cells #[.slice Ao23 t447.length co23, .slice Ao26 t450.length co26] 27 (0, 0)) (by (with_reducible repeat (first | refine blk_drewN ?_ _ | refine blk_drew ?_ | refine blk_alloc ?_ _)); exact BK453.out) hb)
            have n6_ := Aside0.mk (below_step (by repeat (first | (with_reducible first | exact HB.out | apply below_alloc | apply pw_below_drewN | apply below_drew1 | refine below_set ?_ GE436.out | refine below_set ?_ GE453.out) | exact HB.out)) hb)
            clear HO_454000
            clear HO_454001
            clear HO459
            clear HO462
            clear BK436
            clear BK453
            clear HB
            have HO_454000 := n0_
            have HO_454001 := n1_
            have HO459 := n2_
            have HO462 := n3_
            have BK436 := n4_
            have BK453 := n5_
            have HB := n6_
            clear n0_ n1_ n2_ n3_ n4_ n5_ n6_
            (try clear hb)
            (try clear hb2)
            (try clear hk)
            (try clear hi)
            refine hK.out _ _ ⟨(blk_cell BK453.out 0).trans rfl, (blk_cell BK453.out 1).trans rfl, (blk_cell BK436.out 0).trans rfl, (blk_cell BK436.out 1).trans rfl⟩ (fun hHeld => ?_)
            clear hK K
            refine norm_ (a' := ?_) ?_ ?_
            rotate_left
            · show Act.put _ (some 47) _ = _
              simp only [Act.put, List.setIfInBounds_toArray, List.set_cons_zero, List.set_cons_succ, i64_w, i32_w]
              rfl
            refine pure_ (i := 4) (N := some 48) (v := ?_) (a' := ?_) #[true, true, true, true, true] rfl rfl (by kernel_rfl) (fun _ _ _ h => h) (Or.inl ⟨by rfl, ?_⟩) ?_ ?_
            rotate_left
            · intro w'
              go_simp
              with_reducible rfl
            rotate_left
            · simp only [Act.put, List.setIfInBounds_toArray, List.set_cons_zero, List.set_cons_succ, i64_w, i32_w]
              rfl
            refine done_ (by kernel_rfl) ?_
            try go_wp2
            go_ret
            exact ⟨by first | rfl | (simp [errW_none, errW_some] <;> rfl) | (simp [*, errW_none, errW_some] <;> rfl), by repeat (first | (with_reducible first | exact HB.out | apply below_alloc | apply pw_below_drewN | apply below_drew1 | refine below_set ?_ GE436.out | refine below_set ?_ GE453.out) | exact HB.out)⟩

end Go.Proofs.Ytkbjoiebaphdoaa.PX

/- The reference's best opening: as the program's (condition: lists that fit). -/
namespace Go.Proofs.Ytkbjoiebaphdoaa.PX
open Go.RowKit Go.Proofs.YtkbjoiebaphdoaaW.PrintWords Go.Proofs.YtkbjoiebaphdoaaW.PrintLast Go.Proofs.YtkbjoiebaphdoaaW.PrintMore
attribute [local go_sem] max2_int min2_int max_two min_two max_three min_three max_four min_four
set_option linter.unusedVariables false
set_option linter.unusedSimpArgs false
theorem specBestOpening_ev (a b : List Int) (ha : a.length ≤ 1048576) (hb : b.length ≤ 1048576) : Ev (fun k => spec_BestOpening.f k a b) (bestOf a b) := by
  unfold spec_BestOpening.f bestOf
  refine Ev.bind (l04Is_ev a b ha hb) ?_
  cases hE : isEnd a b with
  | false => exact Ev.congr (f := fun _ => some (false, 0, 1)) (fun k => rfl) (Ev.now _)
  | true =>
    obtain ⟨hC, hL, h8⟩ := isEnd_ok hE
    have hw : wrap64 ((a.length : Int) + (b.length : Int)) = (a.length : Int) + (b.length : Int) := wrapS (by omega) (by omega)
    rw [if_pos rfl]
    by_cases he : a = [] ∧ b = []
    · refine Ev.congr (f := fun _ => some (false, 0, 5)) (fun k => ?_) ?_
      · rw [if_pos rfl, hw, if_pos (by rw [he.1, he.2]; rfl)]
      · rw [he.1, he.2]
        exact Ev.now _
    · obtain ⟨o, h1, _, h3⟩ := openR_ev hC hL h8 he
      have hne : ¬ opens a b = [] := fun e => he (opens_nil.1 e)
      rw [h1]
      show Ev _ (if opens a b = [] then (false, 0, 5) else (o.1, o.2, 0))
      rw [if_neg hne]
      refine Ev.congr (f := fun k => (spec_l04Opening.f k a b).bind fun bt => some (bt.1, bt.2.1, 0)) (fun k => ?_) (Ev.bind h3 (Ev.now _))
      rw [if_pos rfl, hw, if_neg (by
        intro e
        exact he ⟨List.eq_nil_of_length_eq_zero (by omega), List.eq_nil_of_length_eq_zero (by omega)⟩)]
theorem implBestOpening_ev (a b : List Int) (ha : a.length ≤ 1048576) (hb : b.length ≤ 1048576) : Ev (fun k => impl_BestOpening.f k a b) (bestOf a b) :=
  Ev.congr (f := fun _ => some (bestOf a b)) (fun k => if_pos ⟨ha, hb⟩) (Ev.now _)

end Go.Proofs.Ytkbjoiebaphdoaa.PX

/- BestOpening: both sides answer alike (condition: sizes that fit). -/
namespace Go.Proofs.Ytkbjoiebaphdoaa.Pure
open Go.RowKit Go.Proofs.Ytkbjoiebaphdoaa.PX Go.Proofs.YtkbjoiebaphdoaaW.PrintWords Go.Proofs.YtkbjoiebaphdoaaW.PrintLast Go.Proofs.YtkbjoiebaphdoaaW.PrintMore
set_option linter.unusedSimpArgs false
set_option linter.unusedVariables false

theorem FnExactBestOpening : ∀ (l0_0 : List Int) (l0_1 : List Int), (l0_0.length ≤ 9223372036854775807 ∧ ∀ x0 ∈ l0_0, (Lit.int .i64 x0).wf = true) → (l0_1.length ≤ 9223372036854775807 ∧ ∀ x0 ∈ l0_1, (Lit.int .i64 x0).wf = true) → ∃ k, laws_FnExactBestOpening.f k l0_0 l0_1 = some true := by
  intro a b ha hb
  obtain ⟨t, hs, ht⟩ := szE_eq a b ha.1 hb.1
  refine Ev.rounds (r := true) ?_
  unfold laws_FnExactBestOpening.f
  rw [hs]
  rcases ht with ht | ⟨h0, h1⟩
  · exact Ev.congr (f := fun _ => some true) (fun k => by rw [Option.bind_some, if_pos ht]) (Ev.now true)
  · have hT := toE_ev a b h1
    refine Ev.congr (fun k => by rw [Option.bind_some, if_neg (by omega)]) (Ev.bind hT ?_)
    refine Ev.bind (specBestOpening_ev a b (by omega) (by omega)) ?_
    refine Ev.bind hT ?_
    refine Ev.bind (implBestOpening_ev a b (by omega) (by omega)) ?_
    refine Ev.congr (fun k => by rw [if_neg (by rw [bne_self_eq_false]; decide), if_pos rfl, bne_self_eq_false]) ?_
    refine Ev.step (f := fun k => (laws_toEnding.f k a b).bind fun bt => (laws_eqEnding.f k a b bt.1 bt.2).bind fun t => if t = true then some true else some false) (fun k => ?_) ?_
    · simp only [laws_FnExactBestOpening.j0]
      rw [if_neg (by decide)]
    · refine Ev.bind hT (Ev.bind (eqE_ev a b h1) ?_)
      exact Ev.congr (f := fun _ => some true) (fun k => by rw [if_pos rfl]) (Ev.now true)

end Go.Proofs.Ytkbjoiebaphdoaa.Pure
