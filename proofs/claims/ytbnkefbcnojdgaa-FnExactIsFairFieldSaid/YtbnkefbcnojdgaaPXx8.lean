-- Written by a program of this session (sprint.py) that drives the print over the translation, with contracts of this session's own for some functions.
import Derived.Test.YtbnkefbcnojdgaaPXx0
import Derived.Test.YtbnkefbcnojdgaaPXx6
namespace Go.Proofs.Ytbnkefbcnojdgaa.PX
open Go.RowKit Go.Proofs.YtbnkefbcnojdgaaW.PrintWords Go.Proofs.YtbnkefbcnojdgaaW.PrintLast Go.Proofs.YtbnkefbcnojdgaaW.PrintMore
attribute [local go_sem] max2_int min2_int max_two min_two max_three min_three max_four min_four   -- for this text's walks alone
set_option linter.unusedVariables false
set_option linter.unusedSimpArgs false

/-! ### spec_l05Fair: function 64 -/
mutual
def spec_l05Fair.l0 : Nat → Int → Int → Int → Int → Int → Int → Option (Bool)
  | 0, _, _, _, _, _, _ => none
  | k + 1, x1, x5, x191000, x191001, x191002, x191003 => if x5 < x191000 then (spec_l05Fair.l1 k x1 x5 0 x191000 x191001 x191002 x191003) else (some true)
def spec_l05Fair.l1 : Nat → Int → Int → Int → Int → Int → Int → Int → Option (Bool)
  | 0, _, _, _, _, _, _, _ => none
  | k + 1, x1, x5, x6, x191000, x191001, x191002, x191003 => if x6 < x5 then ((spec_l05Joined.f x191000 x191001 x191002 x191003 x6 x5).bind fun t191 => (if t191 = true then (if 0 ≤ (IntKind.u64.wrap (x6)) then (if 0 ≤ (IntKind.u64.wrap (x5)) then (if (wrap64 ((Go.bits .and .i64 (shr .i64 x191002 (IntKind.u64.wrap (x6))) 1) + (wrap64 (2 * (Go.bits .and .i64 (shr .i64 x191003 (IntKind.u64.wrap (x6))) 1))))) > 0 then (if (wrap64 ((Go.bits .and .i64 (shr .i64 x191002 (IntKind.u64.wrap (x5))) 1) + (wrap64 (2 * (Go.bits .and .i64 (shr .i64 x191003 (IntKind.u64.wrap (x5))) 1))))) > 0 then (if (((wrap64 ((Go.bits .and .i64 (shr .i64 x191002 (IntKind.u64.wrap (x6))) 1) + (wrap64 (2 * (Go.bits .and .i64 (shr .i64 x191003 (IntKind.u64.wrap (x6))) 1))))) == (wrap64 ((Go.bits .and .i64 (shr .i64 x191002 (IntKind.u64.wrap (x5))) 1) + (wrap64 (2 * (Go.bits .and .i64 (shr .i64 x191003 (IntKind.u64.wrap (x5))) 1)))))) == (x1 == 0)) = true then (some false) else (spec_l05Fair.l1 k x1 x5 (wrap64 (x6 + 1)) x191000 x191001 x191002 x191003)) else (spec_l05Fair.l1 k x1 x5 (wrap64 (x6 + 1)) x191000 x191001 x191002 x191003)) else (spec_l05Fair.l1 k x1 x5 (wrap64 (x6 + 1)) x191000 x191001 x191002 x191003)) else (none)) else (none)) else (spec_l05Fair.l1 k x1 x5 (wrap64 (x6 + 1)) x191000 x191001 x191002 x191003))) else (spec_l05Fair.l0 k x1 (wrap64 (x5 + 1)) x191000 x191001 x191002 x191003)
end
def spec_l05Fair.f (k : Nat) (a0_0 : Int) (a0_1 : Int) (a0_2 : Int) (a0_3 : Int) (a1 : Int) : Option (Bool) := spec_l05Fair.l0 k a1 1 a0_0 a0_1 a0_2 a0_3
theorem spec_l05Fair.mono_l : ∀ k, (∀ y0 y1 y2 y3 y4 y5, LeO (spec_l05Fair.l0 k y0 y1 y2 y3 y4 y5) (spec_l05Fair.l0 (k + 1) y0 y1 y2 y3 y4 y5)) ∧ (∀ y0 y1 y2 y3 y4 y5 y6, LeO (spec_l05Fair.l1 k y0 y1 y2 y3 y4 y5 y6) (spec_l05Fair.l1 (k + 1) y0 y1 y2 y3 y4 y5 y6))
  | 0 => ⟨fun _ _ _ _ _ _ r h => by simp [spec_l05Fair.l0] at h, fun _ _ _ _ _ _ _ r h => by simp [spec_l05Fair.l1] at h⟩
  | k + 1 => by
    obtain ⟨ih0, ih1⟩ := spec_l05Fair.mono_l k
    refine ⟨?_, ?_⟩
    · intro y0 y1 y2 y3 y4 y5
      unfold spec_l05Fair.l0
      repeat' first
      | (with_reducible exact ih0 _ _ _ _ _ _)
      | (with_reducible exact ih1 _ _ _ _ _ _ _)
      | (with_reducible exact LeO.refl _)
      | (with_reducible exact LeO.none _)
      | (with_reducible refine LeO.ite ?_ ?_)
      | (with_reducible refine LeO.bind ?_ (fun _ => ?_))
      | exact ih0 _ _ _ _ _ _
      | exact ih1 _ _ _ _ _ _ _
      | exact LeO.none _
      | refine LeO.ite ?_ ?_
      | refine LeO.bind ?_ (fun _ => ?_)
    · intro y0 y1 y2 y3 y4 y5 y6
      unfold spec_l05Fair.l1
      repeat' first
      | (with_reducible exact ih0 _ _ _ _ _ _)
      | (with_reducible exact ih1 _ _ _ _ _ _ _)
      | (with_reducible exact LeO.refl _)
      | (with_reducible exact LeO.none _)
      | (with_reducible refine LeO.ite ?_ ?_)
      | (with_reducible refine LeO.bind ?_ (fun _ => ?_))
      | exact ih0 _ _ _ _ _ _
      | exact ih1 _ _ _ _ _ _ _
      | exact LeO.none _
      | refine LeO.ite ?_ ?_
      | refine LeO.bind ?_ (fun _ => ?_)
theorem spec_l05Fair.mono : ∀ a0 a1 a2 a3 a4 k, LeO (spec_l05Fair.f k a0 a1 a2 a3 a4) (spec_l05Fair.f (k + 1) a0 a1 a2 a3 a4) := by
  intro a0 a1 a2 a3 a4 k
  obtain ⟨ih0, ih1⟩ := spec_l05Fair.mono_l k
  unfold spec_l05Fair.f
  repeat' first
      | (with_reducible exact ih0 _ _ _ _ _ _)
      | (with_reducible exact ih1 _ _ _ _ _ _ _)
      | (with_reducible exact LeO.refl _)
      | (with_reducible exact LeO.none _)
      | (with_reducible refine LeO.ite ?_ ?_)
      | (with_reducible refine LeO.bind ?_ (fun _ => ?_))
      | exact ih0 _ _ _ _ _ _
      | exact ih1 _ _ _ _ _ _ _
      | exact LeO.none _
      | refine LeO.ite ?_ ?_
      | refine LeO.bind ?_ (fun _ => ?_)
set_option maxHeartbeats 8000000 in
set_option maxRecDepth 100000 in
theorem spec_l05Fair.calls (k : Nat) (a0_0 : Int) (a0_1 : Int) (a0_2 : Int) (a0_3 : Int) (a1 : Int) (r : Bool) (w : World) (h : spec_l05Fair.f k a0_0 a0_1 a0_2 a0_3 a1 = some r) :
    Calls Try.prog 64 #[.agg #[.int .i64 a0_0, .int .i64 a0_1, .int .i64 a0_2, .int .i64 a0_3], .int .i64 a1] w fun e w' => e = .returned (.bool r) ∧ Below w.heap.size w w' := by
  have hu46 := Try.underlying46
  have HB := Aside0.mk (Below.refl w.heap.size w)
  have H : (spec_l05Fair.l0 k a1 1 a0_0 a0_1 a0_2 a0_3) = some r := h
  clear h
  have H' := Aside0.mk H
  clear H
  go_enter Try.func64, Try.ntmps64
  go_wp2_with (first | ((with_reducible refine gate_dst (N := 2) rfl ?_); refine box_event ?hg (N := 2) ?hd (cs := #[.int .i64 a0_0, .int .i64 a0_1, .int .i64 a0_2, .int .i64 a0_3]) (t := 46) ?hr ?_; (case hd => rfl); (case hg => rfl); (case hr => first | (go_simp; done) | (go_simp; rfl)); intro gb190 hg w3 hbox hb; have n0_ := Aside0.mk (below_step (by repeat (first | (with_reducible first | exact HB.out | apply below_alloc | apply pw_below_drewN | apply below_drew1) | exact HB.out)) hb); have n1_ := Aside0.mk (hbox); have n2_ := Aside0.mk ((by rw [hg]; exact (below_size (by repeat (first | (with_reducible first | exact HB.out | apply below_alloc | apply pw_below_drewN | apply below_drew1) | exact HB.out))) : w.heap.size ≤ gb190)); have n3_ := Aside0.mk ((by rw [hg]; exact (below_size (by repeat (first | (with_reducible first | exact HB.out | apply below_alloc | apply pw_below_drewN | apply below_drew1) | exact HB.out))) : w.heap.size ≤ gb190)); clear HB; have HB := n0_; have BK190 := n1_; have GW190 := n2_; have GE190 := n3_; clear n0_ n1_ n2_ n3_; clear hb hbox hg))
  repeat (go_quiet (first | ((with_reducible refine gate_dst (N := 2) rfl ?_); refine box_event ?hg (N := 2) ?hd (cs := #[.int .i64 a0_0, .int .i64 a0_1, .int .i64 a0_2, .int .i64 a0_3]) (t := 46) ?hr ?_; (case hd => rfl); (case hg => rfl); (case hr => first | (go_simp; done) | (go_simp; rfl)); intro gb190 hg w3 hbox hb; have n0_ := Aside0.mk (below_step (by repeat (first | (with_reducible first | exact HB.out | apply below_alloc | apply pw_below_drewN | apply below_drew1) | exact HB.out)) hb); have n1_ := Aside0.mk (hbox); have n2_ := Aside0.mk ((by rw [hg]; exact (below_size (by repeat (first | (with_reducible first | exact HB.out | apply below_alloc | apply pw_below_drewN | apply below_drew1) | exact HB.out))) : w.heap.size ≤ gb190)); have n3_ := Aside0.mk ((by rw [hg]; exact (below_size (by repeat (first | (with_reducible first | exact HB.out | apply below_alloc | apply pw_below_drewN | apply below_drew1) | exact HB.out))) : w.heap.size ≤ gb190)); clear HB; have HB := n0_; have BK190 := n1_; have GW190 := n2_; have GE190 := n3_; clear n0_ n1_ n2_ n3_; clear hb hbox hg)); try go_wp2_with (first | ((with_reducible refine gate_dst (N := 2) rfl ?_); refine box_event ?hg (N := 2) ?hd (cs := #[.int .i64 a0_0, .int .i64 a0_1, .int .i64 a0_2, .int .i64 a0_3]) (t := 46) ?hr ?_; (case hd => rfl); (case hg => rfl); (case hr => first | (go_simp; done) | (go_simp; rfl)); intro gb190 hg w3 hbox hb; have n0_ := Aside0.mk (below_step (by repeat (first | (with_reducible first | exact HB.out | apply below_alloc | apply pw_below_drewN | apply below_drew1) | exact HB.out)) hb); have n1_ := Aside0.mk (hbox); have n2_ := Aside0.mk ((by rw [hg]; exact (below_size (by repeat (first | (with_reducible first | exact HB.out | apply below_alloc | apply pw_below_drewN | apply below_drew1) | exact HB.out))) : w.heap.size ≤ gb190)); have n3_ := Aside0.mk ((by rw [hg]; exact (below_size (by repeat (first | (with_reducible first | exact HB.out | apply below_alloc | apply pw_below_drewN | apply below_drew1) | exact HB.out))) : w.heap.size ≤ gb190)); clear HB; have HB := n0_; have BK190 := n1_; have GW190 := n2_; have GE190 := n3_; clear n0_ n1_ n2_ n3_; clear hb hbox hg)))
  go_loopg [5] k (fun kq v5 w' => ∃ (x5_1 : Int), v5 = .int .i64 x5_1 ∧ Aside0 (spec_l05Fair.l0 kq a1 x5_1 a0_0 a0_1 a0_2 a0_3 = some r) ∧ Aside0 (kq ≤ k) ∧ Aside0 (w'.heap[gb190]? = some (.cells #[.int .i64 a0_0, .int .i64 a0_1, .int .i64 a0_2, .int .i64 a0_3] 46 (0, 0))) ∧ Aside0 (Below w.heap.size w w'))
  case atStart => exact ⟨(1), (by first | rfl | (simp; done) | (simp [*]; done)), H', ⟨Nat.le_refl _⟩, ⟨by (with_reducible repeat (first | refine blk_drewN ?_ _ | refine blk_drew ?_ | refine blk_alloc ?_ _)); exact BK190.out⟩, ⟨by repeat (first | (with_reducible first | exact HB.out | apply below_alloc | apply pw_below_drewN | apply below_drew1 | refine below_set ?_ GE190.out) | exact HB.out)⟩⟩
  case round =>
    clear H'
    try clear p2
    obtain ⟨x5_1, rfl, HA, HK1, BK190, HB⟩ := hrel
    cases gk with
    | zero => exact absurd HA.out (by simp [spec_l05Fair.l0])
    | succ k1 =>
      have H := HA.out
      clear HA
      simp only [spec_l05Fair.l0] at H
      by_cases c4 : x5_1 < a0_0
      · rw [if_pos c4] at H
        have c4b0 : decide (x5_1 < a0_0) = true := decide_eq_true c4
        clear c4
        have H' := Aside0.mk H
        clear H
        have hcz5_0 : wr.cell? ⟨gb190, 0, none⟩ = some (.int .i64 a0_0) := (blk_cell BK190.out 0).trans rfl
        have hcz5_1 : wr.cell? ⟨gb190, 1, none⟩ = some (.int .i64 a0_1) := (blk_cell BK190.out 1).trans rfl
        have hcz5_2 : wr.cell? ⟨gb190, 2, none⟩ = some (.int .i64 a0_2) := (blk_cell BK190.out 2).trans rfl
        have hcz5_3 : wr.cell? ⟨gb190, 3, none⟩ = some (.int .i64 a0_3) := (blk_cell BK190.out 3).trans rfl
        have hfz5_0 := blk_frozen BK190.out 0
        have hfz5_1 := blk_frozen BK190.out 1
        have hfz5_2 := blk_frozen BK190.out 2
        have hfz5_3 := blk_frozen BK190.out 3
        go_wp2
        repeat (go_quiet (fail); try go_wp2)
        go_loopg [6] k1 (fun kq v6 w' => ∃ (x6_2 : Int), v6 = .int .i64 x6_2 ∧ Aside0 (spec_l05Fair.l1 kq a1 x5_1 x6_2 a0_0 a0_1 a0_2 a0_3 = some r) ∧ Aside0 (kq ≤ k1) ∧ Aside0 (w'.heap[gb190]? = some (.cells #[.int .i64 a0_0, .int .i64 a0_1, .int .i64 a0_2, .int .i64 a0_3] 46 (0, 0))) ∧ Aside0 (Below w.heap.size w w'))
        case atStart => exact ⟨(0), (by first | rfl | (simp; done) | (simp [*]; done)), H', ⟨Nat.le_refl _⟩, ⟨by (with_reducible repeat (first | refine blk_drewN ?_ _ | refine blk_drew ?_ | refine blk_alloc ?_ _)); exact BK190.out⟩, ⟨by repeat (first | (with_reducible first | exact HB.out | apply below_alloc | apply pw_below_drewN | apply below_drew1 | refine below_set ?_ GE190.out) | exact HB.out)⟩⟩
        case round =>
          clear H'
          try clear p2
          try clear c4
          try clear c4b0
          try clear hcz5_0
          try clear hcz5_1
          try clear hcz5_2
          try clear hcz5_3
          try clear hfz5_0
          try clear hfz5_1
          try clear hfz5_2
          try clear hfz5_3
          try clear p2
          obtain ⟨x6_2, rfl, HA, HK2, BK190, HB⟩ := hrel
          cases gk with
          | zero => exact absurd HA.out (by simp [spec_l05Fair.l1])
          | succ k2 =>
            have H := HA.out
            clear HA
            simp only [spec_l05Fair.l1] at H
            by_cases c6 : x6_2 < x5_1
            · rw [if_pos c6] at H
              have c6b0 : decide (x6_2 < x5_1) = true := decide_eq_true c6
              clear c6
              replace H := Option.bind_eq_some_iff.mp H
              obtain ⟨t191, A70, H⟩ := H
              replace H : (if t191 = true then (if 0 ≤ (IntKind.u64.wrap (x6_2)) then (if 0 ≤ (IntKind.u64.wrap (x5_1)) then (if (wrap64 ((Go.bits .and .i64 (shr .i64 a0_2 (IntKind.u64.wrap (x6_2))) 1) + (wrap64 (2 * (Go.bits .and .i64 (shr .i64 a0_3 (IntKind.u64.wrap (x6_2))) 1))))) > 0 then (if (wrap64 ((Go.bits .and .i64 (shr .i64 a0_2 (IntKind.u64.wrap (x5_1))) 1) + (wrap64 (2 * (Go.bits .and .i64 (shr .i64 a0_3 (IntKind.u64.wrap (x5_1))) 1))))) > 0 then (if (((wrap64 ((Go.bits .and .i64 (shr .i64 a0_2 (IntKind.u64.wrap (x6_2))) 1) + (wrap64 (2 * (Go.bits .and .i64 (shr .i64 a0_3 (IntKind.u64.wrap (x6_2))) 1))))) == (wrap64 ((Go.bits .and .i64 (shr .i64 a0_2 (IntKind.u64.wrap (x5_1))) 1) + (wrap64 (2 * (Go.bits .and .i64 (shr .i64 a0_3 (IntKind.u64.wrap (x5_1))) 1)))))) == (a1 == 0)) = true then (some false) else (spec_l05Fair.l1 k2 a1 x5_1 (wrap64 (x6_2 + 1)) a0_0 a0_1 a0_2 a0_3)) else (spec_l05Fair.l1 k2 a1 x5_1 (wrap64 (x6_2 + 1)) a0_0 a0_1 a0_2 a0_3)) else (spec_l05Fair.l1 k2 a1 x5_1 (wrap64 (x6_2 + 1)) a0_0 a0_1 a0_2 a0_3)) else (none)) else (none)) else (spec_l05Fair.l1 k2 a1 x5_1 (wrap64 (x6_2 + 1)) a0_0 a0_1 a0_2 a0_3)) = some r := H
              have A7 := Aside0.mk A70
              clear A70
              by_cases c8 : t191 = true
              · subst c8
                have H1 : (if 0 ≤ (IntKind.u64.wrap (x6_2)) then (if 0 ≤ (IntKind.u64.wrap (x5_1)) then (if (wrap64 ((Go.bits .and .i64 (shr .i64 a0_2 (IntKind.u64.wrap (x6_2))) 1) + (wrap64 (2 * (Go.bits .and .i64 (shr .i64 a0_3 (IntKind.u64.wrap (x6_2))) 1))))) > 0 then (if (wrap64 ((Go.bits .and .i64 (shr .i64 a0_2 (IntKind.u64.wrap (x5_1))) 1) + (wrap64 (2 * (Go.bits .and .i64 (shr .i64 a0_3 (IntKind.u64.wrap (x5_1))) 1))))) > 0 then (if (((wrap64 ((Go.bits .and .i64 (shr .i64 a0_2 (IntKind.u64.wrap (x6_2))) 1) + (wrap64 (2 * (Go.bits .and .i64 (shr .i64 a0_3 (IntKind.u64.wrap (x6_2))) 1))))) == (wrap64 ((Go.bits .and .i64 (shr .i64 a0_2 (IntKind.u64.wrap (x5_1))) 1) + (wrap64 (2 * (Go.bits .and .i64 (shr .i64 a0_3 (IntKind.u64.wrap (x5_1))) 1)))))) == (a1 == 0)) = true then (some false) else (spec_l05Fair.l1 k2 a1 x5_1 (wrap64 (x6_2 + 1)) a0_0 a0_1 a0_2 a0_3)) else (spec_l05Fair.l1 k2 a1 x5_1 (wrap64 (x6_2 + 1)) a0_0 a0_1 a0_2 a0_3)) else (spec_l05Fair.l1 k2 a1 x5_1 (wrap64 (x6_2 + 1)) a0_0 a0_1 a0_2 a0_3)) else (none)) else (none)) = some r := by rw [if_pos rfl] at H; exact H
                clear H
                have H := H1
                clear H1
                obtain ⟨ji9, hji9⟩ : ∃ j_ : Int, (IntKind.u64.wrap (x6_2)) = j_ := ⟨_, rfl⟩
                replace H : (if 0 ≤ (ji9) then (if 0 ≤ (IntKind.u64.wrap (x5_1)) then (if (wrap64 ((Go.bits .and .i64 (shr .i64 a0_2 (ji9)) 1) + (wrap64 (2 * (Go.bits .and .i64 (shr .i64 a0_3 (ji9)) 1))))) > 0 then (if (wrap64 ((Go.bits .and .i64 (shr .i64 a0_2 (IntKind.u64.wrap (x5_1))) 1) + (wrap64 (2 * (Go.bits .and .i64 (shr .i64 a0_3 (IntKind.u64.wrap (x5_1))) 1))))) > 0 then (if (((wrap64 ((Go.bits .and .i64 (shr .i64 a0_2 (ji9)) 1) + (wrap64 (2 * (Go.bits .and .i64 (shr .i64 a0_3 (ji9)) 1))))) == (wrap64 ((Go.bits .and .i64 (shr .i64 a0_2 (IntKind.u64.wrap (x5_1))) 1) + (wrap64 (2 * (Go.bits .and .i64 (shr .i64 a0_3 (IntKind.u64.wrap (x5_1))) 1)))))) == (a1 == 0)) = true then (some false) else (spec_l05Fair.l1 k2 a1 x5_1 (wrap64 (x6_2 + 1)) a0_0 a0_1 a0_2 a0_3)) else (spec_l05Fair.l1 k2 a1 x5_1 (wrap64 (x6_2 + 1)) a0_0 a0_1 a0_2 a0_3)) else (spec_l05Fair.l1 k2 a1 x5_1 (wrap64 (x6_2 + 1)) a0_0 a0_1 a0_2 a0_3)) else (none)) else (none)) = some r := by first | (rw [hji9] at H; exact H) | (simp only [hji9] at H ⊢; exact H)
                (try rw [hji9] at A7)
                by_cases c10 : 0 ≤ (ji9)
                · rw [if_pos c10] at H
                  have c10b0 := eq_true c10
                  have c10b1 : decide (0 ≤ (ji9)) = true := decide_eq_true c10
                  clear c10
                  obtain ⟨ji11, hji11⟩ : ∃ j_ : Int, (shr .i64 a0_2 (ji9)) = j_ := ⟨_, rfl⟩
                  replace H : (if 0 ≤ (IntKind.u64.wrap (x5_1)) then (if (wrap64 ((Go.bits .and .i64 (ji11) 1) + (wrap64 (2 * (Go.bits .and .i64 (shr .i64 a0_3 (ji9)) 1))))) > 0 then (if (wrap64 ((Go.bits .and .i64 (shr .i64 a0_2 (IntKind.u64.wrap (x5_1))) 1) + (wrap64 (2 * (Go.bits .and .i64 (shr .i64 a0_3 (IntKind.u64.wrap (x5_1))) 1))))) > 0 then (if (((wrap64 ((Go.bits .and .i64 (ji11) 1) + (wrap64 (2 * (Go.bits .and .i64 (shr .i64 a0_3 (ji9)) 1))))) == (wrap64 ((Go.bits .and .i64 (shr .i64 a0_2 (IntKind.u64.wrap (x5_1))) 1) + (wrap64 (2 * (Go.bits .and .i64 (shr .i64 a0_3 (IntKind.u64.wrap (x5_1))) 1)))))) == (a1 == 0)) = true then (some false) else (spec_l05Fair.l1 k2 a1 x5_1 (wrap64 (x6_2 + 1)) a0_0 a0_1 a0_2 a0_3)) else (spec_l05Fair.l1 k2 a1 x5_1 (wrap64 (x6_2 + 1)) a0_0 a0_1 a0_2 a0_3)) else (spec_l05Fair.l1 k2 a1 x5_1 (wrap64 (x6_2 + 1)) a0_0 a0_1 a0_2 a0_3)) else (none)) = some r := by first | (rw [hji11] at H; exact H) | (simp only [hji11] at H ⊢; exact H)
                  (try rw [hji11] at A7)
                  have hji11_ : (a0_2 / 2 ^ min (ji9).toNat 64) = ji11 := hji11
                  have hji11z : (ji9) ≤ 64 → (a0_2 / 2 ^ (ji9).toNat) = ji11 := shr_small hji11
                  have c12b0 := eq_true (of_decide_eq_true (by first | (with_reducible assumption) | assumption) : 0 ≤ (ji9))
                  obtain ⟨ji13, hji13⟩ : ∃ j_ : Int, (shr .i64 a0_3 (ji9)) = j_ := ⟨_, rfl⟩
                  replace H : (if 0 ≤ (IntKind.u64.wrap (x5_1)) then (if (wrap64 ((Go.bits .and .i64 (ji11) 1) + (wrap64 (2 * (Go.bits .and .i64 (ji13) 1))))) > 0 then (if (wrap64 ((Go.bits .and .i64 (shr .i64 a0_2 (IntKind.u64.wrap (x5_1))) 1) + (wrap64 (2 * (Go.bits .and .i64 (shr .i64 a0_3 (IntKind.u64.wrap (x5_1))) 1))))) > 0 then (if (((wrap64 ((Go.bits .and .i64 (ji11) 1) + (wrap64 (2 * (Go.bits .and .i64 (ji13) 1))))) == (wrap64 ((Go.bits .and .i64 (shr .i64 a0_2 (IntKind.u64.wrap (x5_1))) 1) + (wrap64 (2 * (Go.bits .and .i64 (shr .i64 a0_3 (IntKind.u64.wrap (x5_1))) 1)))))) == (a1 == 0)) = true then (some false) else (spec_l05Fair.l1 k2 a1 x5_1 (wrap64 (x6_2 + 1)) a0_0 a0_1 a0_2 a0_3)) else (spec_l05Fair.l1 k2 a1 x5_1 (wrap64 (x6_2 + 1)) a0_0 a0_1 a0_2 a0_3)) else (spec_l05Fair.l1 k2 a1 x5_1 (wrap64 (x6_2 + 1)) a0_0 a0_1 a0_2 a0_3)) else (none)) = some r := by first | (rw [hji13] at H; exact H) | (simp only [hji13] at H ⊢; exact H)
                  (try rw [hji13] at A7)
                  have hji13_ : (a0_3 / 2 ^ min (ji9).toNat 64) = ji13 := hji13
                  have hji13z : (ji9) ≤ 64 → (a0_3 / 2 ^ (ji9).toNat) = ji13 := shr_small hji13
                  obtain ⟨ji14, hji14⟩ : ∃ j_ : Int, (IntKind.u64.wrap (x5_1)) = j_ := ⟨_, rfl⟩
                  replace H : (if 0 ≤ (ji14) then (if (wrap64 ((Go.bits .and .i64 (ji11) 1) + (wrap64 (2 * (Go.bits .and .i64 (ji13) 1))))) > 0 then (if (wrap64 ((Go.bits .and .i64 (shr .i64 a0_2 (ji14)) 1) + (wrap64 (2 * (Go.bits .and .i64 (shr .i64 a0_3 (ji14)) 1))))) > 0 then (if (((wrap64 ((Go.bits .and .i64 (ji11) 1) + (wrap64 (2 * (Go.bits .and .i64 (ji13) 1))))) == (wrap64 ((Go.bits .and .i64 (shr .i64 a0_2 (ji14)) 1) + (wrap64 (2 * (Go.bits .and .i64 (shr .i64 a0_3 (ji14)) 1)))))) == (a1 == 0)) = true then (some false) else (spec_l05Fair.l1 k2 a1 x5_1 (wrap64 (x6_2 + 1)) a0_0 a0_1 a0_2 a0_3)) else (spec_l05Fair.l1 k2 a1 x5_1 (wrap64 (x6_2 + 1)) a0_0 a0_1 a0_2 a0_3)) else (spec_l05Fair.l1 k2 a1 x5_1 (wrap64 (x6_2 + 1)) a0_0 a0_1 a0_2 a0_3)) else (none)) = some r := by first | (rw [hji14] at H; exact H) | (simp only [hji14] at H ⊢; exact H)
                  (try rw [hji14] at A7)
                  by_cases c15 : 0 ≤ (ji14)
                  · rw [if_pos c15] at H
                    have c15b0 := eq_true c15
                    have c15b1 : decide (0 ≤ (ji14)) = true := decide_eq_true c15
                    clear c15
                    obtain ⟨ji16, hji16⟩ : ∃ j_ : Int, (shr .i64 a0_2 (ji14)) = j_ := ⟨_, rfl⟩
                    replace H : (if (wrap64 ((Go.bits .and .i64 (ji11) 1) + (wrap64 (2 * (Go.bits .and .i64 (ji13) 1))))) > 0 then (if (wrap64 ((Go.bits .and .i64 (ji16) 1) + (wrap64 (2 * (Go.bits .and .i64 (shr .i64 a0_3 (ji14)) 1))))) > 0 then (if (((wrap64 ((Go.bits .and .i64 (ji11) 1) + (wrap64 (2 * (Go.bits .and .i64 (ji13) 1))))) == (wrap64 ((Go.bits .and .i64 (ji16) 1) + (wrap64 (2 * (Go.bits .and .i64 (shr .i64 a0_3 (ji14)) 1)))))) == (a1 == 0)) = true then (some false) else (spec_l05Fair.l1 k2 a1 x5_1 (wrap64 (x6_2 + 1)) a0_0 a0_1 a0_2 a0_3)) else (spec_l05Fair.l1 k2 a1 x5_1 (wrap64 (x6_2 + 1)) a0_0 a0_1 a0_2 a0_3)) else (spec_l05Fair.l1 k2 a1 x5_1 (wrap64 (x6_2 + 1)) a0_0 a0_1 a0_2 a0_3)) = some r := by first | (rw [hji16] at H; exact H) | (simp only [hji16] at H ⊢; exact H)
                    (try rw [hji16] at A7)
                    have hji16_ : (a0_2 / 2 ^ min (ji14).toNat 64) = ji16 := hji16
                    have hji16z : (ji14) ≤ 64 → (a0_2 / 2 ^ (ji14).toNat) = ji16 := shr_small hji16
                    have c17b0 := eq_true (of_decide_eq_true (by first | (with_reducible assumption) | assumption) : 0 ≤ (ji14))
                    obtain ⟨ji18, hji18⟩ : ∃ j_ : Int, (shr .i64 a0_3 (ji14)) = j_ := ⟨_, rfl⟩
                    replace H : (if (wrap64 ((Go.bits .and .i64 (ji11) 1) + (wrap64 (2 * (Go.bits .and .i64 (ji13) 1))))) > 0 then (if (wrap64 ((Go.bits .and .i64 (ji16) 1) + (wrap64 (2 * (Go.bits .and .i64 (ji18) 1))))) > 0 then (if (((wrap64 ((Go.bits .and .i64 (ji11) 1) + (wrap64 (2 * (Go.bits .and .i64 (ji13) 1))))) == (wrap64 ((Go.bits .and .i64 (ji16) 1) + (wrap64 (2 * (Go.bits .and .i64 (ji18) 1)))))) == (a1 == 0)) = true then (some false) else (spec_l05Fair.l1 k2 a1 x5_1 (wrap64 (x6_2 + 1)) a0_0 a0_1 a0_2 a0_3)) else (spec_l05Fair.l1 k2 a1 x5_1 (wrap64 (x6_2 + 1)) a0_0 a0_1 a0_2 a0_3)) else (spec_l05Fair.l1 k2 a1 x5_1 (wrap64 (x6_2 + 1)) a0_0 a0_1 a0_2 a0_3)) = some r := by first | (rw [hji18] at H; exact H) | (simp only [hji18] at H ⊢; exact H)
                    (try rw [hji18] at A7)
                    have hji18_ : (a0_3 / 2 ^ min (ji14).toNat 64) = ji18 := hji18
                    have hji18z : (ji14) ≤ 64 → (a0_3 / 2 ^ (ji14).toNat) = ji18 := shr_small hji18
                    by_cases c19 : (wrap64 ((Go.bits .and .i64 (ji11) 1) + (wrap64 (2 * (Go.bits .and .i64 (ji13) 1))))) > 0
                    · rw [if_pos c19] at H
                      have c19b0 : decide (0 < (wrap64 ((Go.bits .and .i64 (ji11) 1) + (wrap64 (2 * (Go.bits .and .i64 (ji13) 1)))))) = true := decide_eq_true c19
                      clear c19
                      by_cases c20 : (wrap64 ((Go.bits .and .i64 (ji16) 1) + (wrap64 (2 * (Go.bits .and .i64 (ji18) 1))))) > 0
                      · rw [if_pos c20] at H
                        have c20b0 : decide (0 < (wrap64 ((Go.bits .and .i64 (ji16) 1) + (wrap64 (2 * (Go.bits .and .i64 (ji18) 1)))))) = true := decide_eq_true c20
                        clear c20
                        by_cases c21 : (((wrap64 ((Go.bits .and .i64 (ji11) 1) + (wrap64 (2 * (Go.bits .and .i64 (ji13) 1))))) == (wrap64 ((Go.bits .and .i64 (ji16) 1) + (wrap64 (2 * (Go.bits .and .i64 (ji18) 1)))))) == (a1 == 0)) = true
                        · rw [if_pos c21] at H
                          have c21b0 : (((wrap64 ((Go.bits .and .i64 (ji11) 1) + (wrap64 (2 * (Go.bits .and .i64 (ji13) 1))))) == (wrap64 ((Go.bits .and .i64 (ji16) 1) + (wrap64 (2 * (Go.bits .and .i64 (ji18) 1)))))) == (a1 == 0)) = true := c21
                          (try (have c21b1 : decide (((wrap64 ((Go.bits .and .i64 (ji11) 1) + (wrap64 (2 * (Go.bits .and .i64 (ji13) 1))))) == (wrap64 ((Go.bits .and .i64 (ji16) 1) + (wrap64 (2 * (Go.bits .and .i64 (ji18) 1)))))) = (a1 == 0)) = true := by simpa using c21))
                          (try (have c21b2 : (((wrap64 ((Go.bits .and .i64 (ji11) 1) + (wrap64 (2 * (Go.bits .and .i64 (ji13) 1))))) == (wrap64 ((Go.bits .and .i64 (ji16) 1) + (wrap64 (2 * (Go.bits .and .i64 (ji18) 1)))))) == (a1 == 0)) = true := by simpa using c21))
                          clear c21
                          obtain rfl := Option.some.inj H
                          have hcz22_0 : wr.cell? ⟨gb190, 0, none⟩ = some (.int .i64 a0_0) := (blk_cell BK190.out 0).trans rfl
                          have hcz22_1 : wr.cell? ⟨gb190, 1, none⟩ = some (.int .i64 a0_1) := (blk_cell BK190.out 1).trans rfl
                          have hcz22_2 : wr.cell? ⟨gb190, 2, none⟩ = some (.int .i64 a0_2) := (blk_cell BK190.out 2).trans rfl
                          have hcz22_3 : wr.cell? ⟨gb190, 3, none⟩ = some (.int .i64 a0_3) := (blk_cell BK190.out 3).trans rfl
                          have hfz22_0 := blk_frozen BK190.out 0
                          have hfz22_1 := blk_frozen BK190.out 1
                          have hfz22_2 := blk_frozen BK190.out 2
                          have hfz22_3 := blk_frozen BK190.out 3
                          go_wp2_with (first | (go_at_call 56; (with_reducible refine (spec_l05Joined.calls a0_0 a0_1 a0_2 a0_3 x6_2 x5_1 true _ A7.out).mono ?_); rintro e w23 ⟨rfl, hb⟩; have n0_ := Aside0.mk (blk_below (g := gb190) (o := .cells #[.int .i64 a0_0, .int .i64 a0_1, .int .i64 a0_2, .int .i64 a0_3] 46 (0, 0)) (by (with_reducible repeat (first | refine blk_drewN ?_ _ | refine blk_drew ?_ | refine blk_alloc ?_ _)); exact BK190.out) hb); have n1_ := Aside0.mk (below_step (by repeat (first | (with_reducible first | exact HB.out | apply below_alloc | apply pw_below_drewN | apply below_drew1 | refine below_set ?_ GE190.out) | exact HB.out)) hb); clear BK190; clear HB; have BK190 := n0_; have HB := n1_; clear n0_ n1_; (try clear hb); (try clear hb2); (try clear hk); (try clear hi); have hcz24_0 : w23.cell? ⟨gb190, 0, none⟩ = some (.int .i64 a0_0) := (blk_cell BK190.out 0).trans rfl; have hcz24_1 : w23.cell? ⟨gb190, 1, none⟩ = some (.int .i64 a0_1) := (blk_cell BK190.out 1).trans rfl; have hcz24_2 : w23.cell? ⟨gb190, 2, none⟩ = some (.int .i64 a0_2) := (blk_cell BK190.out 2).trans rfl; have hcz24_3 : w23.cell? ⟨gb190, 3, none⟩ = some (.int .i64 a0_3) := (blk_cell BK190.out 3).trans rfl; have hfz24_0 := blk_frozen BK190.out 0; have hfz24_1 := blk_frozen BK190.out 1; have hfz24_2 := blk_frozen BK190.out 2; have hfz24_3 := blk_frozen BK190.out 3))
                          repeat (go_quiet (first | (go_at_call 56; (with_reducible refine (spec_l05Joined.calls a0_0 a0_1 a0_2 a0_3 x6_2 x5_1 true _ A7.out).mono ?_); rintro e w23 ⟨rfl, hb⟩; have n0_ := Aside0.mk (blk_below (g := gb190) (o := .cells #[.int .i64 a0_0, .int .i64 a0_1, .int .i64 a0_2, .int .i64 a0_3] 46 (0, 0)) (by (with_reducible repeat (first | refine blk_drewN ?_ _ | refine blk_drew ?_ | refine blk_alloc ?_ _)); exact BK190.out) hb); have n1_ := Aside0.mk (below_step (by repeat (first | (with_reducible first | exact HB.out | apply below_alloc | apply pw_below_drewN | apply below_drew1 | refine below_set ?_ GE190.out) | exact HB.out)) hb); clear BK190; clear HB; have BK190 := n0_; have HB := n1_; clear n0_ n1_; (try clear hb); (try clear hb2); (try clear hk); (try clear hi); have hcz24_0 : w23.cell? ⟨gb190, 0, none⟩ = some (.int .i64 a0_0) := (blk_cell BK190.out 0).trans rfl; have hcz24_1 : w23.cell? ⟨gb190, 1, none⟩ = some (.int .i64 a0_1) := (blk_cell BK190.out 1).trans rfl; have hcz24_2 : w23.cell? ⟨gb190, 2, none⟩ = some (.int .i64 a0_2) := (blk_cell BK190.out 2).trans rfl; have hcz24_3 : w23.cell? ⟨gb190, 3, none⟩ = some (.int .i64 a0_3) := (blk_cell BK190.out 3).trans rfl; have hfz24_0 := blk_frozen BK190.out 0; have hfz24_1 := blk_frozen BK190.out 1; have hfz24_2 := blk_frozen BK190.out 2; have hfz24_3 := blk_frozen BK190.out 3)); try go_wp2_with (first | (go_at_call 56; (with_reducible refine (spec_l05Joined.calls a0_0 a0_1 a0_2 a0_3 x6_2 x5_1 true _ A7.out).mono ?_); rintro e w23 ⟨rfl, hb⟩; have n0_ := Aside0.mk (blk_below (g := gb190) (o := .cells #[.int .i64 a0_0, .int .i64 a0_1, .int .i64 a0_2, .int .i64 a0_3] 46 (0, 0)) (by (with_reducible repeat (first | refine blk_drewN ?_ _ | refine blk_drew ?_ | refine blk_alloc ?_ _)); exact BK190.out) hb); have n1_ := Aside0.mk (below_step (by repeat (first | (with_reducible first | exact HB.out | apply below_alloc | apply pw_below_drewN | apply below_drew1 | refine below_set ?_ GE190.out) | exact HB.out)) hb); clear BK190; clear HB; have BK190 := n0_; have HB := n1_; clear n0_ n1_; (try clear hb); (try clear hb2); (try clear hk); (try clear hi); have hcz24_0 : w23.cell? ⟨gb190, 0, none⟩ = some (.int .i64 a0_0) := (blk_cell BK190.out 0).trans rfl; have hcz24_1 : w23.cell? ⟨gb190, 1, none⟩ = some (.int .i64 a0_1) := (blk_cell BK190.out 1).trans rfl; have hcz24_2 : w23.cell? ⟨gb190, 2, none⟩ = some (.int .i64 a0_2) := (blk_cell BK190.out 2).trans rfl; have hcz24_3 : w23.cell? ⟨gb190, 3, none⟩ = some (.int .i64 a0_3) := (blk_cell BK190.out 3).trans rfl; have hfz24_0 := blk_frozen BK190.out 0; have hfz24_1 := blk_frozen BK190.out 1; have hfz24_2 := blk_frozen BK190.out 2; have hfz24_3 := blk_frozen BK190.out 3)))
                          go_ret
                          exact ⟨by first | rfl | (simp [errW_none, errW_some] <;> rfl) | (simp only [← hji9, ← hji11, ← hji13, ← hji14, ← hji16, ← hji18]; first | rfl | (simp [errW_none, errW_some] <;> rfl)) | (simp [*, errW_none, errW_some] <;> rfl), by repeat (first | (with_reducible first | exact HB.out | apply below_alloc | apply pw_below_drewN | apply below_drew1 | refine below_set ?_ GE190.out) | exact HB.out)⟩
                        · rw [if_neg c21] at H
                          have c21b0 : (((wrap64 ((Go.bits .and .i64 (ji11) 1) + (wrap64 (2 * (Go.bits .and .i64 (ji13) 1))))) == (wrap64 ((Go.bits .and .i64 (ji16) 1) + (wrap64 (2 * (Go.bits .and .i64 (ji18) 1)))))) == (a1 == 0)) = false := by simpa using c21
                          (try (have c21b1 : decide (((wrap64 ((Go.bits .and .i64 (ji11) 1) + (wrap64 (2 * (Go.bits .and .i64 (ji13) 1))))) == (wrap64 ((Go.bits .and .i64 (ji16) 1) + (wrap64 (2 * (Go.bits .and .i64 (ji18) 1)))))) = (a1 == 0)) = false := by simpa using c21))
                          (try (have c21b2 : (((wrap64 ((Go.bits .and .i64 (ji11) 1) + (wrap64 (2 * (Go.bits .and .i64 (ji13) 1))))) == (wrap64 ((Go.bits .and .i64 (ji16) 1) + (wrap64 (2 * (Go.bits .and .i64 (ji18) 1)))))) == (a1 == 0)) = false := by simpa using c21))
                          (try (have c21b3 : ¬ (((wrap64 ((Go.bits .and .i64 (ji11) 1) + (wrap64 (2 * (Go.bits .and .i64 (ji13) 1))))) == (wrap64 ((Go.bits .and .i64 (ji16) 1) + (wrap64 (2 * (Go.bits .and .i64 (ji18) 1)))))) = (a1 == 0)) := by simpa using c21))
                          clear c21
                          have H' := Aside0.mk H
                          clear H
                          have hcz25_0 : wr.cell? ⟨gb190, 0, none⟩ = some (.int .i64 a0_0) := (blk_cell BK190.out 0).trans rfl
                          have hcz25_1 : wr.cell? ⟨gb190, 1, none⟩ = some (.int .i64 a0_1) := (blk_cell BK190.out 1).trans rfl
                          have hcz25_2 : wr.cell? ⟨gb190, 2, none⟩ = some (.int .i64 a0_2) := (blk_cell BK190.out 2).trans rfl
                          have hcz25_3 : wr.cell? ⟨gb190, 3, none⟩ = some (.int .i64 a0_3) := (blk_cell BK190.out 3).trans rfl
                          have hfz25_0 := blk_frozen BK190.out 0
                          have hfz25_1 := blk_frozen BK190.out 1
                          have hfz25_2 := blk_frozen BK190.out 2
                          have hfz25_3 := blk_frozen BK190.out 3
                          go_wp2_with (first | (go_at_call 56; (with_reducible refine (spec_l05Joined.calls a0_0 a0_1 a0_2 a0_3 x6_2 x5_1 true _ A7.out).mono ?_); rintro e w26 ⟨rfl, hb⟩; have n0_ := Aside0.mk (blk_below (g := gb190) (o := .cells #[.int .i64 a0_0, .int .i64 a0_1, .int .i64 a0_2, .int .i64 a0_3] 46 (0, 0)) (by (with_reducible repeat (first | refine blk_drewN ?_ _ | refine blk_drew ?_ | refine blk_alloc ?_ _)); exact BK190.out) hb); have n1_ := Aside0.mk (below_step (by repeat (first | (with_reducible first | exact HB.out | apply below_alloc | apply pw_below_drewN | apply below_drew1 | refine below_set ?_ GE190.out) | exact HB.out)) hb); clear BK190; clear HB; have BK190 := n0_; have HB := n1_; clear n0_ n1_; (try clear hb); (try clear hb2); (try clear hk); (try clear hi); have hcz27_0 : w26.cell? ⟨gb190, 0, none⟩ = some (.int .i64 a0_0) := (blk_cell BK190.out 0).trans rfl; have hcz27_1 : w26.cell? ⟨gb190, 1, none⟩ = some (.int .i64 a0_1) := (blk_cell BK190.out 1).trans rfl; have hcz27_2 : w26.cell? ⟨gb190, 2, none⟩ = some (.int .i64 a0_2) := (blk_cell BK190.out 2).trans rfl; have hcz27_3 : w26.cell? ⟨gb190, 3, none⟩ = some (.int .i64 a0_3) := (blk_cell BK190.out 3).trans rfl; have hfz27_0 := blk_frozen BK190.out 0; have hfz27_1 := blk_frozen BK190.out 1; have hfz27_2 := blk_frozen BK190.out 2; have hfz27_3 := blk_frozen BK190.out 3))
                          repeat (go_quiet (first | (go_at_call 56; (with_reducible refine (spec_l05Joined.calls a0_0 a0_1 a0_2 a0_3 x6_2 x5_1 true _ A7.out).mono ?_); rintro e w26 ⟨rfl, hb⟩; have n0_ := Aside0.mk (blk_below (g := gb190) (o := .cells #[.int .i64 a0_0, .int .i64 a0_1, .int .i64 a0_2, .int .i64 a0_3] 46 (0, 0)) (by (with_reducible repeat (first | refine blk_drewN ?_ _ | refine blk_drew ?_ | refine blk_alloc ?_ _)); exact BK190.out) hb); have n1_ := Aside0.mk (below_step (by repeat (first | (with_reducible first | exact HB.out | apply below_alloc | apply pw_below_drewN | apply below_drew1 | refine below_set ?_ GE190.out) | exact HB.out)) hb); clear BK190; clear HB; have BK190 := n0_; have HB := n1_; clear n0_ n1_; (try clear hb); (try clear hb2); (try clear hk); (try clear hi); have hcz27_0 : w26.cell? ⟨gb190, 0, none⟩ = some (.int .i64 a0_0) := (blk_cell BK190.out 0).trans rfl; have hcz27_1 : w26.cell? ⟨gb190, 1, none⟩ = some (.int .i64 a0_1) := (blk_cell BK190.out 1).trans rfl; have hcz27_2 : w26.cell? ⟨gb190, 2, none⟩ = some (.int .i64 a0_2) := (blk_cell BK190.out 2).trans rfl; have hcz27_3 : w26.cell? ⟨gb190, 3, none⟩ = some (.int .i64 a0_3) := (blk_cell BK190.out 3).trans rfl; have hfz27_0 := blk_frozen BK190.out 0; have hfz27_1 := blk_frozen BK190.out 1; have hfz27_2 := blk_frozen BK190.out 2; have hfz27_3 := blk_frozen BK190.out 3)); try go_wp2_with (first | (go_at_call 56; (with_reducible refine (spec_l05Joined.calls a0_0 a0_1 a0_2 a0_3 x6_2 x5_1 true _ A7.out).mono ?_); rintro e w26 ⟨rfl, hb⟩; have n0_ := Aside0.mk (blk_below (g := gb190) (o := .cells #[.int .i64 a0_0, .int .i64 a0_1, .int .i64 a0_2, .int .i64 a0_3] 46 (0, 0)) (by (with_reducible repeat (first | refine blk_drewN ?_ _ | refine blk_drew ?_ | refine blk_alloc ?_ _)); exact BK190.out) hb); have n1_ := Aside0.mk (below_step (by repeat (first | (with_reducible first | exact HB.out | apply below_alloc | apply pw_below_drewN | apply below_drew1 | refine below_set ?_ GE190.out) | exact HB.out)) hb); clear BK190; clear HB; have BK190 := n0_; have HB := n1_; clear n0_ n1_; (try clear hb); (try clear hb2); (try clear hk); (try clear hi); have hcz27_0 : w26.cell? ⟨gb190, 0, none⟩ = some (.int .i64 a0_0) := (blk_cell BK190.out 0).trans rfl; have hcz27_1 : w26.cell? ⟨gb190, 1, none⟩ = some (.int .i64 a0_1) := (blk_cell BK190.out 1).trans rfl; have hcz27_2 : w26.cell? ⟨gb190, 2, none⟩ = some (.int .i64 a0_2) := (blk_cell BK190.out 2).trans rfl; have hcz27_3 : w26.cell? ⟨gb190, 3, none⟩ = some (.int .i64 a0_3) := (blk_cell BK190.out 3).trans rfl; have hfz27_0 := blk_frozen BK190.out 0; have hfz27_1 := blk_frozen BK190.out 1; have hfz27_2 := blk_frozen BK190.out 2; have hfz27_3 := blk_frozen BK190.out 3)))
                          go_roundg k2
                          case measure => have := HK1.out; have := HK2.out; omega
                          case rel => exact ⟨(wrap64 (x6_2 + 1)), (by first | rfl | (simp; done) | (simp [*]; done)), H', ⟨by have := HK1.out; have := HK2.out; omega⟩, ⟨by (with_reducible repeat (first | refine blk_drewN ?_ _ | refine blk_drew ?_ | refine blk_alloc ?_ _)); exact BK190.out⟩, ⟨by repeat (first | (with_reducible first | exact HB.out | apply below_alloc | apply pw_below_drewN | apply below_drew1 | refine below_set ?_ GE190.out) | exact HB.out)⟩⟩
                      · rw [if_neg c20] at H
                        have c20b0 : decide (0 < (wrap64 ((Go.bits .and .i64 (ji16) 1) + (wrap64 (2 * (Go.bits .and .i64 (ji18) 1)))))) = false := decide_eq_false c20
                        clear c20
                        have H' := Aside0.mk H
                        clear H
                        have hcz28_0 : wr.cell? ⟨gb190, 0, none⟩ = some (.int .i64 a0_0) := (blk_cell BK190.out 0).trans rfl
                        have hcz28_1 : wr.cell? ⟨gb190, 1, none⟩ = some (.int .i64 a0_1) := (blk_cell BK190.out 1).trans rfl
                        have hcz28_2 : wr.cell? ⟨gb190, 2, none⟩ = some (.int .i64 a0_2) := (blk_cell BK190.out 2).trans rfl
                        have hcz28_3 : wr.cell? ⟨gb190, 3, none⟩ = some (.int .i64 a0_3) := (blk_cell BK190.out 3).trans rfl
                        have hfz28_0 := blk_frozen BK190.out 0
                        have hfz28_1 := blk_frozen BK190.out 1
                        have hfz28_2 := blk_frozen BK190.out 2
                        have hfz28_3 := blk_frozen BK190.out 3
                        go_wp2_with (first | (go_at_call 56; (with_reducible refine (spec_l05Joined.calls a0_0 a0_1 a0_2 a0_3 x6_2 x5_1 true _ A7.out).mono ?_); rintro e w29 ⟨rfl, hb⟩; have n0_ := Aside0.mk (blk_below (g := gb190) (o := .cells #[.int .i64 a0_0, .int .i64 a0_1, .int .i64 a0_2, .int .i64 a0_3] 46 (0, 0)) (by (with_reducible repeat (first | refine blk_drewN ?_ _ | refine blk_drew ?_ | refine blk_alloc ?_ _)); exact BK190.out) hb); have n1_ := Aside0.mk (below_step (by repeat (first | (with_reducible first | exact HB.out | apply below_alloc | apply pw_below_drewN | apply below_drew1 | refine below_set ?_ GE190.out) | exact HB.out)) hb); clear BK190; clear HB; have BK190 := n0_; have HB := n1_; clear n0_ n1_; (try clear hb); (try clear hb2); (try clear hk); (try clear hi); have hcz30_0 : w29.cell? ⟨gb190, 0, none⟩ = some (.int .i64 a0_0) := (blk_cell BK190.out 0).trans rfl; have hcz30_1 : w29.cell? ⟨gb190, 1, none⟩ = some (.int .i64 a0_1) := (blk_cell BK190.out 1).trans rfl; have hcz30_2 : w29.cell? ⟨gb190, 2, none⟩ = some (.int .i64 a0_2) := (blk_cell BK190.out 2).trans rfl; have hcz30_3 : w29.cell? ⟨gb190, 3, none⟩ = some (.int .i64 a0_3) := (blk_cell BK190.out 3).trans rfl; have hfz30_0 := blk_frozen BK190.out 0; have hfz30_1 := blk_frozen BK190.out 1; have hfz30_2 := blk_frozen BK190.out 2; have hfz30_3 := blk_frozen BK190.out 3))
                        repeat (go_quiet (first | (go_at_call 56; (with_reducible refine (spec_l05Joined.calls a0_0 a0_1 a0_2 a0_3 x6_2 x5_1 true _ A7.out).mono ?_); rintro e w29 ⟨rfl, hb⟩; have n0_ := Aside0.mk (blk_below (g := gb190) (o := .cells #[.int .i64 a0_0, .int .i64 a0_1, .int .i64 a0_2, .int .i64 a0_3] 46 (0, 0)) (by (with_reducible repeat (first | refine blk_drewN ?_ _ | refine blk_drew ?_ | refine blk_alloc ?_ _)); exact BK190.out) hb); have n1_ := Aside0.mk (below_step (by repeat (first | (with_reducible first | exact HB.out | apply below_alloc | apply pw_below_drewN | apply below_drew1 | refine below_set ?_ GE190.out) | exact HB.out)) hb); clear BK190; clear HB; have BK190 := n0_; have HB := n1_; clear n0_ n1_; (try clear hb); (try clear hb2); (try clear hk); (try clear hi); have hcz30_0 : w29.cell? ⟨gb190, 0, none⟩ = some (.int .i64 a0_0) := (blk_cell BK190.out 0).trans rfl; have hcz30_1 : w29.cell? ⟨gb190, 1, none⟩ = some (.int .i64 a0_1) := (blk_cell BK190.out 1).trans rfl; have hcz30_2 : w29.cell? ⟨gb190, 2, none⟩ = some (.int .i64 a0_2) := (blk_cell BK190.out 2).trans rfl; have hcz30_3 : w29.cell? ⟨gb190, 3, none⟩ = some (.int .i64 a0_3) := (blk_cell BK190.out 3).trans rfl; have hfz30_0 := blk_frozen BK190.out 0; have hfz30_1 := blk_frozen BK190.out 1; have hfz30_2 := blk_frozen BK190.out 2; have hfz30_3 := blk_frozen BK190.out 3)); try go_wp2_with (first | (go_at_call 56; (with_reducible refine (spec_l05Joined.calls a0_0 a0_1 a0_2 a0_3 x6_2 x5_1 true _ A7.out).mono ?_); rintro e w29 ⟨rfl, hb⟩; have n0_ := Aside0.mk (blk_below (g := gb190) (o := .cells #[.int .i64 a0_0, .int .i64 a0_1, .int .i64 a0_2, .int .i64 a0_3] 46 (0, 0)) (by (with_reducible repeat (first | refine blk_drewN ?_ _ | refine blk_drew ?_ | refine blk_alloc ?_ _)); exact BK190.out) hb); have n1_ := Aside0.mk (below_step (by repeat (first | (with_reducible first | exact HB.out | apply below_alloc | apply pw_below_drewN | apply below_drew1 | refine below_set ?_ GE190.out) | exact HB.out)) hb); clear BK190; clear HB; have BK190 := n0_; have HB := n1_; clear n0_ n1_; (try clear hb); (try clear hb2); (try clear hk); (try clear hi); have hcz30_0 : w29.cell? ⟨gb190, 0, none⟩ = some (.int .i64 a0_0) := (blk_cell BK190.out 0).trans rfl; have hcz30_1 : w29.cell? ⟨gb190, 1, none⟩ = some (.int .i64 a0_1) := (blk_cell BK190.out 1).trans rfl; have hcz30_2 : w29.cell? ⟨gb190, 2, none⟩ = some (.int .i64 a0_2) := (blk_cell BK190.out 2).trans rfl; have hcz30_3 : w29.cell? ⟨gb190, 3, none⟩ = some (.int .i64 a0_3) := (blk_cell BK190.out 3).trans rfl; have hfz30_0 := blk_frozen BK190.out 0; have hfz30_1 := blk_frozen BK190.out 1; have hfz30_2 := blk_frozen BK190.out 2; have hfz30_3 := blk_frozen BK190.out 3)))
                        go_roundg k2
                        case measure => have := HK1.out; have := HK2.out; omega
                        case rel => exact ⟨(wrap64 (x6_2 + 1)), (by first | rfl | (simp; done) | (simp [*]; done)), H', ⟨by have := HK1.out; have := HK2.out; omega⟩, ⟨by (with_reducible repeat (first | refine blk_drewN ?_ _ | refine blk_drew ?_ | refine blk_alloc ?_ _)); exact BK190.out⟩, ⟨by repeat (first | (with_reducible first | exact HB.out | apply below_alloc | apply pw_below_drewN | apply below_drew1 | refine below_set ?_ GE190.out) | exact HB.out)⟩⟩
                    · rw [if_neg c19] at H
                      have c19b0 : decide (0 < (wrap64 ((Go.bits .and .i64 (ji11) 1) + (wrap64 (2 * (Go.bits .and .i64 (ji13) 1)))))) = false := decide_eq_false c19
                      clear c19
                      have H' := Aside0.mk H
                      clear H
                      have hcz31_0 : wr.cell? ⟨gb190, 0, none⟩ = some (.int .i64 a0_0) := (blk_cell BK190.out 0).trans rfl
                      have hcz31_1 : wr.cell? ⟨gb190, 1, none⟩ = some (.int .i64 a0_1) := (blk_cell BK190.out 1).trans rfl
                      have hcz31_2 : wr.cell? ⟨gb190, 2, none⟩ = some (.int .i64 a0_2) := (blk_cell BK190.out 2).trans rfl
                      have hcz31_3 : wr.cell? ⟨gb190, 3, none⟩ = some (.int .i64 a0_3) := (blk_cell BK190.out 3).trans rfl
                      have hfz31_0 := blk_frozen BK190.out 0
                      have hfz31_1 := blk_frozen BK190.out 1
                      have hfz31_2 := blk_frozen BK190.out 2
                      have hfz31_3 := blk_frozen BK190.out 3
                      go_wp2_with (first | (go_at_call 56; (with_reducible refine (spec_l05Joined.calls a0_0 a0_1 a0_2 a0_3 x6_2 x5_1 true _ A7.out).mono ?_); rintro e w32 ⟨rfl, hb⟩; have n0_ := Aside0.mk (blk_below (g := gb190) (o := .cells #[.int .i64 a0_0, .int .i64 a0_1, .int .i64 a0_2, .int .i64 a0_3] 46 (0, 0)) (by (with_reducible repeat (first | refine blk_drewN ?_ _ | refine blk_drew ?_ | refine blk_alloc ?_ _)); exact BK190.out) hb); have n1_ := Aside0.mk (below_step (by repeat (first | (with_reducible first | exact HB.out | apply below_alloc | apply pw_below_drewN | apply below_drew1 | refine below_set ?_ GE190.out) | exact HB.out)) hb); clear BK190; clear HB; have BK190 := n0_; have HB := n1_; clear n0_ n1_; (try clear hb); (try clear hb2); (try clear hk); (try clear hi); have hcz33_0 : w32.cell? ⟨gb190, 0, none⟩ = some (.int .i64 a0_0) := (blk_cell BK190.out 0).trans rfl; have hcz33_1 : w32.cell? ⟨gb190, 1, none⟩ = some (.int .i64 a0_1) := (blk_cell BK190.out 1).trans rfl; have hcz33_2 : w32.cell? ⟨gb190, 2, none⟩ = some (.int .i64 a0_2) := (blk_cell BK190.out 2).trans rfl; have hcz33_3 : w32.cell? ⟨gb190, 3, none⟩ = some (.int .i64 a0_3) := (blk_cell BK190.out 3).trans rfl; have hfz33_0 := blk_frozen BK190.out 0; have hfz33_1 := blk_frozen BK190.out 1; have hfz33_2 := blk_frozen BK190.out 2; have hfz33_3 := blk_frozen BK190.out 3))
                      repeat (go_quiet (first | (go_at_call 56; (with_reducible refine (spec_l05Joined.calls a0_0 a0_1 a0_2 a0_3 x6_2 x5_1 true _ A7.out).mono ?_); rintro e w32 ⟨rfl, hb⟩; have n0_ := Aside0.mk (blk_below (g := gb190) (o := .cells #[.int .i64 a0_0, .int .i64 a0_1, .int .i64 a0_2, .int .i64 a0_3] 46 (0, 0)) (by (with_reducible repeat (first | refine blk_drewN ?_ _ | refine blk_drew ?_ | refine blk_alloc ?_ _)); exact BK190.out) hb); have n1_ := Aside0.mk (below_step (by repeat (first | (with_reducible first | exact HB.out | apply below_alloc | apply pw_below_drewN | apply below_drew1 | refine below_set ?_ GE190.out) | exact HB.out)) hb); clear BK190; clear HB; have BK190 := n0_; have HB := n1_; clear n0_ n1_; (try clear hb); (try clear hb2); (try clear hk); (try clear hi); have hcz33_0 : w32.cell? ⟨gb190, 0, none⟩ = some (.int .i64 a0_0) := (blk_cell BK190.out 0).trans rfl; have hcz33_1 : w32.cell? ⟨gb190, 1, none⟩ = some (.int .i64 a0_1) := (blk_cell BK190.out 1).trans rfl; have hcz33_2 : w32.cell? ⟨gb190, 2, none⟩ = some (.int .i64 a0_2) := (blk_cell BK190.out 2).trans rfl; have hcz33_3 : w32.cell? ⟨gb190, 3, none⟩ = some (.int .i64 a0_3) := (blk_cell BK190.out 3).trans rfl; have hfz33_0 := blk_frozen BK190.out 0; have hfz33_1 := blk_frozen BK190.out 1; have hfz33_2 := blk_frozen BK190.out 2; have hfz33_3 := blk_frozen BK190.out 3)); try go_wp2_with (first | (go_at_call 56; (with_reducible refine (spec_l05Joined.calls a0_0 a0_1 a0_2 a0_3 x6_2 x5_1 true _ A7.out).mono ?_); rintro e w32 ⟨rfl, hb⟩; have n0_ := Aside0.mk (blk_below (g := gb190) (o := .cells #[.int .i64 a0_0, .int .i64 a0_1, .int .i64 a0_2, .int .i64 a0_3] 46 (0, 0)) (by (with_reducible repeat (first | refine blk_drewN ?_ _ | refine blk_drew ?_ | refine blk_alloc ?_ _)); exact BK190.out) hb); have n1_ := Aside0.mk (below_step (by repeat (first | (with_reducible first | exact HB.out | apply below_alloc | apply pw_below_drewN | apply below_drew1 | refine below_set ?_ GE190.out) | exact HB.out)) hb); clear BK190; clear HB; have BK190 := n0_; have HB := n1_; clear n0_ n1_; (try clear hb); (try clear hb2); (try clear hk); (try clear hi); have hcz33_0 : w32.cell? ⟨gb190, 0, none⟩ = some (.int .i64 a0_0) := (blk_cell BK190.out 0).trans rfl; have hcz33_1 : w32.cell? ⟨gb190, 1, none⟩ = some (.int .i64 a0_1) := (blk_cell BK190.out 1).trans rfl; have hcz33_2 : w32.cell? ⟨gb190, 2, none⟩ = some (.int .i64 a0_2) := (blk_cell BK190.out 2).trans rfl; have hcz33_3 : w32.cell? ⟨gb190, 3, none⟩ = some (.int .i64 a0_3) := (blk_cell BK190.out 3).trans rfl; have hfz33_0 := blk_frozen BK190.out 0; have hfz33_1 := blk_frozen BK190.out 1; have hfz33_2 := blk_frozen BK190.out 2; have hfz33_3 := blk_frozen BK190.out 3)))
                      go_roundg k2
                      case measure => have := HK1.out; have := HK2.out; omega
                      case rel => exact ⟨(wrap64 (x6_2 + 1)), (by first | rfl | (simp; done) | (simp [*]; done)), H', ⟨by have := HK1.out; have := HK2.out; omega⟩, ⟨by (with_reducible repeat (first | refine blk_drewN ?_ _ | refine blk_drew ?_ | refine blk_alloc ?_ _)); exact BK190.out⟩, ⟨by repeat (first | (with_reducible first | exact HB.out | apply below_alloc | apply pw_below_drewN | apply below_drew1 | refine below_set ?_ GE190.out) | exact HB.out)⟩⟩
                  · rw [if_neg c15] at H
                    exact absurd H (by simp)
                · rw [if_neg c10] at H
                  exact absurd H (by simp)
              · replace c8 := Bool.eq_false_iff.mpr c8
                subst c8
                have H1 : (spec_l05Fair.l1 k2 a1 x5_1 (wrap64 (x6_2 + 1)) a0_0 a0_1 a0_2 a0_3) = some r := by rw [if_neg (show ¬ (false = true) by decide)] at H; exact H
                clear H
                have H := H1
                clear H1
                have H' := Aside0.mk H
                clear H
                have hcz34_0 : wr.cell? ⟨gb190, 0, none⟩ = some (.int .i64 a0_0) := (blk_cell BK190.out 0).trans rfl
                have hcz34_1 : wr.cell? ⟨gb190, 1, none⟩ = some (.int .i64 a0_1) := (blk_cell BK190.out 1).trans rfl
                have hcz34_2 : wr.cell? ⟨gb190, 2, none⟩ = some (.int .i64 a0_2) := (blk_cell BK190.out 2).trans rfl
                have hcz34_3 : wr.cell? ⟨gb190, 3, none⟩ = some (.int .i64 a0_3) := (blk_cell BK190.out 3).trans rfl
                have hfz34_0 := blk_frozen BK190.out 0
                have hfz34_1 := blk_frozen BK190.out 1
                have hfz34_2 := blk_frozen BK190.out 2
                have hfz34_3 := blk_frozen BK190.out 3
                go_wp2_with (first | (go_at_call 56; (with_reducible refine (spec_l05Joined.calls a0_0 a0_1 a0_2 a0_3 x6_2 x5_1 false _ A7.out).mono ?_); rintro e w35 ⟨rfl, hb⟩; have n0_ := Aside0.mk (blk_below (g := gb190) (o := .cells #[.int .i64 a0_0, .int .i64 a0_1, .int .i64 a0_2, .int .i64 a0_3] 46 (0, 0)) (by (with_reducible repeat (first | refine blk_drewN ?_ _ | refine blk_drew ?_ | refine blk_alloc ?_ _)); exact BK190.out) hb); have n1_ := Aside0.mk (below_step (by repeat (first | (with_reducible first | exact HB.out | apply below_alloc | apply pw_below_drewN | apply below_drew1 | refine below_set ?_ GE190.out) | exact HB.out)) hb); clear BK190; clear HB; have BK190 := n0_; have HB := n1_; clear n0_ n1_; (try clear hb); (try clear hb2); (try clear hk); (try clear hi)))
                repeat (go_quiet (first | (go_at_call 56; (with_reducible refine (spec_l05Joined.calls a0_0 a0_1 a0_2 a0_3 x6_2 x5_1 false _ A7.out).mono ?_); rintro e w35 ⟨rfl, hb⟩; have n0_ := Aside0.mk (blk_below (g := gb190) (o := .cells #[.int .i64 a0_0, .int .i64 a0_1, .int .i64 a0_2, .int .i64 a0_3] 46 (0, 0)) (by (with_reducible repeat (first | refine blk_drewN ?_ _ | refine blk_drew ?_ | refine blk_alloc ?_ _)); exact BK190.out) hb); have n1_ := Aside0.mk (below_step (by repeat (first | (with_reducible first | exact HB.out | apply below_alloc | apply pw_below_drewN | apply below_drew1 | refine below_set ?_ GE190.out) | exact HB.out)) hb); clear BK190; clear HB; have BK190 := n0_; have HB := n1_; clear n0_ n1_; (try clear hb); (try clear hb2); (try clear hk); (try clear hi))); try go_wp2_with (first | (go_at_call 56; (with_reducible refine (spec_l05Joined.calls a0_0 a0_1 a0_2 a0_3 x6_2 x5_1 false _ A7.out).mono ?_); rintro e w35 ⟨rfl, hb⟩; have n0_ := Aside0.mk (blk_below (g := gb190) (o := .cells #[.int .i64 a0_0, .int .i64 a0_1, .int .i64 a0_2, .int .i64 a0_3] 46 (0, 0)) (by (with_reducible repeat (first | refine blk_drewN ?_ _ | refine blk_drew ?_ | refine blk_alloc ?_ _)); exact BK190.out) hb); have n1_ := Aside0.mk (below_step (by repeat (first | (with_reducible first | exact HB.out | apply below_alloc | apply pw_below_drewN | apply below_drew1 | refine below_set ?_ GE190.out) | exact HB.out)) hb); clear BK190; clear HB; have BK190 := n0_; have HB := n1_; clear n0_ n1_; (try clear hb); (try clear hb2); (try clear hk); (try clear hi))))
                go_roundg k2
                case measure => have := HK1.out; have := HK2.out; omega
                case rel => exact ⟨(wrap64 (x6_2 + 1)), (by first | rfl | (simp; done) | (simp [*]; done)), H', ⟨by have := HK1.out; have := HK2.out; omega⟩, ⟨by (with_reducible repeat (first | refine blk_drewN ?_ _ | refine blk_drew ?_ | refine blk_alloc ?_ _)); exact BK190.out⟩, ⟨by repeat (first | (with_reducible first | exact HB.out | apply below_alloc | apply pw_below_drewN | apply below_drew1 | refine below_set ?_ GE190.out) | exact HB.out)⟩⟩
            · rw [if_neg c6] at H
              have c6b0 : decide (x6_2 < x5_1) = false := decide_eq_false c6
              clear c6
              have H' := Aside0.mk H
              clear H
              go_wp2
              repeat (go_quiet (fail); try go_wp2)
              go_roundg k2
              case measure => have := HK1.out; have := HK2.out; omega
              case rel => exact ⟨(wrap64 (x5_1 + 1)), (by first | rfl | (simp; done) | (simp [*]; done)), H', ⟨by have := HK1.out; have := HK2.out; omega⟩, ⟨by (with_reducible repeat (first | refine blk_drewN ?_ _ | refine blk_drew ?_ | refine blk_alloc ?_ _)); exact BK190.out⟩, ⟨by repeat (first | (with_reducible first | exact HB.out | apply below_alloc | apply pw_below_drewN | apply below_drew1 | refine below_set ?_ GE190.out) | exact HB.out)⟩⟩
      · rw [if_neg c4] at H
        have c4b0 : decide (x5_1 < a0_0) = false := decide_eq_false c4
        clear c4
        obtain rfl := Option.some.inj H
        have hcz36_0 : wr.cell? ⟨gb190, 0, none⟩ = some (.int .i64 a0_0) := (blk_cell BK190.out 0).trans rfl
        have hcz36_1 : wr.cell? ⟨gb190, 1, none⟩ = some (.int .i64 a0_1) := (blk_cell BK190.out 1).trans rfl
        have hcz36_2 : wr.cell? ⟨gb190, 2, none⟩ = some (.int .i64 a0_2) := (blk_cell BK190.out 2).trans rfl
        have hcz36_3 : wr.cell? ⟨gb190, 3, none⟩ = some (.int .i64 a0_3) := (blk_cell BK190.out 3).trans rfl
        have hfz36_0 := blk_frozen BK190.out 0
        have hfz36_1 := blk_frozen BK190.out 1
        have hfz36_2 := blk_frozen BK190.out 2
        have hfz36_3 := blk_frozen BK190.out 3
        go_wp2
        repeat (go_quiet (fail); try go_wp2)
        go_ret
        exact ⟨by first | rfl | (simp [errW_none, errW_some] <;> rfl) | (simp [*, errW_none, errW_some] <;> rfl), by repeat (first | (with_reducible first | exact HB.out | apply below_alloc | apply pw_below_drewN | apply below_drew1 | refine below_set ?_ GE190.out) | exact HB.out)⟩

end Go.Proofs.Ytbnkefbcnojdgaa.PX
