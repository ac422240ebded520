/- Part 5 of the texts under the row of FnExactParseBoxes (no condition). -/
import Derived.Lib.OthersKept
import Derived.Lib.SplitLaws
import Derived.Laws.Strings
import Derived.Test.YtfcafnnpejngiaaDoorPk4FnExactParseBoxes
/- impl.ParseBoxes, a contract: the loop goes over the runes of a string, from one rune's first byte to the next one's (condition: what the reading functions ask of the variables). -/
namespace Go.Proofs.YtfcafnnpejngiaaDoor.PX
open Go.RowKit Go.Proofs.YtfcafnnpejngiaaDoorW.PrintWords Go.Proofs.YtfcafnnpejngiaaDoorW.PrintLast Go.Proofs.YtfcafnnpejngiaaDoorW.PrintMore
attribute [local go_sem] max2_int min2_int max_two min_two max_three min_three max_four min_four
set_option linter.unusedVariables false
set_option linter.unusedSimpArgs false
/-- The place of the next rune. -/
def rnext (s : ByteArray) (i : Int) : Int := ((i.toNat + (Utf8.decode s i.toNat).2 : Nat) : Int)
theorem iter_other (w : World) {k g : Nat} (s : ByteArray) (p : Nat) (h : g ≠ k) : (w.iterAt k s p).heap[g]? = w.heap[g]? := by
  unfold World.iterAt
  rw [Array.getElem?_setIfInBounds]
  rw [if_neg (fun e => h e.symm)]
/-! ### impl_ParseBoxes: function 11 -/
mutual
def impl_ParseBoxes.j0 : Nat → ByteArray → ByteArray → List Int → Bool → Option (Int × Int × Int × Int)
  | 0, _, _, _, _ => none
  | k + 1, x0, x5, x7, x35 => if x35 = true then (some (0, 0, 0, 6)) else (if 0 < (x7.length : Int) then (if 1 < (x7.length : Int) then (impl_ParseBoxes.l0 k x0 x5 (x5.size : Int) 0 (rd x7 0) (rd x7 1) 0) else (none)) else (none))
def impl_ParseBoxes.l0 : Nat → ByteArray → ByteArray → Int → Int → Int → Int → Int → Option (Int × Int × Int × Int)
  | 0, _, _, _, _, _, _, _ => none
  | k + 1, x0, x5, x45, x48, x187000, x187001, x187002 => if x48 < x45 then (if 0 ≤ x48 then (if x48 < (x5.size : Int) then (if (bt x5 x48) = 49 then (impl_ParseBoxes.l0 k x0 x5 x45 (rnext x5 x48) x187000 x187001 (Go.bits .or .i64 x187002 (shl .i64 1 x48))) else (impl_ParseBoxes.l0 k x0 x5 x45 (rnext x5 x48) x187000 x187001 x187002)) else (none)) else (none)) else ((impl_BoxesText.f k x187000 x187001 x187002).bind fun bt187 => (if bt187.2 = 0 then (if bt187.1.toList = x0.toList then (some (x187000, x187001, x187002, 0)) else (some (0, 0, 0, 6))) else (some (0, 0, 0, 6))))
end
def impl_ParseBoxes.f (k : Nat) (a0 : ByteArray) : Option (Int × Int × Int × Int) := (strings_Cut.f a0 (⟨#[58]⟩ : ByteArray)).bind fun bt177 => ((impl_numbersOf.f k bt177.1 (⟨#[120]⟩ : ByteArray) 3).bind fun bt180 => (if bt180.2 = true then (if (bt180.1.length : Int) = 2 then (impl_ParseBoxes.j0 k a0 bt177.2.1 bt180.1 (decide ((bt177.2.1.size : Int) > 24))) else (impl_ParseBoxes.j0 k a0 bt177.2.1 bt180.1 true)) else (impl_ParseBoxes.j0 k a0 bt177.2.1 bt180.1 true)))
theorem impl_ParseBoxes.mono_l : ∀ k, (∀ y0 y1 y2 y3, LeO (impl_ParseBoxes.j0 k y0 y1 y2 y3) (impl_ParseBoxes.j0 (k + 1) y0 y1 y2 y3)) ∧ (∀ y0 y1 y2 y3 y4 y5 y6, LeO (impl_ParseBoxes.l0 k y0 y1 y2 y3 y4 y5 y6) (impl_ParseBoxes.l0 (k + 1) y0 y1 y2 y3 y4 y5 y6))
  | 0 => ⟨fun _ _ _ _ r h => by simp [impl_ParseBoxes.j0] at h, fun _ _ _ _ _ _ _ r h => by simp [impl_ParseBoxes.l0] at h⟩
  | k + 1 => by
    obtain ⟨ih0, ih1⟩ := impl_ParseBoxes.mono_l k
    refine ⟨?_, ?_⟩
    · intro y0 y1 y2 y3
      unfold impl_ParseBoxes.j0
      repeat' first
      | (with_reducible exact ih0 _ _ _ _)
      | (with_reducible exact ih1 _ _ _ _ _ _ _)
      | (with_reducible exact impl_BoxesText.mono _ _ _ _)
      | (with_reducible exact impl_numbersOf.mono _ _ _ _)
      | (with_reducible exact LeO.refl _)
      | (with_reducible exact LeO.none _)
      | (with_reducible refine LeO.ite ?_ ?_)
      | (with_reducible refine LeO.bind ?_ (fun _ => ?_))
      | exact ih0 _ _ _ _
      | exact ih1 _ _ _ _ _ _ _
      | exact impl_BoxesText.mono _ _ _ _
      | exact impl_numbersOf.mono _ _ _ _
      | exact LeO.none _
      | refine LeO.ite ?_ ?_
      | refine LeO.bind ?_ (fun _ => ?_)
    · intro y0 y1 y2 y3 y4 y5 y6
      unfold impl_ParseBoxes.l0
      repeat' first
      | (with_reducible exact ih0 _ _ _ _)
      | (with_reducible exact ih1 _ _ _ _ _ _ _)
      | (with_reducible exact impl_BoxesText.mono _ _ _ _)
      | (with_reducible exact impl_numbersOf.mono _ _ _ _)
      | (with_reducible exact LeO.refl _)
      | (with_reducible exact LeO.none _)
      | (with_reducible refine LeO.ite ?_ ?_)
      | (with_reducible refine LeO.bind ?_ (fun _ => ?_))
      | exact ih0 _ _ _ _
      | exact ih1 _ _ _ _ _ _ _
      | exact impl_BoxesText.mono _ _ _ _
      | exact impl_numbersOf.mono _ _ _ _
      | exact LeO.none _
      | refine LeO.ite ?_ ?_
      | refine LeO.bind ?_ (fun _ => ?_)
theorem impl_ParseBoxes.mono : ∀ a0 k, LeO (impl_ParseBoxes.f k a0) (impl_ParseBoxes.f (k + 1) a0) := by
  intro a0 k
  obtain ⟨ih0, ih1⟩ := impl_ParseBoxes.mono_l k
  unfold impl_ParseBoxes.f
  repeat' first
      | (with_reducible exact ih0 _ _ _ _)
      | (with_reducible exact ih1 _ _ _ _ _ _ _)
      | (with_reducible exact impl_BoxesText.mono _ _ _ _)
      | (with_reducible exact impl_numbersOf.mono _ _ _ _)
      | (with_reducible exact LeO.refl _)
      | (with_reducible exact LeO.none _)
      | (with_reducible refine LeO.ite ?_ ?_)
      | (with_reducible refine LeO.bind ?_ (fun _ => ?_))
      | exact ih0 _ _ _ _
      | exact ih1 _ _ _ _ _ _ _
      | exact impl_BoxesText.mono _ _ _ _
      | exact impl_numbersOf.mono _ _ _ _
      | exact LeO.none _
      | refine LeO.ite ?_ ?_
      | refine LeO.bind ?_ (fun _ => ?_)
def impl_ParseBoxes.T5 : Bool × List (List Nat × List Nat) := (true, [([], []), ([0], [0]), ([1], [1]), ([], []), ([3], [3]), ([4], [4]), ([2, 5], [2, 5]), ([], []), ([7, 6, 0, 1, 2, 3, 4, 5, 6, 7], [6, 7])])
def impl_ParseBoxes.B5 : List Nat := [0, 1, 3, 0, 8, 24, 63, 0, 255]
theorem impl_ParseBoxes.tab5 : rtab .any (opsOf Tryd.f11 5) = impl_ParseBoxes.T5 := by kernel_rfl
theorem impl_ParseBoxes.bits5 : waitsOk impl_ParseBoxes.T5.2 impl_ParseBoxes.B5 = true := by kernel_rfl
set_option maxHeartbeats 8000000 in
set_option maxRecDepth 100000 in
theorem impl_ParseBoxes.calls (k : Nat) (a0 : ByteArray) (r1 : Int) (r2 : Int) (r3 : Int) (r4 : Int) (w : World) (h : impl_ParseBoxes.f k a0 = some (r1, r2, r3, r4)) (hG : Good w) :
    Calls Tryd.prog 11 #[.string a0] w fun e w' => e = .returned (.tuple #[.agg #[.int .i64 r1, .int .i64 r2, .int .i64 r3], .int .i64 r4]) ∧ Below w.heap.size w w' := by
  have HG := Aside0.mk hG
  clear hG
  have hu31 := Tryd.underlying31
  have HB := Aside0.mk (Below.refl w.heap.size w)
  have H : ((strings_Cut.f a0 (⟨#[58]⟩ : ByteArray)).bind fun bt177 => ((impl_numbersOf.f k bt177.1 (⟨#[120]⟩ : ByteArray) 3).bind fun bt180 => (if bt180.2 = true then (if (bt180.1.length : Int) = 2 then (impl_ParseBoxes.j0 k a0 bt177.2.1 bt180.1 (decide ((bt177.2.1.size : Int) > 24))) else (impl_ParseBoxes.j0 k a0 bt177.2.1 bt180.1 true)) else (impl_ParseBoxes.j0 k a0 bt177.2.1 bt180.1 true)))) = some (r1, r2, r3, r4) := h
  clear h
  replace H := Option.bind_eq_some_iff.mp H
  obtain ⟨⟨t177, t178, t179⟩, A20, H⟩ := H
  replace H : ((impl_numbersOf.f k t177 (⟨#[120]⟩ : ByteArray) 3).bind fun bt180 => (if bt180.2 = true then (if (bt180.1.length : Int) = 2 then (impl_ParseBoxes.j0 k a0 t178 bt180.1 (decide ((t178.size : Int) > 24))) else (impl_ParseBoxes.j0 k a0 t178 bt180.1 true)) else (impl_ParseBoxes.j0 k a0 t178 bt180.1 true))) = some (r1, r2, r3, r4) := H
  have A2 := Aside0.mk A20
  clear A20
  replace H := Option.bind_eq_some_iff.mp H
  obtain ⟨⟨t180, t181⟩, A30, H⟩ := H
  replace H : (if t181 = true then (if (t180.length : Int) = 2 then (impl_ParseBoxes.j0 k a0 t178 t180 (decide ((t178.size : Int) > 24))) else (impl_ParseBoxes.j0 k a0 t178 t180 true)) else (impl_ParseBoxes.j0 k a0 t178 t180 true)) = some (r1, r2, r3, r4) := H
  have A3 := Aside0.mk A30
  clear A30
  have HC4 := Aside0.mk H
  clear H
  go_enter Tryd.func11, Tryd.ntmps11
  go_upto_region 3 with (first | ((with_reducible refine gate_dst (N := 2) rfl ?_); (try (refine gate_guard (by rfl) ?_; dsimp only)); refine box_event ?hg (N := 2) ?hd (cs := #[.int .i64 0, .int .i64 0, .int .i64 0]) (t := 31) ?hr ?_; (case hd => rfl); (case hg => rfl); (case hr => first | (go_simp; done) | (go_simp; rfl)); intro gb176 hg w5 hbox hb; have n0_ := Aside0.mk (below_step (by repeat (first | (with_reducible first | exact HB.out | apply below_alloc | apply pw_below_drewN | apply below_drew1) | exact HB.out)) hb); have n1_ := Aside0.mk (hbox); have n2_ := Aside0.mk ((by rw [hg]; exact (below_size (by repeat (first | (with_reducible first | exact HB.out | apply below_alloc | apply pw_below_drewN | apply below_drew1) | exact HB.out))) : w.heap.size ≤ gb176)); have n3_ := Aside0.mk ((by rw [hg]; exact (below_size (by repeat (first | (with_reducible first | exact HB.out | apply below_alloc | apply pw_below_drewN | apply below_drew1) | exact HB.out))) : w.heap.size ≤ gb176)); clear HB; have HB := n0_; have BK176 := n1_; have GW176 := n2_; have GE176 := n3_; clear n0_ n1_ n2_ n3_; clear hb hbox hg) | ((with_reducible refine gate_callee (f := 22) rfl ?_); refine goesL_ (some 15) rfl rfl Tryd.func22 (by kernel_rfl) rfl #[.string a0, .string (⟨#[58]⟩ : ByteArray)] rfl (by (try simp only [List.map_toArray, List.map_cons, List.map_nil]); first | done | rfl | (simp only [List.length_drop, List.length_take]; rfl)) ?_; (with_reducible refine (strings_Cut.calls a0 (⟨#[58]⟩ : ByteArray) t177 t178 t179 _ A2.out (HG.out.below (by repeat (first | (with_reducible first | exact HB.out | apply below_alloc | apply pw_below_drewN | apply below_drew1 | refine below_set ?_ GE176.out | refine below_set ?_ GE186.out) | exact HB.out)))).mono ?_); rintro e w6 ⟨rfl, hb⟩; refine ⟨_, rfl, ?_⟩; have n0_ := Aside0.mk (blk_below (g := gb176) (o := .cells #[.int .i64 0, .int .i64 0, .int .i64 0] 31 (0, 0)) (by (with_reducible repeat (first | refine blk_drewN ?_ _ | refine blk_drew ?_ | refine blk_alloc ?_ _)); exact BK176.out) hb); have n1_ := Aside0.mk (below_step (by repeat (first | (with_reducible first | exact HB.out | apply below_alloc | apply pw_below_drewN | apply below_drew1 | refine below_set ?_ GE176.out) | exact HB.out)) hb); clear BK176; clear HB; have BK176 := n0_; have HB := n1_; clear n0_ n1_; (try clear hb); (try clear hb2); (try clear hk); (try clear hi)) | ((with_reducible refine gate_callee (f := 23) rfl ?_); refine goesL_ (some 21) rfl rfl Tryd.func23 (by kernel_rfl) rfl #[.string t177, .string (⟨#[120]⟩ : ByteArray), .int .i64 3] rfl (by (try simp only [List.map_toArray, List.map_cons, List.map_nil]); first | done | rfl | (simp only [List.length_drop, List.length_take]; rfl)) ?_; (with_reducible refine (impl_numbersOf.calls k t177 (⟨#[120]⟩ : ByteArray) 3 t180 t181 _ A3.out (HG.out.below (by repeat (first | (with_reducible first | exact HB.out | apply below_alloc | apply pw_below_drewN | apply below_drew1 | refine below_set ?_ GE176.out | refine below_set ?_ GE186.out) | exact HB.out)))).mono ?_); rintro e w7 ⟨v182, rfl, ho0, hb⟩; refine ⟨_, rfl, ?_⟩; have n0_ := Aside0.mk (Kd.R_lower ho0 (below_size (by repeat (first | (with_reducible first | exact HB.out | apply below_alloc | apply pw_below_drewN | apply below_drew1 | refine below_set ?_ GE176.out) | exact HB.out)))); have n1_ := Aside0.mk (blk_below (g := gb176) (o := .cells #[.int .i64 0, .int .i64 0, .int .i64 0] 31 (0, 0)) (by (with_reducible repeat (first | refine blk_drewN ?_ _ | refine blk_drew ?_ | refine blk_alloc ?_ _)); exact BK176.out) hb); have n2_ := Aside0.mk (below_step (by repeat (first | (with_reducible first | exact HB.out | apply below_alloc | apply pw_below_drewN | apply below_drew1 | refine below_set ?_ GE176.out) | exact HB.out)) hb); clear BK176; clear HB; have HO183 := n0_; have BK176 := n1_; have HB := n2_; clear n0_ n1_ n2_; (try clear hb); (try clear hb2); (try clear hk); (try clear hi); (try clear ho0)))
  (try simp only [Act.put, List.setIfInBounds_toArray, List.set_cons_zero, List.set_cons_succ])
  go_cut [35] (fun v35 wc => ∃ (kq : Nat) (x35_3 : Bool), v35 = .bool x35_3 ∧ Aside0 (impl_ParseBoxes.j0 kq a0 t178 t180 x35_3 = some (r1, r2, r3, r4)) ∧ Aside0 (kq ≤ k) ∧ Aside0 (Kd.R (Kd.int .i64) 2 wc w.heap.size (fun _ => True) v182 t180) ∧ Aside0 (wc.heap[gb176]? = some (.cells #[.int .i64 0, .int .i64 0, .int .i64 0] 31 (0, 0))) ∧ Aside0 (Below w.heap.size w wc))
  case first =>
    have H := HC4.out
    clear HC4
    by_cases c8 : t181 = true
    · subst c8
      have H1 : (if (t180.length : Int) = 2 then (impl_ParseBoxes.j0 k a0 t178 t180 (decide ((t178.size : Int) > 24))) else (impl_ParseBoxes.j0 k a0 t178 t180 true)) = some (r1, r2, r3, r4) := by rw [if_pos rfl] at H; exact H
      clear H
      have H := H1
      clear H1
      by_cases c9 : (t180.length : Int) = 2
      · rw [if_pos c9] at H
        have c9b0 : ((t180.length : Int) == 2) = true := beq_iff_eq.mpr c9
        have c9b1 : ((t180.length : Int) != 2) = false := bne_eq_false_iff_eq.mpr c9
        clear c9
        (first | rw [c9b0] | (simp only [i64_w, i32_w]; rw [c9b0]) | skip)
        have H' := Aside0.mk H
        clear H
        obtain ⟨Ao10, co10, eo10⟩ := Kd.R_slice HO183.out
        subst eo10
        go_wp2
        go_meet
        case rel => exact ⟨_, (decide ((t178.size : Int) > 24)), (by first | rfl | (simp; done) | (simp [*]; done)), H', ⟨by first | omega | exact Nat.le_refl _⟩, ⟨by (with_reducible repeat (first | apply Kd.R_alloc | apply Kd.R_drewN | apply Kd.R_drew)); exact HO183.out⟩, ⟨by (with_reducible repeat (first | refine blk_drewN ?_ _ | refine blk_drew ?_ | refine blk_alloc ?_ _)); exact BK176.out⟩, ⟨by repeat (first | (with_reducible first | exact HB.out | apply below_alloc | apply pw_below_drewN | apply below_drew1 | refine below_set ?_ GE176.out) | exact HB.out)⟩⟩
      · rw [if_neg c9] at H
        have c9b0 : ((t180.length : Int) == 2) = false := beq_eq_false_iff_ne.mpr c9
        have c9b1 : ((t180.length : Int) != 2) = true := bne_iff_ne.mpr c9
        (first | rw [c9b0] | (simp only [i64_w, i32_w]; rw [c9b0]) | skip)
        have H' := Aside0.mk H
        clear H
        obtain ⟨Ao11, co11, eo11⟩ := Kd.R_slice HO183.out
        subst eo11
        go_wp2
        go_meet
        case rel => exact ⟨_, (true), (by first | rfl | (simp; done) | (simp [*]; done)), H', ⟨by first | omega | exact Nat.le_refl _⟩, ⟨by (with_reducible repeat (first | apply Kd.R_alloc | apply Kd.R_drewN | apply Kd.R_drew)); exact HO183.out⟩, ⟨by (with_reducible repeat (first | refine blk_drewN ?_ _ | refine blk_drew ?_ | refine blk_alloc ?_ _)); exact BK176.out⟩, ⟨by repeat (first | (with_reducible first | exact HB.out | apply below_alloc | apply pw_below_drewN | apply below_drew1 | refine below_set ?_ GE176.out) | exact HB.out)⟩⟩
    · replace c8 := Bool.eq_false_iff.mpr c8
      subst c8
      have H1 : (impl_ParseBoxes.j0 k a0 t178 t180 true) = some (r1, r2, r3, r4) := by rw [if_neg (show ¬ (false = true) by decide)] at H; exact H
      clear H
      have H := H1
      clear H1
      have H' := Aside0.mk H
      clear H
      go_wp2
      go_meet
      case rel => exact ⟨_, (true), (by first | rfl | (simp; done) | (simp [*]; done)), H', ⟨by first | omega | exact Nat.le_refl _⟩, ⟨by (with_reducible repeat (first | apply Kd.R_alloc | apply Kd.R_drewN | apply Kd.R_drew)); exact HO183.out⟩, ⟨by (with_reducible repeat (first | refine blk_drewN ?_ _ | refine blk_drew ?_ | refine blk_alloc ?_ _)); exact BK176.out⟩, ⟨by repeat (first | (with_reducible first | exact HB.out | apply below_alloc | apply pw_below_drewN | apply below_drew1 | refine below_set ?_ GE176.out) | exact HB.out)⟩⟩
  case rest =>
    clear HC4
    try clear c1
    try clear c2
    try clear p2
    try clear c8
    try clear c9
    try clear c9b0
    try clear c9b1
    try clear c11
    obtain ⟨kq, x35_3, rfl, HA, HJ3, HO_7, BK176, HB⟩ := hcut
    cases kq with
    | zero => exact absurd HA.out (by simp [impl_ParseBoxes.j0])
    | succ kj3 =>
      have H := HA.out
      clear HA
      simp only [impl_ParseBoxes.j0] at H
      by_cases c12 : x35_3 = true
      · subst c12
        have H1 : (some (0, 0, 0, 6)) = some (r1, r2, r3, r4) := by rw [if_pos rfl] at H; exact H
        clear H
        have H := H1
        clear H1
        simp only [Option.some.injEq, Prod.mk.injEq] at H
        obtain ⟨rfl, rfl, rfl, rfl⟩ := H
        have hcz13_0 : wc.cell? ⟨gb176, 0, none⟩ = some (.int .i64 0) := (blk_cell BK176.out 0).trans rfl
        have hcz13_1 : wc.cell? ⟨gb176, 1, none⟩ = some (.int .i64 0) := (blk_cell BK176.out 1).trans rfl
        have hcz13_2 : wc.cell? ⟨gb176, 2, none⟩ = some (.int .i64 0) := (blk_cell BK176.out 2).trans rfl
        have hfz13_0 := blk_frozen BK176.out 0
        have hfz13_1 := blk_frozen BK176.out 1
        have hfz13_2 := blk_frozen BK176.out 2
        go_wp2
        refine bodyPost_ret (results_ct rfl _ _ gb176 31 #[.int .i64 0, .int .i64 0, .int .i64 0] (0, 0) _ rfl (by (with_reducible repeat (first | refine blk_drewN ?_ _ | refine blk_drew ?_ | refine blk_alloc ?_ _)); refine blk_put (cs := #[.int .i64 0, .int .i64 0, .int .i64 0]) ?_ 2 _ rfl; (with_reducible repeat (first | refine blk_drewN ?_ _ | refine blk_drew ?_ | refine blk_alloc ?_ _)); refine blk_put (cs := #[.int .i64 0, .int .i64 0, .int .i64 0]) ?_ 1 _ rfl; (with_reducible repeat (first | refine blk_drewN ?_ _ | refine blk_drew ?_ | refine blk_alloc ?_ _)); refine blk_put (cs := #[.int .i64 0, .int .i64 0, .int .i64 0]) ?_ 0 _ rfl; (with_reducible repeat (first | refine blk_drewN ?_ _ | refine blk_drew ?_ | refine blk_alloc ?_ _)); exact BK176.out) Tryd.underlying31 rfl (by kernel_rfl)) rfl ?_
        exact ⟨by first | rfl | (simp [errW_none, errW_some] <;> rfl) | (simp [*, errW_none, errW_some] <;> rfl), by repeat (first | (with_reducible first | exact HB.out | apply below_alloc | apply pw_below_drewN | apply below_drew1 | refine below_set ?_ GE176.out) | exact HB.out)⟩
      · replace c12 := Bool.eq_false_iff.mpr c12
        subst c12
        have H1 : (if 0 < (t180.length : Int) then (if 1 < (t180.length : Int) then (impl_ParseBoxes.l0 kj3 a0 t178 (t178.size : Int) 0 (rd t180 0) (rd t180 1) 0) else (none)) else (none)) = some (r1, r2, r3, r4) := by rw [if_neg (show ¬ (false = true) by decide)] at H; exact H
        clear H
        have H := H1
        clear H1
        by_cases c14 : 0 < (t180.length : Int)
        · rw [if_pos c14] at H
          have c14b0 : decide (0 < (t180.length : Int)) = true := decide_eq_true c14
          have c14b1 : decide (0 < t180.length) = true := decide_eq_true (by omega)
          clear c14
          by_cases c15 : 1 < (t180.length : Int)
          · rw [if_pos c15] at H
            have c15b0 : decide (1 < (t180.length : Int)) = true := decide_eq_true c15
            have c15b1 : decide (1 < t180.length) = true := decide_eq_true (by omega)
            clear c15
            have H' := Aside0.mk H
            clear H
            try go_wp2
            have n0_ := Aside0.mk (Kd.R_drew HO_7.out)
            have n1_ := Aside0.mk (blk_drew BK176.out)
            have n2_ := Aside0.mk (below_drew1 HB.out)
            clear HO_7
            clear BK176
            clear HB
            have HO_7 := n0_
            have BK176 := n1_
            have HB := n2_
            clear n0_ n1_ n2_
            obtain ⟨Ao17, co17, eo17⟩ := Kd.R_slice HO_7.out
            (first | subst eo17 | (injection eo17 with f1_ f2_ f3_; have f4_ := f1_.symm; have f5_ := f3_.symm; clear f1_ f2_ f3_; subst f4_; subst f5_))
            have p184 : 0 ≤ (0 : Int) := (by omega)
            have q184 : 0 < (t180.length : Int) := of_decide_eq_true (by first | (with_reducible assumption) | assumption)
            obtain ⟨ad184, e184, hx184_0⟩ := Kd.at_int (Kd.R_reads' HO_7.out).2.2 0 p184 q184
            cases e184
            have qi184 : (0 < t180.length) = True := eq_true (by omega)
            (try rw [show ((0 : Int)).toNat = 0 from rfl] at hx184_0)
            (try rw [Addr.add_zero'] at hx184_0)
            replace p184 := eq_true p184
            replace q184 := eq_true q184
            have p185 : 0 ≤ (1 : Int) := (by omega)
            have q185 : 1 < (t180.length : Int) := of_decide_eq_true (by first | (with_reducible assumption) | assumption)
            obtain ⟨ad185, e185, hx185_0⟩ := Kd.at_int (Kd.R_reads' HO_7.out).2.2 1 p185 q185
            obtain rfl : ad184 = ad185 := (by injection e185)
            (try simp only [show (1 : Int).toNat = 1 from rfl, Nat.reduceMul, Nat.reduceEqDiff, Go.Addr.add, ↓reduceIte] at hx185_0)
            have qi185 : (1 < t180.length) = True := eq_true (by omega)
            (try rw [show ((1 : Int)).toNat = 1 from rfl] at hx185_0)
            replace p185 := eq_true p185
            replace q185 := eq_true q185
            refine start_ (n := 9) (S := fun w' => w'.cell? ad184 = some (.int .i64 (rd t180 0)) ∧ w'.cell? ⟨ad184.block, ad184.off + 1, none⟩ = some (.int .i64 (rd t180 1))) (ds := []) #[false, false, false, false, false, false, false, false, false] (by kernel_rfl) rfl rfl ⟨hx184_0, hx185_0⟩ (fun hHeld => ?_); refine with_tabW impl_ParseBoxes.tab5 impl_ParseBoxes.bits5 (fun HT_ HW_ => ?_)
            generalize wc.drew = w16 at HO_7 BK176 HB hx184_0 hx185_0 hHeld ⊢
            refine pure_ (i := 0) (N := some 37) (v := ?_) (a' := ?_) #[true, false, false, false, false, false, false, false, false] rfl rfl (any_of HT_.out (by kernel_rfl)) (fun _ _ _ h => h) (Or.inl ⟨by rfl, ?_⟩) ?_ ?_
            rotate_left
            · intro w'
              go_simp
              with_reducible rfl
            rotate_left
            · simp only [Act.put, List.setIfInBounds_toArray, List.set_cons_zero, List.set_cons_succ, i64_w, i32_w]
              rfl
            refine pure_ (i := 1) (N := some 38) (v := ?_) (a' := ?_) #[true, true, false, false, false, false, false, false, false] rfl rfl (any_of HT_.out (by kernel_rfl)) (fun _ _ _ h => h) (Or.inl ⟨by rfl, ?_⟩) ?_ ?_
            rotate_left
            · intro w'
              go_simp
              with_reducible rfl
            rotate_left
            · simp only [Act.put, List.setIfInBounds_toArray, List.set_cons_zero, List.set_cons_succ, i64_w, i32_w]
              rfl
            refine pure_ (i := 3) (N := some 40) (v := ?_) (a' := ?_) #[true, true, false, true, false, false, false, false, false] rfl rfl (any_of HT_.out (by kernel_rfl)) (fun _ _ _ h => h) (Or.inl ⟨by rfl, ?_⟩) ?_ ?_
            rotate_left
            · intro w'
              go_simp
              with_reducible rfl
            rotate_left
            · simp only [Act.put, List.setIfInBounds_toArray, List.set_cons_zero, List.set_cons_succ, i64_w, i32_w]
              rfl
            refine pure_ (i := 4) (N := some 41) (v := ?_) (a' := ?_) #[true, true, false, true, true, false, false, false, false] rfl rfl (any_of HT_.out (by kernel_rfl)) (fun _ _ _ h => h) (Or.inl ⟨by rfl, ?_⟩) ?_ ?_
            rotate_left
            · intro w'
              go_simp
              with_reducible rfl
            rotate_left
            · simp only [Act.put, List.setIfInBounds_toArray, List.set_cons_zero, List.set_cons_succ, i64_w, i32_w]
              rfl
            refine take_ (i := 2) (N := some 39) (v := ?_) (a' := ?_) #[true, true, true, true, true, false, false, false, false] rfl rfl (take_ofW HT_.out HW_.out (by kernel_rfl)) (fun _ _ _ h => h) (Or.inl ⟨by rfl, ?_⟩) hHeld ?_ ?_
            rotate_left
            · rintro w' ⟨s0, s1⟩
              go_simp
              with_reducible rfl
            rotate_left
            · simp only [Act.put, List.setIfInBounds_toArray, List.set_cons_zero, List.set_cons_succ, i64_w, i32_w]
              rfl
            refine take_ (i := 5) (N := some 42) (v := ?_) (a' := ?_) #[true, true, true, true, true, true, false, false, false] rfl rfl (take_ofW HT_.out HW_.out (by kernel_rfl)) (fun _ _ _ h => h) (Or.inl ⟨by rfl, ?_⟩) hHeld ?_ ?_
            rotate_left
            · rintro w' ⟨s0, s1⟩
              go_simp
              with_reducible rfl
            rotate_left
            · simp only [Act.put, List.setIfInBounds_toArray, List.set_cons_zero, List.set_cons_succ, i64_w, i32_w]
              rfl
            refine pure_ (i := 6) (N := some 43) (v := ?_) (a' := ?_) #[true, true, true, true, true, true, true, false, false] rfl rfl (any_of HT_.out (by kernel_rfl)) (fun _ _ _ h => h) (Or.inl ⟨by rfl, ?_⟩) ?_ ?_
            rotate_left
            · intro w'
              go_simp
              with_reducible rfl
            rotate_left
            · simp only [Act.put, List.setIfInBounds_toArray, List.set_cons_zero, List.set_cons_succ, i64_w, i32_w]
              rfl
            refine one_ (i := 7) (N := some 9) #[true, true, true, true, true, true, true, true, false] rfl rfl (one_of HT_.out (by kernel_rfl)) (by decide) (fun K hK => ?_)
            refine box_step ?hg (N := 9) ?hd (cs := #[.int .i64 0, .int .i64 0, .int .i64 0]) (t := 31) ?hr ?_; (case hd => rfl); (case hg => rfl); (case hr => first | (go_simp; done) | (go_simp; rfl))
            intro gb186 hg w18 hbox hb
            have HS0_ := (hb.cell (World.block_lt_of_cell? _ _ (hHeld.1))).trans (hHeld.1)
            have HS1_ := (hb.cell (World.block_lt_of_cell? _ _ (hHeld.2))).trans (hHeld.2)
            have n0_ := Aside0.mk (Kd.R_below (by (with_reducible repeat (first | apply Kd.R_alloc | apply Kd.R_drewN | apply Kd.R_drew)); exact HO_7.out) hb)
            have n1_ := Aside0.mk (blk_below (g := gb176) (o := .cells #[.int .i64 0, .int .i64 0, .int .i64 0] 31 (0, 0)) (by (with_reducible repeat (first | refine blk_drewN ?_ _ | refine blk_drew ?_ | refine blk_alloc ?_ _)); exact BK176.out) hb)
            have n2_ := Aside0.mk (below_step (by repeat (first | (with_reducible first | exact HB.out | apply below_alloc | apply pw_below_drewN | apply below_drew1 | refine below_set ?_ GE176.out) | exact HB.out)) hb)
            have n3_ := Aside0.mk (hbox)
            have n4_ := Aside0.mk ((by rw [hg]; exact (below_size (by repeat (first | (with_reducible first | exact HB.out | apply below_alloc | apply pw_below_drewN | apply below_drew1 | refine below_set ?_ GE176.out) | exact HB.out))) : w.heap.size ≤ gb186))
            have n5_ := Aside0.mk ((by rw [hg]; exact (below_size (by repeat (first | (with_reducible first | exact HB.out | apply below_alloc | apply pw_below_drewN | apply below_drew1 | refine below_set ?_ GE176.out) | exact HB.out))) : w.heap.size ≤ gb186))
            have n6_ := Aside0.mk ((by rw [hg]; exact Nat.ne_of_lt (blk_lt (g := gb176) (o := .cells #[.int .i64 0, .int .i64 0, .int .i64 0] 31 (0, 0)) (by (with_reducible repeat (first | refine blk_drewN ?_ _ | refine blk_drew ?_ | refine blk_alloc ?_ _)); exact BK176.out)) : gb176 ≠ gb186))
            have n7_ := Aside0.mk ((by rw [hg]; exact Nat.ne_of_gt (blk_lt (g := gb176) (o := .cells #[.int .i64 0, .int .i64 0, .int .i64 0] 31 (0, 0)) (by (with_reducible repeat (first | refine blk_drewN ?_ _ | refine blk_drew ?_ | refine blk_alloc ?_ _)); exact BK176.out)) : gb186 ≠ gb176))
            clear HO_7
            clear BK176
            clear HB
            have HO_7 := n0_
            have BK176 := n1_
            have HB := n2_
            have BK186 := n3_
            have GW186 := n4_
            have GE186 := n5_
            have NB176_186 := n6_
            have NB186_176 := n7_
            clear n0_ n1_ n2_ n3_ n4_ n5_ n6_ n7_
            clear hb hbox hg
            refine hK.out _ _ ⟨HS0_, HS1_⟩ (fun hHeld => ?_)
            clear hK K
            refine norm_ (a' := ?_) ?_ ?_
            rotate_left
            · show Act.put _ (some 9) _ = _
              simp only [Act.put, List.setIfInBounds_toArray, List.set_cons_zero, List.set_cons_succ, i64_w, i32_w]
              rfl
            refine one_ (i := 8) (N := none) #[true, true, true, true, true, true, true, true, true] rfl rfl (one_of HT_.out (by kernel_rfl)) (by decide) (fun K hK => ?_)
            have hs19 : w18.cell? ⟨gb186, 0, none⟩ = some (.int .i64 0) := (blk_cell BK186.out 0).trans rfl
            have hfs19 := blk_frozen BK186.out 0
            have hns19_0 := NB176_186.out
            have hms19_0 := NB186_176.out
            have hs20 : w18.cell? ⟨gb186, 1, none⟩ = some (.int .i64 0) := (blk_cell BK186.out 1).trans rfl
            have hfs20 := blk_frozen BK186.out 1
            have hns20_0 := NB176_186.out
            have hms20_0 := NB186_176.out
            have hs21 : w18.cell? ⟨gb186, 2, none⟩ = some (.int .i64 0) := (blk_cell BK186.out 2).trans rfl
            have hfs21 := blk_frozen BK186.out 2
            have hns21_0 := NB176_186.out
            have hms21_0 := NB186_176.out
            refine skip_ (w1 := ?_) (by rfl) rfl ?_ ?_
            rotate_left
            · go_simp
              rfl
            refine hK.out _ _ ⟨((cell_far (p := ⟨gb186, _, none⟩) (by first | exact Kd.own_blk (Kd.R_ne HO_7.out BK186.out (by decide)) | (rw [add_block]; exact Kd.own_blk (Kd.R_ne HO_7.out BK186.out (by decide))) | (show (Addr.add _ _).block ≠ _; rw [add_block]; exact Kd.own_blk (Kd.R_ne HO_7.out BK186.out (by decide))) | (dsimp only; exact Kd.own_blk (Kd.R_ne HO_7.out BK186.out (by decide)))) _).trans (((cell_far (p := ⟨gb186, _, none⟩) (by first | exact Kd.own_blk (Kd.R_ne HO_7.out BK186.out (by decide)) | (rw [add_block]; exact Kd.own_blk (Kd.R_ne HO_7.out BK186.out (by decide))) | (show (Addr.add _ _).block ≠ _; rw [add_block]; exact Kd.own_blk (Kd.R_ne HO_7.out BK186.out (by decide))) | (dsimp only; exact Kd.own_blk (Kd.R_ne HO_7.out BK186.out (by decide)))) _).trans (((cell_far (p := ⟨gb186, _, none⟩) (by first | exact Kd.own_blk (Kd.R_ne HO_7.out BK186.out (by decide)) | (rw [add_block]; exact Kd.own_blk (Kd.R_ne HO_7.out BK186.out (by decide))) | (show (Addr.add _ _).block ≠ _; rw [add_block]; exact Kd.own_blk (Kd.R_ne HO_7.out BK186.out (by decide))) | (dsimp only; exact Kd.own_blk (Kd.R_ne HO_7.out BK186.out (by decide)))) _).trans (hHeld.1)))))), ((cell_far (p := ⟨gb186, _, none⟩) (by first | exact Kd.own_blk (Kd.R_ne HO_7.out BK186.out (by decide)) | (rw [add_block]; exact Kd.own_blk (Kd.R_ne HO_7.out BK186.out (by decide))) | (show (Addr.add _ _).block ≠ _; rw [add_block]; exact Kd.own_blk (Kd.R_ne HO_7.out BK186.out (by decide))) | (dsimp only; exact Kd.own_blk (Kd.R_ne HO_7.out BK186.out (by decide)))) _).trans (((cell_far (p := ⟨gb186, _, none⟩) (by first | exact Kd.own_blk (Kd.R_ne HO_7.out BK186.out (by decide)) | (rw [add_block]; exact Kd.own_blk (Kd.R_ne HO_7.out BK186.out (by decide))) | (show (Addr.add _ _).block ≠ _; rw [add_block]; exact Kd.own_blk (Kd.R_ne HO_7.out BK186.out (by decide))) | (dsimp only; exact Kd.own_blk (Kd.R_ne HO_7.out BK186.out (by decide)))) _).trans (((cell_far (p := ⟨gb186, _, none⟩) (by first | exact Kd.own_blk (Kd.R_ne HO_7.out BK186.out (by decide)) | (rw [add_block]; exact Kd.own_blk (Kd.R_ne HO_7.out BK186.out (by decide))) | (show (Addr.add _ _).block ≠ _; rw [add_block]; exact Kd.own_blk (Kd.R_ne HO_7.out BK186.out (by decide))) | (dsimp only; exact Kd.own_blk (Kd.R_ne HO_7.out BK186.out (by decide)))) _).trans (hHeld.2))))))⟩ (fun hHeld => ?_)
            clear hK K
            refine done_ (done_of HT_.out (by kernel_rfl)) ?_
            obtain ⟨w20, hw20⟩ : ∃ w_ : World, w_ = (((w18.setCell ⟨gb186, 0, none⟩ (.int .i64 (rd t180 0))).setCell ⟨gb186, 1, none⟩ (.int .i64 (rd t180 1))).setCell ⟨gb186, 2, none⟩ (.int .i64 0)) := ⟨_, rfl⟩
            have n0_ : Aside0 (w20.heap[gb176]? = some (.cells #[.int .i64 0, .int .i64 0, .int .i64 0] 31 (0, 0))) := ⟨by rw [hw20]; refine blk_far ?_ NB176_186.out _; refine blk_far ?_ NB176_186.out _; refine blk_far ?_ NB176_186.out _; exact BK176.out⟩
            have n1_ : Aside0 (w20.heap[gb186]? = some (.cells #[.int .i64 (rd t180 0), .int .i64 (rd t180 1), .int .i64 0] 31 (0, 0))) := ⟨by rw [hw20]; refine blk_put (cs := #[.int .i64 (rd t180 0), .int .i64 (rd t180 1), .int .i64 0]) ?_ 2 _ rfl; refine blk_put (cs := #[.int .i64 (rd t180 0), .int .i64 0, .int .i64 0]) ?_ 1 _ rfl; refine blk_put (cs := #[.int .i64 0, .int .i64 0, .int .i64 0]) ?_ 0 _ rfl; exact BK186.out⟩
            have n2_ : Aside0 (Below w.heap.size w w20) := ⟨by rw [hw20]; refine below_set ?_ GE186.out; refine below_set ?_ GE186.out; refine below_set ?_ GE186.out; exact HB.out⟩
            rw [← hw20]
            clear hw20 BK176 BK186 HB hHeld
            clear HS0_ HS1_ HO_7 hs19 hfs19 hs20 hfs20 hs21 hfs21
            have BK176 := n0_
            have BK186 := n1_
            have HB := n2_
            clear n0_ n1_ n2_
            obtain ⟨gi, hgi⟩ : ∃ g_ : Nat, g_ = w20.heap.size := ⟨_, rfl⟩
            go_wp2
            rw [← hgi]
            have n0_ := Aside0.mk (blk_below (g := gb176) BK176.out (below_alloc (Below.refl w20.heap.size w20) (.stringIter t178 0)))
            have n1_ := Aside0.mk (blk_below (g := gb186) BK186.out (below_alloc (Below.refl w20.heap.size w20) (.stringIter t178 0)))
            have n2_ := Aside0.mk (below_step HB.out (below_alloc (Below.refl w20.heap.size w20) (.stringIter t178 0)))
            have n3_ : Aside0 ((w20.iter t178 0).heap[gi]? = some (.stringIter t178 0)) := ⟨by rw [hgi]; exact World.iter_heap w20 t178 0⟩
            have n4_ : Aside0 (gb176 ≠ gi ∧ gb186 ≠ gi ∧ gi ≠ gb186 ∧ w.heap.size ≤ gi) := ⟨by have h1 := blk_lt BK176.out; have h2 := blk_lt BK186.out; have h3 := HB.out.size; omega⟩
            clear BK176 BK186 HB hgi
            have BK176 := n0_
            have BK186 := n1_
            have HB := n2_
            have HIT := n3_
            have HGI := n4_
            clear n0_ n1_ n2_ n3_ n4_
            go_loopg [10] kj3 (fun kq v10 w' => ∃ (x48_2 : Int) (x187002_2 : Int), Aside0 (0 ≤ x48_2) ∧ Aside0 (w'.heap[gi]? = some (.stringIter t178 x48_2.toNat)) ∧ Aside0 (impl_ParseBoxes.l0 kq a0 t178 (t178.size : Int) x48_2 (rd t180 0) (rd t180 1) x187002_2 = some (r1, r2, r3, r4)) ∧ Aside0 (kq ≤ kj3) ∧ Aside0 (w'.heap[gb176]? = some (.cells #[.int .i64 0, .int .i64 0, .int .i64 0] 31 (0, 0))) ∧ Aside0 (w'.heap[gb186]? = some (.cells #[.int .i64 (rd t180 0), .int .i64 (rd t180 1), .int .i64 x187002_2] 31 (0, 0))) ∧ Aside0 (Below w.heap.size w w'))
            case atStart => exact ⟨0, 0, ⟨Int.le_refl 0⟩, HIT, H', ⟨Nat.le_refl _⟩, BK176, BK186, HB⟩
            case round =>
              clear H'
              try clear c1
              try clear p1
              try clear q1
              try clear hx1
              try clear qi1
              try clear c2
              try clear p2
              try clear c8
              try clear c9
              try clear c9b0
              try clear c9b1
              try clear c11
              try clear c12
              try clear c14
              try clear c14b0
              try clear c14b1
              try clear c15
              try clear c15b0
              try clear c15b1
              try clear p18
              try clear q18
              try clear hx18
              try clear qi18
              try clear hcz13_0
              try clear hcz13_1
              try clear hcz13_2
              try clear hfz13_0
              try clear hfz13_1
              try clear hfz13_2
              try clear hx184_0
              try clear hx185_0
              try clear p184
              try clear p185
              try clear p2
              try clear q184
              try clear q185
              clear HIT BK176 BK186 HB
              obtain ⟨x48_2, x187002_2, HNN, HIT, HA, HK2, BK176, BK186, HB⟩ := hrel
              have hx48 : ((x48_2.toNat : Nat) : Int) = x48_2 := Int.toNat_of_nonneg HNN.out
              have HX48 := Aside0.mk hx48
              clear hx48
              cases gk with
              | zero => exact absurd HA.out (by simp [impl_ParseBoxes.l0])
              | succ k2 =>
                have H := HA.out
                clear HA
                simp only [impl_ParseBoxes.l0] at H
                by_cases c22 : x48_2 < (t178.size : Int)
                · rw [if_pos c22] at H
                  have c22b0 : decide (x48_2 < (t178.size : Int)) = true := decide_eq_true c22
                  have hlt_ : x48_2.toNat < t178.size := by have := HNN.out; omega
                  obtain ⟨w29a, hw29a⟩ : ∃ w_ : World, w_ = wr.iterAt gi t178 (x48_2.toNat + (Utf8.decode t178 x48_2.toNat).2) := ⟨_, rfl⟩
                  have hnx : ∀ ty, (Instr.next (.pointer (some ⟨gi, 0, none⟩)) true ty).run Tryd.prog wr = .ok (.tuple #[.bool true, .int .i64 x48_2, .int .i32 (Utf8.decode t178 x48_2.toNat).1]) w29a := fun ty => by
                    have h_ := Lib.run_next_any_at (P := Tryd.prog) wr gi t178 x48_2.toNat ty HIT.out hlt_
                    rw [HX48.out, ← hw29a] at h_
                    exact h_
                  have n0_ : Aside0 (w29a.heap[gb176]? = some (.cells #[.int .i64 0, .int .i64 0, .int .i64 0] 31 (0, 0))) := ⟨by rw [hw29a, iter_other wr t178 _ HGI.out.1]; exact BK176.out⟩
                  have n1_ : Aside0 (w29a.heap[gb186]? = some (.cells #[.int .i64 (rd t180 0), .int .i64 (rd t180 1), .int .i64 x187002_2] 31 (0, 0))) := ⟨by rw [hw29a, iter_other wr t178 _ HGI.out.2.1]; exact BK186.out⟩
                  have n2_ : Aside0 (Below w.heap.size w w29a) := ⟨by rw [hw29a]; exact Lib.below_iterAt HB.out HGI.out.2.2.2 t178 _⟩
                  have n3_ : Aside0 (w29a.heap[gi]? = some (.stringIter t178 (rnext t178 x48_2).toNat)) := ⟨by rw [hw29a]; exact Lib.iterAt_heap wr gi t178 _ _ HIT.out⟩
                  have n4_ : Aside0 (0 ≤ rnext t178 x48_2) := ⟨Int.natCast_nonneg _⟩
                  clear BK176 BK186 HB HIT hw29a hlt_
                  have BK176 := n0_
                  have BK186 := n1_
                  have HB := n2_
                  have HIT := n3_
                  have HNN2 := n4_
                  clear n0_ n1_ n2_ n3_ n4_
                  clear c22
                  by_cases c23 : 0 ≤ x48_2
                  · rw [if_pos c23] at H
                    have c23b0 : decide (0 ≤ x48_2) = true := decide_eq_true c23
                    clear c23
                    by_cases c24 : x48_2 < (t178.size : Int)
                    · rw [if_pos c24] at H
                      have c24b0 : decide (x48_2 < (t178.size : Int)) = true := decide_eq_true c24
                      clear c24
                      by_cases c26 : (bt t178 x48_2) = 49
                      · rw [if_pos c26] at H
                        have c26b0 : ((bt t178 x48_2) == 49) = true := beq_iff_eq.mpr c26
                        have c26b1 : ((bt t178 x48_2) != 49) = false := bne_eq_false_iff_eq.mpr c26
                        clear c26
                        have c27b0 := eq_true (of_decide_eq_true (by first | (with_reducible assumption) | assumption) : 0 ≤ x48_2)
                        obtain ⟨ji28, hji28⟩ : ∃ j_ : Int, (shl .i64 1 x48_2) = j_ := ⟨_, rfl⟩
                        replace H : (impl_ParseBoxes.l0 k2 a0 t178 (t178.size : Int) (rnext t178 x48_2) (rd t180 0) (rd t180 1) (Go.bits .or .i64 x187002_2 (ji28))) = some (r1, r2, r3, r4) := by first | (rw [hji28] at H; exact H) | (simp only [hji28] at H ⊢; exact H)
                        have hji28_ : (IntKind.i64.wrap (1 * 2 ^ min x48_2.toNat 64)) = ji28 := hji28
                        have hji28z : x48_2 ≤ 64 → (IntKind.i64.wrap (1 * 2 ^ x48_2.toNat)) = ji28 := shl_small hji28
                        have hji28u : (IntKind.i64.wrap (2 ^ min x48_2.toNat 64)) = ji28 := by have h_ := hji28_; rw [Int.one_mul] at h_; exact h_
                        have hji28v : x48_2 ≤ 64 → (IntKind.i64.wrap (2 ^ x48_2.toNat)) = ji28 := fun hle_ => by have h_ := hji28z hle_; rw [Int.one_mul] at h_; exact h_
                        have hji28y : (wrap64 (1 * 2 ^ min x48_2.toNat 64)) = ji28 := (i64_w _).symm.trans hji28_
                        have hji28x : x48_2 ≤ 64 → (wrap64 (1 * 2 ^ x48_2.toNat)) = ji28 := fun h_ => (i64_w _).symm.trans (hji28z h_)
                        have H' := Aside0.mk H
                        clear H
                        have p25 : 0 ≤ (x48_2 : Int) := of_decide_eq_true (by first | (with_reducible assumption) | assumption)
                        have q25 : x48_2 < (t178.size : Int) := of_decide_eq_true (by first | (with_reducible assumption) | assumption)
                        have hx25 := bt_at t178 x48_2
                        replace p25 := eq_true p25
                        replace q25 := eq_true q25
                        try go_wp2
                        have n0_ := Aside0.mk (blk_drew BK176.out)
                        have n1_ := Aside0.mk (blk_drew BK186.out)
                        have n2_ := Aside0.mk (below_drew1 HB.out)
                        have n3_ := Aside0.mk (show w29a.drew.heap[gi]? = _ from HIT.out)
                        clear BK176 BK186 HB HIT
                        have BK176 := n0_
                        have BK186 := n1_
                        have HB := n2_
                        have HIT := n3_
                        clear n0_ n1_ n2_ n3_
                        refine start_ (n := 7) (S := fun w' => w'.cell? ⟨gb186, 0, none⟩ = some (.int .i64 (rd t180 0)) ∧ w'.cell? ⟨gb186, 1, none⟩ = some (.int .i64 (rd t180 1)) ∧ w'.cell? ⟨gb186, 2, none⟩ = some (.int .i64 x187002_2)) (ds := [6]) #[false, false, false, false, false, false, false] (by kernel_rfl) rfl rfl ⟨(blk_cell BK186.out 0).trans rfl, (blk_cell BK186.out 1).trans rfl, (blk_cell BK186.out 2).trans rfl⟩ (fun hHeld => ?_)
                        generalize w29a.drew = w29 at BK176 BK186 HB HIT hHeld ⊢
                        refine pure_ (i := 0) (N := some 53) (v := ?_) (a' := ?_) #[true, false, false, false, false, false, false] rfl rfl (by kernel_rfl) (fun _ _ _ h => h) (Or.inl ⟨by rfl, ?_⟩) ?_ ?_
                        rotate_left
                        · intro w'
                          go_simp
                          with_reducible rfl
                        rotate_left
                        · simp only [Act.put, List.setIfInBounds_toArray, List.set_cons_zero, List.set_cons_succ, i64_w, i32_w]
                          rfl
                        refine pure_ (i := 2) (N := some 55) (v := ?_) (a' := ?_) #[true, false, true, false, false, false, false] rfl rfl (by kernel_rfl) (fun _ _ _ h => h) (Or.inl ⟨by rfl, ?_⟩) ?_ ?_
                        rotate_left
                        · intro w'
                          go_simp
                          with_reducible rfl
                        rotate_left
                        · simp only [Act.put, List.setIfInBounds_toArray, List.set_cons_zero, List.set_cons_succ, i64_w, i32_w]
                          rfl
                        refine pure_ (i := 3) (N := some 56) (v := ?_) (a' := ?_) #[true, false, true, true, false, false, false] rfl rfl (by kernel_rfl) (fun _ _ _ h => h) (Or.inl ⟨by rfl, ?_⟩) ?_ ?_
                        rotate_left
                        · intro w'
                          go_simp
                          with_reducible rfl
                        rotate_left
                        · simp only [Act.put, List.setIfInBounds_toArray, List.set_cons_zero, List.set_cons_succ, i64_w, i32_w]
                          rfl
                        refine take_ (i := 1) (N := some 54) (v := ?_) (a' := ?_) #[true, true, true, true, false, false, false] rfl rfl (by kernel_rfl) (fun _ _ _ h => h) (Or.inl ⟨by rfl, ?_⟩) hHeld ?_ ?_
                        rotate_left
                        · rintro w' ⟨s0, s1, s2⟩
                          go_simp
                          with_reducible rfl
                        rotate_left
                        · simp only [Act.put, List.setIfInBounds_toArray, List.set_cons_zero, List.set_cons_succ, i64_w, i32_w]
                          rfl
                        refine pure_ (i := 4) (N := some 57) (v := ?_) (a' := ?_) #[true, true, true, true, true, false, false] rfl rfl (by kernel_rfl) (fun _ _ _ h => h) (Or.inl ⟨by rfl, ?_⟩) ?_ ?_
                        rotate_left
                        · intro w'
                          go_simp
                          with_reducible rfl
                        rotate_left
                        · simp only [Act.put, List.setIfInBounds_toArray, List.set_cons_zero, List.set_cons_succ, i64_w, i32_w]
                          rfl
                        refine pure_ (i := 5) (N := some 58) (v := ?_) (a' := ?_) #[true, true, true, true, true, true, false] rfl rfl (by kernel_rfl) (fun _ _ _ h => h) (Or.inl ⟨by rfl, ?_⟩) ?_ ?_
                        rotate_left
                        · intro w'
                          go_simp
                          with_reducible rfl
                        rotate_left
                        · simp only [Act.put, List.setIfInBounds_toArray, List.set_cons_zero, List.set_cons_succ, i64_w, i32_w]
                          rfl
                        refine last_ (i := 6) (N := none) #[true, true, true, true, true, true, true] rfl rfl (by kernel_rfl) (by decide) (fun K hK => ?_)
                        have hs30 : w29.cell? ⟨gb186, 2, none⟩ = some (.int .i64 x187002_2) := (blk_cell BK186.out 2).trans rfl
                        have hfs30 := blk_frozen BK186.out 2
                        have hns30_0 := NB176_186.out
                        have hms30_0 := NB186_176.out
                        refine skip_ (w1 := ?_) (by rfl) rfl ?_ ?_
                        rotate_left
                        · go_simp
                          rfl
                        refine hK.out _ _ ?_
                        clear hK K
                        refine done_ (by kernel_rfl) ?_
                        try go_wp2
                        go_roundg k2
                        case measure => have := HJ3.out; have := HK2.out; omega
                        case rel => exact ⟨(rnext t178 x48_2), (Go.bits .or .i64 x187002_2 (ji28)), HNN2, ⟨(Below.heap_setCell _ _ _ _ HGI.out.2.2.1).trans HIT.out⟩, H', ⟨by have := HJ3.out; have := HK2.out; omega⟩, ⟨by (with_reducible repeat (first | refine blk_drewN ?_ _ | refine blk_drew ?_ | refine blk_alloc ?_ _)); refine blk_far ?_ NB176_186.out _; (with_reducible repeat (first | refine blk_drewN ?_ _ | refine blk_drew ?_ | refine blk_alloc ?_ _)); exact BK176.out⟩, ⟨by (with_reducible repeat (first | refine blk_drewN ?_ _ | refine blk_drew ?_ | refine blk_alloc ?_ _)); refine blk_put (cs := #[.int .i64 (rd t180 0), .int .i64 (rd t180 1), .int .i64 x187002_2]) ?_ 2 _ rfl; (with_reducible repeat (first | refine blk_drewN ?_ _ | refine blk_drew ?_ | refine blk_alloc ?_ _)); exact BK186.out⟩, ⟨by repeat (first | (with_reducible first | exact HB.out | apply below_alloc | apply pw_below_drewN | apply below_drew1 | refine below_set ?_ GE176.out | refine below_set ?_ GE186.out) | exact HB.out)⟩⟩
                      · rw [if_neg c26] at H
                        have c26b0 : ((bt t178 x48_2) == 49) = false := beq_eq_false_iff_ne.mpr c26
                        have c26b1 : ((bt t178 x48_2) != 49) = true := bne_iff_ne.mpr c26
                        have H' := Aside0.mk H
                        clear H
                        have p25 : 0 ≤ (x48_2 : Int) := of_decide_eq_true (by first | (with_reducible assumption) | assumption)
                        have q25 : x48_2 < (t178.size : Int) := of_decide_eq_true (by first | (with_reducible assumption) | assumption)
                        have hx25 := bt_at t178 x48_2
                        replace p25 := eq_true p25
                        replace q25 := eq_true q25
                        go_wp2
                        go_roundg k2
                        case measure => have := HJ3.out; have := HK2.out; omega
                        case rel => exact ⟨(rnext t178 x48_2), (x187002_2), HNN2, HIT, H', ⟨by have := HJ3.out; have := HK2.out; omega⟩, ⟨by (with_reducible repeat (first | refine blk_drewN ?_ _ | refine blk_drew ?_ | refine blk_alloc ?_ _)); exact BK176.out⟩, ⟨by (with_reducible repeat (first | refine blk_drewN ?_ _ | refine blk_drew ?_ | refine blk_alloc ?_ _)); exact BK186.out⟩, ⟨by repeat (first | (with_reducible first | exact HB.out | apply below_alloc | apply pw_below_drewN | apply below_drew1 | refine below_set ?_ GE176.out | refine below_set ?_ GE186.out) | exact HB.out)⟩⟩
                    · rw [if_neg c24] at H
                      exact absurd H (by simp)
                  · rw [if_neg c23] at H
                    exact absurd H (by simp)
                · rw [if_neg c22] at H
                  have c22b0 : decide (x48_2 < (t178.size : Int)) = false := decide_eq_false c22
                  have hlt_ : ¬ x48_2.toNat < t178.size := by have := HX48.out; omega
                  have hnx : ∀ ty, (Instr.next (.pointer (some ⟨gi, 0, none⟩)) true ty).run Tryd.prog wr = _ := fun ty => Lib.run_next_end_at wr gi t178 x48_2.toNat ty HIT.out hlt_
                  clear hlt_
                  clear c22
                  replace H := Option.bind_eq_some_iff.mp H
                  obtain ⟨⟨t187, t188⟩, A310, H⟩ := H
                  replace H : (if t188 = 0 then (if t187.toList = a0.toList then (some ((rd t180 0), (rd t180 1), x187002_2, 0)) else (some (0, 0, 0, 6))) else (some (0, 0, 0, 6))) = some (r1, r2, r3, r4) := H
                  have A31 := Aside0.mk A310
                  clear A310
                  by_cases c32 : t188 = 0
                  · rw [if_pos c32] at H
                    have c32b0 : (t188 == 0) = true := beq_iff_eq.mpr c32
                    have c32b1 : (t188 != 0) = false := bne_eq_false_iff_eq.mpr c32
                    clear c32
                    by_cases c33 : t187.toList = a0.toList
                    · rw [if_pos c33] at H
                      have c33b0 : (t187.toList == a0.toList) = true := beq_iff_eq.mpr c33
                      have c33b1 : (t187.toList != a0.toList) = false := bne_eq_false_iff_eq.mpr c33
                      clear c33
                      simp only [Option.some.injEq, Prod.mk.injEq] at H
                      obtain ⟨rfl, rfl, rfl, rfl⟩ := H
                      have hnb34 := NB186_176.out
                      have hnc34 := NB176_186.out
                      have hcz35_0 : wr.cell? ⟨gb186, 0, none⟩ = some (.int .i64 (rd t180 0)) := (blk_cell BK186.out 0).trans rfl
                      have hcz35_1 : wr.cell? ⟨gb186, 1, none⟩ = some (.int .i64 (rd t180 1)) := (blk_cell BK186.out 1).trans rfl
                      have hcz35_2 : wr.cell? ⟨gb186, 2, none⟩ = some (.int .i64 x187002_2) := (blk_cell BK186.out 2).trans rfl
                      have hfz35_0 := blk_frozen BK186.out 0
                      have hfz35_1 := blk_frozen BK186.out 1
                      have hfz35_2 := blk_frozen BK186.out 2
                      go_wp2_with (first | ((with_reducible refine gate_callee (f := 24) rfl ?_); refine goesL_ (some 61) rfl rfl Tryd.func24 (by kernel_rfl) rfl #[.agg #[.int .i64 (rd t180 0), .int .i64 (rd t180 1), .int .i64 x187002_2]] rfl (by (try simp only [List.map_toArray, List.map_cons, List.map_nil]); first | done | rfl | (simp only [List.length_drop, List.length_take]; rfl)) ?_; (with_reducible refine (impl_BoxesText.calls k2 (rd t180 0) (rd t180 1) x187002_2 t187 t188 _ A31.out).mono ?_); rintro e w36 ⟨rfl, hb⟩; refine ⟨_, rfl, ?_⟩; have n0_ := Aside0.mk (blk_below (g := gb176) (o := .cells #[.int .i64 0, .int .i64 0, .int .i64 0] 31 (0, 0)) (by (with_reducible repeat (first | refine blk_drewN ?_ _ | refine blk_drew ?_ | refine blk_alloc ?_ _)); exact BK176.out) hb); have n1_ := Aside0.mk (blk_below (g := gb186) (o := .cells #[.int .i64 (rd t180 0), .int .i64 (rd t180 1), .int .i64 x187002_2] 31 (0, 0)) (by (with_reducible repeat (first | refine blk_drewN ?_ _ | refine blk_drew ?_ | refine blk_alloc ?_ _)); exact BK186.out) hb); have n2_ := Aside0.mk (below_step (by repeat (first | (with_reducible first | exact HB.out | apply below_alloc | apply pw_below_drewN | apply below_drew1 | refine below_set ?_ GE176.out | refine below_set ?_ GE186.out) | exact HB.out)) hb); clear BK176; clear BK186; clear HB; have BK176 := n0_; have BK186 := n1_; have HB := n2_; clear n0_ n1_ n2_; (try clear hb); (try clear hb2); (try clear hk); (try clear hi); have hcz37_0 : w36.cell? ⟨gb186, 0, none⟩ = some (.int .i64 (rd t180 0)) := (blk_cell BK186.out 0).trans rfl; have hcz37_1 : w36.cell? ⟨gb186, 1, none⟩ = some (.int .i64 (rd t180 1)) := (blk_cell BK186.out 1).trans rfl; have hcz37_2 : w36.cell? ⟨gb186, 2, none⟩ = some (.int .i64 x187002_2) := (blk_cell BK186.out 2).trans rfl; have hfz37_0 := blk_frozen BK186.out 0; have hfz37_1 := blk_frozen BK186.out 1; have hfz37_2 := blk_frozen BK186.out 2; have hcz38_0 : w36.cell? ⟨gb176, 0, none⟩ = some (.int .i64 0) := (blk_cell BK176.out 0).trans rfl; have hcz38_1 : w36.cell? ⟨gb176, 1, none⟩ = some (.int .i64 0) := (blk_cell BK176.out 1).trans rfl; have hcz38_2 : w36.cell? ⟨gb176, 2, none⟩ = some (.int .i64 0) := (blk_cell BK176.out 2).trans rfl; have hfz38_0 := blk_frozen BK176.out 0; have hfz38_1 := blk_frozen BK176.out 1; have hfz38_2 := blk_frozen BK176.out 2))
                      refine bodyPost_ret (results_ct rfl _ _ gb176 31 #[.int .i64 (rd t180 0), .int .i64 (rd t180 1), .int .i64 x187002_2] (0, 0) _ rfl (by (with_reducible repeat (first | refine blk_drewN ?_ _ | refine blk_drew ?_ | refine blk_alloc ?_ _)); refine blk_put (cs := #[.int .i64 (rd t180 0), .int .i64 (rd t180 1), .int .i64 0]) ?_ 2 _ rfl; (with_reducible repeat (first | refine blk_drewN ?_ _ | refine blk_drew ?_ | refine blk_alloc ?_ _)); refine blk_put (cs := #[.int .i64 (rd t180 0), .int .i64 0, .int .i64 0]) ?_ 1 _ rfl; (with_reducible repeat (first | refine blk_drewN ?_ _ | refine blk_drew ?_ | refine blk_alloc ?_ _)); refine blk_put (cs := #[.int .i64 0, .int .i64 0, .int .i64 0]) ?_ 0 _ rfl; (with_reducible repeat (first | refine blk_drewN ?_ _ | refine blk_drew ?_ | refine blk_alloc ?_ _)); exact BK176.out) Tryd.underlying31 rfl (by kernel_rfl)) rfl ?_
                      exact ⟨by first | rfl | (simp [errW_none, errW_some] <;> rfl) | (simp [*, errW_none, errW_some] <;> rfl), by repeat (first | (with_reducible first | exact HB.out | apply below_alloc | apply pw_below_drewN | apply below_drew1 | refine below_set ?_ GE176.out | refine below_set ?_ GE186.out) | exact HB.out)⟩
                    · rw [if_neg c33] at H
                      have c33b0 : (t187.toList == a0.toList) = false := beq_eq_false_iff_ne.mpr c33
                      have c33b1 : (t187.toList != a0.toList) = true := bne_iff_ne.mpr c33
                      simp only [Option.some.injEq, Prod.mk.injEq] at H
                      obtain ⟨rfl, rfl, rfl, rfl⟩ := H
                      have hnb39 := NB186_176.out
                      have hnc39 := NB176_186.out
                      have hcz40_0 : wr.cell? ⟨gb186, 0, none⟩ = some (.int .i64 (rd t180 0)) := (blk_cell BK186.out 0).trans rfl
                      have hcz40_1 : wr.cell? ⟨gb186, 1, none⟩ = some (.int .i64 (rd t180 1)) := (blk_cell BK186.out 1).trans rfl
                      have hcz40_2 : wr.cell? ⟨gb186, 2, none⟩ = some (.int .i64 x187002_2) := (blk_cell BK186.out 2).trans rfl
                      have hfz40_0 := blk_frozen BK186.out 0
                      have hfz40_1 := blk_frozen BK186.out 1
                      have hfz40_2 := blk_frozen BK186.out 2
                      go_wp2_with (first | ((with_reducible refine gate_callee (f := 24) rfl ?_); refine goesL_ (some 61) rfl rfl Tryd.func24 (by kernel_rfl) rfl #[.agg #[.int .i64 (rd t180 0), .int .i64 (rd t180 1), .int .i64 x187002_2]] rfl (by (try simp only [List.map_toArray, List.map_cons, List.map_nil]); first | done | rfl | (simp only [List.length_drop, List.length_take]; rfl)) ?_; (with_reducible refine (impl_BoxesText.calls k2 (rd t180 0) (rd t180 1) x187002_2 t187 t188 _ A31.out).mono ?_); rintro e w41 ⟨rfl, hb⟩; refine ⟨_, rfl, ?_⟩; have n0_ := Aside0.mk (blk_below (g := gb176) (o := .cells #[.int .i64 0, .int .i64 0, .int .i64 0] 31 (0, 0)) (by (with_reducible repeat (first | refine blk_drewN ?_ _ | refine blk_drew ?_ | refine blk_alloc ?_ _)); exact BK176.out) hb); have n1_ := Aside0.mk (blk_below (g := gb186) (o := .cells #[.int .i64 (rd t180 0), .int .i64 (rd t180 1), .int .i64 x187002_2] 31 (0, 0)) (by (with_reducible repeat (first | refine blk_drewN ?_ _ | refine blk_drew ?_ | refine blk_alloc ?_ _)); exact BK186.out) hb); have n2_ := Aside0.mk (below_step (by repeat (first | (with_reducible first | exact HB.out | apply below_alloc | apply pw_below_drewN | apply below_drew1 | refine below_set ?_ GE176.out | refine below_set ?_ GE186.out) | exact HB.out)) hb); clear BK176; clear BK186; clear HB; have BK176 := n0_; have BK186 := n1_; have HB := n2_; clear n0_ n1_ n2_; (try clear hb); (try clear hb2); (try clear hk); (try clear hi); have hcz42_0 : w41.cell? ⟨gb176, 0, none⟩ = some (.int .i64 0) := (blk_cell BK176.out 0).trans rfl; have hcz42_1 : w41.cell? ⟨gb176, 1, none⟩ = some (.int .i64 0) := (blk_cell BK176.out 1).trans rfl; have hcz42_2 : w41.cell? ⟨gb176, 2, none⟩ = some (.int .i64 0) := (blk_cell BK176.out 2).trans rfl; have hfz42_0 := blk_frozen BK176.out 0; have hfz42_1 := blk_frozen BK176.out 1; have hfz42_2 := blk_frozen BK176.out 2))
                      refine bodyPost_ret (results_ct rfl _ _ gb176 31 #[.int .i64 0, .int .i64 0, .int .i64 0] (0, 0) _ rfl (by (with_reducible repeat (first | refine blk_drewN ?_ _ | refine blk_drew ?_ | refine blk_alloc ?_ _)); refine blk_put (cs := #[.int .i64 0, .int .i64 0, .int .i64 0]) ?_ 2 _ rfl; (with_reducible repeat (first | refine blk_drewN ?_ _ | refine blk_drew ?_ | refine blk_alloc ?_ _)); refine blk_put (cs := #[.int .i64 0, .int .i64 0, .int .i64 0]) ?_ 1 _ rfl; (with_reducible repeat (first | refine blk_drewN ?_ _ | refine blk_drew ?_ | refine blk_alloc ?_ _)); refine blk_put (cs := #[.int .i64 0, .int .i64 0, .int .i64 0]) ?_ 0 _ rfl; (with_reducible repeat (first | refine blk_drewN ?_ _ | refine blk_drew ?_ | refine blk_alloc ?_ _)); exact BK176.out) Tryd.underlying31 rfl (by kernel_rfl)) rfl ?_
                      exact ⟨by first | rfl | (simp [errW_none, errW_some] <;> rfl) | (simp [*, errW_none, errW_some] <;> rfl), by repeat (first | (with_reducible first | exact HB.out | apply below_alloc | apply pw_below_drewN | apply below_drew1 | refine below_set ?_ GE176.out | refine below_set ?_ GE186.out) | exact HB.out)⟩
                  · rw [if_neg c32] at H
                    have c32b0 : (t188 == 0) = false := beq_eq_false_iff_ne.mpr c32
                    have c32b1 : (t188 != 0) = true := bne_iff_ne.mpr c32
                    simp only [Option.some.injEq, Prod.mk.injEq] at H
                    obtain ⟨rfl, rfl, rfl, rfl⟩ := H
                    have hnb43 := NB186_176.out
                    have hnc43 := NB176_186.out
                    have hcz44_0 : wr.cell? ⟨gb186, 0, none⟩ = some (.int .i64 (rd t180 0)) := (blk_cell BK186.out 0).trans rfl
                    have hcz44_1 : wr.cell? ⟨gb186, 1, none⟩ = some (.int .i64 (rd t180 1)) := (blk_cell BK186.out 1).trans rfl
                    have hcz44_2 : wr.cell? ⟨gb186, 2, none⟩ = some (.int .i64 x187002_2) := (blk_cell BK186.out 2).trans rfl
                    have hfz44_0 := blk_frozen BK186.out 0
                    have hfz44_1 := blk_frozen BK186.out 1
                    have hfz44_2 := blk_frozen BK186.out 2
                    go_wp2_with (first | ((with_reducible refine gate_callee (f := 24) rfl ?_); refine goesL_ (some 61) rfl rfl Tryd.func24 (by kernel_rfl) rfl #[.agg #[.int .i64 (rd t180 0), .int .i64 (rd t180 1), .int .i64 x187002_2]] rfl (by (try simp only [List.map_toArray, List.map_cons, List.map_nil]); first | done | rfl | (simp only [List.length_drop, List.length_take]; rfl)) ?_; (with_reducible refine (impl_BoxesText.calls k2 (rd t180 0) (rd t180 1) x187002_2 t187 t188 _ A31.out).mono ?_); rintro e w45 ⟨rfl, hb⟩; refine ⟨_, rfl, ?_⟩; have n0_ := Aside0.mk (blk_below (g := gb176) (o := .cells #[.int .i64 0, .int .i64 0, .int .i64 0] 31 (0, 0)) (by (with_reducible repeat (first | refine blk_drewN ?_ _ | refine blk_drew ?_ | refine blk_alloc ?_ _)); exact BK176.out) hb); have n1_ := Aside0.mk (blk_below (g := gb186) (o := .cells #[.int .i64 (rd t180 0), .int .i64 (rd t180 1), .int .i64 x187002_2] 31 (0, 0)) (by (with_reducible repeat (first | refine blk_drewN ?_ _ | refine blk_drew ?_ | refine blk_alloc ?_ _)); exact BK186.out) hb); have n2_ := Aside0.mk (below_step (by repeat (first | (with_reducible first | exact HB.out | apply below_alloc | apply pw_below_drewN | apply below_drew1 | refine below_set ?_ GE176.out | refine below_set ?_ GE186.out) | exact HB.out)) hb); clear BK176; clear BK186; clear HB; have BK176 := n0_; have BK186 := n1_; have HB := n2_; clear n0_ n1_ n2_; (try clear hb); (try clear hb2); (try clear hk); (try clear hi); have hcz46_0 : w45.cell? ⟨gb176, 0, none⟩ = some (.int .i64 0) := (blk_cell BK176.out 0).trans rfl; have hcz46_1 : w45.cell? ⟨gb176, 1, none⟩ = some (.int .i64 0) := (blk_cell BK176.out 1).trans rfl; have hcz46_2 : w45.cell? ⟨gb176, 2, none⟩ = some (.int .i64 0) := (blk_cell BK176.out 2).trans rfl; have hfz46_0 := blk_frozen BK176.out 0; have hfz46_1 := blk_frozen BK176.out 1; have hfz46_2 := blk_frozen BK176.out 2))
                    refine bodyPost_ret (results_ct rfl _ _ gb176 31 #[.int .i64 0, .int .i64 0, .int .i64 0] (0, 0) _ rfl (by (with_reducible repeat (first | refine blk_drewN ?_ _ | refine blk_drew ?_ | refine blk_alloc ?_ _)); refine blk_put (cs := #[.int .i64 0, .int .i64 0, .int .i64 0]) ?_ 2 _ rfl; (with_reducible repeat (first | refine blk_drewN ?_ _ | refine blk_drew ?_ | refine blk_alloc ?_ _)); refine blk_put (cs := #[.int .i64 0, .int .i64 0, .int .i64 0]) ?_ 1 _ rfl; (with_reducible repeat (first | refine blk_drewN ?_ _ | refine blk_drew ?_ | refine blk_alloc ?_ _)); refine blk_put (cs := #[.int .i64 0, .int .i64 0, .int .i64 0]) ?_ 0 _ rfl; (with_reducible repeat (first | refine blk_drewN ?_ _ | refine blk_drew ?_ | refine blk_alloc ?_ _)); exact BK176.out) Tryd.underlying31 rfl (by kernel_rfl)) rfl ?_
                    exact ⟨by first | rfl | (simp [errW_none, errW_some] <;> rfl) | (simp [*, errW_none, errW_some] <;> rfl), by repeat (first | (with_reducible first | exact HB.out | apply below_alloc | apply pw_below_drewN | apply below_drew1 | refine below_set ?_ GE176.out | refine below_set ?_ GE186.out) | exact HB.out)⟩
          · rw [if_neg c15] at H
            exact absurd H (by simp)
        · rw [if_neg c14] at H
          exact absurd H (by simp)

end Go.Proofs.YtfcafnnpejngiaaDoor.PX

namespace Go.Proofs.YtfcafnnpejngiaaDoor.PX
open Go.RowKit Go.Proofs.YtfcafnnpejngiaaDoorW.PrintWords Go.Proofs.YtfcafnnpejngiaaDoorW.PrintLast Go.Proofs.YtfcafnnpejngiaaDoorW.PrintMore
attribute [local go_sem] max2_int min2_int max_two min_two max_three min_three max_four min_four   -- for this text's walks alone
set_option linter.unusedVariables false
set_option linter.unusedSimpArgs false

/-! ### laws_FnExactParseBoxes: function 4 -/
def laws_FnExactParseBoxes.f (k : Nat) (a0 : ByteArray) : Option (Bool) := if (a0.size : Int) > 1048576 then (some true) else ((spec_ParseBoxes.f k a0).bind fun bt191 => ((impl_ParseBoxes.f k a0).bind fun bt196 => ((laws_eqBoxes.f bt196.1 bt196.2.1 bt196.2.2.1 bt191.1 bt191.2.1 bt191.2.2.1).bind fun t201 => (if t201 = true then (if bt196.2.2.2 = bt191.2.2.2 then (some true) else (some false)) else (some false)))))
theorem laws_FnExactParseBoxes.mono : ∀ a0 k, LeO (laws_FnExactParseBoxes.f k a0) (laws_FnExactParseBoxes.f (k + 1) a0) := by
  intro a0 k
  unfold laws_FnExactParseBoxes.f
  repeat' first
      | (with_reducible exact impl_ParseBoxes.mono _ _)
      | (with_reducible exact spec_ParseBoxes.mono _ _)
      | (with_reducible exact LeO.refl _)
      | (with_reducible exact LeO.none _)
      | (with_reducible refine LeO.ite ?_ ?_)
      | (with_reducible refine LeO.bind ?_ (fun _ => ?_))
      | exact impl_ParseBoxes.mono _ _
      | exact spec_ParseBoxes.mono _ _
      | exact LeO.none _
      | refine LeO.ite ?_ ?_
      | refine LeO.bind ?_ (fun _ => ?_)
set_option maxHeartbeats 8000000 in
set_option maxRecDepth 100000 in
theorem laws_FnExactParseBoxes.calls (k : Nat) (a0 : ByteArray) (r : Bool) (w : World) (h : laws_FnExactParseBoxes.f k a0 = some r) (hG : Good w) :
    Calls Tryd.prog 4 #[.string a0] w fun e w' => e = .returned (.bool r) ∧ Below w.heap.size w w' := by
  have HG := Aside0.mk hG
  clear hG
  have hu31 := Tryd.underlying31
  have HB := Aside0.mk (Below.refl w.heap.size w)
  have H : (if (a0.size : Int) > 1048576 then (some true) else ((spec_ParseBoxes.f k a0).bind fun bt191 => ((impl_ParseBoxes.f k a0).bind fun bt196 => ((laws_eqBoxes.f bt196.1 bt196.2.1 bt196.2.2.1 bt191.1 bt191.2.1 bt191.2.2.1).bind fun t201 => (if t201 = true then (if bt196.2.2.2 = bt191.2.2.2 then (some true) else (some false)) else (some false)))))) = some r := h
  clear h
  by_cases c2 : (a0.size : Int) > 1048576
  · rw [if_pos c2] at H
    have c2b0 : decide (1048576 < (a0.size : Int)) = true := decide_eq_true c2
    have c2b1 : decide (1048576 < a0.size) = true := decide_eq_true (by omega)
    clear c2
    obtain rfl := Option.some.inj H
    go_enter Tryd.func4, Tryd.ntmps4
    go_wp2
    go_ret
    exact ⟨by first | rfl | (simp [errW_none, errW_some] <;> rfl) | (simp [*, errW_none, errW_some] <;> rfl), by repeat (first | (with_reducible first | exact HB.out | apply below_alloc | apply pw_below_drewN | apply below_drew1) | exact HB.out)⟩
  · rw [if_neg c2] at H
    have c2b0 : decide (1048576 < (a0.size : Int)) = false := decide_eq_false c2
    have c2b1 : decide (1048576 < a0.size) = false := decide_eq_false (by omega)
    clear c2
    replace H := Option.bind_eq_some_iff.mp H
    obtain ⟨⟨t191, t192, t193, t194⟩, A30, H⟩ := H
    replace H : ((impl_ParseBoxes.f k a0).bind fun bt196 => ((laws_eqBoxes.f bt196.1 bt196.2.1 bt196.2.2.1 t191 t192 t193).bind fun t201 => (if t201 = true then (if bt196.2.2.2 = t194 then (some true) else (some false)) else (some false)))) = some r := H
    have A3 := Aside0.mk A30
    clear A30
    replace H := Option.bind_eq_some_iff.mp H
    obtain ⟨⟨t196, t197, t198, t199⟩, A40, H⟩ := H
    replace H : ((laws_eqBoxes.f t196 t197 t198 t191 t192 t193).bind fun t201 => (if t201 = true then (if t199 = t194 then (some true) else (some false)) else (some false))) = some r := H
    have A4 := Aside0.mk A40
    clear A40
    replace H := Option.bind_eq_some_iff.mp H
    obtain ⟨t201, A50, H⟩ := H
    replace H : (if t201 = true then (if t199 = t194 then (some true) else (some false)) else (some false)) = some r := H
    have A5 := Aside0.mk A50
    clear A50
    by_cases c6 : t201 = true
    · subst c6
      have H1 : (if t199 = t194 then (some true) else (some false)) = some r := by rw [if_pos rfl] at H; exact H
      clear H
      have H := H1
      clear H1
      by_cases c7 : t199 = t194
      · rw [if_pos c7] at H
        have c7b0 : (t199 == t194) = true := beq_iff_eq.mpr c7
        have c7b1 : (t199 != t194) = false := bne_eq_false_iff_eq.mpr c7
        clear c7
        obtain rfl := Option.some.inj H
        go_enter Tryd.func4, Tryd.ntmps4
        go_wp2_with (first | ((with_reducible refine gate_callee (f := 10) rfl ?_); refine goesL_ (some 12) rfl rfl Tryd.func10 (by kernel_rfl) rfl #[.string a0] rfl (by (try simp only [List.map_toArray, List.map_cons, List.map_nil]); first | done | rfl | (simp only [List.length_drop, List.length_take]; rfl)) ?_; (with_reducible refine (spec_ParseBoxes.calls k a0 t191 t192 t193 t194 _ A3.out).mono ?_); rintro e w8 ⟨rfl, hb⟩; refine ⟨_, rfl, ?_⟩; have n0_ := Aside0.mk (below_step (by repeat (first | (with_reducible first | exact HB.out | apply below_alloc | apply pw_below_drewN | apply below_drew1) | exact HB.out)) hb); clear HB; have HB := n0_; clear n0_; (try clear hb); (try clear hb2); (try clear hk); (try clear hi)) | ((with_reducible refine gate_dst (N := 3) rfl ?_); refine box_event ?hg (N := 3) ?hd (cs := #[.int .i64 0, .int .i64 0, .int .i64 0]) (t := 31) ?hr ?_; (case hd => rfl); (case hg => rfl); (case hr => first | (go_simp; done) | (go_simp; rfl)); intro gb195 hg w9 hbox hb; have n0_ := Aside0.mk (below_step (by repeat (first | (with_reducible first | exact HB.out | apply below_alloc | apply pw_below_drewN | apply below_drew1) | exact HB.out)) hb); have n1_ := Aside0.mk (hbox); have n2_ := Aside0.mk ((by rw [hg]; exact (below_size (by repeat (first | (with_reducible first | exact HB.out | apply below_alloc | apply pw_below_drewN | apply below_drew1) | exact HB.out))) : w.heap.size ≤ gb195)); have n3_ := Aside0.mk ((by rw [hg]; exact (below_size (by repeat (first | (with_reducible first | exact HB.out | apply below_alloc | apply pw_below_drewN | apply below_drew1) | exact HB.out))) : w.heap.size ≤ gb195)); clear HB; have HB := n0_; have BK195 := n1_; have GW195 := n2_; have GE195 := n3_; clear n0_ n1_ n2_ n3_; clear hb hbox hg; have hcz10_0 : w9.cell? ⟨gb195, 0, none⟩ = some (.int .i64 0) := (blk_cell BK195.out 0).trans rfl; have hcz10_1 : w9.cell? ⟨gb195, 1, none⟩ = some (.int .i64 0) := (blk_cell BK195.out 1).trans rfl; have hcz10_2 : w9.cell? ⟨gb195, 2, none⟩ = some (.int .i64 0) := (blk_cell BK195.out 2).trans rfl; have hfz10_0 := blk_frozen BK195.out 0; have hfz10_1 := blk_frozen BK195.out 1; have hfz10_2 := blk_frozen BK195.out 2) | ((with_reducible refine gate_callee (f := 11) rfl ?_); refine goesL_ (some 17) rfl rfl Tryd.func11 (by kernel_rfl) rfl #[.string a0] rfl (by (try simp only [List.map_toArray, List.map_cons, List.map_nil]); first | done | rfl | (simp only [List.length_drop, List.length_take]; rfl)) ?_; (with_reducible refine (impl_ParseBoxes.calls k a0 t196 t197 t198 t199 _ A4.out (HG.out.below (by repeat (first | (with_reducible first | exact HB.out | apply below_alloc | apply pw_below_drewN | apply below_drew1 | refine below_set ?_ GE195.out | refine below_set ?_ GE200.out) | exact HB.out)))).mono ?_); rintro e w11 ⟨rfl, hb⟩; refine ⟨_, rfl, ?_⟩; have n0_ := Aside0.mk (blk_below (g := gb195) (o := .cells #[.int .i64 t191, .int .i64 t192, .int .i64 t193] 31 (0, 0)) (by (with_reducible repeat (first | refine blk_drewN ?_ _ | refine blk_drew ?_ | refine blk_alloc ?_ _)); refine blk_put (cs := #[.int .i64 t191, .int .i64 t192, .int .i64 0]) ?_ 2 _ rfl; (with_reducible repeat (first | refine blk_drewN ?_ _ | refine blk_drew ?_ | refine blk_alloc ?_ _)); refine blk_put (cs := #[.int .i64 t191, .int .i64 0, .int .i64 0]) ?_ 1 _ rfl; (with_reducible repeat (first | refine blk_drewN ?_ _ | refine blk_drew ?_ | refine blk_alloc ?_ _)); refine blk_put (cs := #[.int .i64 0, .int .i64 0, .int .i64 0]) ?_ 0 _ rfl; (with_reducible repeat (first | refine blk_drewN ?_ _ | refine blk_drew ?_ | refine blk_alloc ?_ _)); exact BK195.out) hb); have n1_ := Aside0.mk (below_step (by repeat (first | (with_reducible first | exact HB.out | apply below_alloc | apply pw_below_drewN | apply below_drew1 | refine below_set ?_ GE195.out) | exact HB.out)) hb); clear BK195; clear HB; have BK195 := n0_; have HB := n1_; clear n0_ n1_; (try clear hb); (try clear hb2); (try clear hk); (try clear hi)) | ((with_reducible refine gate_dst (N := 5) rfl ?_); refine box_event ?hg (N := 5) ?hd (cs := #[.int .i64 0, .int .i64 0, .int .i64 0]) (t := 31) ?hr ?_; (case hd => rfl); (case hg => rfl); (case hr => first | (go_simp; done) | (go_simp; rfl)); intro gb200 hg w12 hbox hb; have n0_ := Aside0.mk (blk_below (g := gb195) (o := .cells #[.int .i64 t191, .int .i64 t192, .int .i64 t193] 31 (0, 0)) (by (with_reducible repeat (first | refine blk_drewN ?_ _ | refine blk_drew ?_ | refine blk_alloc ?_ _)); exact BK195.out) hb); have n1_ := Aside0.mk (below_step (by repeat (first | (with_reducible first | exact HB.out | apply below_alloc | apply pw_below_drewN | apply below_drew1 | refine below_set ?_ GE195.out) | exact HB.out)) hb); have n2_ := Aside0.mk (hbox); have n3_ := Aside0.mk ((by rw [hg]; exact (below_size (by repeat (first | (with_reducible first | exact HB.out | apply below_alloc | apply pw_below_drewN | apply below_drew1 | refine below_set ?_ GE195.out) | exact HB.out))) : w.heap.size ≤ gb200)); have n4_ := Aside0.mk ((by rw [hg]; exact (below_size (by repeat (first | (with_reducible first | exact HB.out | apply below_alloc | apply pw_below_drewN | apply below_drew1 | refine below_set ?_ GE195.out) | exact HB.out))) : w.heap.size ≤ gb200)); have n5_ := Aside0.mk ((by rw [hg]; exact Nat.ne_of_lt (blk_lt (g := gb195) (o := .cells #[.int .i64 t191, .int .i64 t192, .int .i64 t193] 31 (0, 0)) (by (with_reducible repeat (first | refine blk_drewN ?_ _ | refine blk_drew ?_ | refine blk_alloc ?_ _)); exact BK195.out)) : gb195 ≠ gb200)); have n6_ := Aside0.mk ((by rw [hg]; exact Nat.ne_of_gt (blk_lt (g := gb195) (o := .cells #[.int .i64 t191, .int .i64 t192, .int .i64 t193] 31 (0, 0)) (by (with_reducible repeat (first | refine blk_drewN ?_ _ | refine blk_drew ?_ | refine blk_alloc ?_ _)); exact BK195.out)) : gb200 ≠ gb195)); clear BK195; clear HB; have BK195 := n0_; have HB := n1_; have BK200 := n2_; have GW200 := n3_; have GE200 := n4_; have NB195_200 := n5_; have NB200_195 := n6_; clear n0_ n1_ n2_ n3_ n4_ n5_ n6_; clear hb hbox hg; have hnb13 := NB200_195.out; have hnc13 := NB195_200.out; have hcz14_0 : w12.cell? ⟨gb200, 0, none⟩ = some (.int .i64 0) := (blk_cell BK200.out 0).trans rfl; have hcz14_1 : w12.cell? ⟨gb200, 1, none⟩ = some (.int .i64 0) := (blk_cell BK200.out 1).trans rfl; have hcz14_2 : w12.cell? ⟨gb200, 2, none⟩ = some (.int .i64 0) := (blk_cell BK200.out 2).trans rfl; have hfz14_0 := blk_frozen BK200.out 0; have hfz14_1 := blk_frozen BK200.out 1; have hfz14_2 := blk_frozen BK200.out 2; have hcz15_0 : w12.cell? ⟨gb195, 0, none⟩ = some (.int .i64 t191) := (blk_cell BK195.out 0).trans rfl; have hcz15_1 : w12.cell? ⟨gb195, 1, none⟩ = some (.int .i64 t192) := (blk_cell BK195.out 1).trans rfl; have hcz15_2 : w12.cell? ⟨gb195, 2, none⟩ = some (.int .i64 t193) := (blk_cell BK195.out 2).trans rfl; have hfz15_0 := blk_frozen BK195.out 0; have hfz15_1 := blk_frozen BK195.out 1; have hfz15_2 := blk_frozen BK195.out 2) | ((with_reducible refine gate_callee (f := 12) rfl ?_); refine goesL_ (some 22) rfl rfl Tryd.func12 (by kernel_rfl) rfl #[.agg #[.int .i64 t196, .int .i64 t197, .int .i64 t198], .agg #[.int .i64 t191, .int .i64 t192, .int .i64 t193]] rfl (by (try simp only [List.map_toArray, List.map_cons, List.map_nil]); first | done | rfl | (simp only [List.length_drop, List.length_take]; rfl)) ?_; (with_reducible refine (laws_eqBoxes.calls t196 t197 t198 t191 t192 t193 true _ A5.out).mono ?_); rintro e w16 ⟨rfl, hb⟩; refine ⟨_, rfl, ?_⟩; have n0_ := Aside0.mk (blk_below (g := gb195) (o := .cells #[.int .i64 t191, .int .i64 t192, .int .i64 t193] 31 (0, 0)) (by (with_reducible repeat (first | refine blk_drewN ?_ _ | refine blk_drew ?_ | refine blk_alloc ?_ _)); refine blk_far ?_ NB195_200.out _; (with_reducible repeat (first | refine blk_drewN ?_ _ | refine blk_drew ?_ | refine blk_alloc ?_ _)); refine blk_far ?_ NB195_200.out _; (with_reducible repeat (first | refine blk_drewN ?_ _ | refine blk_drew ?_ | refine blk_alloc ?_ _)); refine blk_far ?_ NB195_200.out _; (with_reducible repeat (first | refine blk_drewN ?_ _ | refine blk_drew ?_ | refine blk_alloc ?_ _)); exact BK195.out) hb); have n1_ := Aside0.mk (blk_below (g := gb200) (o := .cells #[.int .i64 t196, .int .i64 t197, .int .i64 t198] 31 (0, 0)) (by (with_reducible repeat (first | refine blk_drewN ?_ _ | refine blk_drew ?_ | refine blk_alloc ?_ _)); refine blk_put (cs := #[.int .i64 t196, .int .i64 t197, .int .i64 0]) ?_ 2 _ rfl; (with_reducible repeat (first | refine blk_drewN ?_ _ | refine blk_drew ?_ | refine blk_alloc ?_ _)); refine blk_put (cs := #[.int .i64 t196, .int .i64 0, .int .i64 0]) ?_ 1 _ rfl; (with_reducible repeat (first | refine blk_drewN ?_ _ | refine blk_drew ?_ | refine blk_alloc ?_ _)); refine blk_put (cs := #[.int .i64 0, .int .i64 0, .int .i64 0]) ?_ 0 _ rfl; (with_reducible repeat (first | refine blk_drewN ?_ _ | refine blk_drew ?_ | refine blk_alloc ?_ _)); exact BK200.out) hb); have n2_ := Aside0.mk (below_step (by repeat (first | (with_reducible first | exact HB.out | apply below_alloc | apply pw_below_drewN | apply below_drew1 | refine below_set ?_ GE195.out | refine below_set ?_ GE200.out) | exact HB.out)) hb); clear BK195; clear BK200; clear HB; have BK195 := n0_; have BK200 := n1_; have HB := n2_; clear n0_ n1_ n2_; (try clear hb); (try clear hb2); (try clear hk); (try clear hi)))
        go_ret
        exact ⟨by first | rfl | (simp [errW_none, errW_some] <;> rfl) | (simp [*, errW_none, errW_some] <;> rfl), by repeat (first | (with_reducible first | exact HB.out | apply below_alloc | apply pw_below_drewN | apply below_drew1 | refine below_set ?_ GE195.out | refine below_set ?_ GE200.out) | exact HB.out)⟩
      · rw [if_neg c7] at H
        have c7b0 : (t199 == t194) = false := beq_eq_false_iff_ne.mpr c7
        have c7b1 : (t199 != t194) = true := bne_iff_ne.mpr c7
        obtain rfl := Option.some.inj H
        go_enter Tryd.func4, Tryd.ntmps4
        go_wp2_with (first | ((with_reducible refine gate_callee (f := 10) rfl ?_); refine goesL_ (some 12) rfl rfl Tryd.func10 (by kernel_rfl) rfl #[.string a0] rfl (by (try simp only [List.map_toArray, List.map_cons, List.map_nil]); first | done | rfl | (simp only [List.length_drop, List.length_take]; rfl)) ?_; (with_reducible refine (spec_ParseBoxes.calls k a0 t191 t192 t193 t194 _ A3.out).mono ?_); rintro e w17 ⟨rfl, hb⟩; refine ⟨_, rfl, ?_⟩; have n0_ := Aside0.mk (below_step (by repeat (first | (with_reducible first | exact HB.out | apply below_alloc | apply pw_below_drewN | apply below_drew1) | exact HB.out)) hb); clear HB; have HB := n0_; clear n0_; (try clear hb); (try clear hb2); (try clear hk); (try clear hi)) | ((with_reducible refine gate_dst (N := 3) rfl ?_); refine box_event ?hg (N := 3) ?hd (cs := #[.int .i64 0, .int .i64 0, .int .i64 0]) (t := 31) ?hr ?_; (case hd => rfl); (case hg => rfl); (case hr => first | (go_simp; done) | (go_simp; rfl)); intro gb195 hg w18 hbox hb; have n0_ := Aside0.mk (below_step (by repeat (first | (with_reducible first | exact HB.out | apply below_alloc | apply pw_below_drewN | apply below_drew1) | exact HB.out)) hb); have n1_ := Aside0.mk (hbox); have n2_ := Aside0.mk ((by rw [hg]; exact (below_size (by repeat (first | (with_reducible first | exact HB.out | apply below_alloc | apply pw_below_drewN | apply below_drew1) | exact HB.out))) : w.heap.size ≤ gb195)); have n3_ := Aside0.mk ((by rw [hg]; exact (below_size (by repeat (first | (with_reducible first | exact HB.out | apply below_alloc | apply pw_below_drewN | apply below_drew1) | exact HB.out))) : w.heap.size ≤ gb195)); clear HB; have HB := n0_; have BK195 := n1_; have GW195 := n2_; have GE195 := n3_; clear n0_ n1_ n2_ n3_; clear hb hbox hg; have hcz19_0 : w18.cell? ⟨gb195, 0, none⟩ = some (.int .i64 0) := (blk_cell BK195.out 0).trans rfl; have hcz19_1 : w18.cell? ⟨gb195, 1, none⟩ = some (.int .i64 0) := (blk_cell BK195.out 1).trans rfl; have hcz19_2 : w18.cell? ⟨gb195, 2, none⟩ = some (.int .i64 0) := (blk_cell BK195.out 2).trans rfl; have hfz19_0 := blk_frozen BK195.out 0; have hfz19_1 := blk_frozen BK195.out 1; have hfz19_2 := blk_frozen BK195.out 2) | ((with_reducible refine gate_callee (f := 11) rfl ?_); refine goesL_ (some 17) rfl rfl Tryd.func11 (by kernel_rfl) rfl #[.string a0] rfl (by (try simp only [List.map_toArray, List.map_cons, List.map_nil]); first | done | rfl | (simp only [List.length_drop, List.length_take]; rfl)) ?_; (with_reducible refine (impl_ParseBoxes.calls k a0 t196 t197 t198 t199 _ A4.out (HG.out.below (by repeat (first | (with_reducible first | exact HB.out | apply below_alloc | apply pw_below_drewN | apply below_drew1 | refine below_set ?_ GE195.out | refine below_set ?_ GE200.out) | exact HB.out)))).mono ?_); rintro e w20 ⟨rfl, hb⟩; refine ⟨_, rfl, ?_⟩; have n0_ := Aside0.mk (blk_below (g := gb195) (o := .cells #[.int .i64 t191, .int .i64 t192, .int .i64 t193] 31 (0, 0)) (by (with_reducible repeat (first | refine blk_drewN ?_ _ | refine blk_drew ?_ | refine blk_alloc ?_ _)); refine blk_put (cs := #[.int .i64 t191, .int .i64 t192, .int .i64 0]) ?_ 2 _ rfl; (with_reducible repeat (first | refine blk_drewN ?_ _ | refine blk_drew ?_ | refine blk_alloc ?_ _)); refine blk_put (cs := #[.int .i64 t191, .int .i64 0, .int .i64 0]) ?_ 1 _ rfl; (with_reducible repeat (first | refine blk_drewN ?_ _ | refine blk_drew ?_ | refine blk_alloc ?_ _)); refine blk_put (cs := #[.int .i64 0, .int .i64 0, .int .i64 0]) ?_ 0 _ rfl; (with_reducible repeat (first | refine blk_drewN ?_ _ | refine blk_drew ?_ | refine blk_alloc ?_ _)); exact BK195.out) hb); have n1_ := Aside0.mk (below_step (by repeat (first | (with_reducible first | exact HB.out | apply below_alloc | apply pw_below_drewN | apply below_drew1 | refine below_set ?_ GE195.out) | exact HB.out)) hb); clear BK195; clear HB; have BK195 := n0_; have HB := n1_; clear n0_ n1_; (try clear hb); (try clear hb2); (try clear hk); (try clear hi)) | ((with_reducible refine gate_dst (N := 5) rfl ?_); refine box_event ?hg (N := 5) ?hd (cs := #[.int .i64 0, .int .i64 0, .int .i64 0]) (t := 31) ?hr ?_; (case hd => rfl); (case hg => rfl); (case hr => first | (go_simp; done) | (go_simp; rfl)); intro gb200 hg w21 hbox hb; have n0_ := Aside0.mk (blk_below (g := gb195) (o := .cells #[.int .i64 t191, .int .i64 t192, .int .i64 t193] 31 (0, 0)) (by (with_reducible repeat (first | refine blk_drewN ?_ _ | refine blk_drew ?_ | refine blk_alloc ?_ _)); exact BK195.out) hb); have n1_ := Aside0.mk (below_step (by repeat (first | (with_reducible first | exact HB.out | apply below_alloc | apply pw_below_drewN | apply below_drew1 | refine below_set ?_ GE195.out) | exact HB.out)) hb); have n2_ := Aside0.mk (hbox); have n3_ := Aside0.mk ((by rw [hg]; exact (below_size (by repeat (first | (with_reducible first | exact HB.out | apply below_alloc | apply pw_below_drewN | apply below_drew1 | refine below_set ?_ GE195.out) | exact HB.out))) : w.heap.size ≤ gb200)); have n4_ := Aside0.mk ((by rw [hg]; exact (below_size (by repeat (first | (with_reducible first | exact HB.out | apply below_alloc | apply pw_below_drewN | apply below_drew1 | refine below_set ?_ GE195.out) | exact HB.out))) : w.heap.size ≤ gb200)); have n5_ := Aside0.mk ((by rw [hg]; exact Nat.ne_of_lt (blk_lt (g := gb195) (o := .cells #[.int .i64 t191, .int .i64 t192, .int .i64 t193] 31 (0, 0)) (by (with_reducible repeat (first | refine blk_drewN ?_ _ | refine blk_drew ?_ | refine blk_alloc ?_ _)); exact BK195.out)) : gb195 ≠ gb200)); have n6_ := Aside0.mk ((by rw [hg]; exact Nat.ne_of_gt (blk_lt (g := gb195) (o := .cells #[.int .i64 t191, .int .i64 t192, .int .i64 t193] 31 (0, 0)) (by (with_reducible repeat (first | refine blk_drewN ?_ _ | refine blk_drew ?_ | refine blk_alloc ?_ _)); exact BK195.out)) : gb200 ≠ gb195)); clear BK195; clear HB; have BK195 := n0_; have HB := n1_; have BK200 := n2_; have GW200 := n3_; have GE200 := n4_; have NB195_200 := n5_; have NB200_195 := n6_; clear n0_ n1_ n2_ n3_ n4_ n5_ n6_; clear hb hbox hg; have hnb22 := NB200_195.out; have hnc22 := NB195_200.out; have hcz23_0 : w21.cell? ⟨gb200, 0, none⟩ = some (.int .i64 0) := (blk_cell BK200.out 0).trans rfl; have hcz23_1 : w21.cell? ⟨gb200, 1, none⟩ = some (.int .i64 0) := (blk_cell BK200.out 1).trans rfl; have hcz23_2 : w21.cell? ⟨gb200, 2, none⟩ = some (.int .i64 0) := (blk_cell BK200.out 2).trans rfl; have hfz23_0 := blk_frozen BK200.out 0; have hfz23_1 := blk_frozen BK200.out 1; have hfz23_2 := blk_frozen BK200.out 2; have hcz24_0 : w21.cell? ⟨gb195, 0, none⟩ = some (.int .i64 t191) := (blk_cell BK195.out 0).trans rfl; have hcz24_1 : w21.cell? ⟨gb195, 1, none⟩ = some (.int .i64 t192) := (blk_cell BK195.out 1).trans rfl; have hcz24_2 : w21.cell? ⟨gb195, 2, none⟩ = some (.int .i64 t193) := (blk_cell BK195.out 2).trans rfl; have hfz24_0 := blk_frozen BK195.out 0; have hfz24_1 := blk_frozen BK195.out 1; have hfz24_2 := blk_frozen BK195.out 2) | ((with_reducible refine gate_callee (f := 12) rfl ?_); refine goesL_ (some 22) rfl rfl Tryd.func12 (by kernel_rfl) rfl #[.agg #[.int .i64 t196, .int .i64 t197, .int .i64 t198], .agg #[.int .i64 t191, .int .i64 t192, .int .i64 t193]] rfl (by (try simp only [List.map_toArray, List.map_cons, List.map_nil]); first | done | rfl | (simp only [List.length_drop, List.length_take]; rfl)) ?_; (with_reducible refine (laws_eqBoxes.calls t196 t197 t198 t191 t192 t193 true _ A5.out).mono ?_); rintro e w25 ⟨rfl, hb⟩; refine ⟨_, rfl, ?_⟩; have n0_ := Aside0.mk (blk_below (g := gb195) (o := .cells #[.int .i64 t191, .int .i64 t192, .int .i64 t193] 31 (0, 0)) (by (with_reducible repeat (first | refine blk_drewN ?_ _ | refine blk_drew ?_ | refine blk_alloc ?_ _)); refine blk_far ?_ NB195_200.out _; (with_reducible repeat (first | refine blk_drewN ?_ _ | refine blk_drew ?_ | refine blk_alloc ?_ _)); refine blk_far ?_ NB195_200.out _; (with_reducible repeat (first | refine blk_drewN ?_ _ | refine blk_drew ?_ | refine blk_alloc ?_ _)); refine blk_far ?_ NB195_200.out _; (with_reducible repeat (first | refine blk_drewN ?_ _ | refine blk_drew ?_ | refine blk_alloc ?_ _)); exact BK195.out) hb); have n1_ := Aside0.mk (blk_below (g := gb200) (o := .cells #[.int .i64 t196, .int .i64 t197, .int .i64 t198] 31 (0, 0)) (by (with_reducible repeat (first | refine blk_drewN ?_ _ | refine blk_drew ?_ | refine blk_alloc ?_ _)); refine blk_put (cs := #[.int .i64 t196, .int .i64 t197, .int .i64 0]) ?_ 2 _ rfl; (with_reducible repeat (first | refine blk_drewN ?_ _ | refine blk_drew ?_ | refine blk_alloc ?_ _)); refine blk_put (cs := #[.int .i64 t196, .int .i64 0, .int .i64 0]) ?_ 1 _ rfl; (with_reducible repeat (first | refine blk_drewN ?_ _ | refine blk_drew ?_ | refine blk_alloc ?_ _)); refine blk_put (cs := #[.int .i64 0, .int .i64 0, .int .i64 0]) ?_ 0 _ rfl; (with_reducible repeat (first | refine blk_drewN ?_ _ | refine blk_drew ?_ | refine blk_alloc ?_ _)); exact BK200.out) hb); have n2_ := Aside0.mk (below_step (by repeat (first | (with_reducible first | exact HB.out | apply below_alloc | apply pw_below_drewN | apply below_drew1 | refine below_set ?_ GE195.out | refine below_set ?_ GE200.out) | exact HB.out)) hb); clear BK195; clear BK200; clear HB; have BK195 := n0_; have BK200 := n1_; have HB := n2_; clear n0_ n1_ n2_; (try clear hb); (try clear hb2); (try clear hk); (try clear hi)))
        go_ret
        exact ⟨by first | rfl | (simp [errW_none, errW_some] <;> rfl) | (simp [*, errW_none, errW_some] <;> rfl), by repeat (first | (with_reducible first | exact HB.out | apply below_alloc | apply pw_below_drewN | apply below_drew1 | refine below_set ?_ GE195.out | refine below_set ?_ GE200.out) | exact HB.out)⟩
    · replace c6 := Bool.eq_false_iff.mpr c6
      subst c6
      have H1 : (some false) = some r := by rw [if_neg (show ¬ (false = true) by decide)] at H; exact H
      clear H
      have H := H1
      clear H1
      obtain rfl := Option.some.inj H
      go_enter Tryd.func4, Tryd.ntmps4
      go_wp2_with (first | ((with_reducible refine gate_callee (f := 10) rfl ?_); refine goesL_ (some 12) rfl rfl Tryd.func10 (by kernel_rfl) rfl #[.string a0] rfl (by (try simp only [List.map_toArray, List.map_cons, List.map_nil]); first | done | rfl | (simp only [List.length_drop, List.length_take]; rfl)) ?_; (with_reducible refine (spec_ParseBoxes.calls k a0 t191 t192 t193 t194 _ A3.out).mono ?_); rintro e w26 ⟨rfl, hb⟩; refine ⟨_, rfl, ?_⟩; have n0_ := Aside0.mk (below_step (by repeat (first | (with_reducible first | exact HB.out | apply below_alloc | apply pw_below_drewN | apply below_drew1) | exact HB.out)) hb); clear HB; have HB := n0_; clear n0_; (try clear hb); (try clear hb2); (try clear hk); (try clear hi)) | ((with_reducible refine gate_dst (N := 3) rfl ?_); refine box_event ?hg (N := 3) ?hd (cs := #[.int .i64 0, .int .i64 0, .int .i64 0]) (t := 31) ?hr ?_; (case hd => rfl); (case hg => rfl); (case hr => first | (go_simp; done) | (go_simp; rfl)); intro gb195 hg w27 hbox hb; have n0_ := Aside0.mk (below_step (by repeat (first | (with_reducible first | exact HB.out | apply below_alloc | apply pw_below_drewN | apply below_drew1) | exact HB.out)) hb); have n1_ := Aside0.mk (hbox); have n2_ := Aside0.mk ((by rw [hg]; exact (below_size (by repeat (first | (with_reducible first | exact HB.out | apply below_alloc | apply pw_below_drewN | apply below_drew1) | exact HB.out))) : w.heap.size ≤ gb195)); have n3_ := Aside0.mk ((by rw [hg]; exact (below_size (by repeat (first | (with_reducible first | exact HB.out | apply below_alloc | apply pw_below_drewN | apply below_drew1) | exact HB.out))) : w.heap.size ≤ gb195)); clear HB; have HB := n0_; have BK195 := n1_; have GW195 := n2_; have GE195 := n3_; clear n0_ n1_ n2_ n3_; clear hb hbox hg; have hcz28_0 : w27.cell? ⟨gb195, 0, none⟩ = some (.int .i64 0) := (blk_cell BK195.out 0).trans rfl; have hcz28_1 : w27.cell? ⟨gb195, 1, none⟩ = some (.int .i64 0) := (blk_cell BK195.out 1).trans rfl; have hcz28_2 : w27.cell? ⟨gb195, 2, none⟩ = some (.int .i64 0) := (blk_cell BK195.out 2).trans rfl; have hfz28_0 := blk_frozen BK195.out 0; have hfz28_1 := blk_frozen BK195.out 1; have hfz28_2 := blk_frozen BK195.out 2) | ((with_reducible refine gate_callee (f := 11) rfl ?_); refine goesL_ (some 17) rfl rfl Tryd.func11 (by kernel_rfl) rfl #[.string a0] rfl (by (try simp only [List.map_toArray, List.map_cons, List.map_nil]); first | done | rfl | (simp only [List.length_drop, List.length_take]; rfl)) ?_; (with_reducible refine (impl_ParseBoxes.calls k a0 t196 t197 t198 t199 _ A4.out (HG.out.below (by repeat (first | (with_reducible first | exact HB.out | apply below_alloc | apply pw_below_drewN | apply below_drew1 | refine below_set ?_ GE195.out | refine below_set ?_ GE200.out) | exact HB.out)))).mono ?_); rintro e w29 ⟨rfl, hb⟩; refine ⟨_, rfl, ?_⟩; have n0_ := Aside0.mk (blk_below (g := gb195) (o := .cells #[.int .i64 t191, .int .i64 t192, .int .i64 t193] 31 (0, 0)) (by (with_reducible repeat (first | refine blk_drewN ?_ _ | refine blk_drew ?_ | refine blk_alloc ?_ _)); refine blk_put (cs := #[.int .i64 t191, .int .i64 t192, .int .i64 0]) ?_ 2 _ rfl; (with_reducible repeat (first | refine blk_drewN ?_ _ | refine blk_drew ?_ | refine blk_alloc ?_ _)); refine blk_put (cs := #[.int .i64 t191, .int .i64 0, .int .i64 0]) ?_ 1 _ rfl; (with_reducible repeat (first | refine blk_drewN ?_ _ | refine blk_drew ?_ | refine blk_alloc ?_ _)); refine blk_put (cs := #[.int .i64 0, .int .i64 0, .int .i64 0]) ?_ 0 _ rfl; (with_reducible repeat (first | refine blk_drewN ?_ _ | refine blk_drew ?_ | refine blk_alloc ?_ _)); exact BK195.out) hb); have n1_ := Aside0.mk (below_step (by repeat (first | (with_reducible first | exact HB.out | apply below_alloc | apply pw_below_drewN | apply below_drew1 | refine below_set ?_ GE195.out) | exact HB.out)) hb); clear BK195; clear HB; have BK195 := n0_; have HB := n1_; clear n0_ n1_; (try clear hb); (try clear hb2); (try clear hk); (try clear hi)) | ((with_reducible refine gate_dst (N := 5) rfl ?_); refine box_event ?hg (N := 5) ?hd (cs := #[.int .i64 0, .int .i64 0, .int .i64 0]) (t := 31) ?hr ?_; (case hd => rfl); (case hg => rfl); (case hr => first | (go_simp; done) | (go_simp; rfl)); intro gb200 hg w30 hbox hb; have n0_ := Aside0.mk (blk_below (g := gb195) (o := .cells #[.int .i64 t191, .int .i64 t192, .int .i64 t193] 31 (0, 0)) (by (with_reducible repeat (first | refine blk_drewN ?_ _ | refine blk_drew ?_ | refine blk_alloc ?_ _)); exact BK195.out) hb); have n1_ := Aside0.mk (below_step (by repeat (first | (with_reducible first | exact HB.out | apply below_alloc | apply pw_below_drewN | apply below_drew1 | refine below_set ?_ GE195.out) | exact HB.out)) hb); have n2_ := Aside0.mk (hbox); have n3_ := Aside0.mk ((by rw [hg]; exact (below_size (by repeat (first | (with_reducible first | exact HB.out | apply below_alloc | apply pw_below_drewN | apply below_drew1 | refine below_set ?_ GE195.out) | exact HB.out))) : w.heap.size ≤ gb200)); have n4_ := Aside0.mk ((by rw [hg]; exact (below_size (by repeat (first | (with_reducible first | exact HB.out | apply below_alloc | apply pw_below_drewN | apply below_drew1 | refine below_set ?_ GE195.out) | exact HB.out))) : w.heap.size ≤ gb200)); have n5_ := Aside0.mk ((by rw [hg]; exact Nat.ne_of_lt (blk_lt (g := gb195) (o := .cells #[.int .i64 t191, .int .i64 t192, .int .i64 t193] 31 (0, 0)) (by (with_reducible repeat (first | refine blk_drewN ?_ _ | refine blk_drew ?_ | refine blk_alloc ?_ _)); exact BK195.out)) : gb195 ≠ gb200)); have n6_ := Aside0.mk ((by rw [hg]; exact Nat.ne_of_gt (blk_lt (g := gb195) (o := .cells #[.int .i64 t191, .int .i64 t192, .int .i64 t193] 31 (0, 0)) (by (with_reducible repeat (first | refine blk_drewN ?_ _ | refine blk_drew ?_ | refine blk_alloc ?_ _)); exact BK195.out)) : gb200 ≠ gb195)); clear BK195; clear HB; have BK195 := n0_; have HB := n1_; have BK200 := n2_; have GW200 := n3_; have GE200 := n4_; have NB195_200 := n5_; have NB200_195 := n6_; clear n0_ n1_ n2_ n3_ n4_ n5_ n6_; clear hb hbox hg; have hnb31 := NB200_195.out; have hnc31 := NB195_200.out; have hcz32_0 : w30.cell? ⟨gb200, 0, none⟩ = some (.int .i64 0) := (blk_cell BK200.out 0).trans rfl; have hcz32_1 : w30.cell? ⟨gb200, 1, none⟩ = some (.int .i64 0) := (blk_cell BK200.out 1).trans rfl; have hcz32_2 : w30.cell? ⟨gb200, 2, none⟩ = some (.int .i64 0) := (blk_cell BK200.out 2).trans rfl; have hfz32_0 := blk_frozen BK200.out 0; have hfz32_1 := blk_frozen BK200.out 1; have hfz32_2 := blk_frozen BK200.out 2; have hcz33_0 : w30.cell? ⟨gb195, 0, none⟩ = some (.int .i64 t191) := (blk_cell BK195.out 0).trans rfl; have hcz33_1 : w30.cell? ⟨gb195, 1, none⟩ = some (.int .i64 t192) := (blk_cell BK195.out 1).trans rfl; have hcz33_2 : w30.cell? ⟨gb195, 2, none⟩ = some (.int .i64 t193) := (blk_cell BK195.out 2).trans rfl; have hfz33_0 := blk_frozen BK195.out 0; have hfz33_1 := blk_frozen BK195.out 1; have hfz33_2 := blk_frozen BK195.out 2) | ((with_reducible refine gate_callee (f := 12) rfl ?_); refine goesL_ (some 22) rfl rfl Tryd.func12 (by kernel_rfl) rfl #[.agg #[.int .i64 t196, .int .i64 t197, .int .i64 t198], .agg #[.int .i64 t191, .int .i64 t192, .int .i64 t193]] rfl (by (try simp only [List.map_toArray, List.map_cons, List.map_nil]); first | done | rfl | (simp only [List.length_drop, List.length_take]; rfl)) ?_; (with_reducible refine (laws_eqBoxes.calls t196 t197 t198 t191 t192 t193 false _ A5.out).mono ?_); rintro e w34 ⟨rfl, hb⟩; refine ⟨_, rfl, ?_⟩; have n0_ := Aside0.mk (blk_below (g := gb195) (o := .cells #[.int .i64 t191, .int .i64 t192, .int .i64 t193] 31 (0, 0)) (by (with_reducible repeat (first | refine blk_drewN ?_ _ | refine blk_drew ?_ | refine blk_alloc ?_ _)); refine blk_far ?_ NB195_200.out _; (with_reducible repeat (first | refine blk_drewN ?_ _ | refine blk_drew ?_ | refine blk_alloc ?_ _)); refine blk_far ?_ NB195_200.out _; (with_reducible repeat (first | refine blk_drewN ?_ _ | refine blk_drew ?_ | refine blk_alloc ?_ _)); refine blk_far ?_ NB195_200.out _; (with_reducible repeat (first | refine blk_drewN ?_ _ | refine blk_drew ?_ | refine blk_alloc ?_ _)); exact BK195.out) hb); have n1_ := Aside0.mk (blk_below (g := gb200) (o := .cells #[.int .i64 t196, .int .i64 t197, .int .i64 t198] 31 (0, 0)) (by (with_reducible repeat (first | refine blk_drewN ?_ _ | refine blk_drew ?_ | refine blk_alloc ?_ _)); refine blk_put (cs := #[.int .i64 t196, .int .i64 t197, .int .i64 0]) ?_ 2 _ rfl; (with_reducible repeat (first | refine blk_drewN ?_ _ | refine blk_drew ?_ | refine blk_alloc ?_ _)); refine blk_put (cs := #[.int .i64 t196, .int .i64 0, .int .i64 0]) ?_ 1 _ rfl; (with_reducible repeat (first | refine blk_drewN ?_ _ | refine blk_drew ?_ | refine blk_alloc ?_ _)); refine blk_put (cs := #[.int .i64 0, .int .i64 0, .int .i64 0]) ?_ 0 _ rfl; (with_reducible repeat (first | refine blk_drewN ?_ _ | refine blk_drew ?_ | refine blk_alloc ?_ _)); exact BK200.out) hb); have n2_ := Aside0.mk (below_step (by repeat (first | (with_reducible first | exact HB.out | apply below_alloc | apply pw_below_drewN | apply below_drew1 | refine below_set ?_ GE195.out | refine below_set ?_ GE200.out) | exact HB.out)) hb); clear BK195; clear BK200; clear HB; have BK195 := n0_; have BK200 := n1_; have HB := n2_; clear n0_ n1_ n2_; (try clear hb); (try clear hb2); (try clear hk); (try clear hi)))
      go_ret
      exact ⟨by first | rfl | (simp [errW_none, errW_some] <;> rfl) | (simp [*, errW_none, errW_some] <;> rfl), by repeat (first | (with_reducible first | exact HB.out | apply below_alloc | apply pw_below_drewN | apply below_drew1 | refine below_set ?_ GE195.out | refine below_set ?_ GE200.out) | exact HB.out)⟩


end Go.Proofs.YtfcafnnpejngiaaDoor.PX

/- Splitting at one byte: the library's split, its cut, and the reference's loop answer alike (condition: a text of at most 2 to the 20th bytes). -/
namespace Go.Proofs.YtfcafnnpejngiaaDoor.PX
open Go.RowKit Go.Proofs.YtfcafnnpejngiaaDoorW.PrintWords Go.Proofs.YtfcafnnpejngiaaDoorW.PrintLast Go.Proofs.YtfcafnnpejngiaaDoorW.PrintMore
attribute [local go_sem] max2_int min2_int max_two min_two max_three min_three max_four min_four
set_option linter.unusedVariables false
set_option linter.unusedSimpArgs false
def bsP (l : List UInt8) : ByteArray := ⟨l.toArray⟩
theorem bsP_data (l : List UInt8) : (bsP l).data.toList = l := by simp [bsP]
theorem bsP_of (s : ByteArray) : bsP s.data.toList = s := by obtain ⟨⟨l⟩⟩ := s; rfl
theorem bsP_ext {a b : ByteArray} (h : a.data.toList = b.data.toList) : a = b := by rw [← bsP_of a, ← bsP_of b, h]
theorem bsP_size (l : List UInt8) : (bsP l).size = l.length := by simp [bsP, ByteArray.size]
def consHead (p : List UInt8) : List (List UInt8) → List (List UInt8)
  | [] => [p]
  | h :: t => (p ++ h) :: t
def splitU (c : UInt8) : List UInt8 → List (List UInt8)
  | [] => [[]]
  | b :: l => if b = c then [] :: splitU c l else consHead [b] (splitU c l)
theorem consHead_two (p q : List UInt8) (l : List (List UInt8)) : consHead p (consHead q l) = consHead (p ++ q) l := by
  cases l <;> simp [consHead]
theorem splitU_ne (c : UInt8) : ∀ l, splitU c l ≠ []
  | [] => by simp [splitU]
  | b :: l => by
    unfold splitU
    split
    · simp
    · cases splitU c l <;> simp [consHead]
theorem consHead_nil (c : UInt8) (l : List UInt8) : consHead [] (splitU c l) = splitU c l := by
  cases h : splitU c l with
  | nil => exact absurd h (splitU_ne c l)
  | cons a t => rfl
theorem splitK_ne (b c : UInt8) (l : List UInt8) (h : b ≠ c) (k : Nat) : Lib.splitK [c] 0 k (b :: l) = consHead [b] (Lib.splitK [c] 0 k l) := by
  have hp : ([c] : List UInt8).isPrefixOf (b :: l) = false := by simp [List.isPrefixOf, Ne.symm h]
  have hix : Lib.index (b :: l) [c] = if Lib.index l [c] == -1 then -1 else Lib.index l [c] + 1 := by rw [Lib.index, hp]; simp
  cases k with
  | zero => rfl
  | succ k =>
    unfold Lib.splitK
    by_cases hm : Lib.index l [c] = -1
    · rw [hix, if_pos (beq_iff_eq.2 hm), if_pos (beq_iff_eq.2 rfl), if_pos (beq_iff_eq.2 hm)]
      rfl
    · have hge := Lib.index_ge l [c]
      obtain ⟨j, hj⟩ : ∃ j : Nat, Lib.index l [c] = j := ⟨(Lib.index l [c]).toNat, by omega⟩
      have hix' : Lib.index (b :: l) [c] = ((j + 1 : Nat) : Int) := by rw [hix, if_neg (fun e => hm (beq_iff_eq.1 e)), hj]; omega
      rw [hix', hj, if_neg (fun e => by have := beq_iff_eq.1 e; omega), if_neg (fun e => by have := beq_iff_eq.1 e; omega)]
      simp [consHead]
theorem splitK_all (c : UInt8) : ∀ l, Lib.splitK [c] 0 (Lib.count l [c]) l = splitU c l
  | [] => by
    have : Lib.count [] [c] = 0 := by rw [Lib.count_one]; rfl
    rw [this]
    rfl
  | b :: l => by
    by_cases h : b = c
    · subst h
      have hix : Lib.index (b :: l) [b] = ((0 : Nat) : Int) := by rw [Lib.index]; simp [List.isPrefixOf]
      rw [Lib.count_cons_eq, Nat.add_comm, Lib.splitK, hix, if_neg (by decide), splitU, if_pos rfl, ← splitK_all b l]
      rfl
    · rw [Lib.count_cons_ne b c l h, splitK_ne b c l h, splitK_all c l, splitU, if_neg h]
theorem cut_cons_ne (b c : UInt8) (l : List UInt8) (h : b ≠ c) : Lib.cut (b :: l) [c] = (b :: (Lib.cut l [c]).1, (Lib.cut l [c]).2.1, (Lib.cut l [c]).2.2) := by
  have hp : ([c] : List UInt8).isPrefixOf (b :: l) = false := by simp [List.isPrefixOf, Ne.symm h]
  have hix : Lib.index (b :: l) [c] = if Lib.index l [c] == -1 then -1 else Lib.index l [c] + 1 := by rw [Lib.index, hp]; simp
  unfold Lib.cut
  by_cases hm : Lib.index l [c] = -1
  · rw [hix, if_pos (beq_iff_eq.2 hm), hm]
    rfl
  · have hge := Lib.index_ge l [c]
    obtain ⟨j, hj⟩ : ∃ j : Nat, Lib.index l [c] = j := ⟨(Lib.index l [c]).toNat, by omega⟩
    have hix' : Lib.index (b :: l) [c] = ((j + 1 : Nat) : Int) := by rw [hix, if_neg (fun e => hm (beq_iff_eq.1 e)), hj]; omega
    rw [hix', hj, if_pos (by omega), if_pos (by omega)]
    simp
theorem cut_miss (c : UInt8) : ∀ l, c ∉ l → Lib.cut l [c] = (l, [], false) ∧ splitU c l = [l]
  | [], _ => ⟨rfl, rfl⟩
  | b :: l, h => by
    have hb : b ≠ c := fun e => h (by simp [e])
    have ih := cut_miss c l (fun e => h (by simp [e]))
    rw [cut_cons_ne b c l hb, ih.1, splitU, if_neg hb, ih.2]
    exact ⟨rfl, rfl⟩
theorem cut_hit (c : UInt8) : ∀ l, c ∈ l → ∃ a b, Lib.cut l [c] = (a, b, true) ∧ splitU c l = a :: splitU c b ∧ a.length + 1 + b.length = l.length
  | [], h => by simp at h
  | b :: l, h => by
    by_cases hb : b = c
    · subst hb
      have hix : Lib.index (b :: l) [b] = ((0 : Nat) : Int) := by rw [Lib.index]; simp [List.isPrefixOf]
      refine ⟨[], l, ?_, ?_, by simp; omega⟩
      · unfold Lib.cut
        rw [hix]
        simp
      · rw [splitU, if_pos rfl]
    · have hm : c ∈ l := by
        rcases List.mem_cons.1 h with e | e
        · exact absurd e.symm hb
        · exact e
      obtain ⟨a, d, h1, h2, h3⟩ := cut_hit c l hm
      refine ⟨b :: a, d, by rw [cut_cons_ne b c l hb, h1], by rw [splitU, if_neg hb, h2]; rfl, by simp; omega⟩
theorem splitU_one (c : UInt8) : ∀ l, (splitU c l).length = l.count c + 1
  | [] => rfl
  | b :: l => by
    unfold splitU
    split
    · rename_i e
      subst e
      simp [splitU_one b l]
    · rename_i e
      have h1 : (consHead [b] (splitU c l)).length = (splitU c l).length := by
        cases h : splitU c l with
        | nil => exact absurd h (splitU_ne c l)
        | cons a t => rfl
      rw [h1, splitU_one c l, List.count_cons_of_ne (by simpa using e)]
theorem splitU_len (c : UInt8) (l : List UInt8) : (splitU c l).length ≤ l.length + 1 := by
  rw [splitU_one]
  have := List.count_le_length (a := c) (l := l)
  omega
theorem split_word_len (c : UInt8) : ∀ l w, w ∈ splitU c l → w.length ≤ l.length
  | [], w, h => by simp [splitU] at h; simp [h]
  | b :: l, w, h => by
    unfold splitU at h
    split at h
    · rcases List.mem_cons.1 h with e | e
      · simp [e]
      · have := split_word_len c l w e
        simp; omega
    · cases hs : splitU c l with
      | nil => exact absurd hs (splitU_ne c l)
      | cons a t =>
        rw [hs] at h
        rcases List.mem_cons.1 h with e | e
        · have := split_word_len c l a (by rw [hs]; simp)
          simp [e]; omega
        · have := split_word_len c l w (by rw [hs]; simp [e])
          simp; omega
theorem strings_Split_val (s : ByteArray) (c : UInt8) (h : s.size ≤ 1048576) : strings_Split.f s ⟨#[c]⟩ = some ((splitU c s.data.toList).map bsP) := by
  unfold strings_Split.f
  rw [if_pos ⟨by omega, Nat.le_refl 1⟩]
  congr 1
  have hd := Lib.splitB_data (⟨#[c]⟩ : ByteArray) 0 (Lib.countB s ⟨#[c]⟩) s
  have hc : Lib.countB s ⟨#[c]⟩ = Lib.count s.data.toList [c] := rfl
  rw [hc] at hd ⊢
  have he : ((⟨#[c]⟩ : ByteArray)).data.toList = [c] := rfl
  rw [he, splitK_all c] at hd
  rw [← hd, List.map_map]
  have : (bsP ∘ fun x : ByteArray => x.data.toList) = id := by funext x; exact bsP_of x
  rw [this, List.map_id]
theorem Ev_cast {α : Type} {g : Nat → Option α} {a b : α} (h : Ev g a) (e : a = b) : Ev g b := e ▸ h
theorem bt_list (s : ByteArray) (i : Nat) (b : UInt8) (l : List UInt8) (h : s.data.toList.drop i = b :: l) : bt s (i : Int) = (b.toNat : Int) ∧ i < s.size ∧ s.data.toList.drop (i + 1) = l := by
  have hl : i < s.data.toList.length := by
    by_cases hh : i < s.data.toList.length
    · exact hh
    · rw [List.drop_of_length_le (by omega)] at h; cases h
  have hsz : i < s.size := by rw [Lib.size_eq]; exact hl
  rw [List.drop_eq_getElem_cons hl] at h
  obtain ⟨e1, e2⟩ := List.cons.inj h
  refine ⟨?_, hsz, e2⟩
  unfold bt
  rw [dif_pos (by simpa using hsz)]
  congr 1
  rw [← e1]
  rfl
theorem splitS_loop (s : ByteArray) (c : UInt8) (hs : s.size ≤ 1048576) : ∀ (d : Nat) (i at_ : Nat) (acc : List ByteArray), i + d = s.size → at_ ≤ i → acc.length ≤ i →
    Ev (fun k => spec_l01Split.l0 k s (c.toNat : Int) acc (at_ : Int) (i : Int)) (acc ++ (consHead ((s.data.toList.drop at_).take (i - at_)) (splitU c (s.data.toList.drop i))).map bsP)
  | 0, i, at_, acc, hd, ha, hl => by
    have hsz := Lib.size_eq s
    refine Ev.step (f := fun _ => some (acc ++ [s.extract at_ s.size])) (fun k => ?_) ?_
    · rw [spec_l01Split.l0, if_neg (by omega), if_pos (by omega), if_pos (by omega), if_pos (by omega)]
      rfl
    · have e1 : s.data.toList.drop i = [] := List.drop_of_length_le (by omega)
      have e2 : s.extract at_ s.size = bsP ((s.data.toList.drop at_).take (i - at_)) := by
        refine bsP_ext ?_
        rw [Lib.extract_to_end, bsP_data, List.take_of_length_le (by rw [List.length_drop]; omega)]
      rw [e1, e2]
      refine Ev_cast (Ev.now _) ?_
      simp [splitU, consHead]
  | d + 1, i, at_, acc, hd, ha, hl => by
    have hsz := Lib.size_eq s
    have hi : i < s.data.toList.length := by omega
    obtain ⟨b, l, hb⟩ : ∃ b l, s.data.toList.drop i = b :: l := ⟨_, _, List.drop_eq_getElem_cons hi⟩
    obtain ⟨h1, h2, h3⟩ := bt_list s i b l hb
    have hw : wrap64 ((i : Int) + 1) = ((i + 1 : Nat) : Int) := by rw [wrapS (by omega) (by omega)]; rfl
    by_cases e : b = c
    · subst e
      have ih := splitS_loop s b hs d (i + 1) (i + 1) (acc ++ [s.extract at_ i]) (by omega) (Nat.le_refl _) (by simp; omega)
      refine Ev.step (fun k => ?_) (Ev_cast ih ?_)
      · rw [spec_l01Split.l0, if_pos (by omega), if_pos (by omega), h1, if_pos rfl, if_pos (by omega), if_pos (by omega), if_pos (by omega), if_pos (by omega), hw]
        rfl
      · have e2 : s.extract at_ i = bsP ((s.data.toList.drop at_).take (i - at_)) := by
          refine bsP_ext ?_
          rw [Lib.extract_data, bsP_data]
        rw [e2, hb, h3, splitU, if_pos rfl, Nat.sub_self, List.take_zero, consHead_nil]
        simp [consHead]
    · have ih := splitS_loop s c hs d (i + 1) at_ acc (by omega) (by omega) (by omega)
      refine Ev.step (fun k => ?_) (Ev_cast ih ?_)
      · rw [spec_l01Split.l0, if_pos (by omega), if_pos (by omega), h1, if_neg (fun x => e (UInt8.toNat_inj.1 (by omega))), hw]
      · have e3 : (s.data.toList.drop at_).take (i + 1 - at_) = (s.data.toList.drop at_).take (i - at_) ++ [b] := by
          rw [show i + 1 - at_ = (i - at_) + 1 by omega, List.take_add_one, List.getElem?_drop, show at_ + (i - at_) = i by omega]
          have : s.data.toList[i]? = some b := by
            have := congrArg List.head? hb
            rw [List.head?_drop] at this
            exact this
          rw [this]
          rfl
        rw [e3, hb, h3, splitU, if_neg e, consHead_two]
theorem splitS_ev (s : ByteArray) (c : UInt8) (hs : s.size ≤ 1048576) : Ev (fun k => spec_l01Split.f k s (c.toNat : Int)) ((splitU c s.data.toList).map bsP) := by
  have h := splitS_loop s c hs s.size 0 0 [] (by omega) (Nat.le_refl _) (Nat.le_refl _)
  simp only [List.drop_zero, Nat.sub_self, List.take_zero, consHead_nil, List.nil_append] at h
  exact h

end Go.Proofs.YtfcafnnpejngiaaDoor.PX

/- Rows of signs 0 and 1 as numbers; words between signs (no condition). -/
namespace Go.Proofs.YtfcafnnpejngiaaDoor.PX
open Go.RowKit Go.Proofs.YtfcafnnpejngiaaDoorW.PrintWords Go.Proofs.YtfcafnnpejngiaaDoorW.PrintLast Go.Proofs.YtfcafnnpejngiaaDoorW.PrintMore
attribute [local go_sem] max2_int min2_int max_two min_two max_three min_three max_four min_four
set_option linter.unusedVariables false
set_option linter.unusedSimpArgs false
def valB : List UInt8 → Nat
  | [] => 0
  | b :: r => (if b = 49 then 1 else 0) + 2 * valB r
def okBits (l : List UInt8) : Prop := ∀ b ∈ l, b = 48 ∨ b = 49
theorem valB_lt : ∀ l : List UInt8, valB l < 2 ^ l.length
  | [] => by simp [valB]
  | b :: r => by
    have ih := valB_lt r
    have e : 2 ^ (b :: r).length = 2 ^ r.length * 2 := by rw [List.length_cons, Nat.pow_succ]
    rw [e]
    unfold valB
    split <;> omega
theorem valB_snoc : ∀ (l : List UInt8) (b : UInt8), valB (l ++ [b]) = valB l + 2 ^ l.length * (if b = 49 then 1 else 0)
  | [], b => by simp [valB]
  | a :: r, b => by
    have ih := valB_snoc r b
    rw [List.cons_append, valB, ih, valB, List.length_cons, Nat.pow_succ]
    generalize (2 : Nat) ^ r.length = p
    split <;> split <;> omega
theorem valB_bit : ∀ (l : List UInt8) (n : Nat) (b : UInt8), l[n]? = some b → valB l / 2 ^ n % 2 = if b = 49 then 1 else 0
  | [], n, b, h => by simp at h
  | a :: r, 0, b, h => by
    have e : a = b := by simpa using h
    subst e
    rw [Nat.pow_zero, Nat.div_one, valB]
    split <;> omega
  | a :: r, n + 1, b, h => by
    have ih := valB_bit r n b (by simpa using h)
    rw [← ih, Nat.pow_succ, Nat.mul_comm, ← Nat.div_div_eq_div_mul, valB]
    congr 2
    split <;> omega
theorem valB_ex : ∀ (c e : Nat), e < 2 ^ c → ∃ l : List UInt8, okBits l ∧ l.length = c ∧ valB l = e
  | 0, e, h => ⟨[], (fun b hb => by cases hb), rfl, by simp only [Nat.pow_zero] at h; rw [valB]; omega⟩
  | c + 1, e, h => by
    rw [Nat.pow_succ] at h
    obtain ⟨l, h1, h2, h3⟩ := valB_ex c (e / 2) (by omega)
    by_cases hb : e % 2 = 1
    · refine ⟨49 :: l, fun b hb => ?_, by simp [h2], ?_⟩
      · rcases List.mem_cons.1 hb with x | x
        · exact .inr x
        · exact h1 b x
      · rw [valB, if_pos rfl, h3]; omega
    · refine ⟨48 :: l, fun b hb => ?_, by simp [h2], ?_⟩
      · rcases List.mem_cons.1 hb with x | x
        · exact .inl x
        · exact h1 b x
      · rw [valB, if_neg (by decide), h3]; omega
theorem splitU_single (c : UInt8) : ∀ l b, splitU c l = [b] → l = b ∧ c ∉ l
  | [], b, h => by
    have : ([] : List UInt8) = b := by simpa [splitU] using h
    exact ⟨this, by simp⟩
  | x :: l, b, h => by
    unfold splitU at h
    split at h
    · obtain ⟨_, e⟩ := List.cons.inj h
      exact absurd e (splitU_ne c l)
    · rename_i hx
      cases hs : splitU c l with
      | nil => exact absurd hs (splitU_ne c l)
      | cons a t =>
        rw [hs] at h
        obtain ⟨e1, e2⟩ := List.cons.inj h
        subst e2
        obtain ⟨e3, e4⟩ := splitU_single c l a hs
        refine ⟨by rw [e3, ← e1]; rfl, fun hm => ?_⟩
        rcases List.mem_cons.1 hm with e | e
        · exact hx e.symm
        · exact e4 e
theorem splitU_two (c : UInt8) : ∀ l a b, splitU c l = [a, b] → l = a ++ c :: b ∧ c ∉ a ∧ c ∉ b
  | [], a, b, h => by simp [splitU] at h
  | x :: l, a, b, h => by
    unfold splitU at h
    split at h
    · rename_i hx
      obtain ⟨e1, e2⟩ := List.cons.inj h
      obtain ⟨e3, e4⟩ := splitU_single c l b e2
      subst e1 e3 hx
      exact ⟨rfl, by simp, e4⟩
    · rename_i hx
      cases hs : splitU c l with
      | nil => exact absurd hs (splitU_ne c l)
      | cons y t =>
        rw [hs] at h
        obtain ⟨e1, e2⟩ := List.cons.inj h
        subst e2
        obtain ⟨e3, e4, e5⟩ := splitU_two c l y b hs
        refine ⟨by rw [e3, ← e1]; rfl, fun hm => ?_, e5⟩
        rw [← e1] at hm
        rcases List.mem_cons.1 hm with e | e
        · exact hx e.symm
        · exact e4 e
theorem splitU_none (c : UInt8) (l : List UInt8) (h : c ∉ l) : splitU c l = [l] := (cut_miss c l h).2
theorem splitU_app (c : UInt8) (b : List UInt8) : ∀ a : List UInt8, c ∉ a → splitU c (a ++ c :: b) = a :: splitU c b ∧ Lib.cut (a ++ c :: b) [c] = (a, b, true)
  | [], _ => by
    have hix : Lib.index (c :: b) [c] = ((0 : Nat) : Int) := by rw [Lib.index]; simp [List.isPrefixOf]
    refine ⟨by rw [List.nil_append, splitU, if_pos rfl], ?_⟩
    rw [List.nil_append]
    unfold Lib.cut
    rw [hix]
    simp
  | x :: a, h => by
    have hx : x ≠ c := fun e => h (by simp [e])
    obtain ⟨h1, h2⟩ := splitU_app c b a (fun e => h (by simp [e]))
    refine ⟨by rw [List.cons_append, splitU, if_neg hx, h1]; rfl, ?_⟩
    rw [List.cons_append, cut_cons_ne x c _ hx, h2]

end Go.Proofs.YtfcafnnpejngiaaDoor.PX

/- Two numbers up to 3 with a sign between them: the program's reading (condition: a text of at most 2 to the 20th bytes). -/
namespace Go.Proofs.YtfcafnnpejngiaaDoor.PX
open Go.RowKit Go.Proofs.YtfcafnnpejngiaaDoorW.PrintWords Go.Proofs.YtfcafnnpejngiaaDoorW.PrintLast Go.Proofs.YtfcafnnpejngiaaDoorW.PrintMore
attribute [local go_sem] max2_int min2_int max_two min_two max_three min_three max_four min_four
set_option linter.unusedVariables false
set_option linter.unusedSimpArgs false
def smallG (n : Nat) : List UInt8 := if n < 10 then [UInt8.ofNat (48 + n)] else [UInt8.ofNat (48 + n / 10), UInt8.ofNat (48 + n % 10)]
theorem itoa_smallG {n : Nat} (h : n < 41) : Lib.itoa (n : Int) = smallG n := by
  unfold Lib.itoa smallG
  rw [if_neg (by omega), Int.toNat_natCast]
  by_cases h10 : n < 10
  · rw [if_pos h10, Lib.decDigits_one h10]
  · rw [if_neg h10, Lib.decDigits_two h10 (by omega)]
theorem parse_ofG (b : UInt8) (r : List UInt8) (u : Nat) (hb : 48 ≤ b.toNat ∧ b.toNat ≤ 57) (hu : u < 100) (h : Lib.parseUintM (2 ^ 64 - 1) 0 (b :: r) = .ok u) : Lib.parseIntB 64 (b :: r) = .ok (u : Int) := by
  unfold Lib.parseIntB Lib.parseUintB
  simp only
  rw [if_neg (show ¬ (b.toNat = 43 ∨ b.toNat = 45) by omega), if_neg (by simp), h]
  simp only
  rw [if_neg (by omega), if_neg (by omega), if_neg (by omega)]
theorem dig_valG {d : Nat} (h : d < 10) : (UInt8.ofNat (48 + d)).toNat = 48 + d := by
  rw [UInt8.toNat_ofNat']
  omega
theorem small_parseG : ∀ n : Fin 41, Lib.parseIntB 64 (smallG n.val) = .ok (n.val : Int) := by
  intro n
  have hn := n.isLt
  unfold smallG
  by_cases h : n.val < 10
  · rw [if_pos h]
    refine parse_ofG _ _ _ (by rw [dig_valG h]; omega) (by omega) ?_
    rw [Lib.parseUintM, dig_valG h, if_pos (by omega), if_neg (by omega), if_neg (by omega), Lib.parseUintM]
    congr 1
    omega
  · rw [if_neg h]
    have h1 : n.val / 10 < 10 := by omega
    have h2 : n.val % 10 < 10 := by omega
    refine parse_ofG _ _ _ (by rw [dig_valG h1]; omega) (by omega) ?_
    rw [Lib.parseUintM, dig_valG h1, if_pos (by omega), if_neg (by omega), if_neg (by omega), Lib.parseUintM, dig_valG h2, if_pos (by omega), if_neg (by omega), if_neg (by omega), Lib.parseUintM]
    congr 1
    omega
theorem rd_wordG (ws : List (List UInt8)) (i : Nat) (w : List UInt8) (t : List (List UInt8)) (h : ws.drop i = w :: t) : rdOf ByteArray.empty (ws.map bsP) (i : Int) = bsP w ∧ i < ws.length ∧ ws.drop (i + 1) = t := by
  have hl : i < ws.length := by
    by_cases hh : i < ws.length
    · exact hh
    · rw [List.drop_of_length_le (by omega)] at h; cases h
  rw [List.drop_eq_getElem_cons hl] at h
  obtain ⟨e1, e2⟩ := List.cons.inj h
  refine ⟨?_, hl, e2⟩
  unfold rdOf
  rw [Int.toNat_natCast, List.getD_eq_getElem?_getD, List.getElem?_map, List.getElem?_eq_getElem hl, e1]
  rfl
def implFrom3 : List Int → List (List UInt8) → List Int × Bool
  | acc, [] => (acc, true)
  | acc, w :: t => if (numOf w 3).2 = true then implFrom3 (acc ++ [(numOf w 3).1]) t else ([], false)
def implSides (s : List UInt8) : List Int × Bool := if s = [] then ([], true) else implFrom3 [] (splitU 120 s)
theorem implSides_loop (ws : List (List UInt8)) (hn : ws.length ≤ 1048577) (hw : ∀ w ∈ ws, w.length ≤ 1048576) : ∀ (d i : Nat) (acc : List Int), i + d = ws.length → acc.length ≤ i →
    Ev (fun k => impl_numbersOf.l0 k 3 acc (ws.map bsP) (ws.length : Int) (i : Int)) (implFrom3 acc (ws.drop i))
  | 0, i, acc, hd, ha => by
    rw [List.drop_of_length_le (by omega)]
    refine Ev.step (f := fun _ => some (acc, true)) (fun k => ?_) (Ev.now _)
    rw [impl_numbersOf.l0, if_neg (by omega)]
  | d + 1, i, acc, hd, ha => by
    obtain ⟨w, t, h⟩ : ∃ w t, ws.drop i = w :: t := ⟨_, _, List.drop_eq_getElem_cons (by omega)⟩
    obtain ⟨h1, h2, h3⟩ := rd_wordG ws i w t h
    have hlw : w.length ≤ 1048576 := hw w (List.mem_of_mem_drop (i := i) (by rw [h]; simp))
    have hnum : impl_number.f (bsP w) 3 = some (numOf w 3) := by
      unfold impl_number.f
      rw [if_pos (by rw [bsP_size]; omega), bsP_data]
    have hx : wrap64 ((i : Int) + 1) = ((i + 1 : Nat) : Int) := by rw [wrapS (by omega) (by omega)]; rfl
    rw [h, implFrom3]
    by_cases hok : (numOf w 3).2 = true
    · rw [if_pos hok]
      have ih := implSides_loop ws hn hw d (i + 1) (acc ++ [(numOf w 3).1]) (by omega) (by simp; omega)
      rw [h3] at ih
      refine Ev.step (fun k => ?_) ih
      rw [impl_numbersOf.l0, if_pos (by omega), if_pos (by omega), if_pos (by rw [List.length_map]; omega), h1, hnum, Option.bind_some, if_pos hok, if_pos (by omega), hx]
    · rw [if_neg hok]
      refine Ev.step (f := fun _ => some ([], false)) (fun k => ?_) (Ev.now _)
      rw [impl_numbersOf.l0, if_pos (by omega), if_pos (by omega), if_pos (by rw [List.length_map]; omega), h1, hnum, Option.bind_some, if_neg hok]
theorem implSides_ev (s : List UInt8) (hs : s.length ≤ 1048576) : Ev (fun k => impl_numbersOf.f k (bsP s) (⟨#[120]⟩ : ByteArray) 3) (implSides s) := by
  have hnil : (bsP s).toList = ([] : List UInt8) ↔ s = [] := by rw [ByteArray.toList_eq, bsP_data]
  unfold implSides
  by_cases h : s = []
  · rw [if_pos h]
    refine Ev.congr (f := fun _ => some ([], true)) (fun k => ?_) (Ev.now _)
    rw [impl_numbersOf.f, Option.bind_some, if_pos (hnil.2 h)]
  · rw [if_neg h]
    have hl := splitU_len 120 s
    have hv := strings_Split_val (bsP s) 120 (by rw [bsP_size]; omega)
    rw [bsP_data] at hv
    have hlp := implSides_loop (splitU 120 s) (by omega) (fun w hw => Nat.le_trans (split_word_len 120 s w hw) hs) (splitU 120 s).length 0 [] (by omega) (Nat.le_refl _)
    rw [List.drop_zero] at hlp
    refine Ev.congr (fun k => ?_) hlp
    rw [impl_numbersOf.f, Option.bind_some, if_neg (fun x => h (hnil.1 x)), hv, Option.bind_some, List.length_map]
    rfl
theorem num_one {n : Nat} (h : n < 4) : numOf [UInt8.ofNat (48 + n)] 3 = ((n : Int), true) := by
  have hp := small_parseG ⟨n, by omega⟩
  have e : smallG n = [UInt8.ofNat (48 + n)] := by unfold smallG; rw [if_pos (by omega)]
  simp only at hp
  rw [e] at hp
  unfold numOf
  rw [hp]
  simp only
  rw [if_pos ((itoa_smallG (by omega)).trans e), if_pos (by simp only [Bool.and_eq_true, decide_eq_true_eq]; omega)]
theorem sides_of {m n : Nat} (hm : m < 4) (hn : n < 4) : implSides [UInt8.ofNat (48 + m), 120, UInt8.ofNat (48 + n)] = ([(m : Int), (n : Int)], true) := by
  have d1 : UInt8.ofNat (48 + m) ≠ 120 := fun e => by have := congrArg UInt8.toNat e; rw [dig_valG (by omega)] at this; have h2 : (120 : UInt8).toNat = 120 := rfl; omega
  have d2 : UInt8.ofNat (48 + n) ≠ 120 := fun e => by have := congrArg UInt8.toNat e; rw [dig_valG (by omega)] at this; have h2 : (120 : UInt8).toNat = 120 := rfl; omega
  have hs : splitU 120 [UInt8.ofNat (48 + m), 120, UInt8.ofNat (48 + n)] = [[UInt8.ofNat (48 + m)], [UInt8.ofNat (48 + n)]] := by
    rw [splitU, if_neg d1, splitU, if_pos rfl, splitU, if_neg d2, splitU]
    rfl
  unfold implSides
  rw [if_neg (by simp), hs]
  simp only [implFrom3, num_one hm, num_one hn, if_pos]
  rfl

end Go.Proofs.YtfcafnnpejngiaaDoor.PX
