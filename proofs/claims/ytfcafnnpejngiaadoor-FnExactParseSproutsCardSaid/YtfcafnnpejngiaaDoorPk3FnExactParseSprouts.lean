/- Part 3 of the texts under the row of FnExactParseSprouts (no condition). -/
import Derived.Test.YtfcafnnpejngiaaDoorPk2FnExactParseSprouts
namespace Go.Proofs.YtfcafnnpejngiaaDoor.PX
open Go.RowKit Go.Proofs.YtfcafnnpejngiaaDoorW.PrintWords Go.Proofs.YtfcafnnpejngiaaDoorW.PrintLast Go.Proofs.YtfcafnnpejngiaaDoorW.PrintMore
attribute [local go_sem] max2_int min2_int max_two min_two max_three min_three max_four min_four   -- for this text's walks alone
set_option linter.unusedVariables false
set_option linter.unusedSimpArgs false

/-! ### spec_l02Degrees: function 25 -/
mutual
def spec_l02Degrees.j0 : Nat → Bool → Int → List (List (List Int)) → Option (List Int × Bool)
  | 0, _, _, _ => none
  | k + 1, x20, x111000, x111001 => if x20 = true then (some (([] : List Int), false)) else (if 0 ≤ x111000 then (if (x111000 : Int).toNat ≤ 35184372088832 then (if (x111000 : Int).toNat ≤ 281474976710656 then (spec_l02Degrees.l0 k (List.replicate (x111000 : Int).toNat 0) (List.replicate (x111000 : Int).toNat false) 0 x111000 x111001) else (none)) else (none)) else (none))
def spec_l02Degrees.l0 : Nat → List Int → List Bool → Int → Int → List (List (List Int)) → Option (List Int × Bool)
  | 0, _, _, _, _, _ => none
  | k + 1, x4, x5, x6, x111000, x111001 => if x6 < (x111001.length : Int) then (spec_l02Degrees.l1 k x4 x5 x6 0 x111000 x111001) else (spec_l02Degrees.l3 k x4 x5 0)
def spec_l02Degrees.l1 : Nat → List Int → List Bool → Int → Int → Int → List (List (List Int)) → Option (List Int × Bool)
  | 0, _, _, _, _, _, _ => none
  | k + 1, x4, x5, x6, x7, x111000, x111001 => if 0 ≤ x6 then (if x6 < (x111001.length : Int) then (if x7 < ((rd_L3 x111001 x6).length : Int) then (if 0 ≤ x7 then (if ((rd_L2 (rd_L3 x111001 x6) x7).length : Int) < 1 then (some (([] : List Int), false)) else (spec_l02Degrees.l2 k x4 x5 x6 x7 (rd_L2 (rd_L3 x111001 x6) x7) 0 x111000 x111001)) else (none)) else (spec_l02Degrees.l0 k x4 x5 (wrap64 (x6 + 1)) x111000 x111001)) else (none)) else (none)
def spec_l02Degrees.l2 : Nat → List Int → List Bool → Int → Int → List Int → Int → Int → List (List (List Int)) → Option (List Int × Bool)
  | 0, _, _, _, _, _, _, _, _ => none
  | k + 1, x4, x5, x6, x7, x8, x9, x111000, x111001 => if x9 < (x8.length : Int) then (if 0 ≤ x9 then ((spec_l01In.f (rd x8 x9) 0 (wrap64 (x111000 - 1))).bind fun t122 => (if t122 = true then (if 0 ≤ (rd x8 x9) then (if (rd x8 x9) < (x4.length : Int) then ((some (x4.set ((rd x8 x9) : Int).toNat (wrap64 ((rd x4 (rd x8 x9)) + 1)) : List Int)).bind fun y125 => (if (rd x8 x9) < (x5.length : Int) then (if rdOf false x5 (rd x8 x9) = true then (spec_l02Degrees.l2 k y125 (x5.set ((rd x8 x9) : Int).toNat true) x6 x7 x8 (wrap64 (x9 + 1)) x111000 x111001) else (spec_l02Degrees.l2 k y125 (x5.set ((rd x8 x9) : Int).toNat ((x8.length : Int) == 1)) x6 x7 x8 (wrap64 (x9 + 1)) x111000 x111001)) else (none))) else (none)) else (none)) else (some (([] : List Int), false)))) else (none)) else (spec_l02Degrees.l1 k x4 x5 x6 (wrap64 (x7 + 1)) x111000 x111001)
def spec_l02Degrees.l3 : Nat → List Int → List Bool → Int → Option (List Int × Bool)
  | 0, _, _, _ => none
  | k + 1, x4, x5, x10 => if x10 < (x4.length : Int) then (if 0 ≤ x10 then (if (rd x4 x10) < 1 then (spec_l02Degrees.j5 k x4 x5 x10 true) else (if (rd x4 x10) > 3 then (spec_l02Degrees.j5 k x4 x5 x10 true) else (if x10 < (x5.length : Int) then (if rdOf false x5 x10 = true then (spec_l02Degrees.j5 k x4 x5 x10 (decide ((rd x4 x10) > 1))) else (spec_l02Degrees.j5 k x4 x5 x10 false)) else (none)))) else (none)) else (some (x4, true))
def spec_l02Degrees.j5 : Nat → List Int → List Bool → Int → Bool → Option (List Int × Bool)
  | 0, _, _, _, _ => none
  | k + 1, x4, x5, x10, x127 => if x127 = true then (some (([] : List Int), false)) else (if 0 ≤ x10 then (if x10 < (x5.length : Int) then (if rdOf false x5 x10 = true then (if x10 < (x4.length : Int) then (spec_l02Degrees.l3 k (x4.set (x10 : Int).toNat 0) x5 (wrap64 (x10 + 1))) else (none)) else (spec_l02Degrees.l3 k x4 x5 (wrap64 (x10 + 1)))) else (none)) else (none))
end
def spec_l02Degrees.f (k : Nat) (a0_0 : Int) (l0_1 : List (List (List Int))) : Option (List Int × Bool) := (spec_l01In.f a0_0 1 20).bind fun t111 => (if t111 = true then (spec_l02Degrees.j0 k (decide ((l0_1.length : Int) < 1)) a0_0 l0_1) else (spec_l02Degrees.j0 k true a0_0 l0_1))
theorem spec_l02Degrees.mono_l : ∀ k, (∀ y0 y1 y2, LeO (spec_l02Degrees.j0 k y0 y1 y2) (spec_l02Degrees.j0 (k + 1) y0 y1 y2)) ∧ (∀ y0 y1 y2 y3 y4, LeO (spec_l02Degrees.l0 k y0 y1 y2 y3 y4) (spec_l02Degrees.l0 (k + 1) y0 y1 y2 y3 y4)) ∧ (∀ y0 y1 y2 y3 y4 y5, LeO (spec_l02Degrees.l1 k y0 y1 y2 y3 y4 y5) (spec_l02Degrees.l1 (k + 1) y0 y1 y2 y3 y4 y5)) ∧ (∀ y0 y1 y2 y3 y4 y5 y6 y7, LeO (spec_l02Degrees.l2 k y0 y1 y2 y3 y4 y5 y6 y7) (spec_l02Degrees.l2 (k + 1) y0 y1 y2 y3 y4 y5 y6 y7)) ∧ (∀ y0 y1 y2, LeO (spec_l02Degrees.l3 k y0 y1 y2) (spec_l02Degrees.l3 (k + 1) y0 y1 y2)) ∧ (∀ y0 y1 y2 y3, LeO (spec_l02Degrees.j5 k y0 y1 y2 y3) (spec_l02Degrees.j5 (k + 1) y0 y1 y2 y3))
  | 0 => ⟨fun _ _ _ r h => by simp [spec_l02Degrees.j0] at h, fun _ _ _ _ _ r h => by simp [spec_l02Degrees.l0] at h, fun _ _ _ _ _ _ r h => by simp [spec_l02Degrees.l1] at h, fun _ _ _ _ _ _ _ _ r h => by simp [spec_l02Degrees.l2] at h, fun _ _ _ r h => by simp [spec_l02Degrees.l3] at h, fun _ _ _ _ r h => by simp [spec_l02Degrees.j5] at h⟩
  | k + 1 => by
    obtain ⟨ih0, ih1, ih2, ih3, ih4, ih5⟩ := spec_l02Degrees.mono_l k
    refine ⟨?_, ?_, ?_, ?_, ?_, ?_⟩
    · intro y0 y1 y2
      unfold spec_l02Degrees.j0
      repeat' first
      | (with_reducible exact ih0 _ _ _)
      | (with_reducible exact ih1 _ _ _ _ _)
      | (with_reducible exact ih2 _ _ _ _ _ _)
      | (with_reducible exact ih3 _ _ _ _ _ _ _ _)
      | (with_reducible exact ih4 _ _ _)
      | (with_reducible exact ih5 _ _ _ _)
      | (with_reducible exact LeO.refl _)
      | (with_reducible exact LeO.none _)
      | (with_reducible refine LeO.ite ?_ ?_)
      | (with_reducible refine LeO.bind ?_ (fun _ => ?_))
      | exact ih0 _ _ _
      | exact ih1 _ _ _ _ _
      | exact ih2 _ _ _ _ _ _
      | exact ih3 _ _ _ _ _ _ _ _
      | exact ih4 _ _ _
      | exact ih5 _ _ _ _
      | exact LeO.none _
      | refine LeO.ite ?_ ?_
      | refine LeO.bind ?_ (fun _ => ?_)
    · intro y0 y1 y2 y3 y4
      unfold spec_l02Degrees.l0
      repeat' first
      | (with_reducible exact ih0 _ _ _)
      | (with_reducible exact ih1 _ _ _ _ _)
      | (with_reducible exact ih2 _ _ _ _ _ _)
      | (with_reducible exact ih3 _ _ _ _ _ _ _ _)
      | (with_reducible exact ih4 _ _ _)
      | (with_reducible exact ih5 _ _ _ _)
      | (with_reducible exact LeO.refl _)
      | (with_reducible exact LeO.none _)
      | (with_reducible refine LeO.ite ?_ ?_)
      | (with_reducible refine LeO.bind ?_ (fun _ => ?_))
      | exact ih0 _ _ _
      | exact ih1 _ _ _ _ _
      | exact ih2 _ _ _ _ _ _
      | exact ih3 _ _ _ _ _ _ _ _
      | exact ih4 _ _ _
      | exact ih5 _ _ _ _
      | exact LeO.none _
      | refine LeO.ite ?_ ?_
      | refine LeO.bind ?_ (fun _ => ?_)
    · intro y0 y1 y2 y3 y4 y5
      unfold spec_l02Degrees.l1
      repeat' first
      | (with_reducible exact ih0 _ _ _)
      | (with_reducible exact ih1 _ _ _ _ _)
      | (with_reducible exact ih2 _ _ _ _ _ _)
      | (with_reducible exact ih3 _ _ _ _ _ _ _ _)
      | (with_reducible exact ih4 _ _ _)
      | (with_reducible exact ih5 _ _ _ _)
      | (with_reducible exact LeO.refl _)
      | (with_reducible exact LeO.none _)
      | (with_reducible refine LeO.ite ?_ ?_)
      | (with_reducible refine LeO.bind ?_ (fun _ => ?_))
      | exact ih0 _ _ _
      | exact ih1 _ _ _ _ _
      | exact ih2 _ _ _ _ _ _
      | exact ih3 _ _ _ _ _ _ _ _
      | exact ih4 _ _ _
      | exact ih5 _ _ _ _
      | exact LeO.none _
      | refine LeO.ite ?_ ?_
      | refine LeO.bind ?_ (fun _ => ?_)
    · intro y0 y1 y2 y3 y4 y5 y6 y7
      unfold spec_l02Degrees.l2
      repeat' first
      | (with_reducible exact ih0 _ _ _)
      | (with_reducible exact ih1 _ _ _ _ _)
      | (with_reducible exact ih2 _ _ _ _ _ _)
      | (with_reducible exact ih3 _ _ _ _ _ _ _ _)
      | (with_reducible exact ih4 _ _ _)
      | (with_reducible exact ih5 _ _ _ _)
      | (with_reducible exact LeO.refl _)
      | (with_reducible exact LeO.none _)
      | (with_reducible refine LeO.ite ?_ ?_)
      | (with_reducible refine LeO.bind ?_ (fun _ => ?_))
      | exact ih0 _ _ _
      | exact ih1 _ _ _ _ _
      | exact ih2 _ _ _ _ _ _
      | exact ih3 _ _ _ _ _ _ _ _
      | exact ih4 _ _ _
      | exact ih5 _ _ _ _
      | exact LeO.none _
      | refine LeO.ite ?_ ?_
      | refine LeO.bind ?_ (fun _ => ?_)
    · intro y0 y1 y2
      unfold spec_l02Degrees.l3
      repeat' first
      | (with_reducible exact ih0 _ _ _)
      | (with_reducible exact ih1 _ _ _ _ _)
      | (with_reducible exact ih2 _ _ _ _ _ _)
      | (with_reducible exact ih3 _ _ _ _ _ _ _ _)
      | (with_reducible exact ih4 _ _ _)
      | (with_reducible exact ih5 _ _ _ _)
      | (with_reducible exact LeO.refl _)
      | (with_reducible exact LeO.none _)
      | (with_reducible refine LeO.ite ?_ ?_)
      | (with_reducible refine LeO.bind ?_ (fun _ => ?_))
      | exact ih0 _ _ _
      | exact ih1 _ _ _ _ _
      | exact ih2 _ _ _ _ _ _
      | exact ih3 _ _ _ _ _ _ _ _
      | exact ih4 _ _ _
      | exact ih5 _ _ _ _
      | exact LeO.none _
      | refine LeO.ite ?_ ?_
      | refine LeO.bind ?_ (fun _ => ?_)
    · intro y0 y1 y2 y3
      unfold spec_l02Degrees.j5
      repeat' first
      | (with_reducible exact ih0 _ _ _)
      | (with_reducible exact ih1 _ _ _ _ _)
      | (with_reducible exact ih2 _ _ _ _ _ _)
      | (with_reducible exact ih3 _ _ _ _ _ _ _ _)
      | (with_reducible exact ih4 _ _ _)
      | (with_reducible exact ih5 _ _ _ _)
      | (with_reducible exact LeO.refl _)
      | (with_reducible exact LeO.none _)
      | (with_reducible refine LeO.ite ?_ ?_)
      | (with_reducible refine LeO.bind ?_ (fun _ => ?_))
      | exact ih0 _ _ _
      | exact ih1 _ _ _ _ _
      | exact ih2 _ _ _ _ _ _
      | exact ih3 _ _ _ _ _ _ _ _
      | exact ih4 _ _ _
      | exact ih5 _ _ _ _
      | exact LeO.none _
      | refine LeO.ite ?_ ?_
      | refine LeO.bind ?_ (fun _ => ?_)
theorem spec_l02Degrees.mono : ∀ a0 a1 k, LeO (spec_l02Degrees.f k a0 a1) (spec_l02Degrees.f (k + 1) a0 a1) := by
  intro a0 a1 k
  obtain ⟨ih0, ih1, ih2, ih3, ih4, ih5⟩ := spec_l02Degrees.mono_l k
  unfold spec_l02Degrees.f
  repeat' first
      | (with_reducible exact ih0 _ _ _)
      | (with_reducible exact ih1 _ _ _ _ _)
      | (with_reducible exact ih2 _ _ _ _ _ _)
      | (with_reducible exact ih3 _ _ _ _ _ _ _ _)
      | (with_reducible exact ih4 _ _ _)
      | (with_reducible exact ih5 _ _ _ _)
      | (with_reducible exact LeO.refl _)
      | (with_reducible exact LeO.none _)
      | (with_reducible refine LeO.ite ?_ ?_)
      | (with_reducible refine LeO.bind ?_ (fun _ => ?_))
      | exact ih0 _ _ _
      | exact ih1 _ _ _ _ _
      | exact ih2 _ _ _ _ _ _
      | exact ih3 _ _ _ _ _ _ _ _
      | exact ih4 _ _ _
      | exact ih5 _ _ _ _
      | exact LeO.none _
      | refine LeO.ite ?_ ?_
      | refine LeO.bind ?_ (fun _ => ?_)
def spec_l02Degrees.T3 : Bool × List (List Nat × List Nat) := (true, [([], []), ([0], [0]), ([1, 1], [1]), ([], []), ([3], [3]), ([4, 4], [4]), ([2, 0, 1, 2], [2]), ([5, 6, 0, 1, 2, 3, 4, 5, 6], [5])])
def spec_l02Degrees.B3 : List Nat := [0, 1, 3, 0, 8, 24, 7, 127]
theorem spec_l02Degrees.tab3 : rtab .any (opsOf Tryd.f25 3) = spec_l02Degrees.T3 := by kernel_rfl
theorem spec_l02Degrees.bits3 : waitsOk spec_l02Degrees.T3.2 spec_l02Degrees.B3 = true := by kernel_rfl
def spec_l02Degrees.T16 : Bool × List (List Nat × List Nat) := (true, [([], []), ([], []), ([0, 1], [0, 1]), ([2], [2]), ([], []), ([4], [4]), ([5], [5]), ([3, 6], [3, 6]), ([7], [7])])
def spec_l02Degrees.B16 : List Nat := [0, 0, 3, 7, 0, 16, 48, 127, 255]
theorem spec_l02Degrees.tab16 : rtab .any (opsOf Tryd.f25 16) = spec_l02Degrees.T16 := by kernel_rfl
theorem spec_l02Degrees.bits16 : waitsOk spec_l02Degrees.T16.2 spec_l02Degrees.B16 = true := by kernel_rfl
def spec_l02Degrees.T19 : Bool × List (List Nat × List Nat) := (true, [([], []), ([], []), ([], []), ([1, 2], [1, 2]), ([3], [3]), ([], []), ([], []), ([], []), ([6, 7], [6, 7]), ([8], [8]), ([5, 9], [5, 9]), ([10], [10]), ([11], [11]), ([12], [12]), ([13, 12], [12, 13]), ([14, 12], [12, 14]), ([12, 15], [12, 15]), ([0, 4, 0, 1, 2, 3, 4, 5, 6, 7, 8, 9, 10, 11, 12, 13, 14, 15, 16], [0, 4]), ([17, 16, 12, 0, 1, 2, 3, 4, 5, 6, 7, 8, 9, 10, 11, 12, 13, 14, 15, 16], [16, 17])])
def spec_l02Degrees.B19 : List Nat := [0, 0, 0, 6, 14, 0, 0, 0, 192, 448, 992, 2016, 4064, 8160, 16352, 32736, 65504, 131071, 262143]
theorem spec_l02Degrees.tab19 : rtab .any (opsOf Tryd.f25 19) = spec_l02Degrees.T19 := by kernel_rfl
theorem spec_l02Degrees.bits19 : waitsOk spec_l02Degrees.T19.2 spec_l02Degrees.B19 = true := by kernel_rfl
set_option maxHeartbeats 8000000 in
set_option maxRecDepth 100000 in
theorem spec_l02Degrees.calls (k : Nat) (a0_0 : Int) (A0_1 : Option Addr) (c0_1 : Nat) (l0_1 : List (List (List Int))) (r1 : List Int) (r2 : Bool) (w : World) (hr0_1 : Kd.C (Kd.slice 38 (Kd.slice 2 (Kd.int .i64))) w A0_1 l0_1.length l0_1) (hc0_1 : l0_1.length ≤ c0_1) (h : spec_l02Degrees.f k a0_0 l0_1 = some (r1, r2)) :
    Calls Tryd.prog 25 #[.agg #[.int .i64 a0_0, .slice A0_1 l0_1.length c0_1]] w fun e w' => ∃ v0_ : Value, e = .returned (.tuple #[v0_, .bool r2]) ∧ Kd.R (Kd.int .i64) 2 w' w.heap.size (fun _ => True) v0_ r1 ∧ Below w.heap.size w w' := by
  have hu24 := Tryd.underlying24
  have HR0_1 := Aside0.mk hr0_1
  have HC0_1 := Aside0.mk hc0_1
  clear hr0_1 hc0_1
  have HB := Aside0.mk (Below.refl w.heap.size w)
  have H : ((spec_l01In.f a0_0 1 20).bind fun t111 => (if t111 = true then (spec_l02Degrees.j0 k (decide ((l0_1.length : Int) < 1)) a0_0 l0_1) else (spec_l02Degrees.j0 k true a0_0 l0_1))) = some (r1, r2) := h
  clear h
  have HC2 := Aside0.mk H
  clear H
  go_enter Tryd.func25, Tryd.ntmps25
  go_upto_region 1 with (first | ((with_reducible refine gate_dst (N := 1) rfl ?_); (try (refine gate_guard (by rfl) ?_; dsimp only)); refine box_event ?hg (N := 1) ?hd (cs := #[.int .i64 a0_0, .slice A0_1 l0_1.length c0_1]) (t := 24) ?hr ?_; (case hd => rfl); (case hg => rfl); (case hr => first | (go_simp; done) | (go_simp; rfl)); intro gb110 hg w3 hbox hb; have n0_ := Aside0.mk (below_step (by repeat (first | (with_reducible first | exact HB.out | apply below_alloc | apply pw_below_drewN | apply below_drew1) | exact HB.out)) hb); have n1_ := Aside0.mk (hbox); have n2_ := Aside0.mk ((by rw [hg]; exact (below_size (by repeat (first | (with_reducible first | exact HB.out | apply below_alloc | apply pw_below_drewN | apply below_drew1) | exact HB.out))) : w.heap.size ≤ gb110)); have n3_ := Aside0.mk ((by rw [hg]; exact (below_size (by repeat (first | (with_reducible first | exact HB.out | apply below_alloc | apply pw_below_drewN | apply below_drew1) | exact HB.out))) : w.heap.size ≤ gb110)); clear HB; have HB := n0_; have BK110 := n1_; have GW110 := n2_; have GE110 := n3_; clear n0_ n1_ n2_ n3_; clear hb hbox hg))
  (try simp only [Act.put, List.setIfInBounds_toArray, List.set_cons_zero, List.set_cons_succ])
  go_cut [20] (fun v20 wc => ∃ (kq : Nat) (x20_1 : Bool), v20 = .bool x20_1 ∧ Aside0 (spec_l02Degrees.j0 kq x20_1 a0_0 l0_1 = some (r1, r2)) ∧ Aside0 (kq ≤ k) ∧ Aside0 (wc.heap[gb110]? = some (.cells #[.int .i64 a0_0, (.slice A0_1 l0_1.length c0_1)] 24 (0, 0))) ∧ Aside0 (Below w.heap.size w wc))
  case first =>
    have H := HC2.out
    clear HC2
    replace H := Option.bind_eq_some_iff.mp H
    obtain ⟨t111, A40, H⟩ := H
    replace H : (if t111 = true then (spec_l02Degrees.j0 k (decide ((l0_1.length : Int) < 1)) a0_0 l0_1) else (spec_l02Degrees.j0 k true a0_0 l0_1)) = some (r1, r2) := H
    have A4 := Aside0.mk A40
    clear A40
    by_cases c5 : t111 = true
    · subst c5
      have H1 : (spec_l02Degrees.j0 k (decide ((l0_1.length : Int) < 1)) a0_0 l0_1) = some (r1, r2) := by rw [if_pos rfl] at H; exact H
      clear H
      have H := H1
      clear H1
      have H' := Aside0.mk H
      clear H
      have hcz6_0 : w3.cell? ⟨gb110, 0, none⟩ = some (.int .i64 a0_0) := (blk_cell BK110.out 0).trans rfl
      have hcz6_1 : w3.cell? ⟨gb110, 1, none⟩ = some (.slice A0_1 l0_1.length c0_1) := (blk_cell BK110.out 1).trans rfl
      have hfz6_0 := blk_frozen BK110.out 0
      have hfz6_1 := blk_frozen BK110.out 1
      go_wp2_with (first | ((with_reducible refine gate_callee (f := 14) rfl ?_); refine goesL_ (some 13) rfl rfl Tryd.func14 (by kernel_rfl) rfl #[.int .i64 a0_0, .int .i64 1, .int .i64 20] rfl (by (try simp only [List.map_toArray, List.map_cons, List.map_nil]); first | done | rfl | (simp only [List.length_drop, List.length_take]; rfl)) ?_; (with_reducible refine (spec_l01In.calls a0_0 1 20 true _ A4.out).mono ?_); rintro e w' ⟨rfl, ⟨nd, rfl⟩⟩; refine ⟨_, rfl, ?_⟩))
      go_meet
      case rel => exact ⟨_, (decide ((l0_1.length : Int) < 1)), (by first | rfl | (simp; done) | (simp [*]; done)), H', ⟨by first | omega | exact Nat.le_refl _⟩, ⟨by (with_reducible repeat (first | refine blk_drewN ?_ _ | refine blk_drew ?_ | refine blk_alloc ?_ _)); exact BK110.out⟩, ⟨by repeat (first | (with_reducible first | exact HB.out | apply below_alloc | apply pw_below_drewN | apply below_drew1 | refine below_set ?_ GE110.out) | exact HB.out)⟩⟩
    · replace c5 := Bool.eq_false_iff.mpr c5
      subst c5
      have H1 : (spec_l02Degrees.j0 k true a0_0 l0_1) = some (r1, r2) := by rw [if_neg (show ¬ (false = true) by decide)] at H; exact H
      clear H
      have H := H1
      clear H1
      have H' := Aside0.mk H
      clear H
      have hcz7_0 : w3.cell? ⟨gb110, 0, none⟩ = some (.int .i64 a0_0) := (blk_cell BK110.out 0).trans rfl
      have hcz7_1 : w3.cell? ⟨gb110, 1, none⟩ = some (.slice A0_1 l0_1.length c0_1) := (blk_cell BK110.out 1).trans rfl
      have hfz7_0 := blk_frozen BK110.out 0
      have hfz7_1 := blk_frozen BK110.out 1
      go_wp2_with (first | ((with_reducible refine gate_callee (f := 14) rfl ?_); refine goesL_ (some 13) rfl rfl Tryd.func14 (by kernel_rfl) rfl #[.int .i64 a0_0, .int .i64 1, .int .i64 20] rfl (by (try simp only [List.map_toArray, List.map_cons, List.map_nil]); first | done | rfl | (simp only [List.length_drop, List.length_take]; rfl)) ?_; (with_reducible refine (spec_l01In.calls a0_0 1 20 false _ A4.out).mono ?_); rintro e w' ⟨rfl, ⟨nd, rfl⟩⟩; refine ⟨_, rfl, ?_⟩))
      go_meet
      case rel => exact ⟨_, (true), (by first | rfl | (simp; done) | (simp [*]; done)), H', ⟨by first | omega | exact Nat.le_refl _⟩, ⟨by (with_reducible repeat (first | refine blk_drewN ?_ _ | refine blk_drew ?_ | refine blk_alloc ?_ _)); exact BK110.out⟩, ⟨by repeat (first | (with_reducible first | exact HB.out | apply below_alloc | apply pw_below_drewN | apply below_drew1 | refine below_set ?_ GE110.out) | exact HB.out)⟩⟩
  case rest =>
    clear HC2
    try clear c1
    try clear c2
    try clear p2
    try clear c5
    try clear hcz6_0
    try clear hcz6_1
    try clear hcz7_0
    try clear hcz7_1
    try clear hfz6_0
    try clear hfz6_1
    try clear hfz7_0
    try clear hfz7_1
    obtain ⟨kq, x20_1, rfl, HA, HJ1, BK110, HB⟩ := hcut
    cases kq with
    | zero => exact absurd HA.out (by simp [spec_l02Degrees.j0])
    | succ kj1 =>
      have H := HA.out
      clear HA
      simp only [spec_l02Degrees.j0] at H
      by_cases c8 : x20_1 = true
      · subst c8
        have H1 : (some (([] : List Int), false)) = some (r1, r2) := by rw [if_pos rfl] at H; exact H
        clear H
        have H := H1
        clear H1
        simp only [Option.some.injEq, Prod.mk.injEq] at H
        obtain ⟨rfl, rfl⟩ := H
        go_wp2
        go_ret2
        exact ⟨_, by first | rfl | (simp [errW_none, errW_some] <;> rfl) | (simp [*, errW_none, errW_some] <;> rfl), by first | exact Kd.R_nil _ _ _ _ _ | exact Kd.N_nil _ _ _ _ _ | exact Kd.V_nil _ _ _ _ _ | exact Kd.Q_nil _ _ _ _ _ | exact Kd.S_nil _ _ _ _ _, by repeat (first | (with_reducible first | exact HB.out | apply below_alloc | apply pw_below_drewN | apply below_drew1 | refine below_set ?_ GE110.out) | exact HB.out)⟩
      · replace c8 := Bool.eq_false_iff.mpr c8
        subst c8
        have H1 : (if 0 ≤ a0_0 then (if (a0_0 : Int).toNat ≤ 35184372088832 then (if (a0_0 : Int).toNat ≤ 281474976710656 then (spec_l02Degrees.l0 kj1 (List.replicate (a0_0 : Int).toNat 0) (List.replicate (a0_0 : Int).toNat false) 0 a0_0 l0_1) else (none)) else (none)) else (none)) = some (r1, r2) := by rw [if_neg (show ¬ (false = true) by decide)] at H; exact H
        clear H
        have H := H1
        clear H1
        by_cases c9 : 0 ≤ a0_0
        · rw [if_pos c9] at H
          have c9b0 := eq_true c9
          have c9b1 : decide (0 ≤ a0_0) = true := decide_eq_true c9
          clear c9
          by_cases c10 : (a0_0 : Int).toNat ≤ 35184372088832
          · rw [if_pos c10] at H
            have c10b0 := eq_true c10
            have c10b1 : decide ((a0_0 : Int).toNat ≤ 35184372088832) = true := decide_eq_true c10
            clear c10
            obtain ⟨y112, hy112⟩ : ∃ y_ : List Int, y_ = (List.replicate (a0_0 : Int).toNat 0) := ⟨_, rfl⟩
            replace H : (if (a0_0 : Int).toNat ≤ 281474976710656 then (spec_l02Degrees.l0 kj1 y112 (List.replicate (a0_0 : Int).toNat false) 0 a0_0 l0_1) else (none)) = some (r1, r2) := by first | (rw [hy112]; with_reducible exact H) | (have H2_ := (Option.bind_some _ _).symm.trans H; rw [hy112]; with_reducible exact H2_) | (have H2_ := (Option.bind_some _ _).symm.trans H; with_reducible exact H2_) | with_reducible exact H | (rw [hy112]; exact H) | exact H
            have Ny112 := Aside0.mk hy112
            clear hy112
            by_cases c11 : (a0_0 : Int).toNat ≤ 281474976710656
            · rw [if_pos c11] at H
              have c11b0 := eq_true c11
              have c11b1 : decide ((a0_0 : Int).toNat ≤ 281474976710656) = true := decide_eq_true c11
              clear c11
              obtain ⟨y115, hy115⟩ : ∃ y_ : List Bool, y_ = (List.replicate (a0_0 : Int).toNat false) := ⟨_, rfl⟩
              replace H : (spec_l02Degrees.l0 kj1 y112 y115 0 a0_0 l0_1) = some (r1, r2) := by first | (rw [hy115]; with_reducible exact H) | (have H2_ := (Option.bind_some _ _).symm.trans H; rw [hy115]; with_reducible exact H2_) | (have H2_ := (Option.bind_some _ _).symm.trans H; with_reducible exact H2_) | with_reducible exact H | (rw [hy115]; exact H) | exact H
              have Ny115 := Aside0.mk hy115
              clear hy115
              have H' := Aside0.mk H
              clear H
              try go_wp2
              have n0_ := Aside0.mk (blk_drew BK110.out)
              have n1_ := Aside0.mk (below_drew1 HB.out)
              clear BK110
              clear HB
              have BK110 := n0_
              have HB := n1_
              clear n0_ n1_
              refine start_ (n := 8) (S := fun w' => w'.cell? ⟨gb110, 0, none⟩ = some (.int .i64 a0_0) ∧ w'.cell? ⟨gb110, 1, none⟩ = some (.slice A0_1 l0_1.length c0_1)) (ds := []) #[false, false, false, false, false, false, false, false] (by kernel_rfl) rfl rfl ⟨(blk_cell BK110.out 0).trans rfl, (blk_cell BK110.out 1).trans rfl⟩ (fun hHeld => ?_); refine with_tabW spec_l02Degrees.tab3 spec_l02Degrees.bits3 (fun HT_ HW_ => ?_)
              generalize wc.drew = w12 at BK110 HB hHeld ⊢
              refine pure_ (i := 0) (N := some 21) (v := ?_) (a' := ?_) #[true, false, false, false, false, false, false, false] rfl rfl (any_of HT_.out (by kernel_rfl)) (fun _ _ _ h => h) (Or.inl ⟨by rfl, ?_⟩) ?_ ?_
              rotate_left
              · intro w'
                go_simp
                with_reducible rfl
              rotate_left
              · simp only [Act.put, List.setIfInBounds_toArray, List.set_cons_zero, List.set_cons_succ, i64_w, i32_w]
                rfl
              refine pure_ (i := 3) (N := some 24) (v := ?_) (a' := ?_) #[true, false, false, true, false, false, false, false] rfl rfl (any_of HT_.out (by kernel_rfl)) (fun _ _ _ h => h) (Or.inl ⟨by rfl, ?_⟩) ?_ ?_
              rotate_left
              · intro w'
                go_simp
                with_reducible rfl
              rotate_left
              · simp only [Act.put, List.setIfInBounds_toArray, List.set_cons_zero, List.set_cons_succ, i64_w, i32_w]
                rfl
              refine take_ (i := 1) (N := some 22) (v := ?_) (a' := ?_) #[true, true, false, true, false, false, false, false] rfl rfl (take_ofW HT_.out HW_.out (by kernel_rfl)) (fun _ _ _ h => h) (Or.inl ⟨by rfl, ?_⟩) hHeld ?_ ?_
              rotate_left
              · rintro w' ⟨s0, s1⟩
                go_simp
                with_reducible rfl
              rotate_left
              · simp only [Act.put, List.setIfInBounds_toArray, List.set_cons_zero, List.set_cons_succ, i64_w, i32_w]
                rfl
              refine take_ (i := 4) (N := some 25) (v := ?_) (a' := ?_) #[true, true, false, true, true, false, false, false] rfl rfl (take_ofW HT_.out HW_.out (by kernel_rfl)) (fun _ _ _ h => h) (Or.inl ⟨by rfl, ?_⟩) hHeld ?_ ?_
              rotate_left
              · rintro w' ⟨s0, s1⟩
                go_simp
                with_reducible rfl
              rotate_left
              · simp only [Act.put, List.setIfInBounds_toArray, List.set_cons_zero, List.set_cons_succ, i64_w, i32_w]
                rfl
              refine join_ (σ := Value × Value) 1 #[true, true, true, true, true, true, true, false] (fun s_ => [(23, s_.1), (26, s_.2), (4, s_.1)]) (fun s_ w' => (w'.cell? ⟨gb110, 0, none⟩ = some (.int .i64 a0_0) ∧ w'.cell? ⟨gb110, 1, none⟩ = some (.slice A0_1 l0_1.length c0_1)) ∧ (Kd.R (Kd.int .i64) 2 w' w.heap.size (fun _ => True) s_.1 y112) ∧ (Kd.R Kd.bool 4 w' w.heap.size (fun _ => True) s_.2 y115) ∧ (w'.heap[gb110]? = some (.cells #[.int .i64 a0_0, .slice A0_1 l0_1.length c0_1] 24 (0, 0))) ∧ (Below w.heap.size w w')) ?_ ?_
              rotate_left
              · intro hCont
                refine two_ (i := 2) (j := 5) (Ni := some 23) (Nj := some 26) #[true, true, true, true, true, false, false, false] #[true, true, false, true, true, true, false, false] rfl rfl rfl rfl (two_of HT_.out (by kernel_rfl)) (by decide) (by decide) (fun K hK => ?_) (fun K hK => ?_)
                · skip
                  refine Kd.R_make_step (Kd.int .i64) _ 2 (by rfl) (N := 23) rfl 38 _ _ rfl a0_0 rfl rfl Tryd.underlying38 (.int .i64 0) 8 info2 rfl (by decide) (by omega) 0 (ok := fun _ => True) (okp := fun _ => True) rfl (fun _ hk => hk) trivial (of_decide_eq_true (by first | (with_reducible assumption) | assumption)) (Nat.le_trans (Nat.mul_le_mul_right _ (of_decide_eq_true (by first | (with_reducible assumption) | assumption) : a0_0.toNat ≤ 35184372088832)) (by omega)) (Below.refl _ _) (Nat.le_refl _) ?_
                  intro v113 w13 ho14 hb hg_ hnew_
                  clear hg_ hnew_
                  (first | rw [← Ny112.out] at ho14 | (simp only [Int.reduceToNat] at ho14; rw [← Ny112.out] at ho14))
                  have n0_ := Aside0.mk (Kd.R_lower ho14 (below_size (by repeat (first | (with_reducible first | exact HB.out | apply below_alloc | apply pw_below_drewN | apply below_drew1 | refine below_set ?_ GE110.out) | exact HB.out))))
                  have n1_ := Aside0.mk (blk_below (g := gb110) (o := .cells #[.int .i64 a0_0, .slice A0_1 l0_1.length c0_1] 24 (0, 0)) (by (with_reducible repeat (first | refine blk_drewN ?_ _ | refine blk_drew ?_ | refine blk_alloc ?_ _)); exact BK110.out) hb)
                  have n2_ := Aside0.mk (below_step (by repeat (first | (with_reducible first | exact HB.out | apply below_alloc | apply pw_below_drewN | apply below_drew1 | refine below_set ?_ GE110.out) | exact HB.out)) hb)
                  clear BK110
                  clear HB
                  have HO114 := n0_
                  have BK110 := n1_
                  have HB := n2_
                  clear n0_ n1_ n2_
                  clear hb ho14
                  refine hK.out _ _ ⟨(blk_cell BK110.out 0).trans rfl, (blk_cell BK110.out 1).trans rfl⟩ (fun hHeld => ?_)
                  clear hK K
                  refine norm_ (a' := ?_) ?_ ?_
                  rotate_left
                  · show Act.put _ (some 23) _ = _
                    simp only [Act.put, List.setIfInBounds_toArray, List.set_cons_zero, List.set_cons_succ, i64_w, i32_w]
                    rfl
                  refine pure_ (i := 6) (N := some 4) (v := ?_) (a' := ?_) #[true, true, true, true, true, false, true, false] rfl rfl (any_of HT_.out (by kernel_rfl)) (fun _ _ _ h => h) (Or.inl ⟨by rfl, ?_⟩) ?_ ?_
                  rotate_left
                  · intro w'
                    go_simp
                    with_reducible rfl
                  rotate_left
                  · simp only [Act.put, List.setIfInBounds_toArray, List.set_cons_zero, List.set_cons_succ, i64_w, i32_w]
                    rfl
                  refine one_ (i := 5) (N := some 26) #[true, true, true, true, true, true, true, false] rfl rfl (one_of HT_.out (by kernel_rfl)) (by decide) (fun K hK => ?_)
                  refine Kd.R_make_step Kd.bool _ 4 (by rfl) (N := 26) rfl 64 _ _ rfl a0_0 rfl rfl Tryd.underlying64 (.bool false) 1 info4 rfl (by decide) (by omega) false (ok := fun _ => True) (okp := fun _ => True) rfl (fun _ hk => hk) trivial (of_decide_eq_true (by first | (with_reducible assumption) | assumption)) (Nat.le_trans (Nat.mul_le_mul_right _ (of_decide_eq_true (by first | (with_reducible assumption) | assumption) : a0_0.toNat ≤ 281474976710656)) (by omega)) (Below.refl _ _) (Nat.le_refl _) ?_
                  intro v116 w15 ho16 hb hg_ hnew_
                  clear hg_ hnew_
                  (first | rw [← Ny115.out] at ho16 | (simp only [Int.reduceToNat] at ho16; rw [← Ny115.out] at ho16))
                  have n0_ := Aside0.mk (Kd.R_below (by (with_reducible repeat (first | apply Kd.R_alloc | apply Kd.R_drewN | apply Kd.R_drew)); exact HO114.out) hb)
                  have n1_ := Aside0.mk (Kd.R_lower ho16 (below_size (by repeat (first | (with_reducible first | exact HB.out | apply below_alloc | apply pw_below_drewN | apply below_drew1 | refine below_set ?_ GE110.out) | exact HB.out))))
                  have n2_ := Aside0.mk (blk_below (g := gb110) (o := .cells #[.int .i64 a0_0, .slice A0_1 l0_1.length c0_1] 24 (0, 0)) (by (with_reducible repeat (first | refine blk_drewN ?_ _ | refine blk_drew ?_ | refine blk_alloc ?_ _)); exact BK110.out) hb)
                  have n3_ := Aside0.mk (below_step (by repeat (first | (with_reducible first | exact HB.out | apply below_alloc | apply pw_below_drewN | apply below_drew1 | refine below_set ?_ GE110.out) | exact HB.out)) hb)
                  clear HO114
                  clear BK110
                  clear HB
                  have HO114 := n0_
                  have HO117 := n1_
                  have BK110 := n2_
                  have HB := n3_
                  clear n0_ n1_ n2_ n3_
                  clear hb ho16
                  refine hK.out _ _ ⟨(blk_cell BK110.out 0).trans rfl, (blk_cell BK110.out 1).trans rfl⟩ (fun hHeld => ?_)
                  clear hK K
                  refine norm_ (a' := ?_) ?_ ?_
                  rotate_left
                  · show Act.put _ (some 26) _ = _
                    simp only [Act.put, List.setIfInBounds_toArray, List.set_cons_zero, List.set_cons_succ, i64_w, i32_w]
                    rfl
                  exact norm_ (by simp only [putAll, Act.put, List.setIfInBounds_toArray, List.set_cons_zero, List.set_cons_succ]) (hCont (v113, v116) _ ⟨hHeld, (by (with_reducible repeat (first | apply Kd.R_alloc | apply Kd.R_drewN | apply Kd.R_drew)); exact HO114.out), (by (with_reducible repeat (first | apply Kd.R_alloc | apply Kd.R_drewN | apply Kd.R_drew)); exact HO117.out), (by (with_reducible repeat (first | refine blk_drewN ?_ _ | refine blk_drew ?_ | refine blk_alloc ?_ _)); exact BK110.out), (by repeat (first | (with_reducible first | exact HB.out | apply below_alloc | apply pw_below_drewN | apply below_drew1 | refine below_set ?_ GE110.out) | exact HB.out))⟩)
                · skip
                  refine Kd.R_make_step Kd.bool _ 4 (by rfl) (N := 26) rfl 64 _ _ rfl a0_0 rfl rfl Tryd.underlying64 (.bool false) 1 info4 rfl (by decide) (by omega) false (ok := fun _ => True) (okp := fun _ => True) rfl (fun _ hk => hk) trivial (of_decide_eq_true (by first | (with_reducible assumption) | assumption)) (Nat.le_trans (Nat.mul_le_mul_right _ (of_decide_eq_true (by first | (with_reducible assumption) | assumption) : a0_0.toNat ≤ 281474976710656)) (by omega)) (Below.refl _ _) (Nat.le_refl _) ?_
                  intro v116 w13 ho14 hb hg_ hnew_
                  clear hg_ hnew_
                  (first | rw [← Ny115.out] at ho14 | (simp only [Int.reduceToNat] at ho14; rw [← Ny115.out] at ho14))
                  have n0_ := Aside0.mk (Kd.R_lower ho14 (below_size (by repeat (first | (with_reducible first | exact HB.out | apply below_alloc | apply pw_below_drewN | apply below_drew1 | refine below_set ?_ GE110.out) | exact HB.out))))
                  have n1_ := Aside0.mk (blk_below (g := gb110) (o := .cells #[.int .i64 a0_0, .slice A0_1 l0_1.length c0_1] 24 (0, 0)) (by (with_reducible repeat (first | refine blk_drewN ?_ _ | refine blk_drew ?_ | refine blk_alloc ?_ _)); exact BK110.out) hb)
                  have n2_ := Aside0.mk (below_step (by repeat (first | (with_reducible first | exact HB.out | apply below_alloc | apply pw_below_drewN | apply below_drew1 | refine below_set ?_ GE110.out) | exact HB.out)) hb)
                  clear BK110
                  clear HB
                  have HO117 := n0_
                  have BK110 := n1_
                  have HB := n2_
                  clear n0_ n1_ n2_
                  clear hb ho14
                  refine hK.out _ _ ⟨(blk_cell BK110.out 0).trans rfl, (blk_cell BK110.out 1).trans rfl⟩ (fun hHeld => ?_)
                  clear hK K
                  refine norm_ (a' := ?_) ?_ ?_
                  rotate_left
                  · show Act.put _ (some 26) _ = _
                    simp only [Act.put, List.setIfInBounds_toArray, List.set_cons_zero, List.set_cons_succ, i64_w, i32_w]
                    rfl
                  refine one_ (i := 2) (N := some 23) #[true, true, true, true, true, true, false, false] rfl rfl (one_of HT_.out (by kernel_rfl)) (by decide) (fun K hK => ?_)
                  refine Kd.R_make_step (Kd.int .i64) _ 2 (by rfl) (N := 23) rfl 38 _ _ rfl a0_0 rfl rfl Tryd.underlying38 (.int .i64 0) 8 info2 rfl (by decide) (by omega) 0 (ok := fun _ => True) (okp := fun _ => True) rfl (fun _ hk => hk) trivial (of_decide_eq_true (by first | (with_reducible assumption) | assumption)) (Nat.le_trans (Nat.mul_le_mul_right _ (of_decide_eq_true (by first | (with_reducible assumption) | assumption) : a0_0.toNat ≤ 35184372088832)) (by omega)) (Below.refl _ _) (Nat.le_refl _) ?_
                  intro v113 w15 ho16 hb hg_ hnew_
                  clear hg_ hnew_
                  (first | rw [← Ny112.out] at ho16 | (simp only [Int.reduceToNat] at ho16; rw [← Ny112.out] at ho16))
                  have n0_ := Aside0.mk (Kd.R_below (by (with_reducible repeat (first | apply Kd.R_alloc | apply Kd.R_drewN | apply Kd.R_drew)); exact HO117.out) hb)
                  have n1_ := Aside0.mk (Kd.R_lower ho16 (below_size (by repeat (first | (with_reducible first | exact HB.out | apply below_alloc | apply pw_below_drewN | apply below_drew1 | refine below_set ?_ GE110.out) | exact HB.out))))
                  have n2_ := Aside0.mk (blk_below (g := gb110) (o := .cells #[.int .i64 a0_0, .slice A0_1 l0_1.length c0_1] 24 (0, 0)) (by (with_reducible repeat (first | refine blk_drewN ?_ _ | refine blk_drew ?_ | refine blk_alloc ?_ _)); exact BK110.out) hb)
                  have n3_ := Aside0.mk (below_step (by repeat (first | (with_reducible first | exact HB.out | apply below_alloc | apply pw_below_drewN | apply below_drew1 | refine below_set ?_ GE110.out) | exact HB.out)) hb)
                  clear HO117
                  clear BK110
                  clear HB
                  have HO117 := n0_
                  have HO114 := n1_
                  have BK110 := n2_
                  have HB := n3_
                  clear n0_ n1_ n2_ n3_
                  clear hb ho16
                  refine hK.out _ _ ⟨(blk_cell BK110.out 0).trans rfl, (blk_cell BK110.out 1).trans rfl⟩ (fun hHeld => ?_)
                  clear hK K
                  refine norm_ (a' := ?_) ?_ ?_
                  rotate_left
                  · show Act.put _ (some 23) _ = _
                    simp only [Act.put, List.setIfInBounds_toArray, List.set_cons_zero, List.set_cons_succ, i64_w, i32_w]
                    rfl
                  refine pure_ (i := 6) (N := some 4) (v := ?_) (a' := ?_) #[true, true, true, true, true, true, true, false] rfl rfl (any_of HT_.out (by kernel_rfl)) (fun _ _ _ h => h) (Or.inl ⟨by rfl, ?_⟩) ?_ ?_
                  rotate_left
                  · intro w'
                    go_simp
                    with_reducible rfl
                  rotate_left
                  · simp only [Act.put, List.setIfInBounds_toArray, List.set_cons_zero, List.set_cons_succ, i64_w, i32_w]
                    rfl
                  exact norm_ (by simp only [putAll, Act.put, List.setIfInBounds_toArray, List.set_cons_zero, List.set_cons_succ]) (hCont (v113, v116) _ ⟨hHeld, (by (with_reducible repeat (first | apply Kd.R_alloc | apply Kd.R_drewN | apply Kd.R_drew)); exact HO114.out), (by (with_reducible repeat (first | apply Kd.R_alloc | apply Kd.R_drewN | apply Kd.R_drew)); exact HO117.out), (by (with_reducible repeat (first | refine blk_drewN ?_ _ | refine blk_drew ?_ | refine blk_alloc ?_ _)); exact BK110.out), (by repeat (first | (with_reducible first | exact HB.out | apply below_alloc | apply pw_below_drewN | apply below_drew1 | refine below_set ?_ GE110.out) | exact HB.out))⟩)
              rintro ⟨v113, v116⟩ w17 ⟨hS_, h0_, h1_, h2_, h3_⟩
              have n0_ : Aside0 (Kd.R (Kd.int .i64) 2 w17 w.heap.size (fun _ => True) v113 y112) := ⟨h0_⟩
              have n1_ : Aside0 (Kd.R Kd.bool 4 w17 w.heap.size (fun _ => True) v116 y115) := ⟨h1_⟩
              have n2_ : Aside0 (w17.heap[gb110]? = some (.cells #[.int .i64 a0_0, .slice A0_1 l0_1.length c0_1] 24 (0, 0))) := ⟨h2_⟩
              have n3_ : Aside0 (Below w.heap.size w w17) := ⟨h3_⟩
              clear BK110
              clear HB
              clear h0_ h1_ h2_ h3_
              have HO114 := n0_
              have HO117 := n1_
              have BK110 := n2_
              have HB := n3_
              clear n0_ n1_ n2_ n3_
              have hHeld : w17.cell? ⟨gb110, 0, none⟩ = some (.int .i64 a0_0) ∧ w17.cell? ⟨gb110, 1, none⟩ = some (.slice A0_1 l0_1.length c0_1) := hS_
              refine norm_ (a' := ?_) ?_ ?_
              rotate_left
              · simp only [putAll, Act.put, List.setIfInBounds_toArray, List.set_cons_zero, List.set_cons_succ]
                rfl
              refine pure_ (i := 7) (N := some 5) (v := ?_) (a' := ?_) #[true, true, true, true, true, true, true, true] rfl rfl (any_of HT_.out (by kernel_rfl)) (fun _ _ _ h => h) (Or.inl ⟨by rfl, ?_⟩) ?_ ?_
              rotate_left
              · intro w'
                go_simp
                with_reducible rfl
              rotate_left
              · simp only [Act.put, List.setIfInBounds_toArray, List.set_cons_zero, List.set_cons_succ, i64_w, i32_w]
                rfl
              refine done_ (done_of HT_.out (by kernel_rfl)) ?_
              try go_wp2
              go_loopg [6] kj1 (fun kq v6 w' => ∃ (x4_2 : List Int) (x5_2 : List Bool) (x6_2 : Int), v6 = .int .i64 x6_2 ∧ Aside0 (spec_l02Degrees.l0 kq x4_2 x5_2 x6_2 a0_0 l0_1 = some (r1, r2)) ∧ Aside0 (kq ≤ kj1) ∧ Aside0 (Kd.R (Kd.int .i64) 2 w' w.heap.size (fun _ => True) v113 x4_2) ∧ Aside0 (Kd.R Kd.bool 4 w' w.heap.size (fun _ => True) v116 x5_2) ∧ Aside0 (w'.heap[gb110]? = some (.cells #[.int .i64 a0_0, (.slice A0_1 l0_1.length c0_1)] 24 (0, 0))) ∧ Aside0 (Below w.heap.size w w'))
              case atStart => exact ⟨(y112), (y115), (0), (by first | rfl | (simp; done) | (simp [*]; done)), H', ⟨Nat.le_refl _⟩, ⟨by (with_reducible repeat (first | apply Kd.R_alloc | apply Kd.R_drewN | apply Kd.R_drew)); exact HO114.out⟩, ⟨by (with_reducible repeat (first | apply Kd.R_alloc | apply Kd.R_drewN | apply Kd.R_drew)); exact HO117.out⟩, ⟨by (with_reducible repeat (first | refine blk_drewN ?_ _ | refine blk_drew ?_ | refine blk_alloc ?_ _)); exact BK110.out⟩, ⟨by repeat (first | (with_reducible first | exact HB.out | apply below_alloc | apply pw_below_drewN | apply below_drew1 | refine below_set ?_ GE110.out) | exact HB.out)⟩⟩
              case round =>
                clear H'
                try clear c1
                try clear c2
                try clear p2
                try clear c5
                try clear c8
                try clear c9
                try clear c9b0
                try clear c9b1
                try clear c10
                try clear c10b0
                try clear c10b1
                try clear c11
                try clear c11b0
                try clear c11b1
                try clear c14
                try clear hcz6_0
                try clear hcz6_1
                try clear hcz7_0
                try clear hcz7_1
                try clear hfz6_0
                try clear hfz6_1
                try clear hfz7_0
                try clear hfz7_1
                try clear p2
                obtain ⟨x4_2, x5_2, x6_2, rfl, HA, HK2, HO_4, HO_5, BK110, HB⟩ := hrel
                cases gk with
                | zero => exact absurd HA.out (by simp [spec_l02Degrees.l0])
                | succ k2 =>
                  have H := HA.out
                  clear HA
                  simp only [spec_l02Degrees.l0] at H
                  by_cases c18 : x6_2 < (l0_1.length : Int)
                  · rw [if_pos c18] at H
                    have c18b0 : decide (x6_2 < (l0_1.length : Int)) = true := decide_eq_true c18
                    clear c18
                    have H' := Aside0.mk H
                    clear H
                    have hcz19_0 : wr.cell? ⟨gb110, 0, none⟩ = some (.int .i64 a0_0) := (blk_cell BK110.out 0).trans rfl
                    have hcz19_1 : wr.cell? ⟨gb110, 1, none⟩ = some (.slice A0_1 l0_1.length c0_1) := (blk_cell BK110.out 1).trans rfl
                    have hfz19_0 := blk_frozen BK110.out 0
                    have hfz19_1 := blk_frozen BK110.out 1
                    go_wp2
                    go_loopg [7] k2 (fun kq v7 w' => ∃ (x4_3 : List Int) (x5_3 : List Bool) (x7_3 : Int), v7 = .int .i64 x7_3 ∧ Aside0 (spec_l02Degrees.l1 kq x4_3 x5_3 x6_2 x7_3 a0_0 l0_1 = some (r1, r2)) ∧ Aside0 (kq ≤ k2) ∧ Aside0 (Kd.R (Kd.int .i64) 2 w' w.heap.size (fun _ => True) v113 x4_3) ∧ Aside0 (Kd.R Kd.bool 4 w' w.heap.size (fun _ => True) v116 x5_3) ∧ Aside0 (w'.heap[gb110]? = some (.cells #[.int .i64 a0_0, (.slice A0_1 l0_1.length c0_1)] 24 (0, 0))) ∧ Aside0 (Below w.heap.size w w'))
                    case atStart => exact ⟨(x4_2), (x5_2), (0), (by first | rfl | (simp; done) | (simp [*]; done)), H', ⟨Nat.le_refl _⟩, ⟨by (with_reducible repeat (first | apply Kd.R_alloc | apply Kd.R_drewN | apply Kd.R_drew)); exact HO_4.out⟩, ⟨by (with_reducible repeat (first | apply Kd.R_alloc | apply Kd.R_drewN | apply Kd.R_drew)); exact HO_5.out⟩, ⟨by (with_reducible repeat (first | refine blk_drewN ?_ _ | refine blk_drew ?_ | refine blk_alloc ?_ _)); exact BK110.out⟩, ⟨by repeat (first | (with_reducible first | exact HB.out | apply below_alloc | apply pw_below_drewN | apply below_drew1 | refine below_set ?_ GE110.out) | exact HB.out)⟩⟩
                    case round =>
                      clear H'
                      try clear c1
                      try clear c2
                      try clear p2
                      try clear c5
                      try clear c8
                      try clear c9
                      try clear c9b0
                      try clear c9b1
                      try clear c10
                      try clear c10b0
                      try clear c10b1
                      try clear c11
                      try clear c11b0
                      try clear c11b1
                      try clear c14
                      try clear c18
                      try clear c18b0
                      try clear hcz19_0
                      try clear hcz19_1
                      try clear hcz6_0
                      try clear hcz6_1
                      try clear hcz7_0
                      try clear hcz7_1
                      try clear hfz19_0
                      try clear hfz19_1
                      try clear hfz6_0
                      try clear hfz6_1
                      try clear hfz7_0
                      try clear hfz7_1
                      try clear p2
                      obtain ⟨x4_3, x5_3, x7_3, rfl, HA, HK3, HO_4, HO_5, BK110, HB⟩ := hrel
                      cases gk with
                      | zero => exact absurd HA.out (by simp [spec_l02Degrees.l1])
                      | succ k3 =>
                        have H := HA.out
                        clear HA
                        simp only [spec_l02Degrees.l1] at H
                        by_cases c20 : 0 ≤ x6_2
                        · rw [if_pos c20] at H
                          have c20b0 : decide (0 ≤ x6_2) = true := decide_eq_true c20
                          clear c20
                          by_cases c21 : x6_2 < (l0_1.length : Int)
                          · rw [if_pos c21] at H
                            have c21b0 : decide (x6_2 < (l0_1.length : Int)) = true := decide_eq_true c21
                            clear c21
                            by_cases c22 : x7_3 < ((rd_L3 l0_1 x6_2).length : Int)
                            · rw [if_pos c22] at H
                              have c22b0 : decide (x7_3 < ((rd_L3 l0_1 x6_2).length : Int)) = true := decide_eq_true c22
                              clear c22
                              by_cases c23 : 0 ≤ x7_3
                              · rw [if_pos c23] at H
                                have c23b0 : decide (0 ≤ x7_3) = true := decide_eq_true c23
                                clear c23
                                by_cases c24 : ((rd_L2 (rd_L3 l0_1 x6_2) x7_3).length : Int) < 1
                                · rw [if_pos c24] at H
                                  have c24b0 : decide (((rd_L2 (rd_L3 l0_1 x6_2) x7_3).length : Int) < 1) = true := decide_eq_true c24
                                  have c24b1 : decide ((rd_L2 (rd_L3 l0_1 x6_2) x7_3).length < 1) = true := decide_eq_true (by omega)
                                  clear c24
                                  simp only [Option.some.injEq, Prod.mk.injEq] at H
                                  obtain ⟨rfl, rfl⟩ := H
                                  have hcz25_0 : wr.cell? ⟨gb110, 0, none⟩ = some (.int .i64 a0_0) := (blk_cell BK110.out 0).trans rfl
                                  have hcz25_1 : wr.cell? ⟨gb110, 1, none⟩ = some (.slice A0_1 l0_1.length c0_1) := (blk_cell BK110.out 1).trans rfl
                                  have hfz25_0 := blk_frozen BK110.out 0
                                  have hfz25_1 := blk_frozen BK110.out 1
                                  have p118 : 0 ≤ (x6_2 : Int) := of_decide_eq_true (by first | (with_reducible assumption) | assumption)
                                  have q118 : x6_2 < (l0_1.length : Int) := of_decide_eq_true (by first | (with_reducible assumption) | assumption)
                                  obtain ⟨ad118, A118_0, c118_0, e118, hx118_0, hl118_0, hi118_0⟩ := at_L3 HR0_1.out x6_2 p118 q118
                                  cases e118
                                  replace hx118_0 := (HB.out.cell (World.block_lt_of_cell? w _ hx118_0)).trans hx118_0
                                  have HR118_0 := Aside0.mk hi118_0
                                  have HC118_0 := Aside0.mk hl118_0
                                  clear hi118_0 hl118_0
                                  replace p118 := eq_true p118
                                  replace q118 := eq_true q118
                                  have p119 : 0 ≤ (x6_2 : Int) := of_decide_eq_true (by first | (with_reducible assumption) | assumption)
                                  have q119 : x6_2 < (l0_1.length : Int) := of_decide_eq_true (by first | (with_reducible assumption) | assumption)
                                  obtain ⟨ad119, A119_0, c119_0, e119, hx119_0, hl119_0, hi119_0⟩ := at_L3 HR0_1.out x6_2 p119 q119
                                  obtain rfl : ad118 = ad119 := (by injection e119)
                                  replace hx119_0 := (HB.out.cell (World.block_lt_of_cell? w _ hx119_0)).trans hx119_0
                                  have HR119_0 := Aside0.mk hi119_0
                                  have HC119_0 := Aside0.mk hl119_0
                                  clear hi119_0 hl119_0
                                  replace p119 := eq_true p119
                                  replace q119 := eq_true q119
                                  have ea_ := Option.some.inj (hx118_0.symm.trans hx119_0)
                                  injection ea_ with ea_ en_ ec_
                                  subst ea_
                                  subst ec_
                                  clear en_
                                  have p120 : 0 ≤ (x7_3 : Int) := of_decide_eq_true (by first | (with_reducible assumption) | assumption)
                                  have q120 : x7_3 < ((rd_L3 l0_1 x6_2).length : Int) := of_decide_eq_true (by first | (with_reducible assumption) | assumption)
                                  obtain ⟨ad120, A120_0, c120_0, e120, hx120_0, hl120_0, hi120_0⟩ := at_L2 HR119_0.out x7_3 p120 q120
                                  cases e120
                                  replace hx120_0 := (HB.out.cell (World.block_lt_of_cell? w _ hx120_0)).trans hx120_0
                                  have HR120_0 := Aside0.mk hi120_0
                                  have HC120_0 := Aside0.mk hl120_0
                                  clear hi120_0 hl120_0
                                  replace p120 := eq_true p120
                                  replace q120 := eq_true q120
                                  go_wp2
                                  go_ret2
                                  exact ⟨_, by first | rfl | (simp [errW_none, errW_some] <;> rfl) | (simp [*, errW_none, errW_some] <;> rfl), by first | exact Kd.R_nil _ _ _ _ _ | exact Kd.N_nil _ _ _ _ _ | exact Kd.V_nil _ _ _ _ _ | exact Kd.Q_nil _ _ _ _ _ | exact Kd.S_nil _ _ _ _ _, by repeat (first | (with_reducible first | exact HB.out | apply below_alloc | apply pw_below_drewN | apply below_drew1 | refine below_set ?_ GE110.out) | exact HB.out)⟩
                                · rw [if_neg c24] at H
                                  have c24b0 : decide (((rd_L2 (rd_L3 l0_1 x6_2) x7_3).length : Int) < 1) = false := decide_eq_false c24
                                  have c24b1 : decide ((rd_L2 (rd_L3 l0_1 x6_2) x7_3).length < 1) = false := decide_eq_false (by omega)
                                  clear c24
                                  have H' := Aside0.mk H
                                  clear H
                                  have hcz26_0 : wr.cell? ⟨gb110, 0, none⟩ = some (.int .i64 a0_0) := (blk_cell BK110.out 0).trans rfl
                                  have hcz26_1 : wr.cell? ⟨gb110, 1, none⟩ = some (.slice A0_1 l0_1.length c0_1) := (blk_cell BK110.out 1).trans rfl
                                  have hfz26_0 := blk_frozen BK110.out 0
                                  have hfz26_1 := blk_frozen BK110.out 1
                                  have p118 : 0 ≤ (x6_2 : Int) := of_decide_eq_true (by first | (with_reducible assumption) | assumption)
                                  have q118 : x6_2 < (l0_1.length : Int) := of_decide_eq_true (by first | (with_reducible assumption) | assumption)
                                  obtain ⟨ad118, A118_0, c118_0, e118, hx118_0, hl118_0, hi118_0⟩ := at_L3 HR0_1.out x6_2 p118 q118
                                  cases e118
                                  replace hx118_0 := (HB.out.cell (World.block_lt_of_cell? w _ hx118_0)).trans hx118_0
                                  have HR118_0 := Aside0.mk hi118_0
                                  have HC118_0 := Aside0.mk hl118_0
                                  clear hi118_0 hl118_0
                                  replace p118 := eq_true p118
                                  replace q118 := eq_true q118
                                  have p119 : 0 ≤ (x6_2 : Int) := of_decide_eq_true (by first | (with_reducible assumption) | assumption)
                                  have q119 : x6_2 < (l0_1.length : Int) := of_decide_eq_true (by first | (with_reducible assumption) | assumption)
                                  obtain ⟨ad119, A119_0, c119_0, e119, hx119_0, hl119_0, hi119_0⟩ := at_L3 HR0_1.out x6_2 p119 q119
                                  obtain rfl : ad118 = ad119 := (by injection e119)
                                  replace hx119_0 := (HB.out.cell (World.block_lt_of_cell? w _ hx119_0)).trans hx119_0
                                  have HR119_0 := Aside0.mk hi119_0
                                  have HC119_0 := Aside0.mk hl119_0
                                  clear hi119_0 hl119_0
                                  replace p119 := eq_true p119
                                  replace q119 := eq_true q119
                                  have ea_ := Option.some.inj (hx118_0.symm.trans hx119_0)
                                  injection ea_ with ea_ en_ ec_
                                  subst ea_
                                  subst ec_
                                  clear en_
                                  have p120 : 0 ≤ (x7_3 : Int) := of_decide_eq_true (by first | (with_reducible assumption) | assumption)
                                  have q120 : x7_3 < ((rd_L3 l0_1 x6_2).length : Int) := of_decide_eq_true (by first | (with_reducible assumption) | assumption)
                                  obtain ⟨ad120, A120_0, c120_0, e120, hx120_0, hl120_0, hi120_0⟩ := at_L2 HR119_0.out x7_3 p120 q120
                                  cases e120
                                  replace hx120_0 := (HB.out.cell (World.block_lt_of_cell? w _ hx120_0)).trans hx120_0
                                  have HR120_0 := Aside0.mk hi120_0
                                  have HC120_0 := Aside0.mk hl120_0
                                  clear hi120_0 hl120_0
                                  replace p120 := eq_true p120
                                  replace q120 := eq_true q120
                                  go_wp2
                                  go_loopg [9] k3 (fun kq v9 w' => ∃ (x4_4 : List Int) (x5_4 : List Bool) (x9_4 : Int), v9 = .int .i64 x9_4 ∧ Aside0 (spec_l02Degrees.l2 kq x4_4 x5_4 x6_2 x7_3 (rd_L2 (rd_L3 l0_1 x6_2) x7_3) x9_4 a0_0 l0_1 = some (r1, r2)) ∧ Aside0 (kq ≤ k3) ∧ Aside0 (Kd.R (Kd.int .i64) 2 w' w.heap.size (fun _ => True) v113 x4_4) ∧ Aside0 (Kd.R Kd.bool 4 w' w.heap.size (fun _ => True) v116 x5_4) ∧ Aside0 (w'.heap[gb110]? = some (.cells #[.int .i64 a0_0, (.slice (some ad118) l0_1.length c0_1)] 24 (0, 0))) ∧ Aside0 (Below w.heap.size w w'))
                                  case atStart => exact ⟨(x4_3), (x5_3), (0), (by first | rfl | (simp; done) | (simp [*]; done)), H', ⟨Nat.le_refl _⟩, ⟨by (with_reducible repeat (first | apply Kd.R_alloc | apply Kd.R_drewN | apply Kd.R_drew)); exact HO_4.out⟩, ⟨by (with_reducible repeat (first | apply Kd.R_alloc | apply Kd.R_drewN | apply Kd.R_drew)); exact HO_5.out⟩, ⟨by (with_reducible repeat (first | refine blk_drewN ?_ _ | refine blk_drew ?_ | refine blk_alloc ?_ _)); exact BK110.out⟩, ⟨by repeat (first | (with_reducible first | exact HB.out | apply below_alloc | apply pw_below_drewN | apply below_drew1 | refine below_set ?_ GE110.out) | exact HB.out)⟩⟩
                                  case round =>
                                    clear H'
                                    try clear c1
                                    try clear p1
                                    try clear q1
                                    try clear hx1
                                    try clear c2
                                    try clear p2
                                    try clear c5
                                    try clear c8
                                    try clear c9
                                    try clear c9b0
                                    try clear c9b1
                                    try clear c10
                                    try clear c10b0
                                    try clear c10b1
                                    try clear c11
                                    try clear c11b0
                                    try clear c11b1
                                    try clear p11
                                    try clear q11
                                    try clear hx11
                                    try clear c12
                                    try clear p12
                                    try clear q12
                                    try clear hx12
                                    try clear c14
                                    try clear c18
                                    try clear c18b0
                                    try clear c20
                                    try clear c20b0
                                    try clear c21
                                    try clear c21b0
                                    try clear c22
                                    try clear c22b0
                                    try clear c23
                                    try clear c23b0
                                    try clear c24
                                    try clear c24b0
                                    try clear c24b1
                                    try clear c25
                                    try clear hcz19_0
                                    try clear hcz19_1
                                    try clear hcz25_0
                                    try clear hcz25_1
                                    try clear hcz26_0
                                    try clear hcz26_1
                                    try clear hcz6_0
                                    try clear hcz6_1
                                    try clear hcz7_0
                                    try clear hcz7_1
                                    try clear hfz19_0
                                    try clear hfz19_1
                                    try clear hfz25_0
                                    try clear hfz25_1
                                    try clear hfz26_0
                                    try clear hfz26_1
                                    try clear hfz6_0
                                    try clear hfz6_1
                                    try clear hfz7_0
                                    try clear hfz7_1
                                    try clear hx118_0
                                    try clear hx119_0
                                    try clear hx120_0
                                    try clear p118
                                    try clear p119
                                    try clear p120
                                    try clear p2
                                    try clear q118
                                    try clear q119
                                    try clear q120
                                    obtain ⟨x4_4, x5_4, x9_4, rfl, HA, HK4, HO_4, HO_5, BK110, HB⟩ := hrel
                                    cases gk with
                                    | zero => exact absurd HA.out (by simp [spec_l02Degrees.l2])
                                    | succ k4 =>
                                      have H := HA.out
                                      clear HA
                                      simp only [spec_l02Degrees.l2] at H
                                      by_cases c27 : x9_4 < ((rd_L2 (rd_L3 l0_1 x6_2) x7_3).length : Int)
                                      · rw [if_pos c27] at H
                                        have c27b0 : decide (x9_4 < ((rd_L2 (rd_L3 l0_1 x6_2) x7_3).length : Int)) = true := decide_eq_true c27
                                        clear c27
                                        by_cases c28 : 0 ≤ x9_4
                                        · rw [if_pos c28] at H
                                          have c28b0 : decide (0 ≤ x9_4) = true := decide_eq_true c28
                                          clear c28
                                          replace H := Option.bind_eq_some_iff.mp H
                                          obtain ⟨t122, A290, H⟩ := H
                                          replace H : (if t122 = true then (if 0 ≤ (rd (rd_L2 (rd_L3 l0_1 x6_2) x7_3) x9_4) then (if (rd (rd_L2 (rd_L3 l0_1 x6_2) x7_3) x9_4) < (x4_4.length : Int) then ((some (x4_4.set ((rd (rd_L2 (rd_L3 l0_1 x6_2) x7_3) x9_4) : Int).toNat (wrap64 ((rd x4_4 (rd (rd_L2 (rd_L3 l0_1 x6_2) x7_3) x9_4)) + 1)) : List Int)).bind fun y125 => (if (rd (rd_L2 (rd_L3 l0_1 x6_2) x7_3) x9_4) < (x5_4.length : Int) then (if rdOf false x5_4 (rd (rd_L2 (rd_L3 l0_1 x6_2) x7_3) x9_4) = true then (spec_l02Degrees.l2 k4 y125 (x5_4.set ((rd (rd_L2 (rd_L3 l0_1 x6_2) x7_3) x9_4) : Int).toNat true) x6_2 x7_3 (rd_L2 (rd_L3 l0_1 x6_2) x7_3) (wrap64 (x9_4 + 1)) a0_0 l0_1) else (spec_l02Degrees.l2 k4 y125 (x5_4.set ((rd (rd_L2 (rd_L3 l0_1 x6_2) x7_3) x9_4) : Int).toNat (((rd_L2 (rd_L3 l0_1 x6_2) x7_3).length : Int) == 1)) x6_2 x7_3 (rd_L2 (rd_L3 l0_1 x6_2) x7_3) (wrap64 (x9_4 + 1)) a0_0 l0_1)) else (none))) else (none)) else (none)) else (some (([] : List Int), false))) = some (r1, r2) := H
                                          have A29 := Aside0.mk A290
                                          clear A290
                                          by_cases c30 : t122 = true
                                          · subst c30
                                            have H1 : (if 0 ≤ (rd (rd_L2 (rd_L3 l0_1 x6_2) x7_3) x9_4) then (if (rd (rd_L2 (rd_L3 l0_1 x6_2) x7_3) x9_4) < (x4_4.length : Int) then ((some (x4_4.set ((rd (rd_L2 (rd_L3 l0_1 x6_2) x7_3) x9_4) : Int).toNat (wrap64 ((rd x4_4 (rd (rd_L2 (rd_L3 l0_1 x6_2) x7_3) x9_4)) + 1)) : List Int)).bind fun y125 => (if (rd (rd_L2 (rd_L3 l0_1 x6_2) x7_3) x9_4) < (x5_4.length : Int) then (if rdOf false x5_4 (rd (rd_L2 (rd_L3 l0_1 x6_2) x7_3) x9_4) = true then (spec_l02Degrees.l2 k4 y125 (x5_4.set ((rd (rd_L2 (rd_L3 l0_1 x6_2) x7_3) x9_4) : Int).toNat true) x6_2 x7_3 (rd_L2 (rd_L3 l0_1 x6_2) x7_3) (wrap64 (x9_4 + 1)) a0_0 l0_1) else (spec_l02Degrees.l2 k4 y125 (x5_4.set ((rd (rd_L2 (rd_L3 l0_1 x6_2) x7_3) x9_4) : Int).toNat (((rd_L2 (rd_L3 l0_1 x6_2) x7_3).length : Int) == 1)) x6_2 x7_3 (rd_L2 (rd_L3 l0_1 x6_2) x7_3) (wrap64 (x9_4 + 1)) a0_0 l0_1)) else (none))) else (none)) else (none)) = some (r1, r2) := by rw [if_pos rfl] at H; exact H
                                            clear H
                                            have H := H1
                                            clear H1
                                            by_cases c31 : 0 ≤ (rd (rd_L2 (rd_L3 l0_1 x6_2) x7_3) x9_4)
                                            · rw [if_pos c31] at H
                                              have c31b0 : decide (0 ≤ (rd (rd_L2 (rd_L3 l0_1 x6_2) x7_3) x9_4)) = true := decide_eq_true c31
                                              clear c31
                                              by_cases c32 : (rd (rd_L2 (rd_L3 l0_1 x6_2) x7_3) x9_4) < (x4_4.length : Int)
                                              · rw [if_pos c32] at H
                                                have c32b0 : decide ((rd (rd_L2 (rd_L3 l0_1 x6_2) x7_3) x9_4) < (x4_4.length : Int)) = true := decide_eq_true c32
                                                clear c32
                                                obtain ⟨y125, hy125⟩ : ∃ y_ : List Int, y_ = (x4_4.set ((rd (rd_L2 (rd_L3 l0_1 x6_2) x7_3) x9_4) : Int).toNat (wrap64 ((rd x4_4 (rd (rd_L2 (rd_L3 l0_1 x6_2) x7_3) x9_4)) + 1))) := ⟨_, rfl⟩
                                                replace H : (if (rd (rd_L2 (rd_L3 l0_1 x6_2) x7_3) x9_4) < (x5_4.length : Int) then (if rdOf false x5_4 (rd (rd_L2 (rd_L3 l0_1 x6_2) x7_3) x9_4) = true then (spec_l02Degrees.l2 k4 y125 (x5_4.set ((rd (rd_L2 (rd_L3 l0_1 x6_2) x7_3) x9_4) : Int).toNat true) x6_2 x7_3 (rd_L2 (rd_L3 l0_1 x6_2) x7_3) (wrap64 (x9_4 + 1)) a0_0 l0_1) else (spec_l02Degrees.l2 k4 y125 (x5_4.set ((rd (rd_L2 (rd_L3 l0_1 x6_2) x7_3) x9_4) : Int).toNat (((rd_L2 (rd_L3 l0_1 x6_2) x7_3).length : Int) == 1)) x6_2 x7_3 (rd_L2 (rd_L3 l0_1 x6_2) x7_3) (wrap64 (x9_4 + 1)) a0_0 l0_1)) else (none)) = some (r1, r2) := by first | (rw [hy125]; with_reducible exact H) | (have H2_ := (Option.bind_some _ _).symm.trans H; rw [hy125]; with_reducible exact H2_) | (have H2_ := (Option.bind_some _ _).symm.trans H; with_reducible exact H2_) | with_reducible exact H | (rw [hy125]; exact H) | exact H
                                                have Ny125 := Aside0.mk hy125
                                                clear hy125
                                                by_cases c34 : (rd (rd_L2 (rd_L3 l0_1 x6_2) x7_3) x9_4) < (x5_4.length : Int)
                                                · rw [if_pos c34] at H
                                                  have c34b0 : decide ((rd (rd_L2 (rd_L3 l0_1 x6_2) x7_3) x9_4) < (x5_4.length : Int)) = true := decide_eq_true c34
                                                  clear c34
                                                  obtain ⟨bq35, hbq35⟩ : ∃ b_ : Bool, b_ = (rdOf false x5_4 (rd (rd_L2 (rd_L3 l0_1 x6_2) x7_3) x9_4)) := ⟨_, rfl⟩
                                                  replace H : (if bq35 = true then (spec_l02Degrees.l2 k4 y125 (x5_4.set ((rd (rd_L2 (rd_L3 l0_1 x6_2) x7_3) x9_4) : Int).toNat true) x6_2 x7_3 (rd_L2 (rd_L3 l0_1 x6_2) x7_3) (wrap64 (x9_4 + 1)) a0_0 l0_1) else (spec_l02Degrees.l2 k4 y125 (x5_4.set ((rd (rd_L2 (rd_L3 l0_1 x6_2) x7_3) x9_4) : Int).toNat (((rd_L2 (rd_L3 l0_1 x6_2) x7_3).length : Int) == 1)) x6_2 x7_3 (rd_L2 (rd_L3 l0_1 x6_2) x7_3) (wrap64 (x9_4 + 1)) a0_0 l0_1)) = some (r1, r2) := by rw [← hbq35] at H; exact H
                                                  have Nbq35 := Aside0.mk hbq35
                                                  clear hbq35
                                                  by_cases c36 : bq35 = true
                                                  · subst c36
                                                    have H1 : (spec_l02Degrees.l2 k4 y125 (x5_4.set ((rd (rd_L2 (rd_L3 l0_1 x6_2) x7_3) x9_4) : Int).toNat true) x6_2 x7_3 (rd_L2 (rd_L3 l0_1 x6_2) x7_3) (wrap64 (x9_4 + 1)) a0_0 l0_1) = some (r1, r2) := by rw [if_pos rfl] at H; exact H
                                                    clear H
                                                    have H := H1
                                                    clear H1
                                                    obtain ⟨y129, hy129⟩ : ∃ y_ : List Bool, y_ = (x5_4.set ((rd (rd_L2 (rd_L3 l0_1 x6_2) x7_3) x9_4) : Int).toNat true) := ⟨_, rfl⟩
                                                    replace H : (spec_l02Degrees.l2 k4 y125 y129 x6_2 x7_3 (rd_L2 (rd_L3 l0_1 x6_2) x7_3) (wrap64 (x9_4 + 1)) a0_0 l0_1) = some (r1, r2) := by first | (rw [hy129]; with_reducible exact H) | (have H2_ := (Option.bind_some _ _).symm.trans H; rw [hy129]; with_reducible exact H2_) | (have H2_ := (Option.bind_some _ _).symm.trans H; with_reducible exact H2_) | with_reducible exact H | (rw [hy129]; exact H) | exact H
                                                    have Ny129 := Aside0.mk hy129
                                                    clear hy129
                                                    have H' := Aside0.mk H
                                                    clear H
                                                    try go_wp2
                                                    have n0_ := Aside0.mk (Kd.R_drew HO_4.out)
                                                    have n1_ := Aside0.mk (Kd.R_drew HO_5.out)
                                                    have n2_ := Aside0.mk (blk_drew BK110.out)
                                                    have n3_ := Aside0.mk (below_drew1 HB.out)
                                                    clear HO_4
                                                    clear HO_5
                                                    clear BK110
                                                    clear HB
                                                    have HO_4 := n0_
                                                    have HO_5 := n1_
                                                    have BK110 := n2_
                                                    have HB := n3_
                                                    clear n0_ n1_ n2_ n3_
                                                    have p121 : 0 ≤ (x9_4 : Int) := of_decide_eq_true (by first | (with_reducible assumption) | assumption)
                                                    have q121 : x9_4 < ((rd_L2 (rd_L3 l0_1 x6_2) x7_3).length : Int) := of_decide_eq_true (by first | (with_reducible assumption) | assumption)
                                                    obtain ⟨ad121, e121, hx121_0⟩ := Kd.at_int HR120_0.out x9_4 p121 q121
                                                    have hw121_0 := hx121_0
                                                    cases e121
                                                    replace hx121_0 := (HB.out.cell (World.block_lt_of_cell? w _ hx121_0)).trans hx121_0
                                                    replace p121 := eq_true p121
                                                    replace q121 := eq_true q121
                                                    refine start_ (n := 9) (S := fun w' => w'.cell? ⟨gb110, 0, none⟩ = some (.int .i64 a0_0) ∧ w'.cell? ⟨gb110, 1, none⟩ = some (.slice (some ad118) l0_1.length c0_1) ∧ w'.cell? (ad121.add (x9_4).toNat) = some (.int .i64 (rd (rd_L2 (rd_L3 l0_1 x6_2) x7_3) x9_4))) (ds := []) #[false, false, false, false, false, false, false, false, false] (by kernel_rfl) rfl rfl ⟨(blk_cell BK110.out 0).trans rfl, (blk_cell BK110.out 1).trans rfl, ((HB.out.cell (World.block_lt_of_cell? w _ hw121_0)).trans hw121_0)⟩ (fun hHeld => ?_); refine with_tabW spec_l02Degrees.tab16 spec_l02Degrees.bits16 (fun HT_ HW_ => ?_)
                                                    generalize wr.drew = w38 at HO_4 HO_5 BK110 HB hx121_0 hHeld ⊢
                                                    refine pure_ (i := 0) (N := some 61) (v := ?_) (a' := ?_) #[true, false, false, false, false, false, false, false, false] rfl rfl (any_of HT_.out (by kernel_rfl)) (fun _ _ _ h => h) (Or.inl ⟨by rfl, ?_⟩) ?_ ?_
                                                    rotate_left
                                                    · intro w'
                                                      go_simp
                                                      with_reducible rfl
                                                    rotate_left
                                                    · simp only [Act.put, List.setIfInBounds_toArray, List.set_cons_zero, List.set_cons_succ, i64_w, i32_w]
                                                      rfl
                                                    refine pure_ (i := 1) (N := some 62) (v := ?_) (a' := ?_) #[true, true, false, false, false, false, false, false, false] rfl rfl (any_of HT_.out (by kernel_rfl)) (fun _ _ _ h => h) (Or.inl ⟨by rfl, ?_⟩) ?_ ?_
                                                    rotate_left
                                                    · intro w'
                                                      go_simp
                                                      with_reducible rfl
                                                    rotate_left
                                                    · simp only [Act.put, List.setIfInBounds_toArray, List.set_cons_zero, List.set_cons_succ, i64_w, i32_w]
                                                      rfl
                                                    refine pure_ (i := 2) (N := some 63) (v := ?_) (a' := ?_) #[true, true, true, false, false, false, false, false, false] rfl rfl (any_of HT_.out (by kernel_rfl)) (fun _ _ _ h => h) (Or.inl ⟨by rfl, ?_⟩) ?_ ?_
                                                    rotate_left
                                                    · intro w'
                                                      go_simp
                                                      with_reducible rfl
                                                    rotate_left
                                                    · simp only [Act.put, List.setIfInBounds_toArray, List.set_cons_zero, List.set_cons_succ, i64_w, i32_w]
                                                      rfl
                                                    refine pure_ (i := 4) (N := some 65) (v := ?_) (a' := ?_) #[true, true, true, false, true, false, false, false, false] rfl rfl (any_of HT_.out (by kernel_rfl)) (fun _ _ _ h => h) (Or.inl ⟨by rfl, ?_⟩) ?_ ?_
                                                    rotate_left
                                                    · intro w'
                                                      go_simp
                                                      with_reducible rfl
                                                    rotate_left
                                                    · simp only [Act.put, List.setIfInBounds_toArray, List.set_cons_zero, List.set_cons_succ, i64_w, i32_w]
                                                      rfl
                                                    refine take_ (i := 3) (N := some 64) (v := ?_) (a' := ?_) #[true, true, true, true, true, false, false, false, false] rfl rfl (take_ofW HT_.out HW_.out (by kernel_rfl)) (fun _ _ _ h => h) (Or.inl ⟨by rfl, ?_⟩) hHeld ?_ ?_
                                                    rotate_left
                                                    · rintro w' ⟨s0, s1, s2⟩
                                                      go_simp
                                                      with_reducible rfl
                                                    rotate_left
                                                    · simp only [Act.put, List.setIfInBounds_toArray, List.set_cons_zero, List.set_cons_succ, i64_w, i32_w]
                                                      rfl
                                                    refine take_ (i := 5) (N := some 66) (v := ?_) (a' := ?_) #[true, true, true, true, true, true, false, false, false] rfl rfl (take_ofW HT_.out HW_.out (by kernel_rfl)) (fun _ _ _ h => h) (Or.inl ⟨by rfl, ?_⟩) hHeld ?_ ?_
                                                    rotate_left
                                                    · rintro w' ⟨s0, s1, s2⟩
                                                      go_simp
                                                      with_reducible rfl
                                                    rotate_left
                                                    · simp only [Act.put, List.setIfInBounds_toArray, List.set_cons_zero, List.set_cons_succ, i64_w, i32_w]
                                                      rfl
                                                    refine pure_ (i := 6) (N := some 67) (v := ?_) (a' := ?_) #[true, true, true, true, true, true, true, false, false] rfl rfl (any_of HT_.out (by kernel_rfl)) (fun _ _ _ h => h) (Or.inl ⟨by rfl, ?_⟩) ?_ ?_
                                                    rotate_left
                                                    · intro w'
                                                      go_simp
                                                      with_reducible rfl
                                                    rotate_left
                                                    · simp only [Act.put, List.setIfInBounds_toArray, List.set_cons_zero, List.set_cons_succ, i64_w, i32_w]
                                                      rfl
                                                    refine one_ (i := 7) (N := some 68) #[true, true, true, true, true, true, true, true, false] rfl rfl (one_of HT_.out (by kernel_rfl)) (by decide) (fun K hK => ?_)
                                                    refine goes_ Tryd.func14 (by kernel_rfl) rfl #[.int .i64 (rd (rd_L2 (rd_L3 l0_1 x6_2) x7_3) x9_4), .int .i64 0, .int .i64 (wrap64 (a0_0 - 1))] (by rfl) rfl rfl (by (try simp only [List.map_toArray, List.map_cons, List.map_nil]); first | done | rfl | (simp only [List.length_drop, List.length_take]; rfl)) ?_
                                                    with_reducible refine (spec_l01In.calls (rd (rd_L2 (rd_L3 l0_1 x6_2) x7_3) x9_4) 0 (wrap64 (a0_0 - 1)) true _ A29.out).mono ?_
                                                    rintro e w' ⟨rfl, ⟨nd, rfl⟩⟩
                                                    refine ⟨_, rfl, ?_⟩
                                                    refine hK.out _ _ ⟨(blk_cell BK110.out 0).trans rfl, (blk_cell BK110.out 1).trans rfl, ((HB.out.cell (World.block_lt_of_cell? w _ hw121_0)).trans hw121_0)⟩ (fun hHeld => ?_)
                                                    clear hK K
                                                    refine norm_ (a' := ?_) ?_ ?_
                                                    rotate_left
                                                    · show Act.put _ (some 68) _ = _
                                                      simp only [Act.put, List.setIfInBounds_toArray, List.set_cons_zero, List.set_cons_succ, i64_w, i32_w]
                                                      rfl
                                                    refine pure_ (i := 8) (N := some 69) (v := ?_) (a' := ?_) #[true, true, true, true, true, true, true, true, true] rfl rfl (any_of HT_.out (by kernel_rfl)) (fun _ _ _ h => h) (Or.inl ⟨by rfl, ?_⟩) ?_ ?_
                                                    rotate_left
                                                    · intro w'
                                                      go_simp
                                                      with_reducible rfl
                                                    rotate_left
                                                    · simp only [Act.put, List.setIfInBounds_toArray, List.set_cons_zero, List.set_cons_succ, i64_w, i32_w]
                                                      rfl
                                                    refine done_ (done_of HT_.out (by kernel_rfl)) ?_
                                                    have p123 : 0 ≤ (x9_4 : Int) := of_decide_eq_true (by first | (with_reducible assumption) | assumption)
                                                    have q123 : x9_4 < ((rd_L2 (rd_L3 l0_1 x6_2) x7_3).length : Int) := of_decide_eq_true (by first | (with_reducible assumption) | assumption)
                                                    obtain ⟨ad123, e123, hx123_0⟩ := Kd.at_int HR120_0.out x9_4 p123 q123
                                                    obtain rfl : ad121 = ad123 := (by injection e123)
                                                    replace hx123_0 := (HB.out.cell (World.block_lt_of_cell? w _ hx123_0)).trans hx123_0
                                                    replace p123 := eq_true p123
                                                    replace q123 := eq_true q123
                                                    obtain ⟨Ao39, co39, eo39⟩ := Kd.R_slice HO_4.out
                                                    subst eo39
                                                    have p124 : 0 ≤ ((rd (rd_L2 (rd_L3 l0_1 x6_2) x7_3) x9_4) : Int) := of_decide_eq_true (by first | (with_reducible assumption) | assumption)
                                                    have q124 : (rd (rd_L2 (rd_L3 l0_1 x6_2) x7_3) x9_4) < (x4_4.length : Int) := of_decide_eq_true (by first | (with_reducible assumption) | assumption)
                                                    obtain ⟨ad124, e124, hx124_0⟩ := Kd.at_int (Kd.R_reads' HO_4.out).2.2 (rd (rd_L2 (rd_L3 l0_1 x6_2) x7_3) x9_4) p124 q124
                                                    cases e124
                                                    replace p124 := eq_true p124
                                                    replace q124 := eq_true q124
                                                    have p33 : 0 ≤ ((rd (rd_L2 (rd_L3 l0_1 x6_2) x7_3) x9_4) : Int) := of_decide_eq_true (by first | (with_reducible assumption) | assumption)
                                                    have q33 : ((rd (rd_L2 (rd_L3 l0_1 x6_2) x7_3) x9_4) : Int) < ((x4_4.length : Int) : Int) := of_decide_eq_true (by first | (with_reducible assumption) | assumption)
                                                    obtain ⟨go33, co33, eo33, gb33, gl33, cl33, HG33⟩ := Kd.R_form HO_4.out (by omega)
                                                    (first | cases eo33 | (injection eo33 with ea_ en_ ec_; (first | subst ea_ | (injection ea_ with ea_; subst ea_)); subst ec_; clear en_))
                                                    have GB33 := Aside0.mk gb33
                                                    have GG33 := Aside0.mk HG33
                                                    clear gb33 gl33 HG33
                                                    (first | simp only [add_plain] at hx124_0 | skip)
                                                    obtain ⟨hx33_0, hf33_0⟩ := Kd.R_celln 0 HO_4.out ((rd (rd_L2 (rd_L3 l0_1 x6_2) x7_3) x9_4) : Int) p33 q33
                                                    replace p33 := eq_true p33
                                                    replace q33 := eq_true q33
                                                    obtain ⟨hy40_, hz40_⟩ := Kd.R_celln 0 HO_4.out ((rd (rd_L2 (rd_L3 l0_1 x6_2) x7_3) x9_4) : Int) (of_decide_eq_true (by first | (with_reducible assumption) | assumption)) (of_decide_eq_true (by first | (with_reducible assumption) | assumption))
                                                    have n0_ := Aside0.mk (Kd.R_drewN HO_4.out nd)
                                                    have n1_ := Aside0.mk (Kd.R_drewN HO_5.out nd)
                                                    have n2_ := Aside0.mk (blk_drewN BK110.out nd)
                                                    have n3_ := Aside0.mk (pw_below_drewN HB.out nd)
                                                    clear HO_4 HO_5 BK110 HB
                                                    have HO_4 := n0_
                                                    have HO_5 := n1_
                                                    have BK110 := n2_
                                                    have HB := n3_
                                                    clear n0_ n1_ n2_ n3_
                                                    have HP40 := Kd.R_putg HO_4.out ((rd (rd_L2 (rd_L3 l0_1 x6_2) x7_3) x9_4) : Int) (wrap64 ((rd x4_4 (rd (rd_L2 (rd_L3 l0_1 x6_2) x7_3) x9_4)) + 1))
                                                    try go_wp2_with (first | ((with_reducible refine gate_store (t := 2) (p := 78) rfl ?_); refine store_event (t := 2) (p := 78) (v := ?vo_w41) (w1 := ((w38.drewN nd).setCell ⟨go33, ((rd (rd_L2 (rd_L3 l0_1 x6_2) x7_3) x9_4) : Int).toNat, none⟩ (.int .i64 (wrap64 ((rd x4_4 (rd (rd_L2 (rd_L3 l0_1 x6_2) x7_3) x9_4)) + 1))))) ?hg ?ho ?hn ?hr ?_; (case ho => rfl); (case hg => rfl); (case hn => rfl); (case hr => first | (go_simp; done) | (go_simp; rfl)); intro w41 hw; have hg : (w38.drewN nd).grownBy w41 (some go33) := (by rw [hw]; exact HP40.2); have hp_ : Kd.R (Kd.int .i64) 2 w41 w.heap.size (fun _ => True) (.slice (some ⟨go33, 0, none⟩) x4_4.length co39) y125 := (by rw [hw, Ny125.out]; exact HP40.1); clear HP40; have n0_ := Aside0.mk (hp_); have n1_ := Aside0.mk (Kd.R_over' (v := (.slice (some ⟨go33, 0, none⟩) x4_4.length co39)) (by (with_reducible repeat (first | apply Kd.R_alloc | apply Kd.R_drewN | apply Kd.R_drew)); exact HO_5.out) (Kd.R_typed HO_4.out) (by decide) hg); have n2_ := Aside0.mk (blk_grown (g := gb110) (o := .cells #[.int .i64 a0_0, .slice (some ad118) l0_1.length c0_1] 24 (0, 0)) (by (with_reducible repeat (first | refine blk_drewN ?_ _ | refine blk_drew ?_ | refine blk_alloc ?_ _)); exact BK110.out) hg (Kd.R_ne HO_4.out BK110.out (by decide))); have n3_ := Aside0.mk ((by rw [hw]; exact below_set (HB.out) GB33.out : Below w.heap.size w w41)); clear HO_4; clear HO_5; clear BK110; clear HB; have HO_4 := n0_; have HO_5 := n1_; have BK110 := n2_; have HB := n3_; clear n0_ n1_ n2_ n3_; clear hg hw hp_))
                                                    have n0_ := Aside0.mk (Kd.R_drew HO_4.out)
                                                    have n1_ := Aside0.mk (Kd.R_drew HO_5.out)
                                                    have n2_ := Aside0.mk (blk_drew BK110.out)
                                                    have n3_ := Aside0.mk (below_drew1 HB.out)
                                                    clear HO_4
                                                    clear HO_5
                                                    clear BK110
                                                    clear HB
                                                    have HO_4 := n0_
                                                    have HO_5 := n1_
                                                    have BK110 := n2_
                                                    have HB := n3_
                                                    clear n0_ n1_ n2_ n3_
                                                    have p126 : 0 ≤ (x9_4 : Int) := of_decide_eq_true (by first | (with_reducible assumption) | assumption)
                                                    have q126 : x9_4 < ((rd_L2 (rd_L3 l0_1 x6_2) x7_3).length : Int) := of_decide_eq_true (by first | (with_reducible assumption) | assumption)
                                                    obtain ⟨ad126, e126, hx126_0⟩ := Kd.at_int HR120_0.out x9_4 p126 q126
                                                    have hw126_0 := hx126_0
                                                    obtain rfl : ad121 = ad126 := (by injection e126)
                                                    replace hx126_0 := (HB.out.cell (World.block_lt_of_cell? w _ hx126_0)).trans hx126_0
                                                    replace p126 := eq_true p126
                                                    replace q126 := eq_true q126
                                                    have p127 : 0 ≤ (x9_4 : Int) := of_decide_eq_true (by first | (with_reducible assumption) | assumption)
                                                    have q127 : x9_4 < ((rd_L2 (rd_L3 l0_1 x6_2) x7_3).length : Int) := of_decide_eq_true (by first | (with_reducible assumption) | assumption)
                                                    obtain ⟨ad127, e127, hx127_0⟩ := Kd.at_int HR120_0.out x9_4 p127 q127
                                                    have hw127_0 := hx127_0
                                                    obtain rfl : ad121 = ad127 := (by injection e127)
                                                    replace hx127_0 := (HB.out.cell (World.block_lt_of_cell? w _ hx127_0)).trans hx127_0
                                                    replace p127 := eq_true p127
                                                    replace q127 := eq_true q127
                                                    obtain ⟨Ao43, co43, eo43⟩ := Kd.R_slice HO_5.out
                                                    (first | subst eo43 | (injection eo43 with f1_ f2_ f3_; have f4_ := f1_.symm; have f5_ := f3_.symm; clear f1_ f2_ f3_; subst f4_; subst f5_))
                                                    have p128 : 0 ≤ ((rd (rd_L2 (rd_L3 l0_1 x6_2) x7_3) x9_4) : Int) := of_decide_eq_true (by first | (with_reducible assumption) | assumption)
                                                    have q128 : (rd (rd_L2 (rd_L3 l0_1 x6_2) x7_3) x9_4) < (x5_4.length : Int) := of_decide_eq_true (by first | (with_reducible assumption) | assumption)
                                                    obtain ⟨ad128, e128, hx128_0⟩ := Kd.at_bool (Kd.R_reads' HO_5.out).2.2 (rd (rd_L2 (rd_L3 l0_1 x6_2) x7_3) x9_4) p128 q128
                                                    (try rw [← Nbq35.out] at hx128_0)
                                                    cases e128
                                                    replace p128 := eq_true p128
                                                    replace q128 := eq_true q128
                                                    have p37 : 0 ≤ ((rd (rd_L2 (rd_L3 l0_1 x6_2) x7_3) x9_4) : Int) := of_decide_eq_true (by first | (with_reducible assumption) | assumption)
                                                    have q37 : ((rd (rd_L2 (rd_L3 l0_1 x6_2) x7_3) x9_4) : Int) < ((x5_4.length : Int) : Int) := of_decide_eq_true (by first | (with_reducible assumption) | assumption)
                                                    obtain ⟨go37, co37, eo37, gb37, gl37, cl37, HG37⟩ := Kd.R_form HO_5.out (by omega)
                                                    (first | cases eo37 | (injection eo37 with ea_ en_ ec_; (first | subst ea_ | (injection ea_ with ea_; subst ea_)); subst ec_; clear en_))
                                                    have GB37 := Aside0.mk gb37
                                                    have GG37 := Aside0.mk HG37
                                                    clear gb37 gl37 HG37
                                                    (first | simp only [add_plain] at hx128_0 | skip)
                                                    obtain ⟨hx37_0, hf37_0⟩ := Kd.R_celln false HO_5.out ((rd (rd_L2 (rd_L3 l0_1 x6_2) x7_3) x9_4) : Int) p37 q37
                                                    replace p37 := eq_true p37
                                                    replace q37 := eq_true q37
                                                    have HP44 := Kd.R_putn HO_5.out ((rd (rd_L2 (rd_L3 l0_1 x6_2) x7_3) x9_4) : Int) true
                                                    rw [← Ny129.out] at HP44
                                                    have HQ44 := Aside0.mk HP44
                                                    clear HP44
                                                    refine start_ (n := 19) (S := fun w' => w'.cell? (ad121.add (x9_4).toNat) = some (.int .i64 (rd (rd_L2 (rd_L3 l0_1 x6_2) x7_3) x9_4)) ∧ w'.cell? (ad121.add (x9_4).toNat) = some (.int .i64 (rd (rd_L2 (rd_L3 l0_1 x6_2) x7_3) x9_4)) ∧ w'.cell? ⟨go37, ((rd (rd_L2 (rd_L3 l0_1 x6_2) x7_3) x9_4)).toNat, none⟩ = some (.bool true)) (ds := [18]) #[false, false, false, false, false, false, false, false, false, false, false, false, false, false, false, false, false, false, false] (by kernel_rfl) rfl rfl ⟨((HB.out.cell (World.block_lt_of_cell? w _ hw126_0)).trans hw126_0), ((HB.out.cell (World.block_lt_of_cell? w _ hw127_0)).trans hw127_0), hx128_0⟩ (fun hHeld => ?_); refine with_tabW spec_l02Degrees.tab19 spec_l02Degrees.bits19 (fun HT_ HW_ => ?_)
                                                    generalize w41.drew = w42 at HO_4 HO_5 BK110 HB GG37 HQ44 hf37_0 hx126_0 hx127_0 hx128_0 hx37_0 hHeld ⊢
                                                    refine pure_ (i := 0) (N := some 79) (v := ?_) (a' := ?_) #[true, false, false, false, false, false, false, false, false, false, false, false, false, false, false, false, false, false, false] rfl rfl (any_of HT_.out (by kernel_rfl)) (fun _ _ _ h => h) (Or.inl ⟨by rfl, ?_⟩) ?_ ?_
                                                    rotate_left
                                                    · intro w'
                                                      go_simp
                                                      with_reducible rfl
                                                    rotate_left
                                                    · simp only [Act.put, List.setIfInBounds_toArray, List.set_cons_zero, List.set_cons_succ, i64_w, i32_w]
                                                      rfl
                                                    refine pure_ (i := 1) (N := some 80) (v := ?_) (a' := ?_) #[true, true, false, false, false, false, false, false, false, false, false, false, false, false, false, false, false, false, false] rfl rfl (any_of HT_.out (by kernel_rfl)) (fun _ _ _ h => h) (Or.inl ⟨by rfl, ?_⟩) ?_ ?_
                                                    rotate_left
                                                    · intro w'
                                                      go_simp
                                                      with_reducible rfl
                                                    rotate_left
                                                    · simp only [Act.put, List.setIfInBounds_toArray, List.set_cons_zero, List.set_cons_succ, i64_w, i32_w]
                                                      rfl
                                                    refine pure_ (i := 2) (N := some 81) (v := ?_) (a' := ?_) #[true, true, true, false, false, false, false, false, false, false, false, false, false, false, false, false, false, false, false] rfl rfl (any_of HT_.out (by kernel_rfl)) (fun _ _ _ h => h) (Or.inl ⟨by rfl, ?_⟩) ?_ ?_
                                                    rotate_left
                                                    · intro w'
                                                      go_simp
                                                      with_reducible rfl
                                                    rotate_left
                                                    · simp only [Act.put, List.setIfInBounds_toArray, List.set_cons_zero, List.set_cons_succ, i64_w, i32_w]
                                                      rfl
                                                    refine pure_ (i := 3) (N := some 82) (v := ?_) (a' := ?_) #[true, true, true, true, false, false, false, false, false, false, false, false, false, false, false, false, false, false, false] rfl rfl (any_of HT_.out (by kernel_rfl)) (fun _ _ _ h => h) (Or.inl ⟨by rfl, ?_⟩) ?_ ?_
                                                    rotate_left
                                                    · intro w'
                                                      go_simp
                                                      with_reducible rfl
                                                    rotate_left
                                                    · simp only [Act.put, List.setIfInBounds_toArray, List.set_cons_zero, List.set_cons_succ, i64_w, i32_w]
                                                      rfl
                                                    refine pure_ (i := 5) (N := some 84) (v := ?_) (a' := ?_) #[true, true, true, true, false, true, false, false, false, false, false, false, false, false, false, false, false, false, false] rfl rfl (any_of HT_.out (by kernel_rfl)) (fun _ _ _ h => h) (Or.inl ⟨by rfl, ?_⟩) ?_ ?_
                                                    rotate_left
                                                    · intro w'
                                                      go_simp
                                                      with_reducible rfl
                                                    rotate_left
                                                    · simp only [Act.put, List.setIfInBounds_toArray, List.set_cons_zero, List.set_cons_succ, i64_w, i32_w]
                                                      rfl
                                                    refine pure_ (i := 6) (N := some 85) (v := ?_) (a' := ?_) #[true, true, true, true, false, true, true, false, false, false, false, false, false, false, false, false, false, false, false] rfl rfl (any_of HT_.out (by kernel_rfl)) (fun _ _ _ h => h) (Or.inl ⟨by rfl, ?_⟩) ?_ ?_
                                                    rotate_left
                                                    · intro w'
                                                      go_simp
                                                      with_reducible rfl
                                                    rotate_left
                                                    · simp only [Act.put, List.setIfInBounds_toArray, List.set_cons_zero, List.set_cons_succ, i64_w, i32_w]
                                                      rfl
                                                    refine pure_ (i := 7) (N := some 86) (v := ?_) (a' := ?_) #[true, true, true, true, false, true, true, true, false, false, false, false, false, false, false, false, false, false, false] rfl rfl (any_of HT_.out (by kernel_rfl)) (fun _ _ _ h => h) (Or.inl ⟨by rfl, ?_⟩) ?_ ?_
                                                    rotate_left
                                                    · intro w'
                                                      go_simp
                                                      with_reducible rfl
                                                    rotate_left
                                                    · simp only [Act.put, List.setIfInBounds_toArray, List.set_cons_zero, List.set_cons_succ, i64_w, i32_w]
                                                      rfl
                                                    refine pure_ (i := 8) (N := some 87) (v := ?_) (a' := ?_) #[true, true, true, true, false, true, true, true, true, false, false, false, false, false, false, false, false, false, false] rfl rfl (any_of HT_.out (by kernel_rfl)) (fun _ _ _ h => h) (Or.inl ⟨by rfl, ?_⟩) ?_ ?_
                                                    rotate_left
                                                    · intro w'
                                                      go_simp
                                                      with_reducible rfl
                                                    rotate_left
                                                    · simp only [Act.put, List.setIfInBounds_toArray, List.set_cons_zero, List.set_cons_succ, i64_w, i32_w]
                                                      rfl
                                                    refine take_ (i := 4) (N := some 83) (v := ?_) (a' := ?_) #[true, true, true, true, true, true, true, true, true, false, false, false, false, false, false, false, false, false, false] rfl rfl (take_ofW HT_.out HW_.out (by kernel_rfl)) (fun _ _ _ h => h) (Or.inl ⟨by rfl, ?_⟩) hHeld ?_ ?_
                                                    rotate_left
                                                    · rintro w' ⟨s0, s1, s2⟩
                                                      go_simp
                                                      with_reducible rfl
                                                    rotate_left
                                                    · simp only [Act.put, List.setIfInBounds_toArray, List.set_cons_zero, List.set_cons_succ, i64_w, i32_w]
                                                      rfl
                                                    refine take_ (i := 9) (N := some 88) (v := ?_) (a' := ?_) #[true, true, true, true, true, true, true, true, true, true, false, false, false, false, false, false, false, false, false] rfl rfl (take_ofW HT_.out HW_.out (by kernel_rfl)) (fun _ _ _ h => h) (Or.inl ⟨by rfl, ?_⟩) hHeld ?_ ?_
                                                    rotate_left
                                                    · rintro w' ⟨s0, s1, s2⟩
                                                      go_simp
                                                      with_reducible rfl
                                                    rotate_left
                                                    · simp only [Act.put, List.setIfInBounds_toArray, List.set_cons_zero, List.set_cons_succ, i64_w, i32_w]
                                                      rfl
                                                    refine pure_ (i := 10) (N := some 89) (v := ?_) (a' := ?_) #[true, true, true, true, true, true, true, true, true, true, true, false, false, false, false, false, false, false, false] rfl rfl (any_of HT_.out (by kernel_rfl)) (fun _ _ _ h => h) (Or.inl ⟨by rfl, ?_⟩) ?_ ?_
                                                    rotate_left
                                                    · intro w'
                                                      go_simp
                                                      with_reducible rfl
                                                    rotate_left
                                                    · simp only [Act.put, List.setIfInBounds_toArray, List.set_cons_zero, List.set_cons_succ, i64_w, i32_w]
                                                      rfl
                                                    refine take_ (i := 11) (N := some 90) (v := ?_) (a' := ?_) #[true, true, true, true, true, true, true, true, true, true, true, true, false, false, false, false, false, false, false] rfl rfl (take_ofW HT_.out HW_.out (by kernel_rfl)) (fun _ _ _ h => h) (Or.inl ⟨by rfl, ?_⟩) hHeld ?_ ?_
                                                    rotate_left
                                                    · rintro w' ⟨s0, s1, s2⟩
                                                      go_simp
                                                      with_reducible rfl
                                                    rotate_left
                                                    · simp only [Act.put, List.setIfInBounds_toArray, List.set_cons_zero, List.set_cons_succ, i64_w, i32_w]
                                                      rfl
                                                    refine pure_ (i := 12) (N := some 91) (v := ?_) (a' := ?_) #[true, true, true, true, true, true, true, true, true, true, true, true, true, false, false, false, false, false, false] rfl rfl (any_of HT_.out (by kernel_rfl)) (fun _ _ _ h => h) (Or.inl ⟨by rfl, ?_⟩) ?_ ?_
                                                    rotate_left
                                                    · intro w'
                                                      go_simp
                                                      with_reducible rfl
                                                    rotate_left
                                                    · simp only [Act.put, List.setIfInBounds_toArray, List.set_cons_zero, List.set_cons_succ, i64_w, i32_w]
                                                      rfl
                                                    refine pure_ (i := 13) (N := some 92) (v := undef) (a' := ?_) #[true, true, true, true, true, true, true, true, true, true, true, true, true, true, false, false, false, false, false] rfl rfl (any_of HT_.out (by kernel_rfl)) (fun _ _ _ h => h) (Or.inr ⟨by rfl, rfl⟩) ?_ ?_
                                                    rotate_left
                                                    · simp only [Act.put, List.setIfInBounds_toArray, List.set_cons_zero, List.set_cons_succ, i64_w, i32_w]
                                                      rfl
                                                    refine pure_ (i := 14) (N := some 93) (v := undef) (a' := ?_) #[true, true, true, true, true, true, true, true, true, true, true, true, true, true, true, false, false, false, false] rfl rfl (any_of HT_.out (by kernel_rfl)) (fun _ _ _ h => h) (Or.inr ⟨by rfl, rfl⟩) ?_ ?_
                                                    rotate_left
                                                    · simp only [Act.put, List.setIfInBounds_toArray, List.set_cons_zero, List.set_cons_succ, i64_w, i32_w]
                                                      rfl
                                                    refine pure_ (i := 15) (N := some 94) (v := undef) (a' := ?_) #[true, true, true, true, true, true, true, true, true, true, true, true, true, true, true, true, false, false, false] rfl rfl (any_of HT_.out (by kernel_rfl)) (fun _ _ _ h => h) (Or.inr ⟨by rfl, rfl⟩) ?_ ?_
                                                    rotate_left
                                                    · simp only [Act.put, List.setIfInBounds_toArray, List.set_cons_zero, List.set_cons_succ, i64_w, i32_w]
                                                      rfl
                                                    refine pure_ (i := 16) (N := some 95) (v := ?_) (a' := ?_) #[true, true, true, true, true, true, true, true, true, true, true, true, true, true, true, true, true, false, false] rfl rfl (any_of HT_.out (by kernel_rfl)) (fun _ _ _ h => h) (Or.inl ⟨by rfl, ?_⟩) ?_ ?_
                                                    rotate_left
                                                    · intro w'
                                                      go_simp
                                                      with_reducible rfl
                                                    rotate_left
                                                    · simp only [Act.put, List.setIfInBounds_toArray, List.set_cons_zero, List.set_cons_succ, i64_w, i32_w]
                                                      rfl
                                                    refine pure_ (i := 17) (N := some 96) (v := ?_) (a' := ?_) #[true, true, true, true, true, true, true, true, true, true, true, true, true, true, true, true, true, true, false] rfl rfl (any_of HT_.out (by kernel_rfl)) (fun _ _ _ h => h) (Or.inl ⟨by rfl, ?_⟩) ?_ ?_
                                                    rotate_left
                                                    · intro w'
                                                      go_simp
                                                      with_reducible rfl
                                                    rotate_left
                                                    · simp only [Act.put, List.setIfInBounds_toArray, List.set_cons_zero, List.set_cons_succ, i64_w, i32_w]
                                                      rfl
                                                    refine last_ (i := 18) (N := none) #[true, true, true, true, true, true, true, true, true, true, true, true, true, true, true, true, true, true, true] rfl rfl (one_of HT_.out (by kernel_rfl)) (by decide) (fun K hK => ?_)
                                                    refine skip_ (w1 := ?_) (by rfl) rfl ?_ ?_
                                                    rotate_left
                                                    · go_simp
                                                      rfl
                                                    refine hK.out _ _ ?_
                                                    clear hK K
                                                    refine done_ (done_of HT_.out (by kernel_rfl)) ?_
                                                    try go_wp2
                                                    go_roundg k4
                                                    case measure => have := HJ1.out; have := HK2.out; have := HK3.out; have := HK4.out; omega
                                                    case rel => exact ⟨(y125), (y129), (wrap64 (x9_4 + 1)), (by first | rfl | (simp; done) | (simp [*]; done)), H', ⟨by have := HJ1.out; have := HK2.out; have := HK3.out; have := HK4.out; omega⟩, ⟨by (with_reducible repeat (first | apply Kd.R_alloc | apply Kd.R_drewN | apply Kd.R_drew)); exact Kd.R_mono (Kd.R_far (p := ⟨go37, ((rd (rd_L2 (rd_L3 l0_1 x6_2) x7_3) x9_4) : Int).toNat, none⟩) (Kd.R_types HO_4.out GG37.out (by decide)) (fun _ hk => hk.2) (.bool true)) (fun _ hk => trivial)⟩, ⟨by (with_reducible repeat (first | apply Kd.R_alloc | apply Kd.R_drewN | apply Kd.R_drew)); exact HQ44.out⟩, ⟨by (with_reducible repeat (first | refine blk_drewN ?_ _ | refine blk_drew ?_ | refine blk_alloc ?_ _)); refine blk_far ?_ (by have h_ := Kd.R_ne HO_5.out BK110.out (by decide); intro e_; exact h_ (by rw [e_]; rfl)) _; (with_reducible repeat (first | refine blk_drewN ?_ _ | refine blk_drew ?_ | refine blk_alloc ?_ _)); exact BK110.out⟩, ⟨by repeat (first | (with_reducible first | exact HB.out | apply below_alloc | apply pw_below_drewN | apply below_drew1 | refine below_set ?_ GB37.out | refine below_set ?_ GE110.out) | exact HB.out)⟩⟩
                                                  · replace c36 := Bool.eq_false_iff.mpr c36
                                                    subst c36
                                                    have H1 : (spec_l02Degrees.l2 k4 y125 (x5_4.set ((rd (rd_L2 (rd_L3 l0_1 x6_2) x7_3) x9_4) : Int).toNat (((rd_L2 (rd_L3 l0_1 x6_2) x7_3).length : Int) == 1)) x6_2 x7_3 (rd_L2 (rd_L3 l0_1 x6_2) x7_3) (wrap64 (x9_4 + 1)) a0_0 l0_1) = some (r1, r2) := by rw [if_neg (show ¬ (false = true) by decide)] at H; exact H
                                                    clear H
                                                    have H := H1
                                                    clear H1
                                                    obtain ⟨y130, hy130⟩ : ∃ y_ : List Bool, y_ = (x5_4.set ((rd (rd_L2 (rd_L3 l0_1 x6_2) x7_3) x9_4) : Int).toNat (((rd_L2 (rd_L3 l0_1 x6_2) x7_3).length : Int) == 1)) := ⟨_, rfl⟩
                                                    replace H : (spec_l02Degrees.l2 k4 y125 y130 x6_2 x7_3 (rd_L2 (rd_L3 l0_1 x6_2) x7_3) (wrap64 (x9_4 + 1)) a0_0 l0_1) = some (r1, r2) := by first | (rw [hy130]; with_reducible exact H) | (have H2_ := (Option.bind_some _ _).symm.trans H; rw [hy130]; with_reducible exact H2_) | (have H2_ := (Option.bind_some _ _).symm.trans H; with_reducible exact H2_) | with_reducible exact H | (rw [hy130]; exact H) | exact H
                                                    have Ny130 := Aside0.mk hy130
                                                    clear hy130
                                                    have H' := Aside0.mk H
                                                    clear H
                                                    try go_wp2
                                                    have n0_ := Aside0.mk (Kd.R_drew HO_4.out)
                                                    have n1_ := Aside0.mk (Kd.R_drew HO_5.out)
                                                    have n2_ := Aside0.mk (blk_drew BK110.out)
                                                    have n3_ := Aside0.mk (below_drew1 HB.out)
                                                    clear HO_4
                                                    clear HO_5
                                                    clear BK110
                                                    clear HB
                                                    have HO_4 := n0_
                                                    have HO_5 := n1_
                                                    have BK110 := n2_
                                                    have HB := n3_
                                                    clear n0_ n1_ n2_ n3_
                                                    have p121 : 0 ≤ (x9_4 : Int) := of_decide_eq_true (by first | (with_reducible assumption) | assumption)
                                                    have q121 : x9_4 < ((rd_L2 (rd_L3 l0_1 x6_2) x7_3).length : Int) := of_decide_eq_true (by first | (with_reducible assumption) | assumption)
                                                    obtain ⟨ad121, e121, hx121_0⟩ := Kd.at_int HR120_0.out x9_4 p121 q121
                                                    have hw121_0 := hx121_0
                                                    cases e121
                                                    replace hx121_0 := (HB.out.cell (World.block_lt_of_cell? w _ hx121_0)).trans hx121_0
                                                    replace p121 := eq_true p121
                                                    replace q121 := eq_true q121
                                                    refine start_ (n := 9) (S := fun w' => w'.cell? ⟨gb110, 0, none⟩ = some (.int .i64 a0_0) ∧ w'.cell? ⟨gb110, 1, none⟩ = some (.slice (some ad118) l0_1.length c0_1) ∧ w'.cell? (ad121.add (x9_4).toNat) = some (.int .i64 (rd (rd_L2 (rd_L3 l0_1 x6_2) x7_3) x9_4))) (ds := []) #[false, false, false, false, false, false, false, false, false] (by kernel_rfl) rfl rfl ⟨(blk_cell BK110.out 0).trans rfl, (blk_cell BK110.out 1).trans rfl, ((HB.out.cell (World.block_lt_of_cell? w _ hw121_0)).trans hw121_0)⟩ (fun hHeld => ?_); refine with_tabW spec_l02Degrees.tab16 spec_l02Degrees.bits16 (fun HT_ HW_ => ?_)
                                                    generalize wr.drew = w46 at HO_4 HO_5 BK110 HB hx121_0 hHeld ⊢
                                                    refine pure_ (i := 0) (N := some 61) (v := ?_) (a' := ?_) #[true, false, false, false, false, false, false, false, false] rfl rfl (any_of HT_.out (by kernel_rfl)) (fun _ _ _ h => h) (Or.inl ⟨by rfl, ?_⟩) ?_ ?_
                                                    rotate_left
                                                    · intro w'
                                                      go_simp
                                                      with_reducible rfl
                                                    rotate_left
                                                    · simp only [Act.put, List.setIfInBounds_toArray, List.set_cons_zero, List.set_cons_succ, i64_w, i32_w]
                                                      rfl
                                                    refine pure_ (i := 1) (N := some 62) (v := ?_) (a' := ?_) #[true, true, false, false, false, false, false, false, false] rfl rfl (any_of HT_.out (by kernel_rfl)) (fun _ _ _ h => h) (Or.inl ⟨by rfl, ?_⟩) ?_ ?_
                                                    rotate_left
                                                    · intro w'
                                                      go_simp
                                                      with_reducible rfl
                                                    rotate_left
                                                    · simp only [Act.put, List.setIfInBounds_toArray, List.set_cons_zero, List.set_cons_succ, i64_w, i32_w]
                                                      rfl
                                                    refine pure_ (i := 2) (N := some 63) (v := ?_) (a' := ?_) #[true, true, true, false, false, false, false, false, false] rfl rfl (any_of HT_.out (by kernel_rfl)) (fun _ _ _ h => h) (Or.inl ⟨by rfl, ?_⟩) ?_ ?_
                                                    rotate_left
                                                    · intro w'
                                                      go_simp
                                                      with_reducible rfl
                                                    rotate_left
                                                    · simp only [Act.put, List.setIfInBounds_toArray, List.set_cons_zero, List.set_cons_succ, i64_w, i32_w]
                                                      rfl
                                                    refine pure_ (i := 4) (N := some 65) (v := ?_) (a' := ?_) #[true, true, true, false, true, false, false, false, false] rfl rfl (any_of HT_.out (by kernel_rfl)) (fun _ _ _ h => h) (Or.inl ⟨by rfl, ?_⟩) ?_ ?_
                                                    rotate_left
                                                    · intro w'
                                                      go_simp
                                                      with_reducible rfl
                                                    rotate_left
                                                    · simp only [Act.put, List.setIfInBounds_toArray, List.set_cons_zero, List.set_cons_succ, i64_w, i32_w]
                                                      rfl
                                                    refine take_ (i := 3) (N := some 64) (v := ?_) (a' := ?_) #[true, true, true, true, true, false, false, false, false] rfl rfl (take_ofW HT_.out HW_.out (by kernel_rfl)) (fun _ _ _ h => h) (Or.inl ⟨by rfl, ?_⟩) hHeld ?_ ?_
                                                    rotate_left
                                                    · rintro w' ⟨s0, s1, s2⟩
                                                      go_simp
                                                      with_reducible rfl
                                                    rotate_left
                                                    · simp only [Act.put, List.setIfInBounds_toArray, List.set_cons_zero, List.set_cons_succ, i64_w, i32_w]
                                                      rfl
                                                    refine take_ (i := 5) (N := some 66) (v := ?_) (a' := ?_) #[true, true, true, true, true, true, false, false, false] rfl rfl (take_ofW HT_.out HW_.out (by kernel_rfl)) (fun _ _ _ h => h) (Or.inl ⟨by rfl, ?_⟩) hHeld ?_ ?_
                                                    rotate_left
                                                    · rintro w' ⟨s0, s1, s2⟩
                                                      go_simp
                                                      with_reducible rfl
                                                    rotate_left
                                                    · simp only [Act.put, List.setIfInBounds_toArray, List.set_cons_zero, List.set_cons_succ, i64_w, i32_w]
                                                      rfl
                                                    refine pure_ (i := 6) (N := some 67) (v := ?_) (a' := ?_) #[true, true, true, true, true, true, true, false, false] rfl rfl (any_of HT_.out (by kernel_rfl)) (fun _ _ _ h => h) (Or.inl ⟨by rfl, ?_⟩) ?_ ?_
                                                    rotate_left
                                                    · intro w'
                                                      go_simp
                                                      with_reducible rfl
                                                    rotate_left
                                                    · simp only [Act.put, List.setIfInBounds_toArray, List.set_cons_zero, List.set_cons_succ, i64_w, i32_w]
                                                      rfl
                                                    refine one_ (i := 7) (N := some 68) #[true, true, true, true, true, true, true, true, false] rfl rfl (one_of HT_.out (by kernel_rfl)) (by decide) (fun K hK => ?_)
                                                    refine goes_ Tryd.func14 (by kernel_rfl) rfl #[.int .i64 (rd (rd_L2 (rd_L3 l0_1 x6_2) x7_3) x9_4), .int .i64 0, .int .i64 (wrap64 (a0_0 - 1))] (by rfl) rfl rfl (by (try simp only [List.map_toArray, List.map_cons, List.map_nil]); first | done | rfl | (simp only [List.length_drop, List.length_take]; rfl)) ?_
                                                    with_reducible refine (spec_l01In.calls (rd (rd_L2 (rd_L3 l0_1 x6_2) x7_3) x9_4) 0 (wrap64 (a0_0 - 1)) true _ A29.out).mono ?_
                                                    rintro e w' ⟨rfl, ⟨nd, rfl⟩⟩
                                                    refine ⟨_, rfl, ?_⟩
                                                    refine hK.out _ _ ⟨(blk_cell BK110.out 0).trans rfl, (blk_cell BK110.out 1).trans rfl, ((HB.out.cell (World.block_lt_of_cell? w _ hw121_0)).trans hw121_0)⟩ (fun hHeld => ?_)
                                                    clear hK K
                                                    refine norm_ (a' := ?_) ?_ ?_
                                                    rotate_left
                                                    · show Act.put _ (some 68) _ = _
                                                      simp only [Act.put, List.setIfInBounds_toArray, List.set_cons_zero, List.set_cons_succ, i64_w, i32_w]
                                                      rfl
                                                    refine pure_ (i := 8) (N := some 69) (v := ?_) (a' := ?_) #[true, true, true, true, true, true, true, true, true] rfl rfl (any_of HT_.out (by kernel_rfl)) (fun _ _ _ h => h) (Or.inl ⟨by rfl, ?_⟩) ?_ ?_
                                                    rotate_left
                                                    · intro w'
                                                      go_simp
                                                      with_reducible rfl
                                                    rotate_left
                                                    · simp only [Act.put, List.setIfInBounds_toArray, List.set_cons_zero, List.set_cons_succ, i64_w, i32_w]
                                                      rfl
                                                    refine done_ (done_of HT_.out (by kernel_rfl)) ?_
                                                    have p123 : 0 ≤ (x9_4 : Int) := of_decide_eq_true (by first | (with_reducible assumption) | assumption)
                                                    have q123 : x9_4 < ((rd_L2 (rd_L3 l0_1 x6_2) x7_3).length : Int) := of_decide_eq_true (by first | (with_reducible assumption) | assumption)
                                                    obtain ⟨ad123, e123, hx123_0⟩ := Kd.at_int HR120_0.out x9_4 p123 q123
                                                    obtain rfl : ad121 = ad123 := (by injection e123)
                                                    replace hx123_0 := (HB.out.cell (World.block_lt_of_cell? w _ hx123_0)).trans hx123_0
                                                    replace p123 := eq_true p123
                                                    replace q123 := eq_true q123
                                                    obtain ⟨Ao47, co47, eo47⟩ := Kd.R_slice HO_4.out
                                                    subst eo47
                                                    have p124 : 0 ≤ ((rd (rd_L2 (rd_L3 l0_1 x6_2) x7_3) x9_4) : Int) := of_decide_eq_true (by first | (with_reducible assumption) | assumption)
                                                    have q124 : (rd (rd_L2 (rd_L3 l0_1 x6_2) x7_3) x9_4) < (x4_4.length : Int) := of_decide_eq_true (by first | (with_reducible assumption) | assumption)
                                                    obtain ⟨ad124, e124, hx124_0⟩ := Kd.at_int (Kd.R_reads' HO_4.out).2.2 (rd (rd_L2 (rd_L3 l0_1 x6_2) x7_3) x9_4) p124 q124
                                                    cases e124
                                                    replace p124 := eq_true p124
                                                    replace q124 := eq_true q124
                                                    have p33 : 0 ≤ ((rd (rd_L2 (rd_L3 l0_1 x6_2) x7_3) x9_4) : Int) := of_decide_eq_true (by first | (with_reducible assumption) | assumption)
                                                    have q33 : ((rd (rd_L2 (rd_L3 l0_1 x6_2) x7_3) x9_4) : Int) < ((x4_4.length : Int) : Int) := of_decide_eq_true (by first | (with_reducible assumption) | assumption)
                                                    obtain ⟨go33, co33, eo33, gb33, gl33, cl33, HG33⟩ := Kd.R_form HO_4.out (by omega)
                                                    (first | cases eo33 | (injection eo33 with ea_ en_ ec_; (first | subst ea_ | (injection ea_ with ea_; subst ea_)); subst ec_; clear en_))
                                                    have GB33 := Aside0.mk gb33
                                                    have GG33 := Aside0.mk HG33
                                                    clear gb33 gl33 HG33
                                                    (first | simp only [add_plain] at hx124_0 | skip)
                                                    obtain ⟨hx33_0, hf33_0⟩ := Kd.R_celln 0 HO_4.out ((rd (rd_L2 (rd_L3 l0_1 x6_2) x7_3) x9_4) : Int) p33 q33
                                                    replace p33 := eq_true p33
                                                    replace q33 := eq_true q33
                                                    obtain ⟨hy48_, hz48_⟩ := Kd.R_celln 0 HO_4.out ((rd (rd_L2 (rd_L3 l0_1 x6_2) x7_3) x9_4) : Int) (of_decide_eq_true (by first | (with_reducible assumption) | assumption)) (of_decide_eq_true (by first | (with_reducible assumption) | assumption))
                                                    have n0_ := Aside0.mk (Kd.R_drewN HO_4.out nd)
                                                    have n1_ := Aside0.mk (Kd.R_drewN HO_5.out nd)
                                                    have n2_ := Aside0.mk (blk_drewN BK110.out nd)
                                                    have n3_ := Aside0.mk (pw_below_drewN HB.out nd)
                                                    clear HO_4 HO_5 BK110 HB
                                                    have HO_4 := n0_
                                                    have HO_5 := n1_
                                                    have BK110 := n2_
                                                    have HB := n3_
                                                    clear n0_ n1_ n2_ n3_
                                                    have HP48 := Kd.R_putg HO_4.out ((rd (rd_L2 (rd_L3 l0_1 x6_2) x7_3) x9_4) : Int) (wrap64 ((rd x4_4 (rd (rd_L2 (rd_L3 l0_1 x6_2) x7_3) x9_4)) + 1))
                                                    try go_wp2_with (first | ((with_reducible refine gate_store (t := 2) (p := 78) rfl ?_); refine store_event (t := 2) (p := 78) (v := ?vo_w49) (w1 := ((w46.drewN nd).setCell ⟨go33, ((rd (rd_L2 (rd_L3 l0_1 x6_2) x7_3) x9_4) : Int).toNat, none⟩ (.int .i64 (wrap64 ((rd x4_4 (rd (rd_L2 (rd_L3 l0_1 x6_2) x7_3) x9_4)) + 1))))) ?hg ?ho ?hn ?hr ?_; (case ho => rfl); (case hg => rfl); (case hn => rfl); (case hr => first | (go_simp; done) | (go_simp; rfl)); intro w49 hw; have hg : (w46.drewN nd).grownBy w49 (some go33) := (by rw [hw]; exact HP48.2); have hp_ : Kd.R (Kd.int .i64) 2 w49 w.heap.size (fun _ => True) (.slice (some ⟨go33, 0, none⟩) x4_4.length co47) y125 := (by rw [hw, Ny125.out]; exact HP48.1); clear HP48; have n0_ := Aside0.mk (hp_); have n1_ := Aside0.mk (Kd.R_over' (v := (.slice (some ⟨go33, 0, none⟩) x4_4.length co47)) (by (with_reducible repeat (first | apply Kd.R_alloc | apply Kd.R_drewN | apply Kd.R_drew)); exact HO_5.out) (Kd.R_typed HO_4.out) (by decide) hg); have n2_ := Aside0.mk (blk_grown (g := gb110) (o := .cells #[.int .i64 a0_0, .slice (some ad118) l0_1.length c0_1] 24 (0, 0)) (by (with_reducible repeat (first | refine blk_drewN ?_ _ | refine blk_drew ?_ | refine blk_alloc ?_ _)); exact BK110.out) hg (Kd.R_ne HO_4.out BK110.out (by decide))); have n3_ := Aside0.mk ((by rw [hw]; exact below_set (HB.out) GB33.out : Below w.heap.size w w49)); clear HO_4; clear HO_5; clear BK110; clear HB; have HO_4 := n0_; have HO_5 := n1_; have BK110 := n2_; have HB := n3_; clear n0_ n1_ n2_ n3_; clear hg hw hp_))
                                                    have n0_ := Aside0.mk (Kd.R_drew HO_4.out)
                                                    have n1_ := Aside0.mk (Kd.R_drew HO_5.out)
                                                    have n2_ := Aside0.mk (blk_drew BK110.out)
                                                    have n3_ := Aside0.mk (below_drew1 HB.out)
                                                    clear HO_4
                                                    clear HO_5
                                                    clear BK110
                                                    clear HB
                                                    have HO_4 := n0_
                                                    have HO_5 := n1_
                                                    have BK110 := n2_
                                                    have HB := n3_
                                                    clear n0_ n1_ n2_ n3_
                                                    have p126 : 0 ≤ (x9_4 : Int) := of_decide_eq_true (by first | (with_reducible assumption) | assumption)
                                                    have q126 : x9_4 < ((rd_L2 (rd_L3 l0_1 x6_2) x7_3).length : Int) := of_decide_eq_true (by first | (with_reducible assumption) | assumption)
                                                    obtain ⟨ad126, e126, hx126_0⟩ := Kd.at_int HR120_0.out x9_4 p126 q126
                                                    have hw126_0 := hx126_0
                                                    obtain rfl : ad121 = ad126 := (by injection e126)
                                                    replace hx126_0 := (HB.out.cell (World.block_lt_of_cell? w _ hx126_0)).trans hx126_0
                                                    replace p126 := eq_true p126
                                                    replace q126 := eq_true q126
                                                    have p127 : 0 ≤ (x9_4 : Int) := of_decide_eq_true (by first | (with_reducible assumption) | assumption)
                                                    have q127 : x9_4 < ((rd_L2 (rd_L3 l0_1 x6_2) x7_3).length : Int) := of_decide_eq_true (by first | (with_reducible assumption) | assumption)
                                                    obtain ⟨ad127, e127, hx127_0⟩ := Kd.at_int HR120_0.out x9_4 p127 q127
                                                    have hw127_0 := hx127_0
                                                    obtain rfl : ad121 = ad127 := (by injection e127)
                                                    replace hx127_0 := (HB.out.cell (World.block_lt_of_cell? w _ hx127_0)).trans hx127_0
                                                    replace p127 := eq_true p127
                                                    replace q127 := eq_true q127
                                                    obtain ⟨Ao51, co51, eo51⟩ := Kd.R_slice HO_5.out
                                                    (first | subst eo51 | (injection eo51 with f1_ f2_ f3_; have f4_ := f1_.symm; have f5_ := f3_.symm; clear f1_ f2_ f3_; subst f4_; subst f5_))
                                                    have p128 : 0 ≤ ((rd (rd_L2 (rd_L3 l0_1 x6_2) x7_3) x9_4) : Int) := of_decide_eq_true (by first | (with_reducible assumption) | assumption)
                                                    have q128 : (rd (rd_L2 (rd_L3 l0_1 x6_2) x7_3) x9_4) < (x5_4.length : Int) := of_decide_eq_true (by first | (with_reducible assumption) | assumption)
                                                    obtain ⟨ad128, e128, hx128_0⟩ := Kd.at_bool (Kd.R_reads' HO_5.out).2.2 (rd (rd_L2 (rd_L3 l0_1 x6_2) x7_3) x9_4) p128 q128
                                                    (try rw [← Nbq35.out] at hx128_0)
                                                    cases e128
                                                    replace p128 := eq_true p128
                                                    replace q128 := eq_true q128
                                                    have p45 : 0 ≤ ((rd (rd_L2 (rd_L3 l0_1 x6_2) x7_3) x9_4) : Int) := of_decide_eq_true (by first | (with_reducible assumption) | assumption)
                                                    have q45 : ((rd (rd_L2 (rd_L3 l0_1 x6_2) x7_3) x9_4) : Int) < ((x5_4.length : Int) : Int) := of_decide_eq_true (by first | (with_reducible assumption) | assumption)
                                                    obtain ⟨go45, co45, eo45, gb45, gl45, cl45, HG45⟩ := Kd.R_form HO_5.out (by omega)
                                                    (first | cases eo45 | (injection eo45 with ea_ en_ ec_; (first | subst ea_ | (injection ea_ with ea_; subst ea_)); subst ec_; clear en_))
                                                    have GB45 := Aside0.mk gb45
                                                    have GG45 := Aside0.mk HG45
                                                    clear gb45 gl45 HG45
                                                    (first | simp only [add_plain] at hx128_0 | skip)
                                                    obtain ⟨hx45_0, hf45_0⟩ := Kd.R_celln false HO_5.out ((rd (rd_L2 (rd_L3 l0_1 x6_2) x7_3) x9_4) : Int) p45 q45
                                                    replace p45 := eq_true p45
                                                    replace q45 := eq_true q45
                                                    have HP52 := Kd.R_putn HO_5.out ((rd (rd_L2 (rd_L3 l0_1 x6_2) x7_3) x9_4) : Int) (((rd_L2 (rd_L3 l0_1 x6_2) x7_3).length : Int) == 1)
                                                    rw [← Ny130.out] at HP52
                                                    have HQ52 := Aside0.mk HP52
                                                    clear HP52
                                                    refine start_ (n := 19) (S := fun w' => w'.cell? (ad121.add (x9_4).toNat) = some (.int .i64 (rd (rd_L2 (rd_L3 l0_1 x6_2) x7_3) x9_4)) ∧ w'.cell? (ad121.add (x9_4).toNat) = some (.int .i64 (rd (rd_L2 (rd_L3 l0_1 x6_2) x7_3) x9_4)) ∧ w'.cell? ⟨go45, ((rd (rd_L2 (rd_L3 l0_1 x6_2) x7_3) x9_4)).toNat, none⟩ = some (.bool false)) (ds := [18]) #[false, false, false, false, false, false, false, false, false, false, false, false, false, false, false, false, false, false, false] (by kernel_rfl) rfl rfl ⟨((HB.out.cell (World.block_lt_of_cell? w _ hw126_0)).trans hw126_0), ((HB.out.cell (World.block_lt_of_cell? w _ hw127_0)).trans hw127_0), hx128_0⟩ (fun hHeld => ?_); refine with_tabW spec_l02Degrees.tab19 spec_l02Degrees.bits19 (fun HT_ HW_ => ?_)
                                                    generalize w49.drew = w50 at HO_4 HO_5 BK110 HB GG45 HQ52 hf45_0 hx126_0 hx127_0 hx128_0 hx45_0 hHeld ⊢
                                                    refine pure_ (i := 0) (N := some 79) (v := ?_) (a' := ?_) #[true, false, false, false, false, false, false, false, false, false, false, false, false, false, false, false, false, false, false] rfl rfl (any_of HT_.out (by kernel_rfl)) (fun _ _ _ h => h) (Or.inl ⟨by rfl, ?_⟩) ?_ ?_
                                                    rotate_left
                                                    · intro w'
                                                      go_simp
                                                      with_reducible rfl
                                                    rotate_left
                                                    · simp only [Act.put, List.setIfInBounds_toArray, List.set_cons_zero, List.set_cons_succ, i64_w, i32_w]
                                                      rfl
                                                    refine pure_ (i := 1) (N := some 80) (v := ?_) (a' := ?_) #[true, true, false, false, false, false, false, false, false, false, false, false, false, false, false, false, false, false, false] rfl rfl (any_of HT_.out (by kernel_rfl)) (fun _ _ _ h => h) (Or.inl ⟨by rfl, ?_⟩) ?_ ?_
                                                    rotate_left
                                                    · intro w'
                                                      go_simp
                                                      with_reducible rfl
                                                    rotate_left
                                                    · simp only [Act.put, List.setIfInBounds_toArray, List.set_cons_zero, List.set_cons_succ, i64_w, i32_w]
                                                      rfl
                                                    refine pure_ (i := 2) (N := some 81) (v := ?_) (a' := ?_) #[true, true, true, false, false, false, false, false, false, false, false, false, false, false, false, false, false, false, false] rfl rfl (any_of HT_.out (by kernel_rfl)) (fun _ _ _ h => h) (Or.inl ⟨by rfl, ?_⟩) ?_ ?_
                                                    rotate_left
                                                    · intro w'
                                                      go_simp
                                                      with_reducible rfl
                                                    rotate_left
                                                    · simp only [Act.put, List.setIfInBounds_toArray, List.set_cons_zero, List.set_cons_succ, i64_w, i32_w]
                                                      rfl
                                                    refine pure_ (i := 3) (N := some 82) (v := ?_) (a' := ?_) #[true, true, true, true, false, false, false, false, false, false, false, false, false, false, false, false, false, false, false] rfl rfl (any_of HT_.out (by kernel_rfl)) (fun _ _ _ h => h) (Or.inl ⟨by rfl, ?_⟩) ?_ ?_
                                                    rotate_left
                                                    · intro w'
                                                      go_simp
                                                      with_reducible rfl
                                                    rotate_left
                                                    · simp only [Act.put, List.setIfInBounds_toArray, List.set_cons_zero, List.set_cons_succ, i64_w, i32_w]
                                                      rfl
                                                    refine pure_ (i := 5) (N := some 84) (v := ?_) (a' := ?_) #[true, true, true, true, false, true, false, false, false, false, false, false, false, false, false, false, false, false, false] rfl rfl (any_of HT_.out (by kernel_rfl)) (fun _ _ _ h => h) (Or.inl ⟨by rfl, ?_⟩) ?_ ?_
                                                    rotate_left
                                                    · intro w'
                                                      go_simp
                                                      with_reducible rfl
                                                    rotate_left
                                                    · simp only [Act.put, List.setIfInBounds_toArray, List.set_cons_zero, List.set_cons_succ, i64_w, i32_w]
                                                      rfl
                                                    refine pure_ (i := 6) (N := some 85) (v := ?_) (a' := ?_) #[true, true, true, true, false, true, true, false, false, false, false, false, false, false, false, false, false, false, false] rfl rfl (any_of HT_.out (by kernel_rfl)) (fun _ _ _ h => h) (Or.inl ⟨by rfl, ?_⟩) ?_ ?_
                                                    rotate_left
                                                    · intro w'
                                                      go_simp
                                                      with_reducible rfl
                                                    rotate_left
                                                    · simp only [Act.put, List.setIfInBounds_toArray, List.set_cons_zero, List.set_cons_succ, i64_w, i32_w]
                                                      rfl
                                                    refine pure_ (i := 7) (N := some 86) (v := ?_) (a' := ?_) #[true, true, true, true, false, true, true, true, false, false, false, false, false, false, false, false, false, false, false] rfl rfl (any_of HT_.out (by kernel_rfl)) (fun _ _ _ h => h) (Or.inl ⟨by rfl, ?_⟩) ?_ ?_
                                                    rotate_left
                                                    · intro w'
                                                      go_simp
                                                      with_reducible rfl
                                                    rotate_left
                                                    · simp only [Act.put, List.setIfInBounds_toArray, List.set_cons_zero, List.set_cons_succ, i64_w, i32_w]
                                                      rfl
                                                    refine pure_ (i := 8) (N := some 87) (v := ?_) (a' := ?_) #[true, true, true, true, false, true, true, true, true, false, false, false, false, false, false, false, false, false, false] rfl rfl (any_of HT_.out (by kernel_rfl)) (fun _ _ _ h => h) (Or.inl ⟨by rfl, ?_⟩) ?_ ?_
                                                    rotate_left
                                                    · intro w'
                                                      go_simp
                                                      with_reducible rfl
                                                    rotate_left
                                                    · simp only [Act.put, List.setIfInBounds_toArray, List.set_cons_zero, List.set_cons_succ, i64_w, i32_w]
                                                      rfl
                                                    refine take_ (i := 4) (N := some 83) (v := ?_) (a' := ?_) #[true, true, true, true, true, true, true, true, true, false, false, false, false, false, false, false, false, false, false] rfl rfl (take_ofW HT_.out HW_.out (by kernel_rfl)) (fun _ _ _ h => h) (Or.inl ⟨by rfl, ?_⟩) hHeld ?_ ?_
                                                    rotate_left
                                                    · rintro w' ⟨s0, s1, s2⟩
                                                      go_simp
                                                      with_reducible rfl
                                                    rotate_left
                                                    · simp only [Act.put, List.setIfInBounds_toArray, List.set_cons_zero, List.set_cons_succ, i64_w, i32_w]
                                                      rfl
                                                    refine take_ (i := 9) (N := some 88) (v := ?_) (a' := ?_) #[true, true, true, true, true, true, true, true, true, true, false, false, false, false, false, false, false, false, false] rfl rfl (take_ofW HT_.out HW_.out (by kernel_rfl)) (fun _ _ _ h => h) (Or.inl ⟨by rfl, ?_⟩) hHeld ?_ ?_
                                                    rotate_left
                                                    · rintro w' ⟨s0, s1, s2⟩
                                                      go_simp
                                                      with_reducible rfl
                                                    rotate_left
                                                    · simp only [Act.put, List.setIfInBounds_toArray, List.set_cons_zero, List.set_cons_succ, i64_w, i32_w]
                                                      rfl
                                                    refine pure_ (i := 10) (N := some 89) (v := ?_) (a' := ?_) #[true, true, true, true, true, true, true, true, true, true, true, false, false, false, false, false, false, false, false] rfl rfl (any_of HT_.out (by kernel_rfl)) (fun _ _ _ h => h) (Or.inl ⟨by rfl, ?_⟩) ?_ ?_
                                                    rotate_left
                                                    · intro w'
                                                      go_simp
                                                      with_reducible rfl
                                                    rotate_left
                                                    · simp only [Act.put, List.setIfInBounds_toArray, List.set_cons_zero, List.set_cons_succ, i64_w, i32_w]
                                                      rfl
                                                    refine take_ (i := 11) (N := some 90) (v := ?_) (a' := ?_) #[true, true, true, true, true, true, true, true, true, true, true, true, false, false, false, false, false, false, false] rfl rfl (take_ofW HT_.out HW_.out (by kernel_rfl)) (fun _ _ _ h => h) (Or.inl ⟨by rfl, ?_⟩) hHeld ?_ ?_
                                                    rotate_left
                                                    · rintro w' ⟨s0, s1, s2⟩
                                                      go_simp
                                                      with_reducible rfl
                                                    rotate_left
                                                    · simp only [Act.put, List.setIfInBounds_toArray, List.set_cons_zero, List.set_cons_succ, i64_w, i32_w]
                                                      rfl
                                                    refine pure_ (i := 12) (N := some 91) (v := ?_) (a' := ?_) #[true, true, true, true, true, true, true, true, true, true, true, true, true, false, false, false, false, false, false] rfl rfl (any_of HT_.out (by kernel_rfl)) (fun _ _ _ h => h) (Or.inl ⟨by rfl, ?_⟩) ?_ ?_
                                                    rotate_left
                                                    · intro w'
                                                      go_simp
                                                      with_reducible rfl
                                                    rotate_left
                                                    · simp only [Act.put, List.setIfInBounds_toArray, List.set_cons_zero, List.set_cons_succ, i64_w, i32_w]
                                                      rfl
                                                    refine pure_ (i := 13) (N := some 92) (v := ?_) (a' := ?_) #[true, true, true, true, true, true, true, true, true, true, true, true, true, true, false, false, false, false, false] rfl rfl (any_of HT_.out (by kernel_rfl)) (fun _ _ _ h => h) (Or.inl ⟨by rfl, ?_⟩) ?_ ?_
                                                    rotate_left
                                                    · intro w'
                                                      go_simp
                                                      with_reducible rfl
                                                    rotate_left
                                                    · simp only [Act.put, List.setIfInBounds_toArray, List.set_cons_zero, List.set_cons_succ, i64_w, i32_w]
                                                      rfl
                                                    refine pure_ (i := 14) (N := some 93) (v := ?_) (a' := ?_) #[true, true, true, true, true, true, true, true, true, true, true, true, true, true, true, false, false, false, false] rfl rfl (any_of HT_.out (by kernel_rfl)) (fun _ _ _ h => h) (Or.inl ⟨by rfl, ?_⟩) ?_ ?_
                                                    rotate_left
                                                    · intro w'
                                                      go_simp
                                                      with_reducible rfl
                                                    rotate_left
                                                    · simp only [Act.put, List.setIfInBounds_toArray, List.set_cons_zero, List.set_cons_succ, i64_w, i32_w]
                                                      rfl
                                                    refine pure_ (i := 15) (N := some 94) (v := ?_) (a' := ?_) #[true, true, true, true, true, true, true, true, true, true, true, true, true, true, true, true, false, false, false] rfl rfl (any_of HT_.out (by kernel_rfl)) (fun _ _ _ h => h) (Or.inl ⟨by rfl, ?_⟩) ?_ ?_
                                                    rotate_left
                                                    · intro w'
                                                      go_simp
                                                      with_reducible rfl
                                                    rotate_left
                                                    · simp only [Act.put, List.setIfInBounds_toArray, List.set_cons_zero, List.set_cons_succ, i64_w, i32_w]
                                                      rfl
                                                    refine pure_ (i := 16) (N := some 95) (v := ?_) (a' := ?_) #[true, true, true, true, true, true, true, true, true, true, true, true, true, true, true, true, true, false, false] rfl rfl (any_of HT_.out (by kernel_rfl)) (fun _ _ _ h => h) (Or.inl ⟨by rfl, ?_⟩) ?_ ?_
                                                    rotate_left
                                                    · intro w'
                                                      go_simp
                                                      with_reducible rfl
                                                    rotate_left
                                                    · simp only [Act.put, List.setIfInBounds_toArray, List.set_cons_zero, List.set_cons_succ, i64_w, i32_w]
                                                      rfl
                                                    refine pure_ (i := 17) (N := some 96) (v := ?_) (a' := ?_) #[true, true, true, true, true, true, true, true, true, true, true, true, true, true, true, true, true, true, false] rfl rfl (any_of HT_.out (by kernel_rfl)) (fun _ _ _ h => h) (Or.inl ⟨by rfl, ?_⟩) ?_ ?_
                                                    rotate_left
                                                    · intro w'
                                                      go_simp
                                                      with_reducible rfl
                                                    rotate_left
                                                    · simp only [Act.put, List.setIfInBounds_toArray, List.set_cons_zero, List.set_cons_succ, i64_w, i32_w]
                                                      rfl
                                                    refine last_ (i := 18) (N := none) #[true, true, true, true, true, true, true, true, true, true, true, true, true, true, true, true, true, true, true] rfl rfl (one_of HT_.out (by kernel_rfl)) (by decide) (fun K hK => ?_)
                                                    refine skip_ (w1 := ?_) (by rfl) rfl ?_ ?_
                                                    rotate_left
                                                    · go_simp
                                                      rfl
                                                    refine hK.out _ _ ?_
                                                    clear hK K
                                                    refine done_ (done_of HT_.out (by kernel_rfl)) ?_
                                                    try go_wp2
                                                    go_roundg k4
                                                    case measure => have := HJ1.out; have := HK2.out; have := HK3.out; have := HK4.out; omega
                                                    case rel => exact ⟨(y125), (y130), (wrap64 (x9_4 + 1)), (by first | rfl | (simp; done) | (simp [*]; done)), H', ⟨by have := HJ1.out; have := HK2.out; have := HK3.out; have := HK4.out; omega⟩, ⟨by (with_reducible repeat (first | apply Kd.R_alloc | apply Kd.R_drewN | apply Kd.R_drew)); exact Kd.R_mono (Kd.R_far (p := ⟨go45, ((rd (rd_L2 (rd_L3 l0_1 x6_2) x7_3) x9_4) : Int).toNat, none⟩) (Kd.R_types HO_4.out GG45.out (by decide)) (fun _ hk => hk.2) (.bool (((rd_L2 (rd_L3 l0_1 x6_2) x7_3).length : Int) == 1))) (fun _ hk => trivial)⟩, ⟨by (with_reducible repeat (first | apply Kd.R_alloc | apply Kd.R_drewN | apply Kd.R_drew)); exact HQ52.out⟩, ⟨by (with_reducible repeat (first | refine blk_drewN ?_ _ | refine blk_drew ?_ | refine blk_alloc ?_ _)); refine blk_far ?_ (by have h_ := Kd.R_ne HO_5.out BK110.out (by decide); intro e_; exact h_ (by rw [e_]; rfl)) _; (with_reducible repeat (first | refine blk_drewN ?_ _ | refine blk_drew ?_ | refine blk_alloc ?_ _)); exact BK110.out⟩, ⟨by repeat (first | (with_reducible first | exact HB.out | apply below_alloc | apply pw_below_drewN | apply below_drew1 | refine below_set ?_ GB45.out | refine below_set ?_ GE110.out) | exact HB.out)⟩⟩
                                                · rw [if_neg c34] at H
                                                  exact absurd H (by simp)
                                              · rw [if_neg c32] at H
                                                exact absurd H (by simp)
                                            · rw [if_neg c31] at H
                                              exact absurd H (by simp)
                                          · replace c30 := Bool.eq_false_iff.mpr c30
                                            subst c30
                                            have H1 : (some (([] : List Int), false)) = some (r1, r2) := by rw [if_neg (show ¬ (false = true) by decide)] at H; exact H
                                            clear H
                                            have H := H1
                                            clear H1
                                            simp only [Option.some.injEq, Prod.mk.injEq] at H
                                            obtain ⟨rfl, rfl⟩ := H
                                            try go_wp2
                                            have n0_ := Aside0.mk (Kd.R_drew HO_4.out)
                                            have n1_ := Aside0.mk (Kd.R_drew HO_5.out)
                                            have n2_ := Aside0.mk (blk_drew BK110.out)
                                            have n3_ := Aside0.mk (below_drew1 HB.out)
                                            clear HO_4
                                            clear HO_5
                                            clear BK110
                                            clear HB
                                            have HO_4 := n0_
                                            have HO_5 := n1_
                                            have BK110 := n2_
                                            have HB := n3_
                                            clear n0_ n1_ n2_ n3_
                                            have p121 : 0 ≤ (x9_4 : Int) := of_decide_eq_true (by first | (with_reducible assumption) | assumption)
                                            have q121 : x9_4 < ((rd_L2 (rd_L3 l0_1 x6_2) x7_3).length : Int) := of_decide_eq_true (by first | (with_reducible assumption) | assumption)
                                            obtain ⟨ad121, e121, hx121_0⟩ := Kd.at_int HR120_0.out x9_4 p121 q121
                                            have hw121_0 := hx121_0
                                            cases e121
                                            replace hx121_0 := (HB.out.cell (World.block_lt_of_cell? w _ hx121_0)).trans hx121_0
                                            replace p121 := eq_true p121
                                            replace q121 := eq_true q121
                                            refine start_ (n := 9) (S := fun w' => w'.cell? ⟨gb110, 0, none⟩ = some (.int .i64 a0_0) ∧ w'.cell? ⟨gb110, 1, none⟩ = some (.slice (some ad118) l0_1.length c0_1) ∧ w'.cell? (ad121.add (x9_4).toNat) = some (.int .i64 (rd (rd_L2 (rd_L3 l0_1 x6_2) x7_3) x9_4))) (ds := []) #[false, false, false, false, false, false, false, false, false] (by kernel_rfl) rfl rfl ⟨(blk_cell BK110.out 0).trans rfl, (blk_cell BK110.out 1).trans rfl, ((HB.out.cell (World.block_lt_of_cell? w _ hw121_0)).trans hw121_0)⟩ (fun hHeld => ?_); refine with_tabW spec_l02Degrees.tab16 spec_l02Degrees.bits16 (fun HT_ HW_ => ?_)
                                            generalize wr.drew = w53 at HO_4 HO_5 BK110 HB hx121_0 hHeld ⊢
                                            refine pure_ (i := 0) (N := some 61) (v := ?_) (a' := ?_) #[true, false, false, false, false, false, false, false, false] rfl rfl (any_of HT_.out (by kernel_rfl)) (fun _ _ _ h => h) (Or.inl ⟨by rfl, ?_⟩) ?_ ?_
                                            rotate_left
                                            · intro w'
                                              go_simp
                                              with_reducible rfl
                                            rotate_left
                                            · simp only [Act.put, List.setIfInBounds_toArray, List.set_cons_zero, List.set_cons_succ, i64_w, i32_w]
                                              rfl
                                            refine pure_ (i := 1) (N := some 62) (v := ?_) (a' := ?_) #[true, true, false, false, false, false, false, false, false] rfl rfl (any_of HT_.out (by kernel_rfl)) (fun _ _ _ h => h) (Or.inl ⟨by rfl, ?_⟩) ?_ ?_
                                            rotate_left
                                            · intro w'
                                              go_simp
                                              with_reducible rfl
                                            rotate_left
                                            · simp only [Act.put, List.setIfInBounds_toArray, List.set_cons_zero, List.set_cons_succ, i64_w, i32_w]
                                              rfl
                                            refine pure_ (i := 2) (N := some 63) (v := ?_) (a' := ?_) #[true, true, true, false, false, false, false, false, false] rfl rfl (any_of HT_.out (by kernel_rfl)) (fun _ _ _ h => h) (Or.inl ⟨by rfl, ?_⟩) ?_ ?_
                                            rotate_left
                                            · intro w'
                                              go_simp
                                              with_reducible rfl
                                            rotate_left
                                            · simp only [Act.put, List.setIfInBounds_toArray, List.set_cons_zero, List.set_cons_succ, i64_w, i32_w]
                                              rfl
                                            refine pure_ (i := 4) (N := some 65) (v := ?_) (a' := ?_) #[true, true, true, false, true, false, false, false, false] rfl rfl (any_of HT_.out (by kernel_rfl)) (fun _ _ _ h => h) (Or.inl ⟨by rfl, ?_⟩) ?_ ?_
                                            rotate_left
                                            · intro w'
                                              go_simp
                                              with_reducible rfl
                                            rotate_left
                                            · simp only [Act.put, List.setIfInBounds_toArray, List.set_cons_zero, List.set_cons_succ, i64_w, i32_w]
                                              rfl
                                            refine take_ (i := 3) (N := some 64) (v := ?_) (a' := ?_) #[true, true, true, true, true, false, false, false, false] rfl rfl (take_ofW HT_.out HW_.out (by kernel_rfl)) (fun _ _ _ h => h) (Or.inl ⟨by rfl, ?_⟩) hHeld ?_ ?_
                                            rotate_left
                                            · rintro w' ⟨s0, s1, s2⟩
                                              go_simp
                                              with_reducible rfl
                                            rotate_left
                                            · simp only [Act.put, List.setIfInBounds_toArray, List.set_cons_zero, List.set_cons_succ, i64_w, i32_w]
                                              rfl
                                            refine take_ (i := 5) (N := some 66) (v := ?_) (a' := ?_) #[true, true, true, true, true, true, false, false, false] rfl rfl (take_ofW HT_.out HW_.out (by kernel_rfl)) (fun _ _ _ h => h) (Or.inl ⟨by rfl, ?_⟩) hHeld ?_ ?_
                                            rotate_left
                                            · rintro w' ⟨s0, s1, s2⟩
                                              go_simp
                                              with_reducible rfl
                                            rotate_left
                                            · simp only [Act.put, List.setIfInBounds_toArray, List.set_cons_zero, List.set_cons_succ, i64_w, i32_w]
                                              rfl
                                            refine pure_ (i := 6) (N := some 67) (v := ?_) (a' := ?_) #[true, true, true, true, true, true, true, false, false] rfl rfl (any_of HT_.out (by kernel_rfl)) (fun _ _ _ h => h) (Or.inl ⟨by rfl, ?_⟩) ?_ ?_
                                            rotate_left
                                            · intro w'
                                              go_simp
                                              with_reducible rfl
                                            rotate_left
                                            · simp only [Act.put, List.setIfInBounds_toArray, List.set_cons_zero, List.set_cons_succ, i64_w, i32_w]
                                              rfl
                                            refine one_ (i := 7) (N := some 68) #[true, true, true, true, true, true, true, true, false] rfl rfl (one_of HT_.out (by kernel_rfl)) (by decide) (fun K hK => ?_)
                                            refine goes_ Tryd.func14 (by kernel_rfl) rfl #[.int .i64 (rd (rd_L2 (rd_L3 l0_1 x6_2) x7_3) x9_4), .int .i64 0, .int .i64 (wrap64 (a0_0 - 1))] (by rfl) rfl rfl (by (try simp only [List.map_toArray, List.map_cons, List.map_nil]); first | done | rfl | (simp only [List.length_drop, List.length_take]; rfl)) ?_
                                            with_reducible refine (spec_l01In.calls (rd (rd_L2 (rd_L3 l0_1 x6_2) x7_3) x9_4) 0 (wrap64 (a0_0 - 1)) false _ A29.out).mono ?_
                                            rintro e w' ⟨rfl, ⟨nd, rfl⟩⟩
                                            refine ⟨_, rfl, ?_⟩
                                            refine hK.out _ _ ⟨(blk_cell BK110.out 0).trans rfl, (blk_cell BK110.out 1).trans rfl, ((HB.out.cell (World.block_lt_of_cell? w _ hw121_0)).trans hw121_0)⟩ (fun hHeld => ?_)
                                            clear hK K
                                            refine norm_ (a' := ?_) ?_ ?_
                                            rotate_left
                                            · show Act.put _ (some 68) _ = _
                                              simp only [Act.put, List.setIfInBounds_toArray, List.set_cons_zero, List.set_cons_succ, i64_w, i32_w]
                                              rfl
                                            refine pure_ (i := 8) (N := some 69) (v := ?_) (a' := ?_) #[true, true, true, true, true, true, true, true, true] rfl rfl (any_of HT_.out (by kernel_rfl)) (fun _ _ _ h => h) (Or.inl ⟨by rfl, ?_⟩) ?_ ?_
                                            rotate_left
                                            · intro w'
                                              go_simp
                                              with_reducible rfl
                                            rotate_left
                                            · simp only [Act.put, List.setIfInBounds_toArray, List.set_cons_zero, List.set_cons_succ, i64_w, i32_w]
                                              rfl
                                            refine done_ (done_of HT_.out (by kernel_rfl)) ?_
                                            try go_wp2
                                            go_ret2
                                            exact ⟨_, by first | rfl | (simp [errW_none, errW_some] <;> rfl) | (simp [*, errW_none, errW_some] <;> rfl), by first | exact Kd.R_nil _ _ _ _ _ | exact Kd.N_nil _ _ _ _ _ | exact Kd.V_nil _ _ _ _ _ | exact Kd.Q_nil _ _ _ _ _ | exact Kd.S_nil _ _ _ _ _, by repeat (first | (with_reducible first | exact HB.out | apply below_alloc | apply pw_below_drewN | apply below_drew1 | refine below_set ?_ GE110.out) | exact HB.out)⟩
                                        · rw [if_neg c28] at H
                                          exact absurd H (by simp)
                                      · rw [if_neg c27] at H
                                        have c27b0 : decide (x9_4 < ((rd_L2 (rd_L3 l0_1 x6_2) x7_3).length : Int)) = false := decide_eq_false c27
                                        clear c27
                                        have H' := Aside0.mk H
                                        clear H
                                        go_wp2
                                        go_roundg k4
                                        case measure => have := HJ1.out; have := HK2.out; have := HK3.out; have := HK4.out; omega
                                        case rel => exact ⟨(x4_4), (x5_4), (wrap64 (x7_3 + 1)), (by first | rfl | (simp; done) | (simp [*]; done)), H', ⟨by have := HJ1.out; have := HK2.out; have := HK3.out; have := HK4.out; omega⟩, ⟨by (with_reducible repeat (first | apply Kd.R_alloc | apply Kd.R_drewN | apply Kd.R_drew)); exact HO_4.out⟩, ⟨by (with_reducible repeat (first | apply Kd.R_alloc | apply Kd.R_drewN | apply Kd.R_drew)); exact HO_5.out⟩, ⟨by (with_reducible repeat (first | refine blk_drewN ?_ _ | refine blk_drew ?_ | refine blk_alloc ?_ _)); exact BK110.out⟩, ⟨by repeat (first | (with_reducible first | exact HB.out | apply below_alloc | apply pw_below_drewN | apply below_drew1 | refine below_set ?_ GE110.out) | exact HB.out)⟩⟩
                              · rw [if_neg c23] at H
                                exact absurd H (by simp)
                            · rw [if_neg c22] at H
                              have c22b0 : decide (x7_3 < ((rd_L3 l0_1 x6_2).length : Int)) = false := decide_eq_false c22
                              clear c22
                              have H' := Aside0.mk H
                              clear H
                              have hcz54_0 : wr.cell? ⟨gb110, 0, none⟩ = some (.int .i64 a0_0) := (blk_cell BK110.out 0).trans rfl
                              have hcz54_1 : wr.cell? ⟨gb110, 1, none⟩ = some (.slice A0_1 l0_1.length c0_1) := (blk_cell BK110.out 1).trans rfl
                              have hfz54_0 := blk_frozen BK110.out 0
                              have hfz54_1 := blk_frozen BK110.out 1
                              have p118 : 0 ≤ (x6_2 : Int) := of_decide_eq_true (by first | (with_reducible assumption) | assumption)
                              have q118 : x6_2 < (l0_1.length : Int) := of_decide_eq_true (by first | (with_reducible assumption) | assumption)
                              obtain ⟨ad118, A118_0, c118_0, e118, hx118_0, hl118_0, hi118_0⟩ := at_L3 HR0_1.out x6_2 p118 q118
                              cases e118
                              replace hx118_0 := (HB.out.cell (World.block_lt_of_cell? w _ hx118_0)).trans hx118_0
                              have HR118_0 := Aside0.mk hi118_0
                              have HC118_0 := Aside0.mk hl118_0
                              clear hi118_0 hl118_0
                              replace p118 := eq_true p118
                              replace q118 := eq_true q118
                              go_wp2
                              go_roundg k3
                              case measure => have := HJ1.out; have := HK2.out; have := HK3.out; omega
                              case rel => exact ⟨(x4_3), (x5_3), (wrap64 (x6_2 + 1)), (by first | rfl | (simp; done) | (simp [*]; done)), H', ⟨by have := HJ1.out; have := HK2.out; have := HK3.out; omega⟩, ⟨by (with_reducible repeat (first | apply Kd.R_alloc | apply Kd.R_drewN | apply Kd.R_drew)); exact HO_4.out⟩, ⟨by (with_reducible repeat (first | apply Kd.R_alloc | apply Kd.R_drewN | apply Kd.R_drew)); exact HO_5.out⟩, ⟨by (with_reducible repeat (first | refine blk_drewN ?_ _ | refine blk_drew ?_ | refine blk_alloc ?_ _)); exact BK110.out⟩, ⟨by repeat (first | (with_reducible first | exact HB.out | apply below_alloc | apply pw_below_drewN | apply below_drew1 | refine below_set ?_ GE110.out) | exact HB.out)⟩⟩
                          · rw [if_neg c21] at H
                            exact absurd H (by simp)
                        · rw [if_neg c20] at H
                          exact absurd H (by simp)
                  · rw [if_neg c18] at H
                    have c18b0 : decide (x6_2 < (l0_1.length : Int)) = false := decide_eq_false c18
                    clear c18
                    have H' := Aside0.mk H
                    clear H
                    have hcz55_0 : wr.cell? ⟨gb110, 0, none⟩ = some (.int .i64 a0_0) := (blk_cell BK110.out 0).trans rfl
                    have hcz55_1 : wr.cell? ⟨gb110, 1, none⟩ = some (.slice A0_1 l0_1.length c0_1) := (blk_cell BK110.out 1).trans rfl
                    have hfz55_0 := blk_frozen BK110.out 0
                    have hfz55_1 := blk_frozen BK110.out 1
                    go_wp2
                    go_loopg [10] k2 (fun kq v10 w' => ∃ (x4_3 : List Int) (x10_3 : Int), v10 = .int .i64 x10_3 ∧ Aside0 (spec_l02Degrees.l3 kq x4_3 x5_2 x10_3 = some (r1, r2)) ∧ Aside0 (kq ≤ k2) ∧ Aside0 (Kd.R (Kd.int .i64) 2 w' w.heap.size (fun _ => True) v113 x4_3) ∧ Aside0 (Kd.R Kd.bool 4 w' w.heap.size (fun _ => True) v116 x5_2) ∧ Aside0 (w'.heap[gb110]? = some (.cells #[.int .i64 a0_0, (.slice A0_1 l0_1.length c0_1)] 24 (0, 0))) ∧ Aside0 (Below w.heap.size w w'))
                    case atStart => exact ⟨(x4_2), (0), (by first | rfl | (simp; done) | (simp [*]; done)), H', ⟨Nat.le_refl _⟩, ⟨by (with_reducible repeat (first | apply Kd.R_alloc | apply Kd.R_drewN | apply Kd.R_drew)); exact HO_4.out⟩, ⟨by (with_reducible repeat (first | apply Kd.R_alloc | apply Kd.R_drewN | apply Kd.R_drew)); exact HO_5.out⟩, ⟨by (with_reducible repeat (first | refine blk_drewN ?_ _ | refine blk_drew ?_ | refine blk_alloc ?_ _)); exact BK110.out⟩, ⟨by repeat (first | (with_reducible first | exact HB.out | apply below_alloc | apply pw_below_drewN | apply below_drew1 | refine below_set ?_ GE110.out) | exact HB.out)⟩⟩
                    case round =>
                      clear H'
                      try clear c1
                      try clear p1
                      try clear q1
                      try clear hx1
                      try clear c2
                      try clear p2
                      try clear c3
                      try clear p3
                      try clear q3
                      try clear hx3
                      try clear hf3
                      try clear p4
                      try clear q4
                      try clear hx4
                      try clear hf4
                      try clear p6
                      try clear c11
                      try clear p11
                      try clear q11
                      try clear hx11
                      try clear p12
                      try clear q12
                      try clear hx12
                      try clear c14
                      try clear c18
                      try clear c18b0
                      try clear c20
                      try clear c21
                      try clear c22
                      try clear c22b0
                      try clear c23
                      try clear c27
                      try clear c27b0
                      try clear c28
                      try clear c30
                      try clear c31
                      try clear c32
                      try clear p33
                      try clear q33
                      try clear hx33
                      try clear hf33
                      try clear c34
                      try clear q35
                      try clear c36
                      try clear p45
                      try clear q45
                      try clear hx45
                      try clear hf45
                      try clear hcz54_0
                      try clear hcz54_1
                      try clear hcz55_0
                      try clear hcz55_1
                      try clear hfz54_0
                      try clear hfz54_1
                      try clear hfz55_0
                      try clear hfz55_1
                      try clear hx118_0
                      try clear hx121_0
                      try clear hx123_0
                      try clear hx124_0
                      try clear hx126_0
                      try clear hx127_0
                      try clear hx128_0
                      try clear hx33_0
                      try clear hx45_0
                      try clear p118
                      try clear p121
                      try clear p123
                      try clear p124
                      try clear p126
                      try clear p127
                      try clear p128
                      try clear p33
                      try clear p45
                      try clear q118
                      try clear q121
                      try clear q123
                      try clear q124
                      try clear q126
                      try clear q127
                      try clear q128
                      try clear q33
                      try clear q45
                      obtain ⟨x4_3, x10_3, rfl, HA, HK3, HO_4, HO_5, BK110, HB⟩ := hrel
                      cases gk with
                      | zero => exact absurd HA.out (by simp [spec_l02Degrees.l3])
                      | succ k3 =>
                        have H := HA.out
                        clear HA
                        simp only [spec_l02Degrees.l3] at H
                        by_cases c56 : x10_3 < (x4_3.length : Int)
                        · rw [if_pos c56] at H
                          have c56b0 : decide (x10_3 < (x4_3.length : Int)) = true := decide_eq_true c56
                          clear c56
                          have HC57 := Aside0.mk H
                          clear H
                          obtain ⟨Ao58, co58, eo58⟩ := Kd.R_slice HO_4.out
                          subst eo58
                          go_upto_region 23 with (fail)
                          go_cut [127] (fun v127 wc => ∃ (kq : Nat) (x127_56 : Bool), v127 = .bool x127_56 ∧ Aside0 (spec_l02Degrees.j5 kq x4_3 x5_2 x10_3 x127_56 = some (r1, r2)) ∧ Aside0 (kq ≤ k3) ∧ Aside0 (Kd.R (Kd.int .i64) 2 wc w.heap.size (fun _ => True) (.slice Ao58 x4_3.length co58) x4_3) ∧ Aside0 (Kd.R Kd.bool 4 wc w.heap.size (fun _ => True) v116 x5_2) ∧ Aside0 (wc.heap[gb110]? = some (.cells #[.int .i64 a0_0, (.slice A0_1 l0_1.length c0_1)] 24 (0, 0))) ∧ Aside0 (Below w.heap.size w wc))
                          case first =>
                            have H := HC57.out
                            clear HC57
                            by_cases c59 : 0 ≤ x10_3
                            · rw [if_pos c59] at H
                              have c59b0 : decide (0 ≤ x10_3) = true := decide_eq_true c59
                              clear c59
                              (first | rw [c59b0] | (simp only [i64_w, i32_w]; rw [c59b0]) | skip)
                              by_cases c60 : (rd x4_3 x10_3) < 1
                              · rw [if_pos c60] at H
                                have c60b0 : decide ((rd x4_3 x10_3) < 1) = true := decide_eq_true c60
                                clear c60
                                have H' := Aside0.mk H
                                clear H
                                have p131 : 0 ≤ (x10_3 : Int) := of_decide_eq_true (by first | (with_reducible assumption) | assumption)
                                have q131 : x10_3 < (x4_3.length : Int) := of_decide_eq_true (by first | (with_reducible assumption) | assumption)
                                obtain ⟨ad131, e131, hx131_0⟩ := Kd.at_int (Kd.R_reads' HO_4.out).2.2 x10_3 p131 q131
                                cases e131
                                replace p131 := eq_true p131
                                replace q131 := eq_true q131
                                go_wp2
                                go_meet
                                case rel => exact ⟨_, (true), (by first | rfl | (simp; done) | (simp [*]; done)), H', ⟨by have := HJ1.out; have := HK2.out; have := HK3.out; first | omega | exact Nat.le_refl _⟩, ⟨by (with_reducible repeat (first | apply Kd.R_alloc | apply Kd.R_drewN | apply Kd.R_drew)); exact HO_4.out⟩, ⟨by (with_reducible repeat (first | apply Kd.R_alloc | apply Kd.R_drewN | apply Kd.R_drew)); exact HO_5.out⟩, ⟨by (with_reducible repeat (first | refine blk_drewN ?_ _ | refine blk_drew ?_ | refine blk_alloc ?_ _)); exact BK110.out⟩, ⟨by repeat (first | (with_reducible first | exact HB.out | apply below_alloc | apply pw_below_drewN | apply below_drew1 | refine below_set ?_ GE110.out) | exact HB.out)⟩⟩
                              · rw [if_neg c60] at H
                                have c60b0 : decide ((rd x4_3 x10_3) < 1) = false := decide_eq_false c60
                                clear c60
                                by_cases c61 : (rd x4_3 x10_3) > 3
                                · rw [if_pos c61] at H
                                  have c61b0 : decide (3 < (rd x4_3 x10_3)) = true := decide_eq_true c61
                                  clear c61
                                  have H' := Aside0.mk H
                                  clear H
                                  have p131 : 0 ≤ (x10_3 : Int) := of_decide_eq_true (by first | (with_reducible assumption) | assumption)
                                  have q131 : x10_3 < (x4_3.length : Int) := of_decide_eq_true (by first | (with_reducible assumption) | assumption)
                                  obtain ⟨ad131, e131, hx131_0⟩ := Kd.at_int (Kd.R_reads' HO_4.out).2.2 x10_3 p131 q131
                                  cases e131
                                  replace p131 := eq_true p131
                                  replace q131 := eq_true q131
                                  have p132 : 0 ≤ (x10_3 : Int) := of_decide_eq_true (by first | (with_reducible assumption) | assumption)
                                  have q132 : x10_3 < (x4_3.length : Int) := of_decide_eq_true (by first | (with_reducible assumption) | assumption)
                                  obtain ⟨ad132, e132, hx132_0⟩ := Kd.at_int (Kd.R_reads' HO_4.out).2.2 x10_3 p132 q132
                                  obtain rfl : ad131 = ad132 := (by injection e132)
                                  replace p132 := eq_true p132
                                  replace q132 := eq_true q132
                                  go_wp2
                                  go_meet
                                  case rel => exact ⟨_, (true), (by first | rfl | (simp; done) | (simp [*]; done)), H', ⟨by have := HJ1.out; have := HK2.out; have := HK3.out; first | omega | exact Nat.le_refl _⟩, ⟨by (with_reducible repeat (first | apply Kd.R_alloc | apply Kd.R_drewN | apply Kd.R_drew)); exact HO_4.out⟩, ⟨by (with_reducible repeat (first | apply Kd.R_alloc | apply Kd.R_drewN | apply Kd.R_drew)); exact HO_5.out⟩, ⟨by (with_reducible repeat (first | refine blk_drewN ?_ _ | refine blk_drew ?_ | refine blk_alloc ?_ _)); exact BK110.out⟩, ⟨by repeat (first | (with_reducible first | exact HB.out | apply below_alloc | apply pw_below_drewN | apply below_drew1 | refine below_set ?_ GE110.out) | exact HB.out)⟩⟩
                                · rw [if_neg c61] at H
                                  have c61b0 : decide (3 < (rd x4_3 x10_3)) = false := decide_eq_false c61
                                  clear c61
                                  by_cases c62 : x10_3 < (x5_2.length : Int)
                                  · rw [if_pos c62] at H
                                    have c62b0 : decide (x10_3 < (x5_2.length : Int)) = true := decide_eq_true c62
                                    clear c62
                                    obtain ⟨bq63, hbq63⟩ : ∃ b_ : Bool, b_ = (rdOf false x5_2 x10_3) := ⟨_, rfl⟩
                                    replace H : (if bq63 = true then (spec_l02Degrees.j5 k3 x4_3 x5_2 x10_3 (decide ((rd x4_3 x10_3) > 1))) else (spec_l02Degrees.j5 k3 x4_3 x5_2 x10_3 false)) = some (r1, r2) := by rw [← hbq63] at H; exact H
                                    have Nbq63 := Aside0.mk hbq63
                                    clear hbq63
                                    by_cases c64 : bq63 = true
                                    · subst c64
                                      have H1 : (spec_l02Degrees.j5 k3 x4_3 x5_2 x10_3 (decide ((rd x4_3 x10_3) > 1))) = some (r1, r2) := by rw [if_pos rfl] at H; exact H
                                      clear H
                                      have H := H1
                                      clear H1
                                      have H' := Aside0.mk H
                                      clear H
                                      have p131 : 0 ≤ (x10_3 : Int) := of_decide_eq_true (by first | (with_reducible assumption) | assumption)
                                      have q131 : x10_3 < (x4_3.length : Int) := of_decide_eq_true (by first | (with_reducible assumption) | assumption)
                                      obtain ⟨ad131, e131, hx131_0⟩ := Kd.at_int (Kd.R_reads' HO_4.out).2.2 x10_3 p131 q131
                                      cases e131
                                      replace p131 := eq_true p131
                                      replace q131 := eq_true q131
                                      have p132 : 0 ≤ (x10_3 : Int) := of_decide_eq_true (by first | (with_reducible assumption) | assumption)
                                      have q132 : x10_3 < (x4_3.length : Int) := of_decide_eq_true (by first | (with_reducible assumption) | assumption)
                                      obtain ⟨ad132, e132, hx132_0⟩ := Kd.at_int (Kd.R_reads' HO_4.out).2.2 x10_3 p132 q132
                                      obtain rfl : ad131 = ad132 := (by injection e132)
                                      replace p132 := eq_true p132
                                      replace q132 := eq_true q132
                                      obtain ⟨Ao65, co65, eo65⟩ := Kd.R_slice HO_5.out
                                      subst eo65
                                      have p133 : 0 ≤ (x10_3 : Int) := of_decide_eq_true (by first | (with_reducible assumption) | assumption)
                                      have q133 : x10_3 < (x5_2.length : Int) := of_decide_eq_true (by first | (with_reducible assumption) | assumption)
                                      obtain ⟨ad133, e133, hx133_0⟩ := Kd.at_bool (Kd.R_reads' HO_5.out).2.2 x10_3 p133 q133
                                      (try rw [← Nbq63.out] at hx133_0)
                                      cases e133
                                      replace p133 := eq_true p133
                                      replace q133 := eq_true q133
                                      have p134 : 0 ≤ (x10_3 : Int) := of_decide_eq_true (by first | (with_reducible assumption) | assumption)
                                      have q134 : x10_3 < (x4_3.length : Int) := of_decide_eq_true (by first | (with_reducible assumption) | assumption)
                                      obtain ⟨ad134, e134, hx134_0⟩ := Kd.at_int (Kd.R_reads' HO_4.out).2.2 x10_3 p134 q134
                                      obtain rfl : ad131 = ad134 := (by injection e134)
                                      replace p134 := eq_true p134
                                      replace q134 := eq_true q134
                                      go_wp2
                                      go_meet
                                      case rel => exact ⟨_, (decide ((rd x4_3 x10_3) > 1)), (by first | rfl | (simp; done) | (simp [*]; done)), H', ⟨by have := HJ1.out; have := HK2.out; have := HK3.out; first | omega | exact Nat.le_refl _⟩, ⟨by (with_reducible repeat (first | apply Kd.R_alloc | apply Kd.R_drewN | apply Kd.R_drew)); exact HO_4.out⟩, ⟨by (with_reducible repeat (first | apply Kd.R_alloc | apply Kd.R_drewN | apply Kd.R_drew)); exact HO_5.out⟩, ⟨by (with_reducible repeat (first | refine blk_drewN ?_ _ | refine blk_drew ?_ | refine blk_alloc ?_ _)); exact BK110.out⟩, ⟨by repeat (first | (with_reducible first | exact HB.out | apply below_alloc | apply pw_below_drewN | apply below_drew1 | refine below_set ?_ GE110.out) | exact HB.out)⟩⟩
                                    · replace c64 := Bool.eq_false_iff.mpr c64
                                      subst c64
                                      have H1 : (spec_l02Degrees.j5 k3 x4_3 x5_2 x10_3 false) = some (r1, r2) := by rw [if_neg (show ¬ (false = true) by decide)] at H; exact H
                                      clear H
                                      have H := H1
                                      clear H1
                                      have H' := Aside0.mk H
                                      clear H
                                      have p131 : 0 ≤ (x10_3 : Int) := of_decide_eq_true (by first | (with_reducible assumption) | assumption)
                                      have q131 : x10_3 < (x4_3.length : Int) := of_decide_eq_true (by first | (with_reducible assumption) | assumption)
                                      obtain ⟨ad131, e131, hx131_0⟩ := Kd.at_int (Kd.R_reads' HO_4.out).2.2 x10_3 p131 q131
                                      cases e131
                                      replace p131 := eq_true p131
                                      replace q131 := eq_true q131
                                      have p132 : 0 ≤ (x10_3 : Int) := of_decide_eq_true (by first | (with_reducible assumption) | assumption)
                                      have q132 : x10_3 < (x4_3.length : Int) := of_decide_eq_true (by first | (with_reducible assumption) | assumption)
                                      obtain ⟨ad132, e132, hx132_0⟩ := Kd.at_int (Kd.R_reads' HO_4.out).2.2 x10_3 p132 q132
                                      obtain rfl : ad131 = ad132 := (by injection e132)
                                      replace p132 := eq_true p132
                                      replace q132 := eq_true q132
                                      obtain ⟨Ao66, co66, eo66⟩ := Kd.R_slice HO_5.out
                                      subst eo66
                                      have p133 : 0 ≤ (x10_3 : Int) := of_decide_eq_true (by first | (with_reducible assumption) | assumption)
                                      have q133 : x10_3 < (x5_2.length : Int) := of_decide_eq_true (by first | (with_reducible assumption) | assumption)
                                      obtain ⟨ad133, e133, hx133_0⟩ := Kd.at_bool (Kd.R_reads' HO_5.out).2.2 x10_3 p133 q133
                                      (try rw [← Nbq63.out] at hx133_0)
                                      cases e133
                                      replace p133 := eq_true p133
                                      replace q133 := eq_true q133
                                      go_wp2
                                      go_meet
                                      case rel => exact ⟨_, (false), (by first | rfl | (simp; done) | (simp [*]; done)), H', ⟨by have := HJ1.out; have := HK2.out; have := HK3.out; first | omega | exact Nat.le_refl _⟩, ⟨by (with_reducible repeat (first | apply Kd.R_alloc | apply Kd.R_drewN | apply Kd.R_drew)); exact HO_4.out⟩, ⟨by (with_reducible repeat (first | apply Kd.R_alloc | apply Kd.R_drewN | apply Kd.R_drew)); exact HO_5.out⟩, ⟨by (with_reducible repeat (first | refine blk_drewN ?_ _ | refine blk_drew ?_ | refine blk_alloc ?_ _)); exact BK110.out⟩, ⟨by repeat (first | (with_reducible first | exact HB.out | apply below_alloc | apply pw_below_drewN | apply below_drew1 | refine below_set ?_ GE110.out) | exact HB.out)⟩⟩
                                  · rw [if_neg c62] at H
                                    exact absurd H (by simp)
                            · rw [if_neg c59] at H
                              exact absurd H (by simp)
                          case rest =>
                            clear HC57
                            try clear c1
                            try clear p1
                            try clear q1
                            try clear hx1
                            try clear c2
                            try clear p2
                            try clear c3
                            try clear p3
                            try clear q3
                            try clear hx3
                            try clear hf3
                            try clear p4
                            try clear q4
                            try clear hx4
                            try clear hf4
                            try clear c5
                            try clear c6
                            try clear p6
                            try clear q6
                            try clear c11
                            try clear p11
                            try clear q11
                            try clear hx11
                            try clear p12
                            try clear q12
                            try clear hx12
                            try clear p13
                            try clear q13
                            try clear hx13
                            try clear c14
                            try clear c18
                            try clear c18b0
                            try clear c20
                            try clear c21
                            try clear c22
                            try clear c22b0
                            try clear c23
                            try clear c27
                            try clear c27b0
                            try clear c28
                            try clear c30
                            try clear c31
                            try clear c32
                            try clear p33
                            try clear q33
                            try clear hx33
                            try clear hf33
                            try clear c34
                            try clear q35
                            try clear c36
                            try clear p45
                            try clear q45
                            try clear hx45
                            try clear hf45
                            try clear c56
                            try clear c56b0
                            try clear c59
                            try clear c59b0
                            try clear c60
                            try clear c60b0
                            try clear c61
                            try clear c61b0
                            try clear c62
                            try clear c62b0
                            try clear q63
                            try clear c64
                            try clear p64
                            try clear hcz54_0
                            try clear hcz54_1
                            try clear hcz55_0
                            try clear hcz55_1
                            try clear hfz54_0
                            try clear hfz54_1
                            try clear hfz55_0
                            try clear hfz55_1
                            try clear hx118_0
                            try clear hx121_0
                            try clear hx123_0
                            try clear hx124_0
                            try clear hx126_0
                            try clear hx127_0
                            try clear hx128_0
                            try clear hx131_0
                            try clear hx132_0
                            try clear hx133_0
                            try clear hx134_0
                            try clear hx33_0
                            try clear hx45_0
                            try clear p1
                            try clear p11
                            try clear p118
                            try clear p12
                            try clear p121
                            try clear p123
                            try clear p124
                            try clear p126
                            try clear p127
                            try clear p128
                            try clear p131
                            try clear p132
                            try clear p133
                            try clear p134
                            try clear p2
                            try clear p3
                            try clear p33
                            try clear p4
                            try clear p45
                            try clear p6
                            try clear q1
                            try clear q11
                            try clear q118
                            try clear q12
                            try clear q121
                            try clear q123
                            try clear q124
                            try clear q126
                            try clear q127
                            try clear q128
                            try clear q131
                            try clear q132
                            try clear q133
                            try clear q134
                            try clear q3
                            try clear q33
                            try clear q35
                            try clear q4
                            try clear q45
                            obtain ⟨kq, x127_56, rfl, HA, HJ56, HO_4, HO_5, BK110, HB⟩ := hcut
                            cases kq with
                            | zero => exact absurd HA.out (by simp [spec_l02Degrees.j5])
                            | succ kj56 =>
                              have H := HA.out
                              clear HA
                              simp only [spec_l02Degrees.j5] at H
                              by_cases c67 : x127_56 = true
                              · subst c67
                                have H1 : (some (([] : List Int), false)) = some (r1, r2) := by rw [if_pos rfl] at H; exact H
                                clear H
                                have H := H1
                                clear H1
                                simp only [Option.some.injEq, Prod.mk.injEq] at H
                                obtain ⟨rfl, rfl⟩ := H
                                go_wp2
                                go_ret2
                                exact ⟨_, by first | rfl | (simp [errW_none, errW_some] <;> rfl) | (simp [*, errW_none, errW_some] <;> rfl), by first | exact Kd.R_nil _ _ _ _ _ | exact Kd.N_nil _ _ _ _ _ | exact Kd.V_nil _ _ _ _ _ | exact Kd.Q_nil _ _ _ _ _ | exact Kd.S_nil _ _ _ _ _, by repeat (first | (with_reducible first | exact HB.out | apply below_alloc | apply pw_below_drewN | apply below_drew1 | refine below_set ?_ GE110.out) | exact HB.out)⟩
                              · replace c67 := Bool.eq_false_iff.mpr c67
                                subst c67
                                have H1 : (if 0 ≤ x10_3 then (if x10_3 < (x5_2.length : Int) then (if rdOf false x5_2 x10_3 = true then (if x10_3 < (x4_3.length : Int) then (spec_l02Degrees.l3 kj56 (x4_3.set (x10_3 : Int).toNat 0) x5_2 (wrap64 (x10_3 + 1))) else (none)) else (spec_l02Degrees.l3 kj56 x4_3 x5_2 (wrap64 (x10_3 + 1)))) else (none)) else (none)) = some (r1, r2) := by rw [if_neg (show ¬ (false = true) by decide)] at H; exact H
                                clear H
                                have H := H1
                                clear H1
                                by_cases c68 : 0 ≤ x10_3
                                · rw [if_pos c68] at H
                                  have c68b0 : decide (0 ≤ x10_3) = true := decide_eq_true c68
                                  clear c68
                                  by_cases c69 : x10_3 < (x5_2.length : Int)
                                  · rw [if_pos c69] at H
                                    have c69b0 : decide (x10_3 < (x5_2.length : Int)) = true := decide_eq_true c69
                                    clear c69
                                    obtain ⟨bq70, hbq70⟩ : ∃ b_ : Bool, b_ = (rdOf false x5_2 x10_3) := ⟨_, rfl⟩
                                    replace H : (if bq70 = true then (if x10_3 < (x4_3.length : Int) then (spec_l02Degrees.l3 kj56 (x4_3.set (x10_3 : Int).toNat 0) x5_2 (wrap64 (x10_3 + 1))) else (none)) else (spec_l02Degrees.l3 kj56 x4_3 x5_2 (wrap64 (x10_3 + 1)))) = some (r1, r2) := by rw [← hbq70] at H; exact H
                                    have Nbq70 := Aside0.mk hbq70
                                    clear hbq70
                                    by_cases c71 : bq70 = true
                                    · subst c71
                                      have H1 : (if x10_3 < (x4_3.length : Int) then (spec_l02Degrees.l3 kj56 (x4_3.set (x10_3 : Int).toNat 0) x5_2 (wrap64 (x10_3 + 1))) else (none)) = some (r1, r2) := by rw [if_pos rfl] at H; exact H
                                      clear H
                                      have H := H1
                                      clear H1
                                      by_cases c72 : x10_3 < (x4_3.length : Int)
                                      · rw [if_pos c72] at H
                                        have c72b0 : decide (x10_3 < (x4_3.length : Int)) = true := decide_eq_true c72
                                        clear c72
                                        obtain ⟨y136, hy136⟩ : ∃ y_ : List Int, y_ = (x4_3.set (x10_3 : Int).toNat 0) := ⟨_, rfl⟩
                                        replace H : (spec_l02Degrees.l3 kj56 y136 x5_2 (wrap64 (x10_3 + 1))) = some (r1, r2) := by first | (rw [hy136]; with_reducible exact H) | (have H2_ := (Option.bind_some _ _).symm.trans H; rw [hy136]; with_reducible exact H2_) | (have H2_ := (Option.bind_some _ _).symm.trans H; with_reducible exact H2_) | with_reducible exact H | (rw [hy136]; exact H) | exact H
                                        have Ny136 := Aside0.mk hy136
                                        clear hy136
                                        have H' := Aside0.mk H
                                        clear H
                                        obtain ⟨Ao74, co74, eo74⟩ := Kd.R_slice HO_5.out
                                        subst eo74
                                        have p135 : 0 ≤ (x10_3 : Int) := of_decide_eq_true (by first | (with_reducible assumption) | assumption)
                                        have q135 : x10_3 < (x5_2.length : Int) := of_decide_eq_true (by first | (with_reducible assumption) | assumption)
                                        obtain ⟨ad135, e135, hx135_0⟩ := Kd.at_bool (Kd.R_reads' HO_5.out).2.2 x10_3 p135 q135
                                        (try rw [← Nbq70.out] at hx135_0)
                                        cases e135
                                        replace p135 := eq_true p135
                                        replace q135 := eq_true q135
                                        have p73 : 0 ≤ (x10_3 : Int) := of_decide_eq_true (by first | (with_reducible assumption) | assumption)
                                        have q73 : (x10_3 : Int) < ((x4_3.length : Int) : Int) := of_decide_eq_true (by first | (with_reducible assumption) | assumption)
                                        obtain ⟨go73, co73, eo73, gb73, gl73, cl73, HG73⟩ := Kd.R_form HO_4.out (by omega)
                                        (first | cases eo73 | (injection eo73 with ea_ en_ ec_; (first | subst ea_ | (injection ea_ with ea_; subst ea_)); subst ec_; clear en_))
                                        have GB73 := Aside0.mk gb73
                                        have GG73 := Aside0.mk HG73
                                        clear gb73 gl73 HG73
                                        obtain ⟨hx73_0, hf73_0⟩ := Kd.R_celln 0 HO_4.out (x10_3 : Int) p73 q73
                                        replace p73 := eq_true p73
                                        replace q73 := eq_true q73
                                        have HP75 := Kd.R_putg HO_4.out (x10_3 : Int) 0
                                        go_wp2_with (first | ((with_reducible refine gate_store (t := 2) (p := 134) rfl ?_); refine store_event (t := 2) (p := 134) (v := ?vo_w76) (w1 := (wc.setCell ⟨go73, (x10_3 : Int).toNat, none⟩ (.int .i64 0))) ?hg ?ho ?hn ?hr ?_; (case ho => rfl); (case hg => rfl); (case hn => rfl); (case hr => first | (go_simp; done) | (go_simp; rfl)); intro w76 hw; have hg : wc.grownBy w76 (some go73) := (by rw [hw]; exact HP75.2); have hp_ : Kd.R (Kd.int .i64) 2 w76 w.heap.size (fun _ => True) (.slice (some ⟨go73, 0, none⟩) x4_3.length co58) y136 := (by rw [hw, Ny136.out]; exact HP75.1); clear HP75; have n0_ := Aside0.mk (hp_); have n1_ := Aside0.mk (Kd.R_over' (v := (.slice (some ⟨go73, 0, none⟩) x4_3.length co58)) (by (with_reducible repeat (first | apply Kd.R_alloc | apply Kd.R_drewN | apply Kd.R_drew)); exact HO_5.out) (Kd.R_typed HO_4.out) (by decide) hg); have n2_ := Aside0.mk (blk_grown (g := gb110) (o := .cells #[.int .i64 a0_0, .slice A0_1 l0_1.length c0_1] 24 (0, 0)) (by (with_reducible repeat (first | refine blk_drewN ?_ _ | refine blk_drew ?_ | refine blk_alloc ?_ _)); exact BK110.out) hg (Kd.R_ne HO_4.out BK110.out (by decide))); have n3_ := Aside0.mk ((by rw [hw]; exact below_set (HB.out) GB73.out : Below w.heap.size w w76)); clear HO_4; clear HO_5; clear BK110; clear HB; have HO_4 := n0_; have HO_5 := n1_; have BK110 := n2_; have HB := n3_; clear n0_ n1_ n2_ n3_; clear hg hw hp_))
                                        go_roundg kj56
                                        case measure => have := HJ1.out; have := HK2.out; have := HK3.out; have := HJ56.out; omega
                                        case rel => exact ⟨(y136), (wrap64 (x10_3 + 1)), (by first | rfl | (simp; done) | (simp [*]; done)), H', ⟨by have := HJ1.out; have := HK2.out; have := HK3.out; have := HJ56.out; omega⟩, ⟨by (with_reducible repeat (first | apply Kd.R_alloc | apply Kd.R_drewN | apply Kd.R_drew)); exact HO_4.out⟩, ⟨by (with_reducible repeat (first | apply Kd.R_alloc | apply Kd.R_drewN | apply Kd.R_drew)); exact HO_5.out⟩, ⟨by (with_reducible repeat (first | refine blk_drewN ?_ _ | refine blk_drew ?_ | refine blk_alloc ?_ _)); exact BK110.out⟩, ⟨by repeat (first | (with_reducible first | exact HB.out | apply below_alloc | apply pw_below_drewN | apply below_drew1 | refine below_set ?_ GE110.out) | exact HB.out)⟩⟩
                                      · rw [if_neg c72] at H
                                        exact absurd H (by simp)
                                    · replace c71 := Bool.eq_false_iff.mpr c71
                                      subst c71
                                      have H1 : (spec_l02Degrees.l3 kj56 x4_3 x5_2 (wrap64 (x10_3 + 1))) = some (r1, r2) := by rw [if_neg (show ¬ (false = true) by decide)] at H; exact H
                                      clear H
                                      have H := H1
                                      clear H1
                                      have H' := Aside0.mk H
                                      clear H
                                      obtain ⟨Ao77, co77, eo77⟩ := Kd.R_slice HO_5.out
                                      subst eo77
                                      have p135 : 0 ≤ (x10_3 : Int) := of_decide_eq_true (by first | (with_reducible assumption) | assumption)
                                      have q135 : x10_3 < (x5_2.length : Int) := of_decide_eq_true (by first | (with_reducible assumption) | assumption)
                                      obtain ⟨ad135, e135, hx135_0⟩ := Kd.at_bool (Kd.R_reads' HO_5.out).2.2 x10_3 p135 q135
                                      (try rw [← Nbq70.out] at hx135_0)
                                      cases e135
                                      replace p135 := eq_true p135
                                      replace q135 := eq_true q135
                                      go_wp2
                                      go_roundg kj56
                                      case measure => have := HJ1.out; have := HK2.out; have := HK3.out; have := HJ56.out; omega
                                      case rel => exact ⟨(x4_3), (wrap64 (x10_3 + 1)), (by first | rfl | (simp; done) | (simp [*]; done)), H', ⟨by have := HJ1.out; have := HK2.out; have := HK3.out; have := HJ56.out; omega⟩, ⟨by (with_reducible repeat (first | apply Kd.R_alloc | apply Kd.R_drewN | apply Kd.R_drew)); exact HO_4.out⟩, ⟨by (with_reducible repeat (first | apply Kd.R_alloc | apply Kd.R_drewN | apply Kd.R_drew)); exact HO_5.out⟩, ⟨by (with_reducible repeat (first | refine blk_drewN ?_ _ | refine blk_drew ?_ | refine blk_alloc ?_ _)); exact BK110.out⟩, ⟨by repeat (first | (with_reducible first | exact HB.out | apply below_alloc | apply pw_below_drewN | apply below_drew1 | refine below_set ?_ GE110.out) | exact HB.out)⟩⟩
                                  · rw [if_neg c69] at H
                                    exact absurd H (by simp)
                                · rw [if_neg c68] at H
                                  exact absurd H (by simp)
                        · rw [if_neg c56] at H
                          have c56b0 : decide (x10_3 < (x4_3.length : Int)) = false := decide_eq_false c56
                          clear c56
                          simp only [Option.some.injEq, Prod.mk.injEq] at H
                          obtain ⟨rfl, rfl⟩ := H
                          obtain ⟨Ao78, co78, eo78⟩ := Kd.R_slice HO_4.out
                          subst eo78
                          go_wp2
                          go_ret2
                          exact ⟨_, by first | rfl | (simp [errW_none, errW_some] <;> rfl) | (simp [*, errW_none, errW_some] <;> rfl), by (with_reducible repeat (first | apply Kd.R_alloc | apply Kd.R_drewN | apply Kd.R_drew)); exact HO_4.out, by repeat (first | (with_reducible first | exact HB.out | apply below_alloc | apply pw_below_drewN | apply below_drew1 | refine below_set ?_ GE110.out) | exact HB.out)⟩
            · rw [if_neg c11] at H
              exact absurd H (by simp)
          · rw [if_neg c10] at H
            exact absurd H (by simp)
        · rw [if_neg c9] at H
          exact absurd H (by simp)

end Go.Proofs.YtfcafnnpejngiaaDoor.PX

/- Plain lemmas on the printed functions that many laws of games share: what wraps, what marks, what equals itself (no condition). -/
namespace Go.Proofs.YtfcafnnpejngiaaDoor.PX
open Go.RowKit Go.Proofs.YtfcafnnpejngiaaDoorW.PrintWords Go.Proofs.YtfcafnnpejngiaaDoorW.PrintLast Go.Proofs.YtfcafnnpejngiaaDoorW.PrintMore
attribute [local go_sem] max2_int min2_int max_two min_two max_three min_three max_four min_four
set_option linter.unusedVariables false
set_option linter.unusedSimpArgs false
theorem wrapS {i : Int} (h0 : -9223372036854775808 ≤ i) (h : i < 9223372036854775808) : wrap64 i = i := by
  unfold wrap64
  omega
theorem rd_nat (xs : List Int) (i : Nat) : rd xs (i : Int) = xs.getD i 0 := by unfold rd; rfl
theorem rdL1_nat (xs : List (List Int)) (i : Nat) : rd_L2 xs (i : Int) = xs.getD i [] := by unfold rd_L2; rfl
theorem getD_of {α : Type} {xs : List α} {i : Nat} {x d : α} (h : xs[i]? = some x) : xs.getD i d = x := by rw [List.getD_eq_getElem?_getD, h]; rfl
theorem drop_of {α : Type} {xs : List α} {i : Nat} {x : α} (h : xs[i]? = some x) : xs.drop i = x :: xs.drop (i + 1) := by
  obtain ⟨hl, e⟩ := List.getElem?_eq_some_iff.1 h
  rw [List.drop_eq_getElem_cons hl, e]
theorem get_some {α : Type} {xs : List α} {i : Nat} (h : i < xs.length) : ∃ x, xs[i]? = some x := ⟨xs[i], List.getElem?_eq_getElem h⟩
theorem cast_succ (i : Nat) : ((i : Int) + 1) = ((i + 1 : Nat) : Int) := by omega

end Go.Proofs.YtfcafnnpejngiaaDoor.PX

/- What the laws do with lists of whole numbers: copied, compared, marked, held; their sizes counted (no condition but sizes that fit). -/
namespace Go.Proofs.YtfcafnnpejngiaaDoor.PX
open Go.RowKit Go.Proofs.YtfcafnnpejngiaaDoorW.PrintWords Go.Proofs.YtfcafnnpejngiaaDoorW.PrintLast Go.Proofs.YtfcafnnpejngiaaDoorW.PrintMore
attribute [local go_sem] max2_int min2_int max_two min_two max_three min_three max_four min_four
set_option linter.unusedVariables false
set_option linter.unusedSimpArgs false
theorem ev_from {α : Type} {g : Nat → Option α} {r : α} (n : Nat) (h : ∀ m, g (n + 1 + m) = some r) : Ev g r := ⟨n + 1, fun k hk => by
  have := h (k - (n + 1))
  rw [show n + 1 + (k - (n + 1)) = k by omega] at this
  exact this⟩
theorem eqI_loop (xs : List Int) (hn : xs.length < 4611686018427387904) (d : Nat) : ∀ i : Nat, i + d = xs.length → Ev (fun k => laws_eqInt64S.l0 k xs xs (i : Int)) true := by
  induction d with
  | zero =>
    intro i hd
    refine Ev.step (f := fun _ => some true) (fun k => ?_) (Ev.now true)
    simp only [laws_eqInt64S.l0]; rw [if_neg (by omega)]
  | succ d ih =>
    intro i hd
    refine Ev.step (fun k => ?_) (ih (i + 1) (by omega))
    simp only [laws_eqInt64S.l0]; rw [if_pos (by omega), if_pos (by omega), if_pos (by omega), if_true, wrapS (by omega) (by omega), cast_succ]
theorem eqI_ev (xs : List Int) (hn : xs.length < 4611686018427387904) : Ev (fun k => laws_eqInt64S.f k xs xs) true := by
  refine Ev.congr (fun k => ?_) (eqI_loop xs hn xs.length 0 (by omega))
  unfold laws_eqInt64S.f
  rw [if_pos rfl]; rfl

end Go.Proofs.YtfcafnnpejngiaaDoor.PX

/- Marks laid into lists of whole numbers, and looked for (no condition but sizes that fit). -/
namespace Go.Proofs.YtfcafnnpejngiaaDoor.PX
open Go.RowKit Go.Proofs.YtfcafnnpejngiaaDoorW.PrintWords Go.Proofs.YtfcafnnpejngiaaDoorW.PrintLast Go.Proofs.YtfcafnnpejngiaaDoorW.PrintMore
attribute [local go_sem] max2_int min2_int max_two min_two max_three min_three max_four min_four
set_option linter.unusedVariables false
set_option linter.unusedSimpArgs false
/-- The marks that the law lays: a, a + 1, .. -/
def marks (a : Int) (n : Nat) : List Int := (List.range n).map fun (i : Nat) => a + (i : Int)
theorem marks_length (a : Int) (n : Nat) : (marks a n).length = n := by simp [marks]
theorem mark_loop (xs : List Int) (a : Int) (ha : 0 ≤ a) (hn : a + xs.length < 4611686018427387904) (d : Nat) : ∀ (i : Nat), i + d = xs.length →
    Ev (fun k => laws_markInt64S.l0 k (marks a i ++ xs.drop i) (a + i) i) (a + (xs.length : Int), marks a xs.length) := by
  induction d with
  | zero =>
    intro i hd
    have hi : i = xs.length := by omega
    subst hi
    refine Ev.step (f := fun _ => some (a + (xs.length : Int), marks a xs.length)) (fun k => ?_) (Ev.now _)
    simp only [laws_markInt64S.l0]
    rw [if_neg (by simp [marks_length])]
    simp
  | succ d ih =>
    intro i hd
    refine Ev.step (fun k => ?_) (ih (i + 1) (by omega))
    simp only [laws_markInt64S.l0]
    rw [if_pos (by simp only [List.length_append, marks_length, List.length_drop]; omega), if_pos (by omega), wrapS (by omega) (by omega), wrapS (by omega) (by omega)]
    have hs : (marks a i ++ xs.drop i).set ((i : Int)).toNat (a + i) = marks a (i + 1) ++ xs.drop (i + 1) := by
      have hl : i < xs.length := by omega
      have e1 : ((i : Int)).toNat = (marks a i).length := by rw [marks_length]; omega
      rw [List.drop_eq_getElem_cons hl, e1, List.set_append_right _ _ (Nat.le_refl _)]
      simp only [Nat.sub_self, List.set_cons_zero]
      simp [marks, List.range_succ]
    rw [hs, show a + ((i + 1 : Nat) : Int) = a + i + 1 by omega, cast_succ]
theorem mark_ev (xs : List Int) (a : Int) (ha : 0 ≤ a) (hn : a + xs.length < 4611686018427387904) : Ev (fun k => laws_markInt64S.f k xs a) (a + (xs.length : Int), marks a xs.length) := by
  refine Ev.congr (fun k => ?_) (mark_loop xs a ha hn xs.length 0 (by omega))
  unfold laws_markInt64S.f
  simp [marks]
theorem held_loop (n : Nat) (a : Int) (ha : 0 ≤ a) (hn : a + n < 4611686018427387904) (d : Nat) : ∀ (i : Nat), i + d = n →
    Ev (fun k => laws_heldInt64S.l0 k (marks a n) (a + i) i) (a + (n : Int)) := by
  induction d with
  | zero =>
    intro i hd
    have : i = n := by omega
    subst this
    refine Ev.step (f := fun _ => some (a + (i : Int))) (fun k => ?_) (Ev.now _)
    simp only [laws_heldInt64S.l0]
    rw [if_neg (by rw [marks_length]; omega)]
  | succ d ih =>
    intro i hd
    refine Ev.step (fun k => ?_) (ih (i + 1) (by omega))
    simp only [laws_heldInt64S.l0]
    have hr : rd (marks a n) (i : Int) = a + i := by
      have hl : i < n := by omega
      simp [rd, marks, hl]
    rw [if_pos (by rw [marks_length]; omega), if_pos (by omega), if_pos hr, wrapS (by omega) (by omega), wrapS (by omega) (by omega), show a + ((i + 1 : Nat) : Int) = a + i + 1 by omega, cast_succ]
theorem held_ev (n : Nat) (a : Int) (ha : 0 ≤ a) (hn : a + n < 4611686018427387904) : Ev (fun k => laws_heldInt64S.f k (marks a n) a) (a + (n : Int)) := by
  refine Ev.congr (fun k => ?_) (held_loop n a ha hn n 0 (by omega))
  unfold laws_heldInt64S.f
  simp

end Go.Proofs.YtfcafnnpejngiaaDoor.PX

/- A slice whose rows lie apart, as an element of a slice (no condition). -/
namespace Go.Proofs.YtfcafnnpejngiaaDoor.PX
open Go.RowKit Go.Proofs.YtfcafnnpejngiaaDoorW.PrintWords Go.Proofs.YtfcafnnpejngiaaDoorW.PrintLast Go.Proofs.YtfcafnnpejngiaaDoorW.PrintMore
attribute [local go_sem] max2_int min2_int max_two min_two max_three min_three max_four min_four
set_option linter.unusedVariables false
set_option linter.unusedSimpArgs false
/-- A slice whose rows lie apart, as an element. -/
def sl {α : Type} (e : Nat) (d : Kd α) : Kd (List α) where
  sz := 1
  E := e :: d.E
  K := fun w xs cs => ∃ A c, cs = [.slice A xs.length c] ∧ xs.length ≤ c ∧ d.C w A xs.length xs
  M := fun w base ok xs cs => ∃ v, cs = [v] ∧ Kd.S d e w base ok v xs
  K_len := (Kd.slice e d).K_len
  K_one := (Kd.slice e d).K_one
  K_below := (Kd.slice e d).K_below
  K_of_M := by
    rintro w base ok x cs ⟨v, rfl, h⟩
    obtain ⟨A, c, rfl, hl, hr⟩ := Kd.S_reads h
    exact ⟨A, c, rfl, hl, hr⟩
  M_mono := by
    rintro w base ok ok' x cs hok ⟨v, rfl, h⟩
    exact ⟨v, rfl, Kd.S_mono h hok⟩
  M_bound := by
    rintro w base ok x cs ⟨v, rfl, h⟩
    exact ⟨v, rfl, Kd.S_bound h⟩
  M_move := by
    rintro w w1 base ok x cs hm ⟨v, rfl, h⟩
    exact ⟨v, rfl, Kd.S_move h hm⟩
  M_lower := by
    rintro w base base' ok x cs hb ⟨v, rfl, h⟩
    exact ⟨v, rfl, Kd.S_lower h hb⟩
theorem M_rowS {α : Type} {d : Kd α} {e base : Nat} {ok : Nat → Prop} {w : World} {v : Value} {xs : List α} (h : Kd.S d e w base ok v xs) : (sl e d).M w base ok xs [v] := ⟨v, rfl, h⟩
theorem both3 {α β : Type} {d : Kd α} {d2 : Kd β} {e e2 base : Nat} {ok ok2 : Nat → Prop} {W w1 : World} {u v : Value} {xs : List α} {ys : List β} (h : Kd.S d e W base ok u xs) (hb : Below W.heap.size W w1) (h2 : Kd.S d2 e2 w1 W.heap.size ok2 v ys) :
    ∃ N, Kd.S d e w1 base (fun k => ok k ∧ k < N) u xs ∧ Kd.S d2 e2 w1 N (fun k => ok2 k ∧ N ≤ k) v ys ∧ N = W.heap.size :=
  ⟨_, Kd.S_old h hb, Kd.S_mono (Kd.S_bound h2) (fun _ hk => ⟨hk.1, hk.2.1⟩), rfl⟩

end Go.Proofs.YtfcafnnpejngiaaDoor.PX

/- Positions of equal regions are equal; the number of all spots told of. -/
namespace Go.Proofs.YtfcafnnpejngiaaDoor.PX
open Go.RowKit Go.Proofs.YtfcafnnpejngiaaDoorW.PrintWords Go.Proofs.YtfcafnnpejngiaaDoorW.PrintLast Go.Proofs.YtfcafnnpejngiaaDoorW.PrintMore
attribute [local go_sem] max2_int min2_int max_two min_two max_three min_three max_four min_four
set_option linter.unusedVariables false
set_option linter.unusedSimpArgs false
def total : List (List Int) → Int
  | [] => 0
  | row :: rest => row.length + total rest
theorem total_nonneg : ∀ g : List (List Int), 0 ≤ total g
  | [] => by simp [total]
  | row :: rest => by have := total_nonneg rest; simp only [total]; omega
theorem total_mem {g : List (List Int)} {row : List Int} (h : row ∈ g) : (row.length : Int) ≤ total g := by
  induction g with
  | nil => simp at h
  | cons x rest ih =>
    simp only [total]
    have := total_nonneg rest
    rcases List.mem_cons.1 h with rfl | h
    · omega
    · have := ih h
      omega
theorem eqSS_loop (g : List (List Int)) (hl : ∀ row ∈ g, row.length < 4611686018427387904) (hg : g.length < 4611686018427387904) (d : Nat) : ∀ i : Nat, i + d = g.length → Ev (fun k => laws_eqInt64SS.l0 k g g (i : Int)) true := by
  induction d with
  | zero =>
    intro i hd
    refine Ev.step (f := fun _ => some true) (fun k => ?_) (Ev.now true)
    simp only [laws_eqInt64SS.l0]; rw [if_neg (by omega)]
  | succ d ih =>
    intro i hd
    obtain ⟨row, hp⟩ := get_some (xs := g) (i := i) (by omega)
    have hr : rd_L2 g (i : Int) = row := by rw [rdL1_nat]; exact getD_of hp
    refine Ev.step (f := fun k => (laws_eqInt64S.f k row row).bind fun t => if t = true then laws_eqInt64SS.l0 k g g ((i + 1 : Nat) : Int) else some false) (fun k => ?_) (Ev.bind (eqI_ev row (hl row (List.mem_of_getElem? hp))) ?_)
    · simp only [laws_eqInt64SS.l0]
      rw [if_pos (by omega), if_pos (by omega), if_pos (by omega), hr, wrapS (by omega) (by omega), cast_succ]
    · exact Ev.congr (fun k => by simp) (ih (i + 1) (by omega))
theorem eqSS_ev (g : List (List Int)) (hl : ∀ row ∈ g, row.length < 4611686018427387904) (hg : g.length < 4611686018427387904) : Ev (fun k => laws_eqInt64SS.f k g g) true := by
  refine Ev.congr (fun k => ?_) (eqSS_loop g hl hg g.length 0 (by omega))
  unfold laws_eqInt64SS.f
  rw [if_pos rfl]; rfl
theorem eq3_loop (R : List (List (List Int))) (hl : ∀ g ∈ R, g.length ≤ 2097152 ∧ total g ≤ 2097152) (hL : R.length ≤ 2097152) : ∀ (d i : Nat), i + d = R.length → Ev (fun k => laws_eqInt64SSS.l0 k R R (i : Int)) true
  | 0, i, hd => by
    refine Ev.step (f := fun _ => some true) (fun k => ?_) (Ev.now _)
    rw [laws_eqInt64SSS.l0, if_neg (by omega)]
  | d + 1, i, hd => by
    obtain ⟨g, hg⟩ := get_some (xs := R) (i := i) (by omega)
    have hgl := hl g (List.mem_of_getElem? hg)
    have er : rd_L3 R (i : Int) = g := by unfold rd_L3; rw [Int.toNat_natCast, getD_of hg]
    have hw : wrap64 ((i : Int) + 1) = ((i + 1 : Nat) : Int) := by rw [wrapS (by omega) (by omega), cast_succ]
    refine Ev.step (f := fun k => (laws_eqInt64SS.f k g g).bind fun t209 => (if t209 = true then (laws_eqInt64SSS.l0 k R R ((i + 1 : Nat) : Int)) else (some false))) (fun k => ?_) (Ev.bind (eqSS_ev g (fun row hr => by have := total_mem hr; omega) (by omega)) (Ev.congr (fun k => by rw [if_pos rfl]) (eq3_loop R hl hL d (i + 1) (by omega))))
    rw [laws_eqInt64SSS.l0, if_pos (by omega), if_pos (by omega), if_pos (by omega), er, hw]
theorem eq3_ev (n : Int) (R : List (List (List Int))) (hl : ∀ g ∈ R, g.length ≤ 2097152 ∧ total g ≤ 2097152) (hL : R.length ≤ 2097152) : Ev (fun k => laws_eqSprouts.f k n R n R) true := by
  have h : Ev (fun k => laws_eqInt64SSS.f k R R) true := by
    refine Ev.congr (fun k => ?_) (eq3_loop R hl hL R.length 0 (by omega))
    unfold laws_eqInt64SSS.f
    rw [if_pos rfl]; rfl
  unfold laws_eqSprouts.f
  refine Ev.congr (fun k => by rw [if_pos rfl]) (Ev.bind h ?_)
  exact Ev.congr (f := fun _ => some true) (fun k => by rw [if_pos rfl]) (Ev.now _)

end Go.Proofs.YtfcafnnpejngiaaDoor.PX

/- markInt64SS, a contract: the marks a, a + 1, .. lie in rows that lie apart, and nothing else has turned (conditions: the rows are the caller's own and apart; sizes fit). -/
namespace Go.Proofs.YtfcafnnpejngiaaDoor.PX
open Go.RowKit Go.Proofs.YtfcafnnpejngiaaDoorW.PrintWords Go.Proofs.YtfcafnnpejngiaaDoorW.PrintLast Go.Proofs.YtfcafnnpejngiaaDoorW.PrintMore
attribute [local go_sem] max2_int min2_int max_two min_two max_three min_three max_four min_four
set_option linter.unusedVariables false
set_option linter.unusedSimpArgs false
/-- The marks, row by row. -/
def markL (a : Int) : List (List Int) → List (List Int)
  | [] => []
  | row :: rest => marks a row.length :: markL (a + row.length) rest
theorem markL_length : ∀ (a : Int) (g : List (List Int)), (markL a g).length = g.length
  | _, [] => rfl
  | a, row :: rest => by simp only [markL, List.length_cons, markL_length]
theorem total_append : ∀ (g h : List (List Int)), total (g ++ h) = total g + total h
  | [], h => by simp [total]
  | row :: rest, h => by simp only [List.cons_append, total, total_append rest h]; omega
theorem markL_append : ∀ (a : Int) (g h : List (List Int)), markL a (g ++ h) = markL a g ++ markL (a + total g) h
  | a, [], h => by simp [markL, total]
  | a, row :: rest, h => by
    simp only [List.cons_append, markL, total, markL_append _ rest h]
    rw [show a + (row.length : Int) + total rest = a + (row.length + total rest) by omega]
theorem take_snoc {α : Type} {xs : List α} {j : Nat} {x : α} (h : xs[j]? = some x) : xs.take (j + 1) = xs.take j ++ [x] := by
  obtain ⟨hl, e⟩ := List.getElem?_eq_some_iff.1 h
  rw [List.take_succ_eq_append_getElem hl, e]
theorem total_take (g : List (List Int)) (j : Nat) : 0 ≤ total (g.take j) ∧ total (g.take j) ≤ total g := by
  have h1 := total_nonneg (g.take j)
  have h2 := total_nonneg (g.drop j)
  have h3 : total g = total (g.take j) + total (g.drop j) := by rw [← total_append, List.take_append_drop]
  omega
set_option maxHeartbeats 8000000 in
set_option maxRecDepth 100000 in
theorem laws_markInt64SS.calls (ok : Nat → Prop) (v : Value) (xs : List (List Int)) (a : Int) (w0 w : World) (hB : Below w0.heap.size w0 w) (ho : Kd.S (Kd.slice 2 (Kd.int .i64)) 38 w w0.heap.size ok v xs) (ha : 0 ≤ a) (hn : a + total xs < 4611686018427387904) (hl : xs.length < 4611686018427387904) :
    Calls Tryd.prog 29 #[v, .int .i64 a] w fun e w' => e = .returned (.int .i64 (a + total xs)) ∧ Kd.S (Kd.slice 2 (Kd.int .i64)) 38 w' w0.heap.size ok v (markL a xs) ∧ Below w0.heap.size w0 w' ∧ Kept w w' ok := by
  obtain ⟨A, c, hv⟩ := Kd.S_slice ho
  obtain ⟨n, hnl⟩ : ∃ n, n = xs.length := ⟨_, rfl⟩
  rw [← hnl] at hv
  subst hv
  have HO := Aside0.mk ho
  have HB := Aside0.mk hB
  have HN := Aside0.mk hnl
  have HA := Aside0.mk ha
  have HT := Aside0.mk hn
  have HL := Aside0.mk hl
  clear ho hB hnl ha hn hl
  go_enter Tryd.func29, Tryd.ntmps29
  go_wp2
  go_loopg [1, 5] (n + 1) (fun kq v1 v5 wr => ∃ (x1 x5 : Int), v1 = .int .i64 x1 ∧ v5 = .int .i64 x5 ∧ Aside0 (∃ j : Nat, x5 = (j : Int) ∧ x1 = a + total (xs.take j) ∧ j ≤ n ∧ kq + j = n + 1 ∧ Kd.S (Kd.slice 2 (Kd.int .i64)) 38 wr w0.heap.size ok (.slice A n c) (markL a (xs.take j) ++ xs.drop j)) ∧ Aside0 (Below w0.heap.size w0 wr) ∧ Aside0 (Kept w wr ok))
  case atStart => exact ⟨a, 0, (by first | rfl | (simp; done) | (simp [*]; done)), (by first | rfl | (simp; done) | (simp [*]; done)), ⟨0, rfl, by simp [total], Nat.zero_le _, rfl, by simpa [markL] using HO.out⟩, HB, ⟨Kept.refl _ _⟩⟩
  case round =>
    obtain ⟨x1, x5, rfl, rfl, ⟨j, h5, h1, hj, hq, hS⟩, HBr, HK⟩ := hrel
    have H5 := Aside0.mk h5
    have H1 := Aside0.mk h1
    have HJ := Aside0.mk hj
    have HQ := Aside0.mk hq
    have HS := Aside0.mk hS
    clear h5 h1 hj hq hS
    by_cases c3 : x5 < (n : Int)
    · have hjn : j < xs.length := by have := H5.out; have := HN.out; omega
      obtain ⟨row, hrow⟩ := get_some hjn
      have hlen : (markL a (xs.take j)).length = j := by rw [markL_length, List.length_take]; omega
      obtain ⟨g, cap, hg, _, _, _⟩ := Kd.S_form HS.out (by rw [List.length_append, hlen, List.length_drop]; omega)
      injection hg with hA hn_ hc
      clear hn_
      subst hA
      subst hc
      have hi0 : 0 ≤ x5 := by rw [H5.out]; omega
      obtain ⟨oki, cl, hcl, hM, hcc, hoki, hH⟩ := Kd.S_lend HS.out [] x5 hi0 c3
      obtain ⟨vj, rfl, hR⟩ := hM
      have hget : (markL a (xs.take j) ++ xs.drop j).getD x5.toNat [] = row := by
        rw [H5.out, Int.toNat_natCast]
        apply getD_of
        rw [List.getElem?_append_right (by omega), hlen, Nat.sub_self, List.getElem?_drop, Nat.add_zero, hrow]
      rw [hget] at hR
      have hx := hcc 0 vj rfl
      simp only [show ((Kd.slice 2 (Kd.int .i64))).sz = 1 from rfl, Nat.mul_one, Nat.add_zero] at hx
      have htl := total_take xs j
      have htr : total (xs.take (j + 1)) = total (xs.take j) + row.length := by rw [take_snoc hrow, total_append]; simp [total]
      have htl2 := total_take xs (j + 1)
      obtain ⟨K, hK⟩ := mark_ev row x1 (by have := H1.out; have := HA.out; omega) (by have := H1.out; have := HT.out; omega)
      have HM := Aside0.mk (hK K (Nat.le_refl _))
      have HR := Aside0.mk hR
      have HH := Aside0.mk hH
      have HOK := Aside0.mk hoki
      have HROW := Aside0.mk hrow
      have HLEN := Aside0.mk hlen
      have HTR := Aside0.mk htr
      have HTL := Aside0.mk htl
      have HTL2 := Aside0.mk htl2
      have c3b0 : decide (x5 < (n : Int)) = true := decide_eq_true c3
      have c4b0 : decide (0 ≤ x5) = true := decide_eq_true hi0
      have HJN := Aside0.mk hjn
      clear hK hR hH hoki hrow hlen htr htl htl2 hget hcl hcc hjn
      replace hi0 := eq_true hi0
      replace c3 := eq_true c3
      go_wp2_with ((with_reducible refine gate_callee (f := 44) rfl ?_); refine goesL_ (some 17) rfl rfl Tryd.func44 (by kernel_rfl) rfl #[vj, .int .i64 x1] rfl (by (try simp only [List.map_toArray, List.map_cons, List.map_nil]); first | done | rfl) ?_; (with_reducible refine (laws_markInt64S.calls K oki vj row x1 _ _ w0 wr HBr.out HR.out HM.out).mono ?_); rintro e w1 ⟨rfl, hy0, hb, hkp⟩; refine ⟨_, rfl, ?_⟩; have HY := Aside0.mk (Kd.R_reok rfl hy0 (fun k_ e_ => HR.out.1 k_ e_)); have HBn := Aside0.mk hb; have HKP := Aside0.mk hkp; clear hy0 hb hkp)
      go_roundg (n - j)
      case measure => have := HQ.out; have := HJ.out; have := HJN.out; have := HN.out; omega
      case rel =>
        refine ⟨x1 + (row.length : Int), wrap64 (x5 + 1), (by first | rfl | (simp; done) | (simp [*]; done)), (by first | rfl | (simp; done) | (simp [*]; done)), ⟨j + 1, ?_, ?_, ?_, ?_, ?_⟩, HBn, ⟨HK.out.then_ HKP.out (fun k hk => .inl (HOK.out k hk).1)⟩⟩
        · have := H5.out; have := HJN.out; have := HL.out; unfold wrap64; omega
        · rw [HTR.out, H1.out]; omega
        · have := HJN.out; have := HN.out; omega
        · have := HQ.out; have := HJN.out; have := HN.out; omega
        · have hb := Kd.H_back (Kd.H_kept HH.out HKP.out (fun k _ h2 h3 => h2 h3)) (x' := marks x1 row.length) ⟨vj, rfl, HY.out⟩ (fun k hk => hk)
          have e : (markL a (xs.take j) ++ xs.drop j).set x5.toNat (marks x1 row.length) = markL a (xs.take (j + 1)) ++ xs.drop (j + 1) := by
            rw [H5.out, Int.toNat_natCast, drop_of HROW.out, take_snoc HROW.out, markL_append, H1.out]
            conv => lhs; rw [show j = (markL a (xs.take j)).length from HLEN.out.symm]
            rw [HLEN.out, List.set_append_right _ _ (by rw [HLEN.out]; exact Nat.le_refl _), HLEN.out, Nat.sub_self, List.set_cons_zero]
            simp [markL]
          rw [e] at hb
          exact hb
    · have c3b0 : decide (x5 < (n : Int)) = false := decide_eq_false c3
      have HC := Aside0.mk c3
      clear c3
      go_wp2
      go_ret
      have hjn : j = n := by have := HC.out; have := H5.out; have := HJ.out; omega
      have hS := HS.out
      rw [hjn, HN.out, List.take_length, List.drop_length, List.append_nil] at hS
      have h1 := H1.out
      rw [hjn, HN.out, List.take_length] at h1
      refine ⟨?_, ?_, HBr.out, HK.out⟩
      · rw [← h1]; rfl
      · rw [HN.out]; exact hS

end Go.Proofs.YtfcafnnpejngiaaDoor.PX

/- markInt64SSS and markSprouts, contracts: the marks lie in rows that lie apart, and nothing else has turned (conditions: the rows are the caller's own and apart; sizes fit). -/
namespace Go.Proofs.YtfcafnnpejngiaaDoor.PX
open Go.RowKit Go.Proofs.YtfcafnnpejngiaaDoorW.PrintWords Go.Proofs.YtfcafnnpejngiaaDoorW.PrintLast Go.Proofs.YtfcafnnpejngiaaDoorW.PrintMore
attribute [local go_sem] max2_int min2_int max_two min_two max_three min_three max_four min_four
set_option linter.unusedVariables false
set_option linter.unusedSimpArgs false
def total3 : List (List (List Int)) → Int
  | [] => 0
  | g :: rest => total g + total3 rest
theorem total3_nonneg : ∀ g : List (List (List Int)), 0 ≤ total3 g
  | [] => by simp [total3]
  | row :: rest => by have := total3_nonneg rest; have := total_nonneg row; simp only [total3]; omega
/-- The marks, region by region. -/
def markLL (a : Int) : List (List (List Int)) → List (List (List Int))
  | [] => []
  | g :: rest => markL a g :: markLL (a + total g) rest
def Fits3 (xs : List (List (List Int))) : Prop := xs.length < 4611686018427387904 ∧ ∀ g ∈ xs, g.length < 4611686018427387904
theorem markLL_length : ∀ (a : Int) (g : List (List (List Int))), (markLL a g).length = g.length
  | _, [] => rfl
  | a, row :: rest => by simp only [markLL, List.length_cons, markLL_length]
theorem total3_append : ∀ (g h : List (List (List Int))), total3 (g ++ h) = total3 g + total3 h
  | [], h => by simp [total3]
  | row :: rest, h => by simp only [List.cons_append, total3, total3_append rest h]; omega
theorem markLL_append : ∀ (a : Int) (g h : List (List (List Int))), markLL a (g ++ h) = markLL a g ++ markLL (a + total3 g) h
  | a, [], h => by simp [markLL, total3]
  | a, row :: rest, h => by
    simp only [List.cons_append, markLL, total3, markLL_append _ rest h]
    rw [show a + total row + total3 rest = a + (total row + total3 rest) by omega]
theorem total3_take (g : List (List (List Int))) (j : Nat) : 0 ≤ total3 (g.take j) ∧ total3 (g.take j) ≤ total3 g := by
  have h1 := total3_nonneg (g.take j)
  have h2 := total3_nonneg (g.drop j)
  have h3 : total3 g = total3 (g.take j) + total3 (g.drop j) := by rw [← total3_append, List.take_append_drop]
  omega
set_option maxHeartbeats 8000000 in
set_option maxRecDepth 100000 in
theorem laws_markInt64SSS.calls (ok : Nat → Prop) (v : Value) (xs : List (List (List Int))) (a : Int) (w0 w : World) (hB : Below w0.heap.size w0 w) (ho : Kd.S (sl 38 (Kd.slice 2 (Kd.int .i64))) 37 w w0.heap.size ok v xs) (ha : 0 ≤ a) (hn : a + total3 xs < 4611686018427387904) (hl : Fits3 xs) :
    Calls Tryd.prog 19 #[v, .int .i64 a] w fun e w' => e = .returned (.int .i64 (a + total3 xs)) ∧ Kd.S (sl 38 (Kd.slice 2 (Kd.int .i64))) 37 w' w0.heap.size ok v (markLL a xs) ∧ Below w0.heap.size w0 w' ∧ Kept w w' ok := by
  obtain ⟨A, c, hv⟩ := Kd.S_slice ho
  obtain ⟨n, hnl⟩ : ∃ n, n = xs.length := ⟨_, rfl⟩
  rw [← hnl] at hv
  subst hv
  have HO := Aside0.mk ho
  have HB := Aside0.mk hB
  have HN := Aside0.mk hnl
  have HA := Aside0.mk ha
  have HT := Aside0.mk hn
  have HL := Aside0.mk hl
  clear ho hB hnl ha hn hl
  go_enter Tryd.func19, Tryd.ntmps19
  go_wp2
  go_loopg [1, 5] (n + 1) (fun kq v1 v5 wr => ∃ (x1 x5 : Int), v1 = .int .i64 x1 ∧ v5 = .int .i64 x5 ∧ Aside0 (∃ j : Nat, x5 = (j : Int) ∧ x1 = a + total3 (xs.take j) ∧ j ≤ n ∧ kq + j = n + 1 ∧ Kd.S (sl 38 (Kd.slice 2 (Kd.int .i64))) 37 wr w0.heap.size ok (.slice A n c) (markLL a (xs.take j) ++ xs.drop j)) ∧ Aside0 (Below w0.heap.size w0 wr) ∧ Aside0 (Kept w wr ok))
  case atStart => exact ⟨a, 0, (by first | rfl | (simp; done) | (simp [*]; done)), (by first | rfl | (simp; done) | (simp [*]; done)), ⟨0, rfl, by simp [total3], Nat.zero_le _, rfl, by simpa [markLL] using HO.out⟩, HB, ⟨Kept.refl _ _⟩⟩
  case round =>
    obtain ⟨x1, x5, rfl, rfl, ⟨j, h5, h1, hj, hq, hS⟩, HBr, HK⟩ := hrel
    have H5 := Aside0.mk h5
    have H1 := Aside0.mk h1
    have HJ := Aside0.mk hj
    have HQ := Aside0.mk hq
    have HS := Aside0.mk hS
    clear h5 h1 hj hq hS
    by_cases c3 : x5 < (n : Int)
    · have hjn : j < xs.length := by have := H5.out; have := HN.out; omega
      obtain ⟨row, hrow⟩ := get_some hjn
      have hlen : (markLL a (xs.take j)).length = j := by rw [markLL_length, List.length_take]; omega
      obtain ⟨g, cap, hg, _, _, _⟩ := Kd.S_form HS.out (by rw [List.length_append, hlen, List.length_drop]; omega)
      injection hg with hA hn_ hc
      clear hn_
      subst hA
      subst hc
      have hi0 : 0 ≤ x5 := by rw [H5.out]; omega
      obtain ⟨oki, cl, hcl, hM, hcc, hoki, hH⟩ := Kd.S_lend HS.out [] x5 hi0 c3
      obtain ⟨vj, rfl, hR⟩ := hM
      have hget : (markLL a (xs.take j) ++ xs.drop j).getD x5.toNat [] = row := by
        rw [H5.out, Int.toNat_natCast]
        apply getD_of
        rw [List.getElem?_append_right (by omega), hlen, Nat.sub_self, List.getElem?_drop, Nat.add_zero, hrow]
      rw [hget] at hR
      have hx := hcc 0 vj rfl
      simp only [show ((sl 38 (Kd.slice 2 (Kd.int .i64)))).sz = 1 from rfl, Nat.mul_one, Nat.add_zero] at hx
      have htl := total3_take xs j
      have htr : total3 (xs.take (j + 1)) = total3 (xs.take j) + total row := by rw [take_snoc hrow, total3_append]; simp [total3]
      have htl2 := total3_take xs (j + 1)
      have HM := Aside0.mk (show 0 ≤ x1 ∧ x1 + total row < 4611686018427387904 from ⟨by have := H1.out; have := HA.out; omega, by have := H1.out; have := HT.out; omega⟩)
      have HLR := Aside0.mk (HL.out.2 row (List.mem_of_getElem? hrow))
      have HR := Aside0.mk hR
      have HH := Aside0.mk hH
      have HOK := Aside0.mk hoki
      have HROW := Aside0.mk hrow
      have HLEN := Aside0.mk hlen
      have HTR := Aside0.mk htr
      have HTL := Aside0.mk htl
      have HTL2 := Aside0.mk htl2
      have c3b0 : decide (x5 < (n : Int)) = true := decide_eq_true c3
      have c4b0 : decide (0 ≤ x5) = true := decide_eq_true hi0
      have HJN := Aside0.mk hjn
      clear hR hH hoki hrow hlen htr htl htl2 hget hcl hcc hjn
      replace hi0 := eq_true hi0
      replace c3 := eq_true c3
      go_wp2_with ((with_reducible refine gate_callee (f := 29) rfl ?_); refine goesL_ (some 17) rfl rfl Tryd.func29 (by kernel_rfl) rfl #[vj, .int .i64 x1] rfl (by (try simp only [List.map_toArray, List.map_cons, List.map_nil]); first | done | rfl) ?_; (with_reducible refine (laws_markInt64SS.calls oki vj row x1 w0 wr HBr.out HR.out HM.out.1 HM.out.2 HLR.out).mono ?_); rintro e w1 ⟨rfl, hy0, hb, hkp⟩; refine ⟨_, rfl, ?_⟩; have HY := Aside0.mk hy0; have HBn := Aside0.mk hb; have HKP := Aside0.mk hkp; clear hy0 hb hkp)
      go_roundg (n - j)
      case measure => have := HQ.out; have := HJ.out; have := HJN.out; have := HN.out; omega
      case rel =>
        refine ⟨x1 + total row, wrap64 (x5 + 1), (by first | rfl | (simp; done) | (simp [*]; done)), (by first | rfl | (simp; done) | (simp [*]; done)), ⟨j + 1, ?_, ?_, ?_, ?_, ?_⟩, HBn, ⟨HK.out.then_ HKP.out (fun k hk => .inl (HOK.out k hk).1)⟩⟩
        · have := H5.out; have := HJN.out; have := HL.out.1; unfold wrap64; omega
        · rw [HTR.out, H1.out]; omega
        · have := HJN.out; have := HN.out; omega
        · have := HQ.out; have := HJN.out; have := HN.out; omega
        · have hb := Kd.H_back (Kd.H_kept HH.out HKP.out (fun k _ h2 h3 => h2 h3)) (x' := markL x1 row) ⟨vj, rfl, HY.out⟩ (fun k hk => hk)
          have e : (markLL a (xs.take j) ++ xs.drop j).set x5.toNat (markL x1 row) = markLL a (xs.take (j + 1)) ++ xs.drop (j + 1) := by
            rw [H5.out, Int.toNat_natCast, drop_of HROW.out, take_snoc HROW.out, markLL_append, H1.out]
            conv => lhs; rw [show j = (markLL a (xs.take j)).length from HLEN.out.symm]
            rw [HLEN.out, List.set_append_right _ _ (by rw [HLEN.out]; exact Nat.le_refl _), HLEN.out, Nat.sub_self, List.set_cons_zero]
            simp [markLL]
          rw [e] at hb
          exact hb
    · have c3b0 : decide (x5 < (n : Int)) = false := decide_eq_false c3
      have HC := Aside0.mk c3
      clear c3
      go_wp2
      go_ret
      have hjn : j = n := by have := HC.out; have := H5.out; have := HJ.out; omega
      have hS := HS.out
      rw [hjn, HN.out, List.take_length, List.drop_length, List.append_nil] at hS
      have h1 := H1.out
      rw [hjn, HN.out, List.take_length] at h1
      refine ⟨?_, ?_, HBr.out, HK.out⟩
      · rw [← h1]; rfl
      · rw [HN.out]; exact hS
set_option maxHeartbeats 8000000 in
set_option maxRecDepth 100000 in
theorem laws_markSprouts.calls (ok : Nat → Prop) (z : Int) (A : Option Addr) (n c : Nat) (xs : List (List (List Int))) (a : Int) (w0 w : World) (hB : Below w0.heap.size w0 w) (ho : Kd.S (sl 38 (Kd.slice 2 (Kd.int .i64))) 37 w w0.heap.size ok (.slice A n c) xs) (ha : 0 ≤ a) (hn : a + total3 xs < 4611686018427387904) (hl : Fits3 xs) :
    Calls Tryd.prog 8 #[.agg #[.int .i64 z, .slice A n c], .int .i64 a] w fun e w' => e = .returned (.int .i64 (a + total3 xs)) ∧ Kd.S (sl 38 (Kd.slice 2 (Kd.int .i64))) 37 w' w0.heap.size ok (.slice A n c) (markLL a xs) ∧ Below w0.heap.size w0 w' ∧ Kept w w' ok := by
  have HO := Aside0.mk ho
  have HB := Aside0.mk hB
  have HA := Aside0.mk ha
  have HT := Aside0.mk hn
  have HL := Aside0.mk hl
  clear ho hB ha hn hl
  have huG := Tryd.underlying24
  go_enter Tryd.func8, Tryd.ntmps8
  go_wp2_with (first | ((with_reducible refine gate_dst (N := 2) rfl ?_); refine box_event ?hg (N := 2) ?hd (cs := #[.int .i64 z, .slice A n c]) (t := 24) ?hr ?_; (case hd => rfl); (case hg => rfl); (case hr => first | (go_simp; done) | (go_simp; rfl)); intro gb hg w2 hbox hb; have n0_ := Aside0.mk (Kd.S_below HO.out hb); have n1_ := Aside0.mk (below_then HB.out HB.out.size hb); have HK := Aside0.mk (Kept.of_below hb ok); have HBX := Aside0.mk hbox; clear HO HB hb hbox hg; have HO := n0_; have HB := n1_; clear n0_ n1_; have hcz : w2.cell? ⟨gb, 1, none⟩ = some (.slice A n c) := (blk_cell HBX.out 1).trans rfl; have hfz := blk_frozen HBX.out 1) | ((with_reducible refine gate_callee (f := 19) rfl ?_); refine goesL_ (some 8) rfl rfl Tryd.func19 (by kernel_rfl) rfl #[.slice A n c, .int .i64 a] rfl (by (try simp only [List.map_toArray, List.map_cons, List.map_nil]); first | done | rfl) ?_; (with_reducible refine (laws_markInt64SSS.calls ok _ xs a w0 _ HB.out HO.out HA.out HT.out HL.out).mono ?_); rintro e w3 ⟨rfl, hs, hb, hk⟩; refine ⟨_, rfl, ?_⟩; have HS := Aside0.mk hs; have HB3 := Aside0.mk hb; have HK3 := Aside0.mk hk; clear hs hb hk hcz hfz))
  go_ret
  exact ⟨rfl, HS.out, HB3.out, HK.out.then_ HK3.out (fun k hk => .inl hk)⟩

end Go.Proofs.YtfcafnnpejngiaaDoor.PX

namespace Go.Proofs.YtfcafnnpejngiaaDoor.PX
open Go.RowKit Go.Proofs.YtfcafnnpejngiaaDoorW.PrintWords Go.Proofs.YtfcafnnpejngiaaDoorW.PrintLast Go.Proofs.YtfcafnnpejngiaaDoorW.PrintMore
attribute [local go_sem] max2_int min2_int max_two min_two max_three min_three max_four min_four   -- for this text's walks alone
set_option linter.unusedVariables false
set_option linter.unusedSimpArgs false

/-! ### impl_within: function 41 -/
def impl_within.f (a0 : Int) (a1 : Int) (a2 : Int) : Option (Bool) := if a1 ≤ a0 then (some (decide (a0 ≤ a2))) else (some false)
set_option maxHeartbeats 8000000 in
set_option maxRecDepth 100000 in
theorem impl_within.calls (a0 : Int) (a1 : Int) (a2 : Int) (r : Bool) (w : World) (h : impl_within.f a0 a1 a2 = some r) :
    Calls Tryd.prog 41 #[.int .i64 a0, .int .i64 a1, .int .i64 a2] w fun e w' => e = .returned (.bool r) ∧ Drawn0 w w' := by
  have H : (if a1 ≤ a0 then (some (decide (a0 ≤ a2))) else (some false)) = some r := h
  clear h
  by_cases c4 : a1 ≤ a0
  · rw [if_pos c4] at H
    have c4b0 : decide (a1 ≤ a0) = true := decide_eq_true c4
    clear c4
    obtain rfl := Option.some.inj H
    go_enter Tryd.func41, Tryd.ntmps41
    go_wp2
    go_ret
    exact ⟨by first | rfl | (simp; done) | (simp [*]; done), by repeat (first | exact Drawn0.refl _ | apply Drawn0.step)⟩
  · rw [if_neg c4] at H
    have c4b0 : decide (a1 ≤ a0) = false := decide_eq_false c4
    clear c4
    obtain rfl := Option.some.inj H
    go_enter Tryd.func41, Tryd.ntmps41
    go_wp2
    go_ret
    exact ⟨by first | rfl | (simp; done) | (simp [*]; done), by repeat (first | exact Drawn0.refl _ | apply Drawn0.step)⟩

-- NOT PRINTED: function 52 (slices_Grow_int64_int64)

end Go.Proofs.YtfcafnnpejngiaaDoor.PX

/- slices.Grow of a nil slice and slices.Concat over lists of lists (conditions: the slices read as the lists; the sum of the lengths is at most a thousand million). -/
namespace Go.Proofs.YtfcafnnpejngiaaDoor.PX
open Go.RowKit Go.Proofs.YtfcafnnpejngiaaDoorW.PrintWords Go.Proofs.YtfcafnnpejngiaaDoorW.PrintLast Go.Proofs.YtfcafnnpejngiaaDoorW.PrintMore
attribute [local go_sem] max2_int min2_int max_two min_two max_three min_three max_four min_four
set_option linter.unusedVariables false
set_option linter.unusedSimpArgs false
theorem slice_zero (w : World) (base : Nat) : (Kd.slice 2 (Kd.int .i64)).M w base (fun _ => False) ([] : List Int) (Value.slice none 0 0).cells.toList := by
  exact ⟨.slice none 0 0, rfl, Kd.R_nil _ _ _ _ _⟩
set_option maxHeartbeats 8000000 in
set_option maxRecDepth 100000 in
theorem Grow.calls (m : Int) (h0 : 0 ≤ m) (h1 : m ≤ 1000000000) (w : World) : Calls Tryd.prog 52 #[.slice none 0 0, .int .i64 m] w fun e w' => ∃ v : Value, e = .returned v ∧ Kd.N (Kd.slice 2 (Kd.int .i64)) 38 w' w.heap.size (fun k => w.heap.size ≤ k) v ([] : List (List Int)) ∧ Below w.heap.size w w' := by
  have hneg : decide (m < 0) = false := decide_eq_false (by omega)
  have hw0 : wrap64 (m - 0) = m := by unfold wrap64; omega
  have hw1 : IntKind.i64.wrap (m - 0) = m := (i64_w _).trans hw0
  have hw2 : IntKind.i64.wrap m = m := by have h_ := hw1; rwa [Int.sub_zero] at h_
  by_cases hz : 0 < m
  · have hzb : decide (0 < m) = true := decide_eq_true hz
    have H0 := Aside0.mk h0
    have H1 := Aside0.mk h1
    clear hz h0 h1 hw0
    have HB := Aside0.mk (Below.refl w.heap.size w)
    go_enter Tryd.func52, Tryd.ntmps52
    go_wp2_with (first | ((with_reducible refine gate_builtin (b := .append) (xs := #[.tmp 20, .tmp 21]) rfl ?_); refine Kd.R_append_zeros (Kd.slice 2 (Kd.int .i64)) (w0 := w) w.heap.size rfl (.tmp 20) (.tmp 21) 37 3 38 (.slice none 0 0) 24 rfl Tryd.underlying37 (k := .i64) Tryd.underlying3 info38 rfl (by decide) (by decide) (.slice none 0 0) ([] : List (List Int)) ([] : List Int) m (fun k => w.heap.size ≤ k) rfl rfl (slice_zero _ _) (fun k hk => Nat.le_trans (by first | exact Nat.le_refl _ | simp) hk) (Kd.R_nil _ _ _ _ _) H0.out (by repeat (first | (with_reducible first | exact HB.out | apply below_alloc | apply pw_below_drewN | apply below_drew1) | exact HB.out)) (by first | exact Nat.le_refl _ | simp) (by have := H1.out; simp; omega) ?_; intro v1 w1 ho hb hg hat; obtain ⟨A1, c1, e1⟩ := Kd.R_slice ho; subst e1; have HO := Aside0.mk ho; have HB1 := Aside0.mk hb; clear ho hb hg hat))
    go_ret
    exact ⟨_, rfl, by have h := Kd.N_take (m := 0) (Kd.R_N HO.out) (Nat.zero_le _); rw [List.take_zero] at h; exact h, HB1.out⟩
  · have hzb : decide (0 < m) = false := decide_eq_false hz
    clear hz h0 h1 hw0
    go_enter Tryd.func52, Tryd.ntmps52
    go_wp2
    go_ret
    exact ⟨_, rfl, Kd.N_nil _ _ _ _ _, Below.refl _ _⟩
mutual
def slices_Concat_int64_int64.l0 : Nat → List (List (List Int)) → Int → List (List (List Int)) → Int → Int → Option ((List (List Int)))
  | 0, _, _, _, _, _ => none
  | k + 1, x0, x3, x9, x10, x11 => if x11 < x10 then (if 0 ≤ x11 then (if x11 < (x9.length : Int) then (if (wrap64 (x3 + ((rd_L3 x9 x11).length : Int))) < 0 then (none) else (slices_Concat_int64_int64.l0 k x0 (wrap64 (x3 + ((rd_L3 x9 x11).length : Int))) x9 x10 (wrap64 (x11 + 1)))) else (none)) else (none)) else (if 0 ≤ x3 then (if x3 ≤ 1000000000 then (slices_Concat_int64_int64.l1 k ([] : List (List Int)) x0 (x0.length : Int) 0) else (none)) else (none))
def slices_Concat_int64_int64.l1 : Nat → List (List Int) → List (List (List Int)) → Int → Int → Option ((List (List Int)))
  | 0, _, _, _, _ => none
  | k + 1, x6, x25, x26, x27 => if x27 < x26 then (if 0 ≤ x27 then (if x27 < (x25.length : Int) then (if x6.length + (rd_L3 x25 x27).length < 5864062014805 then (slices_Concat_int64_int64.l1 k (x6 ++ (rd_L3 x25 x27)) x25 x26 (wrap64 (x27 + 1))) else (none)) else (none)) else (none)) else (some x6)
end
def slices_Concat_int64_int64.f (k : Nat) (l0 : List (List (List Int))) : Option ((List (List Int))) := slices_Concat_int64_int64.l0 k l0 0 l0 (l0.length : Int) 0
theorem slices_Concat_int64_int64.mono_l : ∀ k, (∀ y0 y1 y2 y3 y4, LeO (slices_Concat_int64_int64.l0 k y0 y1 y2 y3 y4) (slices_Concat_int64_int64.l0 (k + 1) y0 y1 y2 y3 y4)) ∧ (∀ y0 y1 y2 y3, LeO (slices_Concat_int64_int64.l1 k y0 y1 y2 y3) (slices_Concat_int64_int64.l1 (k + 1) y0 y1 y2 y3))
  | 0 => ⟨fun _ _ _ _ _ r h => by simp [slices_Concat_int64_int64.l0] at h, fun _ _ _ _ r h => by simp [slices_Concat_int64_int64.l1] at h⟩
  | k + 1 => by
    obtain ⟨ih0, ih1⟩ := slices_Concat_int64_int64.mono_l k
    refine ⟨?_, ?_⟩
    · intro y0 y1 y2 y3 y4
      unfold slices_Concat_int64_int64.l0
      repeat' first
      | (with_reducible exact ih0 _ _ _ _ _)
      | (with_reducible exact ih1 _ _ _ _)
      | (with_reducible exact LeO.refl _)
      | (with_reducible exact LeO.none _)
      | (with_reducible refine LeO.ite ?_ ?_)
      | (with_reducible refine LeO.bind ?_ (fun _ => ?_))
      | exact ih0 _ _ _ _ _
      | exact ih1 _ _ _ _
      | exact LeO.none _
      | refine LeO.ite ?_ ?_
      | refine LeO.bind ?_ (fun _ => ?_)
    · intro y0 y1 y2 y3
      unfold slices_Concat_int64_int64.l1
      repeat' first
      | (with_reducible exact ih0 _ _ _ _ _)
      | (with_reducible exact ih1 _ _ _ _)
      | (with_reducible exact LeO.refl _)
      | (with_reducible exact LeO.none _)
      | (with_reducible refine LeO.ite ?_ ?_)
      | (with_reducible refine LeO.bind ?_ (fun _ => ?_))
      | exact ih0 _ _ _ _ _
      | exact ih1 _ _ _ _
      | exact LeO.none _
      | refine LeO.ite ?_ ?_
      | refine LeO.bind ?_ (fun _ => ?_)
theorem slices_Concat_int64_int64.mono : ∀ a0 k, LeO (slices_Concat_int64_int64.f k a0) (slices_Concat_int64_int64.f (k + 1) a0) := by
  intro a0 k
  obtain ⟨ih0, ih1⟩ := slices_Concat_int64_int64.mono_l k
  unfold slices_Concat_int64_int64.f
  repeat' first
      | (with_reducible exact ih0 _ _ _ _ _)
      | (with_reducible exact ih1 _ _ _ _)
      | (with_reducible exact LeO.refl _)
      | (with_reducible exact LeO.none _)
      | (with_reducible refine LeO.ite ?_ ?_)
      | (with_reducible refine LeO.bind ?_ (fun _ => ?_))
      | exact ih0 _ _ _ _ _
      | exact ih1 _ _ _ _
      | exact LeO.none _
      | refine LeO.ite ?_ ?_
      | refine LeO.bind ?_ (fun _ => ?_)
set_option maxHeartbeats 8000000 in
set_option maxRecDepth 100000 in
theorem slices_Concat_int64_int64.calls (k : Nat) (P0_ : Nat → Prop) (A0 : Option Addr) (c0 : Nat) (l0 : List (List (List Int))) (r : List (List Int)) (w : World) (hs0 : Kd.V (Kd.slice 38 (Kd.slice 2 (Kd.int .i64))) 37 w w.heap.size (fun k_ => P0_ k_) (.slice A0 l0.length c0) l0) (h : slices_Concat_int64_int64.f k l0 = some r) :
    Calls Tryd.prog 42 #[.slice A0 l0.length c0] w fun e w' => ∃ v0_ : Value, e = .returned (v0_) ∧ Kd.N (Kd.slice 2 (Kd.int .i64)) 38 w' w.heap.size (fun k_ => (P0_ k_ ∨ w.heap.size ≤ k_)) v0_ r ∧ Below w.heap.size w w' := by
  have HO0 := Aside0.mk (show Kd.V (Kd.slice 38 (Kd.slice 2 (Kd.int .i64))) 37 w w.heap.size (fun k_ => (P0_ k_ ∨ w.heap.size ≤ k_)) (.slice A0 l0.length c0) l0 from Kd.V_mono hs0 (fun k_ hk => .inl hk))
  have HB := Aside0.mk (Below.refl w.heap.size w)
  have H : (slices_Concat_int64_int64.l0 k l0 0 l0 (l0.length : Int) 0) = some r := h
  clear h
  have H' := Aside0.mk H
  clear H
  go_enter Tryd.func42, Tryd.ntmps42
  go_wp2
  go_loopg [3, 11] k (fun kq v3 v11 w' => ∃ (x3_1 : Int) (x11_1 : Int), v3 = .int .i64 x3_1 ∧ v11 = .int .i64 x11_1 ∧ Aside0 (slices_Concat_int64_int64.l0 kq l0 x3_1 l0 (l0.length : Int) x11_1 = some r) ∧ Aside0 (kq ≤ k) ∧ Aside0 (Kd.V (Kd.slice 38 (Kd.slice 2 (Kd.int .i64))) 37 w' w.heap.size (fun k_ => (P0_ k_ ∨ w.heap.size ≤ k_)) (.slice A0 l0.length c0) l0) ∧ Aside0 (Kd.V (Kd.slice 38 (Kd.slice 2 (Kd.int .i64))) 37 w' w.heap.size (fun k_ => (P0_ k_ ∨ w.heap.size ≤ k_)) (.slice A0 l0.length c0) l0) ∧ Aside0 (Below w.heap.size w w'))
  case atStart => exact ⟨(0), (0), (by first | rfl | (simp; done) | (simp [*]; done)), (by first | rfl | (simp; done) | (simp [*]; done)), H', ⟨Nat.le_refl _⟩, ⟨by (with_reducible repeat (first | apply Kd.V_alloc | apply Kd.V_drewN | apply Kd.V_drew)); exact HO0.out⟩, ⟨by (with_reducible repeat (first | apply Kd.V_alloc | apply Kd.V_drewN | apply Kd.V_drew)); exact HO0.out⟩, ⟨by repeat (first | (with_reducible first | exact HB.out | apply below_alloc | apply pw_below_drewN | apply below_drew1) | exact HB.out)⟩⟩
  case round =>
    clear H'
    obtain ⟨x3_1, x11_1, rfl, rfl, HA, HK1, HO_0, HO_9, HB⟩ := hrel
    cases gk with
    | zero => exact absurd HA.out (by simp [slices_Concat_int64_int64.l0])
    | succ k1 =>
      have H := HA.out
      clear HA
      simp only [slices_Concat_int64_int64.l0] at H
      by_cases c2 : x11_1 < (l0.length : Int)
      · rw [if_pos c2] at H
        have c2b0 : decide (x11_1 < (l0.length : Int)) = true := decide_eq_true c2
        clear c2
        by_cases c3 : 0 ≤ x11_1
        · rw [if_pos c3] at H
          have c3b0 : decide (0 ≤ x11_1) = true := decide_eq_true c3
          clear c3
          by_cases c4 : x11_1 < (l0.length : Int)
          · rw [if_pos c4] at H
            have c4b0 : decide (x11_1 < (l0.length : Int)) = true := decide_eq_true c4
            clear c4
            by_cases c5 : (wrap64 (x3_1 + ((rd_L3 l0 x11_1).length : Int))) < 0
            · rw [if_pos c5] at H
              exact absurd H (by simp)
            · rw [if_neg c5] at H
              have c5b0 : decide ((wrap64 (x3_1 + ((rd_L3 l0 x11_1).length : Int))) < 0) = false := decide_eq_false c5
              clear c5
              have H' := Aside0.mk H
              clear H
              have p180 : 0 ≤ (x11_1 : Int) := of_decide_eq_true (by first | (with_reducible assumption) | assumption)
              have q180 : x11_1 < (l0.length : Int) := of_decide_eq_true (by first | (with_reducible assumption) | assumption)
              obtain ⟨ad180, A180_0, c180_0, e180, hx180_0, hl180_0, hi180_0⟩ := at_L3 (Kd.V_reads' HO_9.out).2.2 x11_1 p180 q180
              cases e180
              obtain ⟨ce180, hce180, hMe180, hcc180⟩ := Kd.V_get HO_9.out [] x11_1 p180 (by first | exact q180 | exact of_decide_eq_true (by first | (with_reducible assumption) | assumption) | (have e_ := (Kd.V_reads' HO_9.out).1; omega))
              obtain ⟨ua180_0, uc180_0, rfl, ul180_0, ge180_0⟩ := Kd.FK_slice_open hMe180
              have hv180_0 := hcc180 0 _ rfl
              rw [Nat.add_zero, show ((Kd.slice 38 (Kd.slice 2 (Kd.int .i64)))).sz = 1 from rfl, Nat.mul_one] at hv180_0
              replace hv180_0 := Option.some.inj (hv180_0.symm.trans hx180_0)
              injection hv180_0 with hva_ hvn_ hvc_
              rw [hva_] at ge180_0
              rw [hvc_] at ul180_0
              have HL180_0 := Aside0.mk (show Kd.V (Kd.slice 2 (Kd.int .i64)) 38 _ w.heap.size _ _ (rd_L3 l0 x11_1) from Kd.V_mk ul180_0 ge180_0)
              clear hva_ hvn_ hvc_ ge180_0 ul180_0
              clear hcc180 hce180
              have HR180_0 := Aside0.mk hi180_0
              have HC180_0 := Aside0.mk hl180_0
              clear hi180_0 hl180_0
              replace p180 := eq_true p180
              replace q180 := eq_true q180
              go_wp2
              go_roundg k1
              case measure => have := HK1.out; omega
              case rel => exact ⟨(wrap64 (x3_1 + ((rd_L3 l0 x11_1).length : Int))), (wrap64 (x11_1 + 1)), (by first | rfl | (simp; done) | (simp [*]; done)), (by first | rfl | (simp; done) | (simp [*]; done)), H', ⟨by have := HK1.out; omega⟩, ⟨by (with_reducible repeat (first | apply Kd.V_alloc | apply Kd.V_drewN | apply Kd.V_drew)); exact HO_0.out⟩, ⟨by (with_reducible repeat (first | apply Kd.V_alloc | apply Kd.V_drewN | apply Kd.V_drew)); exact HO_9.out⟩, ⟨by repeat (first | (with_reducible first | exact HB.out | apply below_alloc | apply pw_below_drewN | apply below_drew1) | exact HB.out)⟩⟩
          · rw [if_neg c4] at H
            exact absurd H (by simp)
        · rw [if_neg c3] at H
          exact absurd H (by simp)
      · rw [if_neg c2] at H
        have c2b0 : decide (x11_1 < (l0.length : Int)) = false := decide_eq_false c2
        clear c2
        by_cases q1 : 0 ≤ x3_1
        · rw [if_pos q1] at H
          by_cases q2 : x3_1 ≤ 1000000000
          · rw [if_pos q2] at H
            have Q1 := Aside0.mk q1
            have Q2 := Aside0.mk q2
            clear q1 q2
            have H' := Aside0.mk H
            clear H
            go_wp2_with (first | ((with_reducible refine gate_dst (N := 24) rfl ?_); refine goesL_ (some 24) rfl rfl Tryd.func52 (by kernel_rfl) rfl #[.slice none 0 0, .int .i64 x3_1] rfl (by (try simp only [List.map_toArray, List.map_cons, List.map_nil]); first | done | rfl) ?_; (with_reducible refine (Grow.calls x3_1 Q1.out Q2.out _).mono ?_); rintro e w7 ⟨v7, rfl, ho, hb⟩; refine ⟨_, rfl, ?_⟩; have HO7 := Aside0.mk (Kd.N_mono (Kd.N_lower ho HB.out.size) (fun k hk => .inr (Nat.le_trans HB.out.size hk)) : Kd.N (Kd.slice 2 (Kd.int .i64)) 38 w7 w.heap.size (fun k_ => (P0_ k_ ∨ w.heap.size ≤ k_)) v7 ([] : List (List Int))); have n0_ := Aside0.mk (Kd.V_elder' HO_0.out (Kd.N_base ho) hb); have n1_ := Aside0.mk (below_then HB.out HB.out.size hb); clear HO_0 HB hb ho; have HO_0 := n0_; have HB := n1_; clear n0_ n1_))
            go_loopg [6, 27] k1 (fun kq v6 v27 w' => ∃ (x6_2 : List (List Int)) (x27_2 : Int), v27 = .int .i64 x27_2 ∧ Aside0 (slices_Concat_int64_int64.l1 kq x6_2 l0 (l0.length : Int) x27_2 = some r) ∧ Aside0 (kq ≤ k1) ∧ Aside0 (Kd.N (Kd.slice 2 (Kd.int .i64)) 38 w' w.heap.size (fun k_ => (P0_ k_ ∨ w.heap.size ≤ k_)) v6 x6_2) ∧ Aside0 (Kd.V (Kd.slice 38 (Kd.slice 2 (Kd.int .i64))) 37 w' w.heap.size (fun k_ => (P0_ k_ ∨ w.heap.size ≤ k_) ∧ some k_ ≠ (v6 : Value).ownBlock) (.slice A0 l0.length c0) l0) ∧ Aside0 (Below w.heap.size w w'))
            case atStart => exact ⟨(([] : List (List Int))), (0), (by first | rfl | (simp; done) | (simp [*]; done)), H', ⟨Nat.le_refl _⟩, ⟨HO7.out⟩, ⟨by (with_reducible repeat (first | apply Kd.V_alloc | apply Kd.V_drewN | apply Kd.V_drew)); exact HO_0.out⟩, ⟨by repeat (first | (with_reducible first | exact HB.out | apply below_alloc | apply pw_below_drewN | apply below_drew1) | exact HB.out)⟩⟩
            case round =>
              clear H'
              try clear c1
              try clear p1
              try clear q1
              try clear hx1
              try clear c2
              try clear c2b0
              try clear p2
              try clear c3
              try clear c3b0
              try clear c4
              try clear c4b0
              try clear c5
              try clear c5b0
              try clear hx180_0
              try clear p180
              try clear q180
              obtain ⟨x6_2, x27_2, rfl, HA, HK2, HO_6, HO_25, HB⟩ := hrel
              cases gk with
              | zero => exact absurd HA.out (by simp [slices_Concat_int64_int64.l1])
              | succ k2 =>
                have H := HA.out
                clear HA
                simp only [slices_Concat_int64_int64.l1] at H
                by_cases c6 : x27_2 < (l0.length : Int)
                · rw [if_pos c6] at H
                  have c6b0 : decide (x27_2 < (l0.length : Int)) = true := decide_eq_true c6
                  clear c6
                  by_cases c7 : 0 ≤ x27_2
                  · rw [if_pos c7] at H
                    have c7b0 : decide (0 ≤ x27_2) = true := decide_eq_true c7
                    clear c7
                    by_cases c8 : x27_2 < (l0.length : Int)
                    · rw [if_pos c8] at H
                      have c8b0 : decide (x27_2 < (l0.length : Int)) = true := decide_eq_true c8
                      clear c8
                      by_cases c9 : x6_2.length + (rd_L3 l0 x27_2).length < 5864062014805
                      · rw [if_pos c9] at H
                        have LMc9 := Aside0.mk c9
                        clear c9
                        obtain ⟨y182, hy182⟩ : ∃ y_ : List (List Int), y_ = (x6_2 ++ (rd_L3 l0 x27_2)) := ⟨_, rfl⟩
                        replace H : (slices_Concat_int64_int64.l1 k2 y182 l0 (l0.length : Int) (wrap64 (x27_2 + 1))) = some r := by first | (rw [hy182]; with_reducible exact H) | (have H2_ := (Option.bind_some _ _).symm.trans H; rw [hy182]; with_reducible exact H2_) | (have H2_ := (Option.bind_some _ _).symm.trans H; with_reducible exact H2_) | with_reducible exact H | (rw [hy182]; exact H) | exact H
                        have Ny182 := Aside0.mk hy182
                        clear hy182
                        have H' := Aside0.mk H
                        clear H
                        have p181 : 0 ≤ (x27_2 : Int) := of_decide_eq_true (by first | (with_reducible assumption) | assumption)
                        have q181 : x27_2 < (l0.length : Int) := of_decide_eq_true (by first | (with_reducible assumption) | assumption)
                        obtain ⟨ad181, A181_0, c181_0, e181, hx181_0, hl181_0, hi181_0⟩ := at_L3 (Kd.V_reads' HO_25.out).2.2 x27_2 p181 q181
                        cases e181
                        obtain ⟨ce181, hce181, hMe181, hcc181⟩ := Kd.V_get HO_25.out [] x27_2 p181 (by first | exact q181 | exact of_decide_eq_true (by first | (with_reducible assumption) | assumption) | (have e_ := (Kd.V_reads' HO_25.out).1; omega))
                        obtain ⟨ua181_0, uc181_0, rfl, ul181_0, ge181_0⟩ := Kd.FK_slice_open hMe181
                        have hv181_0 := hcc181 0 _ rfl
                        rw [Nat.add_zero, show ((Kd.slice 38 (Kd.slice 2 (Kd.int .i64)))).sz = 1 from rfl, Nat.mul_one] at hv181_0
                        replace hv181_0 := Option.some.inj (hv181_0.symm.trans hx181_0)
                        injection hv181_0 with hva_ hvn_ hvc_
                        rw [hva_] at ge181_0
                        rw [hvc_] at ul181_0
                        have HL181_0 := Aside0.mk (show Kd.V (Kd.slice 2 (Kd.int .i64)) 38 _ w.heap.size _ _ (rd_L3 l0 x27_2) from Kd.V_mk ul181_0 ge181_0)
                        clear hva_ hvn_ hvc_ ge181_0 ul181_0
                        clear hcc181 hce181
                        have HR181_0 := Aside0.mk hi181_0
                        have HC181_0 := Aside0.mk hl181_0
                        clear hi181_0 hl181_0
                        replace p181 := eq_true p181
                        replace q181 := eq_true q181
                        go_wp2_with (first | ((with_reducible refine gate_builtin (b := .append) (xs := #[.tmp 31, .tmp 32]) rfl ?_); at_builtin; refine Kd.N_append_rows (Kd.slice 2 (Kd.int .i64)) (w0 := w) w.heap.size rfl (.tmp 31) (.tmp 32) 37 38 (.slice none 0 0) 24 rfl Tryd.underlying37 info38 rfl (by decide) (by omega) u6 x6_2 (rd_L3 l0 x27_2) _ _ _ (fun k_ => (P0_ k_ ∨ w.heap.size ≤ k_)) (fun k_ => ((fun k_ => (P0_ k_ ∨ w.heap.size ≤ k_))) k_ ∧ some k_ ≠ (u6 : Value).ownBlock) rfl rfl ?aO ?aR (fun _ hk => hk) ?aF ?aB ?aS ?aL ?_; (case aR => exact (by skip; exact Kd.V_F (Kd.V_mono (ok' := (fun k_ => ((fun k_ => (P0_ k_ ∨ w.heap.size ≤ k_))) k_ ∧ some k_ ≠ (u6 : Value).ownBlock)) (HL181_0.out) (fun k_ hk => ⟨hk.1, hk.2⟩)))); (case aB => exact (by repeat (first | (with_reducible first | exact HB.out | apply below_alloc | apply pw_below_drewN | apply below_drew1) | exact HB.out))); (case aF => exact (fun k_ hk => (.inr (Nat.le_trans (below_size (by repeat (first | (with_reducible first | exact HB.out | apply below_alloc | apply pw_below_drewN | apply below_drew1) | exact HB.out))) hk)))); (case aO => exact (by (with_reducible repeat (first | apply Kd.N_alloc | apply Kd.N_drewN | apply Kd.N_drew)); exact HO_6.out)); (case aS => exact (below_size (by repeat (first | (with_reducible first | exact HB.out | apply below_alloc | apply pw_below_drewN | apply below_drew1) | exact HB.out)))); (case aL => have := LMc9.out; omega); intro v183 w10 ho hb hg hat; rw [← Ny182.out] at ho; have n0_ := Aside0.mk (Kd.V_afterv (ok := (fun k_ => (P0_ k_ ∨ w.heap.size ≤ k_))) (by (with_reducible repeat (first | apply Kd.V_alloc | apply Kd.V_drewN | apply Kd.V_drew)); exact HO_25.out) hg hat); have n1_ := Aside0.mk (Kd.V_afterv (ok := (fun k_ => (P0_ k_ ∨ w.heap.size ≤ k_))) (by (with_reducible repeat (first | apply Kd.V_alloc | apply Kd.V_drewN | apply Kd.V_drew)); exact HL181_0.out) hg hat); have n2_ := Aside0.mk (hb); have n3_ := Aside0.mk (ho); clear HO_25; clear HL181_0; clear HB; clear HO_6; have HO_25 := n0_; have HL181_0 := n1_; have HB := n2_; have HO184 := n3_; clear n0_ n1_ n2_ n3_; clear ho hb hg hat))
                        go_roundg k2
                        case measure => have := HK1.out; have := HK2.out; omega
                        case rel => exact ⟨(y182), (wrap64 (x27_2 + 1)), (by first | rfl | (simp; done) | (simp [*]; done)), H', ⟨by have := HK1.out; have := HK2.out; omega⟩, ⟨by (with_reducible repeat (first | apply Kd.N_alloc | apply Kd.N_drewN | apply Kd.N_drew)); exact HO184.out⟩, ⟨by (with_reducible repeat (first | apply Kd.V_alloc | apply Kd.V_drewN | apply Kd.V_drew)); exact HO_25.out⟩, ⟨by repeat (first | (with_reducible first | exact HB.out | apply below_alloc | apply pw_below_drewN | apply below_drew1) | exact HB.out)⟩⟩
                      · rw [if_neg c9] at H
                        exact absurd H (by simp)
                    · rw [if_neg c8] at H
                      exact absurd H (by simp)
                  · rw [if_neg c7] at H
                    exact absurd H (by simp)
                · rw [if_neg c6] at H
                  have c6b0 : decide (x27_2 < (l0.length : Int)) = false := decide_eq_false c6
                  clear c6
                  obtain rfl := Option.some.inj H
                  go_wp2
                  go_ret
                  exact ⟨_, by first | rfl | (simp [errW_none, errW_some] <;> rfl) | (simp [*, errW_none, errW_some] <;> rfl), by (with_reducible repeat (first | apply Kd.N_alloc | apply Kd.N_drewN | apply Kd.N_drew)); exact HO_6.out, by repeat (first | (with_reducible first | exact HB.out | apply below_alloc | apply pw_below_drewN | apply below_drew1) | exact HB.out)⟩
          · rw [if_neg q2] at H
            exact absurd H (by simp)
        · rw [if_neg q1] at H
          exact absurd H (by simp)

end Go.Proofs.YtfcafnnpejngiaaDoor.PX
