/- Part 7 of the texts under the row of FnExactAfterOpening (no condition). -/
import Derived.Test.YtkbjoiebaphdoaaPk6FnExactAfterOpening
/- The walk of the law of AfterOpening (conditions: the slices read as the lists; each call answers). -/
namespace Go.Proofs.Ytkbjoiebaphdoaa.PX
open Go.RowKit Go.Proofs.YtkbjoiebaphdoaaW.PrintWords Go.Proofs.YtkbjoiebaphdoaaW.PrintLast Go.Proofs.YtkbjoiebaphdoaaW.PrintMore
attribute [local go_sem] max2_int min2_int max_two min_two max_three min_three max_four min_four
set_option linter.unusedVariables false
set_option linter.unusedSimpArgs false
/-! ### laws_FnExactAfterOpening: function 7 -/
mutual
def laws_FnExactAfterOpening.j0 : Nat → Bool → Int → Int → Int → Bool → List Int → List Int → List Int → List Int → List Int → List Int → List Int → List Int → Option (Bool)
 | 0, _, _, _, _, _, _, _, _, _, _, _, _, _ => none
 | k + 1, x1, x2, x9, x12, x48, x290000, x290001, x305000, x305001, x312000, x312001, x320000, x320001 => if x48 = true then (some false) else ((laws_toEnding.f k x290000 x290001).bind fun bt321 => ((laws_eqEnding.f k x312000 x312001 bt321.1 bt321.2).bind fun t327 => (if t327 = true then ((laws_markEnding.f k x312000 x312001 1).bind fun bt328 => (if bt328.1 < 0 then (laws_FnExactAfterOpening.j1 k x1 x2 x9 true x290000 x290001 x305000 x305001 x320000 x320001) else ((laws_eqEnding.f k x320000 x320001 x305000 x305001).bind fun t331 => (if t331 = true then (laws_FnExactAfterOpening.j1 k x1 x2 x9 (x12 != x9) x290000 x290001 x305000 x305001 x320000 x320001) else (laws_FnExactAfterOpening.j1 k x1 x2 x9 true x290000 x290001 x305000 x305001 x320000 x320001))))) else (some false))))
def laws_FnExactAfterOpening.j1 : Nat → Bool → Int → Int → Bool → List Int → List Int → List Int → List Int → List Int → List Int → Option (Bool)
 | 0, _, _, _, _, _, _, _, _, _, _ => none
 | k + 1, x1, x2, x9, x69, x290000, x290001, x305000, x305001, x320000, x320001 => if x69 = true then (some false) else ((laws_markEnding.f k x320000 x320001 1).bind fun bt332 => ((laws_heldEnding.f k bt332.2.1 bt332.2.2 1).bind fun t335 => (if t335 < 0 then (some false) else (if t335 = bt332.1 then ((laws_toEnding.f k x290000 x290001).bind fun bt336 => ((impl_AfterOpening.f k bt336.1 bt336.2 x1 x2).bind fun bt342 => ((laws_eqEnding.f k bt342.1 bt342.2.1 x305000 x305001).bind fun t350 => (if t350 = true then (laws_FnExactAfterOpening.j2 k bt332.1 (bt342.2.2 != x9) bt332.2.1 bt332.2.2) else (laws_FnExactAfterOpening.j2 k bt332.1 true bt332.2.1 bt332.2.2))))) else (some false)))))
def laws_FnExactAfterOpening.j2 : Nat → Int → Bool → List Int → List Int → Option (Bool)
 | 0, _, _, _, _ => none
 | k + 1, x14, x97, x320000, x320001 => if x97 = true then (some false) else ((laws_heldEnding.f k x320000 x320001 1).bind fun t351 => (if t351 < 0 then (some false) else (if t351 = x14 then (some true) else (some false))))
end
def laws_FnExactAfterOpening.f (k : Nat) (l0_0 : List Int) (l0_1 : List Int) (a1 : Bool) (a2 : Int) : Option (Bool) := (laws_szEnding.f l0_0 l0_1 1048576).bind fun t290 => (if t290 < 0 then (some true) else ((laws_toEnding.f k l0_0 l0_1).bind fun bt291 => ((spec_AfterOpening.f k bt291.1 bt291.2 a1 a2).bind fun bt297 => ((laws_toEnding.f k l0_0 l0_1).bind fun bt305 => ((impl_AfterOpening.f k bt305.1 bt305.2 a1 a2).bind fun bt312 => ((laws_eqEnding.f k bt312.1 bt312.2.1 bt297.1 bt297.2.1).bind fun t320 => (if t320 = true then (laws_FnExactAfterOpening.j0 k a1 a2 bt297.2.2 bt312.2.2 (bt312.2.2 != bt297.2.2) l0_0 l0_1 bt297.1 bt297.2.1 bt305.1 bt305.2 bt312.1 bt312.2.1) else (laws_FnExactAfterOpening.j0 k a1 a2 bt297.2.2 bt312.2.2 true l0_0 l0_1 bt297.1 bt297.2.1 bt305.1 bt305.2 bt312.1 bt312.2.1))))))))
theorem laws_FnExactAfterOpening.mono_l : ∀ k, (∀ y0 y1 y2 y3 y4 y5 y6 y7 y8 y9 y10 y11 y12, LeO (laws_FnExactAfterOpening.j0 k y0 y1 y2 y3 y4 y5 y6 y7 y8 y9 y10 y11 y12) (laws_FnExactAfterOpening.j0 (k + 1) y0 y1 y2 y3 y4 y5 y6 y7 y8 y9 y10 y11 y12)) ∧ (∀ y0 y1 y2 y3 y4 y5 y6 y7 y8 y9, LeO (laws_FnExactAfterOpening.j1 k y0 y1 y2 y3 y4 y5 y6 y7 y8 y9) (laws_FnExactAfterOpening.j1 (k + 1) y0 y1 y2 y3 y4 y5 y6 y7 y8 y9)) ∧ (∀ y0 y1 y2 y3, LeO (laws_FnExactAfterOpening.j2 k y0 y1 y2 y3) (laws_FnExactAfterOpening.j2 (k + 1) y0 y1 y2 y3))
 | 0 => ⟨fun _ _ _ _ _ _ _ _ _ _ _ _ _ r h => by simp [laws_FnExactAfterOpening.j0] at h, fun _ _ _ _ _ _ _ _ _ _ r h => by simp [laws_FnExactAfterOpening.j1] at h, fun _ _ _ _ r h => by simp [laws_FnExactAfterOpening.j2] at h⟩
 | k + 1 => by
  obtain ⟨ih0, ih1, ih2⟩ := laws_FnExactAfterOpening.mono_l k
  refine ⟨?_, ?_, ?_⟩
  ·intro y0 y1 y2 y3 y4 y5 y6 y7 y8 y9 y10 y11 y12
   unfold laws_FnExactAfterOpening.j0
   repeat' first
   | (with_reducible exact ih0 _ _ _ _ _ _ _ _ _ _ _ _ _)
   | (with_reducible exact ih1 _ _ _ _ _ _ _ _ _ _)
   | (with_reducible exact ih2 _ _ _ _)
   | (with_reducible exact impl_AfterOpening.mono _ _ _ _ _)
   | (with_reducible exact laws_eqEnding.mono _ _ _ _ _)
   | (with_reducible exact laws_heldEnding.mono _ _ _ _)
   | (with_reducible exact laws_markEnding.mono _ _ _ _)
   | (with_reducible exact laws_toEnding.mono _ _ _)
   | (with_reducible exact spec_AfterOpening.mono _ _ _ _ _)
   | (with_reducible exact LeO.refl _)
   | (with_reducible exact LeO.none _)
   | (with_reducible refine LeO.ite ?_ ?_)
   | (with_reducible refine LeO.bind ?_ (fun _ => ?_))
   | exact ih0 _ _ _ _ _ _ _ _ _ _ _ _ _
   | exact ih1 _ _ _ _ _ _ _ _ _ _
   | exact ih2 _ _ _ _
   | exact impl_AfterOpening.mono _ _ _ _ _
   | exact laws_eqEnding.mono _ _ _ _ _
   | exact laws_heldEnding.mono _ _ _ _
   | exact laws_markEnding.mono _ _ _ _
   | exact laws_toEnding.mono _ _ _
   | exact spec_AfterOpening.mono _ _ _ _ _
   | exact LeO.none _
   | refine LeO.ite ?_ ?_
   | refine LeO.bind ?_ (fun _ => ?_)
  ·intro y0 y1 y2 y3 y4 y5 y6 y7 y8 y9
   unfold laws_FnExactAfterOpening.j1
   repeat' first
   | (with_reducible exact ih0 _ _ _ _ _ _ _ _ _ _ _ _ _)
   | (with_reducible exact ih1 _ _ _ _ _ _ _ _ _ _)
   | (with_reducible exact ih2 _ _ _ _)
   | (with_reducible exact impl_AfterOpening.mono _ _ _ _ _)
   | (with_reducible exact laws_eqEnding.mono _ _ _ _ _)
   | (with_reducible exact laws_heldEnding.mono _ _ _ _)
   | (with_reducible exact laws_markEnding.mono _ _ _ _)
   | (with_reducible exact laws_toEnding.mono _ _ _)
   | (with_reducible exact spec_AfterOpening.mono _ _ _ _ _)
   | (with_reducible exact LeO.refl _)
   | (with_reducible exact LeO.none _)
   | (with_reducible refine LeO.ite ?_ ?_)
   | (with_reducible refine LeO.bind ?_ (fun _ => ?_))
   | exact ih0 _ _ _ _ _ _ _ _ _ _ _ _ _
   | exact ih1 _ _ _ _ _ _ _ _ _ _
   | exact ih2 _ _ _ _
   | exact impl_AfterOpening.mono _ _ _ _ _
   | exact laws_eqEnding.mono _ _ _ _ _
   | exact laws_heldEnding.mono _ _ _ _
   | exact laws_markEnding.mono _ _ _ _
   | exact laws_toEnding.mono _ _ _
   | exact spec_AfterOpening.mono _ _ _ _ _
   | exact LeO.none _
   | refine LeO.ite ?_ ?_
   | refine LeO.bind ?_ (fun _ => ?_)
  ·intro y0 y1 y2 y3
   unfold laws_FnExactAfterOpening.j2
   repeat' first
   | (with_reducible exact ih0 _ _ _ _ _ _ _ _ _ _ _ _ _)
   | (with_reducible exact ih1 _ _ _ _ _ _ _ _ _ _)
   | (with_reducible exact ih2 _ _ _ _)
   | (with_reducible exact impl_AfterOpening.mono _ _ _ _ _)
   | (with_reducible exact laws_eqEnding.mono _ _ _ _ _)
   | (with_reducible exact laws_heldEnding.mono _ _ _ _)
   | (with_reducible exact laws_markEnding.mono _ _ _ _)
   | (with_reducible exact laws_toEnding.mono _ _ _)
   | (with_reducible exact spec_AfterOpening.mono _ _ _ _ _)
   | (with_reducible exact LeO.refl _)
   | (with_reducible exact LeO.none _)
   | (with_reducible refine LeO.ite ?_ ?_)
   | (with_reducible refine LeO.bind ?_ (fun _ => ?_))
   | exact ih0 _ _ _ _ _ _ _ _ _ _ _ _ _
   | exact ih1 _ _ _ _ _ _ _ _ _ _
   | exact ih2 _ _ _ _
   | exact impl_AfterOpening.mono _ _ _ _ _
   | exact laws_eqEnding.mono _ _ _ _ _
   | exact laws_heldEnding.mono _ _ _ _
   | exact laws_markEnding.mono _ _ _ _
   | exact laws_toEnding.mono _ _ _
   | exact spec_AfterOpening.mono _ _ _ _ _
   | exact LeO.none _
   | refine LeO.ite ?_ ?_
   | refine LeO.bind ?_ (fun _ => ?_)
theorem laws_FnExactAfterOpening.mono : ∀ a0 a1 a2 a3 k, LeO (laws_FnExactAfterOpening.f k a0 a1 a2 a3) (laws_FnExactAfterOpening.f (k + 1) a0 a1 a2 a3) := by
 intro a0 a1 a2 a3 k
 obtain ⟨ih0, ih1, ih2⟩ := laws_FnExactAfterOpening.mono_l k
 unfold laws_FnExactAfterOpening.f
 repeat' first
   | (with_reducible exact ih0 _ _ _ _ _ _ _ _ _ _ _ _ _)
   | (with_reducible exact ih1 _ _ _ _ _ _ _ _ _ _)
   | (with_reducible exact ih2 _ _ _ _)
   | (with_reducible exact impl_AfterOpening.mono _ _ _ _ _)
   | (with_reducible exact laws_eqEnding.mono _ _ _ _ _)
   | (with_reducible exact laws_heldEnding.mono _ _ _ _)
   | (with_reducible exact laws_markEnding.mono _ _ _ _)
   | (with_reducible exact laws_toEnding.mono _ _ _)
   | (with_reducible exact spec_AfterOpening.mono _ _ _ _ _)
   | (with_reducible exact LeO.refl _)
   | (with_reducible exact LeO.none _)
   | (with_reducible refine LeO.ite ?_ ?_)
   | (with_reducible refine LeO.bind ?_ (fun _ => ?_))
   | exact ih0 _ _ _ _ _ _ _ _ _ _ _ _ _
   | exact ih1 _ _ _ _ _ _ _ _ _ _
   | exact ih2 _ _ _ _
   | exact impl_AfterOpening.mono _ _ _ _ _
   | exact laws_eqEnding.mono _ _ _ _ _
   | exact laws_heldEnding.mono _ _ _ _
   | exact laws_markEnding.mono _ _ _ _
   | exact laws_toEnding.mono _ _ _
   | exact spec_AfterOpening.mono _ _ _ _ _
   | exact LeO.none _
   | refine LeO.ite ?_ ?_
   | refine LeO.bind ?_ (fun _ => ?_)
set_option maxHeartbeats 8000000 in
set_option maxRecDepth 100000 in
theorem laws_FnExactAfterOpening.calls (k : Nat) (A0_0 : Option Addr) (c0_0 : Nat) (l0_0 : List Int) (A0_1 : Option Addr) (c0_1 : Nat) (l0_1 : List Int) (a1 : Bool) (a2 : Int) (r : Bool) (w : World) (hr0_0 : Kd.C (Kd.int .i64) w A0_0 l0_0.length l0_0) (hc0_0 : l0_0.length ≤ c0_0) (hr0_1 : Kd.C (Kd.int .i64) w A0_1 l0_1.length l0_1) (hc0_1 : l0_1.length ≤ c0_1) (h : laws_FnExactAfterOpening.f k l0_0 l0_1 a1 a2 = some r) :
  Calls Try.prog 7 #[.agg #[.slice A0_0 l0_0.length c0_0, .slice A0_1 l0_1.length c0_1], .bool a1, .int .i64 a2] w fun e w' => e = .returned (.bool r) ∧ Below w.heap.size w w' := by
 have hu24 := Try.underlying24
 have hu27 := Try.underlying27
 have HR0_0 := Aside0.mk hr0_0
 have HC0_0 := Aside0.mk hc0_0
 clear hr0_0 hc0_0
 have HR0_1 := Aside0.mk hr0_1
 have HC0_1 := Aside0.mk hc0_1
 clear hr0_1 hc0_1
 have HB := Aside0.mk (Below.refl w.heap.size w)
 have H : ((laws_szEnding.f l0_0 l0_1 1048576).bind fun t290 => (if t290 < 0 then (some true) else ((laws_toEnding.f k l0_0 l0_1).bind fun bt291 => ((spec_AfterOpening.f k bt291.1 bt291.2 a1 a2).bind fun bt297 => ((laws_toEnding.f k l0_0 l0_1).bind fun bt305 => ((impl_AfterOpening.f k bt305.1 bt305.2 a1 a2).bind fun bt312 => ((laws_eqEnding.f k bt312.1 bt312.2.1 bt297.1 bt297.2.1).bind fun t320 => (if t320 = true then (laws_FnExactAfterOpening.j0 k a1 a2 bt297.2.2 bt312.2.2 (bt312.2.2 != bt297.2.2) l0_0 l0_1 bt297.1 bt297.2.1 bt305.1 bt305.2 bt312.1 bt312.2.1) else (laws_FnExactAfterOpening.j0 k a1 a2 bt297.2.2 bt312.2.2 true l0_0 l0_1 bt297.1 bt297.2.1 bt305.1 bt305.2 bt312.1 bt312.2.1))))))))) = some r := h
 clear h
 replace H := Option.bind_eq_some_iff.mp H
 obtain ⟨t290, A40, H⟩ := H
 replace H : (if t290 < 0 then (some true) else ((laws_toEnding.f k l0_0 l0_1).bind fun bt291 => ((spec_AfterOpening.f k bt291.1 bt291.2 a1 a2).bind fun bt297 => ((laws_toEnding.f k l0_0 l0_1).bind fun bt305 => ((impl_AfterOpening.f k bt305.1 bt305.2 a1 a2).bind fun bt312 => ((laws_eqEnding.f k bt312.1 bt312.2.1 bt297.1 bt297.2.1).bind fun t320 => (if t320 = true then (laws_FnExactAfterOpening.j0 k a1 a2 bt297.2.2 bt312.2.2 (bt312.2.2 != bt297.2.2) l0_0 l0_1 bt297.1 bt297.2.1 bt305.1 bt305.2 bt312.1 bt312.2.1) else (laws_FnExactAfterOpening.j0 k a1 a2 bt297.2.2 bt312.2.2 true l0_0 l0_1 bt297.1 bt297.2.1 bt305.1 bt305.2 bt312.1 bt312.2.1)))))))) = some r := H
 have A4 := Aside0.mk A40
 clear A40
 by_cases c5 : t290 < 0
 ·rw [if_pos c5] at H
  have c5b0 : decide (t290 < 0) = true := decide_eq_true c5
  clear c5
  obtain rfl := Option.some.inj H
  go_enter Try.func7, Try.ntmps7
  go_wp2_with (first | ((with_reducible refine gate_dst (N := 3) rfl ?_); refine box_event ?hg (N := 3) ?hd (cs := #[.slice A0_0 l0_0.length c0_0, .slice A0_1 l0_1.length c0_1]) (t := 24) ?hr ?_; (case hd => rfl); (case hg => rfl); (case hr => first | (go_simp; done) | (go_simp; rfl)); intro gb289 hg w6 hbox hb; have n0_ := Aside0.mk (below_step (by repeat (first | (with_reducible first | exact HB.out | apply below_alloc | apply pw_below_drewN | apply below_drew1) | exact HB.out)) hb); have n1_ := Aside0.mk (hbox); have n2_ := Aside0.mk ((by rw [hg]; exact (below_size (by repeat (first | (with_reducible first | exact HB.out | apply below_alloc | apply pw_below_drewN | apply below_drew1) | exact HB.out))) : w.heap.size ≤ gb289)); have n3_ := Aside0.mk ((by rw [hg]; exact (below_size (by repeat (first | (with_reducible first | exact HB.out | apply below_alloc | apply pw_below_drewN | apply below_drew1) | exact HB.out))) : w.heap.size ≤ gb289)); clear HB; have HB := n0_; have BK289 := n1_; have GW289 := n2_; have GE289 := n3_; clear n0_ n1_ n2_ n3_; clear hb hbox hg; have hcz7_0 : w6.cell? ⟨gb289, 0, none⟩ = some (.slice A0_0 l0_0.length c0_0) := (blk_cell BK289.out 0).trans rfl; have hcz7_1 : w6.cell? ⟨gb289, 1, none⟩ = some (.slice A0_1 l0_1.length c0_1) := (blk_cell BK289.out 1).trans rfl; have hfz7_0 := blk_frozen BK289.out 0; have hfz7_1 := blk_frozen BK289.out 1) | ((with_reducible refine gate_callee (f := 15) rfl ?_); refine goesL_ (some 20) rfl rfl Try.func15 (by kernel_rfl) rfl #[.agg #[.slice A0_0 l0_0.length c0_0, .slice A0_1 l0_1.length c0_1], .int .i64 1048576] rfl (by (try simp only [List.map_toArray, List.map_cons, List.map_nil]); first | done | rfl | (simp only [List.length_drop, List.length_take]; rfl)) ?_; (with_reducible refine (laws_szEnding.calls _ _ l0_0 _ _ l0_1 1048576 t290 _ ?side1 ?side2 ?side3 ?side4 A4.out).mono ?_); (case side1 => repeat (first | exact (Kd.C_below HR0_0.out HB.out) | (with_reducible refine Kd.C_alloc ?_ _) | (with_reducible refine Kd.C_drewN ?_ _) | (with_reducible refine Kd.C_drew ?_))); (case side2 => exact HC0_0.out); (case side3 => repeat (first | exact (Kd.C_below HR0_1.out HB.out) | (with_reducible refine Kd.C_alloc ?_ _) | (with_reducible refine Kd.C_drewN ?_ _) | (with_reducible refine Kd.C_drew ?_))); (case side4 => exact HC0_1.out); rintro e w8 ⟨rfl, hb⟩; refine ⟨_, rfl, ?_⟩; have n0_ := Aside0.mk (blk_below (g := gb289) (o := .cells #[.slice A0_0 l0_0.length c0_0, .slice A0_1 l0_1.length c0_1] 24 (0, 0)) (by (with_reducible repeat (first | refine blk_drewN ?_ _ | refine blk_drew ?_ | refine blk_alloc ?_ _)); exact BK289.out) hb); have n1_ := Aside0.mk (below_step (by repeat (first | (with_reducible first | exact HB.out | apply below_alloc | apply pw_below_drewN | apply below_drew1 | refine below_set ?_ GE289.out) | exact HB.out)) hb); clear BK289; clear HB; have BK289 := n0_; have HB := n1_; clear n0_ n1_; (try clear hb); (try clear hb2); (try clear hk); (try clear hi)))
  go_ret
  exact ⟨rfl, by repeat (first | (with_reducible first | exact HB.out | apply below_alloc | apply pw_below_drewN | apply below_drew1 | refine below_set ?_ GE289.out) | exact HB.out)⟩
 ·rw [if_neg c5] at H
  have c5b0 : decide (t290 < 0) = false := decide_eq_false c5
  clear c5
  replace H := Option.bind_eq_some_iff.mp H
  obtain ⟨⟨t291, t294⟩, A90, H⟩ := H
  replace H : ((spec_AfterOpening.f k t291 t294 a1 a2).bind fun bt297 => ((laws_toEnding.f k l0_0 l0_1).bind fun bt305 => ((impl_AfterOpening.f k bt305.1 bt305.2 a1 a2).bind fun bt312 => ((laws_eqEnding.f k bt312.1 bt312.2.1 bt297.1 bt297.2.1).bind fun t320 => (if t320 = true then (laws_FnExactAfterOpening.j0 k a1 a2 bt297.2.2 bt312.2.2 (bt312.2.2 != bt297.2.2) l0_0 l0_1 bt297.1 bt297.2.1 bt305.1 bt305.2 bt312.1 bt312.2.1) else (laws_FnExactAfterOpening.j0 k a1 a2 bt297.2.2 bt312.2.2 true l0_0 l0_1 bt297.1 bt297.2.1 bt305.1 bt305.2 bt312.1 bt312.2.1)))))) = some r := H
  have A9 := Aside0.mk A90
  clear A90
  replace H := Option.bind_eq_some_iff.mp H
  obtain ⟨⟨t297, t300, t303⟩, A100, H⟩ := H
  replace H : ((laws_toEnding.f k l0_0 l0_1).bind fun bt305 => ((impl_AfterOpening.f k bt305.1 bt305.2 a1 a2).bind fun bt312 => ((laws_eqEnding.f k bt312.1 bt312.2.1 t297 t300).bind fun t320 => (if t320 = true then (laws_FnExactAfterOpening.j0 k a1 a2 t303 bt312.2.2 (bt312.2.2 != t303) l0_0 l0_1 t297 t300 bt305.1 bt305.2 bt312.1 bt312.2.1) else (laws_FnExactAfterOpening.j0 k a1 a2 t303 bt312.2.2 true l0_0 l0_1 t297 t300 bt305.1 bt305.2 bt312.1 bt312.2.1))))) = some r := H
  have A10 := Aside0.mk A100
  clear A100
  replace H := Option.bind_eq_some_iff.mp H
  obtain ⟨⟨t305, t308⟩, A110, H⟩ := H
  replace H : ((impl_AfterOpening.f k t305 t308 a1 a2).bind fun bt312 => ((laws_eqEnding.f k bt312.1 bt312.2.1 t297 t300).bind fun t320 => (if t320 = true then (laws_FnExactAfterOpening.j0 k a1 a2 t303 bt312.2.2 (bt312.2.2 != t303) l0_0 l0_1 t297 t300 t305 t308 bt312.1 bt312.2.1) else (laws_FnExactAfterOpening.j0 k a1 a2 t303 bt312.2.2 true l0_0 l0_1 t297 t300 t305 t308 bt312.1 bt312.2.1)))) = some r := H
  have A11 := Aside0.mk A110
  clear A110
  replace H := Option.bind_eq_some_iff.mp H
  obtain ⟨⟨t312, t315, t318⟩, A120, H⟩ := H
  replace H : ((laws_eqEnding.f k t312 t315 t297 t300).bind fun t320 => (if t320 = true then (laws_FnExactAfterOpening.j0 k a1 a2 t303 t318 (t318 != t303) l0_0 l0_1 t297 t300 t305 t308 t312 t315) else (laws_FnExactAfterOpening.j0 k a1 a2 t303 t318 true l0_0 l0_1 t297 t300 t305 t308 t312 t315))) = some r := H
  have A12 := Aside0.mk A120
  clear A120
  have HC13 := Aside0.mk H
  clear H
  go_enter Try.func7, Try.ntmps7
  go_upto_region 8 with (first | ((with_reducible refine gate_dst (N := 3) rfl ?_); refine box_event ?hg (N := 3) ?hd (cs := #[.slice A0_0 l0_0.length c0_0, .slice A0_1 l0_1.length c0_1]) (t := 24) ?hr ?_; (case hd => rfl); (case hg => rfl); (case hr => first | (go_simp; done) | (go_simp; rfl)); intro gb289 hg w14 hbox hb; have n0_ := Aside0.mk (below_step (by repeat (first | (with_reducible first | exact HB.out | apply below_alloc | apply pw_below_drewN | apply below_drew1) | exact HB.out)) hb); have n1_ := Aside0.mk (hbox); have n2_ := Aside0.mk ((by rw [hg]; exact (below_size (by repeat (first | (with_reducible first | exact HB.out | apply below_alloc | apply pw_below_drewN | apply below_drew1) | exact HB.out))) : w.heap.size ≤ gb289)); have n3_ := Aside0.mk ((by rw [hg]; exact (below_size (by repeat (first | (with_reducible first | exact HB.out | apply below_alloc | apply pw_below_drewN | apply below_drew1) | exact HB.out))) : w.heap.size ≤ gb289)); clear HB; have HB := n0_; have BK289 := n1_; have GW289 := n2_; have GE289 := n3_; clear n0_ n1_ n2_ n3_; clear hb hbox hg; have hcz15_0 : w14.cell? ⟨gb289, 0, none⟩ = some (.slice A0_0 l0_0.length c0_0) := (blk_cell BK289.out 0).trans rfl; have hcz15_1 : w14.cell? ⟨gb289, 1, none⟩ = some (.slice A0_1 l0_1.length c0_1) := (blk_cell BK289.out 1).trans rfl; have hfz15_0 := blk_frozen BK289.out 0; have hfz15_1 := blk_frozen BK289.out 1) | ((with_reducible refine gate_callee (f := 15) rfl ?_); refine goesL_ (some 20) rfl rfl Try.func15 (by kernel_rfl) rfl #[.agg #[.slice A0_0 l0_0.length c0_0, .slice A0_1 l0_1.length c0_1], .int .i64 1048576] rfl (by (try simp only [List.map_toArray, List.map_cons, List.map_nil]); first | done | rfl | (simp only [List.length_drop, List.length_take]; rfl)) ?_; (with_reducible refine (laws_szEnding.calls _ _ l0_0 _ _ l0_1 1048576 t290 _ ?side1 ?side2 ?side3 ?side4 A4.out).mono ?_); (case side1 => repeat (first | exact (Kd.C_below HR0_0.out HB.out) | (with_reducible refine Kd.C_alloc ?_ _) | (with_reducible refine Kd.C_drewN ?_ _) | (with_reducible refine Kd.C_drew ?_))); (case side2 => exact HC0_0.out); (case side3 => repeat (first | exact (Kd.C_below HR0_1.out HB.out) | (with_reducible refine Kd.C_alloc ?_ _) | (with_reducible refine Kd.C_drewN ?_ _) | (with_reducible refine Kd.C_drew ?_))); (case side4 => exact HC0_1.out); rintro e w16 ⟨rfl, hb⟩; refine ⟨_, rfl, ?_⟩; have n0_ := Aside0.mk (blk_below (g := gb289) (o := .cells #[.slice A0_0 l0_0.length c0_0, .slice A0_1 l0_1.length c0_1] 24 (0, 0)) (by (with_reducible repeat (first | refine blk_drewN ?_ _ | refine blk_drew ?_ | refine blk_alloc ?_ _)); exact BK289.out) hb); have n1_ := Aside0.mk (below_step (by repeat (first | (with_reducible first | exact HB.out | apply below_alloc | apply pw_below_drewN | apply below_drew1 | refine below_set ?_ GE289.out) | exact HB.out)) hb); clear BK289; clear HB; have BK289 := n0_; have HB := n1_; clear n0_ n1_; (try clear hb); (try clear hb2); (try clear hk); (try clear hi); have hcz17_0 : w16.cell? ⟨gb289, 0, none⟩ = some (.slice A0_0 l0_0.length c0_0) := (blk_cell BK289.out 0).trans rfl; have hcz17_1 : w16.cell? ⟨gb289, 1, none⟩ = some (.slice A0_1 l0_1.length c0_1) := (blk_cell BK289.out 1).trans rfl; have hfz17_0 := blk_frozen BK289.out 0; have hfz17_1 := blk_frozen BK289.out 1) | ((with_reducible refine gate_callee (f := 17) rfl ?_); refine goesL_ (some 25) rfl rfl Try.func17 (by kernel_rfl) rfl #[.agg #[.slice A0_0 l0_0.length c0_0, .slice A0_1 l0_1.length c0_1]] rfl (by (try simp only [List.map_toArray, List.map_cons, List.map_nil]); first | done | rfl | (simp only [List.length_drop, List.length_take]; rfl)) ?_; (with_reducible refine (laws_toEnding.calls k _ _ l0_0 _ _ l0_1 t291 t294 _ ?side1 ?side2 ?side3 ?side4 A9.out).mono ?_); (case side1 => repeat (first | exact (Kd.C_below HR0_0.out HB.out) | (with_reducible refine Kd.C_alloc ?_ _) | (with_reducible refine Kd.C_drewN ?_ _) | (with_reducible refine Kd.C_drew ?_))); (case side2 => exact HC0_0.out); (case side3 => repeat (first | exact (Kd.C_below HR0_1.out HB.out) | (with_reducible refine Kd.C_alloc ?_ _) | (with_reducible refine Kd.C_drewN ?_ _) | (with_reducible refine Kd.C_drew ?_))); (case side4 => exact HC0_1.out); rintro e w18 ⟨v292, v295, rfl, ho0, ho1, hb⟩; refine ⟨_, rfl, ?_⟩; have n0_ := Aside0.mk (Kd.R_lower ho0 (below_size (by repeat (first | (with_reducible first | exact HB.out | apply below_alloc | apply pw_below_drewN | apply below_drew1 | refine below_set ?_ GE289.out) | exact HB.out)))); have n1_ := Aside0.mk (Kd.R_lower ho1 (below_size (by repeat (first | (with_reducible first | exact HB.out | apply below_alloc | apply pw_below_drewN | apply below_drew1 | refine below_set ?_ GE289.out) | exact HB.out)))); have n2_ := Aside0.mk (blk_below (g := gb289) (o := .cells #[.slice A0_0 l0_0.length c0_0, .slice A0_1 l0_1.length c0_1] 24 (0, 0)) (by (with_reducible repeat (first | refine blk_drewN ?_ _ | refine blk_drew ?_ | refine blk_alloc ?_ _)); exact BK289.out) hb); have n3_ := Aside0.mk (below_step (by repeat (first | (with_reducible first | exact HB.out | apply below_alloc | apply pw_below_drewN | apply below_drew1 | refine below_set ?_ GE289.out) | exact HB.out)) hb); clear BK289; clear HB; have HO293 := n0_; have HO296 := n1_; have BK289 := n2_; have HB := n3_; clear n0_ n1_ n2_ n3_; (try clear hb); (try clear hb2); (try clear hk); (try clear hi); (try clear ho0); (try clear ho1); obtain ⟨Ao19, co19, eo19⟩ := Kd.R_slice HO293.out; subst eo19; obtain ⟨Ao20, co20, eo20⟩ := Kd.R_slice HO296.out; subst eo20) | ((with_reducible refine gate_callee (f := 26) rfl ?_); refine goesL_ (some 28) rfl rfl Try.func26 (by kernel_rfl) rfl #[.agg #[.slice Ao19 t291.length co19, .slice Ao20 t294.length co20], .bool a1, .int .i64 a2] rfl (by (try simp only [List.map_toArray, List.map_cons, List.map_nil]); first | done | rfl | (simp only [List.length_drop, List.length_take]; rfl)) ?_; (with_reducible refine (spec_AfterOpening.calls k _ _ t291 _ _ t294 a1 a2 t297 t300 t303 _ ?side1 ?side2 ?side3 ?side4 A10.out).mono ?_); (case side1 => repeat (first | exact (Kd.R_reads' HO293.out).2.2 | (with_reducible refine Kd.C_alloc ?_ _) | (with_reducible refine Kd.C_drewN ?_ _) | (with_reducible refine Kd.C_drew ?_))); (case side2 => exact (Kd.R_reads' HO293.out).2.1); (case side3 => repeat (first | exact (Kd.R_reads' HO296.out).2.2 | (with_reducible refine Kd.C_alloc ?_ _) | (with_reducible refine Kd.C_drewN ?_ _) | (with_reducible refine Kd.C_drew ?_))); (case side4 => exact (Kd.R_reads' HO296.out).2.1); rintro e w21 ⟨v298, v301, rfl, ho0, ho1, hb⟩; refine ⟨_, rfl, ?_⟩; have n0_ := Aside0.mk (Kd.R_mono (Kd.R_told (Kd.R_told (Kd.R_old (by (with_reducible repeat (first | apply Kd.R_alloc | apply Kd.R_drewN | apply Kd.R_drew)); exact HO293.out) hb) (Kd.R_base ho0)) (Kd.R_base ho1)) (fun _ h_ => h_.1)); have n1_ := Aside0.mk (Kd.R_mono (Kd.R_told (Kd.R_told (Kd.R_old (by (with_reducible repeat (first | apply Kd.R_alloc | apply Kd.R_drewN | apply Kd.R_drew)); exact HO296.out) hb) (Kd.R_base ho0)) (Kd.R_base ho1)) (fun _ h_ => h_.1)); have n2_ := Aside0.mk (Kd.R_lower (Kd.R_new' (Kd.R_new' ho0 (Kd.R_lt (by (with_reducible repeat (first | apply Kd.R_alloc | apply Kd.R_drewN | apply Kd.R_drew)); exact HO293.out))) (Kd.R_lt (by (with_reducible repeat (first | apply Kd.R_alloc | apply Kd.R_drewN | apply Kd.R_drew)); exact HO296.out))) (below_size (by repeat (first | (with_reducible first | exact HB.out | apply below_alloc | apply pw_below_drewN | apply below_drew1 | refine below_set ?_ GE289.out) | exact HB.out)))); have n3_ := Aside0.mk (Kd.R_lower (Kd.R_new' (Kd.R_new' ho1 (Kd.R_lt (by (with_reducible repeat (first | apply Kd.R_alloc | apply Kd.R_drewN | apply Kd.R_drew)); exact HO293.out))) (Kd.R_lt (by (with_reducible repeat (first | apply Kd.R_alloc | apply Kd.R_drewN | apply Kd.R_drew)); exact HO296.out))) (below_size (by repeat (first | (with_reducible first | exact HB.out | apply below_alloc | apply pw_below_drewN | apply below_drew1 | refine below_set ?_ GE289.out) | exact HB.out)))); have n4_ := Aside0.mk (blk_below (g := gb289) (o := .cells #[.slice A0_0 l0_0.length c0_0, .slice A0_1 l0_1.length c0_1] 24 (0, 0)) (by (with_reducible repeat (first | refine blk_drewN ?_ _ | refine blk_drew ?_ | refine blk_alloc ?_ _)); exact BK289.out) hb); have n5_ := Aside0.mk (below_step (by repeat (first | (with_reducible first | exact HB.out | apply below_alloc | apply pw_below_drewN | apply below_drew1 | refine below_set ?_ GE289.out) | exact HB.out)) hb); clear HO293; clear HO296; clear BK289; clear HB; have HO293 := n0_; have HO296 := n1_; have HO299 := n2_; have HO302 := n3_; have BK289 := n4_; have HB := n5_; clear n0_ n1_ n2_ n3_ n4_ n5_; (try clear hb); (try clear hb2); (try clear hk); (try clear hi); (try clear ho0); (try clear ho1)) | ((with_reducible refine gate_dst (N := 8) rfl ?_); refine box_event ?hg (N := 8) ?hd (cs := #[.slice none 0 0, .slice none 0 0]) (t := 27) ?hr ?_; (case hd => rfl); (case hg => rfl); (case hr => first | (go_simp; done) | (go_simp; rfl)); intro gb304 hg w22 hbox hb; have n0_ := Aside0.mk (Kd.R_below (by (with_reducible repeat (first | apply Kd.R_alloc | apply Kd.R_drewN | apply Kd.R_drew)); exact HO293.out) hb); have n1_ := Aside0.mk (Kd.R_below (by (with_reducible repeat (first | apply Kd.R_alloc | apply Kd.R_drewN | apply Kd.R_drew)); exact HO296.out) hb); have n2_ := Aside0.mk (Kd.R_below (by (with_reducible repeat (first | apply Kd.R_alloc | apply Kd.R_drewN | apply Kd.R_drew)); exact HO299.out) hb); have n3_ := Aside0.mk (Kd.R_below (by (with_reducible repeat (first | apply Kd.R_alloc | apply Kd.R_drewN | apply Kd.R_drew)); exact HO302.out) hb); have n4_ := Aside0.mk (blk_below (g := gb289) (o := .cells #[.slice A0_0 l0_0.length c0_0, .slice A0_1 l0_1.length c0_1] 24 (0, 0)) (by (with_reducible repeat (first | refine blk_drewN ?_ _ | refine blk_drew ?_ | refine blk_alloc ?_ _)); exact BK289.out) hb); have n5_ := Aside0.mk (below_step (by repeat (first | (with_reducible first | exact HB.out | apply below_alloc | apply pw_below_drewN | apply below_drew1 | refine below_set ?_ GE289.out) | exact HB.out)) hb); have n6_ := Aside0.mk (hbox); have n7_ := Aside0.mk ((by rw [hg]; exact (below_size (by repeat (first | (with_reducible first | exact HB.out | apply below_alloc | apply pw_below_drewN | apply below_drew1 | refine below_set ?_ GE289.out) | exact HB.out))) : w.heap.size ≤ gb304)); have n8_ := Aside0.mk ((by rw [hg]; exact (below_size (by repeat (first | (with_reducible first | exact HB.out | apply below_alloc | apply pw_below_drewN | apply below_drew1 | refine below_set ?_ GE289.out) | exact HB.out))) : w.heap.size ≤ gb304)); have n9_ := Aside0.mk ((by rw [hg]; exact Nat.ne_of_lt (blk_lt (g := gb289) (o := .cells #[.slice A0_0 l0_0.length c0_0, .slice A0_1 l0_1.length c0_1] 24 (0, 0)) (by (with_reducible repeat (first | refine blk_drewN ?_ _ | refine blk_drew ?_ | refine blk_alloc ?_ _)); exact BK289.out)) : gb289 ≠ gb304)); have n10_ := Aside0.mk ((by rw [hg]; exact Nat.ne_of_gt (blk_lt (g := gb289) (o := .cells #[.slice A0_0 l0_0.length c0_0, .slice A0_1 l0_1.length c0_1] 24 (0, 0)) (by (with_reducible repeat (first | refine blk_drewN ?_ _ | refine blk_drew ?_ | refine blk_alloc ?_ _)); exact BK289.out)) : gb304 ≠ gb289)); clear HO293; clear HO296; clear HO299; clear HO302; clear BK289; clear HB; have HO293 := n0_; have HO296 := n1_; have HO299 := n2_; have HO302 := n3_; have BK289 := n4_; have HB := n5_; have BK304 := n6_; have GW304 := n7_; have GE304 := n8_; have NB289_304 := n9_; have NB304_289 := n10_; clear n0_ n1_ n2_ n3_ n4_ n5_ n6_ n7_ n8_ n9_ n10_; clear hb hbox hg; obtain ⟨Ao23, co23, eo23⟩ := Kd.R_slice HO299.out; subst eo23; have hnb24 := NB304_289.out; have hnc24 := NB289_304.out; have hcz25_0 : w22.cell? ⟨gb304, 0, none⟩ = some (.slice none 0 0) := (blk_cell BK304.out 0).trans rfl; have hcz25_1 : w22.cell? ⟨gb304, 1, none⟩ = some (.slice none 0 0) := (blk_cell BK304.out 1).trans rfl; have hfz25_0 := blk_frozen BK304.out 0; have hfz25_1 := blk_frozen BK304.out 1; obtain ⟨Ao26, co26, eo26⟩ := Kd.R_slice HO302.out; subst eo26; have hcz27_0 : w22.cell? ⟨gb289, 0, none⟩ = some (.slice A0_0 l0_0.length c0_0) := (blk_cell BK289.out 0).trans rfl; have hcz27_1 : w22.cell? ⟨gb289, 1, none⟩ = some (.slice A0_1 l0_1.length c0_1) := (blk_cell BK289.out 1).trans rfl; have hfz27_0 := blk_frozen BK289.out 0; have hfz27_1 := blk_frozen BK289.out 1) | ((with_reducible refine gate_callee (f := 17) rfl ?_); refine goesL_ (some 32) rfl rfl Try.func17 (by kernel_rfl) rfl #[.agg #[.slice A0_0 l0_0.length c0_0, .slice A0_1 l0_1.length c0_1]] rfl (by (try simp only [List.map_toArray, List.map_cons, List.map_nil]); first | done | rfl | (simp only [List.length_drop, List.length_take]; rfl)) ?_; (with_reducible refine (laws_toEnding.calls k _ _ l0_0 _ _ l0_1 t305 t308 _ ?side1 ?side2 ?side3 ?side4 A11.out).mono ?_); (case side1 => exact Kd.C_below HR0_0.out (by repeat (first | (with_reducible first | exact HB.out | apply below_alloc | apply pw_below_drewN | apply below_drew1 | refine below_set ?_ GE289.out | refine below_set ?_ GE304.out) | exact HB.out))); (case side2 => exact HC0_0.out); (case side3 => exact Kd.C_below HR0_1.out (by repeat (first | (with_reducible first | exact HB.out | apply below_alloc | apply pw_below_drewN | apply below_drew1 | refine below_set ?_ GE289.out | refine below_set ?_ GE304.out) | exact HB.out))); (case side4 => exact HC0_1.out); rintro e w28 ⟨v306, v309, rfl, ho0, ho1, hb⟩; refine ⟨_, rfl, ?_⟩; have n0_ := Aside0.mk (Kd.R_mono (Kd.R_told (Kd.R_told (Kd.R_old (by (with_reducible repeat (first | apply Kd.R_alloc | apply Kd.R_drewN | apply Kd.R_drew)); exact (Kd.R_mono (Kd.R_far (p := ⟨gb304, 1, none⟩) (Kd.R_far (p := ⟨gb304, 0, none⟩) (Kd.R_types HO293.out BK304.out (by decide)) (fun _ hk => hk.2) (.slice Ao23 t297.length co23)) (fun _ hk => hk.2) (.slice Ao26 t300.length co26)) (fun _ h_ => h_.1))) hb) (Kd.R_base ho0)) (Kd.R_base ho1)) (fun _ h_ => h_.1)); have n1_ := Aside0.mk (Kd.R_mono (Kd.R_told (Kd.R_told (Kd.R_old (by (with_reducible repeat (first | apply Kd.R_alloc | apply Kd.R_drewN | apply Kd.R_drew)); exact (Kd.R_mono (Kd.R_far (p := ⟨gb304, 1, none⟩) (Kd.R_far (p := ⟨gb304, 0, none⟩) (Kd.R_types HO296.out BK304.out (by decide)) (fun _ hk => hk.2) (.slice Ao23 t297.length co23)) (fun _ hk => hk.2) (.slice Ao26 t300.length co26)) (fun _ h_ => h_.1))) hb) (Kd.R_base ho0)) (Kd.R_base ho1)) (fun _ h_ => h_.1)); have n2_ := Aside0.mk (Kd.R_mono (Kd.R_told (Kd.R_told (Kd.R_old (by (with_reducible repeat (first | apply Kd.R_alloc | apply Kd.R_drewN | apply Kd.R_drew)); exact (Kd.R_mono (Kd.R_far (p := ⟨gb304, 1, none⟩) (Kd.R_far (p := ⟨gb304, 0, none⟩) (Kd.R_types HO299.out BK304.out (by decide)) (fun _ hk => hk.2) (.slice Ao23 t297.length co23)) (fun _ hk => hk.2) (.slice Ao26 t300.length co26)) (fun _ h_ => h_.1))) hb) (Kd.R_base ho0)) (Kd.R_base ho1)) (fun _ h_ => h_.1)); have n3_ := Aside0.mk (Kd.R_mono (Kd.R_told (Kd.R_told (Kd.R_old (by (with_reducible repeat (first | apply Kd.R_alloc | apply Kd.R_drewN | apply Kd.R_drew)); exact (Kd.R_mono (Kd.R_far (p := ⟨gb304, 1, none⟩) (Kd.R_far (p := ⟨gb304, 0, none⟩) (Kd.R_types HO302.out BK304.out (by decide)) (fun _ hk => hk.2) (.slice Ao23 t297.length co23)) (fun _ hk => hk.2) (.slice Ao26 t300.length co26)) (fun _ h_ => h_.1))) hb) (Kd.R_base ho0)) (Kd.R_base ho1)) (fun _ h_ => h_.1)); have n4_ := Aside0.mk (Kd.R_lower (Kd.R_new' (Kd.R_new' (Kd.R_new' (Kd.R_new' ho0 (Kd.R_lt (by (with_reducible repeat (first | apply Kd.R_alloc | apply Kd.R_drewN | apply Kd.R_drew)); exact (Kd.R_mono (Kd.R_far (p := ⟨gb304, 1, none⟩) (Kd.R_far (p := ⟨gb304, 0, none⟩) (Kd.R_types HO293.out BK304.out (by decide)) (fun _ hk => hk.2) (.slice Ao23 t297.length co23)) (fun _ hk => hk.2) (.slice Ao26 t300.length co26)) (fun _ h_ => h_.1))))) (Kd.R_lt (by (with_reducible repeat (first | apply Kd.R_alloc | apply Kd.R_drewN | apply Kd.R_drew)); exact (Kd.R_mono (Kd.R_far (p := ⟨gb304, 1, none⟩) (Kd.R_far (p := ⟨gb304, 0, none⟩) (Kd.R_types HO296.out BK304.out (by decide)) (fun _ hk => hk.2) (.slice Ao23 t297.length co23)) (fun _ hk => hk.2) (.slice Ao26 t300.length co26)) (fun _ h_ => h_.1))))) (Kd.R_lt (by (with_reducible repeat (first | apply Kd.R_alloc | apply Kd.R_drewN | apply Kd.R_drew)); exact (Kd.R_mono (Kd.R_far (p := ⟨gb304, 1, none⟩) (Kd.R_far (p := ⟨gb304, 0, none⟩) (Kd.R_types HO299.out BK304.out (by decide)) (fun _ hk => hk.2) (.slice Ao23 t297.length co23)) (fun _ hk => hk.2) (.slice Ao26 t300.length co26)) (fun _ h_ => h_.1))))) (Kd.R_lt (by (with_reducible repeat (first | apply Kd.R_alloc | apply Kd.R_drewN | apply Kd.R_drew)); exact (Kd.R_mono (Kd.R_far (p := ⟨gb304, 1, none⟩) (Kd.R_far (p := ⟨gb304, 0, none⟩) (Kd.R_types HO302.out BK304.out (by decide)) (fun _ hk => hk.2) (.slice Ao23 t297.length co23)) (fun _ hk => hk.2) (.slice Ao26 t300.length co26)) (fun _ h_ => h_.1))))) (below_size (by repeat (first | (with_reducible first | exact HB.out | apply below_alloc | apply pw_below_drewN | apply below_drew1 | refine below_set ?_ GE289.out | refine below_set ?_ GE304.out) | exact HB.out)))); have n5_ := Aside0.mk (Kd.R_lower (Kd.R_new' (Kd.R_new' (Kd.R_new' (Kd.R_new' ho1 (Kd.R_lt (by (with_reducible repeat (first | apply Kd.R_alloc | apply Kd.R_drewN | apply Kd.R_drew)); exact (Kd.R_mono (Kd.R_far (p := ⟨gb304, 1, none⟩) (Kd.R_far (p := ⟨gb304, 0, none⟩) (Kd.R_types HO293.out BK304.out (by decide)) (fun _ hk => hk.2) (.slice Ao23 t297.length co23)) (fun _ hk => hk.2) (.slice Ao26 t300.length co26)) (fun _ h_ => h_.1))))) (Kd.R_lt (by (with_reducible repeat (first | apply Kd.R_alloc | apply Kd.R_drewN | apply Kd.R_drew)); exact (Kd.R_mono (Kd.R_far (p := ⟨gb304, 1, none⟩) (Kd.R_far (p := ⟨gb304, 0, none⟩) (Kd.R_types HO296.out BK304.out (by decide)) (fun _ hk => hk.2) (.slice Ao23 t297.length co23)) (fun _ hk => hk.2) (.slice Ao26 t300.length co26)) (fun _ h_ => h_.1))))) (Kd.R_lt (by (with_reducible repeat (first | apply Kd.R_alloc | apply Kd.R_drewN | apply Kd.R_drew)); exact (Kd.R_mono (Kd.R_far (p := ⟨gb304, 1, none⟩) (Kd.R_far (p := ⟨gb304, 0, none⟩) (Kd.R_types HO299.out BK304.out (by decide)) (fun _ hk => hk.2) (.slice Ao23 t297.length co23)) (fun _ hk => hk.2) (.slice Ao26 t300.length co26)) (fun _ h_ => h_.1))))) (Kd.R_lt (by (with_reducible repeat (first | apply Kd.R_alloc | apply Kd.R_drewN | apply Kd.R_drew)); exact (Kd.R_mono (Kd.R_far (p := ⟨gb304, 1, none⟩) (Kd.R_far (p := ⟨gb304, 0, none⟩) (Kd.R_types HO302.out BK304.out (by decide)) (fun _ hk => hk.2) (.slice Ao23 t297.length co23)) (fun _ hk => hk.2) (.slice Ao26 t300.length co26)) (fun _ h_ => h_.1))))) (below_size (by repeat (first | (with_reducible first | exact HB.out | apply below_alloc | apply pw_below_drewN | apply below_drew1 | refine below_set ?_ GE289.out | refine below_set ?_ GE304.out) | exact HB.out)))); have n6_ := Aside0.mk (blk_below (g := gb289) (o := .cells #[.slice A0_0 l0_0.length c0_0, .slice A0_1 l0_1.length c0_1] 24 (0, 0)) (by (with_reducible repeat (first | refine blk_drewN ?_ _ | refine blk_drew ?_ | refine blk_alloc ?_ _)); refine blk_far ?_ NB289_304.out _; (with_reducible repeat (first | refine blk_drewN ?_ _ | refine blk_drew ?_ | refine blk_alloc ?_ _)); refine blk_far ?_ NB289_304.out _; (with_reducible repeat (first | refine blk_drewN ?_ _ | refine blk_drew ?_ | refine blk_alloc ?_ _)); exact BK289.out) hb); have n7_ := Aside0.mk (blk_below (g := gb304) (o := .cells #[.slice Ao23 t297.length co23, .slice Ao26 t300.length co26] 27 (0, 0)) (by (with_reducible repeat (first | refine blk_drewN ?_ _ | refine blk_drew ?_ | refine blk_alloc ?_ _)); refine blk_put (cs := #[.slice Ao23 t297.length co23, .slice none 0 0]) ?_ 1 _ rfl; (with_reducible repeat (first | refine blk_drewN ?_ _ | refine blk_drew ?_ | refine blk_alloc ?_ _)); refine blk_put (cs := #[.slice none 0 0, .slice none 0 0]) ?_ 0 _ rfl; (with_reducible repeat (first | refine blk_drewN ?_ _ | refine blk_drew ?_ | refine blk_alloc ?_ _)); exact BK304.out) hb); have n8_ := Aside0.mk (below_step (by repeat (first | (with_reducible first | exact HB.out | apply below_alloc | apply pw_below_drewN | apply below_drew1 | refine below_set ?_ GE289.out | refine below_set ?_ GE304.out) | exact HB.out)) hb); clear HO293; clear HO296; clear HO299; clear HO302; clear BK289; clear BK304; clear HB; have HO293 := n0_; have HO296 := n1_; have HO299 := n2_; have HO302 := n3_; have HO307 := n4_; have HO310 := n5_; have BK289 := n6_; have BK304 := n7_; have HB := n8_; clear n0_ n1_ n2_ n3_ n4_ n5_ n6_ n7_ n8_; (try clear hb); (try clear hb2); (try clear hk); (try clear hi); (try clear ho0); (try clear ho1)) | ((with_reducible refine gate_dst (N := 10) rfl ?_); refine box_event ?hg (N := 10) ?hd (cs := #[.slice none 0 0, .slice none 0 0]) (t := 27) ?hr ?_; (case hd => rfl); (case hg => rfl); (case hr => first | (go_simp; done) | (go_simp; rfl)); intro gb311 hg w29 hbox hb; have n0_ := Aside0.mk (Kd.R_below (by (with_reducible repeat (first | apply Kd.R_alloc | apply Kd.R_drewN | apply Kd.R_drew)); exact HO293.out) hb); have n1_ := Aside0.mk (Kd.R_below (by (with_reducible repeat (first | apply Kd.R_alloc | apply Kd.R_drewN | apply Kd.R_drew)); exact HO296.out) hb); have n2_ := Aside0.mk (Kd.R_below (by (with_reducible repeat (first | apply Kd.R_alloc | apply Kd.R_drewN | apply Kd.R_drew)); exact HO299.out) hb); have n3_ := Aside0.mk (Kd.R_below (by (with_reducible repeat (first | apply Kd.R_alloc | apply Kd.R_drewN | apply Kd.R_drew)); exact HO302.out) hb); have n4_ := Aside0.mk (Kd.R_below (by (with_reducible repeat (first | apply Kd.R_alloc | apply Kd.R_drewN | apply Kd.R_drew)); exact HO307.out) hb); have n5_ := Aside0.mk (Kd.R_below (by (with_reducible repeat (first | apply Kd.R_alloc | apply Kd.R_drewN | apply Kd.R_drew)); exact HO310.out) hb); have n6_ := Aside0.mk (blk_below (g := gb289) (o := .cells #[.slice A0_0 l0_0.length c0_0, .slice A0_1 l0_1.length c0_1] 24 (0, 0)) (by (with_reducible repeat (first | refine blk_drewN ?_ _ | refine blk_drew ?_ | refine blk_alloc ?_ _)); exact BK289.out) hb); have n7_ := Aside0.mk (blk_below (g := gb304) (o := .cells #[.slice Ao23 t297.length co23, .slice Ao26 t300.length co26] 27 (0, 0)) (by (with_reducible repeat (first | refine blk_drewN ?_ _ | refine blk_drew ?_ | refine blk_alloc ?_ _)); exact BK304.out) hb); have n8_ := Aside0.mk (below_step (by repeat (first | (with_reducible first | exact HB.out | apply below_alloc | apply pw_below_drewN | apply below_drew1 | refine below_set ?_ GE289.out | refine below_set ?_ GE304.out) | exact HB.out)) hb); have n9_ := Aside0.mk (hbox); have n10_ := Aside0.mk ((by rw [hg]; exact (below_size (by repeat (first | (with_reducible first | exact HB.out | apply below_alloc | apply pw_below_drewN | apply below_drew1 | refine below_set ?_ GE289.out | refine below_set ?_ GE304.out) | exact HB.out))) : w.heap.size ≤ gb311)); have n11_ := Aside0.mk ((by rw [hg]; exact (below_size (by repeat (first | (with_reducible first | exact HB.out | apply below_alloc | apply pw_below_drewN | apply below_drew1 | refine below_set ?_ GE289.out | refine below_set ?_ GE304.out) | exact HB.out))) : w.heap.size ≤ gb311)); have n12_ := Aside0.mk ((by rw [hg]; exact Nat.ne_of_lt (blk_lt (g := gb289) (o := .cells #[.slice A0_0 l0_0.length c0_0, .slice A0_1 l0_1.length c0_1] 24 (0, 0)) (by (with_reducible repeat (first | refine blk_drewN ?_ _ | refine blk_drew ?_ | refine blk_alloc ?_ _)); exact BK289.out)) : gb289 ≠ gb311)); have n13_ := Aside0.mk ((by rw [hg]; exact Nat.ne_of_gt (blk_lt (g := gb289) (o := .cells #[.slice A0_0 l0_0.length c0_0, .slice A0_1 l0_1.length c0_1] 24 (0, 0)) (by (with_reducible repeat (first | refine blk_drewN ?_ _ | refine blk_drew ?_ | refine blk_alloc ?_ _)); exact BK289.out)) : gb311 ≠ gb289)); have n14_ := Aside0.mk ((by rw [hg]; exact Nat.ne_of_lt (blk_lt (g := gb304) (o := .cells #[.slice Ao23 t297.length co23, .slice Ao26 t300.length co26] 27 (0, 0)) (by (with_reducible repeat (first | refine blk_drewN ?_ _ | refine blk_drew ?_ | refine blk_alloc ?_ _)); exact BK304.out)) : gb304 ≠ gb311)); have n15_ := Aside0.mk ((by rw [hg]; exact Nat.ne_of_gt (blk_lt (g := gb304) (o := .cells #[.slice Ao23 t297.length co23, .slice Ao26 t300.length co26] 27 (0, 0)) (by (with_reducible repeat (first | refine blk_drewN ?_ _ | refine blk_drew ?_ | refine blk_alloc ?_ _)); exact BK304.out)) : gb311 ≠ gb304)); clear HO293; clear HO296; clear HO299; clear HO302; clear HO307; clear HO310; clear BK289; clear BK304; clear HB; have HO293 := n0_; have HO296 := n1_; have HO299 := n2_; have HO302 := n3_; have HO307 := n4_; have HO310 := n5_; have BK289 := n6_; have BK304 := n7_; have HB := n8_; have BK311 := n9_; have GW311 := n10_; have GE311 := n11_; have NB289_311 := n12_; have NB311_289 := n13_; have NB304_311 := n14_; have NB311_304 := n15_; clear n0_ n1_ n2_ n3_ n4_ n5_ n6_ n7_ n8_ n9_ n10_ n11_ n12_ n13_ n14_ n15_; clear hb hbox hg; obtain ⟨Ao30, co30, eo30⟩ := Kd.R_slice HO307.out; subst eo30; have hnb31 := NB311_289.out; have hnc31 := NB289_311.out; have hnb32 := NB311_304.out; have hnc32 := NB304_311.out; have hcz33_0 : w29.cell? ⟨gb311, 0, none⟩ = some (.slice none 0 0) := (blk_cell BK311.out 0).trans rfl; have hcz33_1 : w29.cell? ⟨gb311, 1, none⟩ = some (.slice none 0 0) := (blk_cell BK311.out 1).trans rfl; have hfz33_0 := blk_frozen BK311.out 0; have hfz33_1 := blk_frozen BK311.out 1; obtain ⟨Ao34, co34, eo34⟩ := Kd.R_slice HO310.out; subst eo34) | ((with_reducible refine gate_callee (f := 27) rfl ?_); refine goesL_ (some 37) rfl rfl Try.func27 (by kernel_rfl) rfl #[.agg #[.slice Ao30 t305.length co30, .slice Ao34 t308.length co34], .bool a1, .int .i64 a2] rfl (by (try simp only [List.map_toArray, List.map_cons, List.map_nil]); first | done | rfl | (simp only [List.length_drop, List.length_take]; rfl)) ?_; (with_reducible refine (impl_AfterOpening.calls k _ _ t305 _ _ t308 a1 a2 t312 t315 t318 _ ?side1 ?side2 ?side3 ?side4 A12.out).mono ?_); (case side1 => refine (Kd.R_reads' (e := 2) (base := w.heap.size) (ok := fun k_ => ((((some k_ ≠ (.slice Ao34 t308.length co34 : Value).ownBlock ∧ some k_ ≠ (.slice Ao19 t291.length co19 : Value).ownBlock) ∧ some k_ ≠ (.slice Ao20 t294.length co20 : Value).ownBlock) ∧ some k_ ≠ (.slice Ao23 t297.length co23 : Value).ownBlock) ∧ some k_ ≠ (.slice Ao26 t300.length co26 : Value).ownBlock)) (n := t305.length) (c := co30) ?_).2.2; exact (by (with_reducible repeat (first | apply Kd.R_alloc | apply Kd.R_drewN | apply Kd.R_drew)); exact (Kd.R_mono (Kd.R_far (p := ⟨gb311, 1, none⟩) (Kd.R_far (p := ⟨gb311, 0, none⟩) (Kd.R_types HO307.out BK311.out (by decide)) (fun _ hk => hk.2) (.slice Ao30 t305.length co30)) (fun _ hk => hk.2) (.slice Ao34 t308.length co34)) (fun _ h_ => h_.1)))); (case side2 => exact (Kd.R_reads' HO307.out).2.1); (case side3 => refine (Kd.R_reads' (e := 2) (base := w.heap.size) (ok := fun k_ => ((((some k_ ≠ (.slice Ao30 t305.length co30 : Value).ownBlock ∧ some k_ ≠ (.slice Ao19 t291.length co19 : Value).ownBlock) ∧ some k_ ≠ (.slice Ao20 t294.length co20 : Value).ownBlock) ∧ some k_ ≠ (.slice Ao23 t297.length co23 : Value).ownBlock) ∧ some k_ ≠ (.slice Ao26 t300.length co26 : Value).ownBlock)) (n := t308.length) (c := co34) ?_).2.2; exact (by (with_reducible repeat (first | apply Kd.R_alloc | apply Kd.R_drewN | apply Kd.R_drew)); exact (Kd.R_mono (Kd.R_far (p := ⟨gb311, 1, none⟩) (Kd.R_far (p := ⟨gb311, 0, none⟩) (Kd.R_types HO310.out BK311.out (by decide)) (fun _ hk => hk.2) (.slice Ao30 t305.length co30)) (fun _ hk => hk.2) (.slice Ao34 t308.length co34)) (fun _ h_ => h_.1)))); (case side4 => exact (Kd.R_reads' HO310.out).2.1); rintro e w35 ⟨v313, v316, rfl, ho0, ho1, hb⟩; refine ⟨_, rfl, ?_⟩; have n0_ := Aside0.mk (Kd.R_mono (Kd.R_told (Kd.R_told (Kd.R_old (by (with_reducible repeat (first | apply Kd.R_alloc | apply Kd.R_drewN | apply Kd.R_drew)); exact (Kd.R_mono (Kd.R_far (p := ⟨gb311, 1, none⟩) (Kd.R_far (p := ⟨gb311, 0, none⟩) (Kd.R_types HO293.out BK311.out (by decide)) (fun _ hk => hk.2) (.slice Ao30 t305.length co30)) (fun _ hk => hk.2) (.slice Ao34 t308.length co34)) (fun _ h_ => h_.1))) hb) (Kd.R_base ho0)) (Kd.R_base ho1)) (fun _ h_ => h_.1)); have n1_ := Aside0.mk (Kd.R_mono (Kd.R_told (Kd.R_told (Kd.R_old (by (with_reducible repeat (first | apply Kd.R_alloc | apply Kd.R_drewN | apply Kd.R_drew)); exact (Kd.R_mono (Kd.R_far (p := ⟨gb311, 1, none⟩) (Kd.R_far (p := ⟨gb311, 0, none⟩) (Kd.R_types HO296.out BK311.out (by decide)) (fun _ hk => hk.2) (.slice Ao30 t305.length co30)) (fun _ hk => hk.2) (.slice Ao34 t308.length co34)) (fun _ h_ => h_.1))) hb) (Kd.R_base ho0)) (Kd.R_base ho1)) (fun _ h_ => h_.1)); have n2_ := Aside0.mk (Kd.R_mono (Kd.R_told (Kd.R_told (Kd.R_old (by (with_reducible repeat (first | apply Kd.R_alloc | apply Kd.R_drewN | apply Kd.R_drew)); exact (Kd.R_mono (Kd.R_far (p := ⟨gb311, 1, none⟩) (Kd.R_far (p := ⟨gb311, 0, none⟩) (Kd.R_types HO299.out BK311.out (by decide)) (fun _ hk => hk.2) (.slice Ao30 t305.length co30)) (fun _ hk => hk.2) (.slice Ao34 t308.length co34)) (fun _ h_ => h_.1))) hb) (Kd.R_base ho0)) (Kd.R_base ho1)) (fun _ h_ => h_.1)); have n3_ := Aside0.mk (Kd.R_mono (Kd.R_told (Kd.R_told (Kd.R_old (by (with_reducible repeat (first | apply Kd.R_alloc | apply Kd.R_drewN | apply Kd.R_drew)); exact (Kd.R_mono (Kd.R_far (p := ⟨gb311, 1, none⟩) (Kd.R_far (p := ⟨gb311, 0, none⟩) (Kd.R_types HO302.out BK311.out (by decide)) (fun _ hk => hk.2) (.slice Ao30 t305.length co30)) (fun _ hk => hk.2) (.slice Ao34 t308.length co34)) (fun _ h_ => h_.1))) hb) (Kd.R_base ho0)) (Kd.R_base ho1)) (fun _ h_ => h_.1)); have n4_ := Aside0.mk (Kd.R_mono (Kd.R_told (Kd.R_told (Kd.R_old (by (with_reducible repeat (first | apply Kd.R_alloc | apply Kd.R_drewN | apply Kd.R_drew)); exact (Kd.R_mono (Kd.R_far (p := ⟨gb311, 1, none⟩) (Kd.R_far (p := ⟨gb311, 0, none⟩) (Kd.R_types HO307.out BK311.out (by decide)) (fun _ hk => hk.2) (.slice Ao30 t305.length co30)) (fun _ hk => hk.2) (.slice Ao34 t308.length co34)) (fun _ h_ => h_.1))) hb) (Kd.R_base ho0)) (Kd.R_base ho1)) (fun _ h_ => h_.1)); have n5_ := Aside0.mk (Kd.R_mono (Kd.R_told (Kd.R_told (Kd.R_old (by (with_reducible repeat (first | apply Kd.R_alloc | apply Kd.R_drewN | apply Kd.R_drew)); exact (Kd.R_mono (Kd.R_far (p := ⟨gb311, 1, none⟩) (Kd.R_far (p := ⟨gb311, 0, none⟩) (Kd.R_types HO310.out BK311.out (by decide)) (fun _ hk => hk.2) (.slice Ao30 t305.length co30)) (fun _ hk => hk.2) (.slice Ao34 t308.length co34)) (fun _ h_ => h_.1))) hb) (Kd.R_base ho0)) (Kd.R_base ho1)) (fun _ h_ => h_.1)); have n6_ := Aside0.mk (Kd.R_lower (Kd.R_new' (Kd.R_new' (Kd.R_new' (Kd.R_new' (Kd.R_new' (Kd.R_new' ho0 (Kd.R_lt (by (with_reducible repeat (first | apply Kd.R_alloc | apply Kd.R_drewN | apply Kd.R_drew)); exact (Kd.R_mono (Kd.R_far (p := ⟨gb311, 1, none⟩) (Kd.R_far (p := ⟨gb311, 0, none⟩) (Kd.R_types HO293.out BK311.out (by decide)) (fun _ hk => hk.2) (.slice Ao30 t305.length co30)) (fun _ hk => hk.2) (.slice Ao34 t308.length co34)) (fun _ h_ => h_.1))))) (Kd.R_lt (by (with_reducible repeat (first | apply Kd.R_alloc | apply Kd.R_drewN | apply Kd.R_drew)); exact (Kd.R_mono (Kd.R_far (p := ⟨gb311, 1, none⟩) (Kd.R_far (p := ⟨gb311, 0, none⟩) (Kd.R_types HO296.out BK311.out (by decide)) (fun _ hk => hk.2) (.slice Ao30 t305.length co30)) (fun _ hk => hk.2) (.slice Ao34 t308.length co34)) (fun _ h_ => h_.1))))) (Kd.R_lt (by (with_reducible repeat (first | apply Kd.R_alloc | apply Kd.R_drewN | apply Kd.R_drew)); exact (Kd.R_mono (Kd.R_far (p := ⟨gb311, 1, none⟩) (Kd.R_far (p := ⟨gb311, 0, none⟩) (Kd.R_types HO299.out BK311.out (by decide)) (fun _ hk => hk.2) (.slice Ao30 t305.length co30)) (fun _ hk => hk.2) (.slice Ao34 t308.length co34)) (fun _ h_ => h_.1))))) (Kd.R_lt (by (with_reducible repeat (first | apply Kd.R_alloc | apply Kd.R_drewN | apply Kd.R_drew)); exact (Kd.R_mono (Kd.R_far (p := ⟨gb311, 1, none⟩) (Kd.R_far (p := ⟨gb311, 0, none⟩) (Kd.R_types HO302.out BK311.out (by decide)) (fun _ hk => hk.2) (.slice Ao30 t305.length co30)) (fun _ hk => hk.2) (.slice Ao34 t308.length co34)) (fun _ h_ => h_.1))))) (Kd.R_lt (by (with_reducible repeat (first | apply Kd.R_alloc | apply Kd.R_drewN | apply Kd.R_drew)); exact (Kd.R_mono (Kd.R_far (p := ⟨gb311, 1, none⟩) (Kd.R_far (p := ⟨gb311, 0, none⟩) (Kd.R_types HO307.out BK311.out (by decide)) (fun _ hk => hk.2) (.slice Ao30 t305.length co30)) (fun _ hk => hk.2) (.slice Ao34 t308.length co34)) (fun _ h_ => h_.1))))) (Kd.R_lt (by (with_reducible repeat (first | apply Kd.R_alloc | apply Kd.R_drewN | apply Kd.R_drew)); exact (Kd.R_mono (Kd.R_far (p := ⟨gb311, 1, none⟩) (Kd.R_far (p := ⟨gb311, 0, none⟩) (Kd.R_types HO310.out BK311.out (by decide)) (fun _ hk => hk.2) (.slice Ao30 t305.length co30)) (fun _ hk => hk.2) (.slice Ao34 t308.length co34)) (fun _ h_ => h_.1))))) (below_size (by repeat (first | (with_reducible first | exact HB.out | apply below_alloc | apply pw_below_drewN | apply below_drew1 | refine below_set ?_ GE289.out | refine below_set ?_ GE304.out | refine below_set ?_ GE311.out) | exact HB.out)))); have n7_ := Aside0.mk (Kd.R_lower (Kd.R_new' (Kd.R_new' (Kd.R_new' (Kd.R_new' (Kd.R_new' (Kd.R_new' ho1 (Kd.R_lt (by (with_reducible repeat (first | apply Kd.R_alloc | apply Kd.R_drewN | apply Kd.R_drew)); exact (Kd.R_mono (Kd.R_far (p := ⟨gb311, 1, none⟩) (Kd.R_far (p := ⟨gb311, 0, none⟩) (Kd.R_types HO293.out BK311.out (by decide)) (fun _ hk => hk.2) (.slice Ao30 t305.length co30)) (fun _ hk => hk.2) (.slice Ao34 t308.length co34)) (fun _ h_ => h_.1))))) (Kd.R_lt (by (with_reducible repeat (first | apply Kd.R_alloc | apply Kd.R_drewN | apply Kd.R_drew)); exact (Kd.R_mono (Kd.R_far (p := ⟨gb311, 1, none⟩) (Kd.R_far (p := ⟨gb311, 0, none⟩) (Kd.R_types HO296.out BK311.out (by decide)) (fun _ hk => hk.2) (.slice Ao30 t305.length co30)) (fun _ hk => hk.2) (.slice Ao34 t308.length co34)) (fun _ h_ => h_.1))))) (Kd.R_lt (by (with_reducible repeat (first | apply Kd.R_alloc | apply Kd.R_drewN | apply Kd.R_drew)); exact (Kd.R_mono (Kd.R_far (p := ⟨gb311, 1, none⟩) (Kd.R_far (p := ⟨gb311, 0, none⟩) (Kd.R_types HO299.out BK311.out (by decide)) (fun _ hk => hk.2) (.slice Ao30 t305.length co30)) (fun _ hk => hk.2) (.slice Ao34 t308.length co34)) (fun _ h_ => h_.1))))) (Kd.R_lt (by (with_reducible repeat (first | apply Kd.R_alloc | apply Kd.R_drewN | apply Kd.R_drew)); exact (Kd.R_mono (Kd.R_far (p := ⟨gb311, 1, none⟩) (Kd.R_far (p := ⟨gb311, 0, none⟩) (Kd.R_types HO302.out BK311.out (by decide)) (fun _ hk => hk.2) (.slice Ao30 t305.length co30)) (fun _ hk => hk.2) (.slice Ao34 t308.length co34)) (fun _ h_ => h_.1))))) (Kd.R_lt (by (with_reducible repeat (first | apply Kd.R_alloc | apply Kd.R_drewN | apply Kd.R_drew)); exact (Kd.R_mono (Kd.R_far (p := ⟨gb311, 1, none⟩) (Kd.R_far (p := ⟨gb311, 0, none⟩) (Kd.R_types HO307.out BK311.out (by decide)) (fun _ hk => hk.2) (.slice Ao30 t305.length co30)) (fun _ hk => hk.2) (.slice Ao34 t308.length co34)) (fun _ h_ => h_.1))))) (Kd.R_lt (by (with_reducible repeat (first | apply Kd.R_alloc | apply Kd.R_drewN | apply Kd.R_drew)); exact (Kd.R_mono (Kd.R_far (p := ⟨gb311, 1, none⟩) (Kd.R_far (p := ⟨gb311, 0, none⟩) (Kd.R_types HO310.out BK311.out (by decide)) (fun _ hk => hk.2) (.slice Ao30 t305.length co30)) (fun _ hk => hk.2) (.slice Ao34 t308.length co34)) (fun _ h_ => h_.1))))) (below_size (by repeat (first | (with_reducible first | exact HB.out | apply below_alloc | apply pw_below_drewN | apply below_drew1 | refine below_set ?_ GE289.out | refine below_set ?_ GE304.out | refine below_set ?_ GE311.out) | exact HB.out)))); have n8_ := Aside0.mk (blk_below (g := gb289) (o := .cells #[.slice A0_0 l0_0.length c0_0, .slice A0_1 l0_1.length c0_1] 24 (0, 0)) (by (with_reducible repeat (first | refine blk_drewN ?_ _ | refine blk_drew ?_ | refine blk_alloc ?_ _)); refine blk_far ?_ NB289_311.out _; (with_reducible repeat (first | refine blk_drewN ?_ _ | refine blk_drew ?_ | refine blk_alloc ?_ _)); refine blk_far ?_ NB289_311.out _; (with_reducible repeat (first | refine blk_drewN ?_ _ | refine blk_drew ?_ | refine blk_alloc ?_ _)); exact BK289.out) hb); have n9_ := Aside0.mk (blk_below (g := gb304) (o := .cells #[.slice Ao23 t297.length co23, .slice Ao26 t300.length co26] 27 (0, 0)) (by (with_reducible repeat (first | refine blk_drewN ?_ _ | refine blk_drew ?_ | refine blk_alloc ?_ _)); refine blk_far ?_ NB304_311.out _; (with_reducible repeat (first | refine blk_drewN ?_ _ | refine blk_drew ?_ | refine blk_alloc ?_ _)); refine blk_far ?_ NB304_311.out _; (with_reducible repeat (first | refine blk_drewN ?_ _ | refine blk_drew ?_ | refine blk_alloc ?_ _)); exact BK304.out) hb); have n10_ := Aside0.mk (blk_below (g := gb311) (o := .cells #[.slice Ao30 t305.length co30, .slice Ao34 t308.length co34] 27 (0, 0)) (by (with_reducible repeat (first | refine blk_drewN ?_ _ | refine blk_drew ?_ | refine blk_alloc ?_ _)); refine blk_put (cs := #[.slice Ao30 t305.length co30, .slice none 0 0]) ?_ 1 _ rfl; (with_reducible repeat (first | refine blk_drewN ?_ _ | refine blk_drew ?_ | refine blk_alloc ?_ _)); refine blk_put (cs := #[.slice none 0 0, .slice none 0 0]) ?_ 0 _ rfl; (with_reducible repeat (first | refine blk_drewN ?_ _ | refine blk_drew ?_ | refine blk_alloc ?_ _)); exact BK311.out) hb); have n11_ := Aside0.mk (below_step (by repeat (first | (with_reducible first | exact HB.out | apply below_alloc | apply pw_below_drewN | apply below_drew1 | refine below_set ?_ GE289.out | refine below_set ?_ GE304.out | refine below_set ?_ GE311.out) | exact HB.out)) hb); clear HO293; clear HO296; clear HO299; clear HO302; clear HO307; clear HO310; clear BK289; clear BK304; clear BK311; clear HB; have HO293 := n0_; have HO296 := n1_; have HO299 := n2_; have HO302 := n3_; have HO307 := n4_; have HO310 := n5_; have HO314 := n6_; have HO317 := n7_; have BK289 := n8_; have BK304 := n9_; have BK311 := n10_; have HB := n11_; clear n0_ n1_ n2_ n3_ n4_ n5_ n6_ n7_ n8_ n9_ n10_ n11_; (try clear hb); (try clear hb2); (try clear hk); (try clear hi); (try clear ho0); (try clear ho1)) | ((with_reducible refine gate_dst (N := 11) rfl ?_); refine box_event ?hg (N := 11) ?hd (cs := #[.slice none 0 0, .slice none 0 0]) (t := 27) ?hr ?_; (case hd => rfl); (case hg => rfl); (case hr => first | (go_simp; done) | (go_simp; rfl)); intro gb319 hg w36 hbox hb; have n0_ := Aside0.mk (Kd.R_below (by (with_reducible repeat (first | apply Kd.R_alloc | apply Kd.R_drewN | apply Kd.R_drew)); exact HO293.out) hb); have n1_ := Aside0.mk (Kd.R_below (by (with_reducible repeat (first | apply Kd.R_alloc | apply Kd.R_drewN | apply Kd.R_drew)); exact HO296.out) hb); have n2_ := Aside0.mk (Kd.R_below (by (with_reducible repeat (first | apply Kd.R_alloc | apply Kd.R_drewN | apply Kd.R_drew)); exact HO299.out) hb); have n3_ := Aside0.mk (Kd.R_below (by (with_reducible repeat (first | apply Kd.R_alloc | apply Kd.R_drewN | apply Kd.R_drew)); exact HO302.out) hb); have n4_ := Aside0.mk (Kd.R_below (by (with_reducible repeat (first | apply Kd.R_alloc | apply Kd.R_drewN | apply Kd.R_drew)); exact HO307.out) hb); have n5_ := Aside0.mk (Kd.R_below (by (with_reducible repeat (first | apply Kd.R_alloc | apply Kd.R_drewN | apply Kd.R_drew)); exact HO310.out) hb); have n6_ := Aside0.mk (Kd.R_below (by (with_reducible repeat (first | apply Kd.R_alloc | apply Kd.R_drewN | apply Kd.R_drew)); exact HO314.out) hb); have n7_ := Aside0.mk (Kd.R_below (by (with_reducible repeat (first | apply Kd.R_alloc | apply Kd.R_drewN | apply Kd.R_drew)); exact HO317.out) hb); have n8_ := Aside0.mk (blk_below (g := gb289) (o := .cells #[.slice A0_0 l0_0.length c0_0, .slice A0_1 l0_1.length c0_1] 24 (0, 0)) (by (with_reducible repeat (first | refine blk_drewN ?_ _ | refine blk_drew ?_ | refine blk_alloc ?_ _)); exact BK289.out) hb); have n9_ := Aside0.mk (blk_below (g := gb304) (o := .cells #[.slice Ao23 t297.length co23, .slice Ao26 t300.length co26] 27 (0, 0)) (by (with_reducible repeat (first | refine blk_drewN ?_ _ | refine blk_drew ?_ | refine blk_alloc ?_ _)); exact BK304.out) hb); have n10_ := Aside0.mk (blk_below (g := gb311) (o := .cells #[.slice Ao30 t305.length co30, .slice Ao34 t308.length co34] 27 (0, 0)) (by (with_reducible repeat (first | refine blk_drewN ?_ _ | refine blk_drew ?_ | refine blk_alloc ?_ _)); exact BK311.out) hb); have n11_ := Aside0.mk (below_step (by repeat (first | (with_reducible first | exact HB.out | apply below_alloc | apply pw_below_drewN | apply below_drew1 | refine below_set ?_ GE289.out | refine below_set ?_ GE304.out | refine below_set ?_ GE311.out) | exact HB.out)) hb); have n12_ := Aside0.mk (hbox); have n13_ := Aside0.mk ((by rw [hg]; exact (below_size (by repeat (first | (with_reducible first | exact HB.out | apply below_alloc | apply pw_below_drewN | apply below_drew1 | refine below_set ?_ GE289.out | refine below_set ?_ GE304.out | refine below_set ?_ GE311.out) | exact HB.out))) : w.heap.size ≤ gb319)); have n14_ := Aside0.mk ((by rw [hg]; exact (below_size (by repeat (first | (with_reducible first | exact HB.out | apply below_alloc | apply pw_below_drewN | apply below_drew1 | refine below_set ?_ GE289.out | refine below_set ?_ GE304.out | refine below_set ?_ GE311.out) | exact HB.out))) : w.heap.size ≤ gb319)); have n15_ := Aside0.mk ((by rw [hg]; exact Nat.ne_of_lt (blk_lt (g := gb289) (o := .cells #[.slice A0_0 l0_0.length c0_0, .slice A0_1 l0_1.length c0_1] 24 (0, 0)) (by (with_reducible repeat (first | refine blk_drewN ?_ _ | refine blk_drew ?_ | refine blk_alloc ?_ _)); exact BK289.out)) : gb289 ≠ gb319)); have n16_ := Aside0.mk ((by rw [hg]; exact Nat.ne_of_gt (blk_lt (g := gb289) (o := .cells #[.slice A0_0 l0_0.length c0_0, .slice A0_1 l0_1.length c0_1] 24 (0, 0)) (by (with_reducible repeat (first | refine blk_drewN ?_ _ | refine blk_drew ?_ | refine blk_alloc ?_ _)); exact BK289.out)) : gb319 ≠ gb289)); have n17_ := Aside0.mk ((by rw [hg]; exact Nat.ne_of_lt (blk_lt (g := gb304) (o := .cells #[.slice Ao23 t297.length co23, .slice Ao26 t300.length co26] 27 (0, 0)) (by (with_reducible repeat (first | refine blk_drewN ?_ _ | refine blk_drew ?_ | refine blk_alloc ?_ _)); exact BK304.out)) : gb304 ≠ gb319)); have n18_ := Aside0.mk ((by rw [hg]; exact Nat.ne_of_gt (blk_lt (g := gb304) (o := .cells #[.slice Ao23 t297.length co23, .slice Ao26 t300.length co26] 27 (0, 0)) (by (with_reducible repeat (first | refine blk_drewN ?_ _ | refine blk_drew ?_ | refine blk_alloc ?_ _)); exact BK304.out)) : gb319 ≠ gb304)); have n19_ := Aside0.mk ((by rw [hg]; exact Nat.ne_of_lt (blk_lt (g := gb311) (o := .cells #[.slice Ao30 t305.length co30, .slice Ao34 t308.length co34] 27 (0, 0)) (by (with_reducible repeat (first | refine blk_drewN ?_ _ | refine blk_drew ?_ | refine blk_alloc ?_ _)); exact BK311.out)) : gb311 ≠ gb319)); have n20_ := Aside0.mk ((by rw [hg]; exact Nat.ne_of_gt (blk_lt (g := gb311) (o := .cells #[.slice Ao30 t305.length co30, .slice Ao34 t308.length co34] 27 (0, 0)) (by (with_reducible repeat (first | refine blk_drewN ?_ _ | refine blk_drew ?_ | refine blk_alloc ?_ _)); exact BK311.out)) : gb319 ≠ gb311)); clear HO293; clear HO296; clear HO299; clear HO302; clear HO307; clear HO310; clear HO314; clear HO317; clear BK289; clear BK304; clear BK311; clear HB; have HO293 := n0_; have HO296 := n1_; have HO299 := n2_; have HO302 := n3_; have HO307 := n4_; have HO310 := n5_; have HO314 := n6_; have HO317 := n7_; have BK289 := n8_; have BK304 := n9_; have BK311 := n10_; have HB := n11_; have BK319 := n12_; have GW319 := n13_; have GE319 := n14_; have NB289_319 := n15_; have NB319_289 := n16_; have NB304_319 := n17_; have NB319_304 := n18_; have NB311_319 := n19_; have NB319_311 := n20_; clear n0_ n1_ n2_ n3_ n4_ n5_ n6_ n7_ n8_ n9_ n10_ n11_ n12_ n13_ n14_ n15_ n16_ n17_ n18_ n19_ n20_; clear hb hbox hg; obtain ⟨Ao37, co37, eo37⟩ := Kd.R_slice HO314.out; subst eo37; have hnb38 := NB319_289.out; have hnc38 := NB289_319.out; have hnb39 := NB319_304.out; have hnc39 := NB304_319.out; have hnb40 := NB319_311.out; have hnc40 := NB311_319.out; have hcz41_0 : w36.cell? ⟨gb319, 0, none⟩ = some (.slice none 0 0) := (blk_cell BK319.out 0).trans rfl; have hcz41_1 : w36.cell? ⟨gb319, 1, none⟩ = some (.slice none 0 0) := (blk_cell BK319.out 1).trans rfl; have hfz41_0 := blk_frozen BK319.out 0; have hfz41_1 := blk_frozen BK319.out 1; obtain ⟨Ao42, co42, eo42⟩ := Kd.R_slice HO317.out; subst eo42))
  (try simp only [Act.put, List.setIfInBounds_toArray, List.set_cons_zero, List.set_cons_succ])
  go_cut [48] (fun v48 wc => ∃ (kq : Nat) (x48_12 : Bool), v48 = .bool x48_12 ∧ Aside0 (laws_FnExactAfterOpening.j0 kq a1 a2 t303 t318 x48_12 l0_0 l0_1 t297 t300 t305 t308 t312 t315 = some r) ∧ Aside0 (kq ≤ k) ∧ Aside0 (Kd.R (Kd.int .i64) 2 wc w.heap.size (fun k_ => some k_ ≠ ((.slice Ao26 t300.length co26) : Value).ownBlock ∧ some k_ ≠ ((.slice Ao30 t305.length co30) : Value).ownBlock ∧ some k_ ≠ ((.slice Ao34 t308.length co34) : Value).ownBlock ∧ some k_ ≠ ((.slice Ao37 t312.length co37) : Value).ownBlock ∧ some k_ ≠ ((.slice Ao42 t315.length co42) : Value).ownBlock) (.slice Ao23 t297.length co23) t297) ∧ Aside0 (Kd.R (Kd.int .i64) 2 wc w.heap.size (fun k_ => some k_ ≠ ((.slice Ao23 t297.length co23) : Value).ownBlock ∧ some k_ ≠ ((.slice Ao30 t305.length co30) : Value).ownBlock ∧ some k_ ≠ ((.slice Ao34 t308.length co34) : Value).ownBlock ∧ some k_ ≠ ((.slice Ao37 t312.length co37) : Value).ownBlock ∧ some k_ ≠ ((.slice Ao42 t315.length co42) : Value).ownBlock) (.slice Ao26 t300.length co26) t300) ∧ Aside0 (Kd.R (Kd.int .i64) 2 wc w.heap.size (fun k_ => some k_ ≠ ((.slice Ao23 t297.length co23) : Value).ownBlock ∧ some k_ ≠ ((.slice Ao26 t300.length co26) : Value).ownBlock ∧ some k_ ≠ ((.slice Ao34 t308.length co34) : Value).ownBlock ∧ some k_ ≠ ((.slice Ao37 t312.length co37) : Value).ownBlock ∧ some k_ ≠ ((.slice Ao42 t315.length co42) : Value).ownBlock) (.slice Ao30 t305.length co30) t305) ∧ Aside0 (Kd.R (Kd.int .i64) 2 wc w.heap.size (fun k_ => some k_ ≠ ((.slice Ao23 t297.length co23) : Value).ownBlock ∧ some k_ ≠ ((.slice Ao26 t300.length co26) : Value).ownBlock ∧ some k_ ≠ ((.slice Ao30 t305.length co30) : Value).ownBlock ∧ some k_ ≠ ((.slice Ao37 t312.length co37) : Value).ownBlock ∧ some k_ ≠ ((.slice Ao42 t315.length co42) : Value).ownBlock) (.slice Ao34 t308.length co34) t308) ∧ Aside0 (Kd.R (Kd.int .i64) 2 wc w.heap.size (fun k_ => some k_ ≠ ((.slice Ao23 t297.length co23) : Value).ownBlock ∧ some k_ ≠ ((.slice Ao26 t300.length co26) : Value).ownBlock ∧ some k_ ≠ ((.slice Ao30 t305.length co30) : Value).ownBlock ∧ some k_ ≠ ((.slice Ao34 t308.length co34) : Value).ownBlock ∧ some k_ ≠ ((.slice Ao42 t315.length co42) : Value).ownBlock) (.slice Ao37 t312.length co37) t312) ∧ Aside0 (Kd.R (Kd.int .i64) 2 wc w.heap.size (fun k_ => some k_ ≠ ((.slice Ao23 t297.length co23) : Value).ownBlock ∧ some k_ ≠ ((.slice Ao26 t300.length co26) : Value).ownBlock ∧ some k_ ≠ ((.slice Ao30 t305.length co30) : Value).ownBlock ∧ some k_ ≠ ((.slice Ao34 t308.length co34) : Value).ownBlock ∧ some k_ ≠ ((.slice Ao37 t312.length co37) : Value).ownBlock) (.slice Ao42 t315.length co42) t315) ∧ Aside0 (wc.heap[gb289]? = some (.cells #[(.slice A0_0 l0_0.length c0_0), (.slice A0_1 l0_1.length c0_1)] 24 (0, 0))) ∧ Aside0 (wc.heap[gb304]? = some (.cells #[(.slice Ao23 t297.length co23), (.slice Ao26 t300.length co26)] 27 (0, 0))) ∧ Aside0 (wc.heap[gb311]? = some (.cells #[(.slice Ao30 t305.length co30), (.slice Ao34 t308.length co34)] 27 (0, 0))) ∧ Aside0 (wc.heap[gb319]? = some (.cells #[(.slice Ao37 t312.length co37), (.slice Ao42 t315.length co42)] 27 (0, 0))) ∧ Aside0 (Below w.heap.size w wc))
  case first =>
   have H := HC13.out
   clear HC13
   replace H := Option.bind_eq_some_iff.mp H
   obtain ⟨t320, A430, H⟩ := H
   replace H : (if t320 = true then (laws_FnExactAfterOpening.j0 k a1 a2 t303 t318 (t318 != t303) l0_0 l0_1 t297 t300 t305 t308 t312 t315) else (laws_FnExactAfterOpening.j0 k a1 a2 t303 t318 true l0_0 l0_1 t297 t300 t305 t308 t312 t315)) = some r := H
   have A43 := Aside0.mk A430
   clear A430
   by_cases c44 : t320 = true
   ·subst c44
    have H1 : (laws_FnExactAfterOpening.j0 k a1 a2 t303 t318 (t318 != t303) l0_0 l0_1 t297 t300 t305 t308 t312 t315) = some r := by rw [if_pos rfl] at H; exact H
    clear H
    have H := H1
    clear H1
    have H' := Aside0.mk H
    clear H
    have hnb45 := NB319_289.out
    have hnc45 := NB289_319.out
    have hnb46 := NB319_304.out
    have hnc46 := NB304_319.out
    have hnb47 := NB319_311.out
    have hnc47 := NB311_319.out
    have hcz48_0 : w36.cell? ⟨gb319, 0, none⟩ = some (.slice none 0 0) := (blk_cell BK319.out 0).trans rfl
    have hcz48_1 : w36.cell? ⟨gb319, 1, none⟩ = some (.slice none 0 0) := (blk_cell BK319.out 1).trans rfl
    have hfz48_0 := blk_frozen BK319.out 0
    have hfz48_1 := blk_frozen BK319.out 1
    have hnb49 := NB304_289.out
    have hnc49 := NB289_304.out
    have hnb50 := NB304_311.out
    have hnc50 := NB311_304.out
    have hcz51_0 : w36.cell? ⟨gb304, 0, none⟩ = some (.slice Ao23 t297.length co23) := (blk_cell BK304.out 0).trans rfl
    have hcz51_1 : w36.cell? ⟨gb304, 1, none⟩ = some (.slice Ao26 t300.length co26) := (blk_cell BK304.out 1).trans rfl
    have hfz51_0 := blk_frozen BK304.out 0
    have hfz51_1 := blk_frozen BK304.out 1
    go_wp2_with (first | ((with_reducible refine gate_callee (f := 19) rfl ?_); refine goesL_ (some 42) rfl rfl Try.func19 (by kernel_rfl) rfl #[.agg #[.slice Ao37 t312.length co37, .slice Ao42 t315.length co42], .agg #[.slice Ao23 t297.length co23, .slice Ao26 t300.length co26]] rfl (by (try simp only [List.map_toArray, List.map_cons, List.map_nil]); first | done | rfl | (simp only [List.length_drop, List.length_take]; rfl)) ?_; (with_reducible refine (laws_eqEnding.calls k _ _ t312 _ _ t315 _ _ t297 _ _ t300 true _ ?side1 ?side2 ?side3 ?side4 ?side5 ?side6 ?side7 ?side8 A43.out).mono ?_); (case side1 => refine (Kd.R_reads' (e := 2) (base := w.heap.size) (ok := fun k_ => ((((((some k_ ≠ (.slice Ao42 t315.length co42 : Value).ownBlock ∧ some k_ ≠ (.slice Ao19 t291.length co19 : Value).ownBlock) ∧ some k_ ≠ (.slice Ao20 t294.length co20 : Value).ownBlock) ∧ some k_ ≠ (.slice Ao23 t297.length co23 : Value).ownBlock) ∧ some k_ ≠ (.slice Ao26 t300.length co26 : Value).ownBlock) ∧ some k_ ≠ (.slice Ao30 t305.length co30 : Value).ownBlock) ∧ some k_ ≠ (.slice Ao34 t308.length co34 : Value).ownBlock)) (n := t312.length) (c := co37) ?_).2.2; exact (by (with_reducible repeat (first | apply Kd.R_alloc | apply Kd.R_drewN | apply Kd.R_drew)); exact (Kd.R_mono (Kd.R_far (p := ⟨gb319, 1, none⟩) (Kd.R_far (p := ⟨gb319, 0, none⟩) (Kd.R_types HO314.out BK319.out (by decide)) (fun _ hk => hk.2) (.slice Ao37 t312.length co37)) (fun _ hk => hk.2) (.slice Ao42 t315.length co42)) (fun _ h_ => h_.1)))); (case side2 => exact (Kd.R_reads' HO314.out).2.1); (case side3 => refine (Kd.R_reads' (e := 2) (base := w.heap.size) (ok := fun k_ => ((((((some k_ ≠ (.slice Ao37 t312.length co37 : Value).ownBlock ∧ some k_ ≠ (.slice Ao19 t291.length co19 : Value).ownBlock) ∧ some k_ ≠ (.slice Ao20 t294.length co20 : Value).ownBlock) ∧ some k_ ≠ (.slice Ao23 t297.length co23 : Value).ownBlock) ∧ some k_ ≠ (.slice Ao26 t300.length co26 : Value).ownBlock) ∧ some k_ ≠ (.slice Ao30 t305.length co30 : Value).ownBlock) ∧ some k_ ≠ (.slice Ao34 t308.length co34 : Value).ownBlock)) (n := t315.length) (c := co42) ?_).2.2; exact (by (with_reducible repeat (first | apply Kd.R_alloc | apply Kd.R_drewN | apply Kd.R_drew)); exact (Kd.R_mono (Kd.R_far (p := ⟨gb319, 1, none⟩) (Kd.R_far (p := ⟨gb319, 0, none⟩) (Kd.R_types HO317.out BK319.out (by decide)) (fun _ hk => hk.2) (.slice Ao37 t312.length co37)) (fun _ hk => hk.2) (.slice Ao42 t315.length co42)) (fun _ h_ => h_.1)))); (case side4 => exact (Kd.R_reads' HO317.out).2.1); (case side5 => refine (Kd.R_reads' (e := 2) (base := w.heap.size) (ok := fun k_ => ((((((some k_ ≠ (.slice Ao26 t300.length co26 : Value).ownBlock ∧ some k_ ≠ (.slice Ao19 t291.length co19 : Value).ownBlock) ∧ some k_ ≠ (.slice Ao20 t294.length co20 : Value).ownBlock) ∧ some k_ ≠ (.slice Ao30 t305.length co30 : Value).ownBlock) ∧ some k_ ≠ (.slice Ao34 t308.length co34 : Value).ownBlock) ∧ some k_ ≠ (.slice Ao37 t312.length co37 : Value).ownBlock) ∧ some k_ ≠ (.slice Ao42 t315.length co42 : Value).ownBlock)) (n := t297.length) (c := co23) ?_).2.2; exact (by (with_reducible repeat (first | apply Kd.R_alloc | apply Kd.R_drewN | apply Kd.R_drew)); exact (Kd.R_mono (Kd.R_far (p := ⟨gb319, 1, none⟩) (Kd.R_far (p := ⟨gb319, 0, none⟩) (Kd.R_types HO299.out BK319.out (by decide)) (fun _ hk => hk.2) (.slice Ao37 t312.length co37)) (fun _ hk => hk.2) (.slice Ao42 t315.length co42)) (fun _ h_ => h_.1)))); (case side6 => exact (Kd.R_reads' HO299.out).2.1); (case side7 => refine (Kd.R_reads' (e := 2) (base := w.heap.size) (ok := fun k_ => ((((((some k_ ≠ (.slice Ao23 t297.length co23 : Value).ownBlock ∧ some k_ ≠ (.slice Ao19 t291.length co19 : Value).ownBlock) ∧ some k_ ≠ (.slice Ao20 t294.length co20 : Value).ownBlock) ∧ some k_ ≠ (.slice Ao30 t305.length co30 : Value).ownBlock) ∧ some k_ ≠ (.slice Ao34 t308.length co34 : Value).ownBlock) ∧ some k_ ≠ (.slice Ao37 t312.length co37 : Value).ownBlock) ∧ some k_ ≠ (.slice Ao42 t315.length co42 : Value).ownBlock)) (n := t300.length) (c := co26) ?_).2.2; exact (by (with_reducible repeat (first | apply Kd.R_alloc | apply Kd.R_drewN | apply Kd.R_drew)); exact (Kd.R_mono (Kd.R_far (p := ⟨gb319, 1, none⟩) (Kd.R_far (p := ⟨gb319, 0, none⟩) (Kd.R_types HO302.out BK319.out (by decide)) (fun _ hk => hk.2) (.slice Ao37 t312.length co37)) (fun _ hk => hk.2) (.slice Ao42 t315.length co42)) (fun _ h_ => h_.1)))); (case side8 => exact (Kd.R_reads' HO302.out).2.1); rintro e w52 ⟨rfl, hb⟩; refine ⟨_, rfl, ?_⟩; have n0_ := Aside0.mk (Kd.R_below (by (with_reducible repeat (first | apply Kd.R_alloc | apply Kd.R_drewN | apply Kd.R_drew)); exact (Kd.R_mono (Kd.R_far (p := ⟨gb319, 1, none⟩) (Kd.R_far (p := ⟨gb319, 0, none⟩) (Kd.R_types HO293.out BK319.out (by decide)) (fun _ hk => hk.2) (.slice Ao37 t312.length co37)) (fun _ hk => hk.2) (.slice Ao42 t315.length co42)) (fun _ h_ => h_.1))) hb); have n1_ := Aside0.mk (Kd.R_below (by (with_reducible repeat (first | apply Kd.R_alloc | apply Kd.R_drewN | apply Kd.R_drew)); exact (Kd.R_mono (Kd.R_far (p := ⟨gb319, 1, none⟩) (Kd.R_far (p := ⟨gb319, 0, none⟩) (Kd.R_types HO296.out BK319.out (by decide)) (fun _ hk => hk.2) (.slice Ao37 t312.length co37)) (fun _ hk => hk.2) (.slice Ao42 t315.length co42)) (fun _ h_ => h_.1))) hb); have n2_ := Aside0.mk (Kd.R_below (by (with_reducible repeat (first | apply Kd.R_alloc | apply Kd.R_drewN | apply Kd.R_drew)); exact (Kd.R_mono (Kd.R_far (p := ⟨gb319, 1, none⟩) (Kd.R_far (p := ⟨gb319, 0, none⟩) (Kd.R_types HO299.out BK319.out (by decide)) (fun _ hk => hk.2) (.slice Ao37 t312.length co37)) (fun _ hk => hk.2) (.slice Ao42 t315.length co42)) (fun _ h_ => h_.1))) hb); have n3_ := Aside0.mk (Kd.R_below (by (with_reducible repeat (first | apply Kd.R_alloc | apply Kd.R_drewN | apply Kd.R_drew)); exact (Kd.R_mono (Kd.R_far (p := ⟨gb319, 1, none⟩) (Kd.R_far (p := ⟨gb319, 0, none⟩) (Kd.R_types HO302.out BK319.out (by decide)) (fun _ hk => hk.2) (.slice Ao37 t312.length co37)) (fun _ hk => hk.2) (.slice Ao42 t315.length co42)) (fun _ h_ => h_.1))) hb); have n4_ := Aside0.mk (Kd.R_below (by (with_reducible repeat (first | apply Kd.R_alloc | apply Kd.R_drewN | apply Kd.R_drew)); exact (Kd.R_mono (Kd.R_far (p := ⟨gb319, 1, none⟩) (Kd.R_far (p := ⟨gb319, 0, none⟩) (Kd.R_types HO307.out BK319.out (by decide)) (fun _ hk => hk.2) (.slice Ao37 t312.length co37)) (fun _ hk => hk.2) (.slice Ao42 t315.length co42)) (fun _ h_ => h_.1))) hb); have n5_ := Aside0.mk (Kd.R_below (by (with_reducible repeat (first | apply Kd.R_alloc | apply Kd.R_drewN | apply Kd.R_drew)); exact (Kd.R_mono (Kd.R_far (p := ⟨gb319, 1, none⟩) (Kd.R_far (p := ⟨gb319, 0, none⟩) (Kd.R_types HO310.out BK319.out (by decide)) (fun _ hk => hk.2) (.slice Ao37 t312.length co37)) (fun _ hk => hk.2) (.slice Ao42 t315.length co42)) (fun _ h_ => h_.1))) hb); have n6_ := Aside0.mk (Kd.R_below (by (with_reducible repeat (first | apply Kd.R_alloc | apply Kd.R_drewN | apply Kd.R_drew)); exact (Kd.R_mono (Kd.R_far (p := ⟨gb319, 1, none⟩) (Kd.R_far (p := ⟨gb319, 0, none⟩) (Kd.R_types HO314.out BK319.out (by decide)) (fun _ hk => hk.2) (.slice Ao37 t312.length co37)) (fun _ hk => hk.2) (.slice Ao42 t315.length co42)) (fun _ h_ => h_.1))) hb); have n7_ := Aside0.mk (Kd.R_below (by (with_reducible repeat (first | apply Kd.R_alloc | apply Kd.R_drewN | apply Kd.R_drew)); exact (Kd.R_mono (Kd.R_far (p := ⟨gb319, 1, none⟩) (Kd.R_far (p := ⟨gb319, 0, none⟩) (Kd.R_types HO317.out BK319.out (by decide)) (fun _ hk => hk.2) (.slice Ao37 t312.length co37)) (fun _ hk => hk.2) (.slice Ao42 t315.length co42)) (fun _ h_ => h_.1))) hb); have n8_ := Aside0.mk (blk_below (g := gb289) (o := .cells #[.slice A0_0 l0_0.length c0_0, .slice A0_1 l0_1.length c0_1] 24 (0, 0)) (by (with_reducible repeat (first | refine blk_drewN ?_ _ | refine blk_drew ?_ | refine blk_alloc ?_ _)); refine blk_far ?_ NB289_319.out _; (with_reducible repeat (first | refine blk_drewN ?_ _ | refine blk_drew ?_ | refine blk_alloc ?_ _)); refine blk_far ?_ NB289_319.out _; (with_reducible repeat (first | refine blk_drewN ?_ _ | refine blk_drew ?_ | refine blk_alloc ?_ _)); exact BK289.out) hb); have n9_ := Aside0.mk (blk_below (g := gb304) (o := .cells #[.slice Ao23 t297.length co23, .slice Ao26 t300.length co26] 27 (0, 0)) (by (with_reducible repeat (first | refine blk_drewN ?_ _ | refine blk_drew ?_ | refine blk_alloc ?_ _)); refine blk_far ?_ NB304_319.out _; (with_reducible repeat (first | refine blk_drewN ?_ _ | refine blk_drew ?_ | refine blk_alloc ?_ _)); refine blk_far ?_ NB304_319.out _; (with_reducible repeat (first | refine blk_drewN ?_ _ | refine blk_drew ?_ | refine blk_alloc ?_ _)); exact BK304.out) hb); have n10_ := Aside0.mk (blk_below (g := gb311) (o := .cells #[.slice Ao30 t305.length co30, .slice Ao34 t308.length co34] 27 (0, 0)) (by (with_reducible repeat (first | refine blk_drewN ?_ _ | refine blk_drew ?_ | refine blk_alloc ?_ _)); refine blk_far ?_ NB311_319.out _; (with_reducible repeat (first | refine blk_drewN ?_ _ | refine blk_drew ?_ | refine blk_alloc ?_ _)); refine blk_far ?_ NB311_319.out _; (with_reducible repeat (first | refine blk_drewN ?_ _ | refine blk_drew ?_ | refine blk_alloc ?_ _)); exact BK311.out) hb); have n11_ := Aside0.mk (blk_below (g := gb319) (o := .cells #[.slice Ao37 t312.length co37, .slice Ao42 t315.length co42] 27 (0, 0)) (by (with_reducible repeat (first | refine blk_drewN ?_ _ | refine blk_drew ?_ | refine blk_alloc ?_ _)); refine blk_put (cs := #[.slice Ao37 t312.length co37, .slice none 0 0]) ?_ 1 _ rfl; (with_reducible repeat (first | refine blk_drewN ?_ _ | refine blk_drew ?_ | refine blk_alloc ?_ _)); refine blk_put (cs := #[.slice none 0 0, .slice none 0 0]) ?_ 0 _ rfl; (with_reducible repeat (first | refine blk_drewN ?_ _ | refine blk_drew ?_ | refine blk_alloc ?_ _)); exact BK319.out) hb); have n12_ := Aside0.mk (below_step (by repeat (first | (with_reducible first | exact HB.out | apply below_alloc | apply pw_below_drewN | apply below_drew1 | refine below_set ?_ GE289.out | refine below_set ?_ GE304.out | refine below_set ?_ GE311.out | refine below_set ?_ GE319.out) | exact HB.out)) hb); clear HO293; clear HO296; clear HO299; clear HO302; clear HO307; clear HO310; clear HO314; clear HO317; clear BK289; clear BK304; clear BK311; clear BK319; clear HB; have HO293 := n0_; have HO296 := n1_; have HO299 := n2_; have HO302 := n3_; have HO307 := n4_; have HO310 := n5_; have HO314 := n6_; have HO317 := n7_; have BK289 := n8_; have BK304 := n9_; have BK311 := n10_; have BK319 := n11_; have HB := n12_; clear n0_ n1_ n2_ n3_ n4_ n5_ n6_ n7_ n8_ n9_ n10_ n11_ n12_; (try clear hb); (try clear hb2); (try clear hk); (try clear hi)))
    go_meet
    case rel => exact ⟨_, ((t318 != t303)), rfl, H', ⟨by first | omega | exact Nat.le_refl _⟩, ⟨by exact Kd.R_mono HO299.out (fun _ hk => ⟨hk.1.1.1.1.1.1, ⟨hk.1.1.1.2, ⟨hk.1.1.2, ⟨hk.1.2, hk.2⟩⟩⟩⟩)⟩, ⟨by exact Kd.R_mono HO302.out (fun _ hk => ⟨hk.1.1.1.1.1.1, ⟨hk.1.1.1.2, ⟨hk.1.1.2, ⟨hk.1.2, hk.2⟩⟩⟩⟩)⟩, ⟨by exact Kd.R_mono HO307.out (fun _ hk => ⟨hk.1.1.1.2, ⟨hk.1.1.2, ⟨hk.1.1.1.1.1.1, ⟨hk.1.2, hk.2⟩⟩⟩⟩)⟩, ⟨by exact Kd.R_mono HO310.out (fun _ hk => ⟨hk.1.1.1.2, ⟨hk.1.1.2, ⟨hk.1.1.1.1.1.1, ⟨hk.1.2, hk.2⟩⟩⟩⟩)⟩, ⟨by exact Kd.R_mono HO314.out (fun _ hk => ⟨hk.1.1.1.2, ⟨hk.1.1.2, ⟨hk.1.2, ⟨hk.2, hk.1.1.1.1.1.1⟩⟩⟩⟩)⟩, ⟨by exact Kd.R_mono HO317.out (fun _ hk => ⟨hk.1.1.1.2, ⟨hk.1.1.2, ⟨hk.1.2, ⟨hk.2, hk.1.1.1.1.1.1⟩⟩⟩⟩)⟩, ⟨by exact BK289.out⟩, ⟨by exact BK304.out⟩, ⟨by exact BK311.out⟩, ⟨by exact BK319.out⟩, ⟨by repeat (first | (with_reducible first | exact HB.out | apply below_alloc | apply pw_below_drewN | apply below_drew1 | refine below_set ?_ GE289.out | refine below_set ?_ GE304.out | refine below_set ?_ GE311.out | refine below_set ?_ GE319.out) | exact HB.out)⟩⟩
   ·replace c44 := Bool.eq_false_iff.mpr c44
    subst c44
    have H1 : (laws_FnExactAfterOpening.j0 k a1 a2 t303 t318 true l0_0 l0_1 t297 t300 t305 t308 t312 t315) = some r := by rw [if_neg (show ¬ (false = true) by decide)] at H; exact H
    clear H
    have H := H1
    clear H1
    have H' := Aside0.mk H
    clear H
    have hnb53 := NB319_289.out
    have hnc53 := NB289_319.out
    have hnb54 := NB319_304.out
    have hnc54 := NB304_319.out
    have hnb55 := NB319_311.out
    have hnc55 := NB311_319.out
    have hcz56_0 : w36.cell? ⟨gb319, 0, none⟩ = some (.slice none 0 0) := (blk_cell BK319.out 0).trans rfl
    have hcz56_1 : w36.cell? ⟨gb319, 1, none⟩ = some (.slice none 0 0) := (blk_cell BK319.out 1).trans rfl
    have hfz56_0 := blk_frozen BK319.out 0
    have hfz56_1 := blk_frozen BK319.out 1
    have hnb57 := NB304_289.out
    have hnc57 := NB289_304.out
    have hnb58 := NB304_311.out
    have hnc58 := NB311_304.out
    have hcz59_0 : w36.cell? ⟨gb304, 0, none⟩ = some (.slice Ao23 t297.length co23) := (blk_cell BK304.out 0).trans rfl
    have hcz59_1 : w36.cell? ⟨gb304, 1, none⟩ = some (.slice Ao26 t300.length co26) := (blk_cell BK304.out 1).trans rfl
    have hfz59_0 := blk_frozen BK304.out 0
    have hfz59_1 := blk_frozen BK304.out 1
    go_wp2_with (first | ((with_reducible refine gate_callee (f := 19) rfl ?_); refine goesL_ (some 42) rfl rfl Try.func19 (by kernel_rfl) rfl #[.agg #[.slice Ao37 t312.length co37, .slice Ao42 t315.length co42], .agg #[.slice Ao23 t297.length co23, .slice Ao26 t300.length co26]] rfl (by (try simp only [List.map_toArray, List.map_cons, List.map_nil]); first | done | rfl | (simp only [List.length_drop, List.length_take]; rfl)) ?_; (with_reducible refine (laws_eqEnding.calls k _ _ t312 _ _ t315 _ _ t297 _ _ t300 false _ ?side1 ?side2 ?side3 ?side4 ?side5 ?side6 ?side7 ?side8 A43.out).mono ?_); (case side1 => refine (Kd.R_reads' (e := 2) (base := w.heap.size) (ok := fun k_ => ((((((some k_ ≠ (.slice Ao42 t315.length co42 : Value).ownBlock ∧ some k_ ≠ (.slice Ao19 t291.length co19 : Value).ownBlock) ∧ some k_ ≠ (.slice Ao20 t294.length co20 : Value).ownBlock) ∧ some k_ ≠ (.slice Ao23 t297.length co23 : Value).ownBlock) ∧ some k_ ≠ (.slice Ao26 t300.length co26 : Value).ownBlock) ∧ some k_ ≠ (.slice Ao30 t305.length co30 : Value).ownBlock) ∧ some k_ ≠ (.slice Ao34 t308.length co34 : Value).ownBlock)) (n := t312.length) (c := co37) ?_).2.2; exact (by (with_reducible repeat (first | apply Kd.R_alloc | apply Kd.R_drewN | apply Kd.R_drew)); exact (Kd.R_mono (Kd.R_far (p := ⟨gb319, 1, none⟩) (Kd.R_far (p := ⟨gb319, 0, none⟩) (Kd.R_types HO314.out BK319.out (by decide)) (fun _ hk => hk.2) (.slice Ao37 t312.length co37)) (fun _ hk => hk.2) (.slice Ao42 t315.length co42)) (fun _ h_ => h_.1)))); (case side2 => exact (Kd.R_reads' HO314.out).2.1); (case side3 => refine (Kd.R_reads' (e := 2) (base := w.heap.size) (ok := fun k_ => ((((((some k_ ≠ (.slice Ao37 t312.length co37 : Value).ownBlock ∧ some k_ ≠ (.slice Ao19 t291.length co19 : Value).ownBlock) ∧ some k_ ≠ (.slice Ao20 t294.length co20 : Value).ownBlock) ∧ some k_ ≠ (.slice Ao23 t297.length co23 : Value).ownBlock) ∧ some k_ ≠ (.slice Ao26 t300.length co26 : Value).ownBlock) ∧ some k_ ≠ (.slice Ao30 t305.length co30 : Value).ownBlock) ∧ some k_ ≠ (.slice Ao34 t308.length co34 : Value).ownBlock)) (n := t315.length) (c := co42) ?_).2.2; exact (by (with_reducible repeat (first | apply Kd.R_alloc | apply Kd.R_drewN | apply Kd.R_drew)); exact (Kd.R_mono (Kd.R_far (p := ⟨gb319, 1, none⟩) (Kd.R_far (p := ⟨gb319, 0, none⟩) (Kd.R_types HO317.out BK319.out (by decide)) (fun _ hk => hk.2) (.slice Ao37 t312.length co37)) (fun _ hk => hk.2) (.slice Ao42 t315.length co42)) (fun _ h_ => h_.1)))); (case side4 => exact (Kd.R_reads' HO317.out).2.1); (case side5 => refine (Kd.R_reads' (e := 2) (base := w.heap.size) (ok := fun k_ => ((((((some k_ ≠ (.slice Ao26 t300.length co26 : Value).ownBlock ∧ some k_ ≠ (.slice Ao19 t291.length co19 : Value).ownBlock) ∧ some k_ ≠ (.slice Ao20 t294.length co20 : Value).ownBlock) ∧ some k_ ≠ (.slice Ao30 t305.length co30 : Value).ownBlock) ∧ some k_ ≠ (.slice Ao34 t308.length co34 : Value).ownBlock) ∧ some k_ ≠ (.slice Ao37 t312.length co37 : Value).ownBlock) ∧ some k_ ≠ (.slice Ao42 t315.length co42 : Value).ownBlock)) (n := t297.length) (c := co23) ?_).2.2; exact (by (with_reducible repeat (first | apply Kd.R_alloc | apply Kd.R_drewN | apply Kd.R_drew)); exact (Kd.R_mono (Kd.R_far (p := ⟨gb319, 1, none⟩) (Kd.R_far (p := ⟨gb319, 0, none⟩) (Kd.R_types HO299.out BK319.out (by decide)) (fun _ hk => hk.2) (.slice Ao37 t312.length co37)) (fun _ hk => hk.2) (.slice Ao42 t315.length co42)) (fun _ h_ => h_.1)))); (case side6 => exact (Kd.R_reads' HO299.out).2.1); (case side7 => refine (Kd.R_reads' (e := 2) (base := w.heap.size) (ok := fun k_ => ((((((some k_ ≠ (.slice Ao23 t297.length co23 : Value).ownBlock ∧ some k_ ≠ (.slice Ao19 t291.length co19 : Value).ownBlock) ∧ some k_ ≠ (.slice Ao20 t294.length co20 : Value).ownBlock) ∧ some k_ ≠ (.slice Ao30 t305.length co30 : Value).ownBlock) ∧ some k_ ≠ (.slice Ao34 t308.length co34 : Value).ownBlock) ∧ some k_ ≠ (.slice Ao37 t312.length co37 : Value).ownBlock) ∧ some k_ ≠ (.slice Ao42 t315.length co42 : Value).ownBlock)) (n := t300.length) (c := co26) ?_).2.2; exact (by (with_reducible repeat (first | apply Kd.R_alloc | apply Kd.R_drewN | apply Kd.R_drew)); exact (Kd.R_mono (Kd.R_far (p := ⟨gb319, 1, none⟩) (Kd.R_far (p := ⟨gb319, 0, none⟩) (Kd.R_types HO302.out BK319.out (by decide)) (fun _ hk => hk.2) (.slice Ao37 t312.length co37)) (fun _ hk => hk.2) (.slice Ao42 t315.length co42)) (fun _ h_ => h_.1)))); (case side8 => exact (Kd.R_reads' HO302.out).2.1); rintro e w60 ⟨rfl, hb⟩; refine ⟨_, rfl, ?_⟩; have n0_ := Aside0.mk (Kd.R_below (by (with_reducible repeat (first | apply Kd.R_alloc | apply Kd.R_drewN | apply Kd.R_drew)); exact (Kd.R_mono (Kd.R_far (p := ⟨gb319, 1, none⟩) (Kd.R_far (p := ⟨gb319, 0, none⟩) (Kd.R_types HO293.out BK319.out (by decide)) (fun _ hk => hk.2) (.slice Ao37 t312.length co37)) (fun _ hk => hk.2) (.slice Ao42 t315.length co42)) (fun _ h_ => h_.1))) hb); have n1_ := Aside0.mk (Kd.R_below (by (with_reducible repeat (first | apply Kd.R_alloc | apply Kd.R_drewN | apply Kd.R_drew)); exact (Kd.R_mono (Kd.R_far (p := ⟨gb319, 1, none⟩) (Kd.R_far (p := ⟨gb319, 0, none⟩) (Kd.R_types HO296.out BK319.out (by decide)) (fun _ hk => hk.2) (.slice Ao37 t312.length co37)) (fun _ hk => hk.2) (.slice Ao42 t315.length co42)) (fun _ h_ => h_.1))) hb); have n2_ := Aside0.mk (Kd.R_below (by (with_reducible repeat (first | apply Kd.R_alloc | apply Kd.R_drewN | apply Kd.R_drew)); exact (Kd.R_mono (Kd.R_far (p := ⟨gb319, 1, none⟩) (Kd.R_far (p := ⟨gb319, 0, none⟩) (Kd.R_types HO299.out BK319.out (by decide)) (fun _ hk => hk.2) (.slice Ao37 t312.length co37)) (fun _ hk => hk.2) (.slice Ao42 t315.length co42)) (fun _ h_ => h_.1))) hb); have n3_ := Aside0.mk (Kd.R_below (by (with_reducible repeat (first | apply Kd.R_alloc | apply Kd.R_drewN | apply Kd.R_drew)); exact (Kd.R_mono (Kd.R_far (p := ⟨gb319, 1, none⟩) (Kd.R_far (p := ⟨gb319, 0, none⟩) (Kd.R_types HO302.out BK319.out (by decide)) (fun _ hk => hk.2) (.slice Ao37 t312.length co37)) (fun _ hk => hk.2) (.slice Ao42 t315.length co42)) (fun _ h_ => h_.1))) hb); have n4_ := Aside0.mk (Kd.R_below (by (with_reducible repeat (first | apply Kd.R_alloc | apply Kd.R_drewN | apply Kd.R_drew)); exact (Kd.R_mono (Kd.R_far (p := ⟨gb319, 1, none⟩) (Kd.R_far (p := ⟨gb319, 0, none⟩) (Kd.R_types HO307.out BK319.out (by decide)) (fun _ hk => hk.2) (.slice Ao37 t312.length co37)) (fun _ hk => hk.2) (.slice Ao42 t315.length co42)) (fun _ h_ => h_.1))) hb); have n5_ := Aside0.mk (Kd.R_below (by (with_reducible repeat (first | apply Kd.R_alloc | apply Kd.R_drewN | apply Kd.R_drew)); exact (Kd.R_mono (Kd.R_far (p := ⟨gb319, 1, none⟩) (Kd.R_far (p := ⟨gb319, 0, none⟩) (Kd.R_types HO310.out BK319.out (by decide)) (fun _ hk => hk.2) (.slice Ao37 t312.length co37)) (fun _ hk => hk.2) (.slice Ao42 t315.length co42)) (fun _ h_ => h_.1))) hb); have n6_ := Aside0.mk (Kd.R_below (by (with_reducible repeat (first | apply Kd.R_alloc | apply Kd.R_drewN | apply Kd.R_drew)); exact (Kd.R_mono (Kd.R_far (p := ⟨gb319, 1, none⟩) (Kd.R_far (p := ⟨gb319, 0, none⟩) (Kd.R_types HO314.out BK319.out (by decide)) (fun _ hk => hk.2) (.slice Ao37 t312.length co37)) (fun _ hk => hk.2) (.slice Ao42 t315.length co42)) (fun _ h_ => h_.1))) hb); have n7_ := Aside0.mk (Kd.R_below (by (with_reducible repeat (first | apply Kd.R_alloc | apply Kd.R_drewN | apply Kd.R_drew)); exact (Kd.R_mono (Kd.R_far (p := ⟨gb319, 1, none⟩) (Kd.R_far (p := ⟨gb319, 0, none⟩) (Kd.R_types HO317.out BK319.out (by decide)) (fun _ hk => hk.2) (.slice Ao37 t312.length co37)) (fun _ hk => hk.2) (.slice Ao42 t315.length co42)) (fun _ h_ => h_.1))) hb); have n8_ := Aside0.mk (blk_below (g := gb289) (o := .cells #[.slice A0_0 l0_0.length c0_0, .slice A0_1 l0_1.length c0_1] 24 (0, 0)) (by (with_reducible repeat (first | refine blk_drewN ?_ _ | refine blk_drew ?_ | refine blk_alloc ?_ _)); refine blk_far ?_ NB289_319.out _; (with_reducible repeat (first | refine blk_drewN ?_ _ | refine blk_drew ?_ | refine blk_alloc ?_ _)); refine blk_far ?_ NB289_319.out _; (with_reducible repeat (first | refine blk_drewN ?_ _ | refine blk_drew ?_ | refine blk_alloc ?_ _)); exact BK289.out) hb); have n9_ := Aside0.mk (blk_below (g := gb304) (o := .cells #[.slice Ao23 t297.length co23, .slice Ao26 t300.length co26] 27 (0, 0)) (by (with_reducible repeat (first | refine blk_drewN ?_ _ | refine blk_drew ?_ | refine blk_alloc ?_ _)); refine blk_far ?_ NB304_319.out _; (with_reducible repeat (first | refine blk_drewN ?_ _ | refine blk_drew ?_ | refine blk_alloc ?_ _)); refine blk_far ?_ NB304_319.out _; (with_reducible repeat (first | refine blk_drewN ?_ _ | refine blk_drew ?_ | refine blk_alloc ?_ _)); exact BK304.out) hb); have n10_ := Aside0.mk (blk_below (g := gb311) (o := .cells #[.slice Ao30 t305.length co30, .slice Ao34 t308.length co34] 27 (0, 0)) (by (with_reducible repeat (first | refine blk_drewN ?_ _ | refine blk_drew ?_ | refine blk_alloc ?_ _)); refine blk_far ?_ NB311_319.out _; (with_reducible repeat (first | refine blk_drewN ?_ _ | refine blk_drew ?_ | refine blk_alloc ?_ _)); refine blk_far ?_ NB311_319.out _; (with_reducible repeat (first | refine blk_drewN ?_ _ | refine blk_drew ?_ | refine blk_alloc ?_ _)); exact BK311.out) hb); have n11_ := Aside0.mk (blk_below (g := gb319) (o := .cells #[.slice Ao37 t312.length co37, .slice Ao42 t315.length co42] 27 (0, 0)) (by (with_reducible repeat (first | refine blk_drewN ?_ _ | refine blk_drew ?_ | refine blk_alloc ?_ _)); refine blk_put (cs := #[.slice Ao37 t312.length co37, .slice none 0 0]) ?_ 1 _ rfl; (with_reducible repeat (first | refine blk_drewN ?_ _ | refine blk_drew ?_ | refine blk_alloc ?_ _)); refine blk_put (cs := #[.slice none 0 0, .slice none 0 0]) ?_ 0 _ rfl; (with_reducible repeat (first | refine blk_drewN ?_ _ | refine blk_drew ?_ | refine blk_alloc ?_ _)); exact BK319.out) hb); have n12_ := Aside0.mk (below_step (by repeat (first | (with_reducible first | exact HB.out | apply below_alloc | apply pw_below_drewN | apply below_drew1 | refine below_set ?_ GE289.out | refine below_set ?_ GE304.out | refine below_set ?_ GE311.out | refine below_set ?_ GE319.out) | exact HB.out)) hb); clear HO293; clear HO296; clear HO299; clear HO302; clear HO307; clear HO310; clear HO314; clear HO317; clear BK289; clear BK304; clear BK311; clear BK319; clear HB; have HO293 := n0_; have HO296 := n1_; have HO299 := n2_; have HO302 := n3_; have HO307 := n4_; have HO310 := n5_; have HO314 := n6_; have HO317 := n7_; have BK289 := n8_; have BK304 := n9_; have BK311 := n10_; have BK319 := n11_; have HB := n12_; clear n0_ n1_ n2_ n3_ n4_ n5_ n6_ n7_ n8_ n9_ n10_ n11_ n12_; (try clear hb); (try clear hb2); (try clear hk); (try clear hi)))
    go_meet
    case rel => exact ⟨_, (true), rfl, H', ⟨by first | omega | exact Nat.le_refl _⟩, ⟨by exact Kd.R_mono HO299.out (fun _ hk => ⟨hk.1.1.1.1.1.1, ⟨hk.1.1.1.2, ⟨hk.1.1.2, ⟨hk.1.2, hk.2⟩⟩⟩⟩)⟩, ⟨by exact Kd.R_mono HO302.out (fun _ hk => ⟨hk.1.1.1.1.1.1, ⟨hk.1.1.1.2, ⟨hk.1.1.2, ⟨hk.1.2, hk.2⟩⟩⟩⟩)⟩, ⟨by exact Kd.R_mono HO307.out (fun _ hk => ⟨hk.1.1.1.2, ⟨hk.1.1.2, ⟨hk.1.1.1.1.1.1, ⟨hk.1.2, hk.2⟩⟩⟩⟩)⟩, ⟨by exact Kd.R_mono HO310.out (fun _ hk => ⟨hk.1.1.1.2, ⟨hk.1.1.2, ⟨hk.1.1.1.1.1.1, ⟨hk.1.2, hk.2⟩⟩⟩⟩)⟩, ⟨by exact Kd.R_mono HO314.out (fun _ hk => ⟨hk.1.1.1.2, ⟨hk.1.1.2, ⟨hk.1.2, ⟨hk.2, hk.1.1.1.1.1.1⟩⟩⟩⟩)⟩, ⟨by exact Kd.R_mono HO317.out (fun _ hk => ⟨hk.1.1.1.2, ⟨hk.1.1.2, ⟨hk.1.2, ⟨hk.2, hk.1.1.1.1.1.1⟩⟩⟩⟩)⟩, ⟨by exact BK289.out⟩, ⟨by exact BK304.out⟩, ⟨by exact BK311.out⟩, ⟨by exact BK319.out⟩, ⟨by repeat (first | (with_reducible first | exact HB.out | apply below_alloc | apply pw_below_drewN | apply below_drew1 | refine below_set ?_ GE289.out | refine below_set ?_ GE304.out | refine below_set ?_ GE311.out | refine below_set ?_ GE319.out) | exact HB.out)⟩⟩
  case rest =>
   clear HC13
   try clear c1
   try clear c2
   try clear p2
   try clear c3
   try clear c4
   try clear c5
   try clear c5b0
   try clear c7
   try clear c15
   try clear c17
   try clear c19
   try clear c24
   try clear c26
   try clear c27
   try clear c31
   try clear c32
   try clear c38
   try clear c39
   try clear c40
   try clear c44
   try clear c45
   try clear c46
   try clear c47
   try clear c49
   try clear c50
   try clear c53
   try clear c54
   try clear c55
   try clear c57
   try clear c58
   try clear hcz15_0
   try clear hcz15_1
   try clear hcz17_0
   try clear hcz17_1
   try clear hcz25_0
   try clear hcz25_1
   try clear hcz27_0
   try clear hcz27_1
   try clear hcz33_0
   try clear hcz33_1
   try clear hcz41_0
   try clear hcz41_1
   try clear hcz48_0
   try clear hcz48_1
   try clear hcz51_0
   try clear hcz51_1
   try clear hcz56_0
   try clear hcz56_1
   try clear hcz59_0
   try clear hcz59_1
   try clear hcz7_0
   try clear hcz7_1
   try clear hfz15_0
   try clear hfz15_1
   try clear hfz17_0
   try clear hfz17_1
   try clear hfz25_0
   try clear hfz25_1
   try clear hfz27_0
   try clear hfz27_1
   try clear hfz33_0
   try clear hfz33_1
   try clear hfz41_0
   try clear hfz41_1
   try clear hfz48_0
   try clear hfz48_1
   try clear hfz51_0
   try clear hfz51_1
   try clear hfz56_0
   try clear hfz56_1
   try clear hfz59_0
   try clear hfz59_1
   try clear hfz7_0
   try clear hfz7_1
   obtain ⟨kq, x48_12, rfl, HA, HJ12, HO_305000, HO_305001, HO_312000, HO_312001, HO_320000, HO_320001, BK289, BK304, BK311, BK319, HB⟩ := hcut
   cases kq with
   | zero => exact absurd HA.out (by simp [laws_FnExactAfterOpening.j0])
   | succ kj12 =>
    have H := HA.out
    clear HA
    simp only [laws_FnExactAfterOpening.j0] at H
    by_cases c61 : x48_12 = true
    ·subst c61
     have H1 : (some false) = some r := by rw [if_pos rfl] at H; exact H
     clear H
     have H := H1
     clear H1
     obtain rfl := Option.some.inj H
     go_wp2
     go_ret
     exact ⟨rfl, by repeat (first | (with_reducible first | exact HB.out | apply below_alloc | apply pw_below_drewN | apply below_drew1 | refine below_set ?_ GE289.out | refine below_set ?_ GE304.out | refine below_set ?_ GE311.out | refine below_set ?_ GE319.out) | exact HB.out)⟩
    ·replace c61 := Bool.eq_false_iff.mpr c61
     subst c61
     have H1 : ((laws_toEnding.f kj12 l0_0 l0_1).bind fun bt321 => ((laws_eqEnding.f kj12 t305 t308 bt321.1 bt321.2).bind fun t327 => (if t327 = true then ((laws_markEnding.f kj12 t305 t308 1).bind fun bt328 => (if bt328.1 < 0 then (laws_FnExactAfterOpening.j1 kj12 a1 a2 t303 true l0_0 l0_1 t297 t300 t312 t315) else ((laws_eqEnding.f kj12 t312 t315 t297 t300).bind fun t331 => (if t331 = true then (laws_FnExactAfterOpening.j1 kj12 a1 a2 t303 (t318 != t303) l0_0 l0_1 t297 t300 t312 t315) else (laws_FnExactAfterOpening.j1 kj12 a1 a2 t303 true l0_0 l0_1 t297 t300 t312 t315))))) else (some false)))) = some r := by rw [if_neg (show ¬ (false = true) by decide)] at H; exact H
     clear H
     have H := H1
     clear H1
     replace H := Option.bind_eq_some_iff.mp H
     obtain ⟨⟨t321, t324⟩, A620, H⟩ := H
     replace H : ((laws_eqEnding.f kj12 t305 t308 t321 t324).bind fun t327 => (if t327 = true then ((laws_markEnding.f kj12 t305 t308 1).bind fun bt328 => (if bt328.1 < 0 then (laws_FnExactAfterOpening.j1 kj12 a1 a2 t303 true l0_0 l0_1 t297 t300 t312 t315) else ((laws_eqEnding.f kj12 t312 t315 t297 t300).bind fun t331 => (if t331 = true then (laws_FnExactAfterOpening.j1 kj12 a1 a2 t303 (t318 != t303) l0_0 l0_1 t297 t300 t312 t315) else (laws_FnExactAfterOpening.j1 kj12 a1 a2 t303 true l0_0 l0_1 t297 t300 t312 t315))))) else (some false))) = some r := H
     have A62 := Aside0.mk A620
     clear A620
     replace H := Option.bind_eq_some_iff.mp H
     obtain ⟨t327, A630, H⟩ := H
     replace H : (if t327 = true then ((laws_markEnding.f kj12 t305 t308 1).bind fun bt328 => (if bt328.1 < 0 then (laws_FnExactAfterOpening.j1 kj12 a1 a2 t303 true l0_0 l0_1 t297 t300 t312 t315) else ((laws_eqEnding.f kj12 t312 t315 t297 t300).bind fun t331 => (if t331 = true then (laws_FnExactAfterOpening.j1 kj12 a1 a2 t303 (t318 != t303) l0_0 l0_1 t297 t300 t312 t315) else (laws_FnExactAfterOpening.j1 kj12 a1 a2 t303 true l0_0 l0_1 t297 t300 t312 t315))))) else (some false)) = some r := H
     have A63 := Aside0.mk A630
     clear A630
     by_cases c64 : t327 = true
     ·subst c64
      have H1 : ((laws_markEnding.f kj12 t305 t308 1).bind fun bt328 => (if bt328.1 < 0 then (laws_FnExactAfterOpening.j1 kj12 a1 a2 t303 true l0_0 l0_1 t297 t300 t312 t315) else ((laws_eqEnding.f kj12 t312 t315 t297 t300).bind fun t331 => (if t331 = true then (laws_FnExactAfterOpening.j1 kj12 a1 a2 t303 (t318 != t303) l0_0 l0_1 t297 t300 t312 t315) else (laws_FnExactAfterOpening.j1 kj12 a1 a2 t303 true l0_0 l0_1 t297 t300 t312 t315))))) = some r := by rw [if_pos rfl] at H; exact H
      clear H
      have H := H1
      clear H1
      replace H := Option.bind_eq_some_iff.mp H
      obtain ⟨⟨t328, t329, t330⟩, A650, H⟩ := H
      replace H : (if t328 < 0 then (laws_FnExactAfterOpening.j1 kj12 a1 a2 t303 true l0_0 l0_1 t297 t300 t312 t315) else ((laws_eqEnding.f kj12 t312 t315 t297 t300).bind fun t331 => (if t331 = true then (laws_FnExactAfterOpening.j1 kj12 a1 a2 t303 (t318 != t303) l0_0 l0_1 t297 t300 t312 t315) else (laws_FnExactAfterOpening.j1 kj12 a1 a2 t303 true l0_0 l0_1 t297 t300 t312 t315)))) = some r := H
      have A65 := Aside0.mk A650
      clear A650
      have HC66 := Aside0.mk H
      clear H
      try go_wp2
      have n0_ := Aside0.mk (Kd.R_drew HO_305000.out)
      have n1_ := Aside0.mk (Kd.R_drew HO_305001.out)
      have n2_ := Aside0.mk (Kd.R_drew HO_312000.out)
      have n3_ := Aside0.mk (Kd.R_drew HO_312001.out)
      have n4_ := Aside0.mk (Kd.R_drew HO_320000.out)
      have n5_ := Aside0.mk (Kd.R_drew HO_320001.out)
      have n6_ := Aside0.mk (blk_drew BK289.out)
      have n7_ := Aside0.mk (blk_drew BK304.out)
      have n8_ := Aside0.mk (blk_drew BK311.out)
      have n9_ := Aside0.mk (blk_drew BK319.out)
      have n10_ := Aside0.mk (below_drew1 HB.out)
      clear HO_305000
      clear HO_305001
      clear HO_312000
      clear HO_312001
      clear HO_320000
      clear HO_320001
      clear BK289
      clear BK304
      clear BK311
      clear BK319
      clear HB
      have HO_305000 := n0_
      have HO_305001 := n1_
      have HO_312000 := n2_
      have HO_312001 := n3_
      have HO_320000 := n4_
      have HO_320001 := n5_
      have BK289 := n6_
      have BK304 := n7_
      have BK311 := n8_
      have BK319 := n9_
      have HB := n10_
      clear n0_ n1_ n2_ n3_ n4_ n5_ n6_ n7_ n8_ n9_ n10_
      refine start_ (n := 5) (S := fun w' => w'.cell? ⟨gb311, 0, none⟩ = some (.slice Ao30 t305.length co30) ∧ w'.cell? ⟨gb311, 1, none⟩ = some (.slice Ao34 t308.length co34) ∧ w'.cell? ⟨gb289, 0, none⟩ = some (.slice A0_0 l0_0.length c0_0) ∧ w'.cell? ⟨gb289, 1, none⟩ = some (.slice A0_1 l0_1.length c0_1)) (ds := []) #[false, false, false, false, false] (by kernel_rfl) rfl rfl ⟨(blk_cell BK311.out 0).trans rfl, (blk_cell BK311.out 1).trans rfl, (blk_cell BK289.out 0).trans rfl, (blk_cell BK289.out 1).trans rfl⟩ (fun hHeld => ?_)
      generalize wc.drew = w67 at HO_305000 HO_305001 HO_312000 HO_312001 HO_320000 HO_320001 BK289 BK304 BK311 BK319 HB hHeld ⊢
      refine take_ (i := 0) (N := some 49) (v := ?_) (a' := ?_) #[true, false, false, false, false] rfl rfl (by kernel_rfl) (fun _ _ _ h => h) (Or.inl ⟨by rfl, ?_⟩) hHeld ?_ ?_
      rotate_left
      ·rintro w' ⟨s0, s1, s2, s3⟩
       go_simp
       with_reducible rfl
      rotate_left
      ·simp only [Act.put, List.setIfInBounds_toArray, List.set_cons_zero, List.set_cons_succ, i64_w, i32_w]
       rfl
      refine take_ (i := 1) (N := some 50) (v := ?_) (a' := ?_) #[true, true, false, false, false] rfl rfl (by kernel_rfl) (fun _ _ _ h => h) (Or.inl ⟨by rfl, ?_⟩) hHeld ?_ ?_
      rotate_left
      ·rintro w' ⟨s0, s1, s2, s3⟩
       go_simp
       with_reducible rfl
      rotate_left
      ·simp only [Act.put, List.setIfInBounds_toArray, List.set_cons_zero, List.set_cons_succ, i64_w, i32_w]
       rfl
      refine one_ (i := 2) (N := some 51) #[true, true, true, false, false] rfl rfl (by kernel_rfl) (by decide) (fun K hK => ?_)
      refine goes_ Try.func17 (by kernel_rfl) rfl #[.agg #[.slice A0_0 l0_0.length c0_0, .slice A0_1 l0_1.length c0_1]] (by rfl) rfl rfl (by (try simp only [List.map_toArray, List.map_cons, List.map_nil]); first | done | rfl | (simp only [List.length_drop, List.length_take]; rfl)) ?_
      with_reducible refine (laws_toEnding.calls kj12 _ _ l0_0 _ _ l0_1 t321 t324 _ ?side1 ?side2 ?side3 ?side4 A62.out).mono ?_
      (case side1 => exact (Kd.C_below HR0_0.out HB.out))
      (case side2 => exact HC0_0.out)
      (case side3 => exact (Kd.C_below HR0_1.out HB.out))
      (case side4 => exact HC0_1.out)
      rintro e w68 ⟨v322, v325, rfl, ho0, ho1, hb⟩
      refine ⟨_, rfl, ?_⟩
      have n0_ := Aside0.mk (Kd.R_mono (Kd.R_told (Kd.R_told (Kd.R_old HO_305000.out hb) (Kd.R_base ho0)) (Kd.R_base ho1)) (fun _ h_ => h_.1))
      have n1_ := Aside0.mk (Kd.R_mono (Kd.R_told (Kd.R_told (Kd.R_old HO_305001.out hb) (Kd.R_base ho0)) (Kd.R_base ho1)) (fun _ h_ => h_.1))
      have n2_ := Aside0.mk (Kd.R_mono (Kd.R_told (Kd.R_told (Kd.R_old HO_312000.out hb) (Kd.R_base ho0)) (Kd.R_base ho1)) (fun _ h_ => h_.1))
      have n3_ := Aside0.mk (Kd.R_mono (Kd.R_told (Kd.R_told (Kd.R_old HO_312001.out hb) (Kd.R_base ho0)) (Kd.R_base ho1)) (fun _ h_ => h_.1))
      have n4_ := Aside0.mk (Kd.R_mono (Kd.R_told (Kd.R_told (Kd.R_old HO_320000.out hb) (Kd.R_base ho0)) (Kd.R_base ho1)) (fun _ h_ => h_.1))
      have n5_ := Aside0.mk (Kd.R_mono (Kd.R_told (Kd.R_told (Kd.R_old HO_320001.out hb) (Kd.R_base ho0)) (Kd.R_base ho1)) (fun _ h_ => h_.1))
      have n6_ := Aside0.mk (Kd.R_lower (Kd.R_new' (Kd.R_new' (Kd.R_new' (Kd.R_new' (Kd.R_new' (Kd.R_new' ho0 (Kd.R_lt HO_305000.out)) (Kd.R_lt HO_305001.out)) (Kd.R_lt HO_312000.out)) (Kd.R_lt HO_312001.out)) (Kd.R_lt HO_320000.out)) (Kd.R_lt HO_320001.out)) (below_size HB.out))
      have n7_ := Aside0.mk (Kd.R_lower (Kd.R_new' (Kd.R_new' (Kd.R_new' (Kd.R_new' (Kd.R_new' (Kd.R_new' ho1 (Kd.R_lt HO_305000.out)) (Kd.R_lt HO_305001.out)) (Kd.R_lt HO_312000.out)) (Kd.R_lt HO_312001.out)) (Kd.R_lt HO_320000.out)) (Kd.R_lt HO_320001.out)) (below_size HB.out))
      have n8_ := Aside0.mk (blk_below (g := gb289) (o := .cells #[.slice A0_0 l0_0.length c0_0, .slice A0_1 l0_1.length c0_1] 24 (0, 0)) BK289.out hb)
      have n9_ := Aside0.mk (blk_below (g := gb304) (o := .cells #[.slice Ao23 t297.length co23, .slice Ao26 t300.length co26] 27 (0, 0)) BK304.out hb)
      have n10_ := Aside0.mk (blk_below (g := gb311) (o := .cells #[.slice Ao30 t305.length co30, .slice Ao34 t308.length co34] 27 (0, 0)) BK311.out hb)
      have n11_ := Aside0.mk (blk_below (g := gb319) (o := .cells #[.slice Ao37 t312.length co37, .slice Ao42 t315.length co42] 27 (0, 0)) BK319.out hb)
      have n12_ := Aside0.mk (below_step HB.out hb)
      clear HO_305000
      clear HO_305001
      clear HO_312000
      clear HO_312001
      clear HO_320000
      clear HO_320001
      clear BK289
      clear BK304
      clear BK311
      clear BK319
      clear HB
      have HO_305000 := n0_
      have HO_305001 := n1_
      have HO_312000 := n2_
      have HO_312001 := n3_
      have HO_320000 := n4_
      have HO_320001 := n5_
      have HO323 := n6_
      have HO326 := n7_
      have BK289 := n8_
      have BK304 := n9_
      have BK311 := n10_
      have BK319 := n11_
      have HB := n12_
      clear n0_ n1_ n2_ n3_ n4_ n5_ n6_ n7_ n8_ n9_ n10_ n11_ n12_
      (try clear hb)
      (try clear hb2)
      (try clear hk)
      (try clear hi)
      (try clear ho0)
      (try clear ho1)
      obtain ⟨Ao69, co69, eo69⟩ := Kd.R_slice HO323.out
      (first | subst eo69 | (injection eo69 with f1_ f2_ f3_; have f4_ := f1_.symm; have f5_ := f3_.symm; clear f1_ f2_ f3_; subst f4_; subst f5_))
      obtain ⟨Ao70, co70, eo70⟩ := Kd.R_slice HO326.out
      (first | subst eo70 | (injection eo70 with f1_ f2_ f3_; have f4_ := f1_.symm; have f5_ := f3_.symm; clear f1_ f2_ f3_; subst f4_; subst f5_))
      refine hK.out _ _ ⟨(blk_cell BK311.out 0).trans rfl, (blk_cell BK311.out 1).trans rfl, (blk_cell BK289.out 0).trans rfl, (blk_cell BK289.out 1).trans rfl⟩ (fun hHeld => ?_)
      clear hK K
      refine norm_ (a' := ?_) ?_ ?_
      rotate_left
      ·show Act.put _ (some 51) _ = _
       simp only [Act.put, List.setIfInBounds_toArray, List.set_cons_zero, List.set_cons_succ, i64_w, i32_w]
       rfl
      refine one_ (i := 3) (N := some 52) #[true, true, true, true, false] rfl rfl (by kernel_rfl) (by decide) (fun K hK => ?_)
      refine goes_ Try.func19 (by kernel_rfl) rfl #[.agg #[.slice Ao30 t305.length co30, .slice Ao34 t308.length co34], .agg #[.slice Ao69 t321.length co69, .slice Ao70 t324.length co70]] (by rfl) rfl rfl (by (try simp only [List.map_toArray, List.map_cons, List.map_nil]); first | done | rfl | (simp only [List.length_drop, List.length_take]; rfl)) ?_
      with_reducible refine (laws_eqEnding.calls kj12 _ _ t305 _ _ t308 _ _ t321 _ _ t324 true _ ?side1 ?side2 ?side3 ?side4 ?side5 ?side6 ?side7 ?side8 A63.out).mono ?_
      (case side1 => exact (Kd.R_reads' HO_312000.out).2.2)
      (case side2 => exact (Kd.R_reads' HO_312000.out).2.1)
      (case side3 => exact (Kd.R_reads' HO_312001.out).2.2)
      (case side4 => exact (Kd.R_reads' HO_312001.out).2.1)
      (case side5 => exact (Kd.R_reads' HO323.out).2.2)
      (case side6 => exact (Kd.R_reads' HO323.out).2.1)
      (case side7 => exact (Kd.R_reads' HO326.out).2.2)
      (case side8 => exact (Kd.R_reads' HO326.out).2.1)
      rintro e w71 ⟨rfl, hb⟩
      refine ⟨_, rfl, ?_⟩
      have n0_ := Aside0.mk (Kd.R_below HO_305000.out hb)
      have n1_ := Aside0.mk (Kd.R_below HO_305001.out hb)
      have n2_ := Aside0.mk (Kd.R_below HO_312000.out hb)
      have n3_ := Aside0.mk (Kd.R_below HO_312001.out hb)
      have n4_ := Aside0.mk (Kd.R_below HO_320000.out hb)
      have n5_ := Aside0.mk (Kd.R_below HO_320001.out hb)
      have n6_ := Aside0.mk (Kd.R_below HO323.out hb)
      have n7_ := Aside0.mk (Kd.R_below HO326.out hb)
      have n8_ := Aside0.mk (blk_below (g := gb289) (o := .cells #[.slice A0_0 l0_0.length c0_0, .slice A0_1 l0_1.length c0_1] 24 (0, 0)) BK289.out hb)
      have n9_ := Aside0.mk (blk_below (g := gb304) (o := .cells #[.slice Ao23 t297.length co23, .slice Ao26 t300.length co26] 27 (0, 0)) BK304.out hb)
      have n10_ := Aside0.mk (blk_below (g := gb311) (o := .cells #[.slice Ao30 t305.length co30, .slice Ao34 t308.length co34] 27 (0, 0)) BK311.out hb)
      have n11_ := Aside0.mk (blk_below (g := gb319) (o := .cells #[.slice Ao37 t312.length co37, .slice Ao42 t315.length co42] 27 (0, 0)) BK319.out hb)
      have n12_ := Aside0.mk (below_step HB.out hb)
      clear HO_305000
      clear HO_305001
      clear HO_312000
      clear HO_312001
      clear HO_320000
      clear HO_320001
      clear HO323
      clear HO326
      clear BK289
      clear BK304
      clear BK311
      clear BK319
      clear HB
      have HO_305000 := n0_
      have HO_305001 := n1_
      have HO_312000 := n2_
      have HO_312001 := n3_
      have HO_320000 := n4_
      have HO_320001 := n5_
      have HO323 := n6_
      have HO326 := n7_
      have BK289 := n8_
      have BK304 := n9_
      have BK311 := n10_
      have BK319 := n11_
      have HB := n12_
      clear n0_ n1_ n2_ n3_ n4_ n5_ n6_ n7_ n8_ n9_ n10_ n11_ n12_
      (try clear hb)
      (try clear hb2)
      (try clear hk)
      (try clear hi)
      refine hK.out _ _ ⟨(blk_cell BK311.out 0).trans rfl, (blk_cell BK311.out 1).trans rfl, (blk_cell BK289.out 0).trans rfl, (blk_cell BK289.out 1).trans rfl⟩ (fun hHeld => ?_)
      clear hK K
      refine norm_ (a' := ?_) ?_ ?_
      rotate_left
      ·show Act.put _ (some 52) _ = _
       simp only [Act.put, List.setIfInBounds_toArray, List.set_cons_zero, List.set_cons_succ, i64_w, i32_w]
       rfl
      refine pure_ (i := 4) (N := some 53) (v := ?_) (a' := ?_) #[true, true, true, true, true] rfl rfl (by kernel_rfl) (fun _ _ _ h => h) (Or.inl ⟨by rfl, ?_⟩) ?_ ?_
      rotate_left
      ·intro w'
       go_simp
       with_reducible rfl
      rotate_left
      ·simp only [Act.put, List.setIfInBounds_toArray, List.set_cons_zero, List.set_cons_succ, i64_w, i32_w]
       rfl
      refine done_ (by kernel_rfl) ?_
      have hnb72 := NB311_289.out
      have hnc72 := NB289_311.out
      have hnb73 := NB311_304.out
      have hnc73 := NB304_311.out
      have hnb74 := NB311_319.out
      have hnc74 := NB319_311.out
      have hcz75_0 : w71.cell? ⟨gb311, 0, none⟩ = some (.slice Ao30 t305.length co30) := (blk_cell BK311.out 0).trans rfl
      have hcz75_1 : w71.cell? ⟨gb311, 1, none⟩ = some (.slice Ao34 t308.length co34) := (blk_cell BK311.out 1).trans rfl
      have hfz75_0 := blk_frozen BK311.out 0
      have hfz75_1 := blk_frozen BK311.out 1
      go_upto_region 14 with (first | ((with_reducible refine gate_callee (f := 28) rfl ?_); refine goesL_ (some 56) rfl rfl Try.func28 (by kernel_rfl) rfl #[.agg #[.slice Ao30 t305.length co30, .slice Ao34 t308.length co34], .int .i64 1] rfl (by (try simp only [List.map_toArray, List.map_cons, List.map_nil]); first | done | rfl | (simp only [List.length_drop, List.length_take]; rfl)) ?_; (with_reducible refine (laws_markEnding.calls kj12 (fun k_ => some k_ = (.slice Ao30 t305.length co30 : Value).ownBlock) (.slice Ao30 t305.length co30) t305 (fun k_ => some k_ = (.slice Ao34 t308.length co34 : Value).ownBlock) (.slice Ao34 t308.length co34) t308 1 t328 t329 t330 w _ ?side1 ?side2 ?side3 ?side4 ?side5 A65.out).mono ?_); (case side1 => repeat (first | (with_reducible first | exact HB.out | apply below_alloc | apply pw_below_drewN | apply below_drew1 | refine below_set ?_ GE289.out | refine below_set ?_ GE304.out | refine below_set ?_ GE311.out | refine below_set ?_ GE319.out) | exact HB.out)); (case side2 => exact Kd.R_tight rfl HO_312000.out); (case side3 => exact fun k_ e_ => (HO_312000.out.1 k_ e_.symm).1.1.2.2.1); (case side4 => exact Kd.R_tight rfl HO_312001.out); (case side5 => exact fun k_ e_ => (HO_312001.out.1 k_ e_.symm).1.1.2.2.1); rintro e w76 ⟨rfl, hy0, hy1, hb, hkp⟩; refine ⟨_, rfl, ?_⟩; have n0_ := Aside0.mk (Kd.R_mono (ok' := fun k_ => some k_ ≠ (.slice Ao26 t300.length co26 : Value).ownBlock ∧ some k_ ≠ (.slice Ao30 t305.length co30 : Value).ownBlock ∧ some k_ ≠ (.slice Ao34 t308.length co34 : Value).ownBlock ∧ some k_ ≠ (.slice Ao37 t312.length co37 : Value).ownBlock ∧ some k_ ≠ (.slice Ao42 t315.length co42 : Value).ownBlock ∧ some k_ ≠ (.slice Ao69 t321.length co69 : Value).ownBlock ∧ some k_ ≠ (.slice Ao70 t324.length co70 : Value).ownBlock) (Kd.R_keptB (HO_305000.out) hkp (fun k_ hk_ hs_ => Or.elim hs_ (fun e_ => (hk_.1.1.2.1) e_) (fun e_ => (hk_.1.1.2.2.1) e_))) (fun k_ hk_ => ⟨hk_.1.1.1.1, hk_.1.1.1.2.1, hk_.1.1.1.2.2.1, hk_.1.1.1.2.2.2.1, hk_.1.1.1.2.2.2.2, hk_.1.1.2, hk_.1.2⟩)); have n1_ := Aside0.mk (Kd.R_mono (ok' := fun k_ => some k_ ≠ (.slice Ao23 t297.length co23 : Value).ownBlock ∧ some k_ ≠ (.slice Ao30 t305.length co30 : Value).ownBlock ∧ some k_ ≠ (.slice Ao34 t308.length co34 : Value).ownBlock ∧ some k_ ≠ (.slice Ao37 t312.length co37 : Value).ownBlock ∧ some k_ ≠ (.slice Ao42 t315.length co42 : Value).ownBlock ∧ some k_ ≠ (.slice Ao69 t321.length co69 : Value).ownBlock ∧ some k_ ≠ (.slice Ao70 t324.length co70 : Value).ownBlock) (Kd.R_keptB (HO_305001.out) hkp (fun k_ hk_ hs_ => Or.elim hs_ (fun e_ => (hk_.1.1.2.1) e_) (fun e_ => (hk_.1.1.2.2.1) e_))) (fun k_ hk_ => ⟨hk_.1.1.1.1, hk_.1.1.1.2.1, hk_.1.1.1.2.2.1, hk_.1.1.1.2.2.2.1, hk_.1.1.1.2.2.2.2, hk_.1.1.2, hk_.1.2⟩)); have n2_ := Aside0.mk (Kd.R_reok rfl hy0 (fun k_ e_ => HO_312000.out.1 k_ e_)); have n3_ := Aside0.mk (Kd.R_reok rfl hy1 (fun k_ e_ => HO_312001.out.1 k_ e_)); have n4_ := Aside0.mk (Kd.R_mono (ok' := fun k_ => some k_ ≠ (.slice Ao23 t297.length co23 : Value).ownBlock ∧ some k_ ≠ (.slice Ao26 t300.length co26 : Value).ownBlock ∧ some k_ ≠ (.slice Ao30 t305.length co30 : Value).ownBlock ∧ some k_ ≠ (.slice Ao34 t308.length co34 : Value).ownBlock ∧ some k_ ≠ (.slice Ao42 t315.length co42 : Value).ownBlock ∧ some k_ ≠ (.slice Ao69 t321.length co69 : Value).ownBlock ∧ some k_ ≠ (.slice Ao70 t324.length co70 : Value).ownBlock) (Kd.R_keptB (HO_320000.out) hkp (fun k_ hk_ hs_ => Or.elim hs_ (fun e_ => (hk_.1.1.2.2.1) e_) (fun e_ => (hk_.1.1.2.2.2.1) e_))) (fun k_ hk_ => ⟨hk_.1.1.1.1, hk_.1.1.1.2.1, hk_.1.1.1.2.2.1, hk_.1.1.1.2.2.2.1, hk_.1.1.1.2.2.2.2, hk_.1.1.2, hk_.1.2⟩)); have n5_ := Aside0.mk (Kd.R_mono (ok' := fun k_ => some k_ ≠ (.slice Ao23 t297.length co23 : Value).ownBlock ∧ some k_ ≠ (.slice Ao26 t300.length co26 : Value).ownBlock ∧ some k_ ≠ (.slice Ao30 t305.length co30 : Value).ownBlock ∧ some k_ ≠ (.slice Ao34 t308.length co34 : Value).ownBlock ∧ some k_ ≠ (.slice Ao37 t312.length co37 : Value).ownBlock ∧ some k_ ≠ (.slice Ao69 t321.length co69 : Value).ownBlock ∧ some k_ ≠ (.slice Ao70 t324.length co70 : Value).ownBlock) (Kd.R_keptB (HO_320001.out) hkp (fun k_ hk_ hs_ => Or.elim hs_ (fun e_ => (hk_.1.1.2.2.1) e_) (fun e_ => (hk_.1.1.2.2.2.1) e_))) (fun k_ hk_ => ⟨hk_.1.1.1.1, hk_.1.1.1.2.1, hk_.1.1.1.2.2.1, hk_.1.1.1.2.2.2.1, hk_.1.1.1.2.2.2.2, hk_.1.1.2, hk_.1.2⟩)); have n6_ := Aside0.mk (blk_kept (by (with_reducible repeat (first | refine blk_drewN ?_ _ | refine blk_drew ?_ | refine blk_alloc ?_ _)); exact BK289.out) hkp (fun hs_ => Or.elim hs_ (fun e_ => (fun e_ => (Kd.R_ne HO_312000.out BK289.out (by decide)) e_) e_) (fun e_ => (fun e_ => (Kd.R_ne HO_312001.out BK289.out (by decide)) e_) e_))); have n7_ := Aside0.mk (blk_kept (by (with_reducible repeat (first | refine blk_drewN ?_ _ | refine blk_drew ?_ | refine blk_alloc ?_ _)); exact BK304.out) hkp (fun hs_ => Or.elim hs_ (fun e_ => (fun e_ => (Kd.R_ne HO_312000.out BK304.out (by decide)) e_) e_) (fun e_ => (fun e_ => (Kd.R_ne HO_312001.out BK304.out (by decide)) e_) e_))); have n8_ := Aside0.mk (blk_kept (by (with_reducible repeat (first | refine blk_drewN ?_ _ | refine blk_drew ?_ | refine blk_alloc ?_ _)); exact BK311.out) hkp (fun hs_ => Or.elim hs_ (fun e_ => (fun e_ => (Kd.R_ne HO_312000.out BK311.out (by decide)) e_) e_) (fun e_ => (fun e_ => (Kd.R_ne HO_312001.out BK311.out (by decide)) e_) e_))); have n9_ := Aside0.mk (blk_kept (by (with_reducible repeat (first | refine blk_drewN ?_ _ | refine blk_drew ?_ | refine blk_alloc ?_ _)); exact BK319.out) hkp (fun hs_ => Or.elim hs_ (fun e_ => (fun e_ => (Kd.R_ne HO_312000.out BK319.out (by decide)) e_) e_) (fun e_ => (fun e_ => (Kd.R_ne HO_312001.out BK319.out (by decide)) e_) e_))); have n10_ := Aside0.mk (Kd.R_mono (ok' := fun k_ => some k_ ≠ (.slice Ao23 t297.length co23 : Value).ownBlock ∧ some k_ ≠ (.slice Ao26 t300.length co26 : Value).ownBlock ∧ some k_ ≠ (.slice Ao30 t305.length co30 : Value).ownBlock ∧ some k_ ≠ (.slice Ao34 t308.length co34 : Value).ownBlock ∧ some k_ ≠ (.slice Ao37 t312.length co37 : Value).ownBlock ∧ some k_ ≠ (.slice Ao42 t315.length co42 : Value).ownBlock ∧ some k_ ≠ (.slice Ao70 t324.length co70 : Value).ownBlock) (Kd.R_keptB (HO323.out) hkp (fun k_ hk_ hs_ => Or.elim hs_ (fun e_ => (hk_.1.1.1.2) e_) (fun e_ => (hk_.1.1.2) e_))) (fun k_ hk_ => ⟨hk_.1.1.1.1.1.1.2, hk_.1.1.1.1.1.2, hk_.1.1.1.1.2, hk_.1.1.1.2, hk_.1.1.2, hk_.1.2, hk_.1.1.1.1.1.1.1⟩)); have n11_ := Aside0.mk (Kd.R_mono (ok' := fun k_ => some k_ ≠ (.slice Ao23 t297.length co23 : Value).ownBlock ∧ some k_ ≠ (.slice Ao26 t300.length co26 : Value).ownBlock ∧ some k_ ≠ (.slice Ao30 t305.length co30 : Value).ownBlock ∧ some k_ ≠ (.slice Ao34 t308.length co34 : Value).ownBlock ∧ some k_ ≠ (.slice Ao37 t312.length co37 : Value).ownBlock ∧ some k_ ≠ (.slice Ao42 t315.length co42 : Value).ownBlock ∧ some k_ ≠ (.slice Ao69 t321.length co69 : Value).ownBlock) (Kd.R_keptB (HO326.out) hkp (fun k_ hk_ hs_ => Or.elim hs_ (fun e_ => (hk_.1.1.1.2) e_) (fun e_ => (hk_.1.1.2) e_))) (fun k_ hk_ => ⟨hk_.1.1.1.1.1.1.2, hk_.1.1.1.1.1.2, hk_.1.1.1.1.2, hk_.1.1.1.2, hk_.1.1.2, hk_.1.2, hk_.1.1.1.1.1.1.1⟩)); have n12_ := Aside0.mk (hb); clear HO_305000; clear HO_305001; clear HO_312000; clear HO_312001; clear HO_320000; clear HO_320001; clear BK289; clear BK304; clear BK311; clear BK319; clear HO323; clear HO326; clear HB; have HO_305000 := n0_; have HO_305001 := n1_; have HO_312000 := n2_; have HO_312001 := n3_; have HO_320000 := n4_; have HO_320001 := n5_; have BK289 := n6_; have BK304 := n7_; have BK311 := n8_; have BK319 := n9_; have HO323 := n10_; have HO326 := n11_; have HB := n12_; clear n0_ n1_ n2_ n3_ n4_ n5_ n6_ n7_ n8_ n9_ n10_ n11_ n12_; (try clear hb); (try clear hkp); (try clear hy0); (try clear hy1)))
      (try simp only [Act.put, List.setIfInBounds_toArray, List.set_cons_zero, List.set_cons_succ])
      go_cut [69] (fun v69 wc => ∃ (kq : Nat) (x69_65 : Bool), v69 = .bool x69_65 ∧ Aside0 (laws_FnExactAfterOpening.j1 kq a1 a2 t303 x69_65 l0_0 l0_1 t297 t300 t312 t315 = some r) ∧ Aside0 (kq ≤ kj12) ∧ Aside0 (Kd.R (Kd.int .i64) 2 wc w.heap.size (fun k_ => some k_ ≠ ((.slice Ao26 t300.length co26) : Value).ownBlock ∧ some k_ ≠ ((.slice Ao30 t305.length co30) : Value).ownBlock ∧ some k_ ≠ ((.slice Ao34 t308.length co34) : Value).ownBlock ∧ some k_ ≠ ((.slice Ao37 t312.length co37) : Value).ownBlock ∧ some k_ ≠ ((.slice Ao42 t315.length co42) : Value).ownBlock) (.slice Ao23 t297.length co23) t297) ∧ Aside0 (Kd.R (Kd.int .i64) 2 wc w.heap.size (fun k_ => some k_ ≠ ((.slice Ao23 t297.length co23) : Value).ownBlock ∧ some k_ ≠ ((.slice Ao30 t305.length co30) : Value).ownBlock ∧ some k_ ≠ ((.slice Ao34 t308.length co34) : Value).ownBlock ∧ some k_ ≠ ((.slice Ao37 t312.length co37) : Value).ownBlock ∧ some k_ ≠ ((.slice Ao42 t315.length co42) : Value).ownBlock) (.slice Ao26 t300.length co26) t300) ∧ Aside0 (Kd.R (Kd.int .i64) 2 wc w.heap.size (fun k_ => some k_ ≠ ((.slice Ao23 t297.length co23) : Value).ownBlock ∧ some k_ ≠ ((.slice Ao26 t300.length co26) : Value).ownBlock ∧ some k_ ≠ ((.slice Ao34 t308.length co34) : Value).ownBlock ∧ some k_ ≠ ((.slice Ao37 t312.length co37) : Value).ownBlock ∧ some k_ ≠ ((.slice Ao42 t315.length co42) : Value).ownBlock) (.slice Ao30 t305.length co30) t329) ∧ Aside0 (Kd.R (Kd.int .i64) 2 wc w.heap.size (fun k_ => some k_ ≠ ((.slice Ao23 t297.length co23) : Value).ownBlock ∧ some k_ ≠ ((.slice Ao26 t300.length co26) : Value).ownBlock ∧ some k_ ≠ ((.slice Ao30 t305.length co30) : Value).ownBlock ∧ some k_ ≠ ((.slice Ao37 t312.length co37) : Value).ownBlock ∧ some k_ ≠ ((.slice Ao42 t315.length co42) : Value).ownBlock) (.slice Ao34 t308.length co34) t330) ∧ Aside0 (Kd.R (Kd.int .i64) 2 wc w.heap.size (fun k_ => some k_ ≠ ((.slice Ao23 t297.length co23) : Value).ownBlock ∧ some k_ ≠ ((.slice Ao26 t300.length co26) : Value).ownBlock ∧ some k_ ≠ ((.slice Ao30 t305.length co30) : Value).ownBlock ∧ some k_ ≠ ((.slice Ao34 t308.length co34) : Value).ownBlock ∧ some k_ ≠ ((.slice Ao42 t315.length co42) : Value).ownBlock) (.slice Ao37 t312.length co37) t312) ∧ Aside0 (Kd.R (Kd.int .i64) 2 wc w.heap.size (fun k_ => some k_ ≠ ((.slice Ao23 t297.length co23) : Value).ownBlock ∧ some k_ ≠ ((.slice Ao26 t300.length co26) : Value).ownBlock ∧ some k_ ≠ ((.slice Ao30 t305.length co30) : Value).ownBlock ∧ some k_ ≠ ((.slice Ao34 t308.length co34) : Value).ownBlock ∧ some k_ ≠ ((.slice Ao37 t312.length co37) : Value).ownBlock) (.slice Ao42 t315.length co42) t315) ∧ Aside0 (wc.heap[gb289]? = some (.cells #[(.slice A0_0 l0_0.length c0_0), (.slice A0_1 l0_1.length c0_1)] 24 (0, 0))) ∧ Aside0 (wc.heap[gb304]? = some (.cells #[(.slice Ao23 t297.length co23), (.slice Ao26 t300.length co26)] 27 (0, 0))) ∧ Aside0 (wc.heap[gb311]? = some (.cells #[(.slice Ao30 t305.length co30), (.slice Ao34 t308.length co34)] 27 (0, 0))) ∧ Aside0 (wc.heap[gb319]? = some (.cells #[(.slice Ao37 t312.length co37), (.slice Ao42 t315.length co42)] 27 (0, 0))) ∧ Aside0 (Below w.heap.size w wc))
      case first =>
       have H := HC66.out
       clear HC66
       by_cases c77 : t328 < 0
       ·rw [if_pos c77] at H
        have c77b0 : decide (t328 < 0) = true := decide_eq_true c77
        clear c77
        (first | rw [c77b0] | (simp only [i64_w, i32_w]; rw [c77b0]) | skip)
        have H' := Aside0.mk H
        clear H
        go_wp2
        go_meet
        case rel => exact ⟨_, (true), rfl, H', ⟨by have := HJ12.out; first | omega | exact Nat.le_refl _⟩, ⟨by exact Kd.R_mono HO_305000.out (fun _ hk => ⟨hk.1, ⟨hk.2.1, ⟨hk.2.2.1, ⟨hk.2.2.2.1, hk.2.2.2.2.1⟩⟩⟩⟩)⟩, ⟨by exact Kd.R_mono HO_305001.out (fun _ hk => ⟨hk.1, ⟨hk.2.1, ⟨hk.2.2.1, ⟨hk.2.2.2.1, hk.2.2.2.2.1⟩⟩⟩⟩)⟩, ⟨by exact Kd.R_mono HO_312000.out (fun _ hk => ⟨hk.1.1.1, ⟨hk.1.1.2.1, ⟨hk.1.1.2.2.1, ⟨hk.1.1.2.2.2.1, hk.1.1.2.2.2.2⟩⟩⟩⟩)⟩, ⟨by exact Kd.R_mono HO_312001.out (fun _ hk => ⟨hk.1.1.1, ⟨hk.1.1.2.1, ⟨hk.1.1.2.2.1, ⟨hk.1.1.2.2.2.1, hk.1.1.2.2.2.2⟩⟩⟩⟩)⟩, ⟨by exact Kd.R_mono HO_320000.out (fun _ hk => ⟨hk.1, ⟨hk.2.1, ⟨hk.2.2.1, ⟨hk.2.2.2.1, hk.2.2.2.2.1⟩⟩⟩⟩)⟩, ⟨by exact Kd.R_mono HO_320001.out (fun _ hk => ⟨hk.1, ⟨hk.2.1, ⟨hk.2.2.1, ⟨hk.2.2.2.1, hk.2.2.2.2.1⟩⟩⟩⟩)⟩, ⟨by exact BK289.out⟩, ⟨by exact BK304.out⟩, ⟨by exact BK311.out⟩, ⟨by exact BK319.out⟩, ⟨by repeat (first | (with_reducible first | exact HB.out | apply below_alloc | apply pw_below_drewN | apply below_drew1 | refine below_set ?_ GE289.out | refine below_set ?_ GE304.out | refine below_set ?_ GE311.out | refine below_set ?_ GE319.out) | exact HB.out)⟩⟩
       ·rw [if_neg c77] at H
        have c77b0 : decide (t328 < 0) = false := decide_eq_false c77
        clear c77
        (first | rw [c77b0] | (simp only [i64_w, i32_w]; rw [c77b0]) | skip)
        replace H := Option.bind_eq_some_iff.mp H
        obtain ⟨t331, A780, H⟩ := H
        replace H : (if t331 = true then (laws_FnExactAfterOpening.j1 kj12 a1 a2 t303 (t318 != t303) l0_0 l0_1 t297 t300 t312 t315) else (laws_FnExactAfterOpening.j1 kj12 a1 a2 t303 true l0_0 l0_1 t297 t300 t312 t315)) = some r := H
        have A78 := Aside0.mk A780
        clear A780
        by_cases c79 : t331 = true
        ·subst c79
         have H1 : (laws_FnExactAfterOpening.j1 kj12 a1 a2 t303 (t318 != t303) l0_0 l0_1 t297 t300 t312 t315) = some r := by rw [if_pos rfl] at H; exact H
         clear H
         have H := H1
         clear H1
         have H' := Aside0.mk H
         clear H
         have hnb80 := NB319_289.out
         have hnc80 := NB289_319.out
         have hnb81 := NB319_304.out
         have hnc81 := NB304_319.out
         have hnb82 := NB319_311.out
         have hnc82 := NB311_319.out
         have hcz83_0 : w76.cell? ⟨gb319, 0, none⟩ = some (.slice Ao37 t312.length co37) := (blk_cell BK319.out 0).trans rfl
         have hcz83_1 : w76.cell? ⟨gb319, 1, none⟩ = some (.slice Ao42 t315.length co42) := (blk_cell BK319.out 1).trans rfl
         have hfz83_0 := blk_frozen BK319.out 0
         have hfz83_1 := blk_frozen BK319.out 1
         have hnb84 := NB304_289.out
         have hnc84 := NB289_304.out
         have hnb85 := NB304_311.out
         have hnc85 := NB311_304.out
         have hcz86_0 : w76.cell? ⟨gb304, 0, none⟩ = some (.slice Ao23 t297.length co23) := (blk_cell BK304.out 0).trans rfl
         have hcz86_1 : w76.cell? ⟨gb304, 1, none⟩ = some (.slice Ao26 t300.length co26) := (blk_cell BK304.out 1).trans rfl
         have hfz86_0 := blk_frozen BK304.out 0
         have hfz86_1 := blk_frozen BK304.out 1
         go_wp2_with (first | (go_at_call 19; (with_reducible refine (laws_eqEnding.calls kj12 _ _ t312 _ _ t315 _ _ t297 _ _ t300 true _ ?side1 ?side2 ?side3 ?side4 ?side5 ?side6 ?side7 ?side8 A78.out).mono ?_); (case side1 => exact (Kd.R_reads' HO_320000.out).2.2); (case side2 => exact (Kd.R_reads' HO_320000.out).2.1); (case side3 => exact (Kd.R_reads' HO_320001.out).2.2); (case side4 => exact (Kd.R_reads' HO_320001.out).2.1); (case side5 => exact (Kd.R_reads' HO_305000.out).2.2); (case side6 => exact (Kd.R_reads' HO_305000.out).2.1); (case side7 => exact (Kd.R_reads' HO_305001.out).2.2); (case side8 => exact (Kd.R_reads' HO_305001.out).2.1); rintro e w87 ⟨rfl, hb⟩; have n0_ := Aside0.mk (Kd.R_below HO_305000.out hb); have n1_ := Aside0.mk (Kd.R_below HO_305001.out hb); have n2_ := Aside0.mk (Kd.R_below HO_312000.out hb); have n3_ := Aside0.mk (Kd.R_below HO_312001.out hb); have n4_ := Aside0.mk (Kd.R_below HO_320000.out hb); have n5_ := Aside0.mk (Kd.R_below HO_320001.out hb); have n6_ := Aside0.mk (Kd.R_below HO323.out hb); have n7_ := Aside0.mk (Kd.R_below HO326.out hb); have n8_ := Aside0.mk (blk_below (g := gb289) (o := .cells #[.slice A0_0 l0_0.length c0_0, .slice A0_1 l0_1.length c0_1] 24 (0, 0)) BK289.out hb); have n9_ := Aside0.mk (blk_below (g := gb304) (o := .cells #[.slice Ao23 t297.length co23, .slice Ao26 t300.length co26] 27 (0, 0)) BK304.out hb); have n10_ := Aside0.mk (blk_below (g := gb311) (o := .cells #[.slice Ao30 t305.length co30, .slice Ao34 t308.length co34] 27 (0, 0)) BK311.out hb); have n11_ := Aside0.mk (blk_below (g := gb319) (o := .cells #[.slice Ao37 t312.length co37, .slice Ao42 t315.length co42] 27 (0, 0)) BK319.out hb); have n12_ := Aside0.mk (below_step HB.out hb); clear HO_305000; clear HO_305001; clear HO_312000; clear HO_312001; clear HO_320000; clear HO_320001; clear HO323; clear HO326; clear BK289; clear BK304; clear BK311; clear BK319; clear HB; have HO_305000 := n0_; have HO_305001 := n1_; have HO_312000 := n2_; have HO_312001 := n3_; have HO_320000 := n4_; have HO_320001 := n5_; have HO323 := n6_; have HO326 := n7_; have BK289 := n8_; have BK304 := n9_; have BK311 := n10_; have BK319 := n11_; have HB := n12_; clear n0_ n1_ n2_ n3_ n4_ n5_ n6_ n7_ n8_ n9_ n10_ n11_ n12_; (try clear hb); (try clear hb2); (try clear hk); (try clear hi)))
         go_meet
         case rel => exact ⟨_, ((t318 != t303)), rfl, H', ⟨by have := HJ12.out; first | omega | exact Nat.le_refl _⟩, ⟨by exact Kd.R_mono HO_305000.out (fun _ hk => ⟨hk.1, ⟨hk.2.1, ⟨hk.2.2.1, ⟨hk.2.2.2.1, hk.2.2.2.2.1⟩⟩⟩⟩)⟩, ⟨by exact Kd.R_mono HO_305001.out (fun _ hk => ⟨hk.1, ⟨hk.2.1, ⟨hk.2.2.1, ⟨hk.2.2.2.1, hk.2.2.2.2.1⟩⟩⟩⟩)⟩, ⟨by exact Kd.R_mono HO_312000.out (fun _ hk => ⟨hk.1.1.1, ⟨hk.1.1.2.1, ⟨hk.1.1.2.2.1, ⟨hk.1.1.2.2.2.1, hk.1.1.2.2.2.2⟩⟩⟩⟩)⟩, ⟨by exact Kd.R_mono HO_312001.out (fun _ hk => ⟨hk.1.1.1, ⟨hk.1.1.2.1, ⟨hk.1.1.2.2.1, ⟨hk.1.1.2.2.2.1, hk.1.1.2.2.2.2⟩⟩⟩⟩)⟩, ⟨by exact Kd.R_mono HO_320000.out (fun _ hk => ⟨hk.1, ⟨hk.2.1, ⟨hk.2.2.1, ⟨hk.2.2.2.1, hk.2.2.2.2.1⟩⟩⟩⟩)⟩, ⟨by exact Kd.R_mono HO_320001.out (fun _ hk => ⟨hk.1, ⟨hk.2.1, ⟨hk.2.2.1, ⟨hk.2.2.2.1, hk.2.2.2.2.1⟩⟩⟩⟩)⟩, ⟨by exact BK289.out⟩, ⟨by exact BK304.out⟩, ⟨by exact BK311.out⟩, ⟨by exact BK319.out⟩, ⟨by repeat (first | (with_reducible first | exact HB.out | apply below_alloc | apply pw_below_drewN | apply below_drew1 | refine below_set ?_ GE289.out | refine below_set ?_ GE304.out | refine below_set ?_ GE311.out | refine below_set ?_ GE319.out) | exact HB.out)⟩⟩
        ·replace c79 := Bool.eq_false_iff.mpr c79
         subst c79
         have H1 : (laws_FnExactAfterOpening.j1 kj12 a1 a2 t303 true l0_0 l0_1 t297 t300 t312 t315) = some r := by rw [if_neg (show ¬ (false = true) by decide)] at H; exact H
         clear H
         have H := H1
         clear H1
         have H' := Aside0.mk H
         clear H
         have hnb88 := NB319_289.out
         have hnc88 := NB289_319.out
         have hnb89 := NB319_304.out
         have hnc89 := NB304_319.out
         have hnb90 := NB319_311.out
         have hnc90 := NB311_319.out
         have hcz91_0 : w76.cell? ⟨gb319, 0, none⟩ = some (.slice Ao37 t312.length co37) := (blk_cell BK319.out 0).trans rfl
         have hcz91_1 : w76.cell? ⟨gb319, 1, none⟩ = some (.slice Ao42 t315.length co42) := (blk_cell BK319.out 1).trans rfl
         have hfz91_0 := blk_frozen BK319.out 0
         have hfz91_1 := blk_frozen BK319.out 1
         have hnb92 := NB304_289.out
         have hnc92 := NB289_304.out
         have hnb93 := NB304_311.out
         have hnc93 := NB311_304.out
         have hcz94_0 : w76.cell? ⟨gb304, 0, none⟩ = some (.slice Ao23 t297.length co23) := (blk_cell BK304.out 0).trans rfl
         have hcz94_1 : w76.cell? ⟨gb304, 1, none⟩ = some (.slice Ao26 t300.length co26) := (blk_cell BK304.out 1).trans rfl
         have hfz94_0 := blk_frozen BK304.out 0
         have hfz94_1 := blk_frozen BK304.out 1
         go_wp2_with (first | (go_at_call 19; (with_reducible refine (laws_eqEnding.calls kj12 _ _ t312 _ _ t315 _ _ t297 _ _ t300 false _ ?side1 ?side2 ?side3 ?side4 ?side5 ?side6 ?side7 ?side8 A78.out).mono ?_); (case side1 => exact (Kd.R_reads' HO_320000.out).2.2); (case side2 => exact (Kd.R_reads' HO_320000.out).2.1); (case side3 => exact (Kd.R_reads' HO_320001.out).2.2); (case side4 => exact (Kd.R_reads' HO_320001.out).2.1); (case side5 => exact (Kd.R_reads' HO_305000.out).2.2); (case side6 => exact (Kd.R_reads' HO_305000.out).2.1); (case side7 => exact (Kd.R_reads' HO_305001.out).2.2); (case side8 => exact (Kd.R_reads' HO_305001.out).2.1); rintro e w95 ⟨rfl, hb⟩; have n0_ := Aside0.mk (Kd.R_below HO_305000.out hb); have n1_ := Aside0.mk (Kd.R_below HO_305001.out hb); have n2_ := Aside0.mk (Kd.R_below HO_312000.out hb); have n3_ := Aside0.mk (Kd.R_below HO_312001.out hb); have n4_ := Aside0.mk (Kd.R_below HO_320000.out hb); have n5_ := Aside0.mk (Kd.R_below HO_320001.out hb); have n6_ := Aside0.mk (Kd.R_below HO323.out hb); have n7_ := Aside0.mk (Kd.R_below HO326.out hb); have n8_ := Aside0.mk (blk_below (g := gb289) (o := .cells #[.slice A0_0 l0_0.length c0_0, .slice A0_1 l0_1.length c0_1] 24 (0, 0)) BK289.out hb); have n9_ := Aside0.mk (blk_below (g := gb304) (o := .cells #[.slice Ao23 t297.length co23, .slice Ao26 t300.length co26] 27 (0, 0)) BK304.out hb); have n10_ := Aside0.mk (blk_below (g := gb311) (o := .cells #[.slice Ao30 t305.length co30, .slice Ao34 t308.length co34] 27 (0, 0)) BK311.out hb); have n11_ := Aside0.mk (blk_below (g := gb319) (o := .cells #[.slice Ao37 t312.length co37, .slice Ao42 t315.length co42] 27 (0, 0)) BK319.out hb); have n12_ := Aside0.mk (below_step HB.out hb); clear HO_305000; clear HO_305001; clear HO_312000; clear HO_312001; clear HO_320000; clear HO_320001; clear HO323; clear HO326; clear BK289; clear BK304; clear BK311; clear BK319; clear HB; have HO_305000 := n0_; have HO_305001 := n1_; have HO_312000 := n2_; have HO_312001 := n3_; have HO_320000 := n4_; have HO_320001 := n5_; have HO323 := n6_; have HO326 := n7_; have BK289 := n8_; have BK304 := n9_; have BK311 := n10_; have BK319 := n11_; have HB := n12_; clear n0_ n1_ n2_ n3_ n4_ n5_ n6_ n7_ n8_ n9_ n10_ n11_ n12_; (try clear hb); (try clear hb2); (try clear hk); (try clear hi)))
         go_meet
         case rel => exact ⟨_, (true), rfl, H', ⟨by have := HJ12.out; first | omega | exact Nat.le_refl _⟩, ⟨by exact Kd.R_mono HO_305000.out (fun _ hk => ⟨hk.1, ⟨hk.2.1, ⟨hk.2.2.1, ⟨hk.2.2.2.1, hk.2.2.2.2.1⟩⟩⟩⟩)⟩, ⟨by exact Kd.R_mono HO_305001.out (fun _ hk => ⟨hk.1, ⟨hk.2.1, ⟨hk.2.2.1, ⟨hk.2.2.2.1, hk.2.2.2.2.1⟩⟩⟩⟩)⟩, ⟨by exact Kd.R_mono HO_312000.out (fun _ hk => ⟨hk.1.1.1, ⟨hk.1.1.2.1, ⟨hk.1.1.2.2.1, ⟨hk.1.1.2.2.2.1, hk.1.1.2.2.2.2⟩⟩⟩⟩)⟩, ⟨by exact Kd.R_mono HO_312001.out (fun _ hk => ⟨hk.1.1.1, ⟨hk.1.1.2.1, ⟨hk.1.1.2.2.1, ⟨hk.1.1.2.2.2.1, hk.1.1.2.2.2.2⟩⟩⟩⟩)⟩, ⟨by exact Kd.R_mono HO_320000.out (fun _ hk => ⟨hk.1, ⟨hk.2.1, ⟨hk.2.2.1, ⟨hk.2.2.2.1, hk.2.2.2.2.1⟩⟩⟩⟩)⟩, ⟨by exact Kd.R_mono HO_320001.out (fun _ hk => ⟨hk.1, ⟨hk.2.1, ⟨hk.2.2.1, ⟨hk.2.2.2.1, hk.2.2.2.2.1⟩⟩⟩⟩)⟩, ⟨by exact BK289.out⟩, ⟨by exact BK304.out⟩, ⟨by exact BK311.out⟩, ⟨by exact BK319.out⟩, ⟨by repeat (first | (with_reducible first | exact HB.out | apply below_alloc | apply pw_below_drewN | apply below_drew1 | refine below_set ?_ GE289.out | refine below_set ?_ GE304.out | refine below_set ?_ GE311.out | refine below_set ?_ GE319.out) | exact HB.out)⟩⟩
      case rest =>
       clear HC66
       try clear c1
       try clear c2
       try clear p2
       try clear c3
       try clear c4
       try clear c5
       try clear c5b0
       try clear c6
       try clear c7
       try clear c8
       try clear c9
       try clear c15
       try clear c17
       try clear c19
       try clear c24
       try clear c26
       try clear c27
       try clear c28
       try clear c31
       try clear c32
       try clear c38
       try clear c39
       try clear c40
       try clear c44
       try clear c45
       try clear c46
       try clear c47
       try clear c49
       try clear c50
       try clear c53
       try clear c54
       try clear c55
       try clear c57
       try clear c58
       try clear c61
       try clear c64
       try clear c72
       try clear c73
       try clear c74
       try clear c77
       try clear c77b0
       try clear c79
       try clear c80
       try clear c81
       try clear c82
       try clear c84
       try clear c85
       try clear c88
       try clear c89
       try clear c90
       try clear c92
       try clear c93
       try clear hcz15_0
       try clear hcz15_1
       try clear hcz17_0
       try clear hcz17_1
       try clear hcz25_0
       try clear hcz25_1
       try clear hcz27_0
       try clear hcz27_1
       try clear hcz33_0
       try clear hcz33_1
       try clear hcz41_0
       try clear hcz41_1
       try clear hcz48_0
       try clear hcz48_1
       try clear hcz51_0
       try clear hcz51_1
       try clear hcz56_0
       try clear hcz56_1
       try clear hcz59_0
       try clear hcz59_1
       try clear hcz75_0
       try clear hcz75_1
       try clear hcz7_0
       try clear hcz7_1
       try clear hcz83_0
       try clear hcz83_1
       try clear hcz86_0
       try clear hcz86_1
       try clear hcz91_0
       try clear hcz91_1
       try clear hcz94_0
       try clear hcz94_1
       try clear hfz15_0
       try clear hfz15_1
       try clear hfz17_0
       try clear hfz17_1
       try clear hfz25_0
       try clear hfz25_1
       try clear hfz27_0
       try clear hfz27_1
       try clear hfz33_0
       try clear hfz33_1
       try clear hfz41_0
       try clear hfz41_1
       try clear hfz48_0
       try clear hfz48_1
       try clear hfz51_0
       try clear hfz51_1
       try clear hfz56_0
       try clear hfz56_1
       try clear hfz59_0
       try clear hfz59_1
       try clear hfz75_0
       try clear hfz75_1
       try clear hfz7_0
       try clear hfz7_1
       try clear hfz83_0
       try clear hfz83_1
       try clear hfz86_0
       try clear hfz86_1
       try clear hfz91_0
       try clear hfz91_1
       try clear hfz94_0
       try clear hfz94_1
       try clear p2
       obtain ⟨kq, x69_65, rfl, HA, HJ65, HO_305000, HO_305001, HO_312000, HO_312001, HO_320000, HO_320001, BK289, BK304, BK311, BK319, HB⟩ := hcut
       have hl312000_65 := (Kd.R_reads' HO_312000.out).1
       rw [hl312000_65] at HO_312000
       (try simp only [hl312000_65])
       (try simp only [hl312000_65] at BK289)
       (try simp only [hl312000_65] at BK304)
       (try simp only [hl312000_65] at BK311)
       (try simp only [hl312000_65] at BK319)
       (try simp only [hl312000_65] at HO_305000)
       (try simp only [hl312000_65] at HO_305001)
       (try simp only [hl312000_65] at HO_312001)
       (try simp only [hl312000_65] at HO_320000)
       (try simp only [hl312000_65] at HO_320001)
       have hl312001_65 := (Kd.R_reads' HO_312001.out).1
       rw [hl312001_65] at HO_312001
       (try simp only [hl312001_65])
       (try simp only [hl312001_65] at BK289)
       (try simp only [hl312001_65] at BK304)
       (try simp only [hl312001_65] at BK311)
       (try simp only [hl312001_65] at BK319)
       (try simp only [hl312001_65] at HO_305000)
       (try simp only [hl312001_65] at HO_305001)
       (try simp only [hl312001_65] at HO_312000)
       (try simp only [hl312001_65] at HO_320000)
       (try simp only [hl312001_65] at HO_320001)
       cases kq with
       | zero => exact absurd HA.out (by simp [laws_FnExactAfterOpening.j1])
       | succ kj65 =>
        have H := HA.out
        clear HA
        simp only [laws_FnExactAfterOpening.j1] at H
        by_cases c96 : x69_65 = true
        ·subst c96
         have H1 : (some false) = some r := by rw [if_pos rfl] at H; exact H
         clear H
         have H := H1
         clear H1
         obtain rfl := Option.some.inj H
         go_wp2
         go_ret
         exact ⟨rfl, by repeat (first | (with_reducible first | exact HB.out | apply below_alloc | apply pw_below_drewN | apply below_drew1 | refine below_set ?_ GE289.out | refine below_set ?_ GE304.out | refine below_set ?_ GE311.out | refine below_set ?_ GE319.out) | exact HB.out)⟩
        ·replace c96 := Bool.eq_false_iff.mpr c96
         subst c96
         have H1 : ((laws_markEnding.f kj65 t312 t315 1).bind fun bt332 => ((laws_heldEnding.f kj65 bt332.2.1 bt332.2.2 1).bind fun t335 => (if t335 < 0 then (some false) else (if t335 = bt332.1 then ((laws_toEnding.f kj65 l0_0 l0_1).bind fun bt336 => ((impl_AfterOpening.f kj65 bt336.1 bt336.2 a1 a2).bind fun bt342 => ((laws_eqEnding.f kj65 bt342.1 bt342.2.1 t297 t300).bind fun t350 => (if t350 = true then (laws_FnExactAfterOpening.j2 kj65 bt332.1 (bt342.2.2 != t303) bt332.2.1 bt332.2.2) else (laws_FnExactAfterOpening.j2 kj65 bt332.1 true bt332.2.1 bt332.2.2))))) else (some false))))) = some r := by rw [if_neg (show ¬ (false = true) by decide)] at H; exact H
         clear H
         have H := H1
         clear H1
         replace H := Option.bind_eq_some_iff.mp H
         obtain ⟨⟨t332, t333, t334⟩, A970, H⟩ := H
         replace H : ((laws_heldEnding.f kj65 t333 t334 1).bind fun t335 => (if t335 < 0 then (some false) else (if t335 = t332 then ((laws_toEnding.f kj65 l0_0 l0_1).bind fun bt336 => ((impl_AfterOpening.f kj65 bt336.1 bt336.2 a1 a2).bind fun bt342 => ((laws_eqEnding.f kj65 bt342.1 bt342.2.1 t297 t300).bind fun t350 => (if t350 = true then (laws_FnExactAfterOpening.j2 kj65 t332 (bt342.2.2 != t303) t333 t334) else (laws_FnExactAfterOpening.j2 kj65 t332 true t333 t334))))) else (some false)))) = some r := H
         have A97 := Aside0.mk A970
         clear A970
         replace H := Option.bind_eq_some_iff.mp H
         obtain ⟨t335, A980, H⟩ := H
         replace H : (if t335 < 0 then (some false) else (if t335 = t332 then ((laws_toEnding.f kj65 l0_0 l0_1).bind fun bt336 => ((impl_AfterOpening.f kj65 bt336.1 bt336.2 a1 a2).bind fun bt342 => ((laws_eqEnding.f kj65 bt342.1 bt342.2.1 t297 t300).bind fun t350 => (if t350 = true then (laws_FnExactAfterOpening.j2 kj65 t332 (bt342.2.2 != t303) t333 t334) else (laws_FnExactAfterOpening.j2 kj65 t332 true t333 t334))))) else (some false))) = some r := H
         have A98 := Aside0.mk A980
         clear A980
         by_cases c99 : t335 < 0
         ·rw [if_pos c99] at H
          have c99b0 : decide (t335 < 0) = true := decide_eq_true c99
          clear c99
          obtain rfl := Option.some.inj H
          have hnb100 := NB319_289.out
          have hnc100 := NB289_319.out
          have hnb101 := NB319_304.out
          have hnc101 := NB304_319.out
          have hnb102 := NB319_311.out
          have hnc102 := NB311_319.out
          have hcz103_0 : wc.cell? ⟨gb319, 0, none⟩ = some (.slice Ao37 t312.length co37) := (blk_cell BK319.out 0).trans rfl
          have hcz103_1 : wc.cell? ⟨gb319, 1, none⟩ = some (.slice Ao42 t315.length co42) := (blk_cell BK319.out 1).trans rfl
          have hfz103_0 := blk_frozen BK319.out 0
          have hfz103_1 := blk_frozen BK319.out 1
          go_wp2_with (first | ((with_reducible refine gate_callee (f := 28) rfl ?_); refine goesL_ (some 72) rfl rfl Try.func28 (by kernel_rfl) rfl #[.agg #[.slice Ao37 t312.length co37, .slice Ao42 t315.length co42], .int .i64 1] rfl (by (try simp only [List.map_toArray, List.map_cons, List.map_nil]); first | done | rfl | (simp only [List.length_drop, List.length_take]; rfl)) ?_; (with_reducible refine (laws_markEnding.calls kj65 (fun k_ => some k_ = (.slice Ao37 t312.length co37 : Value).ownBlock) (.slice Ao37 t312.length co37) t312 (fun k_ => some k_ = (.slice Ao42 t315.length co42 : Value).ownBlock) (.slice Ao42 t315.length co42) t315 1 t332 t333 t334 w _ ?side1 ?side2 ?side3 ?side4 ?side5 A97.out).mono ?_); (case side1 => repeat (first | (with_reducible first | exact HB.out | apply below_alloc | apply pw_below_drewN | apply below_drew1 | refine below_set ?_ GE289.out | refine below_set ?_ GE304.out | refine below_set ?_ GE311.out | refine below_set ?_ GE319.out) | exact HB.out)); (case side2 => exact Kd.R_tight rfl HO_320000.out); (case side3 => exact fun k_ e_ => (HO_320000.out.1 k_ e_.symm).2.2.2.2); (case side4 => exact Kd.R_tight rfl HO_320001.out); (case side5 => exact fun k_ e_ => (HO_320001.out.1 k_ e_.symm).2.2.2.2); rintro e w104 ⟨rfl, hy0, hy1, hb, hkp⟩; refine ⟨_, rfl, ?_⟩; have n0_ := Aside0.mk (Kd.R_mono (ok' := fun k_ => some k_ ≠ (.slice Ao26 t300.length co26 : Value).ownBlock ∧ some k_ ≠ (.slice Ao30 t329.length co30 : Value).ownBlock ∧ some k_ ≠ (.slice Ao34 t330.length co34 : Value).ownBlock ∧ some k_ ≠ (.slice Ao37 t312.length co37 : Value).ownBlock ∧ some k_ ≠ (.slice Ao42 t315.length co42 : Value).ownBlock) (Kd.R_keptB (HO_305000.out) hkp (fun k_ hk_ hs_ => Or.elim hs_ (fun e_ => (hk_.2.2.2.1) e_) (fun e_ => (hk_.2.2.2.2) e_))) (fun k_ hk_ => ⟨hk_.1.1, hk_.1.2.1, hk_.1.2.2.1, hk_.1.2.2.2.1, hk_.1.2.2.2.2⟩)); have n1_ := Aside0.mk (Kd.R_mono (ok' := fun k_ => some k_ ≠ (.slice Ao23 t297.length co23 : Value).ownBlock ∧ some k_ ≠ (.slice Ao30 t329.length co30 : Value).ownBlock ∧ some k_ ≠ (.slice Ao34 t330.length co34 : Value).ownBlock ∧ some k_ ≠ (.slice Ao37 t312.length co37 : Value).ownBlock ∧ some k_ ≠ (.slice Ao42 t315.length co42 : Value).ownBlock) (Kd.R_keptB (HO_305001.out) hkp (fun k_ hk_ hs_ => Or.elim hs_ (fun e_ => (hk_.2.2.2.1) e_) (fun e_ => (hk_.2.2.2.2) e_))) (fun k_ hk_ => ⟨hk_.1.1, hk_.1.2.1, hk_.1.2.2.1, hk_.1.2.2.2.1, hk_.1.2.2.2.2⟩)); have n2_ := Aside0.mk (Kd.R_mono (ok' := fun k_ => some k_ ≠ (.slice Ao23 t297.length co23 : Value).ownBlock ∧ some k_ ≠ (.slice Ao26 t300.length co26 : Value).ownBlock ∧ some k_ ≠ (.slice Ao34 t330.length co34 : Value).ownBlock ∧ some k_ ≠ (.slice Ao37 t312.length co37 : Value).ownBlock ∧ some k_ ≠ (.slice Ao42 t315.length co42 : Value).ownBlock) (Kd.R_keptB (HO_312000.out) hkp (fun k_ hk_ hs_ => Or.elim hs_ (fun e_ => (hk_.2.2.2.1) e_) (fun e_ => (hk_.2.2.2.2) e_))) (fun k_ hk_ => ⟨hk_.1.1, hk_.1.2.1, hk_.1.2.2.1, hk_.1.2.2.2.1, hk_.1.2.2.2.2⟩)); have n3_ := Aside0.mk (Kd.R_mono (ok' := fun k_ => some k_ ≠ (.slice Ao23 t297.length co23 : Value).ownBlock ∧ some k_ ≠ (.slice Ao26 t300.length co26 : Value).ownBlock ∧ some k_ ≠ (.slice Ao30 t329.length co30 : Value).ownBlock ∧ some k_ ≠ (.slice Ao37 t312.length co37 : Value).ownBlock ∧ some k_ ≠ (.slice Ao42 t315.length co42 : Value).ownBlock) (Kd.R_keptB (HO_312001.out) hkp (fun k_ hk_ hs_ => Or.elim hs_ (fun e_ => (hk_.2.2.2.1) e_) (fun e_ => (hk_.2.2.2.2) e_))) (fun k_ hk_ => ⟨hk_.1.1, hk_.1.2.1, hk_.1.2.2.1, hk_.1.2.2.2.1, hk_.1.2.2.2.2⟩)); have n4_ := Aside0.mk (Kd.R_reok rfl hy0 (fun k_ e_ => HO_320000.out.1 k_ e_)); have n5_ := Aside0.mk (Kd.R_reok rfl hy1 (fun k_ e_ => HO_320001.out.1 k_ e_)); have n6_ := Aside0.mk (blk_kept (by (with_reducible repeat (first | refine blk_drewN ?_ _ | refine blk_drew ?_ | refine blk_alloc ?_ _)); exact BK289.out) hkp (fun hs_ => Or.elim hs_ (fun e_ => (fun e_ => (Kd.R_ne HO_320000.out BK289.out (by decide)) e_) e_) (fun e_ => (fun e_ => (Kd.R_ne HO_320001.out BK289.out (by decide)) e_) e_))); have n7_ := Aside0.mk (blk_kept (by (with_reducible repeat (first | refine blk_drewN ?_ _ | refine blk_drew ?_ | refine blk_alloc ?_ _)); exact BK304.out) hkp (fun hs_ => Or.elim hs_ (fun e_ => (fun e_ => (Kd.R_ne HO_320000.out BK304.out (by decide)) e_) e_) (fun e_ => (fun e_ => (Kd.R_ne HO_320001.out BK304.out (by decide)) e_) e_))); have n8_ := Aside0.mk (blk_kept (by (with_reducible repeat (first | refine blk_drewN ?_ _ | refine blk_drew ?_ | refine blk_alloc ?_ _)); exact BK311.out) hkp (fun hs_ => Or.elim hs_ (fun e_ => (fun e_ => (Kd.R_ne HO_320000.out BK311.out (by decide)) e_) e_) (fun e_ => (fun e_ => (Kd.R_ne HO_320001.out BK311.out (by decide)) e_) e_))); have n9_ := Aside0.mk (blk_kept (by (with_reducible repeat (first | refine blk_drewN ?_ _ | refine blk_drew ?_ | refine blk_alloc ?_ _)); exact BK319.out) hkp (fun hs_ => Or.elim hs_ (fun e_ => (fun e_ => (Kd.R_ne HO_320000.out BK319.out (by decide)) e_) e_) (fun e_ => (fun e_ => (Kd.R_ne HO_320001.out BK319.out (by decide)) e_) e_))); have n10_ := Aside0.mk (hb); clear HO_305000; clear HO_305001; clear HO_312000; clear HO_312001; clear HO_320000; clear HO_320001; clear BK289; clear BK304; clear BK311; clear BK319; clear HB; have HO_305000 := n0_; have HO_305001 := n1_; have HO_312000 := n2_; have HO_312001 := n3_; have HO_320000 := n4_; have HO_320001 := n5_; have BK289 := n6_; have BK304 := n7_; have BK311 := n8_; have BK319 := n9_; have HB := n10_; clear n0_ n1_ n2_ n3_ n4_ n5_ n6_ n7_ n8_ n9_ n10_; (try clear hb); (try clear hkp); (try clear hy0); (try clear hy1); have hcz105_0 : w104.cell? ⟨gb319, 0, none⟩ = some (.slice Ao37 t312.length co37) := (blk_cell BK319.out 0).trans rfl; have hcz105_1 : w104.cell? ⟨gb319, 1, none⟩ = some (.slice Ao42 t315.length co42) := (blk_cell BK319.out 1).trans rfl; have hfz105_0 := blk_frozen BK319.out 0; have hfz105_1 := blk_frozen BK319.out 1) | ((with_reducible refine gate_callee (f := 29) rfl ?_); refine goesL_ (some 75) rfl rfl Try.func29 (by kernel_rfl) rfl #[.agg #[.slice Ao37 t333.length co37, .slice Ao42 t334.length co42], .int .i64 1] rfl (by (try simp only [List.map_toArray, List.map_cons, List.map_nil]); first | done | (rw [show t333.length = t312.length from (Kd.R_reads' HO_320000.out).1.symm, show t334.length = t315.length from (Kd.R_reads' HO_320001.out).1.symm] <;> rfl) | rfl | (simp only [List.length_drop, List.length_take]; rfl)) ?_; (with_reducible refine (laws_heldEnding.calls kj65 _ _ t333 _ _ t334 1 t335 _ ?side1 ?side2 ?side3 ?side4 A98.out).mono ?_); (case side1 => repeat (first | exact (Kd.R_reads' HO_320000.out).2.2 | (with_reducible refine Kd.C_alloc ?_ _) | (with_reducible refine Kd.C_drewN ?_ _) | (with_reducible refine Kd.C_drew ?_))); (case side2 => rw [show t333.length = t312.length from (Kd.R_reads' HO_320000.out).1.symm]; exact (Kd.R_reads' HO_320000.out).2.1); (case side3 => repeat (first | exact (Kd.R_reads' HO_320001.out).2.2 | (with_reducible refine Kd.C_alloc ?_ _) | (with_reducible refine Kd.C_drewN ?_ _) | (with_reducible refine Kd.C_drew ?_))); (case side4 => rw [show t334.length = t315.length from (Kd.R_reads' HO_320001.out).1.symm]; exact (Kd.R_reads' HO_320001.out).2.1); rintro e w106 ⟨rfl, hb⟩; refine ⟨_, rfl, ?_⟩; have n0_ := Aside0.mk (Kd.R_below (by (with_reducible repeat (first | apply Kd.R_alloc | apply Kd.R_drewN | apply Kd.R_drew)); exact HO_305000.out) hb); have n1_ := Aside0.mk (Kd.R_below (by (with_reducible repeat (first | apply Kd.R_alloc | apply Kd.R_drewN | apply Kd.R_drew)); exact HO_305001.out) hb); have n2_ := Aside0.mk (Kd.R_below (by (with_reducible repeat (first | apply Kd.R_alloc | apply Kd.R_drewN | apply Kd.R_drew)); exact HO_312000.out) hb); have n3_ := Aside0.mk (Kd.R_below (by (with_reducible repeat (first | apply Kd.R_alloc | apply Kd.R_drewN | apply Kd.R_drew)); exact HO_312001.out) hb); have n4_ := Aside0.mk (Kd.R_below (by (with_reducible repeat (first | apply Kd.R_alloc | apply Kd.R_drewN | apply Kd.R_drew)); exact HO_320000.out) hb); have n5_ := Aside0.mk (Kd.R_below (by (with_reducible repeat (first | apply Kd.R_alloc | apply Kd.R_drewN | apply Kd.R_drew)); exact HO_320001.out) hb); have n6_ := Aside0.mk (blk_below (g := gb289) (o := .cells #[.slice A0_0 l0_0.length c0_0, .slice A0_1 l0_1.length c0_1] 24 (0, 0)) (by (with_reducible repeat (first | refine blk_drewN ?_ _ | refine blk_drew ?_ | refine blk_alloc ?_ _)); exact BK289.out) hb); have n7_ := Aside0.mk (blk_below (g := gb304) (o := .cells #[.slice Ao23 t297.length co23, .slice Ao26 t300.length co26] 27 (0, 0)) (by (with_reducible repeat (first | refine blk_drewN ?_ _ | refine blk_drew ?_ | refine blk_alloc ?_ _)); exact BK304.out) hb); have n8_ := Aside0.mk (blk_below (g := gb311) (o := .cells #[.slice Ao30 t329.length co30, .slice Ao34 t330.length co34] 27 (0, 0)) (by (with_reducible repeat (first | refine blk_drewN ?_ _ | refine blk_drew ?_ | refine blk_alloc ?_ _)); exact BK311.out) hb); have n9_ := Aside0.mk (blk_below (g := gb319) (o := .cells #[.slice Ao37 t312.length co37, .slice Ao42 t315.length co42] 27 (0, 0)) (by (with_reducible repeat (first | refine blk_drewN ?_ _ | refine blk_drew ?_ | refine blk_alloc ?_ _)); exact BK319.out) hb); have n10_ := Aside0.mk (below_step (by repeat (first | (with_reducible first | exact HB.out | apply below_alloc | apply pw_below_drewN | apply below_drew1 | refine below_set ?_ GE289.out | refine below_set ?_ GE304.out | refine below_set ?_ GE311.out | refine below_set ?_ GE319.out) | exact HB.out)) hb); clear HO_305000; clear HO_305001; clear HO_312000; clear HO_312001; clear HO_320000; clear HO_320001; clear BK289; clear BK304; clear BK311; clear BK319; clear HB; have HO_305000 := n0_; have HO_305001 := n1_; have HO_312000 := n2_; have HO_312001 := n3_; have HO_320000 := n4_; have HO_320001 := n5_; have BK289 := n6_; have BK304 := n7_; have BK311 := n8_; have BK319 := n9_; have HB := n10_; clear n0_ n1_ n2_ n3_ n4_ n5_ n6_ n7_ n8_ n9_ n10_; (try clear hb); (try clear hb2); (try clear hk); (try clear hi)))
          go_ret
          exact ⟨rfl, by repeat (first | (with_reducible first | exact HB.out | apply below_alloc | apply pw_below_drewN | apply below_drew1 | refine below_set ?_ GE289.out | refine below_set ?_ GE304.out | refine below_set ?_ GE311.out | refine below_set ?_ GE319.out) | exact HB.out)⟩
         ·rw [if_neg c99] at H
          have c99b0 : decide (t335 < 0) = false := decide_eq_false c99
          clear c99
          by_cases c107 : t335 = t332
          ·rw [if_pos c107] at H
           have c107b0 : (t335 == t332) = true := beq_iff_eq.mpr c107
           have c107b1 : (t335 != t332) = false := bne_eq_false_iff_eq.mpr c107
           clear c107
           replace H := Option.bind_eq_some_iff.mp H
           obtain ⟨⟨t336, t339⟩, A1080, H⟩ := H
           replace H : ((impl_AfterOpening.f kj65 t336 t339 a1 a2).bind fun bt342 => ((laws_eqEnding.f kj65 bt342.1 bt342.2.1 t297 t300).bind fun t350 => (if t350 = true then (laws_FnExactAfterOpening.j2 kj65 t332 (bt342.2.2 != t303) t333 t334) else (laws_FnExactAfterOpening.j2 kj65 t332 true t333 t334)))) = some r := H
           have A108 := Aside0.mk A1080
           clear A1080
           replace H := Option.bind_eq_some_iff.mp H
           obtain ⟨⟨t342, t345, t348⟩, A1090, H⟩ := H
           replace H : ((laws_eqEnding.f kj65 t342 t345 t297 t300).bind fun t350 => (if t350 = true then (laws_FnExactAfterOpening.j2 kj65 t332 (t348 != t303) t333 t334) else (laws_FnExactAfterOpening.j2 kj65 t332 true t333 t334))) = some r := H
           have A109 := Aside0.mk A1090
           clear A1090
           have HC110 := Aside0.mk H
           clear H
           have hnb111 := NB319_289.out
           have hnc111 := NB289_319.out
           have hnb112 := NB319_304.out
           have hnc112 := NB304_319.out
           have hnb113 := NB319_311.out
           have hnc113 := NB311_319.out
           have hcz114_0 : wc.cell? ⟨gb319, 0, none⟩ = some (.slice Ao37 t312.length co37) := (blk_cell BK319.out 0).trans rfl
           have hcz114_1 : wc.cell? ⟨gb319, 1, none⟩ = some (.slice Ao42 t315.length co42) := (blk_cell BK319.out 1).trans rfl
           have hfz114_0 := blk_frozen BK319.out 0
           have hfz114_1 := blk_frozen BK319.out 1
           go_upto_region 25 with (first | ((with_reducible refine gate_callee (f := 28) rfl ?_); refine goesL_ (some 72) rfl rfl Try.func28 (by kernel_rfl) rfl #[.agg #[.slice Ao37 t312.length co37, .slice Ao42 t315.length co42], .int .i64 1] rfl (by (try simp only [List.map_toArray, List.map_cons, List.map_nil]); first | done | rfl | (simp only [List.length_drop, List.length_take]; rfl)) ?_; (with_reducible refine (laws_markEnding.calls kj65 (fun k_ => some k_ = (.slice Ao37 t312.length co37 : Value).ownBlock) (.slice Ao37 t312.length co37) t312 (fun k_ => some k_ = (.slice Ao42 t315.length co42 : Value).ownBlock) (.slice Ao42 t315.length co42) t315 1 t332 t333 t334 w _ ?side1 ?side2 ?side3 ?side4 ?side5 A97.out).mono ?_); (case side1 => repeat (first | (with_reducible first | exact HB.out | apply below_alloc | apply pw_below_drewN | apply below_drew1 | refine below_set ?_ GE289.out | refine below_set ?_ GE304.out | refine below_set ?_ GE311.out | refine below_set ?_ GE319.out) | exact HB.out)); (case side2 => exact Kd.R_tight rfl HO_320000.out); (case side3 => exact fun k_ e_ => (HO_320000.out.1 k_ e_.symm).2.2.2.2); (case side4 => exact Kd.R_tight rfl HO_320001.out); (case side5 => exact fun k_ e_ => (HO_320001.out.1 k_ e_.symm).2.2.2.2); rintro e w115 ⟨rfl, hy0, hy1, hb, hkp⟩; refine ⟨_, rfl, ?_⟩; have n0_ := Aside0.mk (Kd.R_mono (ok' := fun k_ => some k_ ≠ (.slice Ao26 t300.length co26 : Value).ownBlock ∧ some k_ ≠ (.slice Ao30 t329.length co30 : Value).ownBlock ∧ some k_ ≠ (.slice Ao34 t330.length co34 : Value).ownBlock ∧ some k_ ≠ (.slice Ao37 t312.length co37 : Value).ownBlock ∧ some k_ ≠ (.slice Ao42 t315.length co42 : Value).ownBlock) (Kd.R_keptB (HO_305000.out) hkp (fun k_ hk_ hs_ => Or.elim hs_ (fun e_ => (hk_.2.2.2.1) e_) (fun e_ => (hk_.2.2.2.2) e_))) (fun k_ hk_ => ⟨hk_.1.1, hk_.1.2.1, hk_.1.2.2.1, hk_.1.2.2.2.1, hk_.1.2.2.2.2⟩)); have n1_ := Aside0.mk (Kd.R_mono (ok' := fun k_ => some k_ ≠ (.slice Ao23 t297.length co23 : Value).ownBlock ∧ some k_ ≠ (.slice Ao30 t329.length co30 : Value).ownBlock ∧ some k_ ≠ (.slice Ao34 t330.length co34 : Value).ownBlock ∧ some k_ ≠ (.slice Ao37 t312.length co37 : Value).ownBlock ∧ some k_ ≠ (.slice Ao42 t315.length co42 : Value).ownBlock) (Kd.R_keptB (HO_305001.out) hkp (fun k_ hk_ hs_ => Or.elim hs_ (fun e_ => (hk_.2.2.2.1) e_) (fun e_ => (hk_.2.2.2.2) e_))) (fun k_ hk_ => ⟨hk_.1.1, hk_.1.2.1, hk_.1.2.2.1, hk_.1.2.2.2.1, hk_.1.2.2.2.2⟩)); have n2_ := Aside0.mk (Kd.R_mono (ok' := fun k_ => some k_ ≠ (.slice Ao23 t297.length co23 : Value).ownBlock ∧ some k_ ≠ (.slice Ao26 t300.length co26 : Value).ownBlock ∧ some k_ ≠ (.slice Ao34 t330.length co34 : Value).ownBlock ∧ some k_ ≠ (.slice Ao37 t312.length co37 : Value).ownBlock ∧ some k_ ≠ (.slice Ao42 t315.length co42 : Value).ownBlock) (Kd.R_keptB (HO_312000.out) hkp (fun k_ hk_ hs_ => Or.elim hs_ (fun e_ => (hk_.2.2.2.1) e_) (fun e_ => (hk_.2.2.2.2) e_))) (fun k_ hk_ => ⟨hk_.1.1, hk_.1.2.1, hk_.1.2.2.1, hk_.1.2.2.2.1, hk_.1.2.2.2.2⟩)); have n3_ := Aside0.mk (Kd.R_mono (ok' := fun k_ => some k_ ≠ (.slice Ao23 t297.length co23 : Value).ownBlock ∧ some k_ ≠ (.slice Ao26 t300.length co26 : Value).ownBlock ∧ some k_ ≠ (.slice Ao30 t329.length co30 : Value).ownBlock ∧ some k_ ≠ (.slice Ao37 t312.length co37 : Value).ownBlock ∧ some k_ ≠ (.slice Ao42 t315.length co42 : Value).ownBlock) (Kd.R_keptB (HO_312001.out) hkp (fun k_ hk_ hs_ => Or.elim hs_ (fun e_ => (hk_.2.2.2.1) e_) (fun e_ => (hk_.2.2.2.2) e_))) (fun k_ hk_ => ⟨hk_.1.1, hk_.1.2.1, hk_.1.2.2.1, hk_.1.2.2.2.1, hk_.1.2.2.2.2⟩)); have n4_ := Aside0.mk (Kd.R_reok rfl hy0 (fun k_ e_ => HO_320000.out.1 k_ e_)); have n5_ := Aside0.mk (Kd.R_reok rfl hy1 (fun k_ e_ => HO_320001.out.1 k_ e_)); have n6_ := Aside0.mk (blk_kept (by (with_reducible repeat (first | refine blk_drewN ?_ _ | refine blk_drew ?_ | refine blk_alloc ?_ _)); exact BK289.out) hkp (fun hs_ => Or.elim hs_ (fun e_ => (fun e_ => (Kd.R_ne HO_320000.out BK289.out (by decide)) e_) e_) (fun e_ => (fun e_ => (Kd.R_ne HO_320001.out BK289.out (by decide)) e_) e_))); have n7_ := Aside0.mk (blk_kept (by (with_reducible repeat (first | refine blk_drewN ?_ _ | refine blk_drew ?_ | refine blk_alloc ?_ _)); exact BK304.out) hkp (fun hs_ => Or.elim hs_ (fun e_ => (fun e_ => (Kd.R_ne HO_320000.out BK304.out (by decide)) e_) e_) (fun e_ => (fun e_ => (Kd.R_ne HO_320001.out BK304.out (by decide)) e_) e_))); have n8_ := Aside0.mk (blk_kept (by (with_reducible repeat (first | refine blk_drewN ?_ _ | refine blk_drew ?_ | refine blk_alloc ?_ _)); exact BK311.out) hkp (fun hs_ => Or.elim hs_ (fun e_ => (fun e_ => (Kd.R_ne HO_320000.out BK311.out (by decide)) e_) e_) (fun e_ => (fun e_ => (Kd.R_ne HO_320001.out BK311.out (by decide)) e_) e_))); have n9_ := Aside0.mk (blk_kept (by (with_reducible repeat (first | refine blk_drewN ?_ _ | refine blk_drew ?_ | refine blk_alloc ?_ _)); exact BK319.out) hkp (fun hs_ => Or.elim hs_ (fun e_ => (fun e_ => (Kd.R_ne HO_320000.out BK319.out (by decide)) e_) e_) (fun e_ => (fun e_ => (Kd.R_ne HO_320001.out BK319.out (by decide)) e_) e_))); have n10_ := Aside0.mk (hb); clear HO_305000; clear HO_305001; clear HO_312000; clear HO_312001; clear HO_320000; clear HO_320001; clear BK289; clear BK304; clear BK311; clear BK319; clear HB; have HO_305000 := n0_; have HO_305001 := n1_; have HO_312000 := n2_; have HO_312001 := n3_; have HO_320000 := n4_; have HO_320001 := n5_; have BK289 := n6_; have BK304 := n7_; have BK311 := n8_; have BK319 := n9_; have HB := n10_; clear n0_ n1_ n2_ n3_ n4_ n5_ n6_ n7_ n8_ n9_ n10_; (try clear hb); (try clear hkp); (try clear hy0); (try clear hy1); have hcz116_0 : w115.cell? ⟨gb319, 0, none⟩ = some (.slice Ao37 t312.length co37) := (blk_cell BK319.out 0).trans rfl; have hcz116_1 : w115.cell? ⟨gb319, 1, none⟩ = some (.slice Ao42 t315.length co42) := (blk_cell BK319.out 1).trans rfl; have hfz116_0 := blk_frozen BK319.out 0; have hfz116_1 := blk_frozen BK319.out 1) | ((with_reducible refine gate_callee (f := 29) rfl ?_); refine goesL_ (some 75) rfl rfl Try.func29 (by kernel_rfl) rfl #[.agg #[.slice Ao37 t333.length co37, .slice Ao42 t334.length co42], .int .i64 1] rfl (by (try simp only [List.map_toArray, List.map_cons, List.map_nil]); first | done | (rw [show t333.length = t312.length from (Kd.R_reads' HO_320000.out).1.symm, show t334.length = t315.length from (Kd.R_reads' HO_320001.out).1.symm] <;> rfl) | rfl | (simp only [List.length_drop, List.length_take]; rfl)) ?_; (with_reducible refine (laws_heldEnding.calls kj65 _ _ t333 _ _ t334 1 t335 _ ?side1 ?side2 ?side3 ?side4 A98.out).mono ?_); (case side1 => repeat (first | exact (Kd.R_reads' HO_320000.out).2.2 | (with_reducible refine Kd.C_alloc ?_ _) | (with_reducible refine Kd.C_drewN ?_ _) | (with_reducible refine Kd.C_drew ?_))); (case side2 => rw [show t333.length = t312.length from (Kd.R_reads' HO_320000.out).1.symm]; exact (Kd.R_reads' HO_320000.out).2.1); (case side3 => repeat (first | exact (Kd.R_reads' HO_320001.out).2.2 | (with_reducible refine Kd.C_alloc ?_ _) | (with_reducible refine Kd.C_drewN ?_ _) | (with_reducible refine Kd.C_drew ?_))); (case side4 => rw [show t334.length = t315.length from (Kd.R_reads' HO_320001.out).1.symm]; exact (Kd.R_reads' HO_320001.out).2.1); rintro e w117 ⟨rfl, hb⟩; refine ⟨_, rfl, ?_⟩; have n0_ := Aside0.mk (Kd.R_below (by (with_reducible repeat (first | apply Kd.R_alloc | apply Kd.R_drewN | apply Kd.R_drew)); exact HO_305000.out) hb); have n1_ := Aside0.mk (Kd.R_below (by (with_reducible repeat (first | apply Kd.R_alloc | apply Kd.R_drewN | apply Kd.R_drew)); exact HO_305001.out) hb); have n2_ := Aside0.mk (Kd.R_below (by (with_reducible repeat (first | apply Kd.R_alloc | apply Kd.R_drewN | apply Kd.R_drew)); exact HO_312000.out) hb); have n3_ := Aside0.mk (Kd.R_below (by (with_reducible repeat (first | apply Kd.R_alloc | apply Kd.R_drewN | apply Kd.R_drew)); exact HO_312001.out) hb); have n4_ := Aside0.mk (Kd.R_below (by (with_reducible repeat (first | apply Kd.R_alloc | apply Kd.R_drewN | apply Kd.R_drew)); exact HO_320000.out) hb); have n5_ := Aside0.mk (Kd.R_below (by (with_reducible repeat (first | apply Kd.R_alloc | apply Kd.R_drewN | apply Kd.R_drew)); exact HO_320001.out) hb); have n6_ := Aside0.mk (blk_below (g := gb289) (o := .cells #[.slice A0_0 l0_0.length c0_0, .slice A0_1 l0_1.length c0_1] 24 (0, 0)) (by (with_reducible repeat (first | refine blk_drewN ?_ _ | refine blk_drew ?_ | refine blk_alloc ?_ _)); exact BK289.out) hb); have n7_ := Aside0.mk (blk_below (g := gb304) (o := .cells #[.slice Ao23 t297.length co23, .slice Ao26 t300.length co26] 27 (0, 0)) (by (with_reducible repeat (first | refine blk_drewN ?_ _ | refine blk_drew ?_ | refine blk_alloc ?_ _)); exact BK304.out) hb); have n8_ := Aside0.mk (blk_below (g := gb311) (o := .cells #[.slice Ao30 t329.length co30, .slice Ao34 t330.length co34] 27 (0, 0)) (by (with_reducible repeat (first | refine blk_drewN ?_ _ | refine blk_drew ?_ | refine blk_alloc ?_ _)); exact BK311.out) hb); have n9_ := Aside0.mk (blk_below (g := gb319) (o := .cells #[.slice Ao37 t312.length co37, .slice Ao42 t315.length co42] 27 (0, 0)) (by (with_reducible repeat (first | refine blk_drewN ?_ _ | refine blk_drew ?_ | refine blk_alloc ?_ _)); exact BK319.out) hb); have n10_ := Aside0.mk (below_step (by repeat (first | (with_reducible first | exact HB.out | apply below_alloc | apply pw_below_drewN | apply below_drew1 | refine below_set ?_ GE289.out | refine below_set ?_ GE304.out | refine below_set ?_ GE311.out | refine below_set ?_ GE319.out) | exact HB.out)) hb); clear HO_305000; clear HO_305001; clear HO_312000; clear HO_312001; clear HO_320000; clear HO_320001; clear BK289; clear BK304; clear BK311; clear BK319; clear HB; have HO_305000 := n0_; have HO_305001 := n1_; have HO_312000 := n2_; have HO_312001 := n3_; have HO_320000 := n4_; have HO_320001 := n5_; have BK289 := n6_; have BK304 := n7_; have BK311 := n8_; have BK319 := n9_; have HB := n10_; clear n0_ n1_ n2_ n3_ n4_ n5_ n6_ n7_ n8_ n9_ n10_; (try clear hb); (try clear hb2); (try clear hk); (try clear hi); have hnb118 := NB289_304.out; have hnc118 := NB304_289.out; have hnb119 := NB289_311.out; have hnc119 := NB311_289.out; have hcz120_0 : w117.cell? ⟨gb289, 0, none⟩ = some (.slice A0_0 l0_0.length c0_0) := (blk_cell BK289.out 0).trans rfl; have hcz120_1 : w117.cell? ⟨gb289, 1, none⟩ = some (.slice A0_1 l0_1.length c0_1) := (blk_cell BK289.out 1).trans rfl; have hfz120_0 := blk_frozen BK289.out 0; have hfz120_1 := blk_frozen BK289.out 1) | ((with_reducible refine gate_callee (f := 17) rfl ?_); refine goesL_ (some 83) rfl rfl Try.func17 (by kernel_rfl) rfl #[.agg #[.slice A0_0 l0_0.length c0_0, .slice A0_1 l0_1.length c0_1]] rfl (by (try simp only [List.map_toArray, List.map_cons, List.map_nil]); first | done | rfl | (simp only [List.length_drop, List.length_take]; rfl)) ?_; (with_reducible refine (laws_toEnding.calls kj65 _ _ l0_0 _ _ l0_1 t336 t339 _ ?side1 ?side2 ?side3 ?side4 A108.out).mono ?_); (case side1 => repeat (first | exact (Kd.C_below HR0_0.out HB.out) | (with_reducible refine Kd.C_alloc ?_ _) | (with_reducible refine Kd.C_drewN ?_ _) | (with_reducible refine Kd.C_drew ?_))); (case side2 => exact HC0_0.out); (case side3 => repeat (first | exact (Kd.C_below HR0_1.out HB.out) | (with_reducible refine Kd.C_alloc ?_ _) | (with_reducible refine Kd.C_drewN ?_ _) | (with_reducible refine Kd.C_drew ?_))); (case side4 => exact HC0_1.out); rintro e w121 ⟨v337, v340, rfl, ho0, ho1, hb⟩; refine ⟨_, rfl, ?_⟩; have n0_ := Aside0.mk (Kd.R_mono (Kd.R_told (Kd.R_told (Kd.R_old (by (with_reducible repeat (first | apply Kd.R_alloc | apply Kd.R_drewN | apply Kd.R_drew)); exact HO_305000.out) hb) (Kd.R_base ho0)) (Kd.R_base ho1)) (fun _ h_ => h_.1)); have n1_ := Aside0.mk (Kd.R_mono (Kd.R_told (Kd.R_told (Kd.R_old (by (with_reducible repeat (first | apply Kd.R_alloc | apply Kd.R_drewN | apply Kd.R_drew)); exact HO_305001.out) hb) (Kd.R_base ho0)) (Kd.R_base ho1)) (fun _ h_ => h_.1)); have n2_ := Aside0.mk (Kd.R_mono (Kd.R_told (Kd.R_told (Kd.R_old (by (with_reducible repeat (first | apply Kd.R_alloc | apply Kd.R_drewN | apply Kd.R_drew)); exact HO_312000.out) hb) (Kd.R_base ho0)) (Kd.R_base ho1)) (fun _ h_ => h_.1)); have n3_ := Aside0.mk (Kd.R_mono (Kd.R_told (Kd.R_told (Kd.R_old (by (with_reducible repeat (first | apply Kd.R_alloc | apply Kd.R_drewN | apply Kd.R_drew)); exact HO_312001.out) hb) (Kd.R_base ho0)) (Kd.R_base ho1)) (fun _ h_ => h_.1)); have n4_ := Aside0.mk (Kd.R_mono (Kd.R_told (Kd.R_told (Kd.R_old (by (with_reducible repeat (first | apply Kd.R_alloc | apply Kd.R_drewN | apply Kd.R_drew)); exact HO_320000.out) hb) (Kd.R_base ho0)) (Kd.R_base ho1)) (fun _ h_ => h_.1)); have n5_ := Aside0.mk (Kd.R_mono (Kd.R_told (Kd.R_told (Kd.R_old (by (with_reducible repeat (first | apply Kd.R_alloc | apply Kd.R_drewN | apply Kd.R_drew)); exact HO_320001.out) hb) (Kd.R_base ho0)) (Kd.R_base ho1)) (fun _ h_ => h_.1)); have n6_ := Aside0.mk (Kd.R_lower (Kd.R_new' (Kd.R_new' (Kd.R_new' (Kd.R_new' (Kd.R_new' (Kd.R_new' ho0 (Kd.R_lt (by (with_reducible repeat (first | apply Kd.R_alloc | apply Kd.R_drewN | apply Kd.R_drew)); exact HO_305000.out))) (Kd.R_lt (by (with_reducible repeat (first | apply Kd.R_alloc | apply Kd.R_drewN | apply Kd.R_drew)); exact HO_305001.out))) (Kd.R_lt (by (with_reducible repeat (first | apply Kd.R_alloc | apply Kd.R_drewN | apply Kd.R_drew)); exact HO_312000.out))) (Kd.R_lt (by (with_reducible repeat (first | apply Kd.R_alloc | apply Kd.R_drewN | apply Kd.R_drew)); exact HO_312001.out))) (Kd.R_lt (by (with_reducible repeat (first | apply Kd.R_alloc | apply Kd.R_drewN | apply Kd.R_drew)); exact HO_320000.out))) (Kd.R_lt (by (with_reducible repeat (first | apply Kd.R_alloc | apply Kd.R_drewN | apply Kd.R_drew)); exact HO_320001.out))) (below_size (by repeat (first | (with_reducible first | exact HB.out | apply below_alloc | apply pw_below_drewN | apply below_drew1 | refine below_set ?_ GE289.out | refine below_set ?_ GE304.out | refine below_set ?_ GE311.out | refine below_set ?_ GE319.out) | exact HB.out)))); have n7_ := Aside0.mk (Kd.R_lower (Kd.R_new' (Kd.R_new' (Kd.R_new' (Kd.R_new' (Kd.R_new' (Kd.R_new' ho1 (Kd.R_lt (by (with_reducible repeat (first | apply Kd.R_alloc | apply Kd.R_drewN | apply Kd.R_drew)); exact HO_305000.out))) (Kd.R_lt (by (with_reducible repeat (first | apply Kd.R_alloc | apply Kd.R_drewN | apply Kd.R_drew)); exact HO_305001.out))) (Kd.R_lt (by (with_reducible repeat (first | apply Kd.R_alloc | apply Kd.R_drewN | apply Kd.R_drew)); exact HO_312000.out))) (Kd.R_lt (by (with_reducible repeat (first | apply Kd.R_alloc | apply Kd.R_drewN | apply Kd.R_drew)); exact HO_312001.out))) (Kd.R_lt (by (with_reducible repeat (first | apply Kd.R_alloc | apply Kd.R_drewN | apply Kd.R_drew)); exact HO_320000.out))) (Kd.R_lt (by (with_reducible repeat (first | apply Kd.R_alloc | apply Kd.R_drewN | apply Kd.R_drew)); exact HO_320001.out))) (below_size (by repeat (first | (with_reducible first | exact HB.out | apply below_alloc | apply pw_below_drewN | apply below_drew1 | refine below_set ?_ GE289.out | refine below_set ?_ GE304.out | refine below_set ?_ GE311.out | refine below_set ?_ GE319.out) | exact HB.out)))); have n8_ := Aside0.mk (blk_below (g := gb289) (o := .cells #[.slice A0_0 l0_0.length c0_0, .slice A0_1 l0_1.length c0_1] 24 (0, 0)) (by (with_reducible repeat (first | refine blk_drewN ?_ _ | refine blk_drew ?_ | refine blk_alloc ?_ _)); exact BK289.out) hb); have n9_ := Aside0.mk (blk_below (g := gb304) (o := .cells #[.slice Ao23 t297.length co23, .slice Ao26 t300.length co26] 27 (0, 0)) (by (with_reducible repeat (first | refine blk_drewN ?_ _ | refine blk_drew ?_ | refine blk_alloc ?_ _)); exact BK304.out) hb); have n10_ := Aside0.mk (blk_below (g := gb311) (o := .cells #[.slice Ao30 t329.length co30, .slice Ao34 t330.length co34] 27 (0, 0)) (by (with_reducible repeat (first | refine blk_drewN ?_ _ | refine blk_drew ?_ | refine blk_alloc ?_ _)); exact BK311.out) hb); have n11_ := Aside0.mk (blk_below (g := gb319) (o := .cells #[.slice Ao37 t312.length co37, .slice Ao42 t315.length co42] 27 (0, 0)) (by (with_reducible repeat (first | refine blk_drewN ?_ _ | refine blk_drew ?_ | refine blk_alloc ?_ _)); exact BK319.out) hb); have n12_ := Aside0.mk (below_step (by repeat (first | (with_reducible first | exact HB.out | apply below_alloc | apply pw_below_drewN | apply below_drew1 | refine below_set ?_ GE289.out | refine below_set ?_ GE304.out | refine below_set ?_ GE311.out | refine below_set ?_ GE319.out) | exact HB.out)) hb); clear HO_305000; clear HO_305001; clear HO_312000; clear HO_312001; clear HO_320000; clear HO_320001; clear BK289; clear BK304; clear BK311; clear BK319; clear HB; have HO_305000 := n0_; have HO_305001 := n1_; have HO_312000 := n2_; have HO_312001 := n3_; have HO_320000 := n4_; have HO_320001 := n5_; have HO338 := n6_; have HO341 := n7_; have BK289 := n8_; have BK304 := n9_; have BK311 := n10_; have BK319 := n11_; have HB := n12_; clear n0_ n1_ n2_ n3_ n4_ n5_ n6_ n7_ n8_ n9_ n10_ n11_ n12_; (try clear hb); (try clear hb2); (try clear hk); (try clear hi); (try clear ho0); (try clear ho1); obtain ⟨Ao122, co122, eo122⟩ := Kd.R_slice HO338.out; subst eo122; obtain ⟨Ao123, co123, eo123⟩ := Kd.R_slice HO341.out; subst eo123) | ((with_reducible refine gate_callee (f := 27) rfl ?_); refine goesL_ (some 86) rfl rfl Try.func27 (by kernel_rfl) rfl #[.agg #[.slice Ao122 t336.length co122, .slice Ao123 t339.length co123], .bool a1, .int .i64 a2] rfl (by (try simp only [List.map_toArray, List.map_cons, List.map_nil]); first | done | rfl | (simp only [List.length_drop, List.length_take]; rfl)) ?_; (with_reducible refine (impl_AfterOpening.calls kj65 _ _ t336 _ _ t339 a1 a2 t342 t345 t348 _ ?side1 ?side2 ?side3 ?side4 A109.out).mono ?_); (case side1 => repeat (first | exact (Kd.R_reads' HO338.out).2.2 | (with_reducible refine Kd.C_alloc ?_ _) | (with_reducible refine Kd.C_drewN ?_ _) | (with_reducible refine Kd.C_drew ?_))); (case side2 => exact (Kd.R_reads' HO338.out).2.1); (case side3 => repeat (first | exact (Kd.R_reads' HO341.out).2.2 | (with_reducible refine Kd.C_alloc ?_ _) | (with_reducible refine Kd.C_drewN ?_ _) | (with_reducible refine Kd.C_drew ?_))); (case side4 => exact (Kd.R_reads' HO341.out).2.1); rintro e w124 ⟨v343, v346, rfl, ho0, ho1, hb⟩; refine ⟨_, rfl, ?_⟩; have n0_ := Aside0.mk (Kd.R_mono (Kd.R_told (Kd.R_told (Kd.R_old (by (with_reducible repeat (first | apply Kd.R_alloc | apply Kd.R_drewN | apply Kd.R_drew)); exact HO_305000.out) hb) (Kd.R_base ho0)) (Kd.R_base ho1)) (fun _ h_ => h_.1)); have n1_ := Aside0.mk (Kd.R_mono (Kd.R_told (Kd.R_told (Kd.R_old (by (with_reducible repeat (first | apply Kd.R_alloc | apply Kd.R_drewN | apply Kd.R_drew)); exact HO_305001.out) hb) (Kd.R_base ho0)) (Kd.R_base ho1)) (fun _ h_ => h_.1)); have n2_ := Aside0.mk (Kd.R_mono (Kd.R_told (Kd.R_told (Kd.R_old (by (with_reducible repeat (first | apply Kd.R_alloc | apply Kd.R_drewN | apply Kd.R_drew)); exact HO_312000.out) hb) (Kd.R_base ho0)) (Kd.R_base ho1)) (fun _ h_ => h_.1)); have n3_ := Aside0.mk (Kd.R_mono (Kd.R_told (Kd.R_told (Kd.R_old (by (with_reducible repeat (first | apply Kd.R_alloc | apply Kd.R_drewN | apply Kd.R_drew)); exact HO_312001.out) hb) (Kd.R_base ho0)) (Kd.R_base ho1)) (fun _ h_ => h_.1)); have n4_ := Aside0.mk (Kd.R_mono (Kd.R_told (Kd.R_told (Kd.R_old (by (with_reducible repeat (first | apply Kd.R_alloc | apply Kd.R_drewN | apply Kd.R_drew)); exact HO_320000.out) hb) (Kd.R_base ho0)) (Kd.R_base ho1)) (fun _ h_ => h_.1)); have n5_ := Aside0.mk (Kd.R_mono (Kd.R_told (Kd.R_told (Kd.R_old (by (with_reducible repeat (first | apply Kd.R_alloc | apply Kd.R_drewN | apply Kd.R_drew)); exact HO_320001.out) hb) (Kd.R_base ho0)) (Kd.R_base ho1)) (fun _ h_ => h_.1)); have n6_ := Aside0.mk (Kd.R_mono (Kd.R_told (Kd.R_told (Kd.R_old (by (with_reducible repeat (first | apply Kd.R_alloc | apply Kd.R_drewN | apply Kd.R_drew)); exact HO338.out) hb) (Kd.R_base ho0)) (Kd.R_base ho1)) (fun _ h_ => h_.1)); have n7_ := Aside0.mk (Kd.R_mono (Kd.R_told (Kd.R_told (Kd.R_old (by (with_reducible repeat (first | apply Kd.R_alloc | apply Kd.R_drewN | apply Kd.R_drew)); exact HO341.out) hb) (Kd.R_base ho0)) (Kd.R_base ho1)) (fun _ h_ => h_.1)); have n8_ := Aside0.mk (Kd.R_lower (Kd.R_new' (Kd.R_new' (Kd.R_new' (Kd.R_new' (Kd.R_new' (Kd.R_new' (Kd.R_new' (Kd.R_new' ho0 (Kd.R_lt (by (with_reducible repeat (first | apply Kd.R_alloc | apply Kd.R_drewN | apply Kd.R_drew)); exact HO_305000.out))) (Kd.R_lt (by (with_reducible repeat (first | apply Kd.R_alloc | apply Kd.R_drewN | apply Kd.R_drew)); exact HO_305001.out))) (Kd.R_lt (by (with_reducible repeat (first | apply Kd.R_alloc | apply Kd.R_drewN | apply Kd.R_drew)); exact HO_312000.out))) (Kd.R_lt (by (with_reducible repeat (first | apply Kd.R_alloc | apply Kd.R_drewN | apply Kd.R_drew)); exact HO_312001.out))) (Kd.R_lt (by (with_reducible repeat (first | apply Kd.R_alloc | apply Kd.R_drewN | apply Kd.R_drew)); exact HO_320000.out))) (Kd.R_lt (by (with_reducible repeat (first | apply Kd.R_alloc | apply Kd.R_drewN | apply Kd.R_drew)); exact HO_320001.out))) (Kd.R_lt (by (with_reducible repeat (first | apply Kd.R_alloc | apply Kd.R_drewN | apply Kd.R_drew)); exact HO338.out))) (Kd.R_lt (by (with_reducible repeat (first | apply Kd.R_alloc | apply Kd.R_drewN | apply Kd.R_drew)); exact HO341.out))) (below_size (by repeat (first | (with_reducible first | exact HB.out | apply below_alloc | apply pw_below_drewN | apply below_drew1 | refine below_set ?_ GE289.out | refine below_set ?_ GE304.out | refine below_set ?_ GE311.out | refine below_set ?_ GE319.out) | exact HB.out)))); have n9_ := Aside0.mk (Kd.R_lower (Kd.R_new' (Kd.R_new' (Kd.R_new' (Kd.R_new' (Kd.R_new' (Kd.R_new' (Kd.R_new' (Kd.R_new' ho1 (Kd.R_lt (by (with_reducible repeat (first | apply Kd.R_alloc | apply Kd.R_drewN | apply Kd.R_drew)); exact HO_305000.out))) (Kd.R_lt (by (with_reducible repeat (first | apply Kd.R_alloc | apply Kd.R_drewN | apply Kd.R_drew)); exact HO_305001.out))) (Kd.R_lt (by (with_reducible repeat (first | apply Kd.R_alloc | apply Kd.R_drewN | apply Kd.R_drew)); exact HO_312000.out))) (Kd.R_lt (by (with_reducible repeat (first | apply Kd.R_alloc | apply Kd.R_drewN | apply Kd.R_drew)); exact HO_312001.out))) (Kd.R_lt (by (with_reducible repeat (first | apply Kd.R_alloc | apply Kd.R_drewN | apply Kd.R_drew)); exact HO_320000.out))) (Kd.R_lt (by (with_reducible repeat (first | apply Kd.R_alloc | apply Kd.R_drewN | apply Kd.R_drew)); exact HO_320001.out))) (Kd.R_lt (by (with_reducible repeat (first | apply Kd.R_alloc | apply Kd.R_drewN | apply Kd.R_drew)); exact HO338.out))) (Kd.R_lt (by (with_reducible repeat (first | apply Kd.R_alloc | apply Kd.R_drewN | apply Kd.R_drew)); exact HO341.out))) (below_size (by repeat (first | (with_reducible first | exact HB.out | apply below_alloc | apply pw_below_drewN | apply below_drew1 | refine below_set ?_ GE289.out | refine below_set ?_ GE304.out | refine below_set ?_ GE311.out | refine below_set ?_ GE319.out) | exact HB.out)))); have n10_ := Aside0.mk (blk_below (g := gb289) (o := .cells #[.slice A0_0 l0_0.length c0_0, .slice A0_1 l0_1.length c0_1] 24 (0, 0)) (by (with_reducible repeat (first | refine blk_drewN ?_ _ | refine blk_drew ?_ | refine blk_alloc ?_ _)); exact BK289.out) hb); have n11_ := Aside0.mk (blk_below (g := gb304) (o := .cells #[.slice Ao23 t297.length co23, .slice Ao26 t300.length co26] 27 (0, 0)) (by (with_reducible repeat (first | refine blk_drewN ?_ _ | refine blk_drew ?_ | refine blk_alloc ?_ _)); exact BK304.out) hb); have n12_ := Aside0.mk (blk_below (g := gb311) (o := .cells #[.slice Ao30 t329.length co30, .slice Ao34 t330.length co34] 27 (0, 0)) (by (with_reducible repeat (first | refine blk_drewN ?_ _ | refine blk_drew ?_ | refine blk_alloc ?_ _)); exact BK311.out) hb); have n13_ := Aside0.mk (blk_below (g := gb319) (o := .cells #[.slice Ao37 t312.length co37, .slice Ao42 t315.length co42] 27 (0, 0)) (by (with_reducible repeat (first | refine blk_drewN ?_ _ | refine blk_drew ?_ | refine blk_alloc ?_ _)); exact BK319.out) hb); have n14_ := Aside0.mk (below_step (by repeat (first | (with_reducible first | exact HB.out | apply below_alloc | apply pw_below_drewN | apply below_drew1 | refine below_set ?_ GE289.out | refine below_set ?_ GE304.out | refine below_set ?_ GE311.out | refine below_set ?_ GE319.out) | exact HB.out)) hb); clear HO_305000; clear HO_305001; clear HO_312000; clear HO_312001; clear HO_320000; clear HO_320001; clear HO338; clear HO341; clear BK289; clear BK304; clear BK311; clear BK319; clear HB; have HO_305000 := n0_; have HO_305001 := n1_; have HO_312000 := n2_; have HO_312001 := n3_; have HO_320000 := n4_; have HO_320001 := n5_; have HO338 := n6_; have HO341 := n7_; have HO344 := n8_; have HO347 := n9_; have BK289 := n10_; have BK304 := n11_; have BK311 := n12_; have BK319 := n13_; have HB := n14_; clear n0_ n1_ n2_ n3_ n4_ n5_ n6_ n7_ n8_ n9_ n10_ n11_ n12_ n13_ n14_; (try clear hb); (try clear hb2); (try clear hk); (try clear hi); (try clear ho0); (try clear ho1)) | ((with_reducible refine gate_dst (N := 16) rfl ?_); refine box_event ?hg (N := 16) ?hd (cs := #[.slice none 0 0, .slice none 0 0]) (t := 27) ?hr ?_; (case hd => rfl); (case hg => rfl); (case hr => first | (go_simp; done) | (go_simp; rfl)); intro gb349 hg w125 hbox hb; have n0_ := Aside0.mk (Kd.R_below (by (with_reducible repeat (first | apply Kd.R_alloc | apply Kd.R_drewN | apply Kd.R_drew)); exact HO_305000.out) hb); have n1_ := Aside0.mk (Kd.R_below (by (with_reducible repeat (first | apply Kd.R_alloc | apply Kd.R_drewN | apply Kd.R_drew)); exact HO_305001.out) hb); have n2_ := Aside0.mk (Kd.R_below (by (with_reducible repeat (first | apply Kd.R_alloc | apply Kd.R_drewN | apply Kd.R_drew)); exact HO_312000.out) hb); have n3_ := Aside0.mk (Kd.R_below (by (with_reducible repeat (first | apply Kd.R_alloc | apply Kd.R_drewN | apply Kd.R_drew)); exact HO_312001.out) hb); have n4_ := Aside0.mk (Kd.R_below (by (with_reducible repeat (first | apply Kd.R_alloc | apply Kd.R_drewN | apply Kd.R_drew)); exact HO_320000.out) hb); have n5_ := Aside0.mk (Kd.R_below (by (with_reducible repeat (first | apply Kd.R_alloc | apply Kd.R_drewN | apply Kd.R_drew)); exact HO_320001.out) hb); have n6_ := Aside0.mk (Kd.R_below (by (with_reducible repeat (first | apply Kd.R_alloc | apply Kd.R_drewN | apply Kd.R_drew)); exact HO338.out) hb); have n7_ := Aside0.mk (Kd.R_below (by (with_reducible repeat (first | apply Kd.R_alloc | apply Kd.R_drewN | apply Kd.R_drew)); exact HO341.out) hb); have n8_ := Aside0.mk (Kd.R_below (by (with_reducible repeat (first | apply Kd.R_alloc | apply Kd.R_drewN | apply Kd.R_drew)); exact HO344.out) hb); have n9_ := Aside0.mk (Kd.R_below (by (with_reducible repeat (first | apply Kd.R_alloc | apply Kd.R_drewN | apply Kd.R_drew)); exact HO347.out) hb); have n10_ := Aside0.mk (blk_below (g := gb289) (o := .cells #[.slice A0_0 l0_0.length c0_0, .slice A0_1 l0_1.length c0_1] 24 (0, 0)) (by (with_reducible repeat (first | refine blk_drewN ?_ _ | refine blk_drew ?_ | refine blk_alloc ?_ _)); exact BK289.out) hb); have n11_ := Aside0.mk (blk_below (g := gb304) (o := .cells #[.slice Ao23 t297.length co23, .slice Ao26 t300.length co26] 27 (0, 0)) (by (with_reducible repeat (first | refine blk_drewN ?_ _ | refine blk_drew ?_ | refine blk_alloc ?_ _)); exact BK304.out) hb); have n12_ := Aside0.mk (blk_below (g := gb311) (o := .cells #[.slice Ao30 t329.length co30, .slice Ao34 t330.length co34] 27 (0, 0)) (by (with_reducible repeat (first | refine blk_drewN ?_ _ | refine blk_drew ?_ | refine blk_alloc ?_ _)); exact BK311.out) hb); have n13_ := Aside0.mk (blk_below (g := gb319) (o := .cells #[.slice Ao37 t312.length co37, .slice Ao42 t315.length co42] 27 (0, 0)) (by (with_reducible repeat (first | refine blk_drewN ?_ _ | refine blk_drew ?_ | refine blk_alloc ?_ _)); exact BK319.out) hb); have n14_ := Aside0.mk (below_step (by repeat (first | (with_reducible first | exact HB.out | apply below_alloc | apply pw_below_drewN | apply below_drew1 | refine below_set ?_ GE289.out | refine below_set ?_ GE304.out | refine below_set ?_ GE311.out | refine below_set ?_ GE319.out) | exact HB.out)) hb); have n15_ := Aside0.mk (hbox); have n16_ := Aside0.mk ((by rw [hg]; exact (below_size (by repeat (first | (with_reducible first | exact HB.out | apply below_alloc | apply pw_below_drewN | apply below_drew1 | refine below_set ?_ GE289.out | refine below_set ?_ GE304.out | refine below_set ?_ GE311.out | refine below_set ?_ GE319.out) | exact HB.out))) : w.heap.size ≤ gb349)); have n17_ := Aside0.mk ((by rw [hg]; exact (below_size (by repeat (first | (with_reducible first | exact HB.out | apply below_alloc | apply pw_below_drewN | apply below_drew1 | refine below_set ?_ GE289.out | refine below_set ?_ GE304.out | refine below_set ?_ GE311.out | refine below_set ?_ GE319.out) | exact HB.out))) : w.heap.size ≤ gb349)); have n18_ := Aside0.mk ((by rw [hg]; exact Nat.ne_of_lt (blk_lt (g := gb289) (o := .cells #[.slice A0_0 l0_0.length c0_0, .slice A0_1 l0_1.length c0_1] 24 (0, 0)) (by (with_reducible repeat (first | refine blk_drewN ?_ _ | refine blk_drew ?_ | refine blk_alloc ?_ _)); exact BK289.out)) : gb289 ≠ gb349)); have n19_ := Aside0.mk ((by rw [hg]; exact Nat.ne_of_gt (blk_lt (g := gb289) (o := .cells #[.slice A0_0 l0_0.length c0_0, .slice A0_1 l0_1.length c0_1] 24 (0, 0)) (by (with_reducible repeat (first | refine blk_drewN ?_ _ | refine blk_drew ?_ | refine blk_alloc ?_ _)); exact BK289.out)) : gb349 ≠ gb289)); have n20_ := Aside0.mk ((by rw [hg]; exact Nat.ne_of_lt (blk_lt (g := gb304) (o := .cells #[.slice Ao23 t297.length co23, .slice Ao26 t300.length co26] 27 (0, 0)) (by (with_reducible repeat (first | refine blk_drewN ?_ _ | refine blk_drew ?_ | refine blk_alloc ?_ _)); exact BK304.out)) : gb304 ≠ gb349)); have n21_ := Aside0.mk ((by rw [hg]; exact Nat.ne_of_gt (blk_lt (g := gb304) (o := .cells #[.slice Ao23 t297.length co23, .slice Ao26 t300.length co26] 27 (0, 0)) (by (with_reducible repeat (first | refine blk_drewN ?_ _ | refine blk_drew ?_ | refine blk_alloc ?_ _)); exact BK304.out)) : gb349 ≠ gb304)); have n22_ := Aside0.mk ((by rw [hg]; exact Nat.ne_of_lt (blk_lt (g := gb311) (o := .cells #[.slice Ao30 t329.length co30, .slice Ao34 t330.length co34] 27 (0, 0)) (by (with_reducible repeat (first | refine blk_drewN ?_ _ | refine blk_drew ?_ | refine blk_alloc ?_ _)); exact BK311.out)) : gb311 ≠ gb349)); have n23_ := Aside0.mk ((by rw [hg]; exact Nat.ne_of_gt (blk_lt (g := gb311) (o := .cells #[.slice Ao30 t329.length co30, .slice Ao34 t330.length co34] 27 (0, 0)) (by (with_reducible repeat (first | refine blk_drewN ?_ _ | refine blk_drew ?_ | refine blk_alloc ?_ _)); exact BK311.out)) : gb349 ≠ gb311)); have n24_ := Aside0.mk ((by rw [hg]; exact Nat.ne_of_lt (blk_lt (g := gb319) (o := .cells #[.slice Ao37 t312.length co37, .slice Ao42 t315.length co42] 27 (0, 0)) (by (with_reducible repeat (first | refine blk_drewN ?_ _ | refine blk_drew ?_ | refine blk_alloc ?_ _)); exact BK319.out)) : gb319 ≠ gb349)); have n25_ := Aside0.mk ((by rw [hg]; exact Nat.ne_of_gt (blk_lt (g := gb319) (o := .cells #[.slice Ao37 t312.length co37, .slice Ao42 t315.length co42] 27 (0, 0)) (by (with_reducible repeat (first | refine blk_drewN ?_ _ | refine blk_drew ?_ | refine blk_alloc ?_ _)); exact BK319.out)) : gb349 ≠ gb319)); clear HO_305000; clear HO_305001; clear HO_312000; clear HO_312001; clear HO_320000; clear HO_320001; clear HO338; clear HO341; clear HO344; clear HO347; clear BK289; clear BK304; clear BK311; clear BK319; clear HB; have HO_305000 := n0_; have HO_305001 := n1_; have HO_312000 := n2_; have HO_312001 := n3_; have HO_320000 := n4_; have HO_320001 := n5_; have HO338 := n6_; have HO341 := n7_; have HO344 := n8_; have HO347 := n9_; have BK289 := n10_; have BK304 := n11_; have BK311 := n12_; have BK319 := n13_; have HB := n14_; have BK349 := n15_; have GW349 := n16_; have GE349 := n17_; have NB289_349 := n18_; have NB349_289 := n19_; have NB304_349 := n20_; have NB349_304 := n21_; have NB311_349 := n22_; have NB349_311 := n23_; have NB319_349 := n24_; have NB349_319 := n25_; clear n0_ n1_ n2_ n3_ n4_ n5_ n6_ n7_ n8_ n9_ n10_ n11_ n12_ n13_ n14_ n15_ n16_ n17_ n18_ n19_ n20_ n21_ n22_ n23_ n24_ n25_; clear hb hbox hg; obtain ⟨Ao126, co126, eo126⟩ := Kd.R_slice HO344.out; subst eo126; have hnb127 := NB349_289.out; have hnc127 := NB289_349.out; have hnb128 := NB349_304.out; have hnc128 := NB304_349.out; have hnb129 := NB349_311.out; have hnc129 := NB311_349.out; have hnb130 := NB349_319.out; have hnc130 := NB319_349.out; have hcz131_0 : w125.cell? ⟨gb349, 0, none⟩ = some (.slice none 0 0) := (blk_cell BK349.out 0).trans rfl; have hcz131_1 : w125.cell? ⟨gb349, 1, none⟩ = some (.slice none 0 0) := (blk_cell BK349.out 1).trans rfl; have hfz131_0 := blk_frozen BK349.out 0; have hfz131_1 := blk_frozen BK349.out 1; obtain ⟨Ao132, co132, eo132⟩ := Kd.R_slice HO347.out; subst eo132))
           (try simp only [Act.put, List.setIfInBounds_toArray, List.set_cons_zero, List.set_cons_succ])
           go_cut [97] (fun v97 wc => ∃ (kq : Nat) (x97_109 : Bool), v97 = .bool x97_109 ∧ Aside0 (laws_FnExactAfterOpening.j2 kq t332 x97_109 t333 t334 = some r) ∧ Aside0 (kq ≤ kj65) ∧ Aside0 (Kd.R (Kd.int .i64) 2 wc w.heap.size (fun k_ => some k_ ≠ ((.slice Ao26 t300.length co26) : Value).ownBlock ∧ some k_ ≠ ((.slice Ao30 t329.length co30) : Value).ownBlock ∧ some k_ ≠ ((.slice Ao34 t330.length co34) : Value).ownBlock ∧ some k_ ≠ ((.slice Ao37 t312.length co37) : Value).ownBlock ∧ some k_ ≠ ((.slice Ao42 t315.length co42) : Value).ownBlock ∧ some k_ ≠ ((.slice Ao126 t342.length co126) : Value).ownBlock ∧ some k_ ≠ ((.slice Ao132 t345.length co132) : Value).ownBlock) (.slice Ao23 t297.length co23) t297) ∧ Aside0 (Kd.R (Kd.int .i64) 2 wc w.heap.size (fun k_ => some k_ ≠ ((.slice Ao23 t297.length co23) : Value).ownBlock ∧ some k_ ≠ ((.slice Ao30 t329.length co30) : Value).ownBlock ∧ some k_ ≠ ((.slice Ao34 t330.length co34) : Value).ownBlock ∧ some k_ ≠ ((.slice Ao37 t312.length co37) : Value).ownBlock ∧ some k_ ≠ ((.slice Ao42 t315.length co42) : Value).ownBlock ∧ some k_ ≠ ((.slice Ao126 t342.length co126) : Value).ownBlock ∧ some k_ ≠ ((.slice Ao132 t345.length co132) : Value).ownBlock) (.slice Ao26 t300.length co26) t300) ∧ Aside0 (Kd.R (Kd.int .i64) 2 wc w.heap.size (fun k_ => some k_ ≠ ((.slice Ao23 t297.length co23) : Value).ownBlock ∧ some k_ ≠ ((.slice Ao26 t300.length co26) : Value).ownBlock ∧ some k_ ≠ ((.slice Ao34 t330.length co34) : Value).ownBlock ∧ some k_ ≠ ((.slice Ao37 t312.length co37) : Value).ownBlock ∧ some k_ ≠ ((.slice Ao42 t315.length co42) : Value).ownBlock ∧ some k_ ≠ ((.slice Ao126 t342.length co126) : Value).ownBlock ∧ some k_ ≠ ((.slice Ao132 t345.length co132) : Value).ownBlock) (.slice Ao30 t329.length co30) t329) ∧ Aside0 (Kd.R (Kd.int .i64) 2 wc w.heap.size (fun k_ => some k_ ≠ ((.slice Ao23 t297.length co23) : Value).ownBlock ∧ some k_ ≠ ((.slice Ao26 t300.length co26) : Value).ownBlock ∧ some k_ ≠ ((.slice Ao30 t329.length co30) : Value).ownBlock ∧ some k_ ≠ ((.slice Ao37 t312.length co37) : Value).ownBlock ∧ some k_ ≠ ((.slice Ao42 t315.length co42) : Value).ownBlock ∧ some k_ ≠ ((.slice Ao126 t342.length co126) : Value).ownBlock ∧ some k_ ≠ ((.slice Ao132 t345.length co132) : Value).ownBlock) (.slice Ao34 t330.length co34) t330) ∧ Aside0 (Kd.R (Kd.int .i64) 2 wc w.heap.size (fun k_ => some k_ ≠ ((.slice Ao23 t297.length co23) : Value).ownBlock ∧ some k_ ≠ ((.slice Ao26 t300.length co26) : Value).ownBlock ∧ some k_ ≠ ((.slice Ao30 t329.length co30) : Value).ownBlock ∧ some k_ ≠ ((.slice Ao34 t330.length co34) : Value).ownBlock ∧ some k_ ≠ ((.slice Ao42 t315.length co42) : Value).ownBlock ∧ some k_ ≠ ((.slice Ao126 t342.length co126) : Value).ownBlock ∧ some k_ ≠ ((.slice Ao132 t345.length co132) : Value).ownBlock) (.slice Ao37 t312.length co37) t333) ∧ Aside0 (Kd.R (Kd.int .i64) 2 wc w.heap.size (fun k_ => some k_ ≠ ((.slice Ao23 t297.length co23) : Value).ownBlock ∧ some k_ ≠ ((.slice Ao26 t300.length co26) : Value).ownBlock ∧ some k_ ≠ ((.slice Ao30 t329.length co30) : Value).ownBlock ∧ some k_ ≠ ((.slice Ao34 t330.length co34) : Value).ownBlock ∧ some k_ ≠ ((.slice Ao37 t312.length co37) : Value).ownBlock ∧ some k_ ≠ ((.slice Ao126 t342.length co126) : Value).ownBlock ∧ some k_ ≠ ((.slice Ao132 t345.length co132) : Value).ownBlock) (.slice Ao42 t315.length co42) t334) ∧ Aside0 (Kd.R (Kd.int .i64) 2 wc w.heap.size (fun k_ => some k_ ≠ ((.slice Ao23 t297.length co23) : Value).ownBlock ∧ some k_ ≠ ((.slice Ao26 t300.length co26) : Value).ownBlock ∧ some k_ ≠ ((.slice Ao30 t329.length co30) : Value).ownBlock ∧ some k_ ≠ ((.slice Ao34 t330.length co34) : Value).ownBlock ∧ some k_ ≠ ((.slice Ao37 t312.length co37) : Value).ownBlock ∧ some k_ ≠ ((.slice Ao42 t315.length co42) : Value).ownBlock ∧ some k_ ≠ ((.slice Ao132 t345.length co132) : Value).ownBlock) (.slice Ao126 t342.length co126) t342) ∧ Aside0 (Kd.R (Kd.int .i64) 2 wc w.heap.size (fun k_ => some k_ ≠ ((.slice Ao23 t297.length co23) : Value).ownBlock ∧ some k_ ≠ ((.slice Ao26 t300.length co26) : Value).ownBlock ∧ some k_ ≠ ((.slice Ao30 t329.length co30) : Value).ownBlock ∧ some k_ ≠ ((.slice Ao34 t330.length co34) : Value).ownBlock ∧ some k_ ≠ ((.slice Ao37 t312.length co37) : Value).ownBlock ∧ some k_ ≠ ((.slice Ao42 t315.length co42) : Value).ownBlock ∧ some k_ ≠ ((.slice Ao126 t342.length co126) : Value).ownBlock) (.slice Ao132 t345.length co132) t345) ∧ Aside0 (wc.heap[gb289]? = some (.cells #[(.slice A0_0 l0_0.length c0_0), (.slice A0_1 l0_1.length c0_1)] 24 (0, 0))) ∧ Aside0 (wc.heap[gb304]? = some (.cells #[(.slice Ao23 t297.length co23), (.slice Ao26 t300.length co26)] 27 (0, 0))) ∧ Aside0 (wc.heap[gb311]? = some (.cells #[(.slice Ao30 t329.length co30), (.slice Ao34 t330.length co34)] 27 (0, 0))) ∧ Aside0 (wc.heap[gb319]? = some (.cells #[(.slice Ao37 t312.length co37), (.slice Ao42 t315.length co42)] 27 (0, 0))) ∧ Aside0 (wc.heap[gb349]? = some (.cells #[(.slice Ao126 t342.length co126), (.slice Ao132 t345.length co132)] 27 (0, 0))) ∧ Aside0 (Below w.heap.size w wc))
           case first =>
            have H := HC110.out
            clear HC110
            replace H := Option.bind_eq_some_iff.mp H
            obtain ⟨t350, A1330, H⟩ := H
            replace H : (if t350 = true then (laws_FnExactAfterOpening.j2 kj65 t332 (t348 != t303) t333 t334) else (laws_FnExactAfterOpening.j2 kj65 t332 true t333 t334)) = some r := H
            have A133 := Aside0.mk A1330
            clear A1330
            by_cases c134 : t350 = true
            ·subst c134
             have H1 : (laws_FnExactAfterOpening.j2 kj65 t332 (t348 != t303) t333 t334) = some r := by rw [if_pos rfl] at H; exact H
             clear H
             have H := H1
             clear H1
             have H' := Aside0.mk H
             clear H
             have hnb135 := NB349_289.out
             have hnc135 := NB289_349.out
             have hnb136 := NB349_304.out
             have hnc136 := NB304_349.out
             have hnb137 := NB349_311.out
             have hnc137 := NB311_349.out
             have hnb138 := NB349_319.out
             have hnc138 := NB319_349.out
             have hcz139_0 : w125.cell? ⟨gb349, 0, none⟩ = some (.slice none 0 0) := (blk_cell BK349.out 0).trans rfl
             have hcz139_1 : w125.cell? ⟨gb349, 1, none⟩ = some (.slice none 0 0) := (blk_cell BK349.out 1).trans rfl
             have hfz139_0 := blk_frozen BK349.out 0
             have hfz139_1 := blk_frozen BK349.out 1
             have hnb140 := NB304_289.out
             have hnc140 := NB289_304.out
             have hnb141 := NB304_311.out
             have hnc141 := NB311_304.out
             have hnb142 := NB304_319.out
             have hnc142 := NB319_304.out
             have hcz143_0 : w125.cell? ⟨gb304, 0, none⟩ = some (.slice Ao23 t297.length co23) := (blk_cell BK304.out 0).trans rfl
             have hcz143_1 : w125.cell? ⟨gb304, 1, none⟩ = some (.slice Ao26 t300.length co26) := (blk_cell BK304.out 1).trans rfl
             have hfz143_0 := blk_frozen BK304.out 0
             have hfz143_1 := blk_frozen BK304.out 1
             go_wp2_with (first | ((with_reducible refine gate_callee (f := 19) rfl ?_); refine goesL_ (some 91) rfl rfl Try.func19 (by kernel_rfl) rfl #[.agg #[.slice Ao126 t342.length co126, .slice Ao132 t345.length co132], .agg #[.slice Ao23 t297.length co23, .slice Ao26 t300.length co26]] rfl (by (try simp only [List.map_toArray, List.map_cons, List.map_nil]); first | done | rfl | (simp only [List.length_drop, List.length_take]; rfl)) ?_; (with_reducible refine (laws_eqEnding.calls kj65 _ _ t342 _ _ t345 _ _ t297 _ _ t300 true _ ?side1 ?side2 ?side3 ?side4 ?side5 ?side6 ?side7 ?side8 A133.out).mono ?_); (case side1 => refine (Kd.R_reads' (e := 2) (base := w.heap.size) (ok := fun k_ => ((((((((some k_ ≠ (.slice Ao132 t345.length co132 : Value).ownBlock ∧ some k_ ≠ (.slice Ao23 t297.length co23 : Value).ownBlock) ∧ some k_ ≠ (.slice Ao26 t300.length co26 : Value).ownBlock) ∧ some k_ ≠ (.slice Ao30 t329.length co30 : Value).ownBlock) ∧ some k_ ≠ (.slice Ao34 t330.length co34 : Value).ownBlock) ∧ some k_ ≠ (.slice Ao37 t312.length co37 : Value).ownBlock) ∧ some k_ ≠ (.slice Ao42 t315.length co42 : Value).ownBlock) ∧ some k_ ≠ (.slice Ao122 t336.length co122 : Value).ownBlock) ∧ some k_ ≠ (.slice Ao123 t339.length co123 : Value).ownBlock)) (n := t342.length) (c := co126) ?_).2.2; exact (by (with_reducible repeat (first | apply Kd.R_alloc | apply Kd.R_drewN | apply Kd.R_drew)); exact (Kd.R_mono (Kd.R_far (p := ⟨gb349, 1, none⟩) (Kd.R_far (p := ⟨gb349, 0, none⟩) (Kd.R_types HO344.out BK349.out (by decide)) (fun _ hk => hk.2) (.slice Ao126 t342.length co126)) (fun _ hk => hk.2) (.slice Ao132 t345.length co132)) (fun _ h_ => h_.1)))); (case side2 => exact (Kd.R_reads' HO344.out).2.1); (case side3 => refine (Kd.R_reads' (e := 2) (base := w.heap.size) (ok := fun k_ => ((((((((some k_ ≠ (.slice Ao126 t342.length co126 : Value).ownBlock ∧ some k_ ≠ (.slice Ao23 t297.length co23 : Value).ownBlock) ∧ some k_ ≠ (.slice Ao26 t300.length co26 : Value).ownBlock) ∧ some k_ ≠ (.slice Ao30 t329.length co30 : Value).ownBlock) ∧ some k_ ≠ (.slice Ao34 t330.length co34 : Value).ownBlock) ∧ some k_ ≠ (.slice Ao37 t312.length co37 : Value).ownBlock) ∧ some k_ ≠ (.slice Ao42 t315.length co42 : Value).ownBlock) ∧ some k_ ≠ (.slice Ao122 t336.length co122 : Value).ownBlock) ∧ some k_ ≠ (.slice Ao123 t339.length co123 : Value).ownBlock)) (n := t345.length) (c := co132) ?_).2.2; exact (by (with_reducible repeat (first | apply Kd.R_alloc | apply Kd.R_drewN | apply Kd.R_drew)); exact (Kd.R_mono (Kd.R_far (p := ⟨gb349, 1, none⟩) (Kd.R_far (p := ⟨gb349, 0, none⟩) (Kd.R_types HO347.out BK349.out (by decide)) (fun _ hk => hk.2) (.slice Ao126 t342.length co126)) (fun _ hk => hk.2) (.slice Ao132 t345.length co132)) (fun _ h_ => h_.1)))); (case side4 => exact (Kd.R_reads' HO347.out).2.1); (case side5 => refine (Kd.R_reads' (e := 2) (base := w.heap.size) (ok := fun k_ => (((((some k_ ≠ (.slice Ao26 t300.length co26 : Value).ownBlock ∧ (some k_ ≠ (.slice Ao30 t329.length co30 : Value).ownBlock ∧ (some k_ ≠ (.slice Ao34 t330.length co34 : Value).ownBlock ∧ (some k_ ≠ (.slice Ao37 t312.length co37 : Value).ownBlock ∧ some k_ ≠ (.slice Ao42 t315.length co42 : Value).ownBlock)))) ∧ some k_ ≠ (.slice Ao122 t336.length co122 : Value).ownBlock) ∧ some k_ ≠ (.slice Ao123 t339.length co123 : Value).ownBlock) ∧ some k_ ≠ (.slice Ao126 t342.length co126 : Value).ownBlock) ∧ some k_ ≠ (.slice Ao132 t345.length co132 : Value).ownBlock)) (n := t297.length) (c := co23) ?_).2.2; exact (by (with_reducible repeat (first | apply Kd.R_alloc | apply Kd.R_drewN | apply Kd.R_drew)); exact (Kd.R_mono (Kd.R_far (p := ⟨gb349, 1, none⟩) (Kd.R_far (p := ⟨gb349, 0, none⟩) (Kd.R_types HO_305000.out BK349.out (by decide)) (fun _ hk => hk.2) (.slice Ao126 t342.length co126)) (fun _ hk => hk.2) (.slice Ao132 t345.length co132)) (fun _ h_ => h_.1)))); (case side6 => exact (Kd.R_reads' HO_305000.out).2.1); (case side7 => refine (Kd.R_reads' (e := 2) (base := w.heap.size) (ok := fun k_ => (((((some k_ ≠ (.slice Ao23 t297.length co23 : Value).ownBlock ∧ (some k_ ≠ (.slice Ao30 t329.length co30 : Value).ownBlock ∧ (some k_ ≠ (.slice Ao34 t330.length co34 : Value).ownBlock ∧ (some k_ ≠ (.slice Ao37 t312.length co37 : Value).ownBlock ∧ some k_ ≠ (.slice Ao42 t315.length co42 : Value).ownBlock)))) ∧ some k_ ≠ (.slice Ao122 t336.length co122 : Value).ownBlock) ∧ some k_ ≠ (.slice Ao123 t339.length co123 : Value).ownBlock) ∧ some k_ ≠ (.slice Ao126 t342.length co126 : Value).ownBlock) ∧ some k_ ≠ (.slice Ao132 t345.length co132 : Value).ownBlock)) (n := t300.length) (c := co26) ?_).2.2; exact (by (with_reducible repeat (first | apply Kd.R_alloc | apply Kd.R_drewN | apply Kd.R_drew)); exact (Kd.R_mono (Kd.R_far (p := ⟨gb349, 1, none⟩) (Kd.R_far (p := ⟨gb349, 0, none⟩) (Kd.R_types HO_305001.out BK349.out (by decide)) (fun _ hk => hk.2) (.slice Ao126 t342.length co126)) (fun _ hk => hk.2) (.slice Ao132 t345.length co132)) (fun _ h_ => h_.1)))); (case side8 => exact (Kd.R_reads' HO_305001.out).2.1); rintro e w144 ⟨rfl, hb⟩; refine ⟨_, rfl, ?_⟩; have n0_ := Aside0.mk (Kd.R_below (by (with_reducible repeat (first | apply Kd.R_alloc | apply Kd.R_drewN | apply Kd.R_drew)); exact (Kd.R_mono (Kd.R_far (p := ⟨gb349, 1, none⟩) (Kd.R_far (p := ⟨gb349, 0, none⟩) (Kd.R_types HO_305000.out BK349.out (by decide)) (fun _ hk => hk.2) (.slice Ao126 t342.length co126)) (fun _ hk => hk.2) (.slice Ao132 t345.length co132)) (fun _ h_ => h_.1))) hb); have n1_ := Aside0.mk (Kd.R_below (by (with_reducible repeat (first | apply Kd.R_alloc | apply Kd.R_drewN | apply Kd.R_drew)); exact (Kd.R_mono (Kd.R_far (p := ⟨gb349, 1, none⟩) (Kd.R_far (p := ⟨gb349, 0, none⟩) (Kd.R_types HO_305001.out BK349.out (by decide)) (fun _ hk => hk.2) (.slice Ao126 t342.length co126)) (fun _ hk => hk.2) (.slice Ao132 t345.length co132)) (fun _ h_ => h_.1))) hb); have n2_ := Aside0.mk (Kd.R_below (by (with_reducible repeat (first | apply Kd.R_alloc | apply Kd.R_drewN | apply Kd.R_drew)); exact (Kd.R_mono (Kd.R_far (p := ⟨gb349, 1, none⟩) (Kd.R_far (p := ⟨gb349, 0, none⟩) (Kd.R_types HO_312000.out BK349.out (by decide)) (fun _ hk => hk.2) (.slice Ao126 t342.length co126)) (fun _ hk => hk.2) (.slice Ao132 t345.length co132)) (fun _ h_ => h_.1))) hb); have n3_ := Aside0.mk (Kd.R_below (by (with_reducible repeat (first | apply Kd.R_alloc | apply Kd.R_drewN | apply Kd.R_drew)); exact (Kd.R_mono (Kd.R_far (p := ⟨gb349, 1, none⟩) (Kd.R_far (p := ⟨gb349, 0, none⟩) (Kd.R_types HO_312001.out BK349.out (by decide)) (fun _ hk => hk.2) (.slice Ao126 t342.length co126)) (fun _ hk => hk.2) (.slice Ao132 t345.length co132)) (fun _ h_ => h_.1))) hb); have n4_ := Aside0.mk (Kd.R_below (by (with_reducible repeat (first | apply Kd.R_alloc | apply Kd.R_drewN | apply Kd.R_drew)); exact (Kd.R_mono (Kd.R_far (p := ⟨gb349, 1, none⟩) (Kd.R_far (p := ⟨gb349, 0, none⟩) (Kd.R_types HO_320000.out BK349.out (by decide)) (fun _ hk => hk.2) (.slice Ao126 t342.length co126)) (fun _ hk => hk.2) (.slice Ao132 t345.length co132)) (fun _ h_ => h_.1))) hb); have n5_ := Aside0.mk (Kd.R_below (by (with_reducible repeat (first | apply Kd.R_alloc | apply Kd.R_drewN | apply Kd.R_drew)); exact (Kd.R_mono (Kd.R_far (p := ⟨gb349, 1, none⟩) (Kd.R_far (p := ⟨gb349, 0, none⟩) (Kd.R_types HO_320001.out BK349.out (by decide)) (fun _ hk => hk.2) (.slice Ao126 t342.length co126)) (fun _ hk => hk.2) (.slice Ao132 t345.length co132)) (fun _ h_ => h_.1))) hb); have n6_ := Aside0.mk (Kd.R_below (by (with_reducible repeat (first | apply Kd.R_alloc | apply Kd.R_drewN | apply Kd.R_drew)); exact (Kd.R_mono (Kd.R_far (p := ⟨gb349, 1, none⟩) (Kd.R_far (p := ⟨gb349, 0, none⟩) (Kd.R_types HO338.out BK349.out (by decide)) (fun _ hk => hk.2) (.slice Ao126 t342.length co126)) (fun _ hk => hk.2) (.slice Ao132 t345.length co132)) (fun _ h_ => h_.1))) hb); have n7_ := Aside0.mk (Kd.R_below (by (with_reducible repeat (first | apply Kd.R_alloc | apply Kd.R_drewN | apply Kd.R_drew)); exact (Kd.R_mono (Kd.R_far (p := ⟨gb349, 1, none⟩) (Kd.R_far (p := ⟨gb349, 0, none⟩) (Kd.R_types HO341.out BK349.out (by decide)) (fun _ hk => hk.2) (.slice Ao126 t342.length co126)) (fun _ hk => hk.2) (.slice Ao132 t345.length co132)) (fun _ h_ => h_.1))) hb); have n8_ := Aside0.mk (Kd.R_below (by (with_reducible repeat (first | apply Kd.R_alloc | apply Kd.R_drewN | apply Kd.R_drew)); exact (Kd.R_mono (Kd.R_far (p := ⟨gb349, 1, none⟩) (Kd.R_far (p := ⟨gb349, 0, none⟩) (Kd.R_types HO344.out BK349.out (by decide)) (fun _ hk => hk.2) (.slice Ao126 t342.length co126)) (fun _ hk => hk.2) (.slice Ao132 t345.length co132)) (fun _ h_ => h_.1))) hb); have n9_ := Aside0.mk (Kd.R_below (by (with_reducible repeat (first | apply Kd.R_alloc | apply Kd.R_drewN | apply Kd.R_drew)); exact (Kd.R_mono (Kd.R_far (p := ⟨gb349, 1, none⟩) (Kd.R_far (p := ⟨gb349, 0, none⟩) (Kd.R_types HO347.out BK349.out (by decide)) (fun _ hk => hk.2) (.slice Ao126 t342.length co126)) (fun _ hk => hk.2) (.slice Ao132 t345.length co132)) (fun _ h_ => h_.1))) hb); have n10_ := Aside0.mk (blk_below (g := gb289) (o := .cells #[.slice A0_0 l0_0.length c0_0, .slice A0_1 l0_1.length c0_1] 24 (0, 0)) (by (with_reducible repeat (first | refine blk_drewN ?_ _ | refine blk_drew ?_ | refine blk_alloc ?_ _)); refine blk_far ?_ NB289_349.out _; (with_reducible repeat (first | refine blk_drewN ?_ _ | refine blk_drew ?_ | refine blk_alloc ?_ _)); refine blk_far ?_ NB289_349.out _; (with_reducible repeat (first | refine blk_drewN ?_ _ | refine blk_drew ?_ | refine blk_alloc ?_ _)); exact BK289.out) hb); have n11_ := Aside0.mk (blk_below (g := gb304) (o := .cells #[.slice Ao23 t297.length co23, .slice Ao26 t300.length co26] 27 (0, 0)) (by (with_reducible repeat (first | refine blk_drewN ?_ _ | refine blk_drew ?_ | refine blk_alloc ?_ _)); refine blk_far ?_ NB304_349.out _; (with_reducible repeat (first | refine blk_drewN ?_ _ | refine blk_drew ?_ | refine blk_alloc ?_ _)); refine blk_far ?_ NB304_349.out _; (with_reducible repeat (first | refine blk_drewN ?_ _ | refine blk_drew ?_ | refine blk_alloc ?_ _)); exact BK304.out) hb); have n12_ := Aside0.mk (blk_below (g := gb311) (o := .cells #[.slice Ao30 t329.length co30, .slice Ao34 t330.length co34] 27 (0, 0)) (by (with_reducible repeat (first | refine blk_drewN ?_ _ | refine blk_drew ?_ | refine blk_alloc ?_ _)); refine blk_far ?_ NB311_349.out _; (with_reducible repeat (first | refine blk_drewN ?_ _ | refine blk_drew ?_ | refine blk_alloc ?_ _)); refine blk_far ?_ NB311_349.out _; (with_reducible repeat (first | refine blk_drewN ?_ _ | refine blk_drew ?_ | refine blk_alloc ?_ _)); exact BK311.out) hb); have n13_ := Aside0.mk (blk_below (g := gb319) (o := .cells #[.slice Ao37 t312.length co37, .slice Ao42 t315.length co42] 27 (0, 0)) (by (with_reducible repeat (first | refine blk_drewN ?_ _ | refine blk_drew ?_ | refine blk_alloc ?_ _)); refine blk_far ?_ NB319_349.out _; (with_reducible repeat (first | refine blk_drewN ?_ _ | refine blk_drew ?_ | refine blk_alloc ?_ _)); refine blk_far ?_ NB319_349.out _; (with_reducible repeat (first | refine blk_drewN ?_ _ | refine blk_drew ?_ | refine blk_alloc ?_ _)); exact BK319.out) hb); have n14_ := Aside0.mk (blk_below (g := gb349) (o := .cells #[.slice Ao126 t342.length co126, .slice Ao132 t345.length co132] 27 (0, 0)) (by (with_reducible repeat (first | refine blk_drewN ?_ _ | refine blk_drew ?_ | refine blk_alloc ?_ _)); refine blk_put (cs := #[.slice Ao126 t342.length co126, .slice none 0 0]) ?_ 1 _ rfl; (with_reducible repeat (first | refine blk_drewN ?_ _ | refine blk_drew ?_ | refine blk_alloc ?_ _)); refine blk_put (cs := #[.slice none 0 0, .slice none 0 0]) ?_ 0 _ rfl; (with_reducible repeat (first | refine blk_drewN ?_ _ | refine blk_drew ?_ | refine blk_alloc ?_ _)); exact BK349.out) hb); have n15_ := Aside0.mk (below_step (by repeat (first | (with_reducible first | exact HB.out | apply below_alloc | apply pw_below_drewN | apply below_drew1 | refine below_set ?_ GE289.out | refine below_set ?_ GE304.out | refine below_set ?_ GE311.out | refine below_set ?_ GE319.out | refine below_set ?_ GE349.out) | exact HB.out)) hb); clear HO_305000; clear HO_305001; clear HO_312000; clear HO_312001; clear HO_320000; clear HO_320001; clear HO338; clear HO341; clear HO344; clear HO347; clear BK289; clear BK304; clear BK311; clear BK319; clear BK349; clear HB; have HO_305000 := n0_; have HO_305001 := n1_; have HO_312000 := n2_; have HO_312001 := n3_; have HO_320000 := n4_; have HO_320001 := n5_; have HO338 := n6_; have HO341 := n7_; have HO344 := n8_; have HO347 := n9_; have BK289 := n10_; have BK304 := n11_; have BK311 := n12_; have BK319 := n13_; have BK349 := n14_; have HB := n15_; clear n0_ n1_ n2_ n3_ n4_ n5_ n6_ n7_ n8_ n9_ n10_ n11_ n12_ n13_ n14_ n15_; (try clear hb); (try clear hb2); (try clear hk); (try clear hi)))
             go_meet
             case rel => exact ⟨_, ((t348 != t303)), rfl, H', ⟨by have := HJ12.out; have := HJ65.out; first | omega | exact Nat.le_refl _⟩, ⟨by (try simp only [hl312000_65]); (try simp only [hl312001_65]); exact Kd.R_mono HO_305000.out (fun _ hk => ⟨hk.1.1.1.1.1, ⟨hk.1.1.1.1.2.1, ⟨hk.1.1.1.1.2.2.1, ⟨hk.1.1.1.1.2.2.2.1, ⟨hk.1.1.1.1.2.2.2.2, ⟨hk.1.2, hk.2⟩⟩⟩⟩⟩⟩)⟩, ⟨by (try simp only [hl312000_65]); (try simp only [hl312001_65]); exact Kd.R_mono HO_305001.out (fun _ hk => ⟨hk.1.1.1.1.1, ⟨hk.1.1.1.1.2.1, ⟨hk.1.1.1.1.2.2.1, ⟨hk.1.1.1.1.2.2.2.1, ⟨hk.1.1.1.1.2.2.2.2, ⟨hk.1.2, hk.2⟩⟩⟩⟩⟩⟩)⟩, ⟨by (try simp only [hl312000_65]); (try simp only [hl312001_65]); exact Kd.R_mono HO_312000.out (fun _ hk => ⟨hk.1.1.1.1.1, ⟨hk.1.1.1.1.2.1, ⟨hk.1.1.1.1.2.2.1, ⟨hk.1.1.1.1.2.2.2.1, ⟨hk.1.1.1.1.2.2.2.2, ⟨hk.1.2, hk.2⟩⟩⟩⟩⟩⟩)⟩, ⟨by (try simp only [hl312000_65]); (try simp only [hl312001_65]); exact Kd.R_mono HO_312001.out (fun _ hk => ⟨hk.1.1.1.1.1, ⟨hk.1.1.1.1.2.1, ⟨hk.1.1.1.1.2.2.1, ⟨hk.1.1.1.1.2.2.2.1, ⟨hk.1.1.1.1.2.2.2.2, ⟨hk.1.2, hk.2⟩⟩⟩⟩⟩⟩)⟩, ⟨by (try simp only [hl312000_65]); (try simp only [hl312001_65]); exact Kd.R_mono HO_320000.out (fun _ hk => ⟨hk.1.1.1.1.1, ⟨hk.1.1.1.1.2.1, ⟨hk.1.1.1.1.2.2.1, ⟨hk.1.1.1.1.2.2.2.1, ⟨hk.1.1.1.1.2.2.2.2, ⟨hk.1.2, hk.2⟩⟩⟩⟩⟩⟩)⟩, ⟨by (try simp only [hl312000_65]); (try simp only [hl312001_65]); exact Kd.R_mono HO_320001.out (fun _ hk => ⟨hk.1.1.1.1.1, ⟨hk.1.1.1.1.2.1, ⟨hk.1.1.1.1.2.2.1, ⟨hk.1.1.1.1.2.2.2.1, ⟨hk.1.1.1.1.2.2.2.2, ⟨hk.1.2, hk.2⟩⟩⟩⟩⟩⟩)⟩, ⟨by (try simp only [hl312000_65]); (try simp only [hl312001_65]); exact Kd.R_mono HO344.out (fun _ hk => ⟨hk.1.1.1.1.1.1.1.2, ⟨hk.1.1.1.1.1.1.2, ⟨hk.1.1.1.1.1.2, ⟨hk.1.1.1.1.2, ⟨hk.1.1.1.2, ⟨hk.1.1.2, hk.1.1.1.1.1.1.1.1⟩⟩⟩⟩⟩⟩)⟩, ⟨by (try simp only [hl312000_65]); (try simp only [hl312001_65]); exact Kd.R_mono HO347.out (fun _ hk => ⟨hk.1.1.1.1.1.1.1.2, ⟨hk.1.1.1.1.1.1.2, ⟨hk.1.1.1.1.1.2, ⟨hk.1.1.1.1.2, ⟨hk.1.1.1.2, ⟨hk.1.1.2, hk.1.1.1.1.1.1.1.1⟩⟩⟩⟩⟩⟩)⟩, ⟨by (try simp only [hl312000_65]); (try simp only [hl312001_65]); exact BK289.out⟩, ⟨by (try simp only [hl312000_65]); (try simp only [hl312001_65]); exact BK304.out⟩, ⟨by (try simp only [hl312000_65]); (try simp only [hl312001_65]); exact BK311.out⟩, ⟨by (try simp only [hl312000_65]); (try simp only [hl312001_65]); exact BK319.out⟩, ⟨by (try simp only [hl312000_65]); (try simp only [hl312001_65]); exact BK349.out⟩, ⟨by repeat (first | (with_reducible first | exact HB.out | apply below_alloc | apply pw_below_drewN | apply below_drew1 | refine below_set ?_ GE289.out | refine below_set ?_ GE304.out | refine below_set ?_ GE311.out | refine below_set ?_ GE319.out | refine below_set ?_ GE349.out) | exact HB.out)⟩⟩
            ·replace c134 := Bool.eq_false_iff.mpr c134
             subst c134
             have H1 : (laws_FnExactAfterOpening.j2 kj65 t332 true t333 t334) = some r := by rw [if_neg (show ¬ (false = true) by decide)] at H; exact H
             clear H
             have H := H1
             clear H1
             have H' := Aside0.mk H
             clear H
             have hnb145 := NB349_289.out
             have hnc145 := NB289_349.out
             have hnb146 := NB349_304.out
             have hnc146 := NB304_349.out
             have hnb147 := NB349_311.out
             have hnc147 := NB311_349.out
             have hnb148 := NB349_319.out
             have hnc148 := NB319_349.out
             have hcz149_0 : w125.cell? ⟨gb349, 0, none⟩ = some (.slice none 0 0) := (blk_cell BK349.out 0).trans rfl
             have hcz149_1 : w125.cell? ⟨gb349, 1, none⟩ = some (.slice none 0 0) := (blk_cell BK349.out 1).trans rfl
             have hfz149_0 := blk_frozen BK349.out 0
             have hfz149_1 := blk_frozen BK349.out 1
             have hnb150 := NB304_289.out
             have hnc150 := NB289_304.out
             have hnb151 := NB304_311.out
             have hnc151 := NB311_304.out
             have hnb152 := NB304_319.out
             have hnc152 := NB319_304.out
             have hcz153_0 : w125.cell? ⟨gb304, 0, none⟩ = some (.slice Ao23 t297.length co23) := (blk_cell BK304.out 0).trans rfl
             have hcz153_1 : w125.cell? ⟨gb304, 1, none⟩ = some (.slice Ao26 t300.length co26) := (blk_cell BK304.out 1).trans rfl
             have hfz153_0 := blk_frozen BK304.out 0
             have hfz153_1 := blk_frozen BK304.out 1
             go_wp2_with (first | ((with_reducible refine gate_callee (f := 19) rfl ?_); refine goesL_ (some 91) rfl rfl Try.func19 (by kernel_rfl) rfl #[.agg #[.slice Ao126 t342.length co126, .slice Ao132 t345.length co132], .agg #[.slice Ao23 t297.length co23, .slice Ao26 t300.length co26]] rfl (by (try simp only [List.map_toArray, List.map_cons, List.map_nil]); first | done | rfl | (simp only [List.length_drop, List.length_take]; rfl)) ?_; (with_reducible refine (laws_eqEnding.calls kj65 _ _ t342 _ _ t345 _ _ t297 _ _ t300 false _ ?side1 ?side2 ?side3 ?side4 ?side5 ?side6 ?side7 ?side8 A133.out).mono ?_); (case side1 => refine (Kd.R_reads' (e := 2) (base := w.heap.size) (ok := fun k_ => ((((((((some k_ ≠ (.slice Ao132 t345.length co132 : Value).ownBlock ∧ some k_ ≠ (.slice Ao23 t297.length co23 : Value).ownBlock) ∧ some k_ ≠ (.slice Ao26 t300.length co26 : Value).ownBlock) ∧ some k_ ≠ (.slice Ao30 t329.length co30 : Value).ownBlock) ∧ some k_ ≠ (.slice Ao34 t330.length co34 : Value).ownBlock) ∧ some k_ ≠ (.slice Ao37 t312.length co37 : Value).ownBlock) ∧ some k_ ≠ (.slice Ao42 t315.length co42 : Value).ownBlock) ∧ some k_ ≠ (.slice Ao122 t336.length co122 : Value).ownBlock) ∧ some k_ ≠ (.slice Ao123 t339.length co123 : Value).ownBlock)) (n := t342.length) (c := co126) ?_).2.2; exact (by (with_reducible repeat (first | apply Kd.R_alloc | apply Kd.R_drewN | apply Kd.R_drew)); exact (Kd.R_mono (Kd.R_far (p := ⟨gb349, 1, none⟩) (Kd.R_far (p := ⟨gb349, 0, none⟩) (Kd.R_types HO344.out BK349.out (by decide)) (fun _ hk => hk.2) (.slice Ao126 t342.length co126)) (fun _ hk => hk.2) (.slice Ao132 t345.length co132)) (fun _ h_ => h_.1)))); (case side2 => exact (Kd.R_reads' HO344.out).2.1); (case side3 => refine (Kd.R_reads' (e := 2) (base := w.heap.size) (ok := fun k_ => ((((((((some k_ ≠ (.slice Ao126 t342.length co126 : Value).ownBlock ∧ some k_ ≠ (.slice Ao23 t297.length co23 : Value).ownBlock) ∧ some k_ ≠ (.slice Ao26 t300.length co26 : Value).ownBlock) ∧ some k_ ≠ (.slice Ao30 t329.length co30 : Value).ownBlock) ∧ some k_ ≠ (.slice Ao34 t330.length co34 : Value).ownBlock) ∧ some k_ ≠ (.slice Ao37 t312.length co37 : Value).ownBlock) ∧ some k_ ≠ (.slice Ao42 t315.length co42 : Value).ownBlock) ∧ some k_ ≠ (.slice Ao122 t336.length co122 : Value).ownBlock) ∧ some k_ ≠ (.slice Ao123 t339.length co123 : Value).ownBlock)) (n := t345.length) (c := co132) ?_).2.2; exact (by (with_reducible repeat (first | apply Kd.R_alloc | apply Kd.R_drewN | apply Kd.R_drew)); exact (Kd.R_mono (Kd.R_far (p := ⟨gb349, 1, none⟩) (Kd.R_far (p := ⟨gb349, 0, none⟩) (Kd.R_types HO347.out BK349.out (by decide)) (fun _ hk => hk.2) (.slice Ao126 t342.length co126)) (fun _ hk => hk.2) (.slice Ao132 t345.length co132)) (fun _ h_ => h_.1)))); (case side4 => exact (Kd.R_reads' HO347.out).2.1); (case side5 => refine (Kd.R_reads' (e := 2) (base := w.heap.size) (ok := fun k_ => (((((some k_ ≠ (.slice Ao26 t300.length co26 : Value).ownBlock ∧ (some k_ ≠ (.slice Ao30 t329.length co30 : Value).ownBlock ∧ (some k_ ≠ (.slice Ao34 t330.length co34 : Value).ownBlock ∧ (some k_ ≠ (.slice Ao37 t312.length co37 : Value).ownBlock ∧ some k_ ≠ (.slice Ao42 t315.length co42 : Value).ownBlock)))) ∧ some k_ ≠ (.slice Ao122 t336.length co122 : Value).ownBlock) ∧ some k_ ≠ (.slice Ao123 t339.length co123 : Value).ownBlock) ∧ some k_ ≠ (.slice Ao126 t342.length co126 : Value).ownBlock) ∧ some k_ ≠ (.slice Ao132 t345.length co132 : Value).ownBlock)) (n := t297.length) (c := co23) ?_).2.2; exact (by (with_reducible repeat (first | apply Kd.R_alloc | apply Kd.R_drewN | apply Kd.R_drew)); exact (Kd.R_mono (Kd.R_far (p := ⟨gb349, 1, none⟩) (Kd.R_far (p := ⟨gb349, 0, none⟩) (Kd.R_types HO_305000.out BK349.out (by decide)) (fun _ hk => hk.2) (.slice Ao126 t342.length co126)) (fun _ hk => hk.2) (.slice Ao132 t345.length co132)) (fun _ h_ => h_.1)))); (case side6 => exact (Kd.R_reads' HO_305000.out).2.1); (case side7 => refine (Kd.R_reads' (e := 2) (base := w.heap.size) (ok := fun k_ => (((((some k_ ≠ (.slice Ao23 t297.length co23 : Value).ownBlock ∧ (some k_ ≠ (.slice Ao30 t329.length co30 : Value).ownBlock ∧ (some k_ ≠ (.slice Ao34 t330.length co34 : Value).ownBlock ∧ (some k_ ≠ (.slice Ao37 t312.length co37 : Value).ownBlock ∧ some k_ ≠ (.slice Ao42 t315.length co42 : Value).ownBlock)))) ∧ some k_ ≠ (.slice Ao122 t336.length co122 : Value).ownBlock) ∧ some k_ ≠ (.slice Ao123 t339.length co123 : Value).ownBlock) ∧ some k_ ≠ (.slice Ao126 t342.length co126 : Value).ownBlock) ∧ some k_ ≠ (.slice Ao132 t345.length co132 : Value).ownBlock)) (n := t300.length) (c := co26) ?_).2.2; exact (by (with_reducible repeat (first | apply Kd.R_alloc | apply Kd.R_drewN | apply Kd.R_drew)); exact (Kd.R_mono (Kd.R_far (p := ⟨gb349, 1, none⟩) (Kd.R_far (p := ⟨gb349, 0, none⟩) (Kd.R_types HO_305001.out BK349.out (by decide)) (fun _ hk => hk.2) (.slice Ao126 t342.length co126)) (fun _ hk => hk.2) (.slice Ao132 t345.length co132)) (fun _ h_ => h_.1)))); (case side8 => exact (Kd.R_reads' HO_305001.out).2.1); rintro e w154 ⟨rfl, hb⟩; refine ⟨_, rfl, ?_⟩; have n0_ := Aside0.mk (Kd.R_below (by (with_reducible repeat (first | apply Kd.R_alloc | apply Kd.R_drewN | apply Kd.R_drew)); exact (Kd.R_mono (Kd.R_far (p := ⟨gb349, 1, none⟩) (Kd.R_far (p := ⟨gb349, 0, none⟩) (Kd.R_types HO_305000.out BK349.out (by decide)) (fun _ hk => hk.2) (.slice Ao126 t342.length co126)) (fun _ hk => hk.2) (.slice Ao132 t345.length co132)) (fun _ h_ => h_.1))) hb); have n1_ := Aside0.mk (Kd.R_below (by (with_reducible repeat (first | apply Kd.R_alloc | apply Kd.R_drewN | apply Kd.R_drew)); exact (Kd.R_mono (Kd.R_far (p := ⟨gb349, 1, none⟩) (Kd.R_far (p := ⟨gb349, 0, none⟩) (Kd.R_types HO_305001.out BK349.out (by decide)) (fun _ hk => hk.2) (.slice Ao126 t342.length co126)) (fun _ hk => hk.2) (.slice Ao132 t345.length co132)) (fun _ h_ => h_.1))) hb); have n2_ := Aside0.mk (Kd.R_below (by (with_reducible repeat (first | apply Kd.R_alloc | apply Kd.R_drewN | apply Kd.R_drew)); exact (Kd.R_mono (Kd.R_far (p := ⟨gb349, 1, none⟩) (Kd.R_far (p := ⟨gb349, 0, none⟩) (Kd.R_types HO_312000.out BK349.out (by decide)) (fun _ hk => hk.2) (.slice Ao126 t342.length co126)) (fun _ hk => hk.2) (.slice Ao132 t345.length co132)) (fun _ h_ => h_.1))) hb); have n3_ := Aside0.mk (Kd.R_below (by (with_reducible repeat (first | apply Kd.R_alloc | apply Kd.R_drewN | apply Kd.R_drew)); exact (Kd.R_mono (Kd.R_far (p := ⟨gb349, 1, none⟩) (Kd.R_far (p := ⟨gb349, 0, none⟩) (Kd.R_types HO_312001.out BK349.out (by decide)) (fun _ hk => hk.2) (.slice Ao126 t342.length co126)) (fun _ hk => hk.2) (.slice Ao132 t345.length co132)) (fun _ h_ => h_.1))) hb); have n4_ := Aside0.mk (Kd.R_below (by (with_reducible repeat (first | apply Kd.R_alloc | apply Kd.R_drewN | apply Kd.R_drew)); exact (Kd.R_mono (Kd.R_far (p := ⟨gb349, 1, none⟩) (Kd.R_far (p := ⟨gb349, 0, none⟩) (Kd.R_types HO_320000.out BK349.out (by decide)) (fun _ hk => hk.2) (.slice Ao126 t342.length co126)) (fun _ hk => hk.2) (.slice Ao132 t345.length co132)) (fun _ h_ => h_.1))) hb); have n5_ := Aside0.mk (Kd.R_below (by (with_reducible repeat (first | apply Kd.R_alloc | apply Kd.R_drewN | apply Kd.R_drew)); exact (Kd.R_mono (Kd.R_far (p := ⟨gb349, 1, none⟩) (Kd.R_far (p := ⟨gb349, 0, none⟩) (Kd.R_types HO_320001.out BK349.out (by decide)) (fun _ hk => hk.2) (.slice Ao126 t342.length co126)) (fun _ hk => hk.2) (.slice Ao132 t345.length co132)) (fun _ h_ => h_.1))) hb); have n6_ := Aside0.mk (Kd.R_below (by (with_reducible repeat (first | apply Kd.R_alloc | apply Kd.R_drewN | apply Kd.R_drew)); exact (Kd.R_mono (Kd.R_far (p := ⟨gb349, 1, none⟩) (Kd.R_far (p := ⟨gb349, 0, none⟩) (Kd.R_types HO338.out BK349.out (by decide)) (fun _ hk => hk.2) (.slice Ao126 t342.length co126)) (fun _ hk => hk.2) (.slice Ao132 t345.length co132)) (fun _ h_ => h_.1))) hb); have n7_ := Aside0.mk (Kd.R_below (by (with_reducible repeat (first | apply Kd.R_alloc | apply Kd.R_drewN | apply Kd.R_drew)); exact (Kd.R_mono (Kd.R_far (p := ⟨gb349, 1, none⟩) (Kd.R_far (p := ⟨gb349, 0, none⟩) (Kd.R_types HO341.out BK349.out (by decide)) (fun _ hk => hk.2) (.slice Ao126 t342.length co126)) (fun _ hk => hk.2) (.slice Ao132 t345.length co132)) (fun _ h_ => h_.1))) hb); have n8_ := Aside0.mk (Kd.R_below (by (with_reducible repeat (first | apply Kd.R_alloc | apply Kd.R_drewN | apply Kd.R_drew)); exact (Kd.R_mono (Kd.R_far (p := ⟨gb349, 1, none⟩) (Kd.R_far (p := ⟨gb349, 0, none⟩) (Kd.R_types HO344.out BK349.out (by decide)) (fun _ hk => hk.2) (.slice Ao126 t342.length co126)) (fun _ hk => hk.2) (.slice Ao132 t345.length co132)) (fun _ h_ => h_.1))) hb); have n9_ := Aside0.mk (Kd.R_below (by (with_reducible repeat (first | apply Kd.R_alloc | apply Kd.R_drewN | apply Kd.R_drew)); exact (Kd.R_mono (Kd.R_far (p := ⟨gb349, 1, none⟩) (Kd.R_far (p := ⟨gb349, 0, none⟩) (Kd.R_types HO347.out BK349.out (by decide)) (fun _ hk => hk.2) (.slice Ao126 t342.length co126)) (fun _ hk => hk.2) (.slice Ao132 t345.length co132)) (fun _ h_ => h_.1))) hb); have n10_ := Aside0.mk (blk_below (g := gb289) (o := .cells #[.slice A0_0 l0_0.length c0_0, .slice A0_1 l0_1.length c0_1] 24 (0, 0)) (by (with_reducible repeat (first | refine blk_drewN ?_ _ | refine blk_drew ?_ | refine blk_alloc ?_ _)); refine blk_far ?_ NB289_349.out _; (with_reducible repeat (first | refine blk_drewN ?_ _ | refine blk_drew ?_ | refine blk_alloc ?_ _)); refine blk_far ?_ NB289_349.out _; (with_reducible repeat (first | refine blk_drewN ?_ _ | refine blk_drew ?_ | refine blk_alloc ?_ _)); exact BK289.out) hb); have n11_ := Aside0.mk (blk_below (g := gb304) (o := .cells #[.slice Ao23 t297.length co23, .slice Ao26 t300.length co26] 27 (0, 0)) (by (with_reducible repeat (first | refine blk_drewN ?_ _ | refine blk_drew ?_ | refine blk_alloc ?_ _)); refine blk_far ?_ NB304_349.out _; (with_reducible repeat (first | refine blk_drewN ?_ _ | refine blk_drew ?_ | refine blk_alloc ?_ _)); refine blk_far ?_ NB304_349.out _; (with_reducible repeat (first | refine blk_drewN ?_ _ | refine blk_drew ?_ | refine blk_alloc ?_ _)); exact BK304.out) hb); have n12_ := Aside0.mk (blk_below (g := gb311) (o := .cells #[.slice Ao30 t329.length co30, .slice Ao34 t330.length co34] 27 (0, 0)) (by (with_reducible repeat (first | refine blk_drewN ?_ _ | refine blk_drew ?_ | refine blk_alloc ?_ _)); refine blk_far ?_ NB311_349.out _; (with_reducible repeat (first | refine blk_drewN ?_ _ | refine blk_drew ?_ | refine blk_alloc ?_ _)); refine blk_far ?_ NB311_349.out _; (with_reducible repeat (first | refine blk_drewN ?_ _ | refine blk_drew ?_ | refine blk_alloc ?_ _)); exact BK311.out) hb); have n13_ := Aside0.mk (blk_below (g := gb319) (o := .cells #[.slice Ao37 t312.length co37, .slice Ao42 t315.length co42] 27 (0, 0)) (by (with_reducible repeat (first | refine blk_drewN ?_ _ | refine blk_drew ?_ | refine blk_alloc ?_ _)); refine blk_far ?_ NB319_349.out _; (with_reducible repeat (first | refine blk_drewN ?_ _ | refine blk_drew ?_ | refine blk_alloc ?_ _)); refine blk_far ?_ NB319_349.out _; (with_reducible repeat (first | refine blk_drewN ?_ _ | refine blk_drew ?_ | refine blk_alloc ?_ _)); exact BK319.out) hb); have n14_ := Aside0.mk (blk_below (g := gb349) (o := .cells #[.slice Ao126 t342.length co126, .slice Ao132 t345.length co132] 27 (0, 0)) (by (with_reducible repeat (first | refine blk_drewN ?_ _ | refine blk_drew ?_ | refine blk_alloc ?_ _)); refine blk_put (cs := #[.slice Ao126 t342.length co126, .slice none 0 0]) ?_ 1 _ rfl; (with_reducible repeat (first | refine blk_drewN ?_ _ | refine blk_drew ?_ | refine blk_alloc ?_ _)); refine blk_put (cs := #[.slice none 0 0, .slice none 0 0]) ?_ 0 _ rfl; (with_reducible repeat (first | refine blk_drewN ?_ _ | refine blk_drew ?_ | refine blk_alloc ?_ _)); exact BK349.out) hb); have n15_ := Aside0.mk (below_step (by repeat (first | (with_reducible first | exact HB.out | apply below_alloc | apply pw_below_drewN | apply below_drew1 | refine below_set ?_ GE289.out | refine below_set ?_ GE304.out | refine below_set ?_ GE311.out | refine below_set ?_ GE319.out | refine below_set ?_ GE349.out) | exact HB.out)) hb); clear HO_305000; clear HO_305001; clear HO_312000; clear HO_312001; clear HO_320000; clear HO_320001; clear HO338; clear HO341; clear HO344; clear HO347; clear BK289; clear BK304; clear BK311; clear BK319; clear BK349; clear HB; have HO_305000 := n0_; have HO_305001 := n1_; have HO_312000 := n2_; have HO_312001 := n3_; have HO_320000 := n4_; have HO_320001 := n5_; have HO338 := n6_; have HO341 := n7_; have HO344 := n8_; have HO347 := n9_; have BK289 := n10_; have BK304 := n11_; have BK311 := n12_; have BK319 := n13_; have BK349 := n14_; have HB := n15_; clear n0_ n1_ n2_ n3_ n4_ n5_ n6_ n7_ n8_ n9_ n10_ n11_ n12_ n13_ n14_ n15_; (try clear hb); (try clear hb2); (try clear hk); (try clear hi)))
             go_meet
             case rel => exact ⟨_, (true), rfl, H', ⟨by have := HJ12.out; have := HJ65.out; first | omega | exact Nat.le_refl _⟩, ⟨by (try simp only [hl312000_65]); (try simp only [hl312001_65]); exact Kd.R_mono HO_305000.out (fun _ hk => ⟨hk.1.1.1.1.1, ⟨hk.1.1.1.1.2.1, ⟨hk.1.1.1.1.2.2.1, ⟨hk.1.1.1.1.2.2.2.1, ⟨hk.1.1.1.1.2.2.2.2, ⟨hk.1.2, hk.2⟩⟩⟩⟩⟩⟩)⟩, ⟨by (try simp only [hl312000_65]); (try simp only [hl312001_65]); exact Kd.R_mono HO_305001.out (fun _ hk => ⟨hk.1.1.1.1.1, ⟨hk.1.1.1.1.2.1, ⟨hk.1.1.1.1.2.2.1, ⟨hk.1.1.1.1.2.2.2.1, ⟨hk.1.1.1.1.2.2.2.2, ⟨hk.1.2, hk.2⟩⟩⟩⟩⟩⟩)⟩, ⟨by (try simp only [hl312000_65]); (try simp only [hl312001_65]); exact Kd.R_mono HO_312000.out (fun _ hk => ⟨hk.1.1.1.1.1, ⟨hk.1.1.1.1.2.1, ⟨hk.1.1.1.1.2.2.1, ⟨hk.1.1.1.1.2.2.2.1, ⟨hk.1.1.1.1.2.2.2.2, ⟨hk.1.2, hk.2⟩⟩⟩⟩⟩⟩)⟩, ⟨by (try simp only [hl312000_65]); (try simp only [hl312001_65]); exact Kd.R_mono HO_312001.out (fun _ hk => ⟨hk.1.1.1.1.1, ⟨hk.1.1.1.1.2.1, ⟨hk.1.1.1.1.2.2.1, ⟨hk.1.1.1.1.2.2.2.1, ⟨hk.1.1.1.1.2.2.2.2, ⟨hk.1.2, hk.2⟩⟩⟩⟩⟩⟩)⟩, ⟨by (try simp only [hl312000_65]); (try simp only [hl312001_65]); exact Kd.R_mono HO_320000.out (fun _ hk => ⟨hk.1.1.1.1.1, ⟨hk.1.1.1.1.2.1, ⟨hk.1.1.1.1.2.2.1, ⟨hk.1.1.1.1.2.2.2.1, ⟨hk.1.1.1.1.2.2.2.2, ⟨hk.1.2, hk.2⟩⟩⟩⟩⟩⟩)⟩, ⟨by (try simp only [hl312000_65]); (try simp only [hl312001_65]); exact Kd.R_mono HO_320001.out (fun _ hk => ⟨hk.1.1.1.1.1, ⟨hk.1.1.1.1.2.1, ⟨hk.1.1.1.1.2.2.1, ⟨hk.1.1.1.1.2.2.2.1, ⟨hk.1.1.1.1.2.2.2.2, ⟨hk.1.2, hk.2⟩⟩⟩⟩⟩⟩)⟩, ⟨by (try simp only [hl312000_65]); (try simp only [hl312001_65]); exact Kd.R_mono HO344.out (fun _ hk => ⟨hk.1.1.1.1.1.1.1.2, ⟨hk.1.1.1.1.1.1.2, ⟨hk.1.1.1.1.1.2, ⟨hk.1.1.1.1.2, ⟨hk.1.1.1.2, ⟨hk.1.1.2, hk.1.1.1.1.1.1.1.1⟩⟩⟩⟩⟩⟩)⟩, ⟨by (try simp only [hl312000_65]); (try simp only [hl312001_65]); exact Kd.R_mono HO347.out (fun _ hk => ⟨hk.1.1.1.1.1.1.1.2, ⟨hk.1.1.1.1.1.1.2, ⟨hk.1.1.1.1.1.2, ⟨hk.1.1.1.1.2, ⟨hk.1.1.1.2, ⟨hk.1.1.2, hk.1.1.1.1.1.1.1.1⟩⟩⟩⟩⟩⟩)⟩, ⟨by (try simp only [hl312000_65]); (try simp only [hl312001_65]); exact BK289.out⟩, ⟨by (try simp only [hl312000_65]); (try simp only [hl312001_65]); exact BK304.out⟩, ⟨by (try simp only [hl312000_65]); (try simp only [hl312001_65]); exact BK311.out⟩, ⟨by (try simp only [hl312000_65]); (try simp only [hl312001_65]); exact BK319.out⟩, ⟨by (try simp only [hl312000_65]); (try simp only [hl312001_65]); exact BK349.out⟩, ⟨by repeat (first | (with_reducible first | exact HB.out | apply below_alloc | apply pw_below_drewN | apply below_drew1 | refine below_set ?_ GE289.out | refine below_set ?_ GE304.out | refine below_set ?_ GE311.out | refine below_set ?_ GE319.out | refine below_set ?_ GE349.out) | exact HB.out)⟩⟩
           case rest =>
            clear HC110
            try clear c1
            try clear c2
            try clear p2
            try clear c3
            try clear c4
            try clear c5
            try clear c5b0
            try clear c6
            try clear c7
            try clear c8
            try clear c9
            try clear c10
            try clear c11
            try clear c12
            try clear c13
            try clear c14
            try clear c15
            try clear c17
            try clear c19
            try clear c24
            try clear c26
            try clear c27
            try clear c28
            try clear c29
            try clear c31
            try clear c32
            try clear c38
            try clear c39
            try clear c40
            try clear c44
            try clear c45
            try clear c46
            try clear c47
            try clear c49
            try clear c50
            try clear c53
            try clear c54
            try clear c55
            try clear c57
            try clear c58
            try clear c61
            try clear c64
            try clear c72
            try clear c73
            try clear c74
            try clear c77
            try clear c77b0
            try clear c79
            try clear c80
            try clear c81
            try clear c82
            try clear c84
            try clear c85
            try clear c88
            try clear c89
            try clear c90
            try clear c92
            try clear c93
            try clear c96
            try clear c99
            try clear c99b0
            try clear c100
            try clear c101
            try clear c102
            try clear c107
            try clear c107b0
            try clear c107b1
            try clear c111
            try clear c112
            try clear c113
            try clear c118
            try clear c119
            try clear c127
            try clear c128
            try clear c129
            try clear c130
            try clear c134
            try clear c135
            try clear c136
            try clear c137
            try clear c138
            try clear c140
            try clear c141
            try clear c142
            try clear c145
            try clear c146
            try clear c147
            try clear c148
            try clear c150
            try clear c151
            try clear c152
            try clear hcz103_0
            try clear hcz103_1
            try clear hcz105_0
            try clear hcz105_1
            try clear hcz114_0
            try clear hcz114_1
            try clear hcz116_0
            try clear hcz116_1
            try clear hcz120_0
            try clear hcz120_1
            try clear hcz131_0
            try clear hcz131_1
            try clear hcz139_0
            try clear hcz139_1
            try clear hcz143_0
            try clear hcz143_1
            try clear hcz149_0
            try clear hcz149_1
            try clear hcz153_0
            try clear hcz153_1
            try clear hcz15_0
            try clear hcz15_1
            try clear hcz17_0
            try clear hcz17_1
            try clear hcz25_0
            try clear hcz25_1
            try clear hcz27_0
            try clear hcz27_1
            try clear hcz33_0
            try clear hcz33_1
            try clear hcz41_0
            try clear hcz41_1
            try clear hcz48_0
            try clear hcz48_1
            try clear hcz51_0
            try clear hcz51_1
            try clear hcz56_0
            try clear hcz56_1
            try clear hcz59_0
            try clear hcz59_1
            try clear hcz75_0
            try clear hcz75_1
            try clear hcz7_0
            try clear hcz7_1
            try clear hcz83_0
            try clear hcz83_1
            try clear hcz86_0
            try clear hcz86_1
            try clear hcz91_0
            try clear hcz91_1
            try clear hcz94_0
            try clear hcz94_1
            try clear hfz103_0
            try clear hfz103_1
            try clear hfz105_0
            try clear hfz105_1
            try clear hfz114_0
            try clear hfz114_1
            try clear hfz116_0
            try clear hfz116_1
            try clear hfz120_0
            try clear hfz120_1
            try clear hfz131_0
            try clear hfz131_1
            try clear hfz139_0
            try clear hfz139_1
            try clear hfz143_0
            try clear hfz143_1
            try clear hfz149_0
            try clear hfz149_1
            try clear hfz153_0
            try clear hfz153_1
            try clear hfz15_0
            try clear hfz15_1
            try clear hfz17_0
            try clear hfz17_1
            try clear hfz25_0
            try clear hfz25_1
            try clear hfz27_0
            try clear hfz27_1
            try clear hfz33_0
            try clear hfz33_1
            try clear hfz41_0
            try clear hfz41_1
            try clear hfz48_0
            try clear hfz48_1
            try clear hfz51_0
            try clear hfz51_1
            try clear hfz56_0
            try clear hfz56_1
            try clear hfz59_0
            try clear hfz59_1
            try clear hfz75_0
            try clear hfz75_1
            try clear hfz7_0
            try clear hfz7_1
            try clear hfz83_0
            try clear hfz83_1
            try clear hfz86_0
            try clear hfz86_1
            try clear hfz91_0
            try clear hfz91_1
            try clear hfz94_0
            try clear hfz94_1
            try clear p2
            obtain ⟨kq, x97_109, rfl, HA, HJ109, HO_305000, HO_305001, HO_312000, HO_312001, HO_320000, HO_320001, HO_350000, HO_350001, BK289, BK304, BK311, BK319, BK349, HB⟩ := hcut
            have hl320000_109 := (Kd.R_reads' HO_320000.out).1
            rw [hl320000_109] at HO_320000
            (try simp only [hl320000_109])
            (try simp only [hl320000_109] at BK289)
            (try simp only [hl320000_109] at BK304)
            (try simp only [hl320000_109] at BK311)
            (try simp only [hl320000_109] at BK319)
            (try simp only [hl320000_109] at BK349)
            (try simp only [hl320000_109] at HO_305000)
            (try simp only [hl320000_109] at HO_305001)
            (try simp only [hl320000_109] at HO_312000)
            (try simp only [hl320000_109] at HO_312001)
            (try simp only [hl320000_109] at HO_320001)
            (try simp only [hl320000_109] at HO_350000)
            (try simp only [hl320000_109] at HO_350001)
            have hl320001_109 := (Kd.R_reads' HO_320001.out).1
            rw [hl320001_109] at HO_320001
            (try simp only [hl320001_109])
            (try simp only [hl320001_109] at BK289)
            (try simp only [hl320001_109] at BK304)
            (try simp only [hl320001_109] at BK311)
            (try simp only [hl320001_109] at BK319)
            (try simp only [hl320001_109] at BK349)
            (try simp only [hl320001_109] at HO_305000)
            (try simp only [hl320001_109] at HO_305001)
            (try simp only [hl320001_109] at HO_312000)
            (try simp only [hl320001_109] at HO_312001)
            (try simp only [hl320001_109] at HO_320000)
            (try simp only [hl320001_109] at HO_350000)
            (try simp only [hl320001_109] at HO_350001)
            cases kq with
            | zero => exact absurd HA.out (by simp [laws_FnExactAfterOpening.j2])
            | succ kj109 =>
             have H := HA.out
             clear HA
             simp only [laws_FnExactAfterOpening.j2] at H
             by_cases c155 : x97_109 = true
             ·subst c155
              have H1 : (some false) = some r := by rw [if_pos rfl] at H; exact H
              clear H
              have H := H1
              clear H1
              obtain rfl := Option.some.inj H
              go_wp2
              go_ret
              exact ⟨rfl, by repeat (first | (with_reducible first | exact HB.out | apply below_alloc | apply pw_below_drewN | apply below_drew1 | refine below_set ?_ GE289.out | refine below_set ?_ GE304.out | refine below_set ?_ GE311.out | refine below_set ?_ GE319.out | refine below_set ?_ GE349.out) | exact HB.out)⟩
             ·replace c155 := Bool.eq_false_iff.mpr c155
              subst c155
              have H1 : ((laws_heldEnding.f kj109 t333 t334 1).bind fun t351 => (if t351 < 0 then (some false) else (if t351 = t332 then (some true) else (some false)))) = some r := by rw [if_neg (show ¬ (false = true) by decide)] at H; exact H
              clear H
              have H := H1
              clear H1
              replace H := Option.bind_eq_some_iff.mp H
              obtain ⟨t351, A1560, H⟩ := H
              replace H : (if t351 < 0 then (some false) else (if t351 = t332 then (some true) else (some false))) = some r := H
              have A156 := Aside0.mk A1560
              clear A1560
              by_cases c157 : t351 < 0
              ·rw [if_pos c157] at H
               have c157b0 : decide (t351 < 0) = true := decide_eq_true c157
               clear c157
               obtain rfl := Option.some.inj H
               have hnb158 := NB319_289.out
               have hnc158 := NB289_319.out
               have hnb159 := NB319_304.out
               have hnc159 := NB304_319.out
               have hnb160 := NB319_311.out
               have hnc160 := NB311_319.out
               have hnb161 := NB319_349.out
               have hnc161 := NB349_319.out
               have hcz162_0 : wc.cell? ⟨gb319, 0, none⟩ = some (.slice Ao37 t333.length co37) := (blk_cell BK319.out 0).trans rfl
               have hcz162_1 : wc.cell? ⟨gb319, 1, none⟩ = some (.slice Ao42 t334.length co42) := (blk_cell BK319.out 1).trans rfl
               have hfz162_0 := blk_frozen BK319.out 0
               have hfz162_1 := blk_frozen BK319.out 1
               go_wp2_with (first | ((with_reducible refine gate_callee (f := 29) rfl ?_); refine goesL_ (some 100) rfl rfl Try.func29 (by kernel_rfl) rfl #[.agg #[.slice Ao37 t333.length co37, .slice Ao42 t334.length co42], .int .i64 1] rfl (by (try simp only [List.map_toArray, List.map_cons, List.map_nil]); first | done | rfl | (simp only [List.length_drop, List.length_take]; rfl)) ?_; (with_reducible refine (laws_heldEnding.calls kj109 _ _ t333 _ _ t334 1 t351 _ ?side1 ?side2 ?side3 ?side4 A156.out).mono ?_); (case side1 => repeat (first | exact (Kd.R_reads' HO_320000.out).2.2 | (with_reducible refine Kd.C_alloc ?_ _) | (with_reducible refine Kd.C_drewN ?_ _) | (with_reducible refine Kd.C_drew ?_))); (case side2 => exact (Kd.R_reads' HO_320000.out).2.1); (case side3 => repeat (first | exact (Kd.R_reads' HO_320001.out).2.2 | (with_reducible refine Kd.C_alloc ?_ _) | (with_reducible refine Kd.C_drewN ?_ _) | (with_reducible refine Kd.C_drew ?_))); (case side4 => exact (Kd.R_reads' HO_320001.out).2.1); rintro e w163 ⟨rfl, hb⟩; refine ⟨_, rfl, ?_⟩; have n0_ := Aside0.mk (Kd.R_below (by (with_reducible repeat (first | apply Kd.R_alloc | apply Kd.R_drewN | apply Kd.R_drew)); exact HO_305000.out) hb); have n1_ := Aside0.mk (Kd.R_below (by (with_reducible repeat (first | apply Kd.R_alloc | apply Kd.R_drewN | apply Kd.R_drew)); exact HO_305001.out) hb); have n2_ := Aside0.mk (Kd.R_below (by (with_reducible repeat (first | apply Kd.R_alloc | apply Kd.R_drewN | apply Kd.R_drew)); exact HO_312000.out) hb); have n3_ := Aside0.mk (Kd.R_below (by (with_reducible repeat (first | apply Kd.R_alloc | apply Kd.R_drewN | apply Kd.R_drew)); exact HO_312001.out) hb); have n4_ := Aside0.mk (Kd.R_below (by (with_reducible repeat (first | apply Kd.R_alloc | apply Kd.R_drewN | apply Kd.R_drew)); exact HO_320000.out) hb); have n5_ := Aside0.mk (Kd.R_below (by (with_reducible repeat (first | apply Kd.R_alloc | apply Kd.R_drewN | apply Kd.R_drew)); exact HO_320001.out) hb); have n6_ := Aside0.mk (Kd.R_below (by (with_reducible repeat (first | apply Kd.R_alloc | apply Kd.R_drewN | apply Kd.R_drew)); exact HO_350000.out) hb); have n7_ := Aside0.mk (Kd.R_below (by (with_reducible repeat (first | apply Kd.R_alloc | apply Kd.R_drewN | apply Kd.R_drew)); exact HO_350001.out) hb); have n8_ := Aside0.mk (blk_below (g := gb289) (o := .cells #[.slice A0_0 l0_0.length c0_0, .slice A0_1 l0_1.length c0_1] 24 (0, 0)) (by (with_reducible repeat (first | refine blk_drewN ?_ _ | refine blk_drew ?_ | refine blk_alloc ?_ _)); exact BK289.out) hb); have n9_ := Aside0.mk (blk_below (g := gb304) (o := .cells #[.slice Ao23 t297.length co23, .slice Ao26 t300.length co26] 27 (0, 0)) (by (with_reducible repeat (first | refine blk_drewN ?_ _ | refine blk_drew ?_ | refine blk_alloc ?_ _)); exact BK304.out) hb); have n10_ := Aside0.mk (blk_below (g := gb311) (o := .cells #[.slice Ao30 t329.length co30, .slice Ao34 t330.length co34] 27 (0, 0)) (by (with_reducible repeat (first | refine blk_drewN ?_ _ | refine blk_drew ?_ | refine blk_alloc ?_ _)); exact BK311.out) hb); have n11_ := Aside0.mk (blk_below (g := gb319) (o := .cells #[.slice Ao37 t333.length co37, .slice Ao42 t334.length co42] 27 (0, 0)) (by (with_reducible repeat (first | refine blk_drewN ?_ _ | refine blk_drew ?_ | refine blk_alloc ?_ _)); exact BK319.out) hb); have n12_ := Aside0.mk (blk_below (g := gb349) (o := .cells #[.slice Ao126 t342.length co126, .slice Ao132 t345.length co132] 27 (0, 0)) (by (with_reducible repeat (first | refine blk_drewN ?_ _ | refine blk_drew ?_ | refine blk_alloc ?_ _)); exact BK349.out) hb); have n13_ := Aside0.mk (below_step (by repeat (first | (with_reducible first | exact HB.out | apply below_alloc | apply pw_below_drewN | apply below_drew1 | refine below_set ?_ GE289.out | refine below_set ?_ GE304.out | refine below_set ?_ GE311.out | refine below_set ?_ GE319.out | refine below_set ?_ GE349.out) | exact HB.out)) hb); clear HO_305000; clear HO_305001; clear HO_312000; clear HO_312001; clear HO_320000; clear HO_320001; clear HO_350000; clear HO_350001; clear BK289; clear BK304; clear BK311; clear BK319; clear BK349; clear HB; have HO_305000 := n0_; have HO_305001 := n1_; have HO_312000 := n2_; have HO_312001 := n3_; have HO_320000 := n4_; have HO_320001 := n5_; have HO_350000 := n6_; have HO_350001 := n7_; have BK289 := n8_; have BK304 := n9_; have BK311 := n10_; have BK319 := n11_; have BK349 := n12_; have HB := n13_; clear n0_ n1_ n2_ n3_ n4_ n5_ n6_ n7_ n8_ n9_ n10_ n11_ n12_ n13_; (try clear hb); (try clear hb2); (try clear hk); (try clear hi)))
               go_ret
               exact ⟨rfl, by repeat (first | (with_reducible first | exact HB.out | apply below_alloc | apply pw_below_drewN | apply below_drew1 | refine below_set ?_ GE289.out | refine below_set ?_ GE304.out | refine below_set ?_ GE311.out | refine below_set ?_ GE319.out | refine below_set ?_ GE349.out) | exact HB.out)⟩
              ·rw [if_neg c157] at H
               have c157b0 : decide (t351 < 0) = false := decide_eq_false c157
               clear c157
               by_cases c164 : t351 = t332
               ·rw [if_pos c164] at H
                have c164b0 : (t351 == t332) = true := beq_iff_eq.mpr c164
                have c164b1 : (t351 != t332) = false := bne_eq_false_iff_eq.mpr c164
                clear c164
                obtain rfl := Option.some.inj H
                have hnb165 := NB319_289.out
                have hnc165 := NB289_319.out
                have hnb166 := NB319_304.out
                have hnc166 := NB304_319.out
                have hnb167 := NB319_311.out
                have hnc167 := NB311_319.out
                have hnb168 := NB319_349.out
                have hnc168 := NB349_319.out
                have hcz169_0 : wc.cell? ⟨gb319, 0, none⟩ = some (.slice Ao37 t333.length co37) := (blk_cell BK319.out 0).trans rfl
                have hcz169_1 : wc.cell? ⟨gb319, 1, none⟩ = some (.slice Ao42 t334.length co42) := (blk_cell BK319.out 1).trans rfl
                have hfz169_0 := blk_frozen BK319.out 0
                have hfz169_1 := blk_frozen BK319.out 1
                go_wp2_with (first | ((with_reducible refine gate_callee (f := 29) rfl ?_); refine goesL_ (some 100) rfl rfl Try.func29 (by kernel_rfl) rfl #[.agg #[.slice Ao37 t333.length co37, .slice Ao42 t334.length co42], .int .i64 1] rfl (by (try simp only [List.map_toArray, List.map_cons, List.map_nil]); first | done | rfl | (simp only [List.length_drop, List.length_take]; rfl)) ?_; (with_reducible refine (laws_heldEnding.calls kj109 _ _ t333 _ _ t334 1 t351 _ ?side1 ?side2 ?side3 ?side4 A156.out).mono ?_); (case side1 => repeat (first | exact (Kd.R_reads' HO_320000.out).2.2 | (with_reducible refine Kd.C_alloc ?_ _) | (with_reducible refine Kd.C_drewN ?_ _) | (with_reducible refine Kd.C_drew ?_))); (case side2 => exact (Kd.R_reads' HO_320000.out).2.1); (case side3 => repeat (first | exact (Kd.R_reads' HO_320001.out).2.2 | (with_reducible refine Kd.C_alloc ?_ _) | (with_reducible refine Kd.C_drewN ?_ _) | (with_reducible refine Kd.C_drew ?_))); (case side4 => exact (Kd.R_reads' HO_320001.out).2.1); rintro e w170 ⟨rfl, hb⟩; refine ⟨_, rfl, ?_⟩; have n0_ := Aside0.mk (Kd.R_below (by (with_reducible repeat (first | apply Kd.R_alloc | apply Kd.R_drewN | apply Kd.R_drew)); exact HO_305000.out) hb); have n1_ := Aside0.mk (Kd.R_below (by (with_reducible repeat (first | apply Kd.R_alloc | apply Kd.R_drewN | apply Kd.R_drew)); exact HO_305001.out) hb); have n2_ := Aside0.mk (Kd.R_below (by (with_reducible repeat (first | apply Kd.R_alloc | apply Kd.R_drewN | apply Kd.R_drew)); exact HO_312000.out) hb); have n3_ := Aside0.mk (Kd.R_below (by (with_reducible repeat (first | apply Kd.R_alloc | apply Kd.R_drewN | apply Kd.R_drew)); exact HO_312001.out) hb); have n4_ := Aside0.mk (Kd.R_below (by (with_reducible repeat (first | apply Kd.R_alloc | apply Kd.R_drewN | apply Kd.R_drew)); exact HO_320000.out) hb); have n5_ := Aside0.mk (Kd.R_below (by (with_reducible repeat (first | apply Kd.R_alloc | apply Kd.R_drewN | apply Kd.R_drew)); exact HO_320001.out) hb); have n6_ := Aside0.mk (Kd.R_below (by (with_reducible repeat (first | apply Kd.R_alloc | apply Kd.R_drewN | apply Kd.R_drew)); exact HO_350000.out) hb); have n7_ := Aside0.mk (Kd.R_below (by (with_reducible repeat (first | apply Kd.R_alloc | apply Kd.R_drewN | apply Kd.R_drew)); exact HO_350001.out) hb); have n8_ := Aside0.mk (blk_below (g := gb289) (o := .cells #[.slice A0_0 l0_0.length c0_0, .slice A0_1 l0_1.length c0_1] 24 (0, 0)) (by (with_reducible repeat (first | refine blk_drewN ?_ _ | refine blk_drew ?_ | refine blk_alloc ?_ _)); exact BK289.out) hb); have n9_ := Aside0.mk (blk_below (g := gb304) (o := .cells #[.slice Ao23 t297.length co23, .slice Ao26 t300.length co26] 27 (0, 0)) (by (with_reducible repeat (first | refine blk_drewN ?_ _ | refine blk_drew ?_ | refine blk_alloc ?_ _)); exact BK304.out) hb); have n10_ := Aside0.mk (blk_below (g := gb311) (o := .cells #[.slice Ao30 t329.length co30, .slice Ao34 t330.length co34] 27 (0, 0)) (by (with_reducible repeat (first | refine blk_drewN ?_ _ | refine blk_drew ?_ | refine blk_alloc ?_ _)); exact BK311.out) hb); have n11_ := Aside0.mk (blk_below (g := gb319) (o := .cells #[.slice Ao37 t333.length co37, .slice Ao42 t334.length co42] 27 (0, 0)) (by (with_reducible repeat (first | refine blk_drewN ?_ _ | refine blk_drew ?_ | refine blk_alloc ?_ _)); exact BK319.out) hb); have n12_ := Aside0.mk (blk_below (g := gb349) (o := .cells #[.slice Ao126 t342.length co126, .slice Ao132 t345.length co132] 27 (0, 0)) (by (with_reducible repeat (first | refine blk_drewN ?_ _ | refine blk_drew ?_ | refine blk_alloc ?_ _)); exact BK349.out) hb); have n13_ := Aside0.mk (below_step (by repeat (first | (with_reducible first | exact HB.out | apply below_alloc | apply pw_below_drewN | apply below_drew1 | refine below_set ?_ GE289.out | refine below_set ?_ GE304.out | refine below_set ?_ GE311.out | refine below_set ?_ GE319.out | refine below_set ?_ GE349.out) | exact HB.out)) hb); clear HO_305000; clear HO_305001; clear HO_312000; clear HO_312001; clear HO_320000; clear HO_320001; clear HO_350000; clear HO_350001; clear BK289; clear BK304; clear BK311; clear BK319; clear BK349; clear HB; have HO_305000 := n0_; have HO_305001 := n1_; have HO_312000 := n2_; have HO_312001 := n3_; have HO_320000 := n4_; have HO_320001 := n5_; have HO_350000 := n6_; have HO_350001 := n7_; have BK289 := n8_; have BK304 := n9_; have BK311 := n10_; have BK319 := n11_; have BK349 := n12_; have HB := n13_; clear n0_ n1_ n2_ n3_ n4_ n5_ n6_ n7_ n8_ n9_ n10_ n11_ n12_ n13_; (try clear hb); (try clear hb2); (try clear hk); (try clear hi)))
                go_ret
                exact ⟨rfl, by repeat (first | (with_reducible first | exact HB.out | apply below_alloc | apply pw_below_drewN | apply below_drew1 | refine below_set ?_ GE289.out | refine below_set ?_ GE304.out | refine below_set ?_ GE311.out | refine below_set ?_ GE319.out | refine below_set ?_ GE349.out) | exact HB.out)⟩
               ·rw [if_neg c164] at H
                have c164b0 : (t351 == t332) = false := beq_eq_false_iff_ne.mpr c164
                have c164b1 : (t351 != t332) = true := bne_iff_ne.mpr c164
                obtain rfl := Option.some.inj H
                have hnb171 := NB319_289.out
                have hnc171 := NB289_319.out
                have hnb172 := NB319_304.out
                have hnc172 := NB304_319.out
                have hnb173 := NB319_311.out
                have hnc173 := NB311_319.out
                have hnb174 := NB319_349.out
                have hnc174 := NB349_319.out
                have hcz175_0 : wc.cell? ⟨gb319, 0, none⟩ = some (.slice Ao37 t333.length co37) := (blk_cell BK319.out 0).trans rfl
                have hcz175_1 : wc.cell? ⟨gb319, 1, none⟩ = some (.slice Ao42 t334.length co42) := (blk_cell BK319.out 1).trans rfl
                have hfz175_0 := blk_frozen BK319.out 0
                have hfz175_1 := blk_frozen BK319.out 1
                go_wp2_with (first | ((with_reducible refine gate_callee (f := 29) rfl ?_); refine goesL_ (some 100) rfl rfl Try.func29 (by kernel_rfl) rfl #[.agg #[.slice Ao37 t333.length co37, .slice Ao42 t334.length co42], .int .i64 1] rfl (by (try simp only [List.map_toArray, List.map_cons, List.map_nil]); first | done | rfl | (simp only [List.length_drop, List.length_take]; rfl)) ?_; (with_reducible refine (laws_heldEnding.calls kj109 _ _ t333 _ _ t334 1 t351 _ ?side1 ?side2 ?side3 ?side4 A156.out).mono ?_); (case side1 => repeat (first | exact (Kd.R_reads' HO_320000.out).2.2 | (with_reducible refine Kd.C_alloc ?_ _) | (with_reducible refine Kd.C_drewN ?_ _) | (with_reducible refine Kd.C_drew ?_))); (case side2 => exact (Kd.R_reads' HO_320000.out).2.1); (case side3 => repeat (first | exact (Kd.R_reads' HO_320001.out).2.2 | (with_reducible refine Kd.C_alloc ?_ _) | (with_reducible refine Kd.C_drewN ?_ _) | (with_reducible refine Kd.C_drew ?_))); (case side4 => exact (Kd.R_reads' HO_320001.out).2.1); rintro e w176 ⟨rfl, hb⟩; refine ⟨_, rfl, ?_⟩; have n0_ := Aside0.mk (Kd.R_below (by (with_reducible repeat (first | apply Kd.R_alloc | apply Kd.R_drewN | apply Kd.R_drew)); exact HO_305000.out) hb); have n1_ := Aside0.mk (Kd.R_below (by (with_reducible repeat (first | apply Kd.R_alloc | apply Kd.R_drewN | apply Kd.R_drew)); exact HO_305001.out) hb); have n2_ := Aside0.mk (Kd.R_below (by (with_reducible repeat (first | apply Kd.R_alloc | apply Kd.R_drewN | apply Kd.R_drew)); exact HO_312000.out) hb); have n3_ := Aside0.mk (Kd.R_below (by (with_reducible repeat (first | apply Kd.R_alloc | apply Kd.R_drewN | apply Kd.R_drew)); exact HO_312001.out) hb); have n4_ := Aside0.mk (Kd.R_below (by (with_reducible repeat (first | apply Kd.R_alloc | apply Kd.R_drewN | apply Kd.R_drew)); exact HO_320000.out) hb); have n5_ := Aside0.mk (Kd.R_below (by (with_reducible repeat (first | apply Kd.R_alloc | apply Kd.R_drewN | apply Kd.R_drew)); exact HO_320001.out) hb); have n6_ := Aside0.mk (Kd.R_below (by (with_reducible repeat (first | apply Kd.R_alloc | apply Kd.R_drewN | apply Kd.R_drew)); exact HO_350000.out) hb); have n7_ := Aside0.mk (Kd.R_below (by (with_reducible repeat (first | apply Kd.R_alloc | apply Kd.R_drewN | apply Kd.R_drew)); exact HO_350001.out) hb); have n8_ := Aside0.mk (blk_below (g := gb289) (o := .cells #[.slice A0_0 l0_0.length c0_0, .slice A0_1 l0_1.length c0_1] 24 (0, 0)) (by (with_reducible repeat (first | refine blk_drewN ?_ _ | refine blk_drew ?_ | refine blk_alloc ?_ _)); exact BK289.out) hb); have n9_ := Aside0.mk (blk_below (g := gb304) (o := .cells #[.slice Ao23 t297.length co23, .slice Ao26 t300.length co26] 27 (0, 0)) (by (with_reducible repeat (first | refine blk_drewN ?_ _ | refine blk_drew ?_ | refine blk_alloc ?_ _)); exact BK304.out) hb); have n10_ := Aside0.mk (blk_below (g := gb311) (o := .cells #[.slice Ao30 t329.length co30, .slice Ao34 t330.length co34] 27 (0, 0)) (by (with_reducible repeat (first | refine blk_drewN ?_ _ | refine blk_drew ?_ | refine blk_alloc ?_ _)); exact BK311.out) hb); have n11_ := Aside0.mk (blk_below (g := gb319) (o := .cells #[.slice Ao37 t333.length co37, .slice Ao42 t334.length co42] 27 (0, 0)) (by (with_reducible repeat (first | refine blk_drewN ?_ _ | refine blk_drew ?_ | refine blk_alloc ?_ _)); exact BK319.out) hb); have n12_ := Aside0.mk (blk_below (g := gb349) (o := .cells #[.slice Ao126 t342.length co126, .slice Ao132 t345.length co132] 27 (0, 0)) (by (with_reducible repeat (first | refine blk_drewN ?_ _ | refine blk_drew ?_ | refine blk_alloc ?_ _)); exact BK349.out) hb); have n13_ := Aside0.mk (below_step (by repeat (first | (with_reducible first | exact HB.out | apply below_alloc | apply pw_below_drewN | apply below_drew1 | refine below_set ?_ GE289.out | refine below_set ?_ GE304.out | refine below_set ?_ GE311.out | refine below_set ?_ GE319.out | refine below_set ?_ GE349.out) | exact HB.out)) hb); clear HO_305000; clear HO_305001; clear HO_312000; clear HO_312001; clear HO_320000; clear HO_320001; clear HO_350000; clear HO_350001; clear BK289; clear BK304; clear BK311; clear BK319; clear BK349; clear HB; have HO_305000 := n0_; have HO_305001 := n1_; have HO_312000 := n2_; have HO_312001 := n3_; have HO_320000 := n4_; have HO_320001 := n5_; have HO_350000 := n6_; have HO_350001 := n7_; have BK289 := n8_; have BK304 := n9_; have BK311 := n10_; have BK319 := n11_; have BK349 := n12_; have HB := n13_; clear n0_ n1_ n2_ n3_ n4_ n5_ n6_ n7_ n8_ n9_ n10_ n11_ n12_ n13_; (try clear hb); (try clear hb2); (try clear hk); (try clear hi)))
                go_ret
                exact ⟨rfl, by repeat (first | (with_reducible first | exact HB.out | apply below_alloc | apply pw_below_drewN | apply below_drew1 | refine below_set ?_ GE289.out | refine below_set ?_ GE304.out | refine below_set ?_ GE311.out | refine below_set ?_ GE319.out | refine below_set ?_ GE349.out) | exact HB.out)⟩
          ·rw [if_neg c107] at H
           have c107b0 : (t335 == t332) = false := beq_eq_false_iff_ne.mpr c107
           have c107b1 : (t335 != t332) = true := bne_iff_ne.mpr c107
           obtain rfl := Option.some.inj H
           have hnb177 := NB319_289.out
           have hnc177 := NB289_319.out
           have hnb178 := NB319_304.out
           have hnc178 := NB304_319.out
           have hnb179 := NB319_311.out
           have hnc179 := NB311_319.out
           have hcz180_0 : wc.cell? ⟨gb319, 0, none⟩ = some (.slice Ao37 t312.length co37) := (blk_cell BK319.out 0).trans rfl
           have hcz180_1 : wc.cell? ⟨gb319, 1, none⟩ = some (.slice Ao42 t315.length co42) := (blk_cell BK319.out 1).trans rfl
           have hfz180_0 := blk_frozen BK319.out 0
           have hfz180_1 := blk_frozen BK319.out 1
           go_wp2_with (first | ((with_reducible refine gate_callee (f := 28) rfl ?_); refine goesL_ (some 72) rfl rfl Try.func28 (by kernel_rfl) rfl #[.agg #[.slice Ao37 t312.length co37, .slice Ao42 t315.length co42], .int .i64 1] rfl (by (try simp only [List.map_toArray, List.map_cons, List.map_nil]); first | done | rfl | (simp only [List.length_drop, List.length_take]; rfl)) ?_; (with_reducible refine (laws_markEnding.calls kj65 (fun k_ => some k_ = (.slice Ao37 t312.length co37 : Value).ownBlock) (.slice Ao37 t312.length co37) t312 (fun k_ => some k_ = (.slice Ao42 t315.length co42 : Value).ownBlock) (.slice Ao42 t315.length co42) t315 1 t332 t333 t334 w _ ?side1 ?side2 ?side3 ?side4 ?side5 A97.out).mono ?_); (case side1 => repeat (first | (with_reducible first | exact HB.out | apply below_alloc | apply pw_below_drewN | apply below_drew1 | refine below_set ?_ GE289.out | refine below_set ?_ GE304.out | refine below_set ?_ GE311.out | refine below_set ?_ GE319.out) | exact HB.out)); (case side2 => exact Kd.R_tight rfl HO_320000.out); (case side3 => exact fun k_ e_ => (HO_320000.out.1 k_ e_.symm).2.2.2.2); (case side4 => exact Kd.R_tight rfl HO_320001.out); (case side5 => exact fun k_ e_ => (HO_320001.out.1 k_ e_.symm).2.2.2.2); rintro e w181 ⟨rfl, hy0, hy1, hb, hkp⟩; refine ⟨_, rfl, ?_⟩; have n0_ := Aside0.mk (Kd.R_mono (ok' := fun k_ => some k_ ≠ (.slice Ao26 t300.length co26 : Value).ownBlock ∧ some k_ ≠ (.slice Ao30 t329.length co30 : Value).ownBlock ∧ some k_ ≠ (.slice Ao34 t330.length co34 : Value).ownBlock ∧ some k_ ≠ (.slice Ao37 t312.length co37 : Value).ownBlock ∧ some k_ ≠ (.slice Ao42 t315.length co42 : Value).ownBlock) (Kd.R_keptB (HO_305000.out) hkp (fun k_ hk_ hs_ => Or.elim hs_ (fun e_ => (hk_.2.2.2.1) e_) (fun e_ => (hk_.2.2.2.2) e_))) (fun k_ hk_ => ⟨hk_.1.1, hk_.1.2.1, hk_.1.2.2.1, hk_.1.2.2.2.1, hk_.1.2.2.2.2⟩)); have n1_ := Aside0.mk (Kd.R_mono (ok' := fun k_ => some k_ ≠ (.slice Ao23 t297.length co23 : Value).ownBlock ∧ some k_ ≠ (.slice Ao30 t329.length co30 : Value).ownBlock ∧ some k_ ≠ (.slice Ao34 t330.length co34 : Value).ownBlock ∧ some k_ ≠ (.slice Ao37 t312.length co37 : Value).ownBlock ∧ some k_ ≠ (.slice Ao42 t315.length co42 : Value).ownBlock) (Kd.R_keptB (HO_305001.out) hkp (fun k_ hk_ hs_ => Or.elim hs_ (fun e_ => (hk_.2.2.2.1) e_) (fun e_ => (hk_.2.2.2.2) e_))) (fun k_ hk_ => ⟨hk_.1.1, hk_.1.2.1, hk_.1.2.2.1, hk_.1.2.2.2.1, hk_.1.2.2.2.2⟩)); have n2_ := Aside0.mk (Kd.R_mono (ok' := fun k_ => some k_ ≠ (.slice Ao23 t297.length co23 : Value).ownBlock ∧ some k_ ≠ (.slice Ao26 t300.length co26 : Value).ownBlock ∧ some k_ ≠ (.slice Ao34 t330.length co34 : Value).ownBlock ∧ some k_ ≠ (.slice Ao37 t312.length co37 : Value).ownBlock ∧ some k_ ≠ (.slice Ao42 t315.length co42 : Value).ownBlock) (Kd.R_keptB (HO_312000.out) hkp (fun k_ hk_ hs_ => Or.elim hs_ (fun e_ => (hk_.2.2.2.1) e_) (fun e_ => (hk_.2.2.2.2) e_))) (fun k_ hk_ => ⟨hk_.1.1, hk_.1.2.1, hk_.1.2.2.1, hk_.1.2.2.2.1, hk_.1.2.2.2.2⟩)); have n3_ := Aside0.mk (Kd.R_mono (ok' := fun k_ => some k_ ≠ (.slice Ao23 t297.length co23 : Value).ownBlock ∧ some k_ ≠ (.slice Ao26 t300.length co26 : Value).ownBlock ∧ some k_ ≠ (.slice Ao30 t329.length co30 : Value).ownBlock ∧ some k_ ≠ (.slice Ao37 t312.length co37 : Value).ownBlock ∧ some k_ ≠ (.slice Ao42 t315.length co42 : Value).ownBlock) (Kd.R_keptB (HO_312001.out) hkp (fun k_ hk_ hs_ => Or.elim hs_ (fun e_ => (hk_.2.2.2.1) e_) (fun e_ => (hk_.2.2.2.2) e_))) (fun k_ hk_ => ⟨hk_.1.1, hk_.1.2.1, hk_.1.2.2.1, hk_.1.2.2.2.1, hk_.1.2.2.2.2⟩)); have n4_ := Aside0.mk (Kd.R_reok rfl hy0 (fun k_ e_ => HO_320000.out.1 k_ e_)); have n5_ := Aside0.mk (Kd.R_reok rfl hy1 (fun k_ e_ => HO_320001.out.1 k_ e_)); have n6_ := Aside0.mk (blk_kept (by (with_reducible repeat (first | refine blk_drewN ?_ _ | refine blk_drew ?_ | refine blk_alloc ?_ _)); exact BK289.out) hkp (fun hs_ => Or.elim hs_ (fun e_ => (fun e_ => (Kd.R_ne HO_320000.out BK289.out (by decide)) e_) e_) (fun e_ => (fun e_ => (Kd.R_ne HO_320001.out BK289.out (by decide)) e_) e_))); have n7_ := Aside0.mk (blk_kept (by (with_reducible repeat (first | refine blk_drewN ?_ _ | refine blk_drew ?_ | refine blk_alloc ?_ _)); exact BK304.out) hkp (fun hs_ => Or.elim hs_ (fun e_ => (fun e_ => (Kd.R_ne HO_320000.out BK304.out (by decide)) e_) e_) (fun e_ => (fun e_ => (Kd.R_ne HO_320001.out BK304.out (by decide)) e_) e_))); have n8_ := Aside0.mk (blk_kept (by (with_reducible repeat (first | refine blk_drewN ?_ _ | refine blk_drew ?_ | refine blk_alloc ?_ _)); exact BK311.out) hkp (fun hs_ => Or.elim hs_ (fun e_ => (fun e_ => (Kd.R_ne HO_320000.out BK311.out (by decide)) e_) e_) (fun e_ => (fun e_ => (Kd.R_ne HO_320001.out BK311.out (by decide)) e_) e_))); have n9_ := Aside0.mk (blk_kept (by (with_reducible repeat (first | refine blk_drewN ?_ _ | refine blk_drew ?_ | refine blk_alloc ?_ _)); exact BK319.out) hkp (fun hs_ => Or.elim hs_ (fun e_ => (fun e_ => (Kd.R_ne HO_320000.out BK319.out (by decide)) e_) e_) (fun e_ => (fun e_ => (Kd.R_ne HO_320001.out BK319.out (by decide)) e_) e_))); have n10_ := Aside0.mk (hb); clear HO_305000; clear HO_305001; clear HO_312000; clear HO_312001; clear HO_320000; clear HO_320001; clear BK289; clear BK304; clear BK311; clear BK319; clear HB; have HO_305000 := n0_; have HO_305001 := n1_; have HO_312000 := n2_; have HO_312001 := n3_; have HO_320000 := n4_; have HO_320001 := n5_; have BK289 := n6_; have BK304 := n7_; have BK311 := n8_; have BK319 := n9_; have HB := n10_; clear n0_ n1_ n2_ n3_ n4_ n5_ n6_ n7_ n8_ n9_ n10_; (try clear hb); (try clear hkp); (try clear hy0); (try clear hy1); have hcz182_0 : w181.cell? ⟨gb319, 0, none⟩ = some (.slice Ao37 t312.length co37) := (blk_cell BK319.out 0).trans rfl; have hcz182_1 : w181.cell? ⟨gb319, 1, none⟩ = some (.slice Ao42 t315.length co42) := (blk_cell BK319.out 1).trans rfl; have hfz182_0 := blk_frozen BK319.out 0; have hfz182_1 := blk_frozen BK319.out 1) | ((with_reducible refine gate_callee (f := 29) rfl ?_); refine goesL_ (some 75) rfl rfl Try.func29 (by kernel_rfl) rfl #[.agg #[.slice Ao37 t333.length co37, .slice Ao42 t334.length co42], .int .i64 1] rfl (by (try simp only [List.map_toArray, List.map_cons, List.map_nil]); first | done | (rw [show t333.length = t312.length from (Kd.R_reads' HO_320000.out).1.symm, show t334.length = t315.length from (Kd.R_reads' HO_320001.out).1.symm] <;> rfl) | rfl | (simp only [List.length_drop, List.length_take]; rfl)) ?_; (with_reducible refine (laws_heldEnding.calls kj65 _ _ t333 _ _ t334 1 t335 _ ?side1 ?side2 ?side3 ?side4 A98.out).mono ?_); (case side1 => repeat (first | exact (Kd.R_reads' HO_320000.out).2.2 | (with_reducible refine Kd.C_alloc ?_ _) | (with_reducible refine Kd.C_drewN ?_ _) | (with_reducible refine Kd.C_drew ?_))); (case side2 => rw [show t333.length = t312.length from (Kd.R_reads' HO_320000.out).1.symm]; exact (Kd.R_reads' HO_320000.out).2.1); (case side3 => repeat (first | exact (Kd.R_reads' HO_320001.out).2.2 | (with_reducible refine Kd.C_alloc ?_ _) | (with_reducible refine Kd.C_drewN ?_ _) | (with_reducible refine Kd.C_drew ?_))); (case side4 => rw [show t334.length = t315.length from (Kd.R_reads' HO_320001.out).1.symm]; exact (Kd.R_reads' HO_320001.out).2.1); rintro e w183 ⟨rfl, hb⟩; refine ⟨_, rfl, ?_⟩; have n0_ := Aside0.mk (Kd.R_below (by (with_reducible repeat (first | apply Kd.R_alloc | apply Kd.R_drewN | apply Kd.R_drew)); exact HO_305000.out) hb); have n1_ := Aside0.mk (Kd.R_below (by (with_reducible repeat (first | apply Kd.R_alloc | apply Kd.R_drewN | apply Kd.R_drew)); exact HO_305001.out) hb); have n2_ := Aside0.mk (Kd.R_below (by (with_reducible repeat (first | apply Kd.R_alloc | apply Kd.R_drewN | apply Kd.R_drew)); exact HO_312000.out) hb); have n3_ := Aside0.mk (Kd.R_below (by (with_reducible repeat (first | apply Kd.R_alloc | apply Kd.R_drewN | apply Kd.R_drew)); exact HO_312001.out) hb); have n4_ := Aside0.mk (Kd.R_below (by (with_reducible repeat (first | apply Kd.R_alloc | apply Kd.R_drewN | apply Kd.R_drew)); exact HO_320000.out) hb); have n5_ := Aside0.mk (Kd.R_below (by (with_reducible repeat (first | apply Kd.R_alloc | apply Kd.R_drewN | apply Kd.R_drew)); exact HO_320001.out) hb); have n6_ := Aside0.mk (blk_below (g := gb289) (o := .cells #[.slice A0_0 l0_0.length c0_0, .slice A0_1 l0_1.length c0_1] 24 (0, 0)) (by (with_reducible repeat (first | refine blk_drewN ?_ _ | refine blk_drew ?_ | refine blk_alloc ?_ _)); exact BK289.out) hb); have n7_ := Aside0.mk (blk_below (g := gb304) (o := .cells #[.slice Ao23 t297.length co23, .slice Ao26 t300.length co26] 27 (0, 0)) (by (with_reducible repeat (first | refine blk_drewN ?_ _ | refine blk_drew ?_ | refine blk_alloc ?_ _)); exact BK304.out) hb); have n8_ := Aside0.mk (blk_below (g := gb311) (o := .cells #[.slice Ao30 t329.length co30, .slice Ao34 t330.length co34] 27 (0, 0)) (by (with_reducible repeat (first | refine blk_drewN ?_ _ | refine blk_drew ?_ | refine blk_alloc ?_ _)); exact BK311.out) hb); have n9_ := Aside0.mk (blk_below (g := gb319) (o := .cells #[.slice Ao37 t312.length co37, .slice Ao42 t315.length co42] 27 (0, 0)) (by (with_reducible repeat (first | refine blk_drewN ?_ _ | refine blk_drew ?_ | refine blk_alloc ?_ _)); exact BK319.out) hb); have n10_ := Aside0.mk (below_step (by repeat (first | (with_reducible first | exact HB.out | apply below_alloc | apply pw_below_drewN | apply below_drew1 | refine below_set ?_ GE289.out | refine below_set ?_ GE304.out | refine below_set ?_ GE311.out | refine below_set ?_ GE319.out) | exact HB.out)) hb); clear HO_305000; clear HO_305001; clear HO_312000; clear HO_312001; clear HO_320000; clear HO_320001; clear BK289; clear BK304; clear BK311; clear BK319; clear HB; have HO_305000 := n0_; have HO_305001 := n1_; have HO_312000 := n2_; have HO_312001 := n3_; have HO_320000 := n4_; have HO_320001 := n5_; have BK289 := n6_; have BK304 := n7_; have BK311 := n8_; have BK319 := n9_; have HB := n10_; clear n0_ n1_ n2_ n3_ n4_ n5_ n6_ n7_ n8_ n9_ n10_; (try clear hb); (try clear hb2); (try clear hk); (try clear hi)))
           go_ret
           exact ⟨rfl, by repeat (first | (with_reducible first | exact HB.out | apply below_alloc | apply pw_below_drewN | apply below_drew1 | refine below_set ?_ GE289.out | refine below_set ?_ GE304.out | refine below_set ?_ GE311.out | refine below_set ?_ GE319.out) | exact HB.out)⟩
     ·replace c64 := Bool.eq_false_iff.mpr c64
      subst c64
      have H1 : (some false) = some r := by rw [if_neg (show ¬ (false = true) by decide)] at H; exact H
      clear H
      have H := H1
      clear H1
      obtain rfl := Option.some.inj H
      try go_wp2
      have n0_ := Aside0.mk (Kd.R_drew HO_305000.out)
      have n1_ := Aside0.mk (Kd.R_drew HO_305001.out)
      have n2_ := Aside0.mk (Kd.R_drew HO_312000.out)
      have n3_ := Aside0.mk (Kd.R_drew HO_312001.out)
      have n4_ := Aside0.mk (Kd.R_drew HO_320000.out)
      have n5_ := Aside0.mk (Kd.R_drew HO_320001.out)
      have n6_ := Aside0.mk (blk_drew BK289.out)
      have n7_ := Aside0.mk (blk_drew BK304.out)
      have n8_ := Aside0.mk (blk_drew BK311.out)
      have n9_ := Aside0.mk (blk_drew BK319.out)
      have n10_ := Aside0.mk (below_drew1 HB.out)
      clear HO_305000
      clear HO_305001
      clear HO_312000
      clear HO_312001
      clear HO_320000
      clear HO_320001
      clear BK289
      clear BK304
      clear BK311
      clear BK319
      clear HB
      have HO_305000 := n0_
      have HO_305001 := n1_
      have HO_312000 := n2_
      have HO_312001 := n3_
      have HO_320000 := n4_
      have HO_320001 := n5_
      have BK289 := n6_
      have BK304 := n7_
      have BK311 := n8_
      have BK319 := n9_
      have HB := n10_
      clear n0_ n1_ n2_ n3_ n4_ n5_ n6_ n7_ n8_ n9_ n10_
      refine start_ (n := 5) (S := fun w' => w'.cell? ⟨gb311, 0, none⟩ = some (.slice Ao30 t305.length co30) ∧ w'.cell? ⟨gb311, 1, none⟩ = some (.slice Ao34 t308.length co34) ∧ w'.cell? ⟨gb289, 0, none⟩ = some (.slice A0_0 l0_0.length c0_0) ∧ w'.cell? ⟨gb289, 1, none⟩ = some (.slice A0_1 l0_1.length c0_1)) (ds := []) #[false, false, false, false, false] (by kernel_rfl) rfl rfl ⟨(blk_cell BK311.out 0).trans rfl, (blk_cell BK311.out 1).trans rfl, (blk_cell BK289.out 0).trans rfl, (blk_cell BK289.out 1).trans rfl⟩ (fun hHeld => ?_)
      generalize wc.drew = w184 at HO_305000 HO_305001 HO_312000 HO_312001 HO_320000 HO_320001 BK289 BK304 BK311 BK319 HB hHeld ⊢
      refine take_ (i := 0) (N := some 49) (v := ?_) (a' := ?_) #[true, false, false, false, false] rfl rfl (by kernel_rfl) (fun _ _ _ h => h) (Or.inl ⟨by rfl, ?_⟩) hHeld ?_ ?_
      rotate_left
      ·rintro w' ⟨s0, s1, s2, s3⟩
       go_simp
       with_reducible rfl
      rotate_left
      ·simp only [Act.put, List.setIfInBounds_toArray, List.set_cons_zero, List.set_cons_succ, i64_w, i32_w]
       rfl
      refine take_ (i := 1) (N := some 50) (v := ?_) (a' := ?_) #[true, true, false, false, false] rfl rfl (by kernel_rfl) (fun _ _ _ h => h) (Or.inl ⟨by rfl, ?_⟩) hHeld ?_ ?_
      rotate_left
      ·rintro w' ⟨s0, s1, s2, s3⟩
       go_simp
       with_reducible rfl
      rotate_left
      ·simp only [Act.put, List.setIfInBounds_toArray, List.set_cons_zero, List.set_cons_succ, i64_w, i32_w]
       rfl
      refine one_ (i := 2) (N := some 51) #[true, true, true, false, false] rfl rfl (by kernel_rfl) (by decide) (fun K hK => ?_)
      refine goes_ Try.func17 (by kernel_rfl) rfl #[.agg #[.slice A0_0 l0_0.length c0_0, .slice A0_1 l0_1.length c0_1]] (by rfl) rfl rfl (by (try simp only [List.map_toArray, List.map_cons, List.map_nil]); first | done | rfl | (simp only [List.length_drop, List.length_take]; rfl)) ?_
      with_reducible refine (laws_toEnding.calls kj12 _ _ l0_0 _ _ l0_1 t321 t324 _ ?side1 ?side2 ?side3 ?side4 A62.out).mono ?_
      (case side1 => exact (Kd.C_below HR0_0.out HB.out))
      (case side2 => exact HC0_0.out)
      (case side3 => exact (Kd.C_below HR0_1.out HB.out))
      (case side4 => exact HC0_1.out)
      rintro e w185 ⟨v322, v325, rfl, ho0, ho1, hb⟩
      refine ⟨_, rfl, ?_⟩
      have n0_ := Aside0.mk (Kd.R_mono (Kd.R_told (Kd.R_told (Kd.R_old HO_305000.out hb) (Kd.R_base ho0)) (Kd.R_base ho1)) (fun _ h_ => h_.1))
      have n1_ := Aside0.mk (Kd.R_mono (Kd.R_told (Kd.R_told (Kd.R_old HO_305001.out hb) (Kd.R_base ho0)) (Kd.R_base ho1)) (fun _ h_ => h_.1))
      have n2_ := Aside0.mk (Kd.R_mono (Kd.R_told (Kd.R_told (Kd.R_old HO_312000.out hb) (Kd.R_base ho0)) (Kd.R_base ho1)) (fun _ h_ => h_.1))
      have n3_ := Aside0.mk (Kd.R_mono (Kd.R_told (Kd.R_told (Kd.R_old HO_312001.out hb) (Kd.R_base ho0)) (Kd.R_base ho1)) (fun _ h_ => h_.1))
      have n4_ := Aside0.mk (Kd.R_mono (Kd.R_told (Kd.R_told (Kd.R_old HO_320000.out hb) (Kd.R_base ho0)) (Kd.R_base ho1)) (fun _ h_ => h_.1))
      have n5_ := Aside0.mk (Kd.R_mono (Kd.R_told (Kd.R_told (Kd.R_old HO_320001.out hb) (Kd.R_base ho0)) (Kd.R_base ho1)) (fun _ h_ => h_.1))
      have n6_ := Aside0.mk (Kd.R_lower (Kd.R_new' (Kd.R_new' (Kd.R_new' (Kd.R_new' (Kd.R_new' (Kd.R_new' ho0 (Kd.R_lt HO_305000.out)) (Kd.R_lt HO_305001.out)) (Kd.R_lt HO_312000.out)) (Kd.R_lt HO_312001.out)) (Kd.R_lt HO_320000.out)) (Kd.R_lt HO_320001.out)) (below_size HB.out))
      have n7_ := Aside0.mk (Kd.R_lower (Kd.R_new' (Kd.R_new' (Kd.R_new' (Kd.R_new' (Kd.R_new' (Kd.R_new' ho1 (Kd.R_lt HO_305000.out)) (Kd.R_lt HO_305001.out)) (Kd.R_lt HO_312000.out)) (Kd.R_lt HO_312001.out)) (Kd.R_lt HO_320000.out)) (Kd.R_lt HO_320001.out)) (below_size HB.out))
      have n8_ := Aside0.mk (blk_below (g := gb289) (o := .cells #[.slice A0_0 l0_0.length c0_0, .slice A0_1 l0_1.length c0_1] 24 (0, 0)) BK289.out hb)
      have n9_ := Aside0.mk (blk_below (g := gb304) (o := .cells #[.slice Ao23 t297.length co23, .slice Ao26 t300.length co26] 27 (0, 0)) BK304.out hb)
      have n10_ := Aside0.mk (blk_below (g := gb311) (o := .cells #[.slice Ao30 t305.length co30, .slice Ao34 t308.length co34] 27 (0, 0)) BK311.out hb)
      have n11_ := Aside0.mk (blk_below (g := gb319) (o := .cells #[.slice Ao37 t312.length co37, .slice Ao42 t315.length co42] 27 (0, 0)) BK319.out hb)
      have n12_ := Aside0.mk (below_step HB.out hb)
      clear HO_305000
      clear HO_305001
      clear HO_312000
      clear HO_312001
      clear HO_320000
      clear HO_320001
      clear BK289
      clear BK304
      clear BK311
      clear BK319
      clear HB
      have HO_305000 := n0_
      have HO_305001 := n1_
      have HO_312000 := n2_
      have HO_312001 := n3_
      have HO_320000 := n4_
      have HO_320001 := n5_
      have HO323 := n6_
      have HO326 := n7_
      have BK289 := n8_
      have BK304 := n9_
      have BK311 := n10_
      have BK319 := n11_
      have HB := n12_
      clear n0_ n1_ n2_ n3_ n4_ n5_ n6_ n7_ n8_ n9_ n10_ n11_ n12_
      (try clear hb)
      (try clear hb2)
      (try clear hk)
      (try clear hi)
      (try clear ho0)
      (try clear ho1)
      obtain ⟨Ao186, co186, eo186⟩ := Kd.R_slice HO323.out
      (first | subst eo186 | (injection eo186 with f1_ f2_ f3_; have f4_ := f1_.symm; have f5_ := f3_.symm; clear f1_ f2_ f3_; subst f4_; subst f5_))
      obtain ⟨Ao187, co187, eo187⟩ := Kd.R_slice HO326.out
      (first | subst eo187 | (injection eo187 with f1_ f2_ f3_; have f4_ := f1_.symm; have f5_ := f3_.symm; clear f1_ f2_ f3_; subst f4_; subst f5_))
      refine hK.out _ _ ⟨(blk_cell BK311.out 0).trans rfl, (blk_cell BK311.out 1).trans rfl, (blk_cell BK289.out 0).trans rfl, (blk_cell BK289.out 1).trans rfl⟩ (fun hHeld => ?_)
      clear hK K
      refine norm_ (a' := ?_) ?_ ?_
      rotate_left
      ·show Act.put _ (some 51) _ = _
       simp only [Act.put, List.setIfInBounds_toArray, List.set_cons_zero, List.set_cons_succ, i64_w, i32_w]
       rfl
      refine one_ (i := 3) (N := some 52) #[true, true, true, true, false] rfl rfl (by kernel_rfl) (by decide) (fun K hK => ?_)
      refine goes_ Try.func19 (by kernel_rfl) rfl #[.agg #[.slice Ao30 t305.length co30, .slice Ao34 t308.length co34], .agg #[.slice Ao186 t321.length co186, .slice Ao187 t324.length co187]] (by rfl) rfl rfl (by (try simp only [List.map_toArray, List.map_cons, List.map_nil]); first | done | rfl | (simp only [List.length_drop, List.length_take]; rfl)) ?_
      with_reducible refine (laws_eqEnding.calls kj12 _ _ t305 _ _ t308 _ _ t321 _ _ t324 false _ ?side1 ?side2 ?side3 ?side4 ?side5 ?side6 ?side7 ?side8 A63.out).mono ?_
      (case side1 => exact (Kd.R_reads' HO_312000.out).2.2)
      (case side2 => exact (Kd.R_reads' HO_312000.out).2.1)
      (case side3 => exact (Kd.R_reads' HO_312001.out).2.2)
      (case side4 => exact (Kd.R_reads' HO_312001.out).2.1)
      (case side5 => exact (Kd.R_reads' HO323.out).2.2)
      (case side6 => exact (Kd.R_reads' HO323.out).2.1)
      (case side7 => exact (Kd.R_reads' HO326.out).2.2)
      (case side8 => exact (Kd.R_reads' HO326.out).2.1)
      rintro e w188 ⟨rfl, hb⟩
      refine ⟨_, rfl, ?_⟩
      have n0_ := Aside0.mk (Kd.R_below HO_305000.out hb)
      have n1_ := Aside0.mk (Kd.R_below HO_305001.out hb)
      have n2_ := Aside0.mk (Kd.R_below HO_312000.out hb)
      have n3_ := Aside0.mk (Kd.R_below HO_312001.out hb)
      have n4_ := Aside0.mk (Kd.R_below HO_320000.out hb)
      have n5_ := Aside0.mk (Kd.R_below HO_320001.out hb)
      have n6_ := Aside0.mk (Kd.R_below HO323.out hb)
      have n7_ := Aside0.mk (Kd.R_below HO326.out hb)
      have n8_ := Aside0.mk (blk_below (g := gb289) (o := .cells #[.slice A0_0 l0_0.length c0_0, .slice A0_1 l0_1.length c0_1] 24 (0, 0)) BK289.out hb)
      have n9_ := Aside0.mk (blk_below (g := gb304) (o := .cells #[.slice Ao23 t297.length co23, .slice Ao26 t300.length co26] 27 (0, 0)) BK304.out hb)
      have n10_ := Aside0.mk (blk_below (g := gb311) (o := .cells #[.slice Ao30 t305.length co30, .slice Ao34 t308.length co34] 27 (0, 0)) BK311.out hb)
      have n11_ := Aside0.mk (blk_below (g := gb319) (o := .cells #[.slice Ao37 t312.length co37, .slice Ao42 t315.length co42] 27 (0, 0)) BK319.out hb)
      have n12_ := Aside0.mk (below_step HB.out hb)
      clear HO_305000
      clear HO_305001
      clear HO_312000
      clear HO_312001
      clear HO_320000
      clear HO_320001
      clear HO323
      clear HO326
      clear BK289
      clear BK304
      clear BK311
      clear BK319
      clear HB
      have HO_305000 := n0_
      have HO_305001 := n1_
      have HO_312000 := n2_
      have HO_312001 := n3_
      have HO_320000 := n4_
      have HO_320001 := n5_
      have HO323 := n6_
      have HO326 := n7_
      have BK289 := n8_
      have BK304 := n9_
      have BK311 := n10_
      have BK319 := n11_
      have HB := n12_
      clear n0_ n1_ n2_ n3_ n4_ n5_ n6_ n7_ n8_ n9_ n10_ n11_ n12_
      (try clear hb)
      (try clear hb2)
      (try clear hk)
      (try clear hi)
      refine hK.out _ _ ⟨(blk_cell BK311.out 0).trans rfl, (blk_cell BK311.out 1).trans rfl, (blk_cell BK289.out 0).trans rfl, (blk_cell BK289.out 1).trans rfl⟩ (fun hHeld => ?_)
      clear hK K
      refine norm_ (a' := ?_) ?_ ?_
      rotate_left
      ·show Act.put _ (some 52) _ = _
       simp only [Act.put, List.setIfInBounds_toArray, List.set_cons_zero, List.set_cons_succ, i64_w, i32_w]
       rfl
      refine pure_ (i := 4) (N := some 53) (v := ?_) (a' := ?_) #[true, true, true, true, true] rfl rfl (by kernel_rfl) (fun _ _ _ h => h) (Or.inl ⟨by rfl, ?_⟩) ?_ ?_
      rotate_left
      ·intro w'
       go_simp
       with_reducible rfl
      rotate_left
      ·simp only [Act.put, List.setIfInBounds_toArray, List.set_cons_zero, List.set_cons_succ, i64_w, i32_w]
       rfl
      refine done_ (by kernel_rfl) ?_
      try go_wp2
      go_ret
      exact ⟨rfl, by repeat (first | (with_reducible first | exact HB.out | apply below_alloc | apply pw_below_drewN | apply below_drew1 | refine below_set ?_ GE289.out | refine below_set ?_ GE304.out | refine below_set ?_ GE311.out | refine below_set ?_ GE319.out) | exact HB.out)⟩

end Go.Proofs.Ytkbjoiebaphdoaa.PX

/- What is left behind an opening: the reference as the program; endings marked and looked at (condition: lists that fit). -/
namespace Go.Proofs.Ytkbjoiebaphdoaa.PX
open Go.RowKit Go.Proofs.YtkbjoiebaphdoaaW.PrintWords Go.Proofs.YtkbjoiebaphdoaaW.PrintLast Go.Proofs.YtkbjoiebaphdoaaW.PrintMore
attribute [local go_sem] max2_int min2_int max_two min_two max_three min_three max_four min_four
set_option linter.unusedVariables false
set_option linter.unusedSimpArgs false
theorem markE_ev (a b : List Int) (h : (a.length : Int) + (b.length : Int) ≤ 1048576) : Ev (fun k => laws_markEnding.f k a b 1) (1 + (a.length : Int) + (b.length : Int), marks 1 a.length, marks (1 + (a.length : Int)) b.length) := by
  unfold laws_markEnding.f
  exact Ev.bind (mark_ev a 1 (by omega) (by omega)) (Ev.bind (mark_ev b (1 + (a.length : Int)) (by omega) (by omega)) (Ev.now _))
theorem heldE_ev (n m : Nat) (h : (n : Int) + (m : Int) ≤ 1048576) : Ev (fun k => laws_heldEnding.f k (marks 1 n) (marks (1 + (n : Int)) m) 1) (1 + (n : Int) + (m : Int)) := by
  unfold laws_heldEnding.f
  refine Ev.bind (held_ev n 1 (by omega) (by omega)) ?_
  refine Ev.congr (fun k => if_neg (by omega)) (Ev.bind (held_ev m (1 + (n : Int)) (by omega) (by omega)) ?_)
  exact Ev.congr (f := fun _ => some _) (fun k => if_neg (by omega)) (Ev.now _)
theorem specAfter_ev (a b : List Int) (o : Bool × Int) (ha : a.length ≤ 1048576) (hb : b.length ≤ 1048576) : Ev (fun k => spec_AfterOpening.f k a b o.1 o.2) (afterOf a b o) := by
  unfold spec_AfterOpening.f afterOf
  refine Ev.bind (l04Is_ev a b ha hb) ?_
  cases hE : isEnd a b with
  | false => exact Ev.congr (f := fun _ => some ([], [], 1)) (fun k => rfl) (Ev.now _)
  | true =>
    obtain ⟨hC, hL, h8⟩ := isEnd_ok hE
    rw [if_pos rfl]
    refine Ev.congr (fun k => by rw [if_pos rfl]) (Ev.bind (withoutR_ev a b o (by omega) (by omega)) ?_)
    cases hI : isIn a b o with
    | false => exact Ev.congr (f := fun _ => some ([], [], 5)) (fun k => rfl) (Ev.now _)
    | true => exact Ev.congr (f := fun _ => some (lessC a o, lessL b o, 0)) (fun k => rfl) (Ev.now _)
theorem implAfter_ev (a b : List Int) (o : Bool × Int) (ha : a.length ≤ 1048576) (hb : b.length ≤ 1048576) : Ev (fun k => impl_AfterOpening.f k a b o.1 o.2) (afterOf a b o) :=
  Ev.congr (f := fun _ => some (afterOf a b o)) (fun k => if_pos ⟨ha, hb⟩) (Ev.now _)
theorem afterOf_len (a b : List Int) (o : Bool × Int) (h : (a.length : Int) + (b.length : Int) ≤ 1048576) : ((afterOf a b o).1.length : Int) + ((afterOf a b o).2.1.length : Int) ≤ 1048576 := by
  unfold afterOf
  split
  · split
    · have h1 : (lessC a o).length ≤ a.length := by
        unfold lessC
        split
        · exact Nat.le_refl _
        · exact List.length_erase_le
      have h2 : (lessL b o).length ≤ b.length := by
        unfold lessL
        split
        · exact List.length_erase_le
        · exact Nat.le_refl _
      show ((lessC a o).length : Int) + ((lessL b o).length : Int) ≤ 1048576
      omega
    · show (0 : Int) + 0 ≤ 1048576
      omega
  · show (0 : Int) + 0 ≤ 1048576
    omega

end Go.Proofs.Ytkbjoiebaphdoaa.PX
