/- Part 5 of the texts under the row of FnExactPlayEnding (no condition). -/
import Derived.Lib.SliceRun
import Derived.Test.YtkbjoiebaphdoaaPk4FnExactPlayEnding
/- The walk of the program's IsEnding, with its test of sizes (conditions: the slices read as the lists; each call answers). -/
namespace Go.Proofs.Ytkbjoiebaphdoaa.PX
open Go.RowKit Go.Proofs.YtkbjoiebaphdoaaW.PrintWords Go.Proofs.YtkbjoiebaphdoaaW.PrintLast Go.Proofs.YtkbjoiebaphdoaaW.PrintMore
attribute [local go_sem] max2_int min2_int max_two min_two max_three min_three max_four min_four
set_option linter.unusedVariables false
set_option linter.unusedSimpArgs false
def sizeOk (least n : Int) : Bool := decide (least ≤ n) && decide (n ≤ 30)
theorem within_sizeOk (least n : Int) : impl_within.f n least 30 = some (sizeOk least n) := by
 unfold impl_within.f sizeOk
 by_cases c : least ≤ n
 ·rw [if_pos c, decide_eq_true c, Bool.true_and]
 ·rw [if_neg c, decide_eq_false c, Bool.false_and]
theorem areSizes1_has : HasFn 99 := ⟨_, Try.func99, by kernel_rfl, rfl⟩
set_option maxHeartbeats 8000000 in
set_option maxRecDepth 100000 in
theorem areSizes1.calls (gb : Nat) (least x : Int) (w : World) (hB : w.heap[gb]? = some (.cells #[.int .i64 least] 2 (0, 0))) :
  Calls Try.prog 99 (#[.int .i64 x] ++ #[.pointer (some ⟨gb, 0, none⟩)]) w fun e w' => e = .returned (.bool (!(sizeOk least x))) ∧ Drawn0 w w' := by
 show Calls Try.prog 99 #[.int .i64 x, .pointer (some ⟨gb, 0, none⟩)] w fun e w' => e = .returned (.bool (!(sizeOk least x))) ∧ Drawn0 w w'
 have hz : w.cell? ⟨gb, 0, none⟩ = some (.int .i64 least) := (blk_cell hB 0).trans rfl
 have hf := blk_frozen hB 0
 have HW := Aside0.mk (within_sizeOk least x)
 generalize sizeOk least x = b at *
 clear hB
 go_enter Try.func99, Try.ntmps99
 go_wp2_with (go_at_call 86; (with_reducible refine (impl_within.calls x least 30 b _ HW.out).mono ?_); rintro e w' ⟨rfl, ⟨nd, rfl⟩⟩)
 go_ret
 exact ⟨rfl, by repeat (first | exact Drawn0.refl _ | apply Drawn0.step)⟩
theorem areSizes1_tests (gb : Nat) (least : Int) (xs : List Int) (w : World) (hB : w.heap[gb]? = some (.cells #[.int .i64 least] 2 (0, 0))) : Tests 99 #[.pointer (some ⟨gb, 0, none⟩)] (fun n => !(sizeOk least n)) xs w := ⟨areSizes1_has, fun x _ n => areSizes1.calls gb least x _ (blk_drewN hB n)⟩
def impl_areSizes.f (k : Nat) (l : List Int) (least : Int) : Option Bool := (slices_IsSorted_int64_int64.f k l).bind fun s => if s = true then some (!(l.any fun n => !(sizeOk least n))) else some false
theorem impl_areSizes.mono : ∀ a0 a1 k, LeO (impl_areSizes.f k a0 a1) (impl_areSizes.f (k + 1) a0 a1) := by
 intro a0 a1 k
 unfold impl_areSizes.f
 exact LeO.bind (slices_IsSorted_int64_int64.mono _ _) (fun _ => LeO.refl _)
set_option maxHeartbeats 8000000 in
set_option maxRecDepth 100000 in
theorem impl_areSizes.calls (k : Nat) (A0 : Option Addr) (c0 : Nat) (l0 : List Int) (a1 : Int) (r : Bool) (w : World) (hr0 : Kd.C (Kd.int .i64) w A0 l0.length l0) (hc0 : l0.length ≤ c0) (h : impl_areSizes.f k l0 a1 = some r) :
  Calls Try.prog 63 #[.slice A0 l0.length c0, .int .i64 a1] w fun e w' => e = .returned (.bool r) ∧ Below w.heap.size w w' := by
 have HR0 := Aside0.mk hr0
 have HC0 := Aside0.mk hc0
 clear hr0 hc0
 have hmf : ∀ (fn : Fn) (first cap : Array Value) (w : World), (Instr.makeFunc fn first cap).run Try.prog w = .ok (.func fn first cap) w := fun _ _ _ _ => rfl
 have HB := Aside0.mk (Below.refl w.heap.size w)
 unfold impl_areSizes.f at h
 obtain ⟨s, A10, h⟩ := Option.bind_eq_some_iff.mp h
 have A1 := Aside0.mk A10
 clear A10
 cases s
 ·rw [if_neg (by decide)] at h
  obtain rfl := Option.some.inj h
  clear h
  go_enter Try.func63, Try.ntmps63
  go_wp2_with (first | ((with_reducible refine gate_dst (N := 3) rfl ?_); (try (refine gate_guard (by rfl) ?_; dsimp only)); refine box_event ?hg (N := 3) ?hd (cs := #[.int .i64 a1]) (t := 2) ?hr ?_; (case hd => rfl); (case hg => rfl); (case hr => first | (go_simp; done) | (go_simp; rfl)); intro gb1 hg w2 hbox hb; have GPgb1 := Aside0.mk hg; have BK := Aside0.mk hbox; clear hg hbox; have n0_ := Aside0.mk (below_then HB.out HB.out.size hb); clear HB hb; have HB := n0_; clear n0_) | ((with_reducible refine gate_dst (N := 6) rfl ?_); (try (refine gate_guard (by rfl) ?_; dsimp only)); refine goesL_ (some 6) rfl rfl Try.func97 (by kernel_rfl) rfl #[.slice A0 l0.length c0] rfl (by (try simp only [List.map_toArray, List.map_cons, List.map_nil]); first | done | rfl) ?_; (with_reducible refine (calls_below (slices_IsSorted_int64_int64.calls k _ _ l0 false _ ?side1 ?side2 A1.out)).mono ?_); (case side1 => exact Kd.C_below HR0.out HB.out); (case side2 => exact HC0.out); rintro e w3 ⟨rfl, hb⟩; refine ⟨_, rfl, ?_⟩; have n0_ := Aside0.mk (below_then HB.out HB.out.size hb); have n1_ := Aside0.mk (blk_below (g := gb1) (o := .cells #[.int .i64 a1] 2 (0, 0)) BK.out hb); clear HB BK hb; have HB := n0_; have BK := n1_; clear n0_ n1_))
  go_ret
  exact ⟨rfl, HB.out⟩
 ·rw [if_pos rfl] at h
  have e := Option.some.inj h
  have E := Aside0.mk (show (l0.any fun n => !(sizeOk a1 n)) = !r by rw [← e, Bool.not_not])
  clear e h
  go_enter Try.func63, Try.ntmps63
  go_wp2_with (first | ((with_reducible refine gate_dst (N := 3) rfl ?_); (try (refine gate_guard (by rfl) ?_; dsimp only)); refine box_event ?hg (N := 3) ?hd (cs := #[.int .i64 a1]) (t := 2) ?hr ?_; (case hd => rfl); (case hg => rfl); (case hr => first | (go_simp; done) | (go_simp; rfl)); intro gb1 hg w2 hbox hb; have GPgb1 := Aside0.mk hg; have BK := Aside0.mk hbox; clear hg hbox; have n0_ := Aside0.mk (below_then HB.out HB.out.size hb); clear HB hb; have HB := n0_; clear n0_) | ((with_reducible refine gate_dst (N := 6) rfl ?_); (try (refine gate_guard (by rfl) ?_; dsimp only)); refine goesL_ (some 6) rfl rfl Try.func97 (by kernel_rfl) rfl #[.slice A0 l0.length c0] rfl (by (try simp only [List.map_toArray, List.map_cons, List.map_nil]); first | done | rfl) ?_; (with_reducible refine (calls_below (slices_IsSorted_int64_int64.calls k _ _ l0 true _ ?side1 ?side2 A1.out)).mono ?_); (case side1 => exact Kd.C_below HR0.out HB.out); (case side2 => exact HC0.out); rintro e w3 ⟨rfl, hb⟩; refine ⟨_, rfl, ?_⟩; have n0_ := Aside0.mk (below_then HB.out HB.out.size hb); have n1_ := Aside0.mk (blk_below (g := gb1) (o := .cells #[.int .i64 a1] 2 (0, 0)) BK.out hb); clear HB BK hb; have HB := n0_; have BK := n1_; clear n0_ n1_) | ((with_reducible refine gate_dst (N := 10) rfl ?_); (try (refine gate_guard (by rfl) ?_; dsimp only)); refine goesL_ (some 10) rfl rfl Try.func98 (by kernel_rfl) rfl #[.slice A0 l0.length c0, .func (.func 99) #[] #[.pointer (some ⟨gb1, 0, none⟩)]] rfl (by (try simp only [List.map_toArray, List.map_cons, List.map_nil]); first | done | rfl) ?_; (with_reducible refine (calls_below (ContainsFunc.calls 99 #[.pointer (some ⟨gb1, 0, none⟩)] (fun n => !(sizeOk a1 n)) _ _ l0 _ (Kd.C_below HR0.out HB.out) HC0.out (areSizes1_tests gb1 a1 l0 _ BK.out))).mono ?_); rw [E.out]; rintro e w4 ⟨rfl, hb⟩; refine ⟨_, rfl, ?_⟩; have n0_ := Aside0.mk (below_then HB.out HB.out.size hb); clear HB hb; have HB := n0_; clear n0_))
  go_ret
  exact ⟨by simp, HB.out⟩
def impl_IsEnding.f (k : Nat) (l0 l1 : List Int) : Option Bool := (impl_areSizes.f k l0 1).bind fun s => if s = true then (impl_areSizes.f k l1 4).bind (fun t => if t = true then (if (l0.length : Int) < 4611686018427387904 then (if (l1.length : Int) < 4611686018427387904 then some (decide ((l0.length : Int) + (l1.length : Int) ≤ 8)) else none) else none) else some false) else some false
theorem impl_IsEnding.mono : ∀ a0 a1 k, LeO (impl_IsEnding.f k a0 a1) (impl_IsEnding.f (k + 1) a0 a1) := by
 intro a0 a1 k
 unfold impl_IsEnding.f
 exact LeO.bind (impl_areSizes.mono _ _ _) (fun _ => LeO.ite (LeO.bind (impl_areSizes.mono _ _ _) (fun _ => LeO.refl _)) (LeO.refl _))
set_option maxHeartbeats 8000000 in
set_option maxRecDepth 100000 in
theorem impl_IsEnding.calls (k : Nat) (A0_0 : Option Addr) (c0_0 : Nat) (l0_0 : List Int) (A0_1 : Option Addr) (c0_1 : Nat) (l0_1 : List Int) (r : Bool) (w : World) (hr0_0 : Kd.C (Kd.int .i64) w A0_0 l0_0.length l0_0) (hc0_0 : l0_0.length ≤ c0_0) (hr0_1 : Kd.C (Kd.int .i64) w A0_1 l0_1.length l0_1) (hc0_1 : l0_1.length ≤ c0_1) (h : impl_IsEnding.f k l0_0 l0_1 = some r) :
  Calls Try.prog 18 #[.agg #[.slice A0_0 l0_0.length c0_0, .slice A0_1 l0_1.length c0_1]] w fun e w' => e = .returned (.bool r) ∧ Below w.heap.size w w' := by
 have hu27 := Try.underlying27
 have HR0 := Aside0.mk hr0_0
 have HC0 := Aside0.mk hc0_0
 have HR1 := Aside0.mk hr0_1
 have HC1 := Aside0.mk hc0_1
 clear hr0_0 hc0_0 hr0_1 hc0_1
 have HB := Aside0.mk (Below.refl w.heap.size w)
 unfold impl_IsEnding.f at h
 obtain ⟨s, A10, h⟩ := Option.bind_eq_some_iff.mp h
 have A1 := Aside0.mk A10
 clear A10
 cases s
 ·rw [if_neg (by decide)] at h
  obtain rfl := Option.some.inj h
  clear h
  go_enter Try.func18, Try.ntmps18
  go_wp2_with (first | ((with_reducible refine gate_dst (N := 1) rfl ?_); (try (refine gate_guard (by rfl) ?_; dsimp only)); refine box_event ?hg (N := 1) ?hd (cs := #[.slice A0_0 l0_0.length c0_0, .slice A0_1 l0_1.length c0_1]) (t := 27) ?hr ?_; (case hd => rfl); (case hg => rfl); (case hr => first | (go_simp; done) | (go_simp; rfl)); intro gb1 hg w2 hbox hb; have GPgb1 := Aside0.mk hg; have BK := Aside0.mk hbox; clear hg hbox; have n0_ := Aside0.mk (below_then HB.out HB.out.size hb); clear HB hb; have HB := n0_; clear n0_; (try clear hz_0); have hz_0 : w2.cell? ⟨gb1, 0, none⟩ = some (.slice A0_0 l0_0.length c0_0) := (blk_cell BK.out 0).trans rfl; (try clear hz_1); have hz_1 : w2.cell? ⟨gb1, 1, none⟩ = some (.slice A0_1 l0_1.length c0_1) := (blk_cell BK.out 1).trans rfl; (try clear hf_0); have hf_0 := blk_frozen BK.out 0; (try clear hf_1); have hf_1 := blk_frozen BK.out 1) | ((with_reducible refine gate_dst (N := 5) rfl ?_); (try (refine gate_guard (by rfl) ?_; dsimp only)); refine goesL_ (some 5) rfl rfl Try.func63 (by kernel_rfl) rfl #[.slice A0_0 l0_0.length c0_0, .int .i64 1] rfl (by (try simp only [List.map_toArray, List.map_cons, List.map_nil]); first | done | rfl) ?_; (with_reducible refine (impl_areSizes.calls k _ _ l0_0 1 false _ ?side1 ?side2 A1.out).mono ?_); (case side1 => exact Kd.C_below HR0.out HB.out); (case side2 => exact HC0.out); rintro e w3 ⟨rfl, hb⟩; refine ⟨_, rfl, ?_⟩; have n0_ := Aside0.mk (below_then HB.out HB.out.size hb); have n1_ := Aside0.mk (blk_below (g := gb1) (o := .cells #[.slice A0_0 l0_0.length c0_0, .slice A0_1 l0_1.length c0_1] 27 (0, 0)) BK.out hb); clear HB BK hb; have HB := n0_; have BK := n1_; clear n0_ n1_; (try clear hz_0); have hz_0 : w3.cell? ⟨gb1, 0, none⟩ = some (.slice A0_0 l0_0.length c0_0) := (blk_cell BK.out 0).trans rfl; (try clear hz_1); have hz_1 : w3.cell? ⟨gb1, 1, none⟩ = some (.slice A0_1 l0_1.length c0_1) := (blk_cell BK.out 1).trans rfl; (try clear hf_0); have hf_0 := blk_frozen BK.out 0; (try clear hf_1); have hf_1 := blk_frozen BK.out 1))
  go_ret
  exact ⟨rfl, HB.out⟩
 ·rw [if_pos rfl] at h
  obtain ⟨t, A20, h⟩ := Option.bind_eq_some_iff.mp h
  have A2 := Aside0.mk A20
  clear A20
  cases t
  ·rw [if_neg (by decide)] at h
   obtain rfl := Option.some.inj h
   clear h
   go_enter Try.func18, Try.ntmps18
   go_wp2_with (first | ((with_reducible refine gate_dst (N := 1) rfl ?_); (try (refine gate_guard (by rfl) ?_; dsimp only)); refine box_event ?hg (N := 1) ?hd (cs := #[.slice A0_0 l0_0.length c0_0, .slice A0_1 l0_1.length c0_1]) (t := 27) ?hr ?_; (case hd => rfl); (case hg => rfl); (case hr => first | (go_simp; done) | (go_simp; rfl)); intro gb1 hg w2 hbox hb; have GPgb1 := Aside0.mk hg; have BK := Aside0.mk hbox; clear hg hbox; have n0_ := Aside0.mk (below_then HB.out HB.out.size hb); clear HB hb; have HB := n0_; clear n0_; (try clear hz_0); have hz_0 : w2.cell? ⟨gb1, 0, none⟩ = some (.slice A0_0 l0_0.length c0_0) := (blk_cell BK.out 0).trans rfl; (try clear hz_1); have hz_1 : w2.cell? ⟨gb1, 1, none⟩ = some (.slice A0_1 l0_1.length c0_1) := (blk_cell BK.out 1).trans rfl; (try clear hf_0); have hf_0 := blk_frozen BK.out 0; (try clear hf_1); have hf_1 := blk_frozen BK.out 1) | ((with_reducible refine gate_dst (N := 5) rfl ?_); (try (refine gate_guard (by rfl) ?_; dsimp only)); refine goesL_ (some 5) rfl rfl Try.func63 (by kernel_rfl) rfl #[.slice A0_0 l0_0.length c0_0, .int .i64 1] rfl (by (try simp only [List.map_toArray, List.map_cons, List.map_nil]); first | done | rfl) ?_; (with_reducible refine (impl_areSizes.calls k _ _ l0_0 1 true _ ?side1 ?side2 A1.out).mono ?_); (case side1 => exact Kd.C_below HR0.out HB.out); (case side2 => exact HC0.out); rintro e w3 ⟨rfl, hb⟩; refine ⟨_, rfl, ?_⟩; have n0_ := Aside0.mk (below_then HB.out HB.out.size hb); have n1_ := Aside0.mk (blk_below (g := gb1) (o := .cells #[.slice A0_0 l0_0.length c0_0, .slice A0_1 l0_1.length c0_1] 27 (0, 0)) BK.out hb); clear HB BK hb; have HB := n0_; have BK := n1_; clear n0_ n1_; (try clear hz_0); have hz_0 : w3.cell? ⟨gb1, 0, none⟩ = some (.slice A0_0 l0_0.length c0_0) := (blk_cell BK.out 0).trans rfl; (try clear hz_1); have hz_1 : w3.cell? ⟨gb1, 1, none⟩ = some (.slice A0_1 l0_1.length c0_1) := (blk_cell BK.out 1).trans rfl; (try clear hf_0); have hf_0 := blk_frozen BK.out 0; (try clear hf_1); have hf_1 := blk_frozen BK.out 1) | ((with_reducible refine gate_dst (N := 9) rfl ?_); (try (refine gate_guard (by rfl) ?_; dsimp only)); refine goesL_ (some 9) rfl rfl Try.func63 (by kernel_rfl) rfl #[.slice A0_1 l0_1.length c0_1, .int .i64 4] rfl (by (try simp only [List.map_toArray, List.map_cons, List.map_nil]); first | done | rfl) ?_; (with_reducible refine (impl_areSizes.calls k _ _ l0_1 4 false _ ?side1 ?side2 A2.out).mono ?_); (case side1 => exact Kd.C_below HR1.out HB.out); (case side2 => exact HC1.out); rintro e w4 ⟨rfl, hb⟩; refine ⟨_, rfl, ?_⟩; have n0_ := Aside0.mk (below_then HB.out HB.out.size hb); have n1_ := Aside0.mk (blk_below (g := gb1) (o := .cells #[.slice A0_0 l0_0.length c0_0, .slice A0_1 l0_1.length c0_1] 27 (0, 0)) BK.out hb); clear HB BK hb; have HB := n0_; have BK := n1_; clear n0_ n1_; (try clear hz_0); have hz_0 : w4.cell? ⟨gb1, 0, none⟩ = some (.slice A0_0 l0_0.length c0_0) := (blk_cell BK.out 0).trans rfl; (try clear hz_1); have hz_1 : w4.cell? ⟨gb1, 1, none⟩ = some (.slice A0_1 l0_1.length c0_1) := (blk_cell BK.out 1).trans rfl; (try clear hf_0); have hf_0 := blk_frozen BK.out 0; (try clear hf_1); have hf_1 := blk_frozen BK.out 1))
   go_ret
   exact ⟨rfl, HB.out⟩
  ·rw [if_pos rfl] at h
   by_cases q0 : (l0_0.length : Int) < 4611686018427387904
   ·rw [if_pos q0] at h
    by_cases q1 : (l0_1.length : Int) < 4611686018427387904
    ·rw [if_pos q1] at h
     have e := Option.some.inj h
     have ew : wrap64 ((l0_0.length : Int) + (l0_1.length : Int)) = (l0_0.length : Int) + (l0_1.length : Int) := by unfold wrap64; omega
     clear h q0 q1
     go_enter Try.func18, Try.ntmps18
     go_wp2_with (first | ((with_reducible refine gate_dst (N := 1) rfl ?_); (try (refine gate_guard (by rfl) ?_; dsimp only)); refine box_event ?hg (N := 1) ?hd (cs := #[.slice A0_0 l0_0.length c0_0, .slice A0_1 l0_1.length c0_1]) (t := 27) ?hr ?_; (case hd => rfl); (case hg => rfl); (case hr => first | (go_simp; done) | (go_simp; rfl)); intro gb1 hg w2 hbox hb; have GPgb1 := Aside0.mk hg; have BK := Aside0.mk hbox; clear hg hbox; have n0_ := Aside0.mk (below_then HB.out HB.out.size hb); clear HB hb; have HB := n0_; clear n0_; (try clear hz_0); have hz_0 : w2.cell? ⟨gb1, 0, none⟩ = some (.slice A0_0 l0_0.length c0_0) := (blk_cell BK.out 0).trans rfl; (try clear hz_1); have hz_1 : w2.cell? ⟨gb1, 1, none⟩ = some (.slice A0_1 l0_1.length c0_1) := (blk_cell BK.out 1).trans rfl; (try clear hf_0); have hf_0 := blk_frozen BK.out 0; (try clear hf_1); have hf_1 := blk_frozen BK.out 1) | ((with_reducible refine gate_dst (N := 5) rfl ?_); (try (refine gate_guard (by rfl) ?_; dsimp only)); refine goesL_ (some 5) rfl rfl Try.func63 (by kernel_rfl) rfl #[.slice A0_0 l0_0.length c0_0, .int .i64 1] rfl (by (try simp only [List.map_toArray, List.map_cons, List.map_nil]); first | done | rfl) ?_; (with_reducible refine (impl_areSizes.calls k _ _ l0_0 1 true _ ?side1 ?side2 A1.out).mono ?_); (case side1 => exact Kd.C_below HR0.out HB.out); (case side2 => exact HC0.out); rintro e w3 ⟨rfl, hb⟩; refine ⟨_, rfl, ?_⟩; have n0_ := Aside0.mk (below_then HB.out HB.out.size hb); have n1_ := Aside0.mk (blk_below (g := gb1) (o := .cells #[.slice A0_0 l0_0.length c0_0, .slice A0_1 l0_1.length c0_1] 27 (0, 0)) BK.out hb); clear HB BK hb; have HB := n0_; have BK := n1_; clear n0_ n1_; (try clear hz_0); have hz_0 : w3.cell? ⟨gb1, 0, none⟩ = some (.slice A0_0 l0_0.length c0_0) := (blk_cell BK.out 0).trans rfl; (try clear hz_1); have hz_1 : w3.cell? ⟨gb1, 1, none⟩ = some (.slice A0_1 l0_1.length c0_1) := (blk_cell BK.out 1).trans rfl; (try clear hf_0); have hf_0 := blk_frozen BK.out 0; (try clear hf_1); have hf_1 := blk_frozen BK.out 1) | ((with_reducible refine gate_dst (N := 9) rfl ?_); (try (refine gate_guard (by rfl) ?_; dsimp only)); refine goesL_ (some 9) rfl rfl Try.func63 (by kernel_rfl) rfl #[.slice A0_1 l0_1.length c0_1, .int .i64 4] rfl (by (try simp only [List.map_toArray, List.map_cons, List.map_nil]); first | done | rfl) ?_; (with_reducible refine (impl_areSizes.calls k _ _ l0_1 4 true _ ?side1 ?side2 A2.out).mono ?_); (case side1 => exact Kd.C_below HR1.out HB.out); (case side2 => exact HC1.out); rintro e w4 ⟨rfl, hb⟩; refine ⟨_, rfl, ?_⟩; have n0_ := Aside0.mk (below_then HB.out HB.out.size hb); have n1_ := Aside0.mk (blk_below (g := gb1) (o := .cells #[.slice A0_0 l0_0.length c0_0, .slice A0_1 l0_1.length c0_1] 27 (0, 0)) BK.out hb); clear HB BK hb; have HB := n0_; have BK := n1_; clear n0_ n1_; (try clear hz_0); have hz_0 : w4.cell? ⟨gb1, 0, none⟩ = some (.slice A0_0 l0_0.length c0_0) := (blk_cell BK.out 0).trans rfl; (try clear hz_1); have hz_1 : w4.cell? ⟨gb1, 1, none⟩ = some (.slice A0_1 l0_1.length c0_1) := (blk_cell BK.out 1).trans rfl; (try clear hf_0); have hf_0 := blk_frozen BK.out 0; (try clear hf_1); have hf_1 := blk_frozen BK.out 1))
     go_ret
     exact ⟨by rw [← e]; rfl, HB.out⟩
    ·rw [if_neg q1] at h
     exact absurd h (by simp)
   ·rw [if_neg q0] at h
    exact absurd h (by simp)

end Go.Proofs.Ytkbjoiebaphdoaa.PX

/- Endings: what the reference and the program take for one; the same as the law compares (no condition but sizes that fit). -/
namespace Go.Proofs.Ytkbjoiebaphdoaa.PX
open Go.RowKit Go.Proofs.YtkbjoiebaphdoaaW.PrintWords Go.Proofs.YtkbjoiebaphdoaaW.PrintLast Go.Proofs.YtkbjoiebaphdoaaW.PrintMore
attribute [local go_sem] max2_int min2_int max_two min_two max_three min_three max_four min_four
set_option linter.unusedVariables false
set_option linter.unusedSimpArgs false
def ascFrom (lo : Int) : Int → List Int → Bool
  | _, [] => true
  | p, x :: t => sizeOk lo x && decide (p ≤ x) && ascFrom lo x t
def asc (lo : Int) (l : List Int) : Bool := ascFrom lo lo l
def sortFrom : Int → List Int → Bool
  | _, [] => true
  | p, x :: t => decide (p ≤ x) && sortFrom x t
def srt : List Int → Bool
  | [] => true
  | x :: t => sortFrom x t
theorem sizeOk_lo {lo x : Int} (h : sizeOk lo x = true) : lo ≤ x ∧ x ≤ 30 := by
  simpa [sizeOk] using h
theorem ascFrom_eq (lo : Int) : ∀ (l : List Int) (p : Int), ascFrom lo p l = (sortFrom p l && l.all (sizeOk lo))
  | [], p => rfl
  | x :: t, p => by
    unfold ascFrom sortFrom
    rw [ascFrom_eq lo t x, List.all_cons]
    cases sizeOk lo x <;> cases decide (p ≤ x) <;> cases sortFrom x t <;> simp
theorem asc_eq (lo : Int) (l : List Int) : asc lo l = (srt l && l.all (sizeOk lo)) := by
  unfold asc
  rw [ascFrom_eq]
  cases l with
  | nil => rfl
  | cons x t =>
    unfold sortFrom srt
    rw [List.all_cons]
    cases h : sizeOk lo x
    · simp
    · rw [decide_eq_true (sizeOk_lo h).1, Bool.true_and]
theorem sortFrom_snoc (a b : Int) : ∀ (l : List Int) (p : Int), sortFrom p (l ++ [a] ++ [b]) = (sortFrom p (l ++ [a]) && decide (a ≤ b))
  | [], p => by
    show (decide (p ≤ a) && (decide (a ≤ b) && true)) = ((decide (p ≤ a) && true) && decide (a ≤ b))
    cases decide (p ≤ a) <;> cases decide (a ≤ b) <;> rfl
  | x :: t, p => by
    show (decide (p ≤ x) && sortFrom x (t ++ [a] ++ [b])) = ((decide (p ≤ x) && sortFrom x (t ++ [a])) && decide (a ≤ b))
    rw [sortFrom_snoc a b t x, Bool.and_assoc]
theorem srt_snoc (a b : Int) (l : List Int) : srt (l ++ [a] ++ [b]) = (srt (l ++ [a]) && decide (a ≤ b)) := by
  cases l with
  | nil =>
    show (decide (a ≤ b) && true) = (true && decide (a ≤ b))
    cases decide (a ≤ b) <;> rfl
  | cons x t => exact sortFrom_snoc a b t x
theorem less_eq (a b : Int) : cmp_Less_int64.f a b = some (decide (a < b)) := by
  unfold cmp_Less_int64.f cmp_isNaN_int64.f
  simp
theorem sorted_loop (l : List Int) (hl : l.length < 4611686018427387904) : ∀ i : Nat, i < l.length → Ev (fun k => slices_IsSorted_int64_int64.l0 k l (i : Int)) (srt (l.take (i + 1)))
  | 0, hi => by
    obtain ⟨x, hx⟩ := get_some hi
    have e : l.take 1 = [x] := by
      rw [List.take_add_one, hx]; rfl
    rw [e]
    refine Ev.step (f := fun _ => some true) (fun k => ?_) (Ev.now _)
    simp only [slices_IsSorted_int64_int64.l0]
    rw [if_neg (by omega)]
  | i + 1, hi => by
    have ih := sorted_loop l hl i (by omega)
    obtain ⟨a, ha⟩ := get_some (xs := l) (i := i) (by omega)
    obtain ⟨b, hb⟩ := get_some hi
    have e1 : l.take (i + 1) = l.take i ++ [a] := by rw [List.take_add_one, ha]; rfl
    have e2 : l.take (i + 1 + 1) = l.take i ++ [a] ++ [b] := by rw [List.take_add_one, hb, e1]; rfl
    have ew : wrap64 (((i + 1 : Nat) : Int) - 1) = (i : Int) := by rw [wrapS (by omega) (by omega)]; omega
    rw [e2, srt_snoc]
    rw [e1] at ih
    by_cases c : b < a
    · rw [decide_eq_false (by omega : ¬ a ≤ b), Bool.and_false]
      refine Ev.step (f := fun _ => some false) (fun k => ?_) (Ev.now _)
      simp only [slices_IsSorted_int64_int64.l0]
      rw [if_pos (by omega), if_pos (by omega), if_pos (by omega), ew, if_pos (by omega), if_pos (by omega), less_eq, rd_nat, rd_nat, getD_of hb, getD_of ha, Option.bind_some, if_pos (decide_eq_true c)]
    · rw [decide_eq_true (by omega : a ≤ b), Bool.and_true]
      refine Ev.step (fun k => ?_) ih
      simp only [slices_IsSorted_int64_int64.l0]
      rw [if_pos (by omega), if_pos (by omega), if_pos (by omega), ew, if_pos (by omega), if_pos (by omega), less_eq, rd_nat, rd_nat, getD_of hb, getD_of ha, Option.bind_some, if_neg (by rw [decide_eq_false c]; decide)]
theorem sorted_ev (l : List Int) (hl : l.length < 4611686018427387904) : Ev (fun k => slices_IsSorted_int64_int64.f k l) (srt l) := by
  cases l with
  | nil =>
    refine Ev.step (f := fun _ => some true) (fun k => ?_) (Ev.now _)
    have e : wrap64 ((([] : List Int).length : Int) - 1) = -1 := by decide +kernel
    simp only [slices_IsSorted_int64_int64.f, slices_IsSorted_int64_int64.l0]
    rw [e, if_neg (by decide)]
  | cons x t =>
    have h := sorted_loop (x :: t) hl t.length (by simp)
    rw [show t.length + 1 = (x :: t).length from rfl, List.take_length] at h
    refine Ev.congr (fun k => ?_) h
    unfold slices_IsSorted_int64_int64.f
    rw [List.length_cons, show wrap64 (((t.length + 1 : Nat) : Int) - 1) = (t.length : Int) by rw [wrapS (by omega) (by simp at hl; omega)]; omega]
theorem sizes_ev (l : List Int) (lo : Int) (hl : l.length < 4611686018427387904) : Ev (fun k => impl_areSizes.f k l lo) (asc lo l) := by
  unfold impl_areSizes.f
  rw [asc_eq]
  refine Ev.bind (sorted_ev l hl) ?_
  cases srt l
  · exact Ev.now _
  · refine Ev.congr (f := fun _ => some _) (fun k => ?_) (Ev.now _)
    rw [if_pos rfl, Bool.true_and]
    congr 1
    induction l with
    | nil => rfl
    | cons x t ih =>
      rw [List.any_cons, List.all_cons, Bool.not_or, Bool.not_not, ih (by simp at hl; omega)]
theorem l04In_eq (a b c : Int) : spec_l01In.f a b c = some (decide (b ≤ a) && decide (a ≤ c)) := by
  unfold spec_l01In.f
  by_cases h : b ≤ a
  · rw [if_pos (show a ≥ b from h), decide_eq_true h, Bool.true_and]
  · rw [if_neg (show ¬ a ≥ b from h), decide_eq_false h, Bool.false_and]
theorem asc_loop (l : List Int) (lo : Int) (hl : l.length < 4611686018427387904) : ∀ (d i : Nat) (p : Int), i + d = l.length → (i = 0 → p = lo) → (0 < i → p = l.getD (i - 1) 0) →
    Ev (fun k => spec_l04Ascends.l0 k l lo (i : Int)) (ascFrom lo p (l.drop i))
  | 0, i, p, hd, h0, h1 => by
    rw [List.drop_of_length_le (by omega)]
    refine Ev.step (f := fun _ => some true) (fun k => ?_) (Ev.now _)
    simp only [spec_l04Ascends.l0]
    rw [if_neg (by omega)]
  | d + 1, i, p, hd, h0, h1 => by
    obtain ⟨x, hx⟩ := get_some (xs := l) (i := i) (by omega)
    have ih := asc_loop l lo hl d (i + 1) x (by omega) (by omega) (fun _ => by rw [Nat.add_sub_cancel, getD_of hx])
    have er : rd l (i : Int) = x := by rw [rd_nat, getD_of hx]
    have ew : wrap64 ((i : Int) + 1) = ((i + 1 : Nat) : Int) := by rw [wrapS (by omega) (by omega), cast_succ]
    rw [drop_of hx]
    unfold ascFrom
    by_cases c : sizeOk lo x = true
    · rw [c, Bool.true_and]
      have c' : (decide (lo ≤ x) && decide (x ≤ 30)) = true := c
      by_cases hi : i = 0
      · rw [h0 hi, decide_eq_true (sizeOk_lo c).1, Bool.true_and]
        refine Ev.step (fun k => ?_) ih
        simp only [spec_l04Ascends.l0]
        rw [if_pos (by omega), if_pos (by omega), er, l04In_eq, Option.bind_some, if_pos c', if_neg (by omega), ew]
      · have ep := h1 (by omega)
        have em : wrap64 ((i : Int) - 1) = ((i - 1 : Nat) : Int) := by rw [wrapS (by omega) (by omega)]; omega
        by_cases cp : p ≤ x
        · rw [decide_eq_true cp, Bool.true_and]
          refine Ev.step (fun k => ?_) ih
          simp only [spec_l04Ascends.l0]
          rw [if_pos (by omega), if_pos (by omega), er, l04In_eq, Option.bind_some, if_pos c', if_pos (by omega), em, if_pos (by omega), if_pos (by omega), rd_nat, ← ep, if_neg (by omega), ew]
        · rw [decide_eq_false cp, Bool.false_and]
          refine Ev.step (f := fun _ => some false) (fun k => ?_) (Ev.now _)
          simp only [spec_l04Ascends.l0]
          rw [if_pos (by omega), if_pos (by omega), er, l04In_eq, Option.bind_some, if_pos c', if_pos (by omega), em, if_pos (by omega), if_pos (by omega), rd_nat, ← ep, if_pos (by omega)]
    · rw [Bool.eq_false_iff.mpr c, Bool.false_and, Bool.false_and]
      have c' : ¬ (decide (lo ≤ x) && decide (x ≤ 30)) = true := c
      refine Ev.step (f := fun _ => some false) (fun k => ?_) (Ev.now _)
      simp only [spec_l04Ascends.l0]
      rw [if_pos (by omega), if_pos (by omega), er, l04In_eq, Option.bind_some, if_neg c']
theorem asc_ev (l : List Int) (lo : Int) (hl : l.length < 4611686018427387904) : Ev (fun k => spec_l04Ascends.f k l lo) (asc lo l) := by
  have h := asc_loop l lo hl l.length 0 lo (by omega) (fun _ => rfl) (fun h => absurd h (by omega))
  rw [List.drop_zero] at h
  exact h
def isEnd (a b : List Int) : Bool := decide ((a.length : Int) + (b.length : Int) ≤ 8) && asc 1 a && asc 4 b
theorem isEnd_len {a b : List Int} (h : isEnd a b = true) : a.length + b.length ≤ 8 := by
  simp only [isEnd, Bool.and_eq_true, decide_eq_true_eq] at h
  omega
theorem l04Is_ev (a b : List Int) (ha : a.length ≤ 1048576) (hb : b.length ≤ 1048576) : Ev (fun k => spec_l04Is.f k a b) (isEnd a b) := by
  unfold spec_l04Is.f isEnd
  rw [wrapS (i := (a.length : Int) + (b.length : Int)) (by omega) (by omega)]
  by_cases c : (a.length : Int) + (b.length : Int) ≤ 8
  · rw [decide_eq_true c, Bool.true_and]
    refine Ev.congr (fun k => by rw [if_pos c]) (Ev.bind (asc_ev a 1 (by omega)) ?_)
    cases asc 1 a
    · exact Ev.now _
    · rw [Bool.true_and]
      exact Ev.congr (fun k => by rw [if_pos rfl]) (Ev.bind (asc_ev b 4 (by omega)) (Ev.now _))
  · rw [decide_eq_false c, Bool.false_and, Bool.false_and]
    exact Ev.congr (fun k => by rw [if_neg c]) (Ev.now _)
theorem IsEnding_ev (a b : List Int) (ha : a.length ≤ 1048576) (hb : b.length ≤ 1048576) : Ev (fun k => impl_IsEnding.f k a b) (isEnd a b) := by
  unfold impl_IsEnding.f isEnd
  refine Ev.bind (sizes_ev a 1 (by omega)) ?_
  cases asc 1 a
  · rw [Bool.and_false, Bool.false_and]
    exact Ev.now _
  · rw [Bool.and_true]
    refine Ev.congr (fun k => by rw [if_pos rfl]) (Ev.bind (sizes_ev b 4 (by omega)) ?_)
    cases asc 4 b
    · rw [Bool.and_false]
      exact Ev.now _
    · rw [Bool.and_true]
      exact Ev.congr (f := fun _ => some _) (fun k => by rw [if_pos rfl, if_pos (by omega), if_pos (by omega)]) (Ev.now _)
theorem szE_eq (a b : List Int) (ha : a.length ≤ 9223372036854775807) (hb : b.length ≤ 9223372036854775807) : ∃ t, laws_szEnding.f a b 1048576 = some t ∧ (t < 0 ∨ (0 ≤ t ∧ (a.length : Int) + (b.length : Int) ≤ 1048576)) := by
  unfold laws_szEnding.f
  rw [szI_eq a 1048576 (by omega) (by omega) ha, Option.bind_some]
  by_cases c : 1048576 - (a.length : Int) < 0
  · rw [if_pos c, if_pos (by omega)]
    exact ⟨_, rfl, Or.inl (by omega)⟩
  · rw [if_neg c, if_neg c, szI_eq b _ (by omega) (by omega) hb, Option.bind_some]
    by_cases d : 1048576 - (a.length : Int) - (b.length : Int) < 0
    · rw [if_pos d, if_pos (by omega)]
      exact ⟨_, rfl, Or.inl (by omega)⟩
    · rw [if_neg d, if_neg d]
      exact ⟨_, rfl, Or.inr ⟨by omega, by omega⟩⟩
theorem toE_ev (a b : List Int) (h : (a.length : Int) + (b.length : Int) ≤ 1048576) : Ev (fun k => laws_toEnding.f k a b) (a, b) := by
  unfold laws_toEnding.f
  exact Ev.bind (toI_ev a (by omega)) (Ev.bind (toI_ev b (by omega)) (Ev.now _))
theorem eqE_ev (a b : List Int) (h : (a.length : Int) + (b.length : Int) ≤ 1048576) : Ev (fun k => laws_eqEnding.f k a b a b) true := by
  unfold laws_eqEnding.f
  refine Ev.bind (eqI_ev a (by omega)) (Ev.congr (fun k => by rw [if_pos rfl]) (Ev.bind (eqI_ev b (by omega)) ?_))
  exact Ev.congr (f := fun _ => some true) (fun k => by rw [if_pos rfl]) (Ev.now _)

end Go.Proofs.Ytkbjoiebaphdoaa.PX

/- Marks laid into a position are found again (no condition but sizes that fit). -/
namespace Go.Proofs.Ytkbjoiebaphdoaa.PX
open Go.RowKit Go.Proofs.YtkbjoiebaphdoaaW.PrintWords Go.Proofs.YtkbjoiebaphdoaaW.PrintLast Go.Proofs.YtkbjoiebaphdoaaW.PrintMore
attribute [local go_sem] max2_int min2_int max_two min_two max_three min_three max_four min_four
set_option linter.unusedVariables false
set_option linter.unusedSimpArgs false
theorem heldSS_loop (g : List (List Int)) (a : Int) (ha : 0 ≤ a) (hn : a + total g < 4611686018427387904) (hg : g.length < 4611686018427387904) (d : Nat) : ∀ (i : Nat), i + d = g.length →
    Ev (fun k => laws_heldInt64SS.l0 k (markL a g) (a + total (g.take i)) i) (a + total g) := by
  induction d with
  | zero =>
    intro i hd
    have e : i = g.length := by omega
    subst e
    refine Ev.step (f := fun _ => some (a + total g)) (fun k => ?_) (Ev.now _)
    simp only [laws_heldInt64SS.l0]
    rw [if_neg (by rw [markL_length]; omega), List.take_length]
  | succ d ih =>
    intro i hd
    obtain ⟨row, hp⟩ := get_some (xs := g) (i := i) (by omega)
    have hx := ih (i + 1) (by omega)
    have et : total (g.take (i + 1)) = total (g.take i) + row.length := by
      rw [List.take_add_one, hp]
      have : ∀ (x y : List (List Int)), total (x ++ y) = total x + total y := fun x y => by
        induction x with
        | nil => simp [total]
        | cons z r ihx => simp only [List.cons_append, total, ihx]; omega
      rw [this]
      simp [total]
    have hb : total (g.take i) + row.length + total (g.drop (i + 1)) = total g := by
      have : ∀ (x y : List (List Int)), total (x ++ y) = total x + total y := fun x y => by
        induction x with
        | nil => simp [total]
        | cons z r ihx => simp only [List.cons_append, total, ihx]; omega
      have e := congrArg total (List.take_append_drop i g)
      rw [this, drop_of hp] at e
      simp only [total] at e
      omega
    have h0 := total_nonneg (g.take i)
    have h1 := total_nonneg (g.drop (i + 1))
    have hget : rd_L5 (markL a g) (i : Int) = marks (a + total (g.take i)) row.length := by
      rw [rdLx_nat]
      have e : markL a g = markL a (g.take i) ++ markL (a + total (g.take i)) (g.drop i) := by rw [← markL_append, List.take_append_drop]
      rw [e, drop_of hp, List.getD_eq_getElem?_getD, List.getElem?_append_right (by rw [markL_length, List.length_take]; omega), markL_length, List.length_take, show i - min i g.length = 0 by omega]
      rfl
    have hh := held_ev row.length (a + total (g.take i)) (by omega) (by omega)
    rw [et, ← Int.add_assoc] at hx
    refine Ev.step (fun k => by simp only [laws_heldInt64SS.l0]; rw [if_pos (by rw [markL_length]; omega), if_pos (by omega), hget]) (Ev.bind hh (Ev.congr (fun k => ?_) hx))
    rw [if_neg (by omega), wrapS (by omega) (by omega), cast_succ]
theorem heldSS_ev (g : List (List Int)) (a : Int) (ha : 0 ≤ a) (hn : a + total g < 4611686018427387904) (hg : g.length < 4611686018427387904) : Ev (fun k => laws_heldInt64SS.f k (markL a g) a) (a + total g) := by
  have h := heldSS_loop g a ha hn hg g.length 0 (by omega)
  have e : a + total (g.take 0) = a := by simp [total]
  rw [e] at h
  exact h
theorem total_le (n : Nat) : ∀ g : List (List Int), (∀ row ∈ g, row.length ≤ n) → total g ≤ (g.length : Int) * n
  | [], _ => by simp [total]
  | row :: rest, h => by
    have := total_le n rest (fun r hr => h r (by simp [hr]))
    have h1 := h row (by simp)
    simp only [total, List.length_cons]
    have e : (((rest.length + 1 : Nat) : Int)) * (n : Int) = (rest.length : Int) * n + n := by rw [Int.natCast_add, Int.add_mul]; simp
    omega

end Go.Proofs.Ytkbjoiebaphdoaa.PX

/- slices.Clone over whole numbers: the list again, in memory of its own (conditions: the slice reads as the list; it fits in memory). -/
namespace Go.Proofs.Ytkbjoiebaphdoaa.PX
open Go.RowKit Go.Proofs.YtkbjoiebaphdoaaW.PrintWords Go.Proofs.YtkbjoiebaphdoaaW.PrintLast Go.Proofs.YtkbjoiebaphdoaaW.PrintMore
attribute [local go_sem] max2_int min2_int max_two min_two max_three min_three max_four min_four
set_option linter.unusedVariables false
set_option linter.unusedSimpArgs false
theorem C_none {c : Nat} {w : World} {n : Nat} {xs : List Int} (h : Kd.C (Kd.int .i64) w none n xs) (hn : n = xs.length) : xs = [] := by
  cases xs with
  | nil => rfl
  | cons x r =>
    subst hn
    obtain ⟨ad, e, _⟩ := Kd.at_int h 0 (by omega) (by simp only [List.length_cons]; omega)
    cases e
set_option maxHeartbeats 8000000 in
set_option maxRecDepth 100000 in
theorem Clone.calls (A0 : Option Addr) (c0 : Nat) (l0 : List Int) (w : World) (hr0 : Kd.C (Kd.int .i64) w A0 l0.length l0) (hc0 : l0.length ≤ c0) (hl : l0.length < 17592186044416) :
    Calls Try.prog 68 #[.slice A0 l0.length c0] w fun e w' => ∃ v0_ : Value, e = .returned (v0_) ∧ Kd.R (Kd.int .i64) 2 w' w.heap.size (fun _ => True) v0_ l0 ∧ Below w.heap.size w w' := by
  have HR0 := Aside0.mk hr0
  have HC0 := Aside0.mk hc0
  have LMc2 := Aside0.mk hl
  clear hr0 hc0 hl
  have HB := Aside0.mk (Below.refl w.heap.size w)
  have q22 : ∀ (w : World) (a : Option Addr) (n c n' c' : Nat), (binOp .eql 22 (.slice a n c) (.slice none n' c')).run Try.prog w = .ok (.bool a.isNone) w := fun w a n c n' c' => Go.Lib.run_eql_slice_nil w _ _ a n c n' c' Try.underlying22
  cases A0 with
  | none =>
    have e := C_none (c := c0) HR0.out rfl
    subst e
    go_enter Try.func68, Try.ntmps68
    go_wp2
    go_ret
    exact ⟨_, rfl, Kd.R_nil _ _ _ _ _, HB.out⟩
  | some ad =>
    obtain ⟨y119, hy119⟩ : ∃ y_ : List Int, y_ = (([] : List Int) ++ l0) := ⟨_, rfl⟩
    have Ny119 := Aside0.mk hy119
    clear hy119
    go_enter Try.func68, Try.ntmps68
    go_wp2_with (first | ((with_reducible refine gate_dst (N := 5) rfl ?_); refine Kd.R_lit (Kd.int .i64) _ 2 ?hg (N := 5) ?hd (xs := ([] : List Int)) (inner := []) (ok := fun _ => True) (okp := fun _ => True) ?hr ?hp (fun _ hk => hk) trivial (Below.refl _ _) (Nat.le_refl _) (by simp) ?_; (case hd => rfl); (case hg => rfl); (case hr => first | (go_simp; done) | (go_simp; rfl)); (case hp => exact (Reps.none _ _)); intro v117 w3 ho4 hb hg_ hnew_; clear hg_ hnew_; (try simp only [Int.reduceToNat] at ho4); have n0_ := Aside0.mk (Kd.R_lower ho4 (below_size HB.out)); have n1_ := Aside0.mk (below_step HB.out hb); clear HB; have HO118 := n0_; have HB := n1_; clear n0_ n1_; clear hb ho4) | ((with_reducible refine gate_builtin (b := .append) (xs := #[.tmp 5, .tmp 6]) rfl ?_); at_builtin; refine Kd.R_append_rows (Kd.int .i64) (w0 := w) w.heap.size rfl (.tmp 5) (.tmp 6) 22 2 (.int .i64 0) 8 rfl Try.underlying22 info2 rfl (by decide) (by omega) v117 ([] : List Int) l0 _ _ _ (fun _ => True) (fun _ => False) rfl rfl ?aO ?aR (fun _ _ h => h) (fun _ h => h.elim) ?aF ?aB ?aS ?aL ?_; (case aR => repeat (first | exact (Kd.C_below HR0.out HB.out) | (with_reducible refine Kd.C_alloc ?_ _) | (with_reducible refine Kd.C_drewN ?_ _) | (with_reducible refine Kd.C_drew ?_))); (case aB => exact (by repeat (first | (with_reducible first | exact HB.out | apply below_alloc | apply pw_below_drewN | apply below_drew1) | exact HB.out))); (case aF => exact (fun _ _ => trivial)); (case aO => exact (by (with_reducible repeat (first | apply Kd.R_alloc | apply Kd.R_drewN | apply Kd.R_drew)); exact HO118.out)); (case aS => exact (below_size (by repeat (first | (with_reducible first | exact HB.out | apply below_alloc | apply pw_below_drewN | apply below_drew1) | exact HB.out)))); (case aL => have := LMc2.out; simp only [List.length_nil]; omega); intro v120 w5 ho hb hg hat; rw [← Ny119.out] at ho; have n0_ := Aside0.mk (hb); have n1_ := Aside0.mk (ho); clear HB; clear HO118; have HB := n0_; have HO121 := n1_; clear n0_ n1_; clear ho hb hg hat))
    go_ret
    have hN := Ny119.out
    rw [List.nil_append] at hN
    subst hN
    exact ⟨_, rfl, HO121.out, HB.out⟩

end Go.Proofs.Ytkbjoiebaphdoaa.PX

/- slices.Clone over whole numbers, in the print's words (conditions: the slice reads as the list; it fits in memory). -/
namespace Go.Proofs.Ytkbjoiebaphdoaa.PX
open Go.RowKit Go.Proofs.YtkbjoiebaphdoaaW.PrintWords Go.Proofs.YtkbjoiebaphdoaaW.PrintLast Go.Proofs.YtkbjoiebaphdoaaW.PrintMore
attribute [local go_sem] max2_int min2_int max_two min_two max_three min_three max_four min_four
set_option linter.unusedVariables false
set_option linter.unusedSimpArgs false
def slices_Clone_int64_int64.f (l0 : List Int) : Option (List Int) := if l0.length < 17592186044416 then some l0 else none
theorem slices_Clone_int64_int64.calls (A0 : Option Addr) (c0 : Nat) (l0 : List Int) (r : List Int) (w : World) (hr0 : Kd.C (Kd.int .i64) w A0 l0.length l0) (hc0 : l0.length ≤ c0) (h : slices_Clone_int64_int64.f l0 = some r) :
    Calls Try.prog 68 #[.slice A0 l0.length c0] w fun e w' => ∃ v0_ : Value, e = .returned (v0_) ∧ Kd.R (Kd.int .i64) 2 w' w.heap.size (fun _ => True) v0_ r ∧ Below w.heap.size w w' := by
  unfold slices_Clone_int64_int64.f at h
  by_cases c : l0.length < 17592186044416
  · rw [if_pos c] at h
    obtain rfl := Option.some.inj h
    exact Clone.calls A0 c0 l0 w hr0 hc0 c
  · rw [if_neg c] at h
    cases h

end Go.Proofs.Ytkbjoiebaphdoaa.PX

/- slices.DeleteFunc over whole numbers, on a slice of the caller's own, for any function value that answers a plain test and leaves memory as it is (conditions: the slice holds xs; each call answers). -/
namespace Go.Proofs.Ytkbjoiebaphdoaa.PX
open Go.RowKit Go.Proofs.YtkbjoiebaphdoaaW.PrintWords Go.Proofs.YtkbjoiebaphdoaaW.PrintLast Go.Proofs.YtkbjoiebaphdoaaW.PrintMore
attribute [local go_sem] max2_int min2_int max_two min_two max_three min_three max_four min_four
set_option linter.unusedVariables false
set_option linter.unusedSimpArgs false
theorem R_zeros {g n c base : Nat} {ok : Nat → Prop} (hbg : base ≤ g) : ∀ (m i : Nat) (W : World) (xs : List Int), Kd.R (Kd.int .i64) 2 W base ok (.slice (some ⟨g, 0, none⟩) n c) xs →
    ∃ ys : List Int, ys.length = xs.length ∧ ys.take i = xs.take i ∧ Kd.R (Kd.int .i64) 2 (W.setCells g i (List.replicate m (.int .i64 0))) base ok (.slice (some ⟨g, 0, none⟩) n c) ys ∧ Below base W (W.setCells g i (List.replicate m (.int .i64 0)))
  | 0, i, W, xs, h => ⟨xs, rfl, rfl, h, Below.refl _ _⟩
  | m + 1, i, W, xs, h => by
    have h1 := (Kd.R_putg h (i : Int) (0 : Int)).1
    rw [Int.toNat_natCast] at h1
    obtain ⟨ys, e1, e2, e3, e4⟩ := R_zeros hbg m (i + 1) _ _ h1
    refine ⟨ys, by rw [e1, List.length_set], ?_, e3, ?_⟩
    · have e5 : ys.take i = (ys.take (i + 1)).take i := by rw [List.take_take, Nat.min_eq_left (by omega)]
      rw [e5, e2, List.take_take, Nat.min_eq_left (by omega), List.take_set_of_le (Nat.le_refl i)]
    · exact Below.trans ((Below.refl base W).setCell hbg _) e4
theorem idxOf_hit {p : Int → Bool} {xs : List Int} (h : ¬ idxOf p xs = -1) : ∃ i : Nat, idxOf p xs = (i : Int) ∧ ∃ x, xs[i]? = some x ∧ p x = true ∧ ∀ j, j < i → ∀ y, xs[j]? = some y → p y = false := by
  unfold idxOf at h ⊢
  cases e : xs.findIdx? p with
  | none => rw [e] at h; exact absurd rfl h
  | some i =>
    rw [List.findIdx?_eq_some_iff_getElem] at e
    obtain ⟨hl, hp, hb⟩ := e
    refine ⟨i, rfl, xs[i], List.getElem?_eq_getElem hl, hp, fun j hj y hy => ?_⟩
    obtain ⟨hl2, e2⟩ := List.getElem?_eq_some_iff.1 hy
    have := hb j hj
    rw [e2] at this
    simpa using this
theorem filter_take_all {p : Int → Bool} {xs : List Int} : ∀ i : Nat, (∀ j, j < i → ∀ y, xs[j]? = some y → p y = false) → (xs.take i).filter (fun x => !p x) = xs.take i := by
  intro i h
  rw [List.filter_eq_self]
  intro x hx
  obtain ⟨j, hj, e⟩ := List.getElem_of_mem hx
  rw [List.length_take] at hj
  have e2 : xs[j]? = some x := by rw [← e, List.getElem_take, List.getElem?_eq_getElem (by omega)]
  rw [h j (by omega) x e2]
  rfl
set_option maxHeartbeats 16000000 in
set_option maxRecDepth 100000 in
theorem DeleteFunc.calls (f : FuncId) (cap : Array Value) (p : Int → Bool) (hF : HasFn f) (base : Nat) (ok : Nat → Prop) (v : Value) (xs : List Int) (w : World) (hb0 : base ≤ w.heap.size)
    (ho : Kd.R (Kd.int .i64) 2 w base ok v xs) (hlen : xs.length < 4611686018427387904)
    (hT : ∀ x ∈ xs, ∀ w1 : World, Below base w w1 → Calls Try.prog f (#[.int .i64 x] ++ cap) w1 fun e w' => e = .returned (.bool (p x)) ∧ Drawn0 w1 w') :
    Calls Try.prog 67 #[v, .func (.func f) #[] cap] w fun e w' => ∃ v' : Value, e = .returned v' ∧ Kd.R (Kd.int .i64) 2 w' base ok v' (xs.filter fun x => !p x) ∧ Below base w w' := by
  have HT := Aside0.mk hT
  have HF := Aside0.mk hF
  have HO := Aside0.mk ho
  have HN := Aside0.mk hlen
  have hTests : Tests f cap p xs w := ⟨hF, fun x hx n => hT x hx _ (by repeat (first | exact Below.refl _ _ | apply pw_below_drewN))⟩
  have HTS := Aside0.mk hTests
  clear hT hF ho hlen hTests
  obtain ⟨A0, c0, e0⟩ := Kd.R_slice HO.out
  subst e0
  by_cases hany : idxOf p xs = -1
  · have hnone : xs.any p = false := by rw [← idxOf_any, hany]; rfl
    have hkeep : xs.filter (fun x => !p x) = xs := by
      rw [List.filter_eq_self]
      intro x hx
      rw [List.any_eq_false] at hnone
      simpa using hnone x hx
    have HI := Aside0.mk hany
    clear hany
    go_enter Try.func67, Try.ntmps67
    go_wp2_with (first | ((with_reducible refine gate_dst (N := 10) rfl ?_); refine goesL_ (some 10) rfl rfl Try.func100 (by kernel_rfl) rfl #[.slice A0 xs.length c0, .func (.func f) #[] cap] rfl (by (try simp only [List.map_toArray, List.map_cons, List.map_nil]); first | done | rfl) ?_; (with_reducible refine (IndexFunc.calls f cap p _ _ xs _ ?side1 ?side2 HTS.out).mono ?_); (case side1 => exact (Kd.R_reads' HO.out).2.2); (case side2 => exact (Kd.R_reads' HO.out).2.1); rw [HI.out]; rintro e w1 ⟨rfl, ⟨nd, rfl⟩⟩; refine ⟨_, rfl, ?_⟩))
    go_ret
    rw [hkeep]
    exact ⟨_, rfl, Kd.R_drewN HO.out _, by repeat (first | exact Below.refl _ _ | apply pw_below_drewN)⟩
  · obtain ⟨i0, hi0, x0, hx0, hpx0, hbef⟩ := idxOf_hit hany
    have hl0 : i0 < xs.length := (List.getElem?_eq_some_iff.1 hx0).1
    have hstart : (xs.take (i0 + 1)).filter (fun x => !p x) = xs.take i0 := by
      rw [List.take_add_one, hx0, List.filter_append, filter_take_all i0 hbef]
      simp [hpx0]
    have hne : ((i0 : Int) == -1) = false := beq_eq_false_iff_ne.2 (by omega)
    have HI := Aside0.mk hi0
    have HS := Aside0.mk hstart
    have HL0 := Aside0.mk hl0
    clear hany hi0 hx0 hpx0 hbef hstart hl0
    obtain ⟨go, co, eo, gb, gl, cl, HG⟩ := Kd.R_form HO.out (by have := HL0.out; omega)
    cases eo
    have GB := Aside0.mk gb
    clear gb gl HG
    go_enter Try.func67, Try.ntmps67
    go_wp2_with (first | ((with_reducible refine gate_dst (N := 10) rfl ?_); refine goesL_ (some 10) rfl rfl Try.func100 (by kernel_rfl) rfl #[.slice (some ⟨go, 0, none⟩) xs.length c0, .func (.func f) #[] cap] rfl (by (try simp only [List.map_toArray, List.map_cons, List.map_nil]); first | done | rfl) ?_; (with_reducible refine (IndexFunc.calls f cap p _ _ xs _ ?side1 ?side2 HTS.out).mono ?_); (case side1 => exact (Kd.R_reads' HO.out).2.2); (case side2 => exact (Kd.R_reads' HO.out).2.1); rw [HI.out]; rintro e w1 ⟨rfl, ⟨nd, hnd⟩⟩; refine ⟨_, rfl, ?_⟩; have n0_ := Aside0.mk (hnd.symm ▸ Kd.R_drewN HO.out nd : Kd.R (Kd.int .i64) 2 w1 base ok (.slice (some ⟨go, 0, none⟩) xs.length c0) xs); have HB := Aside0.mk (hnd.symm ▸ (by repeat (first | exact Below.refl _ _ | apply pw_below_drewN) : Below base w (w.drewN nd)) : Below base w w1); clear HO hnd; have HO := n0_; clear n0_))
    go_loopg [5, 6, 7] xs.length (fun gg s5 s6 _ wr => ∃ (i j : Nat) (ys : List Int), s5 = .int .i64 (i : Int) ∧ s6 = .int .i64 (j : Int) ∧ Aside0 (i < j ∧ j ≤ xs.length ∧ xs.length - j ≤ gg ∧ ys.length = xs.length ∧ ys.take i = (xs.take j).filter (fun x => !p x) ∧ ys.drop j = xs.drop j) ∧ Aside0 (Kd.R (Kd.int .i64) 2 wr base ok (.slice (some ⟨go, 0, none⟩) xs.length c0) ys) ∧ Aside0 (Below base w wr))
    case atStart =>
      have hw_ : wrap64 ((i0 : Int) + 1) = ((i0 + 1 : Nat) : Int) := by have := HL0.out; have := HN.out; unfold wrap64; omega
      exact ⟨i0, i0 + 1, xs, rfl, (by first | (rw [← hw_]; done) | (rw [← hw_]; rfl)), ⟨by omega, by have := HL0.out; omega, by omega, rfl, HS.out.symm, rfl⟩, HO, HB⟩
    case round =>
      clear HO HB HI HS HL0 HTS hne
      obtain ⟨i, j, ys, rfl, rfl, HV, HO, HB⟩ := hrel
      obtain ⟨v1, v2, v3, v4, v5, v6⟩ := HV.out
      by_cases hlt : j < xs.length
      · obtain ⟨x, hx⟩ : ∃ x, xs[j]? = some x := ⟨xs[j], List.getElem?_eq_getElem hlt⟩
        have hyx : ys[j]? = some x := by
          have e1 : (ys.drop j)[0]? = (xs.drop j)[0]? := by rw [v6]
          rw [List.getElem?_drop, List.getElem?_drop] at e1
          simpa [hx] using e1
        have hm : x ∈ xs := List.mem_of_getElem? hx
        have hry : rd ys (j : Int) = x := by unfold rd; rw [Int.toNat_natCast, List.getD_eq_getElem?_getD, hyx]; rfl
        obtain ⟨hxj, hfj⟩ := Kd.R_celln (0 : Int) HO.out (j : Int) (by omega) (by omega)
        rw [show rdOf (0 : Int) ys (j : Int) = x from hry, Int.toNat_natCast] at hxj
        rw [Int.toNat_natCast] at hfj
        have hcall := HT.out x hm wr HB.out
        have hjn : decide ((j : Int) < (xs.length : Int)) = true := decide_eq_true (by omega)
        have pj : (0 ≤ (j : Int)) = True := eq_true (by omega)
        have qj : ((j : Int) < (xs.length : Int)) = True := eq_true (by omega)
        have pi : (0 ≤ (i : Int)) = True := eq_true (by omega)
        have qi : ((i : Int) < (xs.length : Int)) = True := eq_true (by omega)
        cases hp : p x
        · rw [hp] at hcall
          have HC := Aside0.mk hcall
          have HX := Aside0.mk hx
          have HLT := Aside0.mk hlt
          have HP := Aside0.mk hp
          clear hcall hx hyx hm hry v1 v2 v3 v4 v5 v6 hlt hp
          go_wp2_with (first | ((with_reducible refine gate_dst (N := 28) rfl ?_); refine goesV_ (some 28) rfl rfl f cap HF.out #[.int .i64 x] rfl rfl (by (try simp only [List.map_toArray, List.map_cons, List.map_nil]); first | done | rfl) ?_; (with_reducible refine HC.out.mono ?_); rintro e w2 ⟨rfl, ⟨nd, hnd⟩⟩; refine ⟨_, rfl, ?_⟩; have n0_ := Aside0.mk (hnd.symm ▸ Kd.R_drewN HO.out nd : Kd.R (Kd.int .i64) 2 w2 base ok (.slice (some ⟨go, 0, none⟩) xs.length c0) ys); have n1_ := Aside0.mk (hnd.symm ▸ (by repeat (first | exact HB.out | apply pw_below_drewN) : Below base w (wr.drewN nd)) : Below base w w2); clear HO HB hnd hxj hfj; have HO := n0_; have HB := n1_; clear n0_ n1_; obtain ⟨hxi, hfi⟩ := Kd.R_celln (0 : Int) HO.out (i : Int) (by omega) (by have := HV.out; omega); rw [Int.toNat_natCast] at hxi hfi; have HP7 := Kd.R_putg HO.out (i : Int) x; rw [Int.toNat_natCast] at HP7) | ((with_reducible refine gate_store (t := 2) (p := 33) rfl ?_); refine store_event (t := 2) (p := 33) (v := ?vo_w8) (w1 := (w2.setCell ⟨go, i, none⟩ (.int .i64 x))) ?hg ?ho ?hn ?hr ?_; (case ho => rfl); (case hg => rfl); (case hn => rfl); (case hr => first | (go_simp; done) | (go_simp; rfl)); intro w8 hw; have n0_ := Aside0.mk (hw.symm ▸ HP7.1 : Kd.R (Kd.int .i64) 2 w8 base ok (.slice (some ⟨go, 0, none⟩) xs.length c0) (ys.set i x)); have n1_ := Aside0.mk (hw.symm ▸ HB.out.setCell GB.out _ : Below base w w8); clear HP7 HO HB hw hxi hfi; have HO := n0_; have HB := n1_; clear n0_ n1_))
          go_roundg (xs.length - (j + 1))
          case measure => have := HV.out; have := HLT.out; omega
          case rel =>
            have hv := HV.out
            have hlt := HLT.out
            have hn := HN.out
            have hi_ : wrap64 ((i : Int) + 1) = ((i + 1 : Nat) : Int) := by unfold wrap64; omega
            have hj_ : wrap64 ((j : Int) + 1) = ((j + 1 : Nat) : Int) := by unfold wrap64; omega
            refine ⟨i + 1, j + 1, ys.set i x, (by first | (rw [← hi_]; done) | (rw [← hi_]; rfl)), (by first | (rw [← hj_]; done) | (rw [← hj_]; rfl)), ⟨by omega, by omega, by omega, by rw [List.length_set]; omega, ?_, ?_⟩, HO, HB⟩
            · rw [List.take_add_one, List.take_set_of_le (Nat.le_refl i), List.getElem?_set_self (by omega), hv.2.2.2.2.1, List.take_add_one, HX.out, List.filter_append]
              simp [HP.out]
            · rw [List.drop_set_of_lt (by omega), show j + 1 = j + 1 from rfl, ← List.drop_drop, hv.2.2.2.2.2, List.drop_drop]
        · rw [hp] at hcall
          have HC := Aside0.mk hcall
          have HX := Aside0.mk hx
          have HLT := Aside0.mk hlt
          have HP := Aside0.mk hp
          clear hcall hx hyx hm hry v1 v2 v3 v4 v5 v6 hlt hp
          go_wp2_with (first | ((with_reducible refine gate_dst (N := 28) rfl ?_); refine goesV_ (some 28) rfl rfl f cap HF.out #[.int .i64 x] rfl rfl (by (try simp only [List.map_toArray, List.map_cons, List.map_nil]); first | done | rfl) ?_; (with_reducible refine HC.out.mono ?_); rintro e w2 ⟨rfl, ⟨nd, hnd⟩⟩; refine ⟨_, rfl, ?_⟩; have n0_ := Aside0.mk (hnd.symm ▸ Kd.R_drewN HO.out nd : Kd.R (Kd.int .i64) 2 w2 base ok (.slice (some ⟨go, 0, none⟩) xs.length c0) ys); have n1_ := Aside0.mk (hnd.symm ▸ (by repeat (first | exact HB.out | apply pw_below_drewN) : Below base w (wr.drewN nd)) : Below base w w2); clear HO HB hnd hxj hfj; have HO := n0_; have HB := n1_; clear n0_ n1_))
          go_roundg (xs.length - (j + 1))
          case measure => have := HV.out; have := HLT.out; omega
          case rel =>
            have hv := HV.out
            have hlt := HLT.out
            have hn := HN.out
            have hj_ : wrap64 ((j : Int) + 1) = ((j + 1 : Nat) : Int) := by unfold wrap64; omega
            refine ⟨i, j + 1, ys, rfl, (by first | (rw [← hj_]; done) | (rw [← hj_]; rfl)), ⟨by omega, by omega, by omega, by omega, ?_, ?_⟩, HO, HB⟩
            · rw [hv.2.2.2.2.1, List.take_add_one, HX.out, List.filter_append]
              simp [HP.out]
            · rw [← List.drop_drop, hv.2.2.2.2.2, List.drop_drop]
      · have hjn : decide ((j : Int) < (xs.length : Int)) = false := decide_eq_false (by omega)
        have hcl : ∀ ty, (Builtin.clear_ #[22] ty #[.slice (some ⟨go, i, none⟩) (xs.length - i) (c0 - i)]).run Try.prog wr = .ok (.tuple #[]) (wr.setCells go i (List.replicate (xs.length - i) (.int .i64 0))) :=
          fun ty => Go.Lib.run_clear_slice wr _ _ ty _ Try.underlying22 (fun _ => rfl) rfl rfl go i _ _ (by omega)
            (fun t ht => by have h := (Kd.R_celln (0 : Int) HO.out ((i + t : Nat) : Int) (by omega) (by omega)).1; rw [Int.toNat_natCast] at h; rw [h]; rfl)
            (fun t ht => by have h := (Kd.R_celln (0 : Int) HO.out ((i + t : Nat) : Int) (by omega) (by omega)).2; rw [Int.toNat_natCast] at h; exact h)
        obtain ⟨zs, z1, z2, z3, z4⟩ := R_zeros GB.out (xs.length - i) i wr ys HO.out
        have hz : zs.take i = xs.filter (fun x => !p x) := by rw [z2, v5, List.take_of_length_le (by omega)]
        have Z3 := Aside0.mk z3
        have Z4 := Aside0.mk z4
        have HZ := Aside0.mk hz
        have Z1 := Aside0.mk z1
        have hi0 : (0 ≤ (i : Int)) = True := eq_true (by omega)
        have hin : i ≤ xs.length := by omega
        have hcap := (Kd.R_reads' HO.out).2.1
        have hic : i ≤ c0 := by omega
        have hnc : ¬ (c0 = i) := by omega
        have hnc2 : ¬ (i = c0) := by omega
        have hnc3 : ¬ (c0 - i = 0) := by omega
        have hnl : ¬ (xs.length = i) := by omega
        clear z1 z2 z3 z4 hz v1 v2 v3 v4 v5 v6
        go_wp2
        go_ret
        rw [← HZ.out]
        exact ⟨_, rfl, Kd.R_take Z3.out (by have := Z1.out; have := HV.out; omega), HB.out.trans Z4.out⟩

end Go.Proofs.Ytkbjoiebaphdoaa.PX

/- slices.Compact over whole numbers, on a slice of the caller's own (condition: the slice holds xs). -/
namespace Go.Proofs.Ytkbjoiebaphdoaa.PX
open Go.RowKit Go.Proofs.YtkbjoiebaphdoaaW.PrintWords Go.Proofs.YtkbjoiebaphdoaaW.PrintLast Go.Proofs.YtkbjoiebaphdoaaW.PrintMore
attribute [local go_sem] max2_int min2_int max_two min_two max_three min_three max_four min_four
set_option linter.unusedVariables false
set_option linter.unusedSimpArgs false
def keepAt (xs : List Int) (m : Nat) : Bool := decide (m = 0) || !(xs.getD m 0 == xs.getD (m - 1) 0)
def uniqTo (xs : List Int) : Nat → List Int
  | 0 => []
  | m + 1 => uniqTo xs m ++ (if keepAt xs m = true then [xs.getD m 0] else [])
def uniq (xs : List Int) : List Int := uniqTo xs xs.length
theorem uniqTo_keep {xs : List Int} {m : Nat} {x : Int} (hx : xs[m]? = some x) (h : keepAt xs m = true) : uniqTo xs (m + 1) = uniqTo xs m ++ [x] := by
  rw [uniqTo, if_pos h, List.getD_eq_getElem?_getD, hx]; rfl
theorem uniqTo_skip {xs : List Int} {m : Nat} (h : keepAt xs m = false) : uniqTo xs (m + 1) = uniqTo xs m := by
  rw [uniqTo, if_neg (by rw [h]; decide), List.append_nil]
theorem keepAt_eq {xs : List Int} {m : Nat} {x y : Int} (h0 : 0 < m) (hx : xs[m]? = some x) (hy : xs[m - 1]? = some y) : keepAt xs m = !(x == y) := by
  unfold keepAt
  rw [decide_eq_false (by omega), Bool.false_or, List.getD_eq_getElem?_getD, List.getD_eq_getElem?_getD, hx, hy]; rfl
set_option maxHeartbeats 16000000 in
set_option maxRecDepth 100000 in
theorem Compact.calls (base : Nat) (ok : Nat → Prop) (v : Value) (xs : List Int) (w : World) (hb0 : base ≤ w.heap.size)
    (ho : Kd.R (Kd.int .i64) 2 w base ok v xs) (hlen : xs.length < 4611686018427387904) :
    Calls Try.prog 106 #[v] w fun e w' => ∃ v' : Value, e = .returned v' ∧ Kd.R (Kd.int .i64) 2 w' base ok v' (uniq xs) ∧ Below base w w' := by
  have HO := Aside0.mk ho
  have HN := Aside0.mk hlen
  clear ho hlen
  obtain ⟨A0, c0, e0⟩ := Kd.R_slice HO.out
  subst e0
  by_cases hsmall : xs.length < 2
  · have hkeep : uniq xs = xs := by
      match xs, hsmall with
      | [], _ => rfl
      | [a], _ => rfl
    have hs : decide ((xs.length : Int) < 2) = true := decide_eq_true (by omega)
    clear hsmall
    go_enter Try.func106, Try.ntmps106
    go_wp2
    go_ret
    rw [hkeep]
    exact ⟨_, rfl, by (with_reducible repeat (first | apply Kd.R_alloc | apply Kd.R_drewN | apply Kd.R_drew)); exact HO.out, by repeat (first | exact Below.refl _ _ | apply pw_below_drewN | apply below_drew)⟩
  · have hs : decide ((xs.length : Int) < 2) = false := decide_eq_false (by omega)
    have HL := Aside0.mk (show 2 ≤ xs.length by omega)
    clear hsmall
    obtain ⟨go, co, eo, gb, gl, cl, HG⟩ := Kd.R_form HO.out (by have := HL.out; omega)
    cases eo
    have GB := Aside0.mk gb
    clear gb gl HG
    have HB := Aside0.mk (Below.refl base w)
    go_enter Try.func106, Try.ntmps106
    go_wp2
    go_loopg [3] xs.length (fun gg s3 wr => ∃ k : Nat, s3 = .int .i64 (k : Int) ∧ Aside0 (1 ≤ k ∧ k ≤ xs.length ∧ xs.length - k ≤ gg ∧ uniqTo xs k = xs.take k) ∧ Aside0 (Kd.R (Kd.int .i64) 2 wr base ok (.slice (some ⟨go, 0, none⟩) xs.length c0) xs) ∧ Aside0 (Below base w wr))
    case atStart =>
      refine ⟨1, rfl, ⟨by omega, by have := HL.out; omega, by omega, ?_⟩, ⟨by (with_reducible repeat (first | apply Kd.R_alloc | apply Kd.R_drewN | apply Kd.R_drew)); exact HO.out⟩, ⟨by repeat (first | exact HB.out | apply pw_below_drewN | apply below_drew)⟩⟩
      obtain ⟨a, ha⟩ : ∃ a, xs[0]? = some a := ⟨xs[0]'(by have := HL.out; omega), List.getElem?_eq_getElem _⟩
      rw [uniqTo_keep ha rfl, List.take_add_one, ha]; rfl
    case round =>
      clear HO HB hs
      obtain ⟨k, rfl, HV, HO, HB⟩ := hrel
      obtain ⟨v1, v2, v3, v4⟩ := HV.out
      by_cases hlt : k < xs.length
      · obtain ⟨x, hx⟩ : ∃ x, xs[k]? = some x := ⟨xs[k], List.getElem?_eq_getElem hlt⟩
        obtain ⟨y, hy⟩ : ∃ y, xs[k - 1]? = some y := ⟨xs[k - 1], List.getElem?_eq_getElem (by omega)⟩
        have hke := keepAt_eq v1 hx hy
        obtain ⟨hxk, _⟩ := Kd.R_celln (0 : Int) HO.out (k : Int) (by omega) (by omega)
        obtain ⟨hyk, _⟩ := Kd.R_celln (0 : Int) HO.out ((k - 1 : Nat) : Int) (by omega) (by omega)
        rw [show rdOf (0 : Int) xs (k : Int) = x by unfold rdOf; rw [Int.toNat_natCast, List.getD_eq_getElem?_getD, hx]; rfl, Int.toNat_natCast] at hxk
        rw [show rdOf (0 : Int) xs ((k - 1 : Nat) : Int) = y by unfold rdOf; rw [Int.toNat_natCast, List.getD_eq_getElem?_getD, hy]; rfl, Int.toNat_natCast] at hyk
        have hjn : decide ((k : Int) < (xs.length : Int)) = true := decide_eq_true (by omega)
        have pj : (0 ≤ (k : Int)) = True := eq_true (by omega)
        have qj : ((k : Int) < (xs.length : Int)) = True := eq_true (by omega)
        have hm : wrap64 ((k : Int) - 1) = ((k - 1 : Nat) : Int) := by have := HN.out; unfold wrap64; omega
        have hmw : IntKind.i64.wrap ((k : Int) - 1) = ((k - 1 : Nat) : Int) := (i64_w _).trans hm
        have pi : (0 ≤ ((k - 1 : Nat) : Int)) = True := eq_true (by omega)
        have qi : (((k - 1 : Nat) : Int) < (xs.length : Int)) = True := eq_true (by omega)
        have HX := Aside0.mk hx
        have HKE := Aside0.mk hke
        have HLT := Aside0.mk hlt
        clear hx hy hke hlt v1 v2 v3 v4
        cases hp : (x == y)
        · go_wp2
          repeat (go_quiet (fail); try go_wp2)
          go_roundg (xs.length - (k + 1))
          case measure => have := HV.out; have := HLT.out; omega
          case rel =>
            have hv := HV.out
            have hlt := HLT.out
            have hn := HN.out
            have hj_ : wrap64 ((k : Int) + 1) = ((k + 1 : Nat) : Int) := by unfold wrap64; omega
            refine ⟨k + 1, (by first | (rw [← hj_]; done) | (rw [← hj_]; rfl)), ⟨by omega, by omega, by omega, ?_⟩, ⟨by (with_reducible repeat (first | apply Kd.R_alloc | apply Kd.R_drewN | apply Kd.R_drew)); exact HO.out⟩, ⟨by repeat (first | exact HB.out | apply pw_below_drewN | apply below_drew)⟩⟩
            rw [uniqTo_keep HX.out (by rw [HKE.out, hp]; rfl), hv.2.2.2, List.take_add_one, HX.out]; rfl
        · have HP := Aside0.mk hp
          have hv := HV.out
          have hcap := (Kd.R_reads' HO.out).2.1
          have hkl := HLT.out
          have hkc : k ≤ c0 := by omega
          have hnc : ¬ (c0 = k) := by omega
          have hnc2 : ¬ (k = c0) := by omega
          have hnc3 : ¬ (c0 - k = 0) := by omega
          have hnl : ¬ (xs.length = k) := by omega
          have hkl2 : k ≤ xs.length := by omega
          clear hv
          go_wp2
          repeat (go_quiet (fail); try go_wp2)
          have HO2 : Aside0 (Kd.R (Kd.int .i64) 2 wr base ok (.slice (some ⟨go, 0, none⟩) xs.length c0) xs) := HO
          go_loopg [3, 5] xs.length (fun gg s3 s5 wq => ∃ (i j : Nat) (ys : List Int), s3 = .int .i64 (i : Int) ∧ s5 = .int .i64 (j : Int) ∧ Aside0 (1 ≤ j ∧ k + j ≤ xs.length ∧ xs.length - (k + j) ≤ gg ∧ i < k + j ∧ ys.length = xs.length ∧ ys.take i = uniqTo xs (k + j) ∧ ∀ m, k + j ≤ m + 1 → ys[m]? = xs[m]?) ∧ Aside0 (Kd.R (Kd.int .i64) 2 wq base ok (.slice (some ⟨go, 0, none⟩) xs.length c0) ys) ∧ Aside0 (Below base w wq))
          case atStart =>
            have hv := HV.out
            refine ⟨k, 1, xs, rfl, rfl, ⟨by omega, by omega, by omega, by omega, rfl, ?_, fun _ _ => rfl⟩, ⟨by (with_reducible repeat (first | apply Kd.R_alloc | apply Kd.R_drewN | apply Kd.R_drew)); exact HO.out⟩, ⟨by repeat (first | exact HB.out | apply pw_below_drewN | apply below_drew)⟩⟩
            rw [uniqTo_skip (by rw [HKE.out, HP.out]; rfl), hv.2.2.2]
          case round =>
            clear HO HB hxk hyk hjn pj qj pi qi hm hmw hnc hnc2 hnc3 hnl
            have HK := Aside0.mk (And.intro hkl2 hkc)
            clear hkl2 hkc hcap hkl
            obtain ⟨i, j, ys, rfl, rfl, HV2, HO, HB⟩ := hrel
            obtain ⟨v1, v2, v3, v4, v5, v6, v7⟩ := HV2.out
            have hkk := HK.out
            by_cases hlt : k + j < xs.length
            · obtain ⟨x2, hx⟩ : ∃ x, xs[k + j]? = some x := ⟨xs[k + j], List.getElem?_eq_getElem hlt⟩
              obtain ⟨y2, hy⟩ : ∃ y, xs[k + j - 1]? = some y := ⟨xs[k + j - 1], List.getElem?_eq_getElem (by omega)⟩
              have hke := keepAt_eq (by omega) hx hy
              have hyx : ys[k + j]? = some x2 := (v7 _ (by omega)).trans hx
              have hyy : ys[k + j - 1]? = some y2 := (v7 _ (by omega)).trans hy
              obtain ⟨hxk, hfk⟩ := Kd.R_celln (0 : Int) HO.out ((k + j : Nat) : Int) (by omega) (by omega)
              obtain ⟨hyk, _⟩ := Kd.R_celln (0 : Int) HO.out ((k + j - 1 : Nat) : Int) (by omega) (by omega)
              rw [show rdOf (0 : Int) ys ((k + j : Nat) : Int) = x2 by unfold rdOf; rw [Int.toNat_natCast, List.getD_eq_getElem?_getD, hyx]; rfl, Int.toNat_natCast] at hxk
              rw [show rdOf (0 : Int) ys ((k + j - 1 : Nat) : Int) = y2 by unfold rdOf; rw [Int.toNat_natCast, List.getD_eq_getElem?_getD, hyy]; rfl, Int.toNat_natCast, show k + j - 1 = k + (j - 1) by omega] at hyk
              have hjn : decide ((j : Int) < ((xs.length - k : Nat) : Int)) = true := decide_eq_true (by omega)
              have hjn2 : decide (j < xs.length - k) = true := decide_eq_true (by omega)
              have pj : (0 ≤ (j : Int)) = True := eq_true (by omega)
              have qj : ((j : Int) < ((xs.length - k : Nat) : Int)) = True := eq_true (by omega)
              have qj2 : (j < xs.length - k) = True := eq_true (by omega)
              have hm : wrap64 ((j : Int) - 1) = ((j - 1 : Nat) : Int) := by have := HN.out; unfold wrap64; omega
              have hmw : IntKind.i64.wrap ((j : Int) - 1) = ((j - 1 : Nat) : Int) := (i64_w _).trans hm
              have pi : (0 ≤ ((j - 1 : Nat) : Int)) = True := eq_true (by omega)
              have qi : (((j - 1 : Nat) : Int) < ((xs.length - k : Nat) : Int)) = True := eq_true (by omega)
              have qi2 : (j - 1 < xs.length - k) = True := eq_true (by omega)
              have ri : (0 ≤ (i : Int)) = True := eq_true (by omega)
              have ri2 : ((i : Int) < (xs.length : Int)) = True := eq_true (by omega)
              have HX2 := Aside0.mk hx
              have HKE2 := Aside0.mk hke
              have HLT2 := Aside0.mk hlt
              clear hx hy hke hyx hyy hlt hkk v1 v2 v3 v4 v5 v6 v7
              cases hp2 : (x2 == y2)
              · have hne2 : (x2 != y2) = true := by show (!(x2 == y2)) = true; rw [hp2]; rfl
                go_wp2
                go_quiet (fail)
                have n0_ := Aside0.mk (Kd.R_drewN HO.out nq)
                have n1_ := Aside0.mk (pw_below_drewN HB.out nq)
                clear HO HB hxk hfk hyk
                have HO := n0_
                have HB := n1_
                clear n0_ n1_
                generalize wr.drewN nq = w7 at HO HB ⊢
                obtain ⟨hxk, _⟩ := Kd.R_celln (0 : Int) HO.out ((k + j : Nat) : Int) (by omega) (by have := HLT2.out; have := HV2.out; omega)
                have hyx2 : ys[k + j]? = some x2 := (HV2.out.2.2.2.2.2.2 _ (by omega)).trans HX2.out
                rw [show rdOf (0 : Int) ys ((k + j : Nat) : Int) = x2 by unfold rdOf; rw [Int.toNat_natCast, List.getD_eq_getElem?_getD, hyx2]; rfl, Int.toNat_natCast] at hxk
                obtain ⟨hxi, hfi⟩ := Kd.R_celln (0 : Int) HO.out (i : Int) (by omega) (by have := HV2.out; omega)
                rw [Int.toNat_natCast] at hxi hfi
                have HP7 := Kd.R_putg HO.out (i : Int) x2
                rw [Int.toNat_natCast] at HP7
                clear hyx2
                go_wp2_with (first | ((with_reducible refine gate_store (t := 2) (p := 51) rfl ?_); refine store_event (t := 2) (p := 51) (v := ?vo_w8) (w1 := (w7.setCell ⟨go, i, none⟩ (.int .i64 x2))) ?hg ?ho ?hn ?hr ?_; (case ho => rfl); (case hg => rfl); (case hn => rfl); (case hr => first | (go_simp; done) | (go_simp; rfl)); intro w8 hw; have n0_ := Aside0.mk (hw.symm ▸ HP7.1 : Kd.R (Kd.int .i64) 2 w8 base ok (.slice (some ⟨go, 0, none⟩) xs.length c0) (ys.set i x2)); have n1_ := Aside0.mk (hw.symm ▸ HB.out.setCell GB.out _ : Below base w w8); clear HP7 HO HB hw hxi hfi hxk; have HO := n0_; have HB := n1_; clear n0_ n1_))
                go_roundg (xs.length - (k + (j + 1)))
                case measure => have := HV2.out; have := HLT2.out; omega
                case rel =>
                  have hv := HV2.out
                  have hlt := HLT2.out
                  have hn := HN.out
                  have hi_ : wrap64 ((i : Int) + 1) = ((i + 1 : Nat) : Int) := by unfold wrap64; omega
                  have hj_ : wrap64 ((j : Int) + 1) = ((j + 1 : Nat) : Int) := by unfold wrap64; omega
                  refine ⟨i + 1, j + 1, ys.set i x2, (by first | (rw [← hi_]; done) | (rw [← hi_]; rfl)), (by first | (rw [← hj_]; done) | (rw [← hj_]; rfl)), ⟨Nat.le_add_left 1 j, hlt, Nat.le_refl _, Nat.succ_lt_succ hv.2.2.2.1, (List.length_set ..).trans hv.2.2.2.2.1, ?_, ?_⟩, HO, HB⟩
                  · rw [List.take_add_one, List.take_set_of_le (Nat.le_refl i), List.getElem?_set_self (by rw [hv.2.2.2.2.1]; exact Nat.lt_trans hv.2.2.2.1 hlt), hv.2.2.2.2.2.1, ← Nat.add_assoc, uniqTo_keep HX2.out (by rw [HKE2.out, hp2]; rfl)]; rfl
                  · intro m hm
                    have h4 := hv.2.2.2.1
                    have h7 := hv.2.2.2.2.2.2
                    clear hv hn hi_ hj_ HV2 HV HX2 HX HKE HKE2 HLT HLT2
                    rw [List.getElem?_set_ne (fun e => by subst e; exact absurd (Nat.le_of_succ_le_succ hm) (Nat.not_le_of_lt h4))]
                    exact h7 m (Nat.le_trans (Nat.le_succ _) hm)
              · have hne2 : (x2 != y2) = false := by show (!(x2 == y2)) = false; rw [hp2]; rfl
                go_wp2
                go_quiet (fail)
                go_wp2
                go_roundg (xs.length - (k + (j + 1)))
                case measure => have := HV2.out; have := HLT2.out; omega
                case rel =>
                  have hv := HV2.out
                  have hlt := HLT2.out
                  have hn := HN.out
                  have hj_ : wrap64 ((j : Int) + 1) = ((j + 1 : Nat) : Int) := by unfold wrap64; omega
                  refine ⟨i, j + 1, ys, rfl, (by first | (rw [← hj_]; done) | (rw [← hj_]; rfl)), ⟨Nat.le_add_left 1 j, hlt, Nat.le_refl _, Nat.lt_succ_of_lt hv.2.2.2.1, hv.2.2.2.2.1, ?_, ?_⟩, ⟨by (with_reducible repeat (first | apply Kd.R_alloc | apply Kd.R_drewN | apply Kd.R_drew)); exact HO.out⟩, ⟨by repeat (first | exact HB.out | apply pw_below_drewN | apply below_drew)⟩⟩
                  · rw [← Nat.add_assoc, uniqTo_skip (by rw [HKE2.out, hp2]; rfl), hv.2.2.2.2.2.1]
                  · exact fun m hm => hv.2.2.2.2.2.2 m (Nat.le_trans (Nat.le_succ _) hm)
            · have hij : k + j = xs.length := by omega
              have hil : i < xs.length := by omega
              have hjn : decide ((j : Int) < ((xs.length - k : Nat) : Int)) = false := decide_eq_false (by omega)
              have hjn2 : decide (j < xs.length - k) = false := decide_eq_false (by omega)
              have hcap := (Kd.R_reads' HO.out).2.1
              have hcl : ∀ ty, (Builtin.clear_ #[22] ty #[.slice (some ⟨go, i, none⟩) (xs.length - i) (c0 - i)]).run Try.prog wr = .ok (.tuple #[]) (wr.setCells go i (List.replicate (xs.length - i) (.int .i64 0))) :=
                fun ty => Go.Lib.run_clear_slice wr _ _ ty _ Try.underlying22 (fun _ => rfl) rfl rfl go i _ _ (by omega)
                  (fun t ht => by have h := (Kd.R_celln (0 : Int) HO.out ((i + t : Nat) : Int) (by omega) (by omega)).1; rw [Int.toNat_natCast] at h; rw [h]; rfl)
                  (fun t ht => by have h := (Kd.R_celln (0 : Int) HO.out ((i + t : Nat) : Int) (by omega) (by omega)).2; rw [Int.toNat_natCast] at h; exact h)
              obtain ⟨zs, z1, z2, z3, z4⟩ := R_zeros GB.out (xs.length - i) i wr ys HO.out
              have hz : zs.take i = uniq xs := by rw [z2, v6, hij]; rfl
              have Z3 := Aside0.mk z3
              have Z4 := Aside0.mk z4
              have HZ := Aside0.mk hz
              have Z1 := Aside0.mk z1
              have hi0 : (0 ≤ (i : Int)) = True := eq_true (by omega)
              have hin : i ≤ xs.length := by omega
              have hic : i ≤ c0 := by omega
              have hnc : ¬ (c0 = i) := by omega
              have hnc2 : ¬ (i = c0) := by omega
              have hnc3 : ¬ (c0 - i = 0) := by omega
              have hnl : ¬ (xs.length = i) := by omega
              have HIL := Aside0.mk hil
              clear z1 z2 z3 z4 hz v1 v2 v3 v4 v5 v6 v7 hkk hlt hij hil
              go_wp2
              go_ret
              rw [← HZ.out]
              exact ⟨_, rfl, Kd.R_take Z3.out (by have := Z1.out; have := HIL.out; have := HV2.out; omega), HB.out.trans Z4.out⟩
      · have hjn : decide ((k : Int) < (xs.length : Int)) = false := decide_eq_false (by omega)
        have hjn2 : decide (k < xs.length) = false := decide_eq_false hlt
        have hkeep : uniq xs = xs := by unfold uniq; rw [show xs.length = k by omega, v4, List.take_of_length_le (by omega)]
        clear v1 v2 v3 v4 hlt
        go_wp2
        repeat (go_quiet (fail); try go_wp2)
        go_ret
        rw [hkeep]
        exact ⟨_, rfl, by (with_reducible repeat (first | apply Kd.R_alloc | apply Kd.R_drewN | apply Kd.R_drew)); exact HO.out, by repeat (first | exact HB.out | apply pw_below_drewN | apply below_drew)⟩

end Go.Proofs.Ytkbjoiebaphdoaa.PX

/- slices.Compact over whole numbers: what it leaves (condition: the list fits in memory). -/
namespace Go.Proofs.Ytkbjoiebaphdoaa.PX
open Go.RowKit Go.Proofs.YtkbjoiebaphdoaaW.PrintWords Go.Proofs.YtkbjoiebaphdoaaW.PrintLast Go.Proofs.YtkbjoiebaphdoaaW.PrintMore
attribute [local go_sem] max2_int min2_int max_two min_two max_three min_three max_four min_four
set_option linter.unusedVariables false
set_option linter.unusedSimpArgs false
def slices_Compact_int64_int64.f (l0 : List Int) : Option (List Int) := if l0.length < 4611686018427387904 then some (uniq l0) else none
theorem compact_f {l0 r : List Int} (h : slices_Compact_int64_int64.f l0 = some r) : r = uniq l0 ∧ l0.length < 4611686018427387904 := by
  unfold slices_Compact_int64_int64.f at h
  by_cases c : l0.length < 4611686018427387904
  · rw [if_pos c] at h
    exact ⟨(Option.some.inj h).symm, c⟩
  · rw [if_neg c] at h
    cases h

end Go.Proofs.Ytkbjoiebaphdoaa.PX

namespace Go.Proofs.Ytkbjoiebaphdoaa.PX
open Go.RowKit Go.Proofs.YtkbjoiebaphdoaaW.PrintWords Go.Proofs.YtkbjoiebaphdoaaW.PrintLast Go.Proofs.YtkbjoiebaphdoaaW.PrintMore
attribute [local go_sem] max2_int min2_int max_two min_two max_three min_three max_four min_four   -- for this text's walks alone
set_option linter.unusedVariables false
set_option linter.unusedSimpArgs false

attribute [local go_sem high] eqA75
/-! ### impl_Ending_openings: function 79 -/
mutual
def impl_Ending_openings.l0 : Nat → List (S75) → List Int → Int → Int → List Int → List Int → Option ((List (S75)))
 | 0, _, _, _, _, _, _ => none
 | k + 1, x3, x12, x13, x14, x200000, x200001 => if x14 < x13 then (if 0 ≤ x14 then (if x14 < (x12.length : Int) then (if x3.length < 8796093022208 then (impl_Ending_openings.l0 k (x3 ++ [(⟨false, rd x12 x14⟩ : S75)]) x12 x13 (wrap64 (x14 + 1)) x200000 x200001) else (none)) else (none)) else (none)) else ((slices_Clone_int64_int64.f x200001).bind fun t213 => ((slices_Compact_int64_int64.f t213).bind fun t216 => (impl_Ending_openings.l1 k x3 t216 (t216.length : Int) 0)))
def impl_Ending_openings.l1 : Nat → List (S75) → List Int → Int → Int → Option ((List (S75)))
 | 0, _, _, _, _ => none
 | k + 1, x3, x27, x28, x29 => if x29 < x28 then (if 0 ≤ x29 then (if x29 < (x27.length : Int) then (if x3.length < 8796093022208 then (impl_Ending_openings.l1 k (x3 ++ [(⟨true, rd x27 x29⟩ : S75)]) x27 x28 (wrap64 (x29 + 1))) else (none)) else (none)) else (none)) else (some x3)
end
def impl_Ending_openings.f (k : Nat) (l0_0 : List Int) (l0_1 : List Int) : Option ((List (S75))) := (slices_Clone_int64_int64.f l0_0).bind fun t203 => ((slices_Compact_int64_int64.f t203).bind fun t206 => (impl_Ending_openings.l0 k (([] : List (S75))) t206 (t206.length : Int) 0 l0_0 l0_1))
theorem impl_Ending_openings.mono_l : ∀ k, (∀ y0 y1 y2 y3 y4 y5, LeO (impl_Ending_openings.l0 k y0 y1 y2 y3 y4 y5) (impl_Ending_openings.l0 (k + 1) y0 y1 y2 y3 y4 y5)) ∧ (∀ y0 y1 y2 y3, LeO (impl_Ending_openings.l1 k y0 y1 y2 y3) (impl_Ending_openings.l1 (k + 1) y0 y1 y2 y3))
 | 0 => ⟨fun _ _ _ _ _ _ r h => by simp [impl_Ending_openings.l0] at h, fun _ _ _ _ r h => by simp [impl_Ending_openings.l1] at h⟩
 | k + 1 => by
  obtain ⟨ih0, ih1⟩ := impl_Ending_openings.mono_l k
  refine ⟨?_, ?_⟩
  ·intro y0 y1 y2 y3 y4 y5
   unfold impl_Ending_openings.l0
   repeat' first
   | (with_reducible exact ih0 _ _ _ _ _ _)
   | (with_reducible exact ih1 _ _ _ _)
   | (with_reducible exact LeO.refl _)
   | (with_reducible exact LeO.none _)
   | (with_reducible refine LeO.ite ?_ ?_)
   | (with_reducible refine LeO.bind ?_ (fun _ => ?_))
   | exact ih0 _ _ _ _ _ _
   | exact ih1 _ _ _ _
   | exact LeO.none _
   | refine LeO.ite ?_ ?_
   | refine LeO.bind ?_ (fun _ => ?_)
  ·intro y0 y1 y2 y3
   unfold impl_Ending_openings.l1
   repeat' first
   | (with_reducible exact ih0 _ _ _ _ _ _)
   | (with_reducible exact ih1 _ _ _ _)
   | (with_reducible exact LeO.refl _)
   | (with_reducible exact LeO.none _)
   | (with_reducible refine LeO.ite ?_ ?_)
   | (with_reducible refine LeO.bind ?_ (fun _ => ?_))
   | exact ih0 _ _ _ _ _ _
   | exact ih1 _ _ _ _
   | exact LeO.none _
   | refine LeO.ite ?_ ?_
   | refine LeO.bind ?_ (fun _ => ?_)
theorem impl_Ending_openings.mono : ∀ a0 a1 k, LeO (impl_Ending_openings.f k a0 a1) (impl_Ending_openings.f (k + 1) a0 a1) := by
 intro a0 a1 k
 obtain ⟨ih0, ih1⟩ := impl_Ending_openings.mono_l k
 unfold impl_Ending_openings.f
 repeat' first
   | (with_reducible exact ih0 _ _ _ _ _ _)
   | (with_reducible exact ih1 _ _ _ _)
   | (with_reducible exact LeO.refl _)
   | (with_reducible exact LeO.none _)
   | (with_reducible refine LeO.ite ?_ ?_)
   | (with_reducible refine LeO.bind ?_ (fun _ => ?_))
   | exact ih0 _ _ _ _ _ _
   | exact ih1 _ _ _ _
   | exact LeO.none _
   | refine LeO.ite ?_ ?_
   | refine LeO.bind ?_ (fun _ => ?_)
set_option maxHeartbeats 8000000 in
set_option maxRecDepth 100000 in
theorem impl_Ending_openings.calls (k : Nat) (A0_0 : Option Addr) (c0_0 : Nat) (l0_0 : List Int) (A0_1 : Option Addr) (c0_1 : Nat) (l0_1 : List Int) (r : List (S75)) (w : World) (hr0_0 : Kd.C (Kd.int .i64) w A0_0 l0_0.length l0_0) (hc0_0 : l0_0.length ≤ c0_0) (hr0_1 : Kd.C (Kd.int .i64) w A0_1 l0_1.length l0_1) (hc0_1 : l0_1.length ≤ c0_1) (h : impl_Ending_openings.f k l0_0 l0_1 = some r) :
  Calls Try.prog 79 #[.agg #[.slice A0_0 l0_0.length c0_0, .slice A0_1 l0_1.length c0_1]] w fun e w' => ∃ v0_ : Value, e = .returned (v0_) ∧ Kd.R k75 75 w' w.heap.size (fun _ => True) v0_ r ∧ Below w.heap.size w w' := by
 have hu27 := Try.underlying27
 have hu75 := Try.underlying75
 have HR0_0 := Aside0.mk hr0_0
 have HC0_0 := Aside0.mk hc0_0
 clear hr0_0 hc0_0
 have HR0_1 := Aside0.mk hr0_1
 have HC0_1 := Aside0.mk hc0_1
 clear hr0_1 hc0_1
 have HB := Aside0.mk (Below.refl w.heap.size w)
 have H : ((slices_Clone_int64_int64.f l0_0).bind fun t203 => ((slices_Compact_int64_int64.f t203).bind fun t206 => (impl_Ending_openings.l0 k (([] : List (S75))) t206 (t206.length : Int) 0 l0_0 l0_1))) = some r := h
 clear h
 obtain ⟨y200, hy200⟩ : ∃ y_ : List (S75), y_ = (([] : List (S75))) := ⟨_, rfl⟩
 replace H : ((slices_Clone_int64_int64.f l0_0).bind fun t203 => ((slices_Compact_int64_int64.f t203).bind fun t206 => (impl_Ending_openings.l0 k y200 t206 (t206.length : Int) 0 l0_0 l0_1))) = some r := by first | (rw [hy200]; with_reducible exact H) | (have H2_ := (Option.bind_some _ _).symm.trans H; rw [hy200]; with_reducible exact H2_) | (have H2_ := (Option.bind_some _ _).symm.trans H; with_reducible exact H2_) | with_reducible exact H | (rw [hy200]; exact H) | exact H
 have Ny200 := Aside0.mk hy200
 clear hy200
 replace H := Option.bind_eq_some_iff.mp H
 obtain ⟨t203, A20, H⟩ := H
 replace H : ((slices_Compact_int64_int64.f t203).bind fun t206 => (impl_Ending_openings.l0 k y200 t206 (t206.length : Int) 0 l0_0 l0_1)) = some r := H
 have A2 := Aside0.mk A20
 clear A20
 replace H := Option.bind_eq_some_iff.mp H
 obtain ⟨t206, A30, H⟩ := H
 replace H : (impl_Ending_openings.l0 k y200 t206 (t206.length : Int) 0 l0_0 l0_1) = some r := H
 have A3 := Aside0.mk A30
 clear A30
 have H' := Aside0.mk H
 clear H
 go_enter Try.func79, Try.ntmps79
 go_wp2_with (first | ((with_reducible refine gate_dst (N := 1) rfl ?_); refine box_event ?hg (N := 1) ?hd (cs := #[.slice A0_0 l0_0.length c0_0, .slice A0_1 l0_1.length c0_1]) (t := 27) ?hr ?_; (case hd => rfl); (case hg => rfl); (case hr => first | (go_simp; done) | (go_simp; rfl)); intro gb199 hg w4 hbox hb; have n0_ := Aside0.mk (below_step HB.out hb); have n1_ := Aside0.mk (hbox); have n2_ := Aside0.mk ((by rw [hg]; exact (below_size HB.out) : w.heap.size ≤ gb199)); have n3_ := Aside0.mk ((by rw [hg]; exact (below_size HB.out) : w.heap.size ≤ gb199)); clear HB; have HB := n0_; have BK199 := n1_; have GW199 := n2_; have GE199 := n3_; clear n0_ n1_ n2_ n3_; clear hb hbox hg) | ((with_reducible refine gate_dst (N := 8) rfl ?_); refine Kd.R_lit k75 _ 75 ?hg (N := 8) ?hd (xs := ([] : List (S75))) (inner := []) (ok := fun _ => True) (okp := fun _ => True) ?hr ?hp (fun _ hk => hk) trivial (Below.refl _ _) (Nat.le_refl _) (by simp) ?_; (case hd => rfl); (case hg => rfl); (case hr => first | (go_simp; done) | (go_simp; rfl)); (case hp => exact (Reps.none _ _)); intro v201 w5 ho6 hb hg_ hnew_; clear hg_ hnew_; (first | rw [← Ny200.out] at ho6 | (simp only [Int.reduceToNat] at ho6; rw [← Ny200.out] at ho6)); have n0_ := Aside0.mk (Kd.R_lower ho6 (below_size HB.out)); have n1_ := Aside0.mk (blk_below (g := gb199) (o := .cells #[.slice A0_0 l0_0.length c0_0, .slice A0_1 l0_1.length c0_1] 27 (0, 0)) BK199.out hb); have n2_ := Aside0.mk (below_step HB.out hb); clear BK199; clear HB; have HO202 := n0_; have BK199 := n1_; have HB := n2_; clear n0_ n1_ n2_; clear hb ho6; have hcz7_0 : w5.cell? ⟨gb199, 0, none⟩ = some (.slice A0_0 l0_0.length c0_0) := (blk_cell BK199.out 0).trans rfl; have hcz7_1 : w5.cell? ⟨gb199, 1, none⟩ = some (.slice A0_1 l0_1.length c0_1) := (blk_cell BK199.out 1).trans rfl; have hfz7_0 := blk_frozen BK199.out 0; have hfz7_1 := blk_frozen BK199.out 1) | ((with_reducible refine gate_callee (f := 68) rfl ?_); refine goesL_ (some 11) rfl rfl Try.func68 (by kernel_rfl) rfl #[.slice A0_0 l0_0.length c0_0] rfl (by (try simp only [List.map_toArray, List.map_cons, List.map_nil]); first | done | rfl | (simp only [List.length_drop, List.length_take]; rfl)) ?_; (with_reducible refine (slices_Clone_int64_int64.calls _ _ l0_0 t203 _ ?side1 ?side2 A2.out).mono ?_); (case side1 => exact (Kd.C_below HR0_0.out HB.out)); (case side2 => exact HC0_0.out); rintro e w8 ⟨v204, rfl, ho0, hb⟩; refine ⟨_, rfl, ?_⟩; have CO := Aside0.mk ho0; have CB := Aside0.mk hb; clear hb ho0; obtain ⟨Ao9, co9, eo9⟩ := Kd.R_slice CO.out; subst eo9) | ((with_reducible refine gate_callee (f := 106) rfl ?_); refine goesL_ (some 12) rfl rfl Try.func106 (by kernel_rfl) rfl #[.slice Ao9 t203.length co9] rfl (by (try simp only [List.map_toArray, List.map_cons, List.map_nil]); first | done | rfl | (simp only [List.length_drop, List.length_take]; rfl)) ?_; (with_reducible refine (Compact.calls _ _ _ t203 _ CB.out.size CO.out (compact_f A3.out).2).mono ?_); rintro e w10 ⟨v207, rfl, ho0, hb2⟩; refine ⟨_, rfl, ?_⟩; rw [← (compact_f A3.out).1] at ho0; have hb := CB.out.trans hb2; clear CB CO hb2; have n0_ := Aside0.mk (Kd.R_below HO202.out hb); have n2_ := Aside0.mk (Kd.R_lower ho0 (below_size HB.out)); have n3_ := Aside0.mk (blk_below (g := gb199) (o := .cells #[.slice A0_0 l0_0.length c0_0, .slice A0_1 l0_1.length c0_1] 27 (0, 0)) BK199.out hb); have n4_ := Aside0.mk (below_step HB.out hb); clear HO202; clear BK199; clear HB; have HO202 := n0_; have HO208 := n2_; have BK199 := n3_; have HB := n4_; clear n0_ n2_ n3_ n4_; try clear hb; obtain ⟨Ao11, co11, eo11⟩ := Kd.R_slice HO208.out; subst eo11))
 go_loopg [3, 14] k (fun kq v3 v14 w' => ∃ (x3_1 : List (S75)) (x14_1 : Int), v14 = .int .i64 x14_1 ∧ Aside0 (impl_Ending_openings.l0 kq x3_1 t206 (t206.length : Int) x14_1 l0_0 l0_1 = some r) ∧ Aside0 (kq ≤ k) ∧ Aside0 (Kd.R k75 75 w' w.heap.size (fun _ => True) v3 x3_1) ∧ Aside0 (Kd.R (Kd.int .i64) 2 w' w.heap.size (fun _ => True) (.slice Ao11 t206.length co11) t206) ∧ Aside0 (w'.heap[gb199]? = some (.cells #[(.slice A0_0 l0_0.length c0_0), (.slice A0_1 l0_1.length c0_1)] 27 (0, 0))) ∧ Aside0 (Below w.heap.size w w'))
 case atStart => exact ⟨(y200), (0), rfl, H', ⟨Nat.le_refl _⟩, ⟨by exact HO202.out⟩, ⟨by exact Kd.R_mono HO208.out (fun _ hk => trivial)⟩, ⟨by exact BK199.out⟩, ⟨by repeat (first | (with_reducible first | exact HB.out | apply below_alloc | apply pw_below_drewN | apply below_drew1 | refine below_set ?_ GE199.out) | exact HB.out)⟩⟩
 case round =>
  clear H'
  try clear c1
  try clear p2
  try clear c6
  try clear c7
  try clear c10
  try clear hcz7_0
  try clear hcz7_1
  try clear hfz7_0
  try clear hfz7_1
  obtain ⟨x3_1, x14_1, rfl, HA, HK1, HO_3, HO_12, BK199, HB⟩ := hrel
  cases gk with
  | zero => exact absurd HA.out (by simp [impl_Ending_openings.l0])
  | succ k1 =>
   have H := HA.out
   clear HA
   simp only [impl_Ending_openings.l0] at H
   by_cases c12 : x14_1 < (t206.length : Int)
   ·rw [if_pos c12] at H
    have c12b0 : decide (x14_1 < (t206.length : Int)) = true := decide_eq_true c12
    clear c12
    by_cases c13 : 0 ≤ x14_1
    ·rw [if_pos c13] at H
     have c13b0 : decide (0 ≤ x14_1) = true := decide_eq_true c13
     clear c13
     by_cases c14 : x14_1 < (t206.length : Int)
     ·rw [if_pos c14] at H
      have c14b0 : decide (x14_1 < (t206.length : Int)) = true := decide_eq_true c14
      clear c14
      by_cases c15 : x3_1.length < 8796093022208
      ·rw [if_pos c15] at H
       have LMc15 := Aside0.mk c15
       clear c15
       obtain ⟨y210, hy210⟩ : ∃ y_ : List (S75), y_ = (x3_1 ++ [(⟨false, rd t206 x14_1⟩ : S75)]) := ⟨_, rfl⟩
       replace H : (impl_Ending_openings.l0 k1 y210 t206 (t206.length : Int) (wrap64 (x14_1 + 1)) l0_0 l0_1) = some r := by first | (rw [hy210]; with_reducible exact H) | (have H2_ := (Option.bind_some _ _).symm.trans H; rw [hy210]; with_reducible exact H2_) | (have H2_ := (Option.bind_some _ _).symm.trans H; with_reducible exact H2_) | with_reducible exact H | (rw [hy210]; exact H) | exact H
       have Ny210 := Aside0.mk hy210
       clear hy210
       have H' := Aside0.mk H
       clear H
       have p209 : 0 ≤ (x14_1 : Int) := of_decide_eq_true (by first | (with_reducible assumption) | assumption)
       have q209 : x14_1 < (t206.length : Int) := of_decide_eq_true (by first | (with_reducible assumption) | assumption)
       obtain ⟨ad209, e209, hx209_0⟩ := Kd.at_int (Kd.R_reads' HO_12.out).2.2 x14_1 p209 q209
       cases e209
       replace p209 := eq_true p209
       replace q209 := eq_true q209
       go_wp2_with (first | ((with_reducible refine gate_builtin (b := .append) (xs := #[.tmp 18, .tmp 21]) rfl ?_); at_builtin; refine Kd.R_append k75 (w0 := w) w.heap.size rfl (.tmp 18) (.tmp 21) 73 75 (.agg #[(.bool false), (.int .i64 0)]) 16 rfl Try.underlying73 info75 rfl (by decide) (by omega) u3 x3_1 (⟨false, rd t206 x14_1⟩ : S75) [.bool false, .int .i64 (rd t206 x14_1)] (fun _ => True) (fun _ => False) rfl rfl ?aP (fun _ hk => hk.elim) ?aF ?aO ?aB ?aS ?aL ?_; (case aP => exact k75_mkM _ _ _ (⟨false, rd t206 x14_1⟩ : S75)); (case aB => exact HB.out); (case aF => exact (fun _ _ => trivial)); (case aO => exact HO_3.out); (case aS => exact (below_size HB.out)); (case aL => have := LMc15.out; omega); intro v211 w16 ho hb hg hat; rw [← Ny210.out] at ho; have n0_ := Aside0.mk (Kd.R_over' HO_12.out (Kd.R_typed HO_3.out) (by decide) hg); have n1_ := Aside0.mk (blk_grown (g := gb199) (o := .cells #[.slice A0_0 l0_0.length c0_0, .slice A0_1 l0_1.length c0_1] 27 (0, 0)) BK199.out hg (Kd.R_ne HO_3.out BK199.out (by decide))); have n2_ := Aside0.mk (hb); have n3_ := Aside0.mk (ho); clear HO_12; clear BK199; clear HB; clear HO_3; have HO_12 := n0_; have BK199 := n1_; have HB := n2_; have HO212 := n3_; clear n0_ n1_ n2_ n3_; clear ho hb hg hat))
       go_roundg k1
       case measure => have := HK1.out; omega
       case rel => exact ⟨(y210), (wrap64 (x14_1 + 1)), rfl, H', ⟨by have := HK1.out; omega⟩, ⟨by exact HO212.out⟩, ⟨by exact HO_12.out⟩, ⟨by exact BK199.out⟩, ⟨by repeat (first | (with_reducible first | exact HB.out | apply below_alloc | apply pw_below_drewN | apply below_drew1 | refine below_set ?_ GE199.out) | exact HB.out)⟩⟩
      ·rw [if_neg c15] at H
       exact absurd H (by simp)
     ·rw [if_neg c14] at H
      exact absurd H (by simp)
    ·rw [if_neg c13] at H
     exact absurd H (by simp)
   ·rw [if_neg c12] at H
    have c12b0 : decide (x14_1 < (t206.length : Int)) = false := decide_eq_false c12
    clear c12
    replace H := Option.bind_eq_some_iff.mp H
    obtain ⟨t213, A170, H⟩ := H
    replace H : ((slices_Compact_int64_int64.f t213).bind fun t216 => (impl_Ending_openings.l1 k1 x3_1 t216 (t216.length : Int) 0)) = some r := H
    have A17 := Aside0.mk A170
    clear A170
    replace H := Option.bind_eq_some_iff.mp H
    obtain ⟨t216, A180, H⟩ := H
    replace H : (impl_Ending_openings.l1 k1 x3_1 t216 (t216.length : Int) 0) = some r := H
    have A18 := Aside0.mk A180
    clear A180
    have H' := Aside0.mk H
    clear H
    have hcz19_0 : wr.cell? ⟨gb199, 0, none⟩ = some (.slice A0_0 l0_0.length c0_0) := (blk_cell BK199.out 0).trans rfl
    have hcz19_1 : wr.cell? ⟨gb199, 1, none⟩ = some (.slice A0_1 l0_1.length c0_1) := (blk_cell BK199.out 1).trans rfl
    have hfz19_0 := blk_frozen BK199.out 0
    have hfz19_1 := blk_frozen BK199.out 1
    go_wp2_with (first | ((with_reducible refine gate_callee (f := 68) rfl ?_); refine goesL_ (some 26) rfl rfl Try.func68 (by kernel_rfl) rfl #[.slice A0_1 l0_1.length c0_1] rfl (by (try simp only [List.map_toArray, List.map_cons, List.map_nil]); first | done | rfl | (simp only [List.length_drop, List.length_take]; rfl)) ?_; (with_reducible refine (slices_Clone_int64_int64.calls _ _ l0_1 t213 _ ?side1 ?side2 A17.out).mono ?_); (case side1 => exact (Kd.C_below HR0_1.out HB.out)); (case side2 => exact HC0_1.out); rintro e w20 ⟨v214, rfl, ho0, hb⟩; refine ⟨_, rfl, ?_⟩; have CO := Aside0.mk ho0; have CB := Aside0.mk hb; clear hb ho0; obtain ⟨Ao21, co21, eo21⟩ := Kd.R_slice CO.out; subst eo21) | ((with_reducible refine gate_callee (f := 106) rfl ?_); refine goesL_ (some 27) rfl rfl Try.func106 (by kernel_rfl) rfl #[.slice Ao21 t213.length co21] rfl (by (try simp only [List.map_toArray, List.map_cons, List.map_nil]); first | done | rfl | (simp only [List.length_drop, List.length_take]; rfl)) ?_; (with_reducible refine (Compact.calls _ _ _ t213 _ CB.out.size CO.out (compact_f A18.out).2).mono ?_); rintro e w22 ⟨v217, rfl, ho0, hb2⟩; refine ⟨_, rfl, ?_⟩; rw [← (compact_f A18.out).1] at ho0; have hb := CB.out.trans hb2; clear CB CO hb2; have n0_ := Aside0.mk (Kd.R_below HO_3.out hb); have n1_ := Aside0.mk (Kd.R_elder' HO_12.out (Kd.R_base ho0) hb); have n3_ := Aside0.mk (Kd.R_lower (Kd.R_new' ho0 (Kd.R_lt HO_12.out)) (below_size HB.out)); have n4_ := Aside0.mk (blk_below (g := gb199) (o := .cells #[.slice A0_0 l0_0.length c0_0, .slice A0_1 l0_1.length c0_1] 27 (0, 0)) BK199.out hb); have n5_ := Aside0.mk (below_step HB.out hb); clear HO_3; clear HO_12; clear BK199; clear HB; have HO_3 := n0_; have HO_12 := n1_; have HO218 := n3_; have BK199 := n4_; have HB := n5_; clear n0_ n1_ n3_ n4_ n5_; try clear hb; obtain ⟨Ao23, co23, eo23⟩ := Kd.R_slice HO218.out; subst eo23))
    go_loopg [3, 29] k1 (fun kq v3 v29 w' => ∃ (x3_2 : List (S75)) (x29_2 : Int), v29 = .int .i64 x29_2 ∧ Aside0 (impl_Ending_openings.l1 kq x3_2 t216 (t216.length : Int) x29_2 = some r) ∧ Aside0 (kq ≤ k1) ∧ Aside0 (Kd.R k75 75 w' w.heap.size (fun _ => True) v3 x3_2) ∧ Aside0 (Kd.R (Kd.int .i64) 2 w' w.heap.size (fun _ => True) (.slice Ao23 t216.length co23) t216) ∧ Aside0 (w'.heap[gb199]? = some (.cells #[(.slice A0_0 l0_0.length c0_0), (.slice A0_1 l0_1.length c0_1)] 27 (0, 0))) ∧ Aside0 (Below w.heap.size w w'))
    case atStart => exact ⟨(x3_1), (0), rfl, H', ⟨Nat.le_refl _⟩, ⟨by exact HO_3.out⟩, ⟨by exact Kd.R_mono HO218.out (fun _ hk => trivial)⟩, ⟨by exact BK199.out⟩, ⟨by repeat (first | (with_reducible first | exact HB.out | apply below_alloc | apply pw_below_drewN | apply below_drew1 | refine below_set ?_ GE199.out) | exact HB.out)⟩⟩
    case round =>
     clear H'
     try clear c1
     try clear p2
     try clear q2
     try clear hx2
     try clear c6
     try clear p6
     try clear c7
     try clear c10
     try clear c12
     try clear c12b0
     try clear c13
     try clear c13b0
     try clear c14
     try clear c14b0
     try clear c15
     try clear p20
     try clear q20
     try clear hx20
     try clear hcz19_0
     try clear hcz19_1
     try clear hcz7_0
     try clear hcz7_1
     try clear hfz19_0
     try clear hfz19_1
     try clear hfz7_0
     try clear hfz7_1
     try clear hx209_0
     try clear p2
     try clear p209
     try clear q209
     obtain ⟨x3_2, x29_2, rfl, HA, HK2, HO_3, HO_27, BK199, HB⟩ := hrel
     cases gk with
     | zero => exact absurd HA.out (by simp [impl_Ending_openings.l1])
     | succ k2 =>
      have H := HA.out
      clear HA
      simp only [impl_Ending_openings.l1] at H
      by_cases c24 : x29_2 < (t216.length : Int)
      ·rw [if_pos c24] at H
       have c24b0 : decide (x29_2 < (t216.length : Int)) = true := decide_eq_true c24
       clear c24
       by_cases c25 : 0 ≤ x29_2
       ·rw [if_pos c25] at H
        have c25b0 : decide (0 ≤ x29_2) = true := decide_eq_true c25
        clear c25
        by_cases c26 : x29_2 < (t216.length : Int)
        ·rw [if_pos c26] at H
         have c26b0 : decide (x29_2 < (t216.length : Int)) = true := decide_eq_true c26
         clear c26
         by_cases c27 : x3_2.length < 8796093022208
         ·rw [if_pos c27] at H
          have LMc27 := Aside0.mk c27
          clear c27
          obtain ⟨y220, hy220⟩ : ∃ y_ : List (S75), y_ = (x3_2 ++ [(⟨true, rd t216 x29_2⟩ : S75)]) := ⟨_, rfl⟩
          replace H : (impl_Ending_openings.l1 k2 y220 t216 (t216.length : Int) (wrap64 (x29_2 + 1))) = some r := by first | (rw [hy220]; with_reducible exact H) | (have H2_ := (Option.bind_some _ _).symm.trans H; rw [hy220]; with_reducible exact H2_) | (have H2_ := (Option.bind_some _ _).symm.trans H; with_reducible exact H2_) | with_reducible exact H | (rw [hy220]; exact H) | exact H
          have Ny220 := Aside0.mk hy220
          clear hy220
          have H' := Aside0.mk H
          clear H
          have p219 : 0 ≤ (x29_2 : Int) := of_decide_eq_true (by first | (with_reducible assumption) | assumption)
          have q219 : x29_2 < (t216.length : Int) := of_decide_eq_true (by first | (with_reducible assumption) | assumption)
          obtain ⟨ad219, e219, hx219_0⟩ := Kd.at_int (Kd.R_reads' HO_27.out).2.2 x29_2 p219 q219
          cases e219
          replace p219 := eq_true p219
          replace q219 := eq_true q219
          go_wp2_with (first | ((with_reducible refine gate_builtin (b := .append) (xs := #[.tmp 33, .tmp 36]) rfl ?_); at_builtin; refine Kd.R_append k75 (w0 := w) w.heap.size rfl (.tmp 33) (.tmp 36) 73 75 (.agg #[(.bool false), (.int .i64 0)]) 16 rfl Try.underlying73 info75 rfl (by decide) (by omega) u3 x3_2 (⟨true, rd t216 x29_2⟩ : S75) [.bool true, .int .i64 (rd t216 x29_2)] (fun _ => True) (fun _ => False) rfl rfl ?aP (fun _ hk => hk.elim) ?aF ?aO ?aB ?aS ?aL ?_; (case aP => exact k75_mkM _ _ _ (⟨true, rd t216 x29_2⟩ : S75)); (case aB => exact HB.out); (case aF => exact (fun _ _ => trivial)); (case aO => exact HO_3.out); (case aS => exact (below_size HB.out)); (case aL => have := LMc27.out; omega); intro v221 w28 ho hb hg hat; rw [← Ny220.out] at ho; have n0_ := Aside0.mk (Kd.R_over' HO_27.out (Kd.R_typed HO_3.out) (by decide) hg); have n1_ := Aside0.mk (blk_grown (g := gb199) (o := .cells #[.slice A0_0 l0_0.length c0_0, .slice A0_1 l0_1.length c0_1] 27 (0, 0)) BK199.out hg (Kd.R_ne HO_3.out BK199.out (by decide))); have n2_ := Aside0.mk (hb); have n3_ := Aside0.mk (ho); clear HO_27; clear BK199; clear HB; clear HO_3; have HO_27 := n0_; have BK199 := n1_; have HB := n2_; have HO222 := n3_; clear n0_ n1_ n2_ n3_; clear ho hb hg hat))
          go_roundg k2
          case measure => have := HK1.out; have := HK2.out; omega
          case rel => exact ⟨(y220), (wrap64 (x29_2 + 1)), rfl, H', ⟨by have := HK1.out; have := HK2.out; omega⟩, ⟨by exact HO222.out⟩, ⟨by exact HO_27.out⟩, ⟨by exact BK199.out⟩, ⟨by repeat (first | (with_reducible first | exact HB.out | apply below_alloc | apply pw_below_drewN | apply below_drew1 | refine below_set ?_ GE199.out) | exact HB.out)⟩⟩
         ·rw [if_neg c27] at H
          exact absurd H (by simp)
        ·rw [if_neg c26] at H
         exact absurd H (by simp)
       ·rw [if_neg c25] at H
        exact absurd H (by simp)
      ·rw [if_neg c24] at H
       have c24b0 : decide (x29_2 < (t216.length : Int)) = false := decide_eq_false c24
       clear c24
       obtain rfl := Option.some.inj H
       go_wp2
       go_ret
       exact ⟨_, rfl, by exact HO_3.out, by repeat (first | (with_reducible first | exact HB.out | apply below_alloc | apply pw_below_drewN | apply below_drew1 | refine below_set ?_ GE199.out) | exact HB.out)⟩

end Go.Proofs.Ytkbjoiebaphdoaa.PX


/- The value of an ending, in plain terms: openings, what an opening leads to, the best one (conditions: sizes from 1 to 30). -/
namespace Go.Proofs.Ytkbjoiebaphdoaa.PX
open Go.RowKit Go.Proofs.YtkbjoiebaphdoaaW.PrintWords Go.Proofs.YtkbjoiebaphdoaaW.PrintLast Go.Proofs.YtkbjoiebaphdoaaW.PrintMore
attribute [local go_sem] max2_int min2_int max_two min_two max_three min_three max_four min_four
set_option linter.unusedVariables false
set_option linter.unusedSimpArgs false
def opens (C L : List Int) : List (Bool × Int) := (uniq C).map (fun b => (false, b)) ++ (uniq L).map (fun b => (true, b))
def lessC (C : List Int) (o : Bool × Int) : List Int := if o.1 = true then C else C.erase o.2
def lessL (L : List Int) (o : Bool × Int) : List Int := if o.1 = true then L.erase o.2 else L
/-- What an opening leads to for who opens, where the rest has a value; and whether the answer is the sparing one. -/
def ansOf (o : Bool × Int) (rest : Int) : Int × Bool :=
  if (o.1 = true ∨ 3 ≤ o.2) ∧ rest - (o.2 - (if o.1 = true then 8 else 4)) < -o.2 - rest then (rest - (o.2 - (if o.1 = true then 8 else 4)), true) else (-o.2 - rest, false)
def maxI (a b : Int) : Int := if a < b then b else a
def valN : Nat → List Int → List Int → Int
  | 0, _, _ => 0
  | n + 1, C, L => if C = [] ∧ L = [] then 0 else ((opens C L).map (fun o => (ansOf o (valN n (lessC C o) (lessL L o))).1)).foldl maxI (-1000)
def val (C L : List Int) : Int := valN (C.length + L.length) C L
def worth (C L : List Int) (o : Bool × Int) : Int × Bool := ansOf o (val (lessC C o) (lessL L o))
theorem uniqTo_mem (xs : List Int) : ∀ (m : Nat), m ≤ xs.length → ∀ x ∈ uniqTo xs m, x ∈ xs
  | 0, _, x, h => by simp [uniqTo] at h
  | m + 1, hm, x, h => by
    rw [uniqTo, List.mem_append] at h
    rcases h with h | h
    · exact uniqTo_mem xs m (by omega) x h
    · split at h
      · rw [List.mem_singleton] at h
        rw [h, List.getD_eq_getElem?_getD, List.getElem?_eq_getElem (by omega)]
        exact List.getElem_mem _
      · cases h
theorem uniq_mem {xs : List Int} {x : Int} (h : x ∈ uniq xs) : x ∈ xs := uniqTo_mem xs xs.length (Nat.le_refl _) x h
theorem mem_uniqTo (xs : List Int) : ∀ (m : Nat), m ≤ xs.length → ∀ x ∈ xs.take m, x ∈ uniqTo xs m
  | 0, _, x, h => by simp at h
  | m + 1, hm, x, h => by
    have hg : xs[m]? = some xs[m] := List.getElem?_eq_getElem (by omega)
    have ih := mem_uniqTo xs m (by omega)
    rw [List.take_add_one, hg] at h
    rw [uniqTo, List.mem_append]
    rcases List.mem_append.1 h with h | h
    · exact .inl (ih x h)
    · replace h : x = xs[m] := by simpa using h
      have hd : xs.getD m 0 = x := by rw [List.getD_eq_getElem?_getD, hg, h]; rfl
      by_cases c : keepAt xs m = true
      · right
        rw [if_pos c, hd]
        exact List.mem_singleton.2 rfl
      · left
        refine ih x ?_
        unfold keepAt at c
        rw [Bool.or_eq_true, not_or] at c
        obtain ⟨c1, c2⟩ := c
        have c1 : m ≠ 0 := by simpa using c1
        have c2 : xs.getD m 0 = xs.getD (m - 1) 0 := by simpa using c2
        rw [← hd, c2, List.getD_eq_getElem?_getD, List.getElem?_eq_getElem (by omega)]
        exact List.mem_take_iff_getElem.2 ⟨m - 1, by omega, rfl⟩
theorem uniq_iff (xs : List Int) (x : Int) : x ∈ uniq xs ↔ x ∈ xs := ⟨uniq_mem, fun h => mem_uniqTo xs xs.length (Nat.le_refl _) x (by rw [List.take_length]; exact h)⟩
theorem uniq_nil {xs : List Int} : uniq xs = [] ↔ xs = [] := by
  constructor
  · intro h
    cases xs with
    | nil => rfl
    | cons a t =>
      have := (uniq_iff (a :: t) a).2 List.mem_cons_self
      rw [h] at this
      cases this
  · intro h
    subst h
    rfl
theorem opens_mem {C L : List Int} {o : Bool × Int} : o ∈ opens C L ↔ (if o.1 = true then o.2 ∈ L else o.2 ∈ C) := by
  obtain ⟨l, b⟩ := o
  unfold opens
  rw [List.mem_append, List.mem_map, List.mem_map]
  cases l with
  | false =>
    rw [if_neg Bool.false_ne_true]
    constructor
    · rintro (⟨x, hx, e⟩ | ⟨x, hx, e⟩)
      · cases e; exact (uniq_iff _ _).1 hx
      · cases e
    · intro h
      exact .inl ⟨b, (uniq_iff _ _).2 h, rfl⟩
  | true =>
    rw [if_pos rfl]
    constructor
    · rintro (⟨x, hx, e⟩ | ⟨x, hx, e⟩)
      · cases e
      · cases e; exact (uniq_iff _ _).1 hx
    · intro h
      exact .inr ⟨b, (uniq_iff _ _).2 h, rfl⟩
theorem opens_nil {C L : List Int} : opens C L = [] ↔ C = [] ∧ L = [] := by
  unfold opens
  rw [List.append_eq_nil_iff, List.map_eq_nil_iff, List.map_eq_nil_iff, uniq_nil, uniq_nil]
theorem less_len {C L : List Int} {o : Bool × Int} (h : o ∈ opens C L) : (lessC C o).length + (lessL L o).length + 1 = C.length + L.length := by
  rw [opens_mem] at h
  unfold lessC lessL
  by_cases c : o.1 = true
  · rw [if_pos c] at h
    rw [if_pos c, if_pos c, List.length_erase_of_mem h]
    have := List.length_pos_of_mem h
    omega
  · rw [if_neg c] at h
    rw [if_neg c, if_neg c, List.length_erase_of_mem h]
    have := List.length_pos_of_mem h
    omega
theorem lessC_mem {C : List Int} {o : Bool × Int} {x : Int} (h : x ∈ lessC C o) : x ∈ C := by
  unfold lessC at h
  split at h
  · exact h
  · exact List.mem_of_mem_erase h
theorem lessL_mem {L : List Int} {o : Bool × Int} {x : Int} (h : x ∈ lessL L o) : x ∈ L := by
  unfold lessL at h
  split at h
  · exact List.mem_of_mem_erase h
  · exact h
theorem val_nil : val [] [] = 0 := rfl
theorem val_eq {C L : List Int} (h : ¬(C = [] ∧ L = [])) : val C L = ((opens C L).map (fun o => (worth C L o).1)).foldl maxI (-1000) := by
  unfold val
  obtain ⟨n, hn⟩ : ∃ n, C.length + L.length = n + 1 := by
    rcases C with _ | ⟨a, C⟩
    · rcases L with _ | ⟨b, L⟩
      · exact absurd ⟨rfl, rfl⟩ h
      · exact ⟨L.length, by simp⟩
    · exact ⟨C.length + L.length, by simp; omega⟩
  rw [hn, valN, if_neg h]
  congr 1
  refine List.map_congr_left fun o ho => ?_
  unfold worth val
  have := less_len ho
  rw [show (lessC C o).length + (lessL L o).length = n by omega]
def okC (xs : List Int) : Prop := ∀ x ∈ xs, 1 ≤ x ∧ x ≤ 30
def okL (xs : List Int) : Prop := ∀ x ∈ xs, 4 ≤ x ∧ x ≤ 30
theorem ansOf_le {o : Bool × Int} {r : Int} {M : Int} (h1 : 1 ≤ o.2 ∧ o.2 ≤ 30) (h2 : o.1 = true → 4 ≤ o.2) (hr : -M ≤ r ∧ r ≤ M) : -(M + 30) ≤ (ansOf o r).1 ∧ (ansOf o r).1 ≤ M + 30 := by
  unfold ansOf
  by_cases c : o.1 = true
  · have := h2 c
    rw [if_pos c]
    split
    · show -(M + 30) ≤ r - (o.2 - 8) ∧ r - (o.2 - 8) ≤ M + 30
      omega
    · show -(M + 30) ≤ -o.2 - r ∧ -o.2 - r ≤ M + 30
      omega
  · rw [if_neg c]
    split
    · rename_i h
      show -(M + 30) ≤ r - (o.2 - 4) ∧ r - (o.2 - 4) ≤ M + 30
      omega
    · show -(M + 30) ≤ -o.2 - r ∧ -o.2 - r ≤ M + 30
      omega
theorem foldl_max_le (M : Int) : ∀ (l : List Int) (a : Int), a ≤ M → (∀ x ∈ l, x ≤ M) → l.foldl maxI a ≤ M
  | [], a, ha, _ => ha
  | x :: l, a, ha, h => foldl_max_le M l _ (by unfold maxI; split; exact h x List.mem_cons_self; exact ha) (fun y hy => h y (List.mem_cons_of_mem _ hy))
theorem foldl_max_ge : ∀ (l : List Int) (a : Int), a ≤ l.foldl maxI a
  | [], a => Int.le_refl a
  | x :: l, a => Int.le_trans (by unfold maxI; split <;> omega) (foldl_max_ge l (maxI a x))
theorem foldl_max_mem : ∀ (l : List Int) (a : Int), ∀ x ∈ l, x ≤ l.foldl maxI a
  | y :: l, a, x, h => by
    rcases List.mem_cons.1 h with rfl | h
    · exact Int.le_trans (by unfold maxI; split <;> omega) (foldl_max_ge l (maxI a x))
    · exact foldl_max_mem l _ x h
theorem val_le {C L : List Int} (hC : okC C) (hL : okL L) : ∀ (n : Nat), C.length + L.length = n → -(30 * n : Int) ≤ val C L ∧ val C L ≤ 30 * n := by
  intro n
  induction n generalizing C L with
  | zero =>
    intro h
    have h1 : C = [] := List.eq_nil_of_length_eq_zero (by omega)
    have h2 : L = [] := List.eq_nil_of_length_eq_zero (by omega)
    subst h1; subst h2
    rw [val_nil]; omega
  | succ n ih =>
    intro h
    have hne : ¬(C = [] ∧ L = []) := by
      rintro ⟨rfl, rfl⟩
      simp at h
    rw [val_eq hne]
    have hw : ∀ o ∈ opens C L, -(30 * n + 30 : Int) ≤ (worth C L o).1 ∧ (worth C L o).1 ≤ 30 * n + 30 := by
      intro o ho
      have hl := less_len ho
      have h1 := ih (C := lessC C o) (L := lessL L o) (fun x hx => hC x (lessC_mem hx)) (fun x hx => hL x (lessL_mem hx)) (by omega)
      have hm := opens_mem.1 ho
      refine ansOf_le ?_ ?_ h1
      · by_cases c : o.1 = true
        · rw [if_pos c] at hm; have := hL _ hm; omega
        · rw [if_neg c] at hm; exact hC _ hm
      · intro c
        rw [if_pos c] at hm; exact (hL _ hm).1
    constructor
    · obtain ⟨o, ho⟩ : ∃ o, o ∈ opens C L := List.exists_mem_of_ne_nil _ (fun e => hne (opens_nil.1 e))
      have := (hw o ho).1
      have h2 := foldl_max_mem ((opens C L).map (fun o => (worth C L o).1)) (-1000) _ (List.mem_map_of_mem ho)
      push_cast
      omega
    · refine foldl_max_le _ _ _ (by omega) (fun x hx => ?_)
      obtain ⟨o, ho, rfl⟩ := List.mem_map.1 hx
      have := (hw o ho).2
      push_cast
      omega
theorem worth_le {C L : List Int} (hC : okC C) (hL : okL L) (h8 : C.length + L.length ≤ 8) {o : Bool × Int} (ho : o ∈ opens C L) : -240 ≤ (worth C L o).1 ∧ (worth C L o).1 ≤ 240 := by
  have hl := less_len ho
  have h1 := val_le (C := lessC C o) (L := lessL L o) (fun x hx => hC x (lessC_mem hx)) (fun x hx => hL x (lessL_mem hx)) _ rfl
  have hm := opens_mem.1 ho
  have := ansOf_le (o := o) (M := 30 * ((lessC C o).length + (lessL L o).length : Nat)) (by
    by_cases c : o.1 = true
    · rw [if_pos c] at hm; have := hL _ hm; omega
    · rw [if_neg c] at hm; exact hC _ hm) (fun c => by rw [if_pos c] at hm; exact (hL _ hm).1) h1
  unfold worth
  omega
/-- One step of the reference's search for the best opening. -/
def stepO (f : Bool × Int → Int) (s : Int × Bool × Int) (o : Bool × Int) : Int × Bool × Int := if s.2.2 = 0 ∨ s.1 < f o then (f o, o) else s
theorem stepO_fold (f : Bool × Int → Int) : ∀ (os pre : List (Bool × Int)) (o : Bool × Int), (∀ q ∈ os, 1 ≤ q.2) → 1 ≤ o.2 → pre.find? (fun q => f q == f o) = some o → (∀ q ∈ pre, f q ≤ f o) →
    ∃ o', os.foldl (stepO f) (f o, o) = (f o', o') ∧ 1 ≤ o'.2 ∧ (pre ++ os).find? (fun q => f q == f o') = some o' ∧ (os.map f).foldl maxI (f o) = f o' ∧ ∀ q ∈ pre ++ os, f q ≤ f o'
  | [], pre, o, _, h1, h2, h3 => ⟨o, rfl, h1, by rw [List.append_nil]; exact h2, rfl, by rw [List.append_nil]; exact h3⟩
  | q :: os, pre, o, h0, h1, h2, h3 => by
    have hq := h0 q List.mem_cons_self
    have h0' : ∀ r ∈ os, 1 ≤ r.2 := fun r hr => h0 r (List.mem_cons_of_mem _ hr)
    rw [List.foldl_cons, List.map_cons, List.foldl_cons, show pre ++ q :: os = (pre ++ [q]) ++ os by rw [List.append_assoc]; rfl]
    by_cases c : f o < f q
    · have e1 : stepO f (f o, o) q = (f q, q) := if_pos (.inr c)
      have e2 : maxI (f o) (f q) = f q := if_pos c
      rw [e1, e2]
      refine stepO_fold f os (pre ++ [q]) q h0' hq ?_ ?_
      · rw [List.find?_append, List.find?_eq_none.2 (fun r hr => by have := h3 r hr; simp; omega)]
        simp
      · intro r hr
        rcases List.mem_append.1 hr with hr | hr
        · have := h3 r hr; omega
        · rw [List.mem_singleton.1 hr]; omega
    · have e1 : stepO f (f o, o) q = (f o, o) := if_neg (by rintro (h | h); exact absurd h (show ¬ o.2 = 0 by omega); exact c h)
      have e2 : maxI (f o) (f q) = f o := if_neg c
      rw [e1, e2]
      refine stepO_fold f os (pre ++ [q]) o h0' h1 ?_ ?_
      · rw [List.find?_append, h2]; rfl
      · intro r hr
        rcases List.mem_append.1 hr with hr | hr
        · exact h3 r hr
        · rw [List.mem_singleton.1 hr]; omega
theorem stepO_best (f : Bool × Int → Int) (os : List (Bool × Int)) (hne : os ≠ []) (h0 : ∀ q ∈ os, 1 ≤ q.2 ∧ -1000 < f q) :
    ∃ o', os.foldl (stepO f) (0, false, 0) = (f o', o') ∧ os.find? (fun q => f q == f o') = some o' ∧ (os.map f).foldl maxI (-1000) = f o' := by
  cases os with
  | nil => exact absurd rfl hne
  | cons q os =>
    have e1 : stepO f (0, false, 0) q = (f q, q) := if_pos (.inl rfl)
    have e2 : maxI (-1000) (f q) = f q := if_pos (h0 q List.mem_cons_self).2
    rw [List.foldl_cons, e1, List.map_cons, List.foldl_cons, e2]
    obtain ⟨o', h1, _, h3, h4, _⟩ := stepO_fold f os [q] q (fun r hr => (h0 r (List.mem_cons_of_mem _ hr)).1) (h0 q List.mem_cons_self).1 (by simp) (by simp)
    exact ⟨o', h1, h3, h4⟩

end Go.Proofs.Ytkbjoiebaphdoaa.PX
