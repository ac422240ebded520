/- The walk of the program's IsEnding, with its test of sizes (conditions: the slices read as the lists; each call answers). -/
import Derived.Test.YtkbjoiebaphdoaaPXx0
import Derived.Test.YtkbjoiebaphdoaaFunLib
import Derived.Test.YtkbjoiebaphdoaaPXx7
import Derived.Test.YtkbjoiebaphdoaaPXx6
import Derived.Test.YtkbjoiebaphdoaaIvl
namespace Go.Proofs.Ytkbjoiebaphdoaa.PX
open Go.RowKit Go.Proofs.YtkbjoiebaphdoaaW.PrintWords Go.Proofs.YtkbjoiebaphdoaaW.PrintLast Go.Proofs.YtkbjoiebaphdoaaW.PrintMore
attribute [local go_sem] max2_int min2_int max_two min_two max_three min_three max_four min_four
set_option linter.unusedVariables false
set_option linter.unusedSimpArgs false
def sizeOk (least n : Int) : Bool := decide (least ≤ n) && decide (n ≤ 30)
theorem within_sizeOk (least n : Int) : impl_within.f n least 30 = some (sizeOk least n) := by
  unfold impl_within.f sizeOk
  by_cases c : least ≤ n
  · rw [if_pos c, decide_eq_true c, Bool.true_and]
  · rw [if_neg c, decide_eq_false c, Bool.false_and]
theorem areSizes1_has : HasFn 99 := ⟨_, Try.func99, by kernel_rfl, rfl⟩
set_option maxHeartbeats 8000000 in
set_option maxRecDepth 100000 in
theorem areSizes1.calls (gb : Nat) (least x : Int) (w : World) (hB : w.heap[gb]? = some (.cells #[.int .i64 least] 2 (0, 0))) :
    Calls Try.prog 99 (#[.int .i64 x] ++ #[.pointer (some ⟨gb, 0, none⟩)]) w fun e w' => e = .returned (.bool (!(sizeOk least x))) ∧ Drawn0 w w' := by
  show Calls Try.prog 99 #[.int .i64 x, .pointer (some ⟨gb, 0, none⟩)] w fun e w' => e = .returned (.bool (!(sizeOk least x))) ∧ Drawn0 w w'
  have hz : w.cell? ⟨gb, 0, none⟩ = some (.int .i64 least) := (blk_cell hB 0).trans rfl
  have hf := blk_frozen hB 0
  have HW := Aside0.mk (within_sizeOk least x)
  generalize sizeOk least x = b at *
  clear hB
  go_enter Try.func99, Try.ntmps99
  go_wp2_with (go_at_call 86; (with_reducible refine (impl_within.calls x least 30 b _ HW.out).mono ?_); rintro e w' ⟨rfl, ⟨nd, rfl⟩⟩)
  go_ret
  exact ⟨rfl, by repeat (first | exact Drawn0.refl _ | apply Drawn0.step)⟩
theorem areSizes1_tests (gb : Nat) (least : Int) (xs : List Int) (w : World) (hB : w.heap[gb]? = some (.cells #[.int .i64 least] 2 (0, 0))) : Tests 99 #[.pointer (some ⟨gb, 0, none⟩)] (fun n => !(sizeOk least n)) xs w := ⟨areSizes1_has, fun x _ n => areSizes1.calls gb least x _ (blk_drewN hB n)⟩
def impl_areSizes.f (k : Nat) (l : List Int) (least : Int) : Option Bool := (slices_IsSorted_int64_int64.f k l).bind fun s => if s = true then some (!(l.any fun n => !(sizeOk least n))) else some false
theorem impl_areSizes.mono : ∀ a0 a1 k, LeO (impl_areSizes.f k a0 a1) (impl_areSizes.f (k + 1) a0 a1) := by
  intro a0 a1 k
  unfold impl_areSizes.f
  exact LeO.bind (slices_IsSorted_int64_int64.mono _ _) (fun _ => LeO.refl _)
set_option maxHeartbeats 8000000 in
set_option maxRecDepth 100000 in
theorem impl_areSizes.calls (k : Nat) (A0 : Option Addr) (c0 : Nat) (l0 : List Int) (a1 : Int) (r : Bool) (w : World) (hr0 : Kd.C (Kd.int .i64) w A0 l0.length l0) (hc0 : l0.length ≤ c0) (h : impl_areSizes.f k l0 a1 = some r) :
    Calls Try.prog 63 #[.slice A0 l0.length c0, .int .i64 a1] w fun e w' => e = .returned (.bool r) ∧ Below w.heap.size w w' := by
  have HR0 := Aside0.mk hr0
  have HC0 := Aside0.mk hc0
  clear hr0 hc0
  have hmf : ∀ (fn : Fn) (first cap : Array Value) (w : World), (Instr.makeFunc fn first cap).run Try.prog w = .ok (.func fn first cap) w := fun _ _ _ _ => rfl
  have HB := Aside0.mk (Below.refl w.heap.size w)
  unfold impl_areSizes.f at h
  obtain ⟨s, A10, h⟩ := Option.bind_eq_some_iff.mp h
  have A1 := Aside0.mk A10
  clear A10
  cases s
  · rw [if_neg (by decide)] at h
    obtain rfl := Option.some.inj h
    clear h
    go_enter Try.func63, Try.ntmps63
    go_wp2_with (first | ((with_reducible refine gate_dst (N := 3) rfl ?_); (try (refine gate_guard (by rfl) ?_; dsimp only)); refine box_event ?hg (N := 3) ?hd (cs := #[.int .i64 a1]) (t := 2) ?hr ?_; (case hd => rfl); (case hg => rfl); (case hr => first | (go_simp; done) | (go_simp; rfl)); intro gb1 hg w2 hbox hb; have GPgb1 := Aside0.mk hg; have BK := Aside0.mk hbox; clear hg hbox; have n0_ := Aside0.mk (below_then HB.out HB.out.size hb); clear HB hb; have HB := n0_; clear n0_) | ((with_reducible refine gate_dst (N := 6) rfl ?_); (try (refine gate_guard (by rfl) ?_; dsimp only)); refine goesL_ (some 6) rfl rfl Try.func97 (by kernel_rfl) rfl #[.slice A0 l0.length c0] rfl (by (try simp only [List.map_toArray, List.map_cons, List.map_nil]); first | done | rfl) ?_; (with_reducible refine (calls_below (slices_IsSorted_int64_int64.calls k _ _ l0 false _ ?side1 ?side2 A1.out)).mono ?_); (case side1 => exact Kd.C_below HR0.out HB.out); (case side2 => exact HC0.out); rintro e w3 ⟨rfl, hb⟩; refine ⟨_, rfl, ?_⟩; have n0_ := Aside0.mk (below_then HB.out HB.out.size hb); have n1_ := Aside0.mk (blk_below (g := gb1) (o := .cells #[.int .i64 a1] 2 (0, 0)) BK.out hb); clear HB BK hb; have HB := n0_; have BK := n1_; clear n0_ n1_))
    go_ret
    exact ⟨rfl, HB.out⟩
  · rw [if_pos rfl] at h
    have e := Option.some.inj h
    have E := Aside0.mk (show (l0.any fun n => !(sizeOk a1 n)) = !r by rw [← e, Bool.not_not])
    clear e h
    go_enter Try.func63, Try.ntmps63
    go_wp2_with (first | ((with_reducible refine gate_dst (N := 3) rfl ?_); (try (refine gate_guard (by rfl) ?_; dsimp only)); refine box_event ?hg (N := 3) ?hd (cs := #[.int .i64 a1]) (t := 2) ?hr ?_; (case hd => rfl); (case hg => rfl); (case hr => first | (go_simp; done) | (go_simp; rfl)); intro gb1 hg w2 hbox hb; have GPgb1 := Aside0.mk hg; have BK := Aside0.mk hbox; clear hg hbox; have n0_ := Aside0.mk (below_then HB.out HB.out.size hb); clear HB hb; have HB := n0_; clear n0_) | ((with_reducible refine gate_dst (N := 6) rfl ?_); (try (refine gate_guard (by rfl) ?_; dsimp only)); refine goesL_ (some 6) rfl rfl Try.func97 (by kernel_rfl) rfl #[.slice A0 l0.length c0] rfl (by (try simp only [List.map_toArray, List.map_cons, List.map_nil]); first | done | rfl) ?_; (with_reducible refine (calls_below (slices_IsSorted_int64_int64.calls k _ _ l0 true _ ?side1 ?side2 A1.out)).mono ?_); (case side1 => exact Kd.C_below HR0.out HB.out); (case side2 => exact HC0.out); rintro e w3 ⟨rfl, hb⟩; refine ⟨_, rfl, ?_⟩; have n0_ := Aside0.mk (below_then HB.out HB.out.size hb); have n1_ := Aside0.mk (blk_below (g := gb1) (o := .cells #[.int .i64 a1] 2 (0, 0)) BK.out hb); clear HB BK hb; have HB := n0_; have BK := n1_; clear n0_ n1_) | ((with_reducible refine gate_dst (N := 10) rfl ?_); (try (refine gate_guard (by rfl) ?_; dsimp only)); refine goesL_ (some 10) rfl rfl Try.func98 (by kernel_rfl) rfl #[.slice A0 l0.length c0, .func (.func 99) #[] #[.pointer (some ⟨gb1, 0, none⟩)]] rfl (by (try simp only [List.map_toArray, List.map_cons, List.map_nil]); first | done | rfl) ?_; (with_reducible refine (calls_below (ContainsFunc.calls 99 #[.pointer (some ⟨gb1, 0, none⟩)] (fun n => !(sizeOk a1 n)) _ _ l0 _ (Kd.C_below HR0.out HB.out) HC0.out (areSizes1_tests gb1 a1 l0 _ BK.out))).mono ?_); rw [E.out]; rintro e w4 ⟨rfl, hb⟩; refine ⟨_, rfl, ?_⟩; have n0_ := Aside0.mk (below_then HB.out HB.out.size hb); clear HB hb; have HB := n0_; clear n0_))
    go_ret
    exact ⟨by simp, HB.out⟩
def impl_IsEnding.f (k : Nat) (l0 l1 : List Int) : Option Bool := (impl_areSizes.f k l0 1).bind fun s => if s = true then (impl_areSizes.f k l1 4).bind (fun t => if t = true then (if (l0.length : Int) < 4611686018427387904 then (if (l1.length : Int) < 4611686018427387904 then some (decide ((l0.length : Int) + (l1.length : Int) ≤ 8)) else none) else none) else some false) else some false
theorem impl_IsEnding.mono : ∀ a0 a1 k, LeO (impl_IsEnding.f k a0 a1) (impl_IsEnding.f (k + 1) a0 a1) := by
  intro a0 a1 k
  unfold impl_IsEnding.f
  exact LeO.bind (impl_areSizes.mono _ _ _) (fun _ => LeO.ite (LeO.bind (impl_areSizes.mono _ _ _) (fun _ => LeO.refl _)) (LeO.refl _))
set_option maxHeartbeats 8000000 in
set_option maxRecDepth 100000 in
theorem impl_IsEnding.calls (k : Nat) (A0_0 : Option Addr) (c0_0 : Nat) (l0_0 : List Int) (A0_1 : Option Addr) (c0_1 : Nat) (l0_1 : List Int) (r : Bool) (w : World) (hr0_0 : Kd.C (Kd.int .i64) w A0_0 l0_0.length l0_0) (hc0_0 : l0_0.length ≤ c0_0) (hr0_1 : Kd.C (Kd.int .i64) w A0_1 l0_1.length l0_1) (hc0_1 : l0_1.length ≤ c0_1) (h : impl_IsEnding.f k l0_0 l0_1 = some r) :
    Calls Try.prog 18 #[.agg #[.slice A0_0 l0_0.length c0_0, .slice A0_1 l0_1.length c0_1]] w fun e w' => e = .returned (.bool r) ∧ Below w.heap.size w w' := by
  have hu27 := Try.underlying27
  have HR0 := Aside0.mk hr0_0
  have HC0 := Aside0.mk hc0_0
  have HR1 := Aside0.mk hr0_1
  have HC1 := Aside0.mk hc0_1
  clear hr0_0 hc0_0 hr0_1 hc0_1
  have HB := Aside0.mk (Below.refl w.heap.size w)
  unfold impl_IsEnding.f at h
  obtain ⟨s, A10, h⟩ := Option.bind_eq_some_iff.mp h
  have A1 := Aside0.mk A10
  clear A10
  cases s
  · rw [if_neg (by decide)] at h
    obtain rfl := Option.some.inj h
    clear h
    go_enter Try.func18, Try.ntmps18
    go_wp2_with (first | ((with_reducible refine gate_dst (N := 1) rfl ?_); (try (refine gate_guard (by rfl) ?_; dsimp only)); refine box_event ?hg (N := 1) ?hd (cs := #[.slice A0_0 l0_0.length c0_0, .slice A0_1 l0_1.length c0_1]) (t := 27) ?hr ?_; (case hd => rfl); (case hg => rfl); (case hr => first | (go_simp; done) | (go_simp; rfl)); intro gb1 hg w2 hbox hb; have GPgb1 := Aside0.mk hg; have BK := Aside0.mk hbox; clear hg hbox; have n0_ := Aside0.mk (below_then HB.out HB.out.size hb); clear HB hb; have HB := n0_; clear n0_; (try clear hz_0); have hz_0 : w2.cell? ⟨gb1, 0, none⟩ = some (.slice A0_0 l0_0.length c0_0) := (blk_cell BK.out 0).trans rfl; (try clear hz_1); have hz_1 : w2.cell? ⟨gb1, 1, none⟩ = some (.slice A0_1 l0_1.length c0_1) := (blk_cell BK.out 1).trans rfl; (try clear hf_0); have hf_0 := blk_frozen BK.out 0; (try clear hf_1); have hf_1 := blk_frozen BK.out 1) | ((with_reducible refine gate_dst (N := 5) rfl ?_); (try (refine gate_guard (by rfl) ?_; dsimp only)); refine goesL_ (some 5) rfl rfl Try.func63 (by kernel_rfl) rfl #[.slice A0_0 l0_0.length c0_0, .int .i64 1] rfl (by (try simp only [List.map_toArray, List.map_cons, List.map_nil]); first | done | rfl) ?_; (with_reducible refine (impl_areSizes.calls k _ _ l0_0 1 false _ ?side1 ?side2 A1.out).mono ?_); (case side1 => exact Kd.C_below HR0.out HB.out); (case side2 => exact HC0.out); rintro e w3 ⟨rfl, hb⟩; refine ⟨_, rfl, ?_⟩; have n0_ := Aside0.mk (below_then HB.out HB.out.size hb); have n1_ := Aside0.mk (blk_below (g := gb1) (o := .cells #[.slice A0_0 l0_0.length c0_0, .slice A0_1 l0_1.length c0_1] 27 (0, 0)) BK.out hb); clear HB BK hb; have HB := n0_; have BK := n1_; clear n0_ n1_; (try clear hz_0); have hz_0 : w3.cell? ⟨gb1, 0, none⟩ = some (.slice A0_0 l0_0.length c0_0) := (blk_cell BK.out 0).trans rfl; (try clear hz_1); have hz_1 : w3.cell? ⟨gb1, 1, none⟩ = some (.slice A0_1 l0_1.length c0_1) := (blk_cell BK.out 1).trans rfl; (try clear hf_0); have hf_0 := blk_frozen BK.out 0; (try clear hf_1); have hf_1 := blk_frozen BK.out 1))
    go_ret
    exact ⟨rfl, HB.out⟩
  · rw [if_pos rfl] at h
    obtain ⟨t, A20, h⟩ := Option.bind_eq_some_iff.mp h
    have A2 := Aside0.mk A20
    clear A20
    cases t
    · rw [if_neg (by decide)] at h
      obtain rfl := Option.some.inj h
      clear h
      go_enter Try.func18, Try.ntmps18
      go_wp2_with (first | ((with_reducible refine gate_dst (N := 1) rfl ?_); (try (refine gate_guard (by rfl) ?_; dsimp only)); refine box_event ?hg (N := 1) ?hd (cs := #[.slice A0_0 l0_0.length c0_0, .slice A0_1 l0_1.length c0_1]) (t := 27) ?hr ?_; (case hd => rfl); (case hg => rfl); (case hr => first | (go_simp; done) | (go_simp; rfl)); intro gb1 hg w2 hbox hb; have GPgb1 := Aside0.mk hg; have BK := Aside0.mk hbox; clear hg hbox; have n0_ := Aside0.mk (below_then HB.out HB.out.size hb); clear HB hb; have HB := n0_; clear n0_; (try clear hz_0); have hz_0 : w2.cell? ⟨gb1, 0, none⟩ = some (.slice A0_0 l0_0.length c0_0) := (blk_cell BK.out 0).trans rfl; (try clear hz_1); have hz_1 : w2.cell? ⟨gb1, 1, none⟩ = some (.slice A0_1 l0_1.length c0_1) := (blk_cell BK.out 1).trans rfl; (try clear hf_0); have hf_0 := blk_frozen BK.out 0; (try clear hf_1); have hf_1 := blk_frozen BK.out 1) | ((with_reducible refine gate_dst (N := 5) rfl ?_); (try (refine gate_guard (by rfl) ?_; dsimp only)); refine goesL_ (some 5) rfl rfl Try.func63 (by kernel_rfl) rfl #[.slice A0_0 l0_0.length c0_0, .int .i64 1] rfl (by (try simp only [List.map_toArray, List.map_cons, List.map_nil]); first | done | rfl) ?_; (with_reducible refine (impl_areSizes.calls k _ _ l0_0 1 true _ ?side1 ?side2 A1.out).mono ?_); (case side1 => exact Kd.C_below HR0.out HB.out); (case side2 => exact HC0.out); rintro e w3 ⟨rfl, hb⟩; refine ⟨_, rfl, ?_⟩; have n0_ := Aside0.mk (below_then HB.out HB.out.size hb); have n1_ := Aside0.mk (blk_below (g := gb1) (o := .cells #[.slice A0_0 l0_0.length c0_0, .slice A0_1 l0_1.length c0_1] 27 (0, 0)) BK.out hb); clear HB BK hb; have HB := n0_; have BK := n1_; clear n0_ n1_; (try clear hz_0); have hz_0 : w3.cell? ⟨gb1, 0, none⟩ = some (.slice A0_0 l0_0.length c0_0) := (blk_cell BK.out 0).trans rfl; (try clear hz_1); have hz_1 : w3.cell? ⟨gb1, 1, none⟩ = some (.slice A0_1 l0_1.length c0_1) := (blk_cell BK.out 1).trans rfl; (try clear hf_0); have hf_0 := blk_frozen BK.out 0; (try clear hf_1); have hf_1 := blk_frozen BK.out 1) | ((with_reducible refine gate_dst (N := 9) rfl ?_); (try (refine gate_guard (by rfl) ?_; dsimp only)); refine goesL_ (some 9) rfl rfl Try.func63 (by kernel_rfl) rfl #[.slice A0_1 l0_1.length c0_1, .int .i64 4] rfl (by (try simp only [List.map_toArray, List.map_cons, List.map_nil]); first | done | rfl) ?_; (with_reducible refine (impl_areSizes.calls k _ _ l0_1 4 false _ ?side1 ?side2 A2.out).mono ?_); (case side1 => exact Kd.C_below HR1.out HB.out); (case side2 => exact HC1.out); rintro e w4 ⟨rfl, hb⟩; refine ⟨_, rfl, ?_⟩; have n0_ := Aside0.mk (below_then HB.out HB.out.size hb); have n1_ := Aside0.mk (blk_below (g := gb1) (o := .cells #[.slice A0_0 l0_0.length c0_0, .slice A0_1 l0_1.length c0_1] 27 (0, 0)) BK.out hb); clear HB BK hb; have HB := n0_; have BK := n1_; clear n0_ n1_; (try clear hz_0); have hz_0 : w4.cell? ⟨gb1, 0, none⟩ = some (.slice A0_0 l0_0.length c0_0) := (blk_cell BK.out 0).trans rfl; (try clear hz_1); have hz_1 : w4.cell? ⟨gb1, 1, none⟩ = some (.slice A0_1 l0_1.length c0_1) := (blk_cell BK.out 1).trans rfl; (try clear hf_0); have hf_0 := blk_frozen BK.out 0; (try clear hf_1); have hf_1 := blk_frozen BK.out 1))
      go_ret
      exact ⟨rfl, HB.out⟩
    · rw [if_pos rfl] at h
      by_cases q0 : (l0_0.length : Int) < 4611686018427387904
      · rw [if_pos q0] at h
        by_cases q1 : (l0_1.length : Int) < 4611686018427387904
        · rw [if_pos q1] at h
          have e := Option.some.inj h
          have ew : wrap64 ((l0_0.length : Int) + (l0_1.length : Int)) = (l0_0.length : Int) + (l0_1.length : Int) := by unfold wrap64; omega
          clear h q0 q1
          go_enter Try.func18, Try.ntmps18
          go_wp2_with (first | ((with_reducible refine gate_dst (N := 1) rfl ?_); (try (refine gate_guard (by rfl) ?_; dsimp only)); refine box_event ?hg (N := 1) ?hd (cs := #[.slice A0_0 l0_0.length c0_0, .slice A0_1 l0_1.length c0_1]) (t := 27) ?hr ?_; (case hd => rfl); (case hg => rfl); (case hr => first | (go_simp; done) | (go_simp; rfl)); intro gb1 hg w2 hbox hb; have GPgb1 := Aside0.mk hg; have BK := Aside0.mk hbox; clear hg hbox; have n0_ := Aside0.mk (below_then HB.out HB.out.size hb); clear HB hb; have HB := n0_; clear n0_; (try clear hz_0); have hz_0 : w2.cell? ⟨gb1, 0, none⟩ = some (.slice A0_0 l0_0.length c0_0) := (blk_cell BK.out 0).trans rfl; (try clear hz_1); have hz_1 : w2.cell? ⟨gb1, 1, none⟩ = some (.slice A0_1 l0_1.length c0_1) := (blk_cell BK.out 1).trans rfl; (try clear hf_0); have hf_0 := blk_frozen BK.out 0; (try clear hf_1); have hf_1 := blk_frozen BK.out 1) | ((with_reducible refine gate_dst (N := 5) rfl ?_); (try (refine gate_guard (by rfl) ?_; dsimp only)); refine goesL_ (some 5) rfl rfl Try.func63 (by kernel_rfl) rfl #[.slice A0_0 l0_0.length c0_0, .int .i64 1] rfl (by (try simp only [List.map_toArray, List.map_cons, List.map_nil]); first | done | rfl) ?_; (with_reducible refine (impl_areSizes.calls k _ _ l0_0 1 true _ ?side1 ?side2 A1.out).mono ?_); (case side1 => exact Kd.C_below HR0.out HB.out); (case side2 => exact HC0.out); rintro e w3 ⟨rfl, hb⟩; refine ⟨_, rfl, ?_⟩; have n0_ := Aside0.mk (below_then HB.out HB.out.size hb); have n1_ := Aside0.mk (blk_below (g := gb1) (o := .cells #[.slice A0_0 l0_0.length c0_0, .slice A0_1 l0_1.length c0_1] 27 (0, 0)) BK.out hb); clear HB BK hb; have HB := n0_; have BK := n1_; clear n0_ n1_; (try clear hz_0); have hz_0 : w3.cell? ⟨gb1, 0, none⟩ = some (.slice A0_0 l0_0.length c0_0) := (blk_cell BK.out 0).trans rfl; (try clear hz_1); have hz_1 : w3.cell? ⟨gb1, 1, none⟩ = some (.slice A0_1 l0_1.length c0_1) := (blk_cell BK.out 1).trans rfl; (try clear hf_0); have hf_0 := blk_frozen BK.out 0; (try clear hf_1); have hf_1 := blk_frozen BK.out 1) | ((with_reducible refine gate_dst (N := 9) rfl ?_); (try (refine gate_guard (by rfl) ?_; dsimp only)); refine goesL_ (some 9) rfl rfl Try.func63 (by kernel_rfl) rfl #[.slice A0_1 l0_1.length c0_1, .int .i64 4] rfl (by (try simp only [List.map_toArray, List.map_cons, List.map_nil]); first | done | rfl) ?_; (with_reducible refine (impl_areSizes.calls k _ _ l0_1 4 true _ ?side1 ?side2 A2.out).mono ?_); (case side1 => exact Kd.C_below HR1.out HB.out); (case side2 => exact HC1.out); rintro e w4 ⟨rfl, hb⟩; refine ⟨_, rfl, ?_⟩; have n0_ := Aside0.mk (below_then HB.out HB.out.size hb); have n1_ := Aside0.mk (blk_below (g := gb1) (o := .cells #[.slice A0_0 l0_0.length c0_0, .slice A0_1 l0_1.length c0_1] 27 (0, 0)) BK.out hb); clear HB BK hb; have HB := n0_; have BK := n1_; clear n0_ n1_; (try clear hz_0); have hz_0 : w4.cell? ⟨gb1, 0, none⟩ = some (.slice A0_0 l0_0.length c0_0) := (blk_cell BK.out 0).trans rfl; (try clear hz_1); have hz_1 : w4.cell? ⟨gb1, 1, none⟩ = some (.slice A0_1 l0_1.length c0_1) := (blk_cell BK.out 1).trans rfl; (try clear hf_0); have hf_0 := blk_frozen BK.out 0; (try clear hf_1); have hf_1 := blk_frozen BK.out 1))
          go_ret
          exact ⟨by rw [← e]; rfl, HB.out⟩
        · rw [if_neg q1] at h
          exact absurd h (by simp)
      · rw [if_neg q0] at h
        exact absurd h (by simp)

end Go.Proofs.Ytkbjoiebaphdoaa.PX
