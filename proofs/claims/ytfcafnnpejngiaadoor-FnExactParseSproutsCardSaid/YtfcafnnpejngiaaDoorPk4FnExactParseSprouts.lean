/- Part 4 of the texts under the row of FnExactParseSprouts (no condition). -/
import Derived.Test.YtfcafnnpejngiaaDoorPk3FnExactParseSprouts
/- The walk of the program's degrees (conditions: the slices read as the lists; each call answers). -/
namespace Go.Proofs.YtfcafnnpejngiaaDoor.PX
open Go.RowKit Go.Proofs.YtfcafnnpejngiaaDoorW.PrintWords Go.Proofs.YtfcafnnpejngiaaDoorW.PrintLast Go.Proofs.YtfcafnnpejngiaaDoorW.PrintMore
attribute [local go_sem] max2_int min2_int max_two min_two max_three min_three max_four min_four
set_option linter.unusedVariables false
set_option linter.unusedSimpArgs false
mutual
def impl_Sprouts_degrees.j0 : Nat → Bool → Int → List (List (List Int)) → Option (List Int × Bool)
  | 0, _, _, _ => none
  | k + 1, x21, x174000, x174001 => if x21 = true then (some (([] : List Int), false)) else (if 0 ≤ x174000 then (if (x174000 : Int).toNat ≤ 35184372088832 then (if (x174000 : Int).toNat ≤ 281474976710656 then ((slices_Concat_int64_int64.f k x174001).bind fun t181 => (impl_Sprouts_degrees.l0 k (List.replicate (x174000 : Int).toNat 0) (List.replicate (x174000 : Int).toNat false) t181 (t181.length : Int) 0 x174000 x174001)) else (none)) else (none)) else (none))
def impl_Sprouts_degrees.l0 : Nat → List Int → List Bool → List (List Int) → Int → Int → Int → List (List (List Int)) → Option (List Int × Bool)
  | 0, _, _, _, _, _, _, _ => none
  | k + 1, x4, x5, x30, x31, x32, x174000, x174001 => if x32 < x31 then (if 0 ≤ x32 then (if x32 < (x30.length : Int) then (impl_Sprouts_degrees.l1 k x4 x5 (rd_L2 x30 x32) x30 x31 x32 (rd_L2 x30 x32) ((rd_L2 x30 x32).length : Int) 0 x174000 x174001) else (none)) else (none)) else (impl_Sprouts_degrees.l2 k x4 x5 (x4.length : Int) 0)
def impl_Sprouts_degrees.l1 : Nat → List Int → List Bool → List Int → List (List Int) → Int → Int → List Int → Int → Int → Int → List (List (List Int)) → Option (List Int × Bool)
  | 0, _, _, _, _, _, _, _, _, _, _, _ => none
  | k + 1, x4, x5, x7, x30, x31, x32, x36, x37, x38, x174000, x174001 => if x38 < x37 then (if 0 ≤ x38 then (if x38 < (x36.length : Int) then ((impl_within.f (rd x36 x38) 0 (wrap64 (x174000 - 1))).bind fun t186 => (if t186 = true then (if 0 ≤ (rd x36 x38) then (if (rd x36 x38) < (x4.length : Int) then ((some (x4.set ((rd x36 x38) : Int).toNat (wrap64 ((rd x4 (rd x36 x38)) + 1)) : List Int)).bind fun y188 => (if (rd x36 x38) < (x5.length : Int) then (if rdOf false x5 (rd x36 x38) = true then (impl_Sprouts_degrees.l1 k y188 (x5.set ((rd x36 x38) : Int).toNat true) x7 x30 x31 x32 x36 x37 (wrap64 (x38 + 1)) x174000 x174001) else (impl_Sprouts_degrees.l1 k y188 (x5.set ((rd x36 x38) : Int).toNat ((x7.length : Int) == 1)) x7 x30 x31 x32 x36 x37 (wrap64 (x38 + 1)) x174000 x174001)) else (none))) else (none)) else (none)) else (some (([] : List Int), false)))) else (none)) else (none)) else (if (x7.length : Int) = 0 then (some (([] : List Int), false)) else (impl_Sprouts_degrees.l0 k x4 x5 x30 x31 (wrap64 (x32 + 1)) x174000 x174001))
def impl_Sprouts_degrees.l2 : Nat → List Int → List Bool → Int → Int → Option (List Int × Bool)
  | 0, _, _, _, _ => none
  | k + 1, x4, x5, x72, x73 => if x73 < x72 then (if 0 ≤ x73 then (if x73 < (x4.length : Int) then ((impl_within.f (rd x4 x73) 1 3).bind fun t193 => (if t193 = true then (if x73 < (x5.length : Int) then (if rdOf false x5 x73 = true then (impl_Sprouts_degrees.j4 k x4 x5 x73 x72 x73 (decide ((rd x4 x73) > 1))) else (impl_Sprouts_degrees.j4 k x4 x5 x73 x72 x73 false)) else (none)) else (impl_Sprouts_degrees.j4 k x4 x5 x73 x72 x73 true))) else (none)) else (none)) else (some (x4, true))
def impl_Sprouts_degrees.j4 : Nat → List Int → List Bool → Int → Int → Int → Bool → Option (List Int × Bool)
  | 0, _, _, _, _, _, _ => none
  | k + 1, x4, x5, x10, x72, x73, x90 => if x90 = true then (some (([] : List Int), false)) else (if 0 ≤ x10 then (if x10 < (x5.length : Int) then (if rdOf false x5 x10 = true then (if x10 < (x4.length : Int) then (impl_Sprouts_degrees.l2 k (x4.set (x10 : Int).toNat 0) x5 x72 (wrap64 (x73 + 1))) else (none)) else (impl_Sprouts_degrees.l2 k x4 x5 x72 (wrap64 (x73 + 1)))) else (none)) else (none))
end
def impl_Sprouts_degrees.f (k : Nat) (a0_0 : Int) (l0_1 : List (List (List Int))) : Option (List Int × Bool) := (impl_within.f a0_0 1 20).bind fun t174 => (if t174 = true then (impl_Sprouts_degrees.j0 k ((l0_1.length : Int) == 0) a0_0 l0_1) else (impl_Sprouts_degrees.j0 k true a0_0 l0_1))
theorem impl_Sprouts_degrees.mono_l : ∀ k, (∀ y0 y1 y2, LeO (impl_Sprouts_degrees.j0 k y0 y1 y2) (impl_Sprouts_degrees.j0 (k + 1) y0 y1 y2)) ∧ (∀ y0 y1 y2 y3 y4 y5 y6, LeO (impl_Sprouts_degrees.l0 k y0 y1 y2 y3 y4 y5 y6) (impl_Sprouts_degrees.l0 (k + 1) y0 y1 y2 y3 y4 y5 y6)) ∧ (∀ y0 y1 y2 y3 y4 y5 y6 y7 y8 y9 y10, LeO (impl_Sprouts_degrees.l1 k y0 y1 y2 y3 y4 y5 y6 y7 y8 y9 y10) (impl_Sprouts_degrees.l1 (k + 1) y0 y1 y2 y3 y4 y5 y6 y7 y8 y9 y10)) ∧ (∀ y0 y1 y2 y3, LeO (impl_Sprouts_degrees.l2 k y0 y1 y2 y3) (impl_Sprouts_degrees.l2 (k + 1) y0 y1 y2 y3)) ∧ (∀ y0 y1 y2 y3 y4 y5, LeO (impl_Sprouts_degrees.j4 k y0 y1 y2 y3 y4 y5) (impl_Sprouts_degrees.j4 (k + 1) y0 y1 y2 y3 y4 y5))
  | 0 => ⟨fun _ _ _ r h => by simp [impl_Sprouts_degrees.j0] at h, fun _ _ _ _ _ _ _ r h => by simp [impl_Sprouts_degrees.l0] at h, fun _ _ _ _ _ _ _ _ _ _ _ r h => by simp [impl_Sprouts_degrees.l1] at h, fun _ _ _ _ r h => by simp [impl_Sprouts_degrees.l2] at h, fun _ _ _ _ _ _ r h => by simp [impl_Sprouts_degrees.j4] at h⟩
  | k + 1 => by
    obtain ⟨ih0, ih1, ih2, ih3, ih4⟩ := impl_Sprouts_degrees.mono_l k
    refine ⟨?_, ?_, ?_, ?_, ?_⟩
    · intro y0 y1 y2
      unfold impl_Sprouts_degrees.j0
      repeat' first
      | (with_reducible exact ih0 _ _ _)
      | (with_reducible exact ih1 _ _ _ _ _ _ _)
      | (with_reducible exact ih2 _ _ _ _ _ _ _ _ _ _ _)
      | (with_reducible exact ih3 _ _ _ _)
      | (with_reducible exact ih4 _ _ _ _ _ _)
      | (with_reducible exact slices_Concat_int64_int64.mono _ _)
      | (with_reducible exact LeO.refl _)
      | (with_reducible exact LeO.none _)
      | (with_reducible refine LeO.ite ?_ ?_)
      | (with_reducible refine LeO.bind ?_ (fun _ => ?_))
      | exact ih0 _ _ _
      | exact ih1 _ _ _ _ _ _ _
      | exact ih2 _ _ _ _ _ _ _ _ _ _ _
      | exact ih3 _ _ _ _
      | exact ih4 _ _ _ _ _ _
      | exact slices_Concat_int64_int64.mono _ _
      | exact LeO.none _
      | refine LeO.ite ?_ ?_
      | refine LeO.bind ?_ (fun _ => ?_)
    · intro y0 y1 y2 y3 y4 y5 y6
      unfold impl_Sprouts_degrees.l0
      repeat' first
      | (with_reducible exact ih0 _ _ _)
      | (with_reducible exact ih1 _ _ _ _ _ _ _)
      | (with_reducible exact ih2 _ _ _ _ _ _ _ _ _ _ _)
      | (with_reducible exact ih3 _ _ _ _)
      | (with_reducible exact ih4 _ _ _ _ _ _)
      | (with_reducible exact slices_Concat_int64_int64.mono _ _)
      | (with_reducible exact LeO.refl _)
      | (with_reducible exact LeO.none _)
      | (with_reducible refine LeO.ite ?_ ?_)
      | (with_reducible refine LeO.bind ?_ (fun _ => ?_))
      | exact ih0 _ _ _
      | exact ih1 _ _ _ _ _ _ _
      | exact ih2 _ _ _ _ _ _ _ _ _ _ _
      | exact ih3 _ _ _ _
      | exact ih4 _ _ _ _ _ _
      | exact slices_Concat_int64_int64.mono _ _
      | exact LeO.none _
      | refine LeO.ite ?_ ?_
      | refine LeO.bind ?_ (fun _ => ?_)
    · intro y0 y1 y2 y3 y4 y5 y6 y7 y8 y9 y10
      unfold impl_Sprouts_degrees.l1
      repeat' first
      | (with_reducible exact ih0 _ _ _)
      | (with_reducible exact ih1 _ _ _ _ _ _ _)
      | (with_reducible exact ih2 _ _ _ _ _ _ _ _ _ _ _)
      | (with_reducible exact ih3 _ _ _ _)
      | (with_reducible exact ih4 _ _ _ _ _ _)
      | (with_reducible exact slices_Concat_int64_int64.mono _ _)
      | (with_reducible exact LeO.refl _)
      | (with_reducible exact LeO.none _)
      | (with_reducible refine LeO.ite ?_ ?_)
      | (with_reducible refine LeO.bind ?_ (fun _ => ?_))
      | exact ih0 _ _ _
      | exact ih1 _ _ _ _ _ _ _
      | exact ih2 _ _ _ _ _ _ _ _ _ _ _
      | exact ih3 _ _ _ _
      | exact ih4 _ _ _ _ _ _
      | exact slices_Concat_int64_int64.mono _ _
      | exact LeO.none _
      | refine LeO.ite ?_ ?_
      | refine LeO.bind ?_ (fun _ => ?_)
    · intro y0 y1 y2 y3
      unfold impl_Sprouts_degrees.l2
      repeat' first
      | (with_reducible exact ih0 _ _ _)
      | (with_reducible exact ih1 _ _ _ _ _ _ _)
      | (with_reducible exact ih2 _ _ _ _ _ _ _ _ _ _ _)
      | (with_reducible exact ih3 _ _ _ _)
      | (with_reducible exact ih4 _ _ _ _ _ _)
      | (with_reducible exact slices_Concat_int64_int64.mono _ _)
      | (with_reducible exact LeO.refl _)
      | (with_reducible exact LeO.none _)
      | (with_reducible refine LeO.ite ?_ ?_)
      | (with_reducible refine LeO.bind ?_ (fun _ => ?_))
      | exact ih0 _ _ _
      | exact ih1 _ _ _ _ _ _ _
      | exact ih2 _ _ _ _ _ _ _ _ _ _ _
      | exact ih3 _ _ _ _
      | exact ih4 _ _ _ _ _ _
      | exact slices_Concat_int64_int64.mono _ _
      | exact LeO.none _
      | refine LeO.ite ?_ ?_
      | refine LeO.bind ?_ (fun _ => ?_)
    · intro y0 y1 y2 y3 y4 y5
      unfold impl_Sprouts_degrees.j4
      repeat' first
      | (with_reducible exact ih0 _ _ _)
      | (with_reducible exact ih1 _ _ _ _ _ _ _)
      | (with_reducible exact ih2 _ _ _ _ _ _ _ _ _ _ _)
      | (with_reducible exact ih3 _ _ _ _)
      | (with_reducible exact ih4 _ _ _ _ _ _)
      | (with_reducible exact slices_Concat_int64_int64.mono _ _)
      | (with_reducible exact LeO.refl _)
      | (with_reducible exact LeO.none _)
      | (with_reducible refine LeO.ite ?_ ?_)
      | (with_reducible refine LeO.bind ?_ (fun _ => ?_))
      | exact ih0 _ _ _
      | exact ih1 _ _ _ _ _ _ _
      | exact ih2 _ _ _ _ _ _ _ _ _ _ _
      | exact ih3 _ _ _ _
      | exact ih4 _ _ _ _ _ _
      | exact slices_Concat_int64_int64.mono _ _
      | exact LeO.none _
      | refine LeO.ite ?_ ?_
      | refine LeO.bind ?_ (fun _ => ?_)
theorem impl_Sprouts_degrees.mono : ∀ a0 a1 k, LeO (impl_Sprouts_degrees.f k a0 a1) (impl_Sprouts_degrees.f (k + 1) a0 a1) := by
  intro a0 a1 k
  obtain ⟨ih0, ih1, ih2, ih3, ih4⟩ := impl_Sprouts_degrees.mono_l k
  unfold impl_Sprouts_degrees.f
  repeat' first
      | (with_reducible exact ih0 _ _ _)
      | (with_reducible exact ih1 _ _ _ _ _ _ _)
      | (with_reducible exact ih2 _ _ _ _ _ _ _ _ _ _ _)
      | (with_reducible exact ih3 _ _ _ _)
      | (with_reducible exact ih4 _ _ _ _ _ _)
      | (with_reducible exact slices_Concat_int64_int64.mono _ _)
      | (with_reducible exact LeO.refl _)
      | (with_reducible exact LeO.none _)
      | (with_reducible refine LeO.ite ?_ ?_)
      | (with_reducible refine LeO.bind ?_ (fun _ => ?_))
      | exact ih0 _ _ _
      | exact ih1 _ _ _ _ _ _ _
      | exact ih2 _ _ _ _ _ _ _ _ _ _ _
      | exact ih3 _ _ _ _
      | exact ih4 _ _ _ _ _ _
      | exact slices_Concat_int64_int64.mono _ _
      | exact LeO.none _
      | refine LeO.ite ?_ ?_
      | refine LeO.bind ?_ (fun _ => ?_)
def impl_Sprouts_degrees.T3 : Bool × List (List Nat × List Nat) := (true, [([], []), ([0], [0]), ([1, 1], [1]), ([], []), ([3], [3]), ([4, 4], [4]), ([2, 0, 1, 2], [2]), ([5, 6, 0, 1, 2, 3, 4, 5, 6], [5])])
def impl_Sprouts_degrees.B3 : List Nat := [0, 1, 3, 0, 8, 24, 7, 127]
theorem impl_Sprouts_degrees.tab3 : rtab .any (opsOf Tryd.f27 3) = impl_Sprouts_degrees.T3 := by kernel_rfl
theorem impl_Sprouts_degrees.bits3 : waitsOk impl_Sprouts_degrees.T3.2 impl_Sprouts_degrees.B3 = true := by kernel_rfl
def NV (w : World) (base : Nat) (ok : Nat → Prop) (v : Value) (xs : List (List Int)) (A : Option Addr) (m c : Nat) (ys : List Int) : Prop := Kd.N (Kd.slice 2 (Kd.int .i64)) 38 w base ok v xs ∧ Kd.V (Kd.int .i64) 2 w base ok (.slice A m c) ys
theorem NV_alloc {w : World} {base : Nat} {ok : Nat → Prop} {v : Value} {xs : List (List Int)} {A : Option Addr} {m c : Nat} {ys : List Int} (h : NV w base ok v xs A m c ys) (o : Obj) : NV (w.alloc o) base ok v xs A m c ys := ⟨Kd.N_alloc h.1 o, Kd.V_alloc h.2 o⟩
theorem NV_drew {w : World} {base : Nat} {ok : Nat → Prop} {v : Value} {xs : List (List Int)} {A : Option Addr} {m c : Nat} {ys : List Int} (h : NV w base ok v xs A m c ys) : NV w.drew base ok v xs A m c ys := ⟨Kd.N_drew h.1, Kd.V_drew h.2⟩
theorem NV_drewN {w : World} {base : Nat} {ok : Nat → Prop} {v : Value} {xs : List (List Int)} {A : Option Addr} {m c : Nat} {ys : List Int} (h : NV w base ok v xs A m c ys) (n : Nat) : NV (w.drewN n) base ok v xs A m c ys := ⟨Kd.N_drewN h.1 n, Kd.V_drewN h.2 n⟩
theorem NV_mono {w : World} {base : Nat} {ok ok' : Nat → Prop} {v : Value} {xs : List (List Int)} {A : Option Addr} {m c : Nat} {ys : List Int} (h : NV w base ok v xs A m c ys) (hok : ∀ k, ok k → ok' k) : NV w base ok' v xs A m c ys := ⟨Kd.N_mono h.1 hok, Kd.V_mono h.2 hok⟩
theorem NV_afterv {w w1 : World} {base : Nat} {ok : Nat → Prop} {v v1 u : Value} {xs : List (List Int)} {A : Option Addr} {m c : Nat} {ys : List Int} (h : NV w base (fun k => ok k ∧ some k ≠ v.ownBlock) u xs A m c ys) (hg : w.grownBy w1 v.ownBlock) (hat : v1.ownBlock = v.ownBlock ∨ ∃ b, v1.ownBlock = some b ∧ w.heap.size ≤ b) : NV w1 base (fun k => ok k ∧ some k ≠ v1.ownBlock) u xs A m c ys := ⟨Kd.N_afterv h.1 hg hat, Kd.V_afterv h.2 hg hat⟩
set_option maxHeartbeats 8000000 in
set_option maxRecDepth 100000 in
theorem impl_Sprouts_degrees.calls (k : Nat) (a0_0 : Int) (A0_1 : Option Addr) (c0_1 : Nat) (l0_1 : List (List (List Int))) (r1 : List Int) (r2 : Bool) (w : World) (hr0_1 : Kd.C (Kd.slice 38 (Kd.slice 2 (Kd.int .i64))) w A0_1 l0_1.length l0_1) (hc0_1 : l0_1.length ≤ c0_1) (h : impl_Sprouts_degrees.f k a0_0 l0_1 = some (r1, r2)) :
    Calls Tryd.prog 27 #[.agg #[.int .i64 a0_0, .slice A0_1 l0_1.length c0_1]] w fun e w' => ∃ v0_ : Value, e = .returned (.tuple #[v0_, .bool r2]) ∧ Kd.R (Kd.int .i64) 2 w' w.heap.size (fun _ => True) v0_ r1 ∧ Below w.heap.size w w' := by
  have hu24 := Tryd.underlying24
  have HR0_1 := Aside0.mk hr0_1
  have HC0_1 := Aside0.mk hc0_1
  clear hr0_1 hc0_1
  have HB := Aside0.mk (Below.refl w.heap.size w)
  have H : ((impl_within.f a0_0 1 20).bind fun t174 => (if t174 = true then (impl_Sprouts_degrees.j0 k ((l0_1.length : Int) == 0) a0_0 l0_1) else (impl_Sprouts_degrees.j0 k true a0_0 l0_1))) = some (r1, r2) := h
  clear h
  have HC2 := Aside0.mk H
  clear H
  go_enter Tryd.func27, Tryd.ntmps27
  go_upto_region 1 with (first | ((with_reducible refine gate_dst (N := 1) rfl ?_); (try (refine gate_guard (by rfl) ?_; dsimp only)); refine box_event ?hg (N := 1) ?hd (cs := #[.int .i64 a0_0, .slice A0_1 l0_1.length c0_1]) (t := 24) ?hr ?_; (case hd => rfl); (case hg => rfl); (case hr => first | (go_simp; done) | (go_simp; rfl)); intro gb173 hg w3 hbox hb; have n0_ := Aside0.mk (below_step (by repeat (first | (with_reducible first | exact HB.out | apply below_alloc | apply pw_below_drewN | apply below_drew1) | exact HB.out)) hb); have n1_ := Aside0.mk (hbox); have n2_ := Aside0.mk ((by rw [hg]; exact (below_size (by repeat (first | (with_reducible first | exact HB.out | apply below_alloc | apply pw_below_drewN | apply below_drew1) | exact HB.out))) : w.heap.size ≤ gb173)); have n3_ := Aside0.mk ((by rw [hg]; exact (below_size (by repeat (first | (with_reducible first | exact HB.out | apply below_alloc | apply pw_below_drewN | apply below_drew1) | exact HB.out))) : w.heap.size ≤ gb173)); clear HB; have HB := n0_; have BK173 := n1_; have GW173 := n2_; have GE173 := n3_; clear n0_ n1_ n2_ n3_; clear hb hbox hg))
  (try simp only [Act.put, List.setIfInBounds_toArray, List.set_cons_zero, List.set_cons_succ])
  go_cut [21] (fun v21 wc => ∃ (kq : Nat) (x21_1 : Bool), v21 = .bool x21_1 ∧ Aside0 (impl_Sprouts_degrees.j0 kq x21_1 a0_0 l0_1 = some (r1, r2)) ∧ Aside0 (kq ≤ k) ∧ Aside0 (wc.heap[gb173]? = some (.cells #[.int .i64 a0_0, (.slice A0_1 l0_1.length c0_1)] 24 (0, 0))) ∧ Aside0 (Below w.heap.size w wc))
  case first =>
    have H := HC2.out
    clear HC2
    replace H := Option.bind_eq_some_iff.mp H
    obtain ⟨t174, A40, H⟩ := H
    replace H : (if t174 = true then (impl_Sprouts_degrees.j0 k ((l0_1.length : Int) == 0) a0_0 l0_1) else (impl_Sprouts_degrees.j0 k true a0_0 l0_1)) = some (r1, r2) := H
    have A4 := Aside0.mk A40
    clear A40
    by_cases c5 : t174 = true
    · subst c5
      have H1 : (impl_Sprouts_degrees.j0 k ((l0_1.length : Int) == 0) a0_0 l0_1) = some (r1, r2) := by rw [if_pos rfl] at H; exact H
      clear H
      have H := H1
      clear H1
      have H' := Aside0.mk H
      clear H
      have hcz6_0 : w3.cell? ⟨gb173, 0, none⟩ = some (.int .i64 a0_0) := (blk_cell BK173.out 0).trans rfl
      have hcz6_1 : w3.cell? ⟨gb173, 1, none⟩ = some (.slice A0_1 l0_1.length c0_1) := (blk_cell BK173.out 1).trans rfl
      have hfz6_0 := blk_frozen BK173.out 0
      have hfz6_1 := blk_frozen BK173.out 1
      go_wp2_with (first | ((with_reducible refine gate_callee (f := 41) rfl ?_); refine goesL_ (some 14) rfl rfl Tryd.func41 (by kernel_rfl) rfl #[.int .i64 a0_0, .int .i64 1, .int .i64 20] rfl (by (try simp only [List.map_toArray, List.map_cons, List.map_nil]); first | done | rfl | (simp only [List.length_drop, List.length_take]; rfl)) ?_; (with_reducible refine (impl_within.calls a0_0 1 20 true _ A4.out).mono ?_); rintro e w' ⟨rfl, ⟨nd, rfl⟩⟩; refine ⟨_, rfl, ?_⟩))
      go_meet
      case rel => exact ⟨_, (((l0_1.length : Int) == 0)), (by first | rfl | (simp; done) | (simp [*]; done)), H', ⟨by first | omega | exact Nat.le_refl _⟩, ⟨by (with_reducible repeat (first | refine blk_drewN ?_ _ | refine blk_drew ?_ | refine blk_alloc ?_ _)); exact BK173.out⟩, ⟨by repeat (first | (with_reducible first | exact HB.out | apply below_alloc | apply pw_below_drewN | apply below_drew1 | refine below_set ?_ GE173.out) | exact HB.out)⟩⟩
    · replace c5 := Bool.eq_false_iff.mpr c5
      subst c5
      have H1 : (impl_Sprouts_degrees.j0 k true a0_0 l0_1) = some (r1, r2) := by rw [if_neg (show ¬ (false = true) by decide)] at H; exact H
      clear H
      have H := H1
      clear H1
      have H' := Aside0.mk H
      clear H
      have hcz7_0 : w3.cell? ⟨gb173, 0, none⟩ = some (.int .i64 a0_0) := (blk_cell BK173.out 0).trans rfl
      have hcz7_1 : w3.cell? ⟨gb173, 1, none⟩ = some (.slice A0_1 l0_1.length c0_1) := (blk_cell BK173.out 1).trans rfl
      have hfz7_0 := blk_frozen BK173.out 0
      have hfz7_1 := blk_frozen BK173.out 1
      go_wp2_with (first | ((with_reducible refine gate_callee (f := 41) rfl ?_); refine goesL_ (some 14) rfl rfl Tryd.func41 (by kernel_rfl) rfl #[.int .i64 a0_0, .int .i64 1, .int .i64 20] rfl (by (try simp only [List.map_toArray, List.map_cons, List.map_nil]); first | done | rfl | (simp only [List.length_drop, List.length_take]; rfl)) ?_; (with_reducible refine (impl_within.calls a0_0 1 20 false _ A4.out).mono ?_); rintro e w' ⟨rfl, ⟨nd, rfl⟩⟩; refine ⟨_, rfl, ?_⟩))
      go_meet
      case rel => exact ⟨_, (true), (by first | rfl | (simp; done) | (simp [*]; done)), H', ⟨by first | omega | exact Nat.le_refl _⟩, ⟨by (with_reducible repeat (first | refine blk_drewN ?_ _ | refine blk_drew ?_ | refine blk_alloc ?_ _)); exact BK173.out⟩, ⟨by repeat (first | (with_reducible first | exact HB.out | apply below_alloc | apply pw_below_drewN | apply below_drew1 | refine below_set ?_ GE173.out) | exact HB.out)⟩⟩
  case rest =>
    clear HC2
    try clear c2
    try clear p2
    try clear c4
    try clear c5
    try clear hcz6_0
    try clear hcz6_1
    try clear hcz7_0
    try clear hcz7_1
    try clear hfz6_0
    try clear hfz6_1
    try clear hfz7_0
    try clear hfz7_1
    obtain ⟨kq, x21_1, rfl, HA, HJ1, BK173, HB⟩ := hcut
    cases kq with
    | zero => exact absurd HA.out (by simp [impl_Sprouts_degrees.j0])
    | succ kj1 =>
      have H := HA.out
      clear HA
      simp only [impl_Sprouts_degrees.j0] at H
      by_cases c8 : x21_1 = true
      · subst c8
        have H1 : (some (([] : List Int), false)) = some (r1, r2) := by rw [if_pos rfl] at H; exact H
        clear H
        have H := H1
        clear H1
        simp only [Option.some.injEq, Prod.mk.injEq] at H
        obtain ⟨rfl, rfl⟩ := H
        go_wp2
        go_ret2
        exact ⟨_, by first | rfl | (simp [errW_none, errW_some] <;> rfl) | (simp [*, errW_none, errW_some] <;> rfl), by first | exact Kd.R_nil _ _ _ _ _ | exact Kd.N_nil _ _ _ _ _ | exact Kd.V_nil _ _ _ _ _ | exact Kd.Q_nil _ _ _ _ _ | exact Kd.S_nil _ _ _ _ _, by repeat (first | (with_reducible first | exact HB.out | apply below_alloc | apply pw_below_drewN | apply below_drew1 | refine below_set ?_ GE173.out) | exact HB.out)⟩
      · replace c8 := Bool.eq_false_iff.mpr c8
        subst c8
        have H1 : (if 0 ≤ a0_0 then (if (a0_0 : Int).toNat ≤ 35184372088832 then (if (a0_0 : Int).toNat ≤ 281474976710656 then ((slices_Concat_int64_int64.f kj1 l0_1).bind fun t181 => (impl_Sprouts_degrees.l0 kj1 (List.replicate (a0_0 : Int).toNat 0) (List.replicate (a0_0 : Int).toNat false) t181 (t181.length : Int) 0 a0_0 l0_1)) else (none)) else (none)) else (none)) = some (r1, r2) := by rw [if_neg (show ¬ (false = true) by decide)] at H; exact H
        clear H
        have H := H1
        clear H1
        by_cases c9 : 0 ≤ a0_0
        · rw [if_pos c9] at H
          have c9b0 := eq_true c9
          have c9b1 : decide (0 ≤ a0_0) = true := decide_eq_true c9
          clear c9
          by_cases c10 : (a0_0 : Int).toNat ≤ 35184372088832
          · rw [if_pos c10] at H
            have c10b0 := eq_true c10
            have c10b1 : decide ((a0_0 : Int).toNat ≤ 35184372088832) = true := decide_eq_true c10
            clear c10
            obtain ⟨y175, hy175⟩ : ∃ y_ : List Int, y_ = (List.replicate (a0_0 : Int).toNat 0) := ⟨_, rfl⟩
            replace H : (if (a0_0 : Int).toNat ≤ 281474976710656 then ((slices_Concat_int64_int64.f kj1 l0_1).bind fun t181 => (impl_Sprouts_degrees.l0 kj1 y175 (List.replicate (a0_0 : Int).toNat false) t181 (t181.length : Int) 0 a0_0 l0_1)) else (none)) = some (r1, r2) := by first | (rw [hy175]; with_reducible exact H) | (have H2_ := (Option.bind_some _ _).symm.trans H; rw [hy175]; with_reducible exact H2_) | (have H2_ := (Option.bind_some _ _).symm.trans H; with_reducible exact H2_) | with_reducible exact H | (rw [hy175]; exact H) | exact H
            have Ny175 := Aside0.mk hy175
            clear hy175
            by_cases c11 : (a0_0 : Int).toNat ≤ 281474976710656
            · rw [if_pos c11] at H
              have c11b0 := eq_true c11
              have c11b1 : decide ((a0_0 : Int).toNat ≤ 281474976710656) = true := decide_eq_true c11
              clear c11
              obtain ⟨y178, hy178⟩ : ∃ y_ : List Bool, y_ = (List.replicate (a0_0 : Int).toNat false) := ⟨_, rfl⟩
              replace H : ((slices_Concat_int64_int64.f kj1 l0_1).bind fun t181 => (impl_Sprouts_degrees.l0 kj1 y175 y178 t181 (t181.length : Int) 0 a0_0 l0_1)) = some (r1, r2) := by first | (rw [hy178]; with_reducible exact H) | (have H2_ := (Option.bind_some _ _).symm.trans H; rw [hy178]; with_reducible exact H2_) | (have H2_ := (Option.bind_some _ _).symm.trans H; with_reducible exact H2_) | with_reducible exact H | (rw [hy178]; exact H) | exact H
              have Ny178 := Aside0.mk hy178
              clear hy178
              replace H := Option.bind_eq_some_iff.mp H
              obtain ⟨t181, A108, H⟩ := H
              replace H : (impl_Sprouts_degrees.l0 kj1 y175 y178 t181 (t181.length : Int) 0 a0_0 l0_1) = some (r1, r2) := H
              have A12 := Aside0.mk A108
              clear A108
              have H' := Aside0.mk H
              clear H
              try go_wp2
              have n0_ := Aside0.mk (blk_drew BK173.out)
              have n1_ := Aside0.mk (below_drew1 HB.out)
              clear BK173
              clear HB
              have BK173 := n0_
              have HB := n1_
              clear n0_ n1_
              refine start_ (n := 8) (S := fun w' => w'.cell? ⟨gb173, 0, none⟩ = some (.int .i64 a0_0) ∧ w'.cell? ⟨gb173, 1, none⟩ = some (.slice A0_1 l0_1.length c0_1)) (ds := []) #[false, false, false, false, false, false, false, false] (by kernel_rfl) rfl rfl ⟨(blk_cell BK173.out 0).trans rfl, (blk_cell BK173.out 1).trans rfl⟩ (fun hHeld => ?_); refine with_tabW impl_Sprouts_degrees.tab3 impl_Sprouts_degrees.bits3 (fun HT_ HW_ => ?_)
              generalize wc.drew = w13 at BK173 HB hHeld ⊢
              refine pure_ (i := 0) (N := some 22) (v := ?_) (a' := ?_) #[true, false, false, false, false, false, false, false] rfl rfl (any_of HT_.out (by kernel_rfl)) (fun _ _ _ h => h) (Or.inl ⟨by rfl, ?_⟩) ?_ ?_
              rotate_left
              · intro w'
                go_simp
                with_reducible rfl
              rotate_left
              · simp only [Act.put, List.setIfInBounds_toArray, List.set_cons_zero, List.set_cons_succ, i64_w, i32_w]
                rfl
              refine pure_ (i := 3) (N := some 25) (v := ?_) (a' := ?_) #[true, false, false, true, false, false, false, false] rfl rfl (any_of HT_.out (by kernel_rfl)) (fun _ _ _ h => h) (Or.inl ⟨by rfl, ?_⟩) ?_ ?_
              rotate_left
              · intro w'
                go_simp
                with_reducible rfl
              rotate_left
              · simp only [Act.put, List.setIfInBounds_toArray, List.set_cons_zero, List.set_cons_succ, i64_w, i32_w]
                rfl
              refine take_ (i := 1) (N := some 23) (v := ?_) (a' := ?_) #[true, true, false, true, false, false, false, false] rfl rfl (take_ofW HT_.out HW_.out (by kernel_rfl)) (fun _ _ _ h => h) (Or.inl ⟨by rfl, ?_⟩) hHeld ?_ ?_
              rotate_left
              · rintro w' ⟨s0, s1⟩
                go_simp
                with_reducible rfl
              rotate_left
              · simp only [Act.put, List.setIfInBounds_toArray, List.set_cons_zero, List.set_cons_succ, i64_w, i32_w]
                rfl
              refine take_ (i := 4) (N := some 26) (v := ?_) (a' := ?_) #[true, true, false, true, true, false, false, false] rfl rfl (take_ofW HT_.out HW_.out (by kernel_rfl)) (fun _ _ _ h => h) (Or.inl ⟨by rfl, ?_⟩) hHeld ?_ ?_
              rotate_left
              · rintro w' ⟨s0, s1⟩
                go_simp
                with_reducible rfl
              rotate_left
              · simp only [Act.put, List.setIfInBounds_toArray, List.set_cons_zero, List.set_cons_succ, i64_w, i32_w]
                rfl
              refine join_ (σ := Value × Value) 1 #[true, true, true, true, true, true, true, false] (fun s_ => [(24, s_.1), (27, s_.2), (4, s_.1)]) (fun s_ w' => (w'.cell? ⟨gb173, 0, none⟩ = some (.int .i64 a0_0) ∧ w'.cell? ⟨gb173, 1, none⟩ = some (.slice A0_1 l0_1.length c0_1)) ∧ (Kd.R (Kd.int .i64) 2 w' w.heap.size (fun _ => True) s_.1 y175) ∧ (Kd.R Kd.bool 4 w' w.heap.size (fun _ => True) s_.2 y178) ∧ (w'.heap[gb173]? = some (.cells #[.int .i64 a0_0, .slice A0_1 l0_1.length c0_1] 24 (0, 0))) ∧ (Below w.heap.size w w')) ?_ ?_
              rotate_left
              · intro hCont
                refine two_ (i := 2) (j := 5) (Ni := some 24) (Nj := some 27) #[true, true, true, true, true, false, false, false] #[true, true, false, true, true, true, false, false] rfl rfl rfl rfl (two_of HT_.out (by kernel_rfl)) (by decide) (by decide) (fun K hK => ?_) (fun K hK => ?_)
                · skip
                  refine Kd.R_make_step (Kd.int .i64) _ 2 (by rfl) (N := 24) rfl 38 _ _ rfl a0_0 rfl rfl Tryd.underlying38 (.int .i64 0) 8 info2 rfl (by decide) (by omega) 0 (ok := fun _ => True) (okp := fun _ => True) rfl (fun _ hk => hk) trivial (of_decide_eq_true (by first | (with_reducible assumption) | assumption)) (Nat.le_trans (Nat.mul_le_mul_right _ (of_decide_eq_true (by first | (with_reducible assumption) | assumption) : a0_0.toNat ≤ 35184372088832)) (by omega)) (Below.refl _ _) (Nat.le_refl _) ?_
                  intro v176 w14 ho15 hb hg_ hnew_
                  clear hg_ hnew_
                  (first | rw [← Ny175.out] at ho15 | (simp only [Int.reduceToNat] at ho15; rw [← Ny175.out] at ho15))
                  have n0_ := Aside0.mk (Kd.R_lower ho15 (below_size (by repeat (first | (with_reducible first | exact HB.out | apply below_alloc | apply pw_below_drewN | apply below_drew1 | refine below_set ?_ GE173.out) | exact HB.out))))
                  have n1_ := Aside0.mk (blk_below (g := gb173) (o := .cells #[.int .i64 a0_0, .slice A0_1 l0_1.length c0_1] 24 (0, 0)) (by (with_reducible repeat (first | refine blk_drewN ?_ _ | refine blk_drew ?_ | refine blk_alloc ?_ _)); exact BK173.out) hb)
                  have n2_ := Aside0.mk (below_step (by repeat (first | (with_reducible first | exact HB.out | apply below_alloc | apply pw_below_drewN | apply below_drew1 | refine below_set ?_ GE173.out) | exact HB.out)) hb)
                  clear BK173
                  clear HB
                  have HO177 := n0_
                  have BK173 := n1_
                  have HB := n2_
                  clear n0_ n1_ n2_
                  clear hb ho15
                  refine hK.out _ _ ⟨(blk_cell BK173.out 0).trans rfl, (blk_cell BK173.out 1).trans rfl⟩ (fun hHeld => ?_)
                  clear hK K
                  refine norm_ (a' := ?_) ?_ ?_
                  rotate_left
                  · show Act.put _ (some 24) _ = _
                    simp only [Act.put, List.setIfInBounds_toArray, List.set_cons_zero, List.set_cons_succ, i64_w, i32_w]
                    rfl
                  refine pure_ (i := 6) (N := some 4) (v := ?_) (a' := ?_) #[true, true, true, true, true, false, true, false] rfl rfl (any_of HT_.out (by kernel_rfl)) (fun _ _ _ h => h) (Or.inl ⟨by rfl, ?_⟩) ?_ ?_
                  rotate_left
                  · intro w'
                    go_simp
                    with_reducible rfl
                  rotate_left
                  · simp only [Act.put, List.setIfInBounds_toArray, List.set_cons_zero, List.set_cons_succ, i64_w, i32_w]
                    rfl
                  refine one_ (i := 5) (N := some 27) #[true, true, true, true, true, true, true, false] rfl rfl (one_of HT_.out (by kernel_rfl)) (by decide) (fun K hK => ?_)
                  refine Kd.R_make_step Kd.bool _ 4 (by rfl) (N := 27) rfl 64 _ _ rfl a0_0 rfl rfl Tryd.underlying64 (.bool false) 1 info4 rfl (by decide) (by omega) false (ok := fun _ => True) (okp := fun _ => True) rfl (fun _ hk => hk) trivial (of_decide_eq_true (by first | (with_reducible assumption) | assumption)) (Nat.le_trans (Nat.mul_le_mul_right _ (of_decide_eq_true (by first | (with_reducible assumption) | assumption) : a0_0.toNat ≤ 281474976710656)) (by omega)) (Below.refl _ _) (Nat.le_refl _) ?_
                  intro v179 w16 ho17 hb hg_ hnew_
                  clear hg_ hnew_
                  (first | rw [← Ny178.out] at ho17 | (simp only [Int.reduceToNat] at ho17; rw [← Ny178.out] at ho17))
                  have n0_ := Aside0.mk (Kd.R_below (by (with_reducible repeat (first | apply Kd.R_alloc | apply Kd.R_drewN | apply Kd.R_drew)); exact HO177.out) hb)
                  have n1_ := Aside0.mk (Kd.R_lower ho17 (below_size (by repeat (first | (with_reducible first | exact HB.out | apply below_alloc | apply pw_below_drewN | apply below_drew1 | refine below_set ?_ GE173.out) | exact HB.out))))
                  have n2_ := Aside0.mk (blk_below (g := gb173) (o := .cells #[.int .i64 a0_0, .slice A0_1 l0_1.length c0_1] 24 (0, 0)) (by (with_reducible repeat (first | refine blk_drewN ?_ _ | refine blk_drew ?_ | refine blk_alloc ?_ _)); exact BK173.out) hb)
                  have n3_ := Aside0.mk (below_step (by repeat (first | (with_reducible first | exact HB.out | apply below_alloc | apply pw_below_drewN | apply below_drew1 | refine below_set ?_ GE173.out) | exact HB.out)) hb)
                  clear HO177
                  clear BK173
                  clear HB
                  have HO177 := n0_
                  have HO180 := n1_
                  have BK173 := n2_
                  have HB := n3_
                  clear n0_ n1_ n2_ n3_
                  clear hb ho17
                  refine hK.out _ _ ⟨(blk_cell BK173.out 0).trans rfl, (blk_cell BK173.out 1).trans rfl⟩ (fun hHeld => ?_)
                  clear hK K
                  refine norm_ (a' := ?_) ?_ ?_
                  rotate_left
                  · show Act.put _ (some 27) _ = _
                    simp only [Act.put, List.setIfInBounds_toArray, List.set_cons_zero, List.set_cons_succ, i64_w, i32_w]
                    rfl
                  exact norm_ (by simp only [putAll, Act.put, List.setIfInBounds_toArray, List.set_cons_zero, List.set_cons_succ]) (hCont (v176, v179) _ ⟨hHeld, (by (with_reducible repeat (first | apply Kd.R_alloc | apply Kd.R_drewN | apply Kd.R_drew)); exact HO177.out), (by (with_reducible repeat (first | apply Kd.R_alloc | apply Kd.R_drewN | apply Kd.R_drew)); exact HO180.out), (by (with_reducible repeat (first | refine blk_drewN ?_ _ | refine blk_drew ?_ | refine blk_alloc ?_ _)); exact BK173.out), (by repeat (first | (with_reducible first | exact HB.out | apply below_alloc | apply pw_below_drewN | apply below_drew1 | refine below_set ?_ GE173.out) | exact HB.out))⟩)
                · skip
                  refine Kd.R_make_step Kd.bool _ 4 (by rfl) (N := 27) rfl 64 _ _ rfl a0_0 rfl rfl Tryd.underlying64 (.bool false) 1 info4 rfl (by decide) (by omega) false (ok := fun _ => True) (okp := fun _ => True) rfl (fun _ hk => hk) trivial (of_decide_eq_true (by first | (with_reducible assumption) | assumption)) (Nat.le_trans (Nat.mul_le_mul_right _ (of_decide_eq_true (by first | (with_reducible assumption) | assumption) : a0_0.toNat ≤ 281474976710656)) (by omega)) (Below.refl _ _) (Nat.le_refl _) ?_
                  intro v179 w14 ho15 hb hg_ hnew_
                  clear hg_ hnew_
                  (first | rw [← Ny178.out] at ho15 | (simp only [Int.reduceToNat] at ho15; rw [← Ny178.out] at ho15))
                  have n0_ := Aside0.mk (Kd.R_lower ho15 (below_size (by repeat (first | (with_reducible first | exact HB.out | apply below_alloc | apply pw_below_drewN | apply below_drew1 | refine below_set ?_ GE173.out) | exact HB.out))))
                  have n1_ := Aside0.mk (blk_below (g := gb173) (o := .cells #[.int .i64 a0_0, .slice A0_1 l0_1.length c0_1] 24 (0, 0)) (by (with_reducible repeat (first | refine blk_drewN ?_ _ | refine blk_drew ?_ | refine blk_alloc ?_ _)); exact BK173.out) hb)
                  have n2_ := Aside0.mk (below_step (by repeat (first | (with_reducible first | exact HB.out | apply below_alloc | apply pw_below_drewN | apply below_drew1 | refine below_set ?_ GE173.out) | exact HB.out)) hb)
                  clear BK173
                  clear HB
                  have HO180 := n0_
                  have BK173 := n1_
                  have HB := n2_
                  clear n0_ n1_ n2_
                  clear hb ho15
                  refine hK.out _ _ ⟨(blk_cell BK173.out 0).trans rfl, (blk_cell BK173.out 1).trans rfl⟩ (fun hHeld => ?_)
                  clear hK K
                  refine norm_ (a' := ?_) ?_ ?_
                  rotate_left
                  · show Act.put _ (some 27) _ = _
                    simp only [Act.put, List.setIfInBounds_toArray, List.set_cons_zero, List.set_cons_succ, i64_w, i32_w]
                    rfl
                  refine one_ (i := 2) (N := some 24) #[true, true, true, true, true, true, false, false] rfl rfl (one_of HT_.out (by kernel_rfl)) (by decide) (fun K hK => ?_)
                  refine Kd.R_make_step (Kd.int .i64) _ 2 (by rfl) (N := 24) rfl 38 _ _ rfl a0_0 rfl rfl Tryd.underlying38 (.int .i64 0) 8 info2 rfl (by decide) (by omega) 0 (ok := fun _ => True) (okp := fun _ => True) rfl (fun _ hk => hk) trivial (of_decide_eq_true (by first | (with_reducible assumption) | assumption)) (Nat.le_trans (Nat.mul_le_mul_right _ (of_decide_eq_true (by first | (with_reducible assumption) | assumption) : a0_0.toNat ≤ 35184372088832)) (by omega)) (Below.refl _ _) (Nat.le_refl _) ?_
                  intro v176 w16 ho17 hb hg_ hnew_
                  clear hg_ hnew_
                  (first | rw [← Ny175.out] at ho17 | (simp only [Int.reduceToNat] at ho17; rw [← Ny175.out] at ho17))
                  have n0_ := Aside0.mk (Kd.R_below (by (with_reducible repeat (first | apply Kd.R_alloc | apply Kd.R_drewN | apply Kd.R_drew)); exact HO180.out) hb)
                  have n1_ := Aside0.mk (Kd.R_lower ho17 (below_size (by repeat (first | (with_reducible first | exact HB.out | apply below_alloc | apply pw_below_drewN | apply below_drew1 | refine below_set ?_ GE173.out) | exact HB.out))))
                  have n2_ := Aside0.mk (blk_below (g := gb173) (o := .cells #[.int .i64 a0_0, .slice A0_1 l0_1.length c0_1] 24 (0, 0)) (by (with_reducible repeat (first | refine blk_drewN ?_ _ | refine blk_drew ?_ | refine blk_alloc ?_ _)); exact BK173.out) hb)
                  have n3_ := Aside0.mk (below_step (by repeat (first | (with_reducible first | exact HB.out | apply below_alloc | apply pw_below_drewN | apply below_drew1 | refine below_set ?_ GE173.out) | exact HB.out)) hb)
                  clear HO180
                  clear BK173
                  clear HB
                  have HO180 := n0_
                  have HO177 := n1_
                  have BK173 := n2_
                  have HB := n3_
                  clear n0_ n1_ n2_ n3_
                  clear hb ho17
                  refine hK.out _ _ ⟨(blk_cell BK173.out 0).trans rfl, (blk_cell BK173.out 1).trans rfl⟩ (fun hHeld => ?_)
                  clear hK K
                  refine norm_ (a' := ?_) ?_ ?_
                  rotate_left
                  · show Act.put _ (some 24) _ = _
                    simp only [Act.put, List.setIfInBounds_toArray, List.set_cons_zero, List.set_cons_succ, i64_w, i32_w]
                    rfl
                  refine pure_ (i := 6) (N := some 4) (v := ?_) (a' := ?_) #[true, true, true, true, true, true, true, false] rfl rfl (any_of HT_.out (by kernel_rfl)) (fun _ _ _ h => h) (Or.inl ⟨by rfl, ?_⟩) ?_ ?_
                  rotate_left
                  · intro w'
                    go_simp
                    with_reducible rfl
                  rotate_left
                  · simp only [Act.put, List.setIfInBounds_toArray, List.set_cons_zero, List.set_cons_succ, i64_w, i32_w]
                    rfl
                  exact norm_ (by simp only [putAll, Act.put, List.setIfInBounds_toArray, List.set_cons_zero, List.set_cons_succ]) (hCont (v176, v179) _ ⟨hHeld, (by (with_reducible repeat (first | apply Kd.R_alloc | apply Kd.R_drewN | apply Kd.R_drew)); exact HO177.out), (by (with_reducible repeat (first | apply Kd.R_alloc | apply Kd.R_drewN | apply Kd.R_drew)); exact HO180.out), (by (with_reducible repeat (first | refine blk_drewN ?_ _ | refine blk_drew ?_ | refine blk_alloc ?_ _)); exact BK173.out), (by repeat (first | (with_reducible first | exact HB.out | apply below_alloc | apply pw_below_drewN | apply below_drew1 | refine below_set ?_ GE173.out) | exact HB.out))⟩)
              rintro ⟨v176, v179⟩ w18 ⟨hS_, h0_, h1_, h2_, h3_⟩
              have n0_ : Aside0 (Kd.R (Kd.int .i64) 2 w18 w.heap.size (fun _ => True) v176 y175) := ⟨h0_⟩
              have n1_ : Aside0 (Kd.R Kd.bool 4 w18 w.heap.size (fun _ => True) v179 y178) := ⟨h1_⟩
              have n2_ : Aside0 (w18.heap[gb173]? = some (.cells #[.int .i64 a0_0, .slice A0_1 l0_1.length c0_1] 24 (0, 0))) := ⟨h2_⟩
              have n3_ : Aside0 (Below w.heap.size w w18) := ⟨h3_⟩
              clear BK173
              clear HB
              clear h0_ h1_ h2_ h3_
              have HO177 := n0_
              have HO180 := n1_
              have BK173 := n2_
              have HB := n3_
              clear n0_ n1_ n2_ n3_
              have hHeld : w18.cell? ⟨gb173, 0, none⟩ = some (.int .i64 a0_0) ∧ w18.cell? ⟨gb173, 1, none⟩ = some (.slice A0_1 l0_1.length c0_1) := hS_
              refine norm_ (a' := ?_) ?_ ?_
              rotate_left
              · simp only [putAll, Act.put, List.setIfInBounds_toArray, List.set_cons_zero, List.set_cons_succ]
                rfl
              refine pure_ (i := 7) (N := some 5) (v := ?_) (a' := ?_) #[true, true, true, true, true, true, true, true] rfl rfl (any_of HT_.out (by kernel_rfl)) (fun _ _ _ h => h) (Or.inl ⟨by rfl, ?_⟩) ?_ ?_
              rotate_left
              · intro w'
                go_simp
                with_reducible rfl
              rotate_left
              · simp only [Act.put, List.setIfInBounds_toArray, List.set_cons_zero, List.set_cons_succ, i64_w, i32_w]
                rfl
              refine done_ (done_of HT_.out (by kernel_rfl)) ?_
              have hcz19_0 : w18.cell? ⟨gb173, 0, none⟩ = some (.int .i64 a0_0) := (blk_cell BK173.out 0).trans rfl
              have hcz19_1 : w18.cell? ⟨gb173, 1, none⟩ = some (.slice A0_1 l0_1.length c0_1) := (blk_cell BK173.out 1).trans rfl
              have hfz19_0 := blk_frozen BK173.out 0
              have hfz19_1 := blk_frozen BK173.out 1
              try go_wp2_with (first | ((with_reducible refine gate_callee (f := 42) rfl ?_); refine goesL_ (some 30) rfl rfl Tryd.func42 (by kernel_rfl) rfl #[.slice A0_1 l0_1.length c0_1] rfl (by (try simp only [List.map_toArray, List.map_cons, List.map_nil]); first | done | rfl | (simp only [List.length_drop, List.length_take]; rfl)) ?_; (with_reducible refine (slices_Concat_int64_int64.calls kj1 (fun k_ => k_ < w.heap.size) _ _ l0_1 t181 _ ?side1 A12.out).mono ?_); (case side1 => exact Kd.V_mk HC0_1.out (Kd.F_below (Kd.C_F (Kd.heap_slice 38 (Kd.heap_slice 2 (Kd.heap_int .i64))) HR0_1.out) (by repeat (first | (with_reducible first | exact HB.out | apply below_alloc | apply pw_below_drewN | apply below_drew1 | refine below_set ?_ GE173.out) | exact HB.out)))); rintro e w20 ⟨v182, rfl, ho0, hb⟩; refine ⟨_, rfl, ?_⟩; have n0_ := Aside0.mk (Kd.R_below (by (with_reducible repeat (first | apply Kd.R_alloc | apply Kd.R_drewN | apply Kd.R_drew)); exact HO177.out) hb); have n1_ := Aside0.mk (Kd.R_below (by (with_reducible repeat (first | apply Kd.R_alloc | apply Kd.R_drewN | apply Kd.R_drew)); exact HO180.out) hb); have n2_ := Aside0.mk (Kd.N_lower (Kd.N_mono (ok' := fun k_ => some k_ ≠ (v176 : Value).ownBlock ∧ some k_ ≠ (v179 : Value).ownBlock ∧ k_ ≠ gb173) ho0 (fun k_ hk_ => ⟨Or.elim hk_ (fun hs_ => fun e_ => Nat.not_le.2 hs_ (Kd.R_base HO177.out k_ e_.symm)) (fun hn_ => (Kd.fresh' (Kd.R_lt (by (with_reducible repeat (first | apply Kd.R_alloc | apply Kd.R_drewN | apply Kd.R_drew)); exact HO177.out)) k_ hn_)), Or.elim hk_ (fun hs_ => fun e_ => Nat.not_le.2 hs_ (Kd.R_base HO180.out k_ e_.symm)) (fun hn_ => (Kd.fresh' (Kd.R_lt (by (with_reducible repeat (first | apply Kd.R_alloc | apply Kd.R_drewN | apply Kd.R_drew)); exact HO180.out)) k_ hn_)), Or.elim hk_ (fun hs_ => fun e_ => Nat.not_le.2 hs_ (by rw [e_]; exact GW173.out)) (fun hn_ => (Kd.freshB (g := gb173) (o := .cells #[.int .i64 a0_0, .slice A0_1 l0_1.length c0_1] 24 (0, 0)) (by (with_reducible repeat (first | refine blk_drewN ?_ _ | refine blk_drew ?_ | refine blk_alloc ?_ _)); exact BK173.out) k_ hn_))⟩)) (below_size (by repeat (first | (with_reducible first | exact HB.out | apply below_alloc | apply pw_below_drewN | apply below_drew1 | refine below_set ?_ GE173.out) | exact HB.out)))); have n3_ := Aside0.mk (blk_below (g := gb173) (o := .cells #[.int .i64 a0_0, .slice A0_1 l0_1.length c0_1] 24 (0, 0)) (by (with_reducible repeat (first | refine blk_drewN ?_ _ | refine blk_drew ?_ | refine blk_alloc ?_ _)); exact BK173.out) hb); have n4_ := Aside0.mk (below_step (by repeat (first | (with_reducible first | exact HB.out | apply below_alloc | apply pw_below_drewN | apply below_drew1 | refine below_set ?_ GE173.out) | exact HB.out)) hb); clear HO177; clear HO180; clear BK173; clear HB; have HO177 := n0_; have HO180 := n1_; have HO183 := n2_; have BK173 := n3_; have HB := n4_; clear n0_ n1_ n2_ n3_ n4_; (try clear hb); (try clear hb2); (try clear hk); (try clear hi); (try clear ho0); obtain ⟨Ao21, co21, eo21⟩ := Kd.N_slice HO183.out; subst eo21))
              go_loopg [32] kj1 (fun kq v32 w' => ∃ (x4_2 : List Int) (x5_2 : List Bool) (x32_2 : Int), v32 = .int .i64 x32_2 ∧ Aside0 (impl_Sprouts_degrees.l0 kq x4_2 x5_2 t181 (t181.length : Int) x32_2 a0_0 l0_1 = some (r1, r2)) ∧ Aside0 (kq ≤ kj1) ∧ Aside0 (Kd.R (Kd.int .i64) 2 w' w.heap.size (fun _ => True) v176 x4_2) ∧ Aside0 (Kd.R Kd.bool 4 w' w.heap.size (fun _ => True) v179 x5_2) ∧ Aside0 (Kd.N (Kd.slice 2 (Kd.int .i64)) 38 w' w.heap.size (fun k_ => some k_ ≠ (v176 : Value).ownBlock ∧ some k_ ≠ (v179 : Value).ownBlock ∧ k_ ≠ gb173) (.slice Ao21 t181.length co21) t181) ∧ Aside0 (w'.heap[gb173]? = some (.cells #[.int .i64 a0_0, (.slice A0_1 l0_1.length c0_1)] 24 (0, 0))) ∧ Aside0 (Below w.heap.size w w'))
              case atStart => exact ⟨(y175), (y178), (0), (by first | rfl | (simp; done) | (simp [*]; done)), H', ⟨Nat.le_refl _⟩, ⟨by (with_reducible repeat (first | apply Kd.R_alloc | apply Kd.R_drewN | apply Kd.R_drew)); exact HO177.out⟩, ⟨by (with_reducible repeat (first | apply Kd.R_alloc | apply Kd.R_drewN | apply Kd.R_drew)); exact HO180.out⟩, ⟨by (with_reducible repeat (first | apply Kd.N_alloc | apply Kd.N_drewN | apply Kd.N_drew)); exact HO183.out⟩, ⟨by (with_reducible repeat (first | refine blk_drewN ?_ _ | refine blk_drew ?_ | refine blk_alloc ?_ _)); exact BK173.out⟩, ⟨by repeat (first | (with_reducible first | exact HB.out | apply below_alloc | apply pw_below_drewN | apply below_drew1 | refine below_set ?_ GE173.out) | exact HB.out)⟩⟩
              case round =>
                clear H'
                try clear c1
                try clear c2
                try clear p2
                try clear c4
                try clear c5
                try clear c8
                try clear c9
                try clear c9b0
                try clear c9b1
                try clear c10
                try clear c10b0
                try clear c10b1
                try clear c11
                try clear c11b0
                try clear c11b1
                try clear hcz19_0
                try clear hcz19_1
                try clear hcz6_0
                try clear hcz6_1
                try clear hcz7_0
                try clear hcz7_1
                try clear hfz19_0
                try clear hfz19_1
                try clear hfz6_0
                try clear hfz6_1
                try clear hfz7_0
                try clear hfz7_1
                try clear p2
                obtain ⟨x4_2, x5_2, x32_2, rfl, HA, HK2, HO_4, HO_5, HO_30, BK173, HB⟩ := hrel
                cases gk with
                | zero => exact absurd HA.out (by simp [impl_Sprouts_degrees.l0])
                | succ k2 =>
                  have H := HA.out
                  clear HA
                  simp only [impl_Sprouts_degrees.l0] at H
                  by_cases c22 : x32_2 < (t181.length : Int)
                  · rw [if_pos c22] at H
                    have c22b0 : decide (x32_2 < (t181.length : Int)) = true := decide_eq_true c22
                    clear c22
                    by_cases c23 : 0 ≤ x32_2
                    · rw [if_pos c23] at H
                      have c23b0 : decide (0 ≤ x32_2) = true := decide_eq_true c23
                      clear c23
                      by_cases c24 : x32_2 < (t181.length : Int)
                      · rw [if_pos c24] at H
                        have c24b0 : decide (x32_2 < (t181.length : Int)) = true := decide_eq_true c24
                        clear c24
                        have H' := Aside0.mk H
                        clear H
                        have p184 : 0 ≤ (x32_2 : Int) := of_decide_eq_true (by first | (with_reducible assumption) | assumption)
                        have q184 : x32_2 < (t181.length : Int) := of_decide_eq_true (by first | (with_reducible assumption) | assumption)
                        obtain ⟨ad184, A184_0, c184_0, e184, hx184_0, hl184_0, hi184_0⟩ := at_L2 (Kd.N_reads' HO_30.out).2.2 x32_2 p184 q184
                        cases e184
                        obtain ⟨ce184, hce184, hMe184, hcc184⟩ := Kd.N_get HO_30.out [] x32_2 p184 (by first | exact q184 | exact of_decide_eq_true (by first | (with_reducible assumption) | assumption) | (have e_ := (Kd.N_reads' HO_30.out).1; omega))
                        obtain ⟨ua184_0, uc184_0, rfl, ul184_0, ge184_0⟩ := Kd.FK_slice_open hMe184
                        have hv184_0 := hcc184 0 _ rfl
                        rw [Nat.add_zero, show ((Kd.slice 2 (Kd.int .i64))).sz = 1 from rfl, Nat.mul_one] at hv184_0
                        replace hv184_0 := Option.some.inj (hv184_0.symm.trans hx184_0)
                        injection hv184_0 with hva_ hvn_ hvc_
                        rw [hva_] at ge184_0
                        rw [hvc_] at ul184_0
                        have HL184_0 := Aside0.mk (show Kd.V (Kd.int .i64) 2 _ w.heap.size _ _ (rd_L2 t181 x32_2) from Kd.V_mk ul184_0 ge184_0)
                        clear hva_ hvn_ hvc_ ge184_0 ul184_0
                        clear hcc184 hce184
                        have HR184_0 := Aside0.mk hi184_0
                        have HC184_0 := Aside0.mk hl184_0
                        clear hi184_0 hl184_0
                        replace p184 := eq_true p184
                        replace q184 := eq_true q184
                        go_wp2
                        go_loopg [38] k2 (fun kq v38 w' => ∃ (x4_3 : List Int) (x5_3 : List Bool) (x38_3 : Int), v38 = .int .i64 x38_3 ∧ Aside0 (impl_Sprouts_degrees.l1 kq x4_3 x5_3 (rd_L2 t181 x32_2) t181 (t181.length : Int) x32_2 (rd_L2 t181 x32_2) ((rd_L2 t181 x32_2).length : Int) x38_3 a0_0 l0_1 = some (r1, r2)) ∧ Aside0 (kq ≤ k2) ∧ Aside0 (Kd.R (Kd.int .i64) 2 w' w.heap.size (fun _ => True) v176 x4_3) ∧ Aside0 (Kd.R Kd.bool 4 w' w.heap.size (fun _ => True) v179 x5_3) ∧ Aside0 (NV w' w.heap.size (fun k_ => some k_ ≠ (v176 : Value).ownBlock ∧ some k_ ≠ (v179 : Value).ownBlock ∧ k_ ≠ gb173) (.slice (some ad184) t181.length co21) t181 A184_0 (rd_L2 t181 x32_2).length c184_0 (rd_L2 t181 x32_2)) ∧ Aside0 (w'.heap[gb173]? = some (.cells #[.int .i64 a0_0, (.slice A0_1 l0_1.length c0_1)] 24 (0, 0))) ∧ Aside0 (Below w.heap.size w w'))
                        case atStart => exact ⟨(x4_2), (x5_2), (0), (by first | rfl | (simp; done) | (simp [*]; done)), H', ⟨Nat.le_refl _⟩, ⟨by (with_reducible repeat (first | apply Kd.R_alloc | apply Kd.R_drewN | apply Kd.R_drew)); exact HO_4.out⟩, ⟨by (with_reducible repeat (first | apply Kd.R_alloc | apply Kd.R_drewN | apply Kd.R_drew)); exact HO_5.out⟩, ⟨by (with_reducible repeat (first | apply NV_alloc | apply NV_drewN | apply NV_drew)); exact ⟨HO_30.out, Kd.V_mono HL184_0.out (fun _ hk => hk.1)⟩⟩, ⟨by (with_reducible repeat (first | refine blk_drewN ?_ _ | refine blk_drew ?_ | refine blk_alloc ?_ _)); exact BK173.out⟩, ⟨by repeat (first | (with_reducible first | exact HB.out | apply below_alloc | apply pw_below_drewN | apply below_drew1 | refine below_set ?_ GE173.out) | exact HB.out)⟩⟩
                        case round =>
                          clear H'
                          try clear c1
                          try clear p1
                          try clear q1
                          try clear hx1
                          try clear c2
                          try clear p2
                          try clear c4
                          try clear c5
                          try clear c8
                          try clear c9
                          try clear c9b0
                          try clear c9b1
                          try clear c10
                          try clear c10b0
                          try clear c10b1
                          try clear c11
                          try clear c11b0
                          try clear c11b1
                          try clear c19
                          try clear p19
                          try clear q19
                          try clear hx19
                          try clear c22
                          try clear c22b0
                          try clear c23
                          try clear c23b0
                          try clear c24
                          try clear c24b0
                          try clear hcz19_0
                          try clear hcz19_1
                          try clear hcz6_0
                          try clear hcz6_1
                          try clear hcz7_0
                          try clear hcz7_1
                          try clear hfz19_0
                          try clear hfz19_1
                          try clear hfz6_0
                          try clear hfz6_1
                          try clear hfz7_0
                          try clear hfz7_1
                          try clear hx184_0
                          try clear p184
                          try clear p2
                          try clear q184
                          obtain ⟨x4_3, x5_3, x38_3, rfl, HA, HK3, HO_4, HO_5, HO_30, BK173, HB⟩ := hrel
                          cases gk with
                          | zero => exact absurd HA.out (by simp [impl_Sprouts_degrees.l1])
                          | succ k3 =>
                            have H := HA.out
                            clear HA
                            simp only [impl_Sprouts_degrees.l1] at H
                            by_cases c25 : x38_3 < ((rd_L2 t181 x32_2).length : Int)
                            · rw [if_pos c25] at H
                              have c25b0 : decide (x38_3 < ((rd_L2 t181 x32_2).length : Int)) = true := decide_eq_true c25
                              clear c25
                              by_cases c26 : 0 ≤ x38_3
                              · rw [if_pos c26] at H
                                have c26b0 : decide (0 ≤ x38_3) = true := decide_eq_true c26
                                clear c26
                                by_cases c27 : x38_3 < ((rd_L2 t181 x32_2).length : Int)
                                · rw [if_pos c27] at H
                                  have c27b0 : decide (x38_3 < ((rd_L2 t181 x32_2).length : Int)) = true := decide_eq_true c27
                                  clear c27
                                  replace H := Option.bind_eq_some_iff.mp H
                                  obtain ⟨t186, A268, H⟩ := H
                                  replace H : (if t186 = true then (if 0 ≤ (rd (rd_L2 t181 x32_2) x38_3) then (if (rd (rd_L2 t181 x32_2) x38_3) < (x4_3.length : Int) then ((some (x4_3.set ((rd (rd_L2 t181 x32_2) x38_3) : Int).toNat (wrap64 ((rd x4_3 (rd (rd_L2 t181 x32_2) x38_3)) + 1)) : List Int)).bind fun y188 => (if (rd (rd_L2 t181 x32_2) x38_3) < (x5_3.length : Int) then (if rdOf false x5_3 (rd (rd_L2 t181 x32_2) x38_3) = true then (impl_Sprouts_degrees.l1 k3 y188 (x5_3.set ((rd (rd_L2 t181 x32_2) x38_3) : Int).toNat true) (rd_L2 t181 x32_2) t181 (t181.length : Int) x32_2 (rd_L2 t181 x32_2) ((rd_L2 t181 x32_2).length : Int) (wrap64 (x38_3 + 1)) a0_0 l0_1) else (impl_Sprouts_degrees.l1 k3 y188 (x5_3.set ((rd (rd_L2 t181 x32_2) x38_3) : Int).toNat (((rd_L2 t181 x32_2).length : Int) == 1)) (rd_L2 t181 x32_2) t181 (t181.length : Int) x32_2 (rd_L2 t181 x32_2) ((rd_L2 t181 x32_2).length : Int) (wrap64 (x38_3 + 1)) a0_0 l0_1)) else (none))) else (none)) else (none)) else (some (([] : List Int), false))) = some (r1, r2) := H
                                  have A28 := Aside0.mk A268
                                  clear A268
                                  by_cases c29 : t186 = true
                                  · subst c29
                                    have H1 : (if 0 ≤ (rd (rd_L2 t181 x32_2) x38_3) then (if (rd (rd_L2 t181 x32_2) x38_3) < (x4_3.length : Int) then ((some (x4_3.set ((rd (rd_L2 t181 x32_2) x38_3) : Int).toNat (wrap64 ((rd x4_3 (rd (rd_L2 t181 x32_2) x38_3)) + 1)) : List Int)).bind fun y188 => (if (rd (rd_L2 t181 x32_2) x38_3) < (x5_3.length : Int) then (if rdOf false x5_3 (rd (rd_L2 t181 x32_2) x38_3) = true then (impl_Sprouts_degrees.l1 k3 y188 (x5_3.set ((rd (rd_L2 t181 x32_2) x38_3) : Int).toNat true) (rd_L2 t181 x32_2) t181 (t181.length : Int) x32_2 (rd_L2 t181 x32_2) ((rd_L2 t181 x32_2).length : Int) (wrap64 (x38_3 + 1)) a0_0 l0_1) else (impl_Sprouts_degrees.l1 k3 y188 (x5_3.set ((rd (rd_L2 t181 x32_2) x38_3) : Int).toNat (((rd_L2 t181 x32_2).length : Int) == 1)) (rd_L2 t181 x32_2) t181 (t181.length : Int) x32_2 (rd_L2 t181 x32_2) ((rd_L2 t181 x32_2).length : Int) (wrap64 (x38_3 + 1)) a0_0 l0_1)) else (none))) else (none)) else (none)) = some (r1, r2) := by rw [if_pos rfl] at H; exact H
                                    clear H
                                    have H := H1
                                    clear H1
                                    by_cases c30 : 0 ≤ (rd (rd_L2 t181 x32_2) x38_3)
                                    · rw [if_pos c30] at H
                                      have c30b0 : decide (0 ≤ (rd (rd_L2 t181 x32_2) x38_3)) = true := decide_eq_true c30
                                      clear c30
                                      by_cases c31 : (rd (rd_L2 t181 x32_2) x38_3) < (x4_3.length : Int)
                                      · rw [if_pos c31] at H
                                        have c31b0 : decide ((rd (rd_L2 t181 x32_2) x38_3) < (x4_3.length : Int)) = true := decide_eq_true c31
                                        clear c31
                                        obtain ⟨y188, hy188⟩ : ∃ y_ : List Int, y_ = (x4_3.set ((rd (rd_L2 t181 x32_2) x38_3) : Int).toNat (wrap64 ((rd x4_3 (rd (rd_L2 t181 x32_2) x38_3)) + 1))) := ⟨_, rfl⟩
                                        replace H : (if (rd (rd_L2 t181 x32_2) x38_3) < (x5_3.length : Int) then (if rdOf false x5_3 (rd (rd_L2 t181 x32_2) x38_3) = true then (impl_Sprouts_degrees.l1 k3 y188 (x5_3.set ((rd (rd_L2 t181 x32_2) x38_3) : Int).toNat true) (rd_L2 t181 x32_2) t181 (t181.length : Int) x32_2 (rd_L2 t181 x32_2) ((rd_L2 t181 x32_2).length : Int) (wrap64 (x38_3 + 1)) a0_0 l0_1) else (impl_Sprouts_degrees.l1 k3 y188 (x5_3.set ((rd (rd_L2 t181 x32_2) x38_3) : Int).toNat (((rd_L2 t181 x32_2).length : Int) == 1)) (rd_L2 t181 x32_2) t181 (t181.length : Int) x32_2 (rd_L2 t181 x32_2) ((rd_L2 t181 x32_2).length : Int) (wrap64 (x38_3 + 1)) a0_0 l0_1)) else (none)) = some (r1, r2) := by first | (rw [hy188]; with_reducible exact H) | (have H2_ := (Option.bind_some _ _).symm.trans H; rw [hy188]; with_reducible exact H2_) | (have H2_ := (Option.bind_some _ _).symm.trans H; with_reducible exact H2_) | with_reducible exact H | (rw [hy188]; exact H) | exact H
                                        have Ny188 := Aside0.mk hy188
                                        clear hy188
                                        by_cases c33 : (rd (rd_L2 t181 x32_2) x38_3) < (x5_3.length : Int)
                                        · rw [if_pos c33] at H
                                          have c33b0 : decide ((rd (rd_L2 t181 x32_2) x38_3) < (x5_3.length : Int)) = true := decide_eq_true c33
                                          clear c33
                                          obtain ⟨bq34, hbq34⟩ : ∃ b_ : Bool, b_ = (rdOf false x5_3 (rd (rd_L2 t181 x32_2) x38_3)) := ⟨_, rfl⟩
                                          replace H : (if bq34 = true then (impl_Sprouts_degrees.l1 k3 y188 (x5_3.set ((rd (rd_L2 t181 x32_2) x38_3) : Int).toNat true) (rd_L2 t181 x32_2) t181 (t181.length : Int) x32_2 (rd_L2 t181 x32_2) ((rd_L2 t181 x32_2).length : Int) (wrap64 (x38_3 + 1)) a0_0 l0_1) else (impl_Sprouts_degrees.l1 k3 y188 (x5_3.set ((rd (rd_L2 t181 x32_2) x38_3) : Int).toNat (((rd_L2 t181 x32_2).length : Int) == 1)) (rd_L2 t181 x32_2) t181 (t181.length : Int) x32_2 (rd_L2 t181 x32_2) ((rd_L2 t181 x32_2).length : Int) (wrap64 (x38_3 + 1)) a0_0 l0_1)) = some (r1, r2) := by rw [← hbq34] at H; exact H
                                          have Nbq34 := Aside0.mk hbq34
                                          clear hbq34
                                          by_cases c35 : bq34 = true
                                          · subst c35
                                            have H1 : (impl_Sprouts_degrees.l1 k3 y188 (x5_3.set ((rd (rd_L2 t181 x32_2) x38_3) : Int).toNat true) (rd_L2 t181 x32_2) t181 (t181.length : Int) x32_2 (rd_L2 t181 x32_2) ((rd_L2 t181 x32_2).length : Int) (wrap64 (x38_3 + 1)) a0_0 l0_1) = some (r1, r2) := by rw [if_pos rfl] at H; exact H
                                            clear H
                                            have H := H1
                                            clear H1
                                            obtain ⟨y190, hy190⟩ : ∃ y_ : List Bool, y_ = (x5_3.set ((rd (rd_L2 t181 x32_2) x38_3) : Int).toNat true) := ⟨_, rfl⟩
                                            replace H : (impl_Sprouts_degrees.l1 k3 y188 y190 (rd_L2 t181 x32_2) t181 (t181.length : Int) x32_2 (rd_L2 t181 x32_2) ((rd_L2 t181 x32_2).length : Int) (wrap64 (x38_3 + 1)) a0_0 l0_1) = some (r1, r2) := by first | (rw [hy190]; with_reducible exact H) | (have H2_ := (Option.bind_some _ _).symm.trans H; rw [hy190]; with_reducible exact H2_) | (have H2_ := (Option.bind_some _ _).symm.trans H; with_reducible exact H2_) | with_reducible exact H | (rw [hy190]; exact H) | exact H
                                            have Ny190 := Aside0.mk hy190
                                            clear hy190
                                            have H' := Aside0.mk H
                                            clear H
                                            have p185 : 0 ≤ (x38_3 : Int) := of_decide_eq_true (by first | (with_reducible assumption) | assumption)
                                            have q185 : x38_3 < ((rd_L2 t181 x32_2).length : Int) := of_decide_eq_true (by first | (with_reducible assumption) | assumption)
                                            obtain ⟨ad185, e185, hx185_0⟩ := Kd.at_int (Kd.V_reads' HO_30.out.2).2.2 x38_3 p185 q185
                                            cases e185

                                            replace p185 := eq_true p185
                                            replace q185 := eq_true q185
                                            have hcz37_0 : wr.cell? ⟨gb173, 0, none⟩ = some (.int .i64 a0_0) := (blk_cell BK173.out 0).trans rfl
                                            have hcz37_1 : wr.cell? ⟨gb173, 1, none⟩ = some (.slice A0_1 l0_1.length c0_1) := (blk_cell BK173.out 1).trans rfl
                                            have hfz37_0 := blk_frozen BK173.out 0
                                            have hfz37_1 := blk_frozen BK173.out 1
                                            go_wp2_with (first | ((with_reducible refine gate_callee (f := 41) rfl ?_); refine goesL_ (some 46) rfl rfl Tryd.func41 (by kernel_rfl) rfl #[.int .i64 (rd (rd_L2 t181 x32_2) x38_3), .int .i64 0, .int .i64 (wrap64 (a0_0 - 1))] rfl (by (try simp only [List.map_toArray, List.map_cons, List.map_nil]); first | done | rfl | (simp only [List.length_drop, List.length_take]; rfl)) ?_; (with_reducible refine (impl_within.calls (rd (rd_L2 t181 x32_2) x38_3) 0 (wrap64 (a0_0 - 1)) true _ A28.out).mono ?_); rintro e w' ⟨rfl, ⟨nd, rfl⟩⟩; refine ⟨_, rfl, ?_⟩; have n0_ := Aside0.mk (Kd.R_drewN HO_4.out nd); have n1_ := Aside0.mk (Kd.R_drewN HO_5.out nd); have n2_ := Aside0.mk (NV_drewN HO_30.out nd); have n3_ := Aside0.mk (blk_drewN BK173.out nd); have n4_ := Aside0.mk (pw_below_drewN HB.out nd); clear HO_4 HO_5 HO_30 BK173 HB; have HO_4 := n0_; have HO_5 := n1_; have HO_30 := n2_; have BK173 := n3_; have HB := n4_; clear n0_ n1_ n2_ n3_ n4_; obtain ⟨Ao38, co38, eo38⟩ := Kd.R_slice HO_4.out; subst eo38; have p187 : 0 ≤ ((rd (rd_L2 t181 x32_2) x38_3) : Int) := of_decide_eq_true (by first | (with_reducible assumption) | assumption); have q187 : (rd (rd_L2 t181 x32_2) x38_3) < (x4_3.length : Int) := of_decide_eq_true (by first | (with_reducible assumption) | assumption); obtain ⟨ad187, e187, hx187_0⟩ := Kd.at_int (Kd.R_reads' HO_4.out).2.2 (rd (rd_L2 t181 x32_2) x38_3) p187 q187; cases e187; replace p187 := eq_true p187; replace q187 := eq_true q187; have p32 : 0 ≤ ((rd (rd_L2 t181 x32_2) x38_3) : Int) := of_decide_eq_true (by first | (with_reducible assumption) | assumption); have q32 : ((rd (rd_L2 t181 x32_2) x38_3) : Int) < ((x4_3.length : Int) : Int) := of_decide_eq_true (by first | (with_reducible assumption) | assumption); obtain ⟨go32, co32, eo32, gb32, gl32, cl32, HG32⟩ := Kd.R_form HO_4.out (by omega); (first | cases eo32 | (injection eo32 with ea_ en_ ec_; (first | subst ea_ | (injection ea_ with ea_; subst ea_)); subst ec_; clear en_)); have GB32 := Aside0.mk gb32; have GG32 := Aside0.mk HG32; clear gb32 gl32 HG32; (first | simp only [add_plain] at hx187_0 | skip); obtain ⟨hx32_0, hf32_0⟩ := Kd.R_celln 0 HO_4.out ((rd (rd_L2 t181 x32_2) x38_3) : Int) p32 q32; replace p32 := eq_true p32; replace q32 := eq_true q32; obtain ⟨hy39_, hz39_⟩ := Kd.R_celln 0 HO_4.out ((rd (rd_L2 t181 x32_2) x38_3) : Int) (of_decide_eq_true (by first | (with_reducible assumption) | assumption)) (of_decide_eq_true (by first | (with_reducible assumption) | assumption)); have HP39 := Kd.R_putg HO_4.out ((rd (rd_L2 t181 x32_2) x38_3) : Int) (wrap64 ((rd x4_3 (rd (rd_L2 t181 x32_2) x38_3)) + 1))) | ((with_reducible refine gate_store (t := 2) (p := 53) rfl ?_); refine store_event (t := 2) (p := 53) (v := ?vo_w40) (w1 := ((wr.drewN nd).setCell ⟨go32, ((rd (rd_L2 t181 x32_2) x38_3) : Int).toNat, none⟩ (.int .i64 (wrap64 ((rd x4_3 (rd (rd_L2 t181 x32_2) x38_3)) + 1))))) ?hg ?ho ?hn ?hr ?_; (case ho => rfl); (case hg => rfl); (case hn => rfl); (case hr => first | (go_simp; done) | (go_simp; rfl)); intro w40 hw; have hg : (wr.drewN nd).grownBy w40 (some go32) := (by rw [hw]; exact HP39.2); have hp_ : Kd.R (Kd.int .i64) 2 w40 w.heap.size (fun _ => True) (.slice (some ⟨go32, 0, none⟩) x4_3.length co38) y188 := (by rw [hw, Ny188.out]; exact HP39.1); clear HP39; have n0_ := Aside0.mk (hp_); have n1_ := Aside0.mk (Kd.R_over' (v := (.slice (some ⟨go32, 0, none⟩) x4_3.length co38)) (by (with_reducible repeat (first | apply Kd.R_alloc | apply Kd.R_drewN | apply Kd.R_drew)); exact HO_5.out) (Kd.R_typed HO_4.out) (by decide) hg); have n2_ := Aside0.mk (NV_afterv (v := (.slice (some ⟨go32, 0, none⟩) x4_3.length co38)) (v1 := (.slice (some ⟨go32, 0, none⟩) x4_3.length co38)) (ok := (fun k_ => some k_ ≠ (v179 : Value).ownBlock ∧ k_ ≠ gb173)) (by (with_reducible repeat (first | apply NV_alloc | apply NV_drewN | apply NV_drew)); exact NV_mono HO_30.out (fun _ hk => ⟨⟨hk.2.1, hk.2.2⟩, hk.1⟩)) hg (.inl rfl)); have n3_ := Aside0.mk (blk_grown (g := gb173) (o := .cells #[.int .i64 a0_0, .slice A0_1 l0_1.length c0_1] 24 (0, 0)) (by (with_reducible repeat (first | refine blk_drewN ?_ _ | refine blk_drew ?_ | refine blk_alloc ?_ _)); exact BK173.out) hg (Kd.R_ne HO_4.out BK173.out (by decide))); have n4_ := Aside0.mk ((by rw [hw]; exact below_set (HB.out) GB32.out : Below w.heap.size w w40)); clear HO_4; clear HO_5; clear HO_30; clear BK173; clear HB; have HO_4 := n0_; have HO_5 := n1_; have HO_30 := n2_; have BK173 := n3_; have HB := n4_; clear n0_ n1_ n2_ n3_ n4_; clear hg hw hp_; obtain ⟨Ao41, co41, eo41⟩ := Kd.R_slice HO_5.out; subst eo41; have p189 : 0 ≤ ((rd (rd_L2 t181 x32_2) x38_3) : Int) := of_decide_eq_true (by first | (with_reducible assumption) | assumption); have q189 : (rd (rd_L2 t181 x32_2) x38_3) < (x5_3.length : Int) := of_decide_eq_true (by first | (with_reducible assumption) | assumption); obtain ⟨ad189, e189, hx189_0⟩ := Kd.at_bool (Kd.R_reads' HO_5.out).2.2 (rd (rd_L2 t181 x32_2) x38_3) p189 q189; (try rw [← Nbq34.out] at hx189_0); cases e189; replace p189 := eq_true p189; replace q189 := eq_true q189; have p36 : 0 ≤ ((rd (rd_L2 t181 x32_2) x38_3) : Int) := of_decide_eq_true (by first | (with_reducible assumption) | assumption); have q36 : ((rd (rd_L2 t181 x32_2) x38_3) : Int) < ((x5_3.length : Int) : Int) := of_decide_eq_true (by first | (with_reducible assumption) | assumption); obtain ⟨go36, co36, eo36, gb36, gl36, cl36, HG36⟩ := Kd.R_form HO_5.out (by omega); (first | cases eo36 | (injection eo36 with ea_ en_ ec_; (first | subst ea_ | (injection ea_ with ea_; subst ea_)); subst ec_; clear en_)); have GB36 := Aside0.mk gb36; have GG36 := Aside0.mk HG36; clear gb36 gl36 HG36; (first | simp only [add_plain] at hx189_0 | skip); obtain ⟨hx36_0, hf36_0⟩ := Kd.R_celln false HO_5.out ((rd (rd_L2 t181 x32_2) x38_3) : Int) p36 q36; replace p36 := eq_true p36; replace q36 := eq_true q36; obtain ⟨hy42_, hz42_⟩ := Kd.R_celln false HO_5.out ((rd (rd_L2 t181 x32_2) x38_3) : Int) (of_decide_eq_true (by first | (with_reducible assumption) | assumption)) (of_decide_eq_true (by first | (with_reducible assumption) | assumption)); have HP42 := Kd.R_putg HO_5.out ((rd (rd_L2 t181 x32_2) x38_3) : Int) true) | ((with_reducible refine gate_store (t := 4) (p := 65) rfl ?_); refine store_event (t := 4) (p := 65) (v := ?vo_w43) (w1 := (w40.setCell ⟨go36, ((rd (rd_L2 t181 x32_2) x38_3) : Int).toNat, none⟩ (.bool true))) ?hg ?ho ?hn ?hr ?_; (case ho => rfl); (case hg => rfl); (case hn => rfl); (case hr => first | (go_simp; done) | (go_simp; rfl)); intro w43 hw; have hg : w40.grownBy w43 (some go36) := (by rw [hw]; exact HP42.2); have hp_ : Kd.R Kd.bool 4 w43 w.heap.size (fun _ => True) (.slice (some ⟨go36, 0, none⟩) x5_3.length co41) y190 := (by rw [hw, Ny190.out]; exact HP42.1); clear HP42; have n0_ := Aside0.mk (Kd.R_over' (v := (.slice (some ⟨go36, 0, none⟩) x5_3.length co41)) (by (with_reducible repeat (first | apply Kd.R_alloc | apply Kd.R_drewN | apply Kd.R_drew)); exact HO_4.out) (Kd.R_typed HO_5.out) (by decide) hg); have n1_ := Aside0.mk (hp_); have n2_ := Aside0.mk (NV_afterv (v := (.slice (some ⟨go36, 0, none⟩) x5_3.length co41)) (v1 := (.slice (some ⟨go36, 0, none⟩) x5_3.length co41)) (ok := (fun k_ => some k_ ≠ (.slice (some ⟨go32, 0, none⟩) x4_3.length co38 : Value).ownBlock ∧ k_ ≠ gb173)) (by (with_reducible repeat (first | apply NV_alloc | apply NV_drewN | apply NV_drew)); exact NV_mono HO_30.out (fun _ hk => ⟨⟨hk.2, hk.1.2⟩, hk.1.1⟩)) hg (.inl rfl)); have n3_ := Aside0.mk (blk_grown (g := gb173) (o := .cells #[.int .i64 a0_0, .slice A0_1 l0_1.length c0_1] 24 (0, 0)) (by (with_reducible repeat (first | refine blk_drewN ?_ _ | refine blk_drew ?_ | refine blk_alloc ?_ _)); exact BK173.out) hg (Kd.R_ne HO_5.out BK173.out (by decide))); have n4_ := Aside0.mk ((by rw [hw]; exact below_set (HB.out) GB36.out : Below w.heap.size w w43)); clear HO_4; clear HO_5; clear HO_30; clear BK173; clear HB; have HO_4 := n0_; have HO_5 := n1_; have HO_30 := n2_; have BK173 := n3_; have HB := n4_; clear n0_ n1_ n2_ n3_ n4_; clear hg hw hp_))
                                            go_roundg k3
                                            case measure => have := HJ1.out; have := HK2.out; have := HK3.out; omega
                                            case rel => exact ⟨(y188), (y190), (wrap64 (x38_3 + 1)), (by first | rfl | (simp; done) | (simp [*]; done)), H', ⟨by have := HJ1.out; have := HK2.out; have := HK3.out; omega⟩, ⟨by (with_reducible repeat (first | apply Kd.R_alloc | apply Kd.R_drewN | apply Kd.R_drew)); exact HO_4.out⟩, ⟨by (with_reducible repeat (first | apply Kd.R_alloc | apply Kd.R_drewN | apply Kd.R_drew)); exact HO_5.out⟩, ⟨by (with_reducible repeat (first | apply NV_alloc | apply NV_drewN | apply NV_drew)); exact NV_mono HO_30.out (fun _ hk => ⟨hk.1.1, ⟨hk.2, hk.1.2⟩⟩)⟩, ⟨by (with_reducible repeat (first | refine blk_drewN ?_ _ | refine blk_drew ?_ | refine blk_alloc ?_ _)); exact BK173.out⟩, ⟨by repeat (first | (with_reducible first | exact HB.out | apply below_alloc | apply pw_below_drewN | apply below_drew1 | refine below_set ?_ GE173.out) | exact HB.out)⟩⟩
                                          · replace c35 := Bool.eq_false_iff.mpr c35
                                            subst c35
                                            have H1 : (impl_Sprouts_degrees.l1 k3 y188 (x5_3.set ((rd (rd_L2 t181 x32_2) x38_3) : Int).toNat (((rd_L2 t181 x32_2).length : Int) == 1)) (rd_L2 t181 x32_2) t181 (t181.length : Int) x32_2 (rd_L2 t181 x32_2) ((rd_L2 t181 x32_2).length : Int) (wrap64 (x38_3 + 1)) a0_0 l0_1) = some (r1, r2) := by rw [if_neg (show ¬ (false = true) by decide)] at H; exact H
                                            clear H
                                            have H := H1
                                            clear H1
                                            obtain ⟨y191, hy191⟩ : ∃ y_ : List Bool, y_ = (x5_3.set ((rd (rd_L2 t181 x32_2) x38_3) : Int).toNat (((rd_L2 t181 x32_2).length : Int) == 1)) := ⟨_, rfl⟩
                                            replace H : (impl_Sprouts_degrees.l1 k3 y188 y191 (rd_L2 t181 x32_2) t181 (t181.length : Int) x32_2 (rd_L2 t181 x32_2) ((rd_L2 t181 x32_2).length : Int) (wrap64 (x38_3 + 1)) a0_0 l0_1) = some (r1, r2) := by first | (rw [hy191]; with_reducible exact H) | (have H2_ := (Option.bind_some _ _).symm.trans H; rw [hy191]; with_reducible exact H2_) | (have H2_ := (Option.bind_some _ _).symm.trans H; with_reducible exact H2_) | with_reducible exact H | (rw [hy191]; exact H) | exact H
                                            have Ny191 := Aside0.mk hy191
                                            clear hy191
                                            have H' := Aside0.mk H
                                            clear H
                                            have p185 : 0 ≤ (x38_3 : Int) := of_decide_eq_true (by first | (with_reducible assumption) | assumption)
                                            have q185 : x38_3 < ((rd_L2 t181 x32_2).length : Int) := of_decide_eq_true (by first | (with_reducible assumption) | assumption)
                                            obtain ⟨ad185, e185, hx185_0⟩ := Kd.at_int (Kd.V_reads' HO_30.out.2).2.2 x38_3 p185 q185
                                            cases e185

                                            replace p185 := eq_true p185
                                            replace q185 := eq_true q185
                                            have hcz45_0 : wr.cell? ⟨gb173, 0, none⟩ = some (.int .i64 a0_0) := (blk_cell BK173.out 0).trans rfl
                                            have hcz45_1 : wr.cell? ⟨gb173, 1, none⟩ = some (.slice A0_1 l0_1.length c0_1) := (blk_cell BK173.out 1).trans rfl
                                            have hfz45_0 := blk_frozen BK173.out 0
                                            have hfz45_1 := blk_frozen BK173.out 1
                                            go_wp2_with (first | ((with_reducible refine gate_callee (f := 41) rfl ?_); refine goesL_ (some 46) rfl rfl Tryd.func41 (by kernel_rfl) rfl #[.int .i64 (rd (rd_L2 t181 x32_2) x38_3), .int .i64 0, .int .i64 (wrap64 (a0_0 - 1))] rfl (by (try simp only [List.map_toArray, List.map_cons, List.map_nil]); first | done | rfl | (simp only [List.length_drop, List.length_take]; rfl)) ?_; (with_reducible refine (impl_within.calls (rd (rd_L2 t181 x32_2) x38_3) 0 (wrap64 (a0_0 - 1)) true _ A28.out).mono ?_); rintro e w' ⟨rfl, ⟨nd, rfl⟩⟩; refine ⟨_, rfl, ?_⟩; have n0_ := Aside0.mk (Kd.R_drewN HO_4.out nd); have n1_ := Aside0.mk (Kd.R_drewN HO_5.out nd); have n2_ := Aside0.mk (NV_drewN HO_30.out nd); have n3_ := Aside0.mk (blk_drewN BK173.out nd); have n4_ := Aside0.mk (pw_below_drewN HB.out nd); clear HO_4 HO_5 HO_30 BK173 HB; have HO_4 := n0_; have HO_5 := n1_; have HO_30 := n2_; have BK173 := n3_; have HB := n4_; clear n0_ n1_ n2_ n3_ n4_; obtain ⟨Ao46, co46, eo46⟩ := Kd.R_slice HO_4.out; subst eo46; have p187 : 0 ≤ ((rd (rd_L2 t181 x32_2) x38_3) : Int) := of_decide_eq_true (by first | (with_reducible assumption) | assumption); have q187 : (rd (rd_L2 t181 x32_2) x38_3) < (x4_3.length : Int) := of_decide_eq_true (by first | (with_reducible assumption) | assumption); obtain ⟨ad187, e187, hx187_0⟩ := Kd.at_int (Kd.R_reads' HO_4.out).2.2 (rd (rd_L2 t181 x32_2) x38_3) p187 q187; cases e187; replace p187 := eq_true p187; replace q187 := eq_true q187; have p32 : 0 ≤ ((rd (rd_L2 t181 x32_2) x38_3) : Int) := of_decide_eq_true (by first | (with_reducible assumption) | assumption); have q32 : ((rd (rd_L2 t181 x32_2) x38_3) : Int) < ((x4_3.length : Int) : Int) := of_decide_eq_true (by first | (with_reducible assumption) | assumption); obtain ⟨go32, co32, eo32, gb32, gl32, cl32, HG32⟩ := Kd.R_form HO_4.out (by omega); (first | cases eo32 | (injection eo32 with ea_ en_ ec_; (first | subst ea_ | (injection ea_ with ea_; subst ea_)); subst ec_; clear en_)); have GB32 := Aside0.mk gb32; have GG32 := Aside0.mk HG32; clear gb32 gl32 HG32; (first | simp only [add_plain] at hx187_0 | skip); obtain ⟨hx32_0, hf32_0⟩ := Kd.R_celln 0 HO_4.out ((rd (rd_L2 t181 x32_2) x38_3) : Int) p32 q32; replace p32 := eq_true p32; replace q32 := eq_true q32; obtain ⟨hy47_, hz47_⟩ := Kd.R_celln 0 HO_4.out ((rd (rd_L2 t181 x32_2) x38_3) : Int) (of_decide_eq_true (by first | (with_reducible assumption) | assumption)) (of_decide_eq_true (by first | (with_reducible assumption) | assumption)); have HP47 := Kd.R_putg HO_4.out ((rd (rd_L2 t181 x32_2) x38_3) : Int) (wrap64 ((rd x4_3 (rd (rd_L2 t181 x32_2) x38_3)) + 1))) | ((with_reducible refine gate_store (t := 2) (p := 53) rfl ?_); refine store_event (t := 2) (p := 53) (v := ?vo_w48) (w1 := ((wr.drewN nd).setCell ⟨go32, ((rd (rd_L2 t181 x32_2) x38_3) : Int).toNat, none⟩ (.int .i64 (wrap64 ((rd x4_3 (rd (rd_L2 t181 x32_2) x38_3)) + 1))))) ?hg ?ho ?hn ?hr ?_; (case ho => rfl); (case hg => rfl); (case hn => rfl); (case hr => first | (go_simp; done) | (go_simp; rfl)); intro w48 hw; have hg : (wr.drewN nd).grownBy w48 (some go32) := (by rw [hw]; exact HP47.2); have hp_ : Kd.R (Kd.int .i64) 2 w48 w.heap.size (fun _ => True) (.slice (some ⟨go32, 0, none⟩) x4_3.length co46) y188 := (by rw [hw, Ny188.out]; exact HP47.1); clear HP47; have n0_ := Aside0.mk (hp_); have n1_ := Aside0.mk (Kd.R_over' (v := (.slice (some ⟨go32, 0, none⟩) x4_3.length co46)) (by (with_reducible repeat (first | apply Kd.R_alloc | apply Kd.R_drewN | apply Kd.R_drew)); exact HO_5.out) (Kd.R_typed HO_4.out) (by decide) hg); have n2_ := Aside0.mk (NV_afterv (v := (.slice (some ⟨go32, 0, none⟩) x4_3.length co46)) (v1 := (.slice (some ⟨go32, 0, none⟩) x4_3.length co46)) (ok := (fun k_ => some k_ ≠ (v179 : Value).ownBlock ∧ k_ ≠ gb173)) (by (with_reducible repeat (first | apply NV_alloc | apply NV_drewN | apply NV_drew)); exact NV_mono HO_30.out (fun _ hk => ⟨⟨hk.2.1, hk.2.2⟩, hk.1⟩)) hg (.inl rfl)); have n3_ := Aside0.mk (blk_grown (g := gb173) (o := .cells #[.int .i64 a0_0, .slice A0_1 l0_1.length c0_1] 24 (0, 0)) (by (with_reducible repeat (first | refine blk_drewN ?_ _ | refine blk_drew ?_ | refine blk_alloc ?_ _)); exact BK173.out) hg (Kd.R_ne HO_4.out BK173.out (by decide))); have n4_ := Aside0.mk ((by rw [hw]; exact below_set (HB.out) GB32.out : Below w.heap.size w w48)); clear HO_4; clear HO_5; clear HO_30; clear BK173; clear HB; have HO_4 := n0_; have HO_5 := n1_; have HO_30 := n2_; have BK173 := n3_; have HB := n4_; clear n0_ n1_ n2_ n3_ n4_; clear hg hw hp_; obtain ⟨Ao49, co49, eo49⟩ := Kd.R_slice HO_5.out; subst eo49; have p189 : 0 ≤ ((rd (rd_L2 t181 x32_2) x38_3) : Int) := of_decide_eq_true (by first | (with_reducible assumption) | assumption); have q189 : (rd (rd_L2 t181 x32_2) x38_3) < (x5_3.length : Int) := of_decide_eq_true (by first | (with_reducible assumption) | assumption); obtain ⟨ad189, e189, hx189_0⟩ := Kd.at_bool (Kd.R_reads' HO_5.out).2.2 (rd (rd_L2 t181 x32_2) x38_3) p189 q189; (try rw [← Nbq34.out] at hx189_0); cases e189; replace p189 := eq_true p189; replace q189 := eq_true q189; have p44 : 0 ≤ ((rd (rd_L2 t181 x32_2) x38_3) : Int) := of_decide_eq_true (by first | (with_reducible assumption) | assumption); have q44 : ((rd (rd_L2 t181 x32_2) x38_3) : Int) < ((x5_3.length : Int) : Int) := of_decide_eq_true (by first | (with_reducible assumption) | assumption); obtain ⟨go44, co44, eo44, gb44, gl44, cl44, HG44⟩ := Kd.R_form HO_5.out (by omega); (first | cases eo44 | (injection eo44 with ea_ en_ ec_; (first | subst ea_ | (injection ea_ with ea_; subst ea_)); subst ec_; clear en_)); have GB44 := Aside0.mk gb44; have GG44 := Aside0.mk HG44; clear gb44 gl44 HG44; (first | simp only [add_plain] at hx189_0 | skip); obtain ⟨hx44_0, hf44_0⟩ := Kd.R_celln false HO_5.out ((rd (rd_L2 t181 x32_2) x38_3) : Int) p44 q44; replace p44 := eq_true p44; replace q44 := eq_true q44; obtain ⟨hy50_, hz50_⟩ := Kd.R_celln false HO_5.out ((rd (rd_L2 t181 x32_2) x38_3) : Int) (of_decide_eq_true (by first | (with_reducible assumption) | assumption)) (of_decide_eq_true (by first | (with_reducible assumption) | assumption)); have HP50 := Kd.R_putg HO_5.out ((rd (rd_L2 t181 x32_2) x38_3) : Int) (((rd_L2 t181 x32_2).length : Int) == 1)) | ((with_reducible refine gate_store (t := 4) (p := 65) rfl ?_); refine store_event (t := 4) (p := 65) (v := ?vo_w51) (w1 := (w48.setCell ⟨go44, ((rd (rd_L2 t181 x32_2) x38_3) : Int).toNat, none⟩ (.bool (((rd_L2 t181 x32_2).length : Int) == 1)))) ?hg ?ho ?hn ?hr ?_; (case ho => rfl); (case hg => rfl); (case hn => rfl); (case hr => first | (go_simp; done) | (go_simp; rfl)); intro w51 hw; have hg : w48.grownBy w51 (some go44) := (by rw [hw]; exact HP50.2); have hp_ : Kd.R Kd.bool 4 w51 w.heap.size (fun _ => True) (.slice (some ⟨go44, 0, none⟩) x5_3.length co49) y191 := (by rw [hw, Ny191.out]; exact HP50.1); clear HP50; have n0_ := Aside0.mk (Kd.R_over' (v := (.slice (some ⟨go44, 0, none⟩) x5_3.length co49)) (by (with_reducible repeat (first | apply Kd.R_alloc | apply Kd.R_drewN | apply Kd.R_drew)); exact HO_4.out) (Kd.R_typed HO_5.out) (by decide) hg); have n1_ := Aside0.mk (hp_); have n2_ := Aside0.mk (NV_afterv (v := (.slice (some ⟨go44, 0, none⟩) x5_3.length co49)) (v1 := (.slice (some ⟨go44, 0, none⟩) x5_3.length co49)) (ok := (fun k_ => some k_ ≠ (.slice (some ⟨go32, 0, none⟩) x4_3.length co46 : Value).ownBlock ∧ k_ ≠ gb173)) (by (with_reducible repeat (first | apply NV_alloc | apply NV_drewN | apply NV_drew)); exact NV_mono HO_30.out (fun _ hk => ⟨⟨hk.2, hk.1.2⟩, hk.1.1⟩)) hg (.inl rfl)); have n3_ := Aside0.mk (blk_grown (g := gb173) (o := .cells #[.int .i64 a0_0, .slice A0_1 l0_1.length c0_1] 24 (0, 0)) (by (with_reducible repeat (first | refine blk_drewN ?_ _ | refine blk_drew ?_ | refine blk_alloc ?_ _)); exact BK173.out) hg (Kd.R_ne HO_5.out BK173.out (by decide))); have n4_ := Aside0.mk ((by rw [hw]; exact below_set (HB.out) GB44.out : Below w.heap.size w w51)); clear HO_4; clear HO_5; clear HO_30; clear BK173; clear HB; have HO_4 := n0_; have HO_5 := n1_; have HO_30 := n2_; have BK173 := n3_; have HB := n4_; clear n0_ n1_ n2_ n3_ n4_; clear hg hw hp_))
                                            go_roundg k3
                                            case measure => have := HJ1.out; have := HK2.out; have := HK3.out; omega
                                            case rel => exact ⟨(y188), (y191), (wrap64 (x38_3 + 1)), (by first | rfl | (simp; done) | (simp [*]; done)), H', ⟨by have := HJ1.out; have := HK2.out; have := HK3.out; omega⟩, ⟨by (with_reducible repeat (first | apply Kd.R_alloc | apply Kd.R_drewN | apply Kd.R_drew)); exact HO_4.out⟩, ⟨by (with_reducible repeat (first | apply Kd.R_alloc | apply Kd.R_drewN | apply Kd.R_drew)); exact HO_5.out⟩, ⟨by (with_reducible repeat (first | apply NV_alloc | apply NV_drewN | apply NV_drew)); exact NV_mono HO_30.out (fun _ hk => ⟨hk.1.1, ⟨hk.2, hk.1.2⟩⟩)⟩, ⟨by (with_reducible repeat (first | refine blk_drewN ?_ _ | refine blk_drew ?_ | refine blk_alloc ?_ _)); exact BK173.out⟩, ⟨by repeat (first | (with_reducible first | exact HB.out | apply below_alloc | apply pw_below_drewN | apply below_drew1 | refine below_set ?_ GE173.out) | exact HB.out)⟩⟩
                                        · rw [if_neg c33] at H
                                          exact absurd H (by simp)
                                      · rw [if_neg c31] at H
                                        exact absurd H (by simp)
                                    · rw [if_neg c30] at H
                                      exact absurd H (by simp)
                                  · replace c29 := Bool.eq_false_iff.mpr c29
                                    subst c29
                                    have H1 : (some (([] : List Int), false)) = some (r1, r2) := by rw [if_neg (show ¬ (false = true) by decide)] at H; exact H
                                    clear H
                                    have H := H1
                                    clear H1
                                    simp only [Option.some.injEq, Prod.mk.injEq] at H
                                    obtain ⟨rfl, rfl⟩ := H
                                    have p185 : 0 ≤ (x38_3 : Int) := of_decide_eq_true (by first | (with_reducible assumption) | assumption)
                                    have q185 : x38_3 < ((rd_L2 t181 x32_2).length : Int) := of_decide_eq_true (by first | (with_reducible assumption) | assumption)
                                    obtain ⟨ad185, e185, hx185_0⟩ := Kd.at_int (Kd.V_reads' HO_30.out.2).2.2 x38_3 p185 q185
                                    cases e185

                                    replace p185 := eq_true p185
                                    replace q185 := eq_true q185
                                    have hcz52_0 : wr.cell? ⟨gb173, 0, none⟩ = some (.int .i64 a0_0) := (blk_cell BK173.out 0).trans rfl
                                    have hcz52_1 : wr.cell? ⟨gb173, 1, none⟩ = some (.slice A0_1 l0_1.length c0_1) := (blk_cell BK173.out 1).trans rfl
                                    have hfz52_0 := blk_frozen BK173.out 0
                                    have hfz52_1 := blk_frozen BK173.out 1
                                    go_wp2_with (first | ((with_reducible refine gate_callee (f := 41) rfl ?_); refine goesL_ (some 46) rfl rfl Tryd.func41 (by kernel_rfl) rfl #[.int .i64 (rd (rd_L2 t181 x32_2) x38_3), .int .i64 0, .int .i64 (wrap64 (a0_0 - 1))] rfl (by (try simp only [List.map_toArray, List.map_cons, List.map_nil]); first | done | rfl | (simp only [List.length_drop, List.length_take]; rfl)) ?_; (with_reducible refine (impl_within.calls (rd (rd_L2 t181 x32_2) x38_3) 0 (wrap64 (a0_0 - 1)) false _ A28.out).mono ?_); rintro e w' ⟨rfl, ⟨nd, rfl⟩⟩; refine ⟨_, rfl, ?_⟩))
                                    go_ret2
                                    exact ⟨_, by first | rfl | (simp [errW_none, errW_some] <;> rfl) | (simp [*, errW_none, errW_some] <;> rfl), by first | exact Kd.R_nil _ _ _ _ _ | exact Kd.N_nil _ _ _ _ _ | exact Kd.V_nil _ _ _ _ _ | exact Kd.Q_nil _ _ _ _ _ | exact Kd.S_nil _ _ _ _ _, by repeat (first | (with_reducible first | exact HB.out | apply below_alloc | apply pw_below_drewN | apply below_drew1 | refine below_set ?_ GE173.out) | exact HB.out)⟩
                                · rw [if_neg c27] at H
                                  exact absurd H (by simp)
                              · rw [if_neg c26] at H
                                exact absurd H (by simp)
                            · rw [if_neg c25] at H
                              have c25b0 : decide (x38_3 < ((rd_L2 t181 x32_2).length : Int)) = false := decide_eq_false c25
                              clear c25
                              by_cases c53 : ((rd_L2 t181 x32_2).length : Int) = 0
                              · rw [if_pos c53] at H
                                have c53b0 : (((rd_L2 t181 x32_2).length : Int) == 0) = true := beq_iff_eq.mpr c53
                                have c53b1 : (((rd_L2 t181 x32_2).length : Int) != 0) = false := bne_eq_false_iff_eq.mpr c53
                                clear c53
                                simp only [Option.some.injEq, Prod.mk.injEq] at H
                                obtain ⟨rfl, rfl⟩ := H
                                go_wp2
                                go_ret2
                                exact ⟨_, by first | rfl | (simp [errW_none, errW_some] <;> rfl) | (simp [*, errW_none, errW_some] <;> rfl), by first | exact Kd.R_nil _ _ _ _ _ | exact Kd.N_nil _ _ _ _ _ | exact Kd.V_nil _ _ _ _ _ | exact Kd.Q_nil _ _ _ _ _ | exact Kd.S_nil _ _ _ _ _, by repeat (first | (with_reducible first | exact HB.out | apply below_alloc | apply pw_below_drewN | apply below_drew1 | refine below_set ?_ GE173.out) | exact HB.out)⟩
                              · rw [if_neg c53] at H
                                have c53b0 : (((rd_L2 t181 x32_2).length : Int) == 0) = false := beq_eq_false_iff_ne.mpr c53
                                have c53b1 : (((rd_L2 t181 x32_2).length : Int) != 0) = true := bne_iff_ne.mpr c53
                                have c53b2 : ¬ ((rd_L2 t181 x32_2) = []) := fun h_ => c53 (by rw [h_]; rfl)
                                have H' := Aside0.mk H
                                clear H
                                go_wp2
                                go_roundg k3
                                case measure => have := HJ1.out; have := HK2.out; have := HK3.out; omega
                                case rel => exact ⟨(x4_3), (x5_3), (wrap64 (x32_2 + 1)), (by first | rfl | (simp; done) | (simp [*]; done)), H', ⟨by have := HJ1.out; have := HK2.out; have := HK3.out; omega⟩, ⟨by (with_reducible repeat (first | apply Kd.R_alloc | apply Kd.R_drewN | apply Kd.R_drew)); exact HO_4.out⟩, ⟨by (with_reducible repeat (first | apply Kd.R_alloc | apply Kd.R_drewN | apply Kd.R_drew)); exact HO_5.out⟩, ⟨by (with_reducible repeat (first | apply Kd.N_alloc | apply Kd.N_drewN | apply Kd.N_drew)); exact HO_30.out.1⟩, ⟨by (with_reducible repeat (first | refine blk_drewN ?_ _ | refine blk_drew ?_ | refine blk_alloc ?_ _)); exact BK173.out⟩, ⟨by repeat (first | (with_reducible first | exact HB.out | apply below_alloc | apply pw_below_drewN | apply below_drew1 | refine below_set ?_ GE173.out) | exact HB.out)⟩⟩
                      · rw [if_neg c24] at H
                        exact absurd H (by simp)
                    · rw [if_neg c23] at H
                      exact absurd H (by simp)
                  · rw [if_neg c22] at H
                    have c22b0 : decide (x32_2 < (t181.length : Int)) = false := decide_eq_false c22
                    clear c22
                    have H' := Aside0.mk H
                    clear H
                    obtain ⟨Ao54, co54, eo54⟩ := Kd.R_slice HO_4.out
                    subst eo54
                    go_wp2
                    go_loopg [73] k2 (fun kq v73 w' => ∃ (x4_3 : List Int) (x73_3 : Int), v73 = .int .i64 x73_3 ∧ Aside0 (impl_Sprouts_degrees.l2 kq x4_3 x5_2 (x4_2.length : Int) x73_3 = some (r1, r2)) ∧ Aside0 (kq ≤ k2) ∧ Aside0 (Kd.R (Kd.int .i64) 2 w' w.heap.size (fun _ => True) (.slice Ao54 x4_2.length co54) x4_3) ∧ Aside0 (Kd.R Kd.bool 4 w' w.heap.size (fun _ => True) v179 x5_2) ∧ Aside0 (w'.heap[gb173]? = some (.cells #[.int .i64 a0_0, (.slice A0_1 l0_1.length c0_1)] 24 (0, 0))) ∧ Aside0 (Below w.heap.size w w'))
                    case atStart => exact ⟨(x4_2), (0), (by first | rfl | (simp; done) | (simp [*]; done)), H', ⟨Nat.le_refl _⟩, ⟨by (with_reducible repeat (first | apply Kd.R_alloc | apply Kd.R_drewN | apply Kd.R_drew)); exact HO_4.out⟩, ⟨by (with_reducible repeat (first | apply Kd.R_alloc | apply Kd.R_drewN | apply Kd.R_drew)); exact HO_5.out⟩, ⟨by (with_reducible repeat (first | refine blk_drewN ?_ _ | refine blk_drew ?_ | refine blk_alloc ?_ _)); exact BK173.out⟩, ⟨by repeat (first | (with_reducible first | exact HB.out | apply below_alloc | apply pw_below_drewN | apply below_drew1 | refine below_set ?_ GE173.out) | exact HB.out)⟩⟩
                    case round =>
                      clear H'
                      try clear c1
                      try clear p1
                      try clear q1
                      try clear hx1
                      try clear c2
                      try clear p2
                      try clear q2
                      try clear hx2
                      try clear c3
                      try clear p3
                      try clear q3
                      try clear hx3
                      try clear hf3
                      try clear c4
                      try clear p4
                      try clear q4
                      try clear hx4
                      try clear hf4
                      try clear c5
                      try clear p6
                      try clear c8
                      try clear c9
                      try clear c9b0
                      try clear c9b1
                      try clear c10
                      try clear c10b0
                      try clear c10b1
                      try clear c11
                      try clear c11b0
                      try clear c11b1
                      try clear c19
                      try clear p19
                      try clear q19
                      try clear hx19
                      try clear p20
                      try clear q20
                      try clear hx20
                      try clear c22
                      try clear c22b0
                      try clear c23
                      try clear c23b0
                      try clear c24
                      try clear c24b0
                      try clear c25
                      try clear c25b0
                      try clear c26
                      try clear c26b0
                      try clear c27
                      try clear c27b0
                      try clear c29
                      try clear c30
                      try clear c30b0
                      try clear c31
                      try clear c31b0
                      try clear p32
                      try clear q32
                      try clear hx32
                      try clear hf32
                      try clear c33
                      try clear c33b0
                      try clear q34
                      try clear c35
                      try clear p36
                      try clear q36
                      try clear hx36
                      try clear hf36
                      try clear c41
                      try clear c42
                      try clear p44
                      try clear q44
                      try clear hx44
                      try clear hf44
                      try clear c53
                      try clear c53b0
                      try clear c53b1
                      try clear c53b2
                      try clear hcz19_0
                      try clear hcz19_1
                      try clear hcz37_0
                      try clear hcz37_1
                      try clear hcz45_0
                      try clear hcz45_1
                      try clear hcz52_0
                      try clear hcz52_1
                      try clear hcz6_0
                      try clear hcz6_1
                      try clear hcz7_0
                      try clear hcz7_1
                      try clear hfz19_0
                      try clear hfz19_1
                      try clear hfz37_0
                      try clear hfz37_1
                      try clear hfz45_0
                      try clear hfz45_1
                      try clear hfz52_0
                      try clear hfz52_1
                      try clear hfz6_0
                      try clear hfz6_1
                      try clear hfz7_0
                      try clear hfz7_1
                      try clear hx184_0
                      try clear hx185_0
                      try clear hx187_0
                      try clear hx189_0
                      try clear hx32_0
                      try clear hx36_0
                      try clear hx44_0
                      try clear p1
                      try clear p19
                      try clear p184
                      try clear p185
                      try clear p187
                      try clear p2
                      try clear p189
                      try clear p32
                      try clear p36
                      try clear p44
                      try clear q1
                      try clear q19
                      try clear q184
                      try clear q185
                      try clear q187
                      try clear q189
                      try clear q32
                      try clear q36
                      try clear q44
                      obtain ⟨x4_3, x73_3, rfl, HA, HK3, HO_4, HO_5, BK173, HB⟩ := hrel
                      have hl4_3 := (Kd.R_reads' HO_4.out).1
                      rw [hl4_3] at HO_4
                      (try simp only [hl4_3])
                      (try simp only [hl4_3] at BK173)
                      (try simp only [hl4_3] at HO_5)
                      cases gk with
                      | zero => exact absurd HA.out (by simp [impl_Sprouts_degrees.l2])
                      | succ k3 =>
                        have H := HA.out
                        clear HA
                        simp only [impl_Sprouts_degrees.l2] at H
                        by_cases c55 : x73_3 < (x4_2.length : Int)
                        · rw [if_pos c55] at H
                          have c55b0 : decide (x73_3 < (x4_2.length : Int)) = true := decide_eq_true c55
                          clear c55
                          by_cases c56 : 0 ≤ x73_3
                          · rw [if_pos c56] at H
                            have c56b0 : decide (0 ≤ x73_3) = true := decide_eq_true c56
                            clear c56
                            by_cases c57 : x73_3 < (x4_3.length : Int)
                            · rw [if_pos c57] at H
                              have c57b0 : decide (x73_3 < (x4_3.length : Int)) = true := decide_eq_true c57
                              clear c57
                              have HC58 := Aside0.mk H
                              clear H
                              have p192 : 0 ≤ (x73_3 : Int) := of_decide_eq_true (by first | (with_reducible assumption) | assumption)
                              have q192 : x73_3 < (x4_3.length : Int) := of_decide_eq_true (by first | (with_reducible assumption) | assumption)
                              obtain ⟨ad192, e192, hx192_0⟩ := Kd.at_int (Kd.R_reads' HO_4.out).2.2 x73_3 p192 q192
                              cases e192
                              replace p192 := eq_true p192
                              replace q192 := eq_true q192
                              go_upto_region 21 with (fail)
                              go_cut [90] (fun v90 wc => ∃ (kq : Nat) (x90_57 : Bool), v90 = .bool x90_57 ∧ Aside0 (impl_Sprouts_degrees.j4 kq x4_3 x5_2 x73_3 (x4_2.length : Int) x73_3 x90_57 = some (r1, r2)) ∧ Aside0 (kq ≤ k3) ∧ Aside0 (Kd.R (Kd.int .i64) 2 wc w.heap.size (fun _ => True) (.slice (some ad192) x4_3.length co54) x4_3) ∧ Aside0 (Kd.R Kd.bool 4 wc w.heap.size (fun _ => True) v179 x5_2) ∧ Aside0 (wc.heap[gb173]? = some (.cells #[.int .i64 a0_0, (.slice A0_1 l0_1.length c0_1)] 24 (0, 0))) ∧ Aside0 (Below w.heap.size w wc))
                              case first =>
                                have H := HC58.out
                                clear HC58
                                replace H := Option.bind_eq_some_iff.mp H
                                obtain ⟨t193, A590, H⟩ := H
                                replace H : (if t193 = true then (if x73_3 < (x5_2.length : Int) then (if rdOf false x5_2 x73_3 = true then (impl_Sprouts_degrees.j4 k3 x4_3 x5_2 x73_3 (x4_2.length : Int) x73_3 (decide ((rd x4_3 x73_3) > 1))) else (impl_Sprouts_degrees.j4 k3 x4_3 x5_2 x73_3 (x4_2.length : Int) x73_3 false)) else (none)) else (impl_Sprouts_degrees.j4 k3 x4_3 x5_2 x73_3 (x4_2.length : Int) x73_3 true)) = some (r1, r2) := H
                                have A59 := Aside0.mk A590
                                clear A590
                                by_cases c60 : t193 = true
                                · subst c60
                                  have H1 : (if x73_3 < (x5_2.length : Int) then (if rdOf false x5_2 x73_3 = true then (impl_Sprouts_degrees.j4 k3 x4_3 x5_2 x73_3 (x4_2.length : Int) x73_3 (decide ((rd x4_3 x73_3) > 1))) else (impl_Sprouts_degrees.j4 k3 x4_3 x5_2 x73_3 (x4_2.length : Int) x73_3 false)) else (none)) = some (r1, r2) := by rw [if_pos rfl] at H; exact H
                                  clear H
                                  have H := H1
                                  clear H1
                                  by_cases c61 : x73_3 < (x5_2.length : Int)
                                  · rw [if_pos c61] at H
                                    have c61b0 : decide (x73_3 < (x5_2.length : Int)) = true := decide_eq_true c61
                                    clear c61
                                    (first | rw [c61b0] | (simp only [i64_w, i32_w]; rw [c61b0]) | skip)
                                    obtain ⟨bq62, hbq62⟩ : ∃ b_ : Bool, b_ = (rdOf false x5_2 x73_3) := ⟨_, rfl⟩
                                    replace H : (if bq62 = true then (impl_Sprouts_degrees.j4 k3 x4_3 x5_2 x73_3 (x4_2.length : Int) x73_3 (decide ((rd x4_3 x73_3) > 1))) else (impl_Sprouts_degrees.j4 k3 x4_3 x5_2 x73_3 (x4_2.length : Int) x73_3 false)) = some (r1, r2) := by rw [← hbq62] at H; exact H
                                    have Nbq62 := Aside0.mk hbq62
                                    clear hbq62
                                    by_cases c63 : bq62 = true
                                    · subst c63
                                      have H1 : (impl_Sprouts_degrees.j4 k3 x4_3 x5_2 x73_3 (x4_2.length : Int) x73_3 (decide ((rd x4_3 x73_3) > 1))) = some (r1, r2) := by rw [if_pos rfl] at H; exact H
                                      clear H
                                      have H := H1
                                      clear H1
                                      have H' := Aside0.mk H
                                      clear H
                                      go_wp2_with (first | ((with_reducible refine gate_callee (f := 41) rfl ?_); refine goesL_ (some 79) rfl rfl Tryd.func41 (by kernel_rfl) rfl #[.int .i64 (rd x4_3 x73_3), .int .i64 1, .int .i64 3] rfl (by (try simp only [List.map_toArray, List.map_cons, List.map_nil]); first | done | rfl | (simp only [List.length_drop, List.length_take]; rfl)) ?_; (with_reducible refine (impl_within.calls (rd x4_3 x73_3) 1 3 true _ A59.out).mono ?_); rintro e w' ⟨rfl, ⟨nd, rfl⟩⟩; refine ⟨_, rfl, ?_⟩; obtain ⟨Ao64, co64, eo64⟩ := Kd.R_slice HO_5.out; subst eo64; have p194 : 0 ≤ (x73_3 : Int) := of_decide_eq_true (by first | (with_reducible assumption) | assumption); have q194 : x73_3 < (x5_2.length : Int) := of_decide_eq_true (by first | (with_reducible assumption) | assumption); obtain ⟨ad194, e194, hx194_0⟩ := Kd.at_bool (Kd.R_reads' HO_5.out).2.2 x73_3 p194 q194; (try rw [← Nbq62.out] at hx194_0); cases e194; replace p194 := eq_true p194; replace q194 := eq_true q194))
                                      go_meet
                                      case rel => exact ⟨_, (decide ((rd x4_3 x73_3) > 1)), (by first | rfl | (simp; done) | (simp [*]; done)), H', ⟨by have := HJ1.out; have := HK2.out; have := HK3.out; first | omega | exact Nat.le_refl _⟩, ⟨by (try simp only [hl4_3]); (with_reducible repeat (first | apply Kd.R_alloc | apply Kd.R_drewN | apply Kd.R_drew)); exact HO_4.out⟩, ⟨by (try simp only [hl4_3]); (with_reducible repeat (first | apply Kd.R_alloc | apply Kd.R_drewN | apply Kd.R_drew)); exact HO_5.out⟩, ⟨by (try simp only [hl4_3]); (with_reducible repeat (first | refine blk_drewN ?_ _ | refine blk_drew ?_ | refine blk_alloc ?_ _)); exact BK173.out⟩, ⟨by repeat (first | (with_reducible first | exact HB.out | apply below_alloc | apply pw_below_drewN | apply below_drew1 | refine below_set ?_ GE173.out) | exact HB.out)⟩⟩
                                    · replace c63 := Bool.eq_false_iff.mpr c63
                                      subst c63
                                      have H1 : (impl_Sprouts_degrees.j4 k3 x4_3 x5_2 x73_3 (x4_2.length : Int) x73_3 false) = some (r1, r2) := by rw [if_neg (show ¬ (false = true) by decide)] at H; exact H
                                      clear H
                                      have H := H1
                                      clear H1
                                      have H' := Aside0.mk H
                                      clear H
                                      go_wp2_with (first | ((with_reducible refine gate_callee (f := 41) rfl ?_); refine goesL_ (some 79) rfl rfl Tryd.func41 (by kernel_rfl) rfl #[.int .i64 (rd x4_3 x73_3), .int .i64 1, .int .i64 3] rfl (by (try simp only [List.map_toArray, List.map_cons, List.map_nil]); first | done | rfl | (simp only [List.length_drop, List.length_take]; rfl)) ?_; (with_reducible refine (impl_within.calls (rd x4_3 x73_3) 1 3 true _ A59.out).mono ?_); rintro e w' ⟨rfl, ⟨nd, rfl⟩⟩; refine ⟨_, rfl, ?_⟩; obtain ⟨Ao65, co65, eo65⟩ := Kd.R_slice HO_5.out; subst eo65; have p194 : 0 ≤ (x73_3 : Int) := of_decide_eq_true (by first | (with_reducible assumption) | assumption); have q194 : x73_3 < (x5_2.length : Int) := of_decide_eq_true (by first | (with_reducible assumption) | assumption); obtain ⟨ad194, e194, hx194_0⟩ := Kd.at_bool (Kd.R_reads' HO_5.out).2.2 x73_3 p194 q194; (try rw [← Nbq62.out] at hx194_0); cases e194; replace p194 := eq_true p194; replace q194 := eq_true q194))
                                      go_meet
                                      case rel => exact ⟨_, (false), (by first | rfl | (simp; done) | (simp [*]; done)), H', ⟨by have := HJ1.out; have := HK2.out; have := HK3.out; first | omega | exact Nat.le_refl _⟩, ⟨by (try simp only [hl4_3]); (with_reducible repeat (first | apply Kd.R_alloc | apply Kd.R_drewN | apply Kd.R_drew)); exact HO_4.out⟩, ⟨by (try simp only [hl4_3]); (with_reducible repeat (first | apply Kd.R_alloc | apply Kd.R_drewN | apply Kd.R_drew)); exact HO_5.out⟩, ⟨by (try simp only [hl4_3]); (with_reducible repeat (first | refine blk_drewN ?_ _ | refine blk_drew ?_ | refine blk_alloc ?_ _)); exact BK173.out⟩, ⟨by repeat (first | (with_reducible first | exact HB.out | apply below_alloc | apply pw_below_drewN | apply below_drew1 | refine below_set ?_ GE173.out) | exact HB.out)⟩⟩
                                  · rw [if_neg c61] at H
                                    exact absurd H (by simp)
                                · replace c60 := Bool.eq_false_iff.mpr c60
                                  subst c60
                                  have H1 : (impl_Sprouts_degrees.j4 k3 x4_3 x5_2 x73_3 (x4_2.length : Int) x73_3 true) = some (r1, r2) := by rw [if_neg (show ¬ (false = true) by decide)] at H; exact H
                                  clear H
                                  have H := H1
                                  clear H1
                                  have H' := Aside0.mk H
                                  clear H
                                  go_wp2_with (first | ((with_reducible refine gate_callee (f := 41) rfl ?_); refine goesL_ (some 79) rfl rfl Tryd.func41 (by kernel_rfl) rfl #[.int .i64 (rd x4_3 x73_3), .int .i64 1, .int .i64 3] rfl (by (try simp only [List.map_toArray, List.map_cons, List.map_nil]); first | done | rfl | (simp only [List.length_drop, List.length_take]; rfl)) ?_; (with_reducible refine (impl_within.calls (rd x4_3 x73_3) 1 3 false _ A59.out).mono ?_); rintro e w' ⟨rfl, ⟨nd, rfl⟩⟩; refine ⟨_, rfl, ?_⟩))
                                  go_meet
                                  case rel => exact ⟨_, (true), (by first | rfl | (simp; done) | (simp [*]; done)), H', ⟨by have := HJ1.out; have := HK2.out; have := HK3.out; first | omega | exact Nat.le_refl _⟩, ⟨by (try simp only [hl4_3]); (with_reducible repeat (first | apply Kd.R_alloc | apply Kd.R_drewN | apply Kd.R_drew)); exact HO_4.out⟩, ⟨by (try simp only [hl4_3]); (with_reducible repeat (first | apply Kd.R_alloc | apply Kd.R_drewN | apply Kd.R_drew)); exact HO_5.out⟩, ⟨by (try simp only [hl4_3]); (with_reducible repeat (first | refine blk_drewN ?_ _ | refine blk_drew ?_ | refine blk_alloc ?_ _)); exact BK173.out⟩, ⟨by repeat (first | (with_reducible first | exact HB.out | apply below_alloc | apply pw_below_drewN | apply below_drew1 | refine below_set ?_ GE173.out) | exact HB.out)⟩⟩
                              case rest =>
                                clear HC58
                                try clear c1
                                try clear p1
                                try clear q1
                                try clear hx1
                                try clear c2
                                try clear p2
                                try clear q2
                                try clear hx2
                                try clear c3
                                try clear p3
                                try clear q3
                                try clear hx3
                                try clear hf3
                                try clear c4
                                try clear p4
                                try clear q4
                                try clear hx4
                                try clear hf4
                                try clear c5
                                try clear c6
                                try clear p6
                                try clear q6
                                try clear c8
                                try clear c9
                                try clear c9b0
                                try clear c9b1
                                try clear c10
                                try clear c10b0
                                try clear c10b1
                                try clear c11
                                try clear c11b0
                                try clear c11b1
                                try clear c19
                                try clear p19
                                try clear q19
                                try clear hx19
                                try clear p20
                                try clear q20
                                try clear hx20
                                try clear c22
                                try clear c22b0
                                try clear c23
                                try clear c23b0
                                try clear c24
                                try clear c24b0
                                try clear c25
                                try clear c25b0
                                try clear c26
                                try clear c26b0
                                try clear c27
                                try clear c27b0
                                try clear c29
                                try clear c30
                                try clear c30b0
                                try clear c31
                                try clear c31b0
                                try clear p32
                                try clear q32
                                try clear hx32
                                try clear hf32
                                try clear c33
                                try clear c33b0
                                try clear q34
                                try clear c35
                                try clear p36
                                try clear q36
                                try clear hx36
                                try clear hf36
                                try clear c41
                                try clear c42
                                try clear p44
                                try clear q44
                                try clear hx44
                                try clear hf44
                                try clear c53
                                try clear c53b0
                                try clear c53b1
                                try clear c53b2
                                try clear c55
                                try clear c55b0
                                try clear c56
                                try clear c56b0
                                try clear c57
                                try clear c57b0
                                try clear c60
                                try clear c61
                                try clear c61b0
                                try clear q62
                                try clear c63
                                try clear p64
                                try clear hcz19_0
                                try clear hcz19_1
                                try clear hcz37_0
                                try clear hcz37_1
                                try clear hcz45_0
                                try clear hcz45_1
                                try clear hcz52_0
                                try clear hcz52_1
                                try clear hcz6_0
                                try clear hcz6_1
                                try clear hcz7_0
                                try clear hcz7_1
                                try clear hfz19_0
                                try clear hfz19_1
                                try clear hfz37_0
                                try clear hfz37_1
                                try clear hfz45_0
                                try clear hfz45_1
                                try clear hfz52_0
                                try clear hfz52_1
                                try clear hfz6_0
                                try clear hfz6_1
                                try clear hfz7_0
                                try clear hfz7_1
                                try clear hx184_0
                                try clear hx185_0
                                try clear hx187_0
                                try clear hx189_0
                                try clear hx192_0
                                try clear hx194_0
                                try clear hx32_0
                                try clear hx36_0
                                try clear hx44_0
                                try clear p1
                                try clear p19
                                try clear p184
                                try clear p185
                                try clear p187
                                try clear p2
                                try clear p20
                                try clear p189
                                try clear p192
                                try clear p194
                                try clear p3
                                try clear p32
                                try clear p36
                                try clear p4
                                try clear p44
                                try clear p6
                                try clear q1
                                try clear q19
                                try clear q184
                                try clear q185
                                try clear q187
                                try clear q2
                                try clear q20
                                try clear q189
                                try clear q192
                                try clear q194
                                try clear q3
                                try clear q32
                                try clear q34
                                try clear q36
                                try clear q4
                                try clear q44
                                obtain ⟨kq, x90_57, rfl, HA, HJ57, HO_4, HO_5, BK173, HB⟩ := hcut
                                cases kq with
                                | zero => exact absurd HA.out (by simp [impl_Sprouts_degrees.j4])
                                | succ kj57 =>
                                  have H := HA.out
                                  clear HA
                                  simp only [impl_Sprouts_degrees.j4] at H
                                  by_cases c66 : x90_57 = true
                                  · subst c66
                                    have H1 : (some (([] : List Int), false)) = some (r1, r2) := by rw [if_pos rfl] at H; exact H
                                    clear H
                                    have H := H1
                                    clear H1
                                    simp only [Option.some.injEq, Prod.mk.injEq] at H
                                    obtain ⟨rfl, rfl⟩ := H
                                    go_wp2
                                    go_ret2
                                    exact ⟨_, by first | rfl | (simp [errW_none, errW_some] <;> rfl) | (simp [*, errW_none, errW_some] <;> rfl), by first | exact Kd.R_nil _ _ _ _ _ | exact Kd.N_nil _ _ _ _ _ | exact Kd.V_nil _ _ _ _ _ | exact Kd.Q_nil _ _ _ _ _ | exact Kd.S_nil _ _ _ _ _, by repeat (first | (with_reducible first | exact HB.out | apply below_alloc | apply pw_below_drewN | apply below_drew1 | refine below_set ?_ GE173.out) | exact HB.out)⟩
                                  · replace c66 := Bool.eq_false_iff.mpr c66
                                    subst c66
                                    have H1 : (if 0 ≤ x73_3 then (if x73_3 < (x5_2.length : Int) then (if rdOf false x5_2 x73_3 = true then (if x73_3 < (x4_3.length : Int) then (impl_Sprouts_degrees.l2 kj57 (x4_3.set (x73_3 : Int).toNat 0) x5_2 (x4_2.length : Int) (wrap64 (x73_3 + 1))) else (none)) else (impl_Sprouts_degrees.l2 kj57 x4_3 x5_2 (x4_2.length : Int) (wrap64 (x73_3 + 1)))) else (none)) else (none)) = some (r1, r2) := by rw [if_neg (show ¬ (false = true) by decide)] at H; exact H
                                    clear H
                                    have H := H1
                                    clear H1
                                    by_cases c67 : 0 ≤ x73_3
                                    · rw [if_pos c67] at H
                                      have c67b0 : decide (0 ≤ x73_3) = true := decide_eq_true c67
                                      clear c67
                                      by_cases c68 : x73_3 < (x5_2.length : Int)
                                      · rw [if_pos c68] at H
                                        have c68b0 : decide (x73_3 < (x5_2.length : Int)) = true := decide_eq_true c68
                                        clear c68
                                        obtain ⟨bq69, hbq69⟩ : ∃ b_ : Bool, b_ = (rdOf false x5_2 x73_3) := ⟨_, rfl⟩
                                        replace H : (if bq69 = true then (if x73_3 < (x4_3.length : Int) then (impl_Sprouts_degrees.l2 kj57 (x4_3.set (x73_3 : Int).toNat 0) x5_2 (x4_2.length : Int) (wrap64 (x73_3 + 1))) else (none)) else (impl_Sprouts_degrees.l2 kj57 x4_3 x5_2 (x4_2.length : Int) (wrap64 (x73_3 + 1)))) = some (r1, r2) := by rw [← hbq69] at H; exact H
                                        have Nbq69 := Aside0.mk hbq69
                                        clear hbq69
                                        by_cases c70 : bq69 = true
                                        · subst c70
                                          have H1 : (if x73_3 < (x4_3.length : Int) then (impl_Sprouts_degrees.l2 kj57 (x4_3.set (x73_3 : Int).toNat 0) x5_2 (x4_2.length : Int) (wrap64 (x73_3 + 1))) else (none)) = some (r1, r2) := by rw [if_pos rfl] at H; exact H
                                          clear H
                                          have H := H1
                                          clear H1
                                          by_cases c71 : x73_3 < (x4_3.length : Int)
                                          · rw [if_pos c71] at H
                                            have c71b0 : decide (x73_3 < (x4_3.length : Int)) = true := decide_eq_true c71
                                            clear c71
                                            obtain ⟨y196, hy196⟩ : ∃ y_ : List Int, y_ = (x4_3.set (x73_3 : Int).toNat 0) := ⟨_, rfl⟩
                                            replace H : (impl_Sprouts_degrees.l2 kj57 y196 x5_2 (x4_2.length : Int) (wrap64 (x73_3 + 1))) = some (r1, r2) := by first | (rw [hy196]; with_reducible exact H) | (have H2_ := (Option.bind_some _ _).symm.trans H; rw [hy196]; with_reducible exact H2_) | (have H2_ := (Option.bind_some _ _).symm.trans H; with_reducible exact H2_) | with_reducible exact H | (rw [hy196]; exact H) | exact H
                                            have Ny196 := Aside0.mk hy196
                                            clear hy196
                                            have H' := Aside0.mk H
                                            clear H
                                            obtain ⟨Ao73, co73, eo73⟩ := Kd.R_slice HO_5.out
                                            subst eo73
                                            have p195 : 0 ≤ (x73_3 : Int) := of_decide_eq_true (by first | (with_reducible assumption) | assumption)
                                            have q195 : x73_3 < (x5_2.length : Int) := of_decide_eq_true (by first | (with_reducible assumption) | assumption)
                                            obtain ⟨ad195, e195, hx195_0⟩ := Kd.at_bool (Kd.R_reads' HO_5.out).2.2 x73_3 p195 q195
                                            (try rw [← Nbq69.out] at hx195_0)
                                            cases e195
                                            replace p195 := eq_true p195
                                            replace q195 := eq_true q195
                                            have p72 : 0 ≤ (x73_3 : Int) := of_decide_eq_true (by first | (with_reducible assumption) | assumption)
                                            have q72 : (x73_3 : Int) < ((x4_3.length : Int) : Int) := of_decide_eq_true (by first | (with_reducible assumption) | assumption)
                                            obtain ⟨go72, co72, eo72, gb72, gl72, cl72, HG72⟩ := Kd.R_form HO_4.out (by omega)
                                            (first | cases eo72 | (injection eo72 with ea_ en_ ec_; (first | subst ea_ | (injection ea_ with ea_; subst ea_)); subst ec_; clear en_))
                                            have GB72 := Aside0.mk gb72
                                            have GG72 := Aside0.mk HG72
                                            clear gb72 gl72 HG72
                                            (first | simp only [add_plain] at hx192_0 | skip)
                                            obtain ⟨hx72_0, hf72_0⟩ := Kd.R_celln 0 HO_4.out (x73_3 : Int) p72 q72
                                            replace p72 := eq_true p72
                                            replace q72 := eq_true q72
                                            have HP74 := Kd.R_putg HO_4.out (x73_3 : Int) 0
                                            go_wp2_with (first | ((with_reducible refine gate_store (t := 2) (p := 97) rfl ?_); refine store_event (t := 2) (p := 97) (v := ?vo_w75) (w1 := (wc.setCell ⟨go72, (x73_3 : Int).toNat, none⟩ (.int .i64 0))) ?hg ?ho ?hn ?hr ?_; (case ho => rfl); (case hg => rfl); (case hn => rfl); (case hr => first | (go_simp; done) | (go_simp; rfl)); intro w75 hw; have hg : wc.grownBy w75 (some go72) := (by rw [hw]; exact HP74.2); have hp_ : Kd.R (Kd.int .i64) 2 w75 w.heap.size (fun _ => True) (.slice (some ⟨go72, 0, none⟩) x4_3.length co54) y196 := (by rw [hw, Ny196.out]; exact HP74.1); clear HP74; have n0_ := Aside0.mk (hp_); have n1_ := Aside0.mk (Kd.R_over' (v := (.slice (some ⟨go72, 0, none⟩) x4_3.length co54)) (by (with_reducible repeat (first | apply Kd.R_alloc | apply Kd.R_drewN | apply Kd.R_drew)); exact HO_5.out) (Kd.R_typed HO_4.out) (by decide) hg); have n2_ := Aside0.mk (blk_grown (g := gb173) (o := .cells #[.int .i64 a0_0, .slice A0_1 l0_1.length c0_1] 24 (0, 0)) (by (with_reducible repeat (first | refine blk_drewN ?_ _ | refine blk_drew ?_ | refine blk_alloc ?_ _)); exact BK173.out) hg (Kd.R_ne HO_4.out BK173.out (by decide))); have n3_ := Aside0.mk ((by rw [hw]; exact below_set (HB.out) GB72.out : Below w.heap.size w w75)); clear HO_4; clear HO_5; clear BK173; clear HB; have HO_4 := n0_; have HO_5 := n1_; have BK173 := n2_; have HB := n3_; clear n0_ n1_ n2_ n3_; clear hg hw hp_))
                                            (try simp only [← hl4_3])
                                            go_roundg kj57
                                            case measure => have := HJ1.out; have := HK2.out; have := HK3.out; have := HJ57.out; omega
                                            case rel => exact ⟨(y196), (wrap64 (x73_3 + 1)), (by first | rfl | (simp; done) | (simp [*]; done)), H', ⟨by have := HJ1.out; have := HK2.out; have := HK3.out; have := HJ57.out; omega⟩, ⟨by (try simp only [hl4_3]); (with_reducible repeat (first | apply Kd.R_alloc | apply Kd.R_drewN | apply Kd.R_drew)); exact HO_4.out⟩, ⟨by (try simp only [hl4_3]); (with_reducible repeat (first | apply Kd.R_alloc | apply Kd.R_drewN | apply Kd.R_drew)); exact HO_5.out⟩, ⟨by (try simp only [hl4_3]); (with_reducible repeat (first | refine blk_drewN ?_ _ | refine blk_drew ?_ | refine blk_alloc ?_ _)); exact BK173.out⟩, ⟨by repeat (first | (with_reducible first | exact HB.out | apply below_alloc | apply pw_below_drewN | apply below_drew1 | refine below_set ?_ GE173.out) | exact HB.out)⟩⟩
                                          · rw [if_neg c71] at H
                                            exact absurd H (by simp)
                                        · replace c70 := Bool.eq_false_iff.mpr c70
                                          subst c70
                                          have H1 : (impl_Sprouts_degrees.l2 kj57 x4_3 x5_2 (x4_2.length : Int) (wrap64 (x73_3 + 1))) = some (r1, r2) := by rw [if_neg (show ¬ (false = true) by decide)] at H; exact H
                                          clear H
                                          have H := H1
                                          clear H1
                                          have H' := Aside0.mk H
                                          clear H
                                          obtain ⟨Ao76, co76, eo76⟩ := Kd.R_slice HO_5.out
                                          subst eo76
                                          have p195 : 0 ≤ (x73_3 : Int) := of_decide_eq_true (by first | (with_reducible assumption) | assumption)
                                          have q195 : x73_3 < (x5_2.length : Int) := of_decide_eq_true (by first | (with_reducible assumption) | assumption)
                                          obtain ⟨ad195, e195, hx195_0⟩ := Kd.at_bool (Kd.R_reads' HO_5.out).2.2 x73_3 p195 q195
                                          (try rw [← Nbq69.out] at hx195_0)
                                          cases e195
                                          replace p195 := eq_true p195
                                          replace q195 := eq_true q195
                                          go_wp2
                                          (try simp only [← hl4_3])
                                          go_roundg kj57
                                          case measure => have := HJ1.out; have := HK2.out; have := HK3.out; have := HJ57.out; omega
                                          case rel => exact ⟨(x4_3), (wrap64 (x73_3 + 1)), (by first | rfl | (simp; done) | (simp [*]; done)), H', ⟨by have := HJ1.out; have := HK2.out; have := HK3.out; have := HJ57.out; omega⟩, ⟨by (try simp only [hl4_3]); (with_reducible repeat (first | apply Kd.R_alloc | apply Kd.R_drewN | apply Kd.R_drew)); exact HO_4.out⟩, ⟨by (try simp only [hl4_3]); (with_reducible repeat (first | apply Kd.R_alloc | apply Kd.R_drewN | apply Kd.R_drew)); exact HO_5.out⟩, ⟨by (try simp only [hl4_3]); (with_reducible repeat (first | refine blk_drewN ?_ _ | refine blk_drew ?_ | refine blk_alloc ?_ _)); exact BK173.out⟩, ⟨by repeat (first | (with_reducible first | exact HB.out | apply below_alloc | apply pw_below_drewN | apply below_drew1 | refine below_set ?_ GE173.out) | exact HB.out)⟩⟩
                                      · rw [if_neg c68] at H
                                        exact absurd H (by simp)
                                    · rw [if_neg c67] at H
                                      exact absurd H (by simp)
                            · rw [if_neg c57] at H
                              exact absurd H (by simp)
                          · rw [if_neg c56] at H
                            exact absurd H (by simp)
                        · rw [if_neg c55] at H
                          have c55b0 : decide (x73_3 < (x4_2.length : Int)) = false := decide_eq_false c55
                          have c55b1 : decide (x73_3 < (x4_3.length : Int)) = false := by first | (rw [hl4_3]; exact c55b0) | (rw [← hl4_3]; exact c55b0)
                          clear c55
                          simp only [Option.some.injEq, Prod.mk.injEq] at H
                          obtain ⟨rfl, rfl⟩ := H
                          go_wp2
                          go_ret2
                          exact ⟨_, by first | rfl | (simp [errW_none, errW_some] <;> rfl) | (simp [*, errW_none, errW_some] <;> rfl), by (with_reducible repeat (first | apply Kd.R_alloc | apply Kd.R_drewN | apply Kd.R_drew)); exact HO_4.out, by repeat (first | (with_reducible first | exact HB.out | apply below_alloc | apply pw_below_drewN | apply below_drew1 | refine below_set ?_ GE173.out) | exact HB.out)⟩
            · rw [if_neg c11] at H
              exact absurd H (by simp)
          · rw [if_neg c10] at H
            exact absurd H (by simp)
        · rw [if_neg c9] at H
          exact absurd H (by simp)

end Go.Proofs.YtfcafnnpejngiaaDoor.PX

namespace Go.Proofs.YtfcafnnpejngiaaDoor.PX
open Go.RowKit Go.Proofs.YtfcafnnpejngiaaDoorW.PrintWords Go.Proofs.YtfcafnnpejngiaaDoorW.PrintLast Go.Proofs.YtfcafnnpejngiaaDoorW.PrintMore
attribute [local go_sem] max2_int min2_int max_two min_two max_three min_three max_four min_four   -- for this text's walks alone
set_option linter.unusedVariables false
set_option linter.unusedSimpArgs false

/-! ### impl_IsSprouts: function 17 -/
def impl_IsSprouts.f (k : Nat) (a0_0 : Int) (l0_1 : List (List (List Int))) : Option (Bool) := (impl_Sprouts_degrees.f k a0_0 l0_1).bind fun bt210 => (some bt210.2)
theorem impl_IsSprouts.mono : ∀ a0 a1 k, LeO (impl_IsSprouts.f k a0 a1) (impl_IsSprouts.f (k + 1) a0 a1) := by
  intro a0 a1 k
  unfold impl_IsSprouts.f
  repeat' first
      | (with_reducible exact impl_Sprouts_degrees.mono _ _ _)
      | (with_reducible exact LeO.refl _)
      | (with_reducible exact LeO.none _)
      | (with_reducible refine LeO.ite ?_ ?_)
      | (with_reducible refine LeO.bind ?_ (fun _ => ?_))
      | exact impl_Sprouts_degrees.mono _ _ _
      | exact LeO.none _
      | refine LeO.ite ?_ ?_
      | refine LeO.bind ?_ (fun _ => ?_)
set_option maxHeartbeats 8000000 in
set_option maxRecDepth 100000 in
theorem impl_IsSprouts.calls (k : Nat) (a0_0 : Int) (A0_1 : Option Addr) (c0_1 : Nat) (l0_1 : List (List (List Int))) (r : Bool) (w : World) (hr0_1 : Kd.C (Kd.slice 38 (Kd.slice 2 (Kd.int .i64))) w A0_1 l0_1.length l0_1) (hc0_1 : l0_1.length ≤ c0_1) (h : impl_IsSprouts.f k a0_0 l0_1 = some r) :
    Calls Tryd.prog 17 #[.agg #[.int .i64 a0_0, .slice A0_1 l0_1.length c0_1]] w fun e w' => e = .returned (.bool r) ∧ Below w.heap.size w w' := by
  have hu24 := Tryd.underlying24
  have HR0_1 := Aside0.mk hr0_1
  have HC0_1 := Aside0.mk hc0_1
  clear hr0_1 hc0_1
  have HB := Aside0.mk (Below.refl w.heap.size w)
  have H : ((impl_Sprouts_degrees.f k a0_0 l0_1).bind fun bt210 => (some bt210.2)) = some r := h
  clear h
  replace H := Option.bind_eq_some_iff.mp H
  obtain ⟨⟨t210, t213⟩, A20, H⟩ := H
  replace H : (some t213) = some r := H
  have A2 := Aside0.mk A20
  clear A20
  obtain rfl := Option.some.inj H
  go_enter Tryd.func17, Tryd.ntmps17
  go_wp2_with (first | ((with_reducible refine gate_dst (N := 1) rfl ?_); refine box_event ?hg (N := 1) ?hd (cs := #[.int .i64 a0_0, .slice A0_1 l0_1.length c0_1]) (t := 24) ?hr ?_; (case hd => rfl); (case hg => rfl); (case hr => first | (go_simp; done) | (go_simp; rfl)); intro gb209 hg w3 hbox hb; have n0_ := Aside0.mk (below_step (by repeat (first | (with_reducible first | exact HB.out | apply below_alloc | apply pw_below_drewN | apply below_drew1) | exact HB.out)) hb); have n1_ := Aside0.mk (hbox); have n2_ := Aside0.mk ((by rw [hg]; exact (below_size (by repeat (first | (with_reducible first | exact HB.out | apply below_alloc | apply pw_below_drewN | apply below_drew1) | exact HB.out))) : w.heap.size ≤ gb209)); have n3_ := Aside0.mk ((by rw [hg]; exact (below_size (by repeat (first | (with_reducible first | exact HB.out | apply below_alloc | apply pw_below_drewN | apply below_drew1) | exact HB.out))) : w.heap.size ≤ gb209)); clear HB; have HB := n0_; have BK209 := n1_; have GW209 := n2_; have GE209 := n3_; clear n0_ n1_ n2_ n3_; clear hb hbox hg; have hcz4_0 : w3.cell? ⟨gb209, 0, none⟩ = some (.int .i64 a0_0) := (blk_cell BK209.out 0).trans rfl; have hcz4_1 : w3.cell? ⟨gb209, 1, none⟩ = some (.slice A0_1 l0_1.length c0_1) := (blk_cell BK209.out 1).trans rfl; have hfz4_0 := blk_frozen BK209.out 0; have hfz4_1 := blk_frozen BK209.out 1) | ((with_reducible refine gate_callee (f := 27) rfl ?_); refine goesL_ (some 7) rfl rfl Tryd.func27 (by kernel_rfl) rfl #[.agg #[.int .i64 a0_0, .slice A0_1 l0_1.length c0_1]] rfl (by (try simp only [List.map_toArray, List.map_cons, List.map_nil]); first | done | rfl | (simp only [List.length_drop, List.length_take]; rfl)) ?_; (with_reducible refine (impl_Sprouts_degrees.calls k a0_0 _ _ l0_1 t210 t213 _ ?side1 ?side2 A2.out).mono ?_); (case side1 => repeat (first | exact (Kd.C_below HR0_1.out HB.out) | (with_reducible refine Kd.C_alloc ?_ _) | (with_reducible refine Kd.C_drewN ?_ _) | (with_reducible refine Kd.C_drew ?_))); (case side2 => exact HC0_1.out); rintro e w5 ⟨v211, rfl, ho0, hb⟩; refine ⟨_, rfl, ?_⟩; have n0_ := Aside0.mk (Kd.R_lower ho0 (below_size (by repeat (first | (with_reducible first | exact HB.out | apply below_alloc | apply pw_below_drewN | apply below_drew1 | refine below_set ?_ GE209.out) | exact HB.out)))); have n1_ := Aside0.mk (blk_below (g := gb209) (o := .cells #[.int .i64 a0_0, .slice A0_1 l0_1.length c0_1] 24 (0, 0)) (by (with_reducible repeat (first | refine blk_drewN ?_ _ | refine blk_drew ?_ | refine blk_alloc ?_ _)); exact BK209.out) hb); have n2_ := Aside0.mk (below_step (by repeat (first | (with_reducible first | exact HB.out | apply below_alloc | apply pw_below_drewN | apply below_drew1 | refine below_set ?_ GE209.out) | exact HB.out)) hb); clear BK209; clear HB; have HO212 := n0_; have BK209 := n1_; have HB := n2_; clear n0_ n1_ n2_; (try clear hb); (try clear hb2); (try clear hk); (try clear hi); (try clear ho0)))
  go_ret
  exact ⟨by first | rfl | (simp [errW_none, errW_some] <;> rfl) | (simp [*, errW_none, errW_some] <;> rfl), by repeat (first | (with_reducible first | exact HB.out | apply below_alloc | apply pw_below_drewN | apply below_drew1 | refine below_set ?_ GE209.out) | exact HB.out)⟩

end Go.Proofs.YtfcafnnpejngiaaDoor.PX

namespace Go.Proofs.YtfcafnnpejngiaaDoor.PX
open Go.RowKit Go.Proofs.YtfcafnnpejngiaaDoorW.PrintWords Go.Proofs.YtfcafnnpejngiaaDoorW.PrintLast Go.Proofs.YtfcafnnpejngiaaDoorW.PrintMore
attribute [local go_sem] max2_int min2_int max_two min_two max_three min_three max_four min_four   -- for this text's walks alone
set_option linter.unusedVariables false
set_option linter.unusedSimpArgs false

/-! ### laws_heldSprouts: function 9 -/
def laws_heldSprouts.f (k : Nat) (a0_0 : Int) (l0_1 : List (List (List Int))) (a1 : Int) : Option (Int) := (laws_heldInt64SSS.f k l0_1 a1).bind fun t264 => (if t264 < 0 then (some (-1)) else (some t264))
theorem laws_heldSprouts.mono : ∀ a0 a1 a2 k, LeO (laws_heldSprouts.f k a0 a1 a2) (laws_heldSprouts.f (k + 1) a0 a1 a2) := by
  intro a0 a1 a2 k
  unfold laws_heldSprouts.f
  repeat' first
      | (with_reducible exact laws_heldInt64SSS.mono _ _ _)
      | (with_reducible exact LeO.refl _)
      | (with_reducible exact LeO.none _)
      | (with_reducible refine LeO.ite ?_ ?_)
      | (with_reducible refine LeO.bind ?_ (fun _ => ?_))
      | exact laws_heldInt64SSS.mono _ _ _
      | exact LeO.none _
      | refine LeO.ite ?_ ?_
      | refine LeO.bind ?_ (fun _ => ?_)
set_option maxHeartbeats 8000000 in
set_option maxRecDepth 100000 in
theorem laws_heldSprouts.calls (k : Nat) (a0_0 : Int) (A0_1 : Option Addr) (c0_1 : Nat) (l0_1 : List (List (List Int))) (a1 : Int) (r : Int) (w : World) (hr0_1 : Kd.C (Kd.slice 38 (Kd.slice 2 (Kd.int .i64))) w A0_1 l0_1.length l0_1) (hc0_1 : l0_1.length ≤ c0_1) (h : laws_heldSprouts.f k a0_0 l0_1 a1 = some r) :
    Calls Tryd.prog 9 #[.agg #[.int .i64 a0_0, .slice A0_1 l0_1.length c0_1], .int .i64 a1] w fun e w' => e = .returned (.int .i64 r) ∧ Below w.heap.size w w' := by
  have hu24 := Tryd.underlying24
  have HR0_1 := Aside0.mk hr0_1
  have HC0_1 := Aside0.mk hc0_1
  clear hr0_1 hc0_1
  have HB := Aside0.mk (Below.refl w.heap.size w)
  have H : ((laws_heldInt64SSS.f k l0_1 a1).bind fun t264 => (if t264 < 0 then (some (-1)) else (some t264))) = some r := h
  clear h
  replace H := Option.bind_eq_some_iff.mp H
  obtain ⟨t264, A30, H⟩ := H
  replace H : (if t264 < 0 then (some (-1)) else (some t264)) = some r := H
  have A3 := Aside0.mk A30
  clear A30
  by_cases c4 : t264 < 0
  · rw [if_pos c4] at H
    have c4b0 : decide (t264 < 0) = true := decide_eq_true c4
    clear c4
    obtain rfl := Option.some.inj H
    go_enter Tryd.func9, Tryd.ntmps9
    go_wp2_with (first | ((with_reducible refine gate_dst (N := 2) rfl ?_); refine box_event ?hg (N := 2) ?hd (cs := #[.int .i64 a0_0, .slice A0_1 l0_1.length c0_1]) (t := 24) ?hr ?_; (case hd => rfl); (case hg => rfl); (case hr => first | (go_simp; done) | (go_simp; rfl)); intro gb263 hg w5 hbox hb; have n0_ := Aside0.mk (below_step (by repeat (first | (with_reducible first | exact HB.out | apply below_alloc | apply pw_below_drewN | apply below_drew1) | exact HB.out)) hb); have n1_ := Aside0.mk (hbox); have n2_ := Aside0.mk ((by rw [hg]; exact (below_size (by repeat (first | (with_reducible first | exact HB.out | apply below_alloc | apply pw_below_drewN | apply below_drew1) | exact HB.out))) : w.heap.size ≤ gb263)); have n3_ := Aside0.mk ((by rw [hg]; exact (below_size (by repeat (first | (with_reducible first | exact HB.out | apply below_alloc | apply pw_below_drewN | apply below_drew1) | exact HB.out))) : w.heap.size ≤ gb263)); clear HB; have HB := n0_; have BK263 := n1_; have GW263 := n2_; have GE263 := n3_; clear n0_ n1_ n2_ n3_; clear hb hbox hg; have hcz6_0 : w5.cell? ⟨gb263, 0, none⟩ = some (.int .i64 a0_0) := (blk_cell BK263.out 0).trans rfl; have hcz6_1 : w5.cell? ⟨gb263, 1, none⟩ = some (.slice A0_1 l0_1.length c0_1) := (blk_cell BK263.out 1).trans rfl; have hfz6_0 := blk_frozen BK263.out 0; have hfz6_1 := blk_frozen BK263.out 1) | ((with_reducible refine gate_callee (f := 20) rfl ?_); refine goesL_ (some 8) rfl rfl Tryd.func20 (by kernel_rfl) rfl #[.slice A0_1 l0_1.length c0_1, .int .i64 a1] rfl (by (try simp only [List.map_toArray, List.map_cons, List.map_nil]); first | done | rfl | (simp only [List.length_drop, List.length_take]; rfl)) ?_; (with_reducible refine (laws_heldInt64SSS.calls k _ _ l0_1 a1 t264 _ ?side1 ?side2 A3.out).mono ?_); (case side1 => repeat (first | exact (Kd.C_below HR0_1.out HB.out) | (with_reducible refine Kd.C_alloc ?_ _) | (with_reducible refine Kd.C_drewN ?_ _) | (with_reducible refine Kd.C_drew ?_))); (case side2 => exact HC0_1.out); rintro e w' ⟨rfl, ⟨nd, rfl⟩⟩; refine ⟨_, rfl, ?_⟩))
    go_ret
    exact ⟨by first | rfl | (simp [errW_none, errW_some] <;> rfl) | (simp [*, errW_none, errW_some] <;> rfl), by repeat (first | (with_reducible first | exact HB.out | apply below_alloc | apply pw_below_drewN | apply below_drew1 | refine below_set ?_ GE263.out) | exact HB.out)⟩
  · rw [if_neg c4] at H
    have c4b0 : decide (t264 < 0) = false := decide_eq_false c4
    clear c4
    obtain rfl := Option.some.inj H
    go_enter Tryd.func9, Tryd.ntmps9
    go_wp2_with (first | ((with_reducible refine gate_dst (N := 2) rfl ?_); refine box_event ?hg (N := 2) ?hd (cs := #[.int .i64 a0_0, .slice A0_1 l0_1.length c0_1]) (t := 24) ?hr ?_; (case hd => rfl); (case hg => rfl); (case hr => first | (go_simp; done) | (go_simp; rfl)); intro gb263 hg w7 hbox hb; have n0_ := Aside0.mk (below_step (by repeat (first | (with_reducible first | exact HB.out | apply below_alloc | apply pw_below_drewN | apply below_drew1) | exact HB.out)) hb); have n1_ := Aside0.mk (hbox); have n2_ := Aside0.mk ((by rw [hg]; exact (below_size (by repeat (first | (with_reducible first | exact HB.out | apply below_alloc | apply pw_below_drewN | apply below_drew1) | exact HB.out))) : w.heap.size ≤ gb263)); have n3_ := Aside0.mk ((by rw [hg]; exact (below_size (by repeat (first | (with_reducible first | exact HB.out | apply below_alloc | apply pw_below_drewN | apply below_drew1) | exact HB.out))) : w.heap.size ≤ gb263)); clear HB; have HB := n0_; have BK263 := n1_; have GW263 := n2_; have GE263 := n3_; clear n0_ n1_ n2_ n3_; clear hb hbox hg; have hcz8_0 : w7.cell? ⟨gb263, 0, none⟩ = some (.int .i64 a0_0) := (blk_cell BK263.out 0).trans rfl; have hcz8_1 : w7.cell? ⟨gb263, 1, none⟩ = some (.slice A0_1 l0_1.length c0_1) := (blk_cell BK263.out 1).trans rfl; have hfz8_0 := blk_frozen BK263.out 0; have hfz8_1 := blk_frozen BK263.out 1) | ((with_reducible refine gate_callee (f := 20) rfl ?_); refine goesL_ (some 8) rfl rfl Tryd.func20 (by kernel_rfl) rfl #[.slice A0_1 l0_1.length c0_1, .int .i64 a1] rfl (by (try simp only [List.map_toArray, List.map_cons, List.map_nil]); first | done | rfl | (simp only [List.length_drop, List.length_take]; rfl)) ?_; (with_reducible refine (laws_heldInt64SSS.calls k _ _ l0_1 a1 t264 _ ?side1 ?side2 A3.out).mono ?_); (case side1 => repeat (first | exact (Kd.C_below HR0_1.out HB.out) | (with_reducible refine Kd.C_alloc ?_ _) | (with_reducible refine Kd.C_drewN ?_ _) | (with_reducible refine Kd.C_drew ?_))); (case side2 => exact HC0_1.out); rintro e w' ⟨rfl, ⟨nd, rfl⟩⟩; refine ⟨_, rfl, ?_⟩))
    go_ret
    exact ⟨by first | rfl | (simp [errW_none, errW_some] <;> rfl) | (simp [*, errW_none, errW_some] <;> rfl), by repeat (first | (with_reducible first | exact HB.out | apply below_alloc | apply pw_below_drewN | apply below_drew1 | refine below_set ?_ GE263.out) | exact HB.out)⟩

-- NOT PRINTED: function 3 (laws_FnExactParseSprouts)

end Go.Proofs.YtfcafnnpejngiaaDoor.PX

namespace Go.Proofs.YtfcafnnpejngiaaDoor.PX
open Go.RowKit Go.Proofs.YtfcafnnpejngiaaDoorW.PrintWords Go.Proofs.YtfcafnnpejngiaaDoorW.PrintLast Go.Proofs.YtfcafnnpejngiaaDoorW.PrintMore
attribute [local go_sem] max2_int min2_int max_two min_two max_three min_three max_four min_four   -- for this text's walks alone
set_option linter.unusedVariables false
set_option linter.unusedSimpArgs false

/-! ### spec_l02Is: function 15 -/
def spec_l02Is.f (k : Nat) (a0_0 : Int) (l0_1 : List (List (List Int))) : Option (Bool) := (spec_l02Degrees.f k a0_0 l0_1).bind fun bt138 => (some bt138.2)
theorem spec_l02Is.mono : ∀ a0 a1 k, LeO (spec_l02Is.f k a0 a1) (spec_l02Is.f (k + 1) a0 a1) := by
  intro a0 a1 k
  unfold spec_l02Is.f
  repeat' first
      | (with_reducible exact spec_l02Degrees.mono _ _ _)
      | (with_reducible exact LeO.refl _)
      | (with_reducible exact LeO.none _)
      | (with_reducible refine LeO.ite ?_ ?_)
      | (with_reducible refine LeO.bind ?_ (fun _ => ?_))
      | exact spec_l02Degrees.mono _ _ _
      | exact LeO.none _
      | refine LeO.ite ?_ ?_
      | refine LeO.bind ?_ (fun _ => ?_)
set_option maxHeartbeats 8000000 in
set_option maxRecDepth 100000 in
theorem spec_l02Is.calls (k : Nat) (a0_0 : Int) (A0_1 : Option Addr) (c0_1 : Nat) (l0_1 : List (List (List Int))) (r : Bool) (w : World) (hr0_1 : Kd.C (Kd.slice 38 (Kd.slice 2 (Kd.int .i64))) w A0_1 l0_1.length l0_1) (hc0_1 : l0_1.length ≤ c0_1) (h : spec_l02Is.f k a0_0 l0_1 = some r) :
    Calls Tryd.prog 15 #[.agg #[.int .i64 a0_0, .slice A0_1 l0_1.length c0_1]] w fun e w' => e = .returned (.bool r) ∧ Below w.heap.size w w' := by
  have hu24 := Tryd.underlying24
  have HR0_1 := Aside0.mk hr0_1
  have HC0_1 := Aside0.mk hc0_1
  clear hr0_1 hc0_1
  have HB := Aside0.mk (Below.refl w.heap.size w)
  have H : ((spec_l02Degrees.f k a0_0 l0_1).bind fun bt138 => (some bt138.2)) = some r := h
  clear h
  replace H := Option.bind_eq_some_iff.mp H
  obtain ⟨⟨t138, t141⟩, A20, H⟩ := H
  replace H : (some t141) = some r := H
  have A2 := Aside0.mk A20
  clear A20
  obtain rfl := Option.some.inj H
  go_enter Tryd.func15, Tryd.ntmps15
  go_wp2_with (first | ((with_reducible refine gate_dst (N := 1) rfl ?_); refine box_event ?hg (N := 1) ?hd (cs := #[.int .i64 a0_0, .slice A0_1 l0_1.length c0_1]) (t := 24) ?hr ?_; (case hd => rfl); (case hg => rfl); (case hr => first | (go_simp; done) | (go_simp; rfl)); intro gb137 hg w3 hbox hb; have n0_ := Aside0.mk (below_step (by repeat (first | (with_reducible first | exact HB.out | apply below_alloc | apply pw_below_drewN | apply below_drew1) | exact HB.out)) hb); have n1_ := Aside0.mk (hbox); have n2_ := Aside0.mk ((by rw [hg]; exact (below_size (by repeat (first | (with_reducible first | exact HB.out | apply below_alloc | apply pw_below_drewN | apply below_drew1) | exact HB.out))) : w.heap.size ≤ gb137)); have n3_ := Aside0.mk ((by rw [hg]; exact (below_size (by repeat (first | (with_reducible first | exact HB.out | apply below_alloc | apply pw_below_drewN | apply below_drew1) | exact HB.out))) : w.heap.size ≤ gb137)); clear HB; have HB := n0_; have BK137 := n1_; have GW137 := n2_; have GE137 := n3_; clear n0_ n1_ n2_ n3_; clear hb hbox hg; have hcz4_0 : w3.cell? ⟨gb137, 0, none⟩ = some (.int .i64 a0_0) := (blk_cell BK137.out 0).trans rfl; have hcz4_1 : w3.cell? ⟨gb137, 1, none⟩ = some (.slice A0_1 l0_1.length c0_1) := (blk_cell BK137.out 1).trans rfl; have hfz4_0 := blk_frozen BK137.out 0; have hfz4_1 := blk_frozen BK137.out 1) | ((with_reducible refine gate_callee (f := 25) rfl ?_); refine goesL_ (some 7) rfl rfl Tryd.func25 (by kernel_rfl) rfl #[.agg #[.int .i64 a0_0, .slice A0_1 l0_1.length c0_1]] rfl (by (try simp only [List.map_toArray, List.map_cons, List.map_nil]); first | done | rfl | (simp only [List.length_drop, List.length_take]; rfl)) ?_; (with_reducible refine (spec_l02Degrees.calls k a0_0 _ _ l0_1 t138 t141 _ ?side1 ?side2 A2.out).mono ?_); (case side1 => repeat (first | exact (Kd.C_below HR0_1.out HB.out) | (with_reducible refine Kd.C_alloc ?_ _) | (with_reducible refine Kd.C_drewN ?_ _) | (with_reducible refine Kd.C_drew ?_))); (case side2 => exact HC0_1.out); rintro e w5 ⟨v139, rfl, ho0, hb⟩; refine ⟨_, rfl, ?_⟩; have n0_ := Aside0.mk (Kd.R_lower ho0 (below_size (by repeat (first | (with_reducible first | exact HB.out | apply below_alloc | apply pw_below_drewN | apply below_drew1 | refine below_set ?_ GE137.out) | exact HB.out)))); have n1_ := Aside0.mk (blk_below (g := gb137) (o := .cells #[.int .i64 a0_0, .slice A0_1 l0_1.length c0_1] 24 (0, 0)) (by (with_reducible repeat (first | refine blk_drewN ?_ _ | refine blk_drew ?_ | refine blk_alloc ?_ _)); exact BK137.out) hb); have n2_ := Aside0.mk (below_step (by repeat (first | (with_reducible first | exact HB.out | apply below_alloc | apply pw_below_drewN | apply below_drew1 | refine below_set ?_ GE137.out) | exact HB.out)) hb); clear BK137; clear HB; have HO140 := n0_; have BK137 := n1_; have HB := n2_; clear n0_ n1_ n2_; (try clear hb); (try clear hb2); (try clear hk); (try clear hi); (try clear ho0)))
  go_ret
  exact ⟨by first | rfl | (simp [errW_none, errW_some] <;> rfl) | (simp [*, errW_none, errW_some] <;> rfl), by repeat (first | (with_reducible first | exact HB.out | apply below_alloc | apply pw_below_drewN | apply below_drew1 | refine below_set ?_ GE137.out) | exact HB.out)⟩

end Go.Proofs.YtfcafnnpejngiaaDoor.PX

namespace Go.Proofs.YtfcafnnpejngiaaDoor.PX
open Go.RowKit Go.Proofs.YtfcafnnpejngiaaDoorW.PrintWords Go.Proofs.YtfcafnnpejngiaaDoorW.PrintLast Go.Proofs.YtfcafnnpejngiaaDoorW.PrintMore
attribute [local go_sem] max2_int min2_int max_two min_two max_three min_three max_four min_four   -- for this text's walks alone
set_option linter.unusedVariables false
set_option linter.unusedSimpArgs false

/-! ### spec_ParseSprouts: function 5 -/
mutual
def spec_ParseSprouts.l0 : Nat → List ByteArray → Int → Int → List (List (List Int)) → Option (Int × (List (List (List Int))) × Int)
  | 0, _, _, _, _ => none
  | k + 1, x5, x6, x150000, x150001 => if x6 < (x5.length : Int) then ((some (([] : List (List Int)) : List (List Int))).bind fun y151 => (if 0 ≤ x6 then (if (rdOf ByteArray.empty x5 x6).toList = ([] : List UInt8) then (if x150001.length < 5864062014805 then (spec_ParseSprouts.l0 k x5 (wrap64 (x6 + 1)) x150000 (x150001 ++ [y151])) else (none)) else ((spec_l01Split.f k (rdOf ByteArray.empty x5 x6) 44).bind fun t159 => (spec_ParseSprouts.l1 k x5 x6 y151 t159 0 x150000 x150001))) else (none))) else ((spec_l02Is.f k x150000 x150001).bind fun t150 => (if t150 = true then (some (x150000, x150001, 0)) else (some (0, ([] : List (List (List Int))), 6))))
def spec_ParseSprouts.l1 : Nat → List ByteArray → Int → List (List Int) → List ByteArray → Int → Int → List (List (List Int)) → Option (Int × (List (List (List Int))) × Int)
  | 0, _, _, _, _, _, _, _ => none
  | k + 1, x5, x6, x7, x8, x9, x150000, x150001 => if x9 < (x8.length : Int) then (spec_ParseSprouts.l2 k x5 x6 x7 x8 x9 (([] : List Int)) 0 x150000 x150001) else (if x150001.length < 5864062014805 then (spec_ParseSprouts.l0 k x5 (wrap64 (x6 + 1)) x150000 (x150001 ++ [x7])) else (none))
def spec_ParseSprouts.l2 : Nat → List ByteArray → Int → List (List Int) → List ByteArray → Int → List Int → Int → Int → List (List (List Int)) → Option (Int × (List (List (List Int))) × Int)
  | 0, _, _, _, _, _, _, _, _, _ => none
  | k + 1, x5, x6, x7, x8, x9, x10, x11, x150000, x150001 => if 0 ≤ x9 then (if x9 < (x8.length : Int) then (if x11 < ((rdOf ByteArray.empty x8 x9).size : Int) then (if 0 ≤ x11 then ((spec_l01In.f (wrap64 ((wrap64 (bt (rdOf ByteArray.empty x8 x9) x11)) - 97)) 0 19).bind fun t170 => (if t170 = true then (if x10.length < 17592186044416 then (spec_ParseSprouts.l2 k x5 x6 x7 x8 x9 (x10 ++ [wrap64 ((wrap64 (bt (rdOf ByteArray.empty x8 x9) x11)) - 97)]) (wrap64 (x11 + 1)) (mx x150000 (wrap64 ((wrap64 ((wrap64 (bt (rdOf ByteArray.empty x8 x9) x11)) - 97)) + 1))) x150001) else (none)) else (some (0, ([] : List (List (List Int))), 6)))) else (none)) else (if x7.length < 5864062014805 then (spec_ParseSprouts.l1 k x5 x6 (x7 ++ [x10]) x8 (wrap64 (x9 + 1)) x150000 x150001) else (none))) else (none)) else (none)
end
def spec_ParseSprouts.f (k : Nat) (a0 : ByteArray) : Option (Int × (List (List (List Int))) × Int) := (spec_l01Split.f k a0 47).bind fun t146 => (spec_ParseSprouts.l0 k t146 0 0 (([] : List (List (List Int)))))
theorem spec_ParseSprouts.mono_l : ∀ k, (∀ y0 y1 y2 y3, LeO (spec_ParseSprouts.l0 k y0 y1 y2 y3) (spec_ParseSprouts.l0 (k + 1) y0 y1 y2 y3)) ∧ (∀ y0 y1 y2 y3 y4 y5 y6, LeO (spec_ParseSprouts.l1 k y0 y1 y2 y3 y4 y5 y6) (spec_ParseSprouts.l1 (k + 1) y0 y1 y2 y3 y4 y5 y6)) ∧ (∀ y0 y1 y2 y3 y4 y5 y6 y7 y8, LeO (spec_ParseSprouts.l2 k y0 y1 y2 y3 y4 y5 y6 y7 y8) (spec_ParseSprouts.l2 (k + 1) y0 y1 y2 y3 y4 y5 y6 y7 y8))
  | 0 => ⟨fun _ _ _ _ r h => by simp [spec_ParseSprouts.l0] at h, fun _ _ _ _ _ _ _ r h => by simp [spec_ParseSprouts.l1] at h, fun _ _ _ _ _ _ _ _ _ r h => by simp [spec_ParseSprouts.l2] at h⟩
  | k + 1 => by
    obtain ⟨ih0, ih1, ih2⟩ := spec_ParseSprouts.mono_l k
    refine ⟨?_, ?_, ?_⟩
    · intro y0 y1 y2 y3
      unfold spec_ParseSprouts.l0
      repeat' first
      | (with_reducible exact ih0 _ _ _ _)
      | (with_reducible exact ih1 _ _ _ _ _ _ _)
      | (with_reducible exact ih2 _ _ _ _ _ _ _ _ _)
      | (with_reducible exact spec_l01Split.mono _ _ _)
      | (with_reducible exact spec_l02Is.mono _ _ _)
      | (with_reducible exact LeO.refl _)
      | (with_reducible exact LeO.none _)
      | (with_reducible refine LeO.ite ?_ ?_)
      | (with_reducible refine LeO.bind ?_ (fun _ => ?_))
      | exact ih0 _ _ _ _
      | exact ih1 _ _ _ _ _ _ _
      | exact ih2 _ _ _ _ _ _ _ _ _
      | exact spec_l01Split.mono _ _ _
      | exact spec_l02Is.mono _ _ _
      | exact LeO.none _
      | refine LeO.ite ?_ ?_
      | refine LeO.bind ?_ (fun _ => ?_)
    · intro y0 y1 y2 y3 y4 y5 y6
      unfold spec_ParseSprouts.l1
      repeat' first
      | (with_reducible exact ih0 _ _ _ _)
      | (with_reducible exact ih1 _ _ _ _ _ _ _)
      | (with_reducible exact ih2 _ _ _ _ _ _ _ _ _)
      | (with_reducible exact spec_l01Split.mono _ _ _)
      | (with_reducible exact spec_l02Is.mono _ _ _)
      | (with_reducible exact LeO.refl _)
      | (with_reducible exact LeO.none _)
      | (with_reducible refine LeO.ite ?_ ?_)
      | (with_reducible refine LeO.bind ?_ (fun _ => ?_))
      | exact ih0 _ _ _ _
      | exact ih1 _ _ _ _ _ _ _
      | exact ih2 _ _ _ _ _ _ _ _ _
      | exact spec_l01Split.mono _ _ _
      | exact spec_l02Is.mono _ _ _
      | exact LeO.none _
      | refine LeO.ite ?_ ?_
      | refine LeO.bind ?_ (fun _ => ?_)
    · intro y0 y1 y2 y3 y4 y5 y6 y7 y8
      unfold spec_ParseSprouts.l2
      repeat' first
      | (with_reducible exact ih0 _ _ _ _)
      | (with_reducible exact ih1 _ _ _ _ _ _ _)
      | (with_reducible exact ih2 _ _ _ _ _ _ _ _ _)
      | (with_reducible exact spec_l01Split.mono _ _ _)
      | (with_reducible exact spec_l02Is.mono _ _ _)
      | (with_reducible exact LeO.refl _)
      | (with_reducible exact LeO.none _)
      | (with_reducible refine LeO.ite ?_ ?_)
      | (with_reducible refine LeO.bind ?_ (fun _ => ?_))
      | exact ih0 _ _ _ _
      | exact ih1 _ _ _ _ _ _ _
      | exact ih2 _ _ _ _ _ _ _ _ _
      | exact spec_l01Split.mono _ _ _
      | exact spec_l02Is.mono _ _ _
      | exact LeO.none _
      | refine LeO.ite ?_ ?_
      | refine LeO.bind ?_ (fun _ => ?_)
theorem spec_ParseSprouts.mono : ∀ a0 k, LeO (spec_ParseSprouts.f k a0) (spec_ParseSprouts.f (k + 1) a0) := by
  intro a0 k
  obtain ⟨ih0, ih1, ih2⟩ := spec_ParseSprouts.mono_l k
  unfold spec_ParseSprouts.f
  repeat' first
      | (with_reducible exact ih0 _ _ _ _)
      | (with_reducible exact ih1 _ _ _ _ _ _ _)
      | (with_reducible exact ih2 _ _ _ _ _ _ _ _ _)
      | (with_reducible exact spec_l01Split.mono _ _ _)
      | (with_reducible exact spec_l02Is.mono _ _ _)
      | (with_reducible exact LeO.refl _)
      | (with_reducible exact LeO.none _)
      | (with_reducible refine LeO.ite ?_ ?_)
      | (with_reducible refine LeO.bind ?_ (fun _ => ?_))
      | exact ih0 _ _ _ _
      | exact ih1 _ _ _ _ _ _ _
      | exact ih2 _ _ _ _ _ _ _ _ _
      | exact spec_l01Split.mono _ _ _
      | exact spec_l02Is.mono _ _ _
      | exact LeO.none _
      | refine LeO.ite ?_ ?_
      | refine LeO.bind ?_ (fun _ => ?_)
set_option maxHeartbeats 8000000 in
set_option maxRecDepth 100000 in
theorem spec_ParseSprouts.calls (k : Nat) (a0 : ByteArray) (r1 : Int) (r2 : List (List (List Int))) (r3 : Int) (w : World) (h : spec_ParseSprouts.f k a0 = some (r1, r2, r3)) :
    Calls Tryd.prog 5 #[.string a0] w fun e w' => ∃ v1_ : Value, e = .returned (.tuple #[.agg #[.int .i64 r1, v1_], .int .i64 r3]) ∧ Kd.R (Kd.slice 38 (Kd.slice 2 (Kd.int .i64))) 37 w' w.heap.size (fun _ => True) v1_ r2 ∧ Below w.heap.size w w' := by
  have hu24 := Tryd.underlying24
  have HB := Aside0.mk (Below.refl w.heap.size w)
  have H : ((spec_l01Split.f k a0 47).bind fun t146 => (spec_ParseSprouts.l0 k t146 0 0 (([] : List (List (List Int)))))) = some (r1, r2, r3) := h
  clear h
  obtain ⟨y143, hy143⟩ : ∃ y_ : List (List (List Int)), y_ = (([] : List (List (List Int)))) := ⟨_, rfl⟩
  replace H : ((spec_l01Split.f k a0 47).bind fun t146 => (spec_ParseSprouts.l0 k t146 0 0 y143)) = some (r1, r2, r3) := by first | (rw [hy143]; with_reducible exact H) | (have H2_ := (Option.bind_some _ _).symm.trans H; rw [hy143]; with_reducible exact H2_) | (have H2_ := (Option.bind_some _ _).symm.trans H; with_reducible exact H2_) | with_reducible exact H | (rw [hy143]; exact H) | exact H
  have Ny143 := Aside0.mk hy143
  clear hy143
  replace H := Option.bind_eq_some_iff.mp H
  obtain ⟨t146, A20, H⟩ := H
  replace H : (spec_ParseSprouts.l0 k t146 0 0 y143) = some (r1, r2, r3) := H
  have A2 := Aside0.mk A20
  clear A20
  have H' := Aside0.mk H
  clear H
  go_enter Tryd.func5, Tryd.ntmps5
  go_wp2_with (first | ((with_reducible refine gate_dst (N := 2) rfl ?_); refine box_event ?hg (N := 2) ?hd (cs := #[.int .i64 0, .slice none 0 0]) (t := 24) ?hr ?_; (case hd => rfl); (case hg => rfl); (case hr => first | (go_simp; done) | (go_simp; rfl)); intro gb142 hg w3 hbox hb; have n0_ := Aside0.mk (below_step (by repeat (first | (with_reducible first | exact HB.out | apply below_alloc | apply pw_below_drewN | apply below_drew1) | exact HB.out)) hb); have n1_ := Aside0.mk (hbox); have n2_ := Aside0.mk ((by rw [hg]; exact (below_size (by repeat (first | (with_reducible first | exact HB.out | apply below_alloc | apply pw_below_drewN | apply below_drew1) | exact HB.out))) : w.heap.size ≤ gb142)); have n3_ := Aside0.mk ((by rw [hg]; exact (below_size (by repeat (first | (with_reducible first | exact HB.out | apply below_alloc | apply pw_below_drewN | apply below_drew1) | exact HB.out))) : w.heap.size ≤ gb142)); clear HB; have HB := n0_; have BK142 := n1_; have GW142 := n2_; have GE142 := n3_; clear n0_ n1_ n2_ n3_; clear hb hbox hg) | ((with_reducible refine gate_dst (N := 13) rfl ?_); refine Kd.R_lit (Kd.slice 38 (Kd.slice 2 (Kd.int .i64))) _ 37 ?hg (N := 13) ?hd (xs := ([] : List (List (List Int)))) (inner := []) (ok := fun _ => True) (okp := fun _ => True) ?hr ?hp (fun _ hk => hk) trivial (Below.refl _ _) (Nat.le_refl _) (by simp) ?_; (case hd => rfl); (case hg => rfl); (case hr => first | (go_simp; done) | (go_simp; rfl)); (case hp => exact (Reps.none _ _)); intro v144 w4 ho5 hb hg_ hnew_; clear hg_ hnew_; (first | rw [← Ny143.out] at ho5 | (simp only [Int.reduceToNat] at ho5; rw [← Ny143.out] at ho5)); have n0_ := Aside0.mk (Kd.R_lower ho5 (below_size (by repeat (first | (with_reducible first | exact HB.out | apply below_alloc | apply pw_below_drewN | apply below_drew1 | refine below_set ?_ GE142.out) | exact HB.out)))); have n1_ := Aside0.mk (blk_below (g := gb142) (o := .cells #[.int .i64 0, .slice none 0 0] 24 (0, 0)) (by (with_reducible repeat (first | refine blk_drewN ?_ _ | refine blk_drew ?_ | refine blk_alloc ?_ _)); exact BK142.out) hb); have n2_ := Aside0.mk (below_step (by repeat (first | (with_reducible first | exact HB.out | apply below_alloc | apply pw_below_drewN | apply below_drew1 | refine below_set ?_ GE142.out) | exact HB.out)) hb); clear BK142; clear HB; have HO145 := n0_; have BK142 := n1_; have HB := n2_; clear n0_ n1_ n2_; clear hb ho5; obtain ⟨Ao6, co6, eo6⟩ := Kd.R_slice HO145.out; subst eo6) | ((with_reducible refine gate_callee (f := 13) rfl ?_); refine goesL_ (some 16) rfl rfl Tryd.func13 (by kernel_rfl) rfl #[.string a0, .int .u8 47] rfl (by (try simp only [List.map_toArray, List.map_cons, List.map_nil]); first | done | rfl | (simp only [List.length_drop, List.length_take]; rfl)) ?_; (with_reducible refine (spec_l01Split.calls k a0 47 t146 _ A2.out).mono ?_); rintro e w7 ⟨v147, rfl, ho0, hb⟩; refine ⟨_, rfl, ?_⟩; have n0_ := Aside0.mk (Kd.R_below (by (with_reducible repeat (first | apply Kd.R_alloc | apply Kd.R_drewN | apply Kd.R_drew)); exact HO145.out) hb); have n1_ := Aside0.mk (Kd.R_lower ho0 (below_size (by repeat (first | (with_reducible first | exact HB.out | apply below_alloc | apply pw_below_drewN | apply below_drew1 | refine below_set ?_ GE142.out) | exact HB.out)))); have n2_ := Aside0.mk (blk_below (g := gb142) (o := .cells #[.int .i64 0, .slice none 0 0] 24 (0, 0)) (by (with_reducible repeat (first | refine blk_drewN ?_ _ | refine blk_drew ?_ | refine blk_alloc ?_ _)); exact BK142.out) hb); have n3_ := Aside0.mk (below_step (by repeat (first | (with_reducible first | exact HB.out | apply below_alloc | apply pw_below_drewN | apply below_drew1 | refine below_set ?_ GE142.out) | exact HB.out)) hb); clear HO145; clear BK142; clear HB; have HO145 := n0_; have HO148 := n1_; have BK142 := n2_; have HB := n3_; clear n0_ n1_ n2_ n3_; (try clear hb); (try clear hb2); (try clear hk); (try clear hi); (try clear ho0)) | ((with_reducible refine gate_dst (N := 4) rfl ?_); refine box_event ?hg (N := 4) ?hd (cs := #[.int .i64 0, .slice none 0 0]) (t := 24) ?hr ?_; (case hd => rfl); (case hg => rfl); (case hr => first | (go_simp; done) | (go_simp; rfl)); intro gb149 hg w8 hbox hb; have n0_ := Aside0.mk (Kd.R_below (by (with_reducible repeat (first | apply Kd.R_alloc | apply Kd.R_drewN | apply Kd.R_drew)); exact HO145.out) hb); have n1_ := Aside0.mk (Kd.R_below (by (with_reducible repeat (first | apply Kd.R_alloc | apply Kd.R_drewN | apply Kd.R_drew)); exact HO148.out) hb); have n2_ := Aside0.mk (blk_below (g := gb142) (o := .cells #[.int .i64 0, .slice none 0 0] 24 (0, 0)) (by (with_reducible repeat (first | refine blk_drewN ?_ _ | refine blk_drew ?_ | refine blk_alloc ?_ _)); exact BK142.out) hb); have n3_ := Aside0.mk (below_step (by repeat (first | (with_reducible first | exact HB.out | apply below_alloc | apply pw_below_drewN | apply below_drew1 | refine below_set ?_ GE142.out) | exact HB.out)) hb); have n4_ := Aside0.mk (hbox); have n5_ := Aside0.mk ((by rw [hg]; exact (below_size (by repeat (first | (with_reducible first | exact HB.out | apply below_alloc | apply pw_below_drewN | apply below_drew1 | refine below_set ?_ GE142.out) | exact HB.out))) : w.heap.size ≤ gb149)); have n6_ := Aside0.mk ((by rw [hg]; exact (below_size (by repeat (first | (with_reducible first | exact HB.out | apply below_alloc | apply pw_below_drewN | apply below_drew1 | refine below_set ?_ GE142.out) | exact HB.out))) : w.heap.size ≤ gb149)); have n7_ := Aside0.mk ((by rw [hg]; exact Nat.ne_of_lt (blk_lt (g := gb142) (o := .cells #[.int .i64 0, .slice none 0 0] 24 (0, 0)) (by (with_reducible repeat (first | refine blk_drewN ?_ _ | refine blk_drew ?_ | refine blk_alloc ?_ _)); exact BK142.out)) : gb142 ≠ gb149)); have n8_ := Aside0.mk ((by rw [hg]; exact Nat.ne_of_gt (blk_lt (g := gb142) (o := .cells #[.int .i64 0, .slice none 0 0] 24 (0, 0)) (by (with_reducible repeat (first | refine blk_drewN ?_ _ | refine blk_drew ?_ | refine blk_alloc ?_ _)); exact BK142.out)) : gb149 ≠ gb142)); clear HO145; clear HO148; clear BK142; clear HB; have HO145 := n0_; have HO148 := n1_; have BK142 := n2_; have HB := n3_; have BK149 := n4_; have GW149 := n5_; have GE149 := n6_; have NB142_149 := n7_; have NB149_142 := n8_; clear n0_ n1_ n2_ n3_ n4_ n5_ n6_ n7_ n8_; clear hb hbox hg; have hnb9 := NB149_142.out; have hnc9 := NB142_149.out; have hcz10_0 : w8.cell? ⟨gb149, 0, none⟩ = some (.int .i64 0) := (blk_cell BK149.out 0).trans rfl; have hcz10_1 : w8.cell? ⟨gb149, 1, none⟩ = some (.slice none 0 0) := (blk_cell BK149.out 1).trans rfl; have hfz10_0 := blk_frozen BK149.out 0; have hfz10_1 := blk_frozen BK149.out 1))
  go_loopg [6] k (fun kq v6 w' => ∃ (x6_1 : Int) (x143000_1 : Int) (x150000_1 : Int) (x150001_1 : List (List (List Int))) (u150001 : Value), v6 = .int .i64 x6_1 ∧ Aside0 (spec_ParseSprouts.l0 kq t146 x6_1 x150000_1 x150001_1 = some (r1, r2, r3)) ∧ Aside0 (kq ≤ k) ∧ Aside0 (Kd.R Kd.string 9 w' w.heap.size (fun _ => True) v147 t146) ∧ Aside0 (Kd.R (Kd.slice 38 (Kd.slice 2 (Kd.int .i64))) 37 w' w.heap.size (fun _ => True) u150001 x150001_1) ∧ Aside0 (w'.heap[gb142]? = some (.cells #[.int .i64 x143000_1, (.slice none 0 0)] 24 (0, 0))) ∧ Aside0 (w'.heap[gb149]? = some (.cells #[.int .i64 x150000_1, u150001] 24 (0, 0))) ∧ Aside0 (Below w.heap.size w w'))
  case atStart => exact ⟨(0), (0), (0), (y143), (.slice Ao6 y143.length co6), (by first | rfl | (simp; done) | (simp [*]; done)), H', ⟨Nat.le_refl _⟩, ⟨by (with_reducible repeat (first | apply Kd.R_alloc | apply Kd.R_drewN | apply Kd.R_drew)); exact Kd.R_mono (Kd.R_far (p := ⟨gb149, 1, none⟩) (Kd.R_far (p := ⟨gb149, 0, none⟩) (Kd.R_types HO148.out BK149.out (by decide)) (fun _ hk => hk.2) (.int .i64 0)) (fun _ hk => hk.2) (.slice Ao6 y143.length co6)) (fun _ hk => trivial)⟩, ⟨by (with_reducible repeat (first | apply Kd.R_alloc | apply Kd.R_drewN | apply Kd.R_drew)); exact Kd.R_mono (Kd.R_far (p := ⟨gb149, 1, none⟩) (Kd.R_far (p := ⟨gb149, 0, none⟩) (Kd.R_types HO145.out BK149.out (by decide)) (fun _ hk => hk.2) (.int .i64 0)) (fun _ hk => hk.2) (.slice Ao6 y143.length co6)) (fun _ hk => trivial)⟩, ⟨by (with_reducible repeat (first | refine blk_drewN ?_ _ | refine blk_drew ?_ | refine blk_alloc ?_ _)); refine blk_far ?_ NB142_149.out _; (with_reducible repeat (first | refine blk_drewN ?_ _ | refine blk_drew ?_ | refine blk_alloc ?_ _)); refine blk_far ?_ NB142_149.out _; (with_reducible repeat (first | refine blk_drewN ?_ _ | refine blk_drew ?_ | refine blk_alloc ?_ _)); exact BK142.out⟩, ⟨by (with_reducible repeat (first | refine blk_drewN ?_ _ | refine blk_drew ?_ | refine blk_alloc ?_ _)); refine blk_put (cs := #[.int .i64 0, .slice none 0 0]) ?_ 1 _ rfl; (with_reducible repeat (first | refine blk_drewN ?_ _ | refine blk_drew ?_ | refine blk_alloc ?_ _)); refine blk_put (cs := #[.int .i64 0, .slice none 0 0]) ?_ 0 _ rfl; (with_reducible repeat (first | refine blk_drewN ?_ _ | refine blk_drew ?_ | refine blk_alloc ?_ _)); exact BK149.out⟩, ⟨by repeat (first | (with_reducible first | exact HB.out | apply below_alloc | apply pw_below_drewN | apply below_drew1 | refine below_set ?_ GE142.out | refine below_set ?_ GE149.out) | exact HB.out)⟩⟩
  case round =>
    clear H'
    try clear c1
    try clear p2
    try clear c5
    try clear c9
    try clear hcz10_0
    try clear hcz10_1
    try clear hfz10_0
    try clear hfz10_1
    obtain ⟨x6_1, x143000_1, x150000_1, x150001_1, u150001, rfl, HA, HK1, HO_5, HO_150001, BK142, BK149, HB⟩ := hrel
    cases gk with
    | zero => exact absurd HA.out (by simp [spec_ParseSprouts.l0])
    | succ k1 =>
      have H := HA.out
      clear HA
      simp only [spec_ParseSprouts.l0] at H
      by_cases c11 : x6_1 < (t146.length : Int)
      · rw [if_pos c11] at H
        have c11b0 : decide (x6_1 < (t146.length : Int)) = true := decide_eq_true c11
        clear c11
        obtain ⟨y151, hy151⟩ : ∃ y_ : List (List Int), y_ = (([] : List (List Int))) := ⟨_, rfl⟩
        replace H : (if 0 ≤ x6_1 then (if (rdOf ByteArray.empty t146 x6_1).toList = ([] : List UInt8) then (if x150001_1.length < 5864062014805 then (spec_ParseSprouts.l0 k1 t146 (wrap64 (x6_1 + 1)) x150000_1 (x150001_1 ++ [y151])) else (none)) else ((spec_l01Split.f k1 (rdOf ByteArray.empty t146 x6_1) 44).bind fun t159 => (spec_ParseSprouts.l1 k1 t146 x6_1 y151 t159 0 x150000_1 x150001_1))) else (none)) = some (r1, r2, r3) := by first | (rw [hy151]; with_reducible exact H) | (have H2_ := (Option.bind_some _ _).symm.trans H; rw [hy151]; with_reducible exact H2_) | (have H2_ := (Option.bind_some _ _).symm.trans H; with_reducible exact H2_) | with_reducible exact H | (rw [hy151]; exact H) | exact H
        have Ny151 := Aside0.mk hy151
        clear hy151
        by_cases c12 : 0 ≤ x6_1
        · rw [if_pos c12] at H
          have c12b0 : decide (0 ≤ x6_1) = true := decide_eq_true c12
          clear c12
          by_cases c13 : (rdOf ByteArray.empty t146 x6_1).toList = ([] : List UInt8)
          · rw [if_pos c13] at H
            have c13b0 : ((rdOf ByteArray.empty t146 x6_1).toList == ([] : List UInt8)) = true := beq_iff_eq.mpr c13
            have c13b1 : ((rdOf ByteArray.empty t146 x6_1).toList != ([] : List UInt8)) = false := bne_eq_false_iff_eq.mpr c13
            clear c13
            by_cases c14 : x150001_1.length < 5864062014805
            · rw [if_pos c14] at H
              have LMc14 := Aside0.mk c14
              clear c14
              obtain ⟨y155, hy155⟩ : ∃ y_ : List (List (List Int)), y_ = (x150001_1 ++ [y151]) := ⟨_, rfl⟩
              replace H : (spec_ParseSprouts.l0 k1 t146 (wrap64 (x6_1 + 1)) x150000_1 y155) = some (r1, r2, r3) := by first | (rw [hy155]; with_reducible exact H) | (have H2_ := (Option.bind_some _ _).symm.trans H; rw [hy155]; with_reducible exact H2_) | (have H2_ := (Option.bind_some _ _).symm.trans H; with_reducible exact H2_) | with_reducible exact H | (rw [hy155]; exact H) | exact H
              have Ny155 := Aside0.mk hy155
              clear hy155
              have H' := Aside0.mk H
              clear H
              obtain ⟨Ao15, co15, eo15⟩ := Kd.R_slice HO_5.out
              subst eo15
              go_wp2_with (first | ((with_reducible refine gate_dst (N := 23) rfl ?_); refine Kd.S_lit (Kd.slice 2 (Kd.int .i64)) _ 38 ?hg (N := 23) ?hd (xs := ([] : List (List Int))) (inner := []) (ok := fun _ => True) (okp := fun _ => True) ?hr ?hp (fun _ hk => hk) trivial (Below.refl _ _) (Nat.le_refl _) (by simp) ?_; (case hd => rfl); (case hg => rfl); (case hr => first | (go_simp; done) | (go_simp; rfl)); (case hp => exact (Reps.none _ _)); intro v152 w16 ho17 hb hg_ hnew_; clear hg_ hnew_; (first | rw [← Ny151.out] at ho17 | (simp only [Int.reduceToNat] at ho17; rw [← Ny151.out] at ho17)); have n0_ := Aside0.mk (Kd.R_below (by (with_reducible repeat (first | apply Kd.R_alloc | apply Kd.R_drewN | apply Kd.R_drew)); exact HO_5.out) hb); have n1_ := Aside0.mk (Kd.R_elder' (by (with_reducible repeat (first | apply Kd.R_alloc | apply Kd.R_drewN | apply Kd.R_drew)); exact HO_150001.out) (Kd.S_base ho17) hb); have n2_ := Aside0.mk (Kd.S_lower ho17 (below_size (by repeat (first | (with_reducible first | exact HB.out | apply below_alloc | apply pw_below_drewN | apply below_drew1 | refine below_set ?_ GE142.out | refine below_set ?_ GE149.out) | exact HB.out)))); have n3_ := Aside0.mk (blk_below (g := gb142) (o := .cells #[.int .i64 x143000_1, .slice none 0 0] 24 (0, 0)) (by (with_reducible repeat (first | refine blk_drewN ?_ _ | refine blk_drew ?_ | refine blk_alloc ?_ _)); exact BK142.out) hb); have n4_ := Aside0.mk (blk_below (g := gb149) (o := .cells #[.int .i64 x150000_1, u150001] 24 (0, 0)) (by (with_reducible repeat (first | refine blk_drewN ?_ _ | refine blk_drew ?_ | refine blk_alloc ?_ _)); exact BK149.out) hb); have n5_ := Aside0.mk (below_step (by repeat (first | (with_reducible first | exact HB.out | apply below_alloc | apply pw_below_drewN | apply below_drew1 | refine below_set ?_ GE142.out | refine below_set ?_ GE149.out) | exact HB.out)) hb); clear HO_5; clear HO_150001; clear BK142; clear BK149; clear HB; have HO_5 := n0_; have HO_150001 := n1_; have HO153 := n2_; have BK142 := n3_; have BK149 := n4_; have HB := n5_; clear n0_ n1_ n2_ n3_ n4_ n5_; clear hb ho17; have p154 : 0 ≤ (x6_1 : Int) := of_decide_eq_true (by first | (with_reducible assumption) | assumption); have q154 : x6_1 < (t146.length : Int) := of_decide_eq_true (by first | (with_reducible assumption) | assumption); obtain ⟨ad154, e154, hx154_0⟩ := Kd.at_string (Kd.R_reads' HO_5.out).2.2 x6_1 p154 q154; cases e154; replace p154 := eq_true p154; replace q154 := eq_true q154; have hnb18 := NB149_142.out; have hnc18 := NB142_149.out; have hcz19_0 : w16.cell? ⟨gb149, 0, none⟩ = some (.int .i64 x150000_1) := (blk_cell BK149.out 0).trans rfl; have hcz19_1 : w16.cell? ⟨gb149, 1, none⟩ = some (u150001) := (blk_cell BK149.out 1).trans rfl; have hfz19_0 := blk_frozen BK149.out 0; have hfz19_1 := blk_frozen BK149.out 1; obtain ⟨Ao21, co21, eo21⟩ := Kd.S_slice HO153.out; subst eo21) | ((with_reducible refine gate_builtin (b := .append) (xs := #[.tmp 77, .tmp 79]) rfl ?_); at_builtin; refine Kd.R_append (Kd.slice 38 (Kd.slice 2 (Kd.int .i64))) (w0 := w) w.heap.size rfl (.tmp 77) (.tmp 79) 22 37 (.slice none 0 0) 24 rfl Tryd.underlying22 info37 rfl (by decide) (by omega) u150001 x150001_1 y151 [.slice Ao21 y151.length co21] (fun _ => True) (fun k_ => ((fun _ => True)) k_ ∧ some k_ ≠ (u150001 : Value).ownBlock) rfl rfl ?aP (fun _ hk => hk) ?aF ?aO ?aB ?aS ?aL ?_; (case aP => exact Kd.M_row (Kd.R_mono (Kd.R_apart' ((Kd.S_R HO153.out)) (Kd.R_typed HO_150001.out) (by decide)) (fun k_ hk => ⟨trivial, hk.2⟩))); (case aB => exact (by repeat (first | (with_reducible first | exact HB.out | apply below_alloc | apply pw_below_drewN | apply below_drew1 | refine below_set ?_ GE142.out | refine below_set ?_ GE149.out) | exact HB.out))); (case aF => exact (fun _ _ => trivial)); (case aO => exact (by (with_reducible repeat (first | apply Kd.R_alloc | apply Kd.R_drewN | apply Kd.R_drew)); exact Kd.R_mono HO_150001.out (fun _ hk => trivial))); (case aS => exact (below_size (by repeat (first | (with_reducible first | exact HB.out | apply below_alloc | apply pw_below_drewN | apply below_drew1 | refine below_set ?_ GE142.out | refine below_set ?_ GE149.out) | exact HB.out)))); (case aL => have := LMc14.out; omega); intro v156 w20 ho hb hg hat; rw [← Ny155.out] at ho; have n0_ := Aside0.mk (Kd.R_over' (by (with_reducible repeat (first | apply Kd.R_alloc | apply Kd.R_drewN | apply Kd.R_drew)); exact HO_5.out) (Kd.R_typed (by (with_reducible repeat (first | apply Kd.R_alloc | apply Kd.R_drewN | apply Kd.R_drew)); exact HO_150001.out)) (by decide) hg); have n1_ := Aside0.mk (blk_grown (g := gb142) (o := .cells #[.int .i64 x143000_1, .slice none 0 0] 24 (0, 0)) (by (with_reducible repeat (first | refine blk_drewN ?_ _ | refine blk_drew ?_ | refine blk_alloc ?_ _)); exact BK142.out) hg (Kd.R_ne HO_150001.out BK142.out (by decide))); have n2_ := Aside0.mk (blk_grown (g := gb149) (o := .cells #[.int .i64 x150000_1, u150001] 24 (0, 0)) (by (with_reducible repeat (first | refine blk_drewN ?_ _ | refine blk_drew ?_ | refine blk_alloc ?_ _)); exact BK149.out) hg (Kd.R_ne HO_150001.out BK149.out (by decide))); have n3_ := Aside0.mk (hb); have n4_ := Aside0.mk (ho); clear HO_5; clear BK142; clear BK149; clear HB; clear HO_150001; clear HO153; have HO_5 := n0_; have BK142 := n1_; have BK149 := n2_; have HB := n3_; have HO157 := n4_; clear n0_ n1_ n2_ n3_ n4_; clear ho hb hg hat; obtain ⟨Ao22, co22, eo22⟩ := Kd.R_slice HO157.out; subst eo22; have hcz23_0 : w20.cell? ⟨gb149, 0, none⟩ = some (.int .i64 x150000_1) := (blk_cell BK149.out 0).trans rfl; have hcz23_1 : w20.cell? ⟨gb149, 1, none⟩ = some (u150001) := (blk_cell BK149.out 1).trans rfl; have hfz23_0 := blk_frozen BK149.out 0; have hfz23_1 := blk_frozen BK149.out 1))
              go_roundg k1
              case measure => have := HK1.out; omega
              case rel => exact ⟨(wrap64 (x6_1 + 1)), (x143000_1), (x150000_1), (y155), (.slice Ao22 y155.length co22), (by first | rfl | (simp; done) | (simp [*]; done)), H', ⟨by have := HK1.out; omega⟩, ⟨by (with_reducible repeat (first | apply Kd.R_alloc | apply Kd.R_drewN | apply Kd.R_drew)); exact Kd.R_mono (Kd.R_far (p := ⟨gb149, 1, none⟩) (Kd.R_types HO_5.out BK149.out (by decide)) (fun _ hk => hk.2) (.slice Ao22 y155.length co22)) (fun _ hk => trivial)⟩, ⟨by (with_reducible repeat (first | apply Kd.R_alloc | apply Kd.R_drewN | apply Kd.R_drew)); exact Kd.R_mono (Kd.R_far (p := ⟨gb149, 1, none⟩) (Kd.R_types HO157.out BK149.out (by decide)) (fun _ hk => hk.2) (.slice Ao22 y155.length co22)) (fun _ hk => trivial)⟩, ⟨by (with_reducible repeat (first | refine blk_drewN ?_ _ | refine blk_drew ?_ | refine blk_alloc ?_ _)); refine blk_far ?_ NB142_149.out _; (with_reducible repeat (first | refine blk_drewN ?_ _ | refine blk_drew ?_ | refine blk_alloc ?_ _)); exact BK142.out⟩, ⟨by (with_reducible repeat (first | refine blk_drewN ?_ _ | refine blk_drew ?_ | refine blk_alloc ?_ _)); refine blk_put (cs := #[.int .i64 x150000_1, u150001]) ?_ 1 _ rfl; (with_reducible repeat (first | refine blk_drewN ?_ _ | refine blk_drew ?_ | refine blk_alloc ?_ _)); exact BK149.out⟩, ⟨by repeat (first | (with_reducible first | exact HB.out | apply below_alloc | apply pw_below_drewN | apply below_drew1 | refine below_set ?_ GE142.out | refine below_set ?_ GE149.out) | exact HB.out)⟩⟩
            · rw [if_neg c14] at H
              exact absurd H (by simp)
          · rw [if_neg c13] at H
            have c13b0 : ((rdOf ByteArray.empty t146 x6_1).toList == ([] : List UInt8)) = false := beq_eq_false_iff_ne.mpr c13
            have c13b1 : ((rdOf ByteArray.empty t146 x6_1).toList != ([] : List UInt8)) = true := bne_iff_ne.mpr c13
            replace H := Option.bind_eq_some_iff.mp H
            obtain ⟨t159, A240, H⟩ := H
            replace H : (spec_ParseSprouts.l1 k1 t146 x6_1 y151 t159 0 x150000_1 x150001_1) = some (r1, r2, r3) := H
            have A24 := Aside0.mk A240
            clear A240
            have H' := Aside0.mk H
            clear H
            obtain ⟨Ao25, co25, eo25⟩ := Kd.R_slice HO_5.out
            subst eo25
            go_wp2_with (first | ((with_reducible refine gate_dst (N := 23) rfl ?_); refine Kd.S_lit (Kd.slice 2 (Kd.int .i64)) _ 38 ?hg (N := 23) ?hd (xs := ([] : List (List Int))) (inner := []) (ok := fun _ => True) (okp := fun _ => True) ?hr ?hp (fun _ hk => hk) trivial (Below.refl _ _) (Nat.le_refl _) (by simp) ?_; (case hd => rfl); (case hg => rfl); (case hr => first | (go_simp; done) | (go_simp; rfl)); (case hp => exact (Reps.none _ _)); intro v152 w26 ho27 hb hg_ hnew_; clear hg_ hnew_; (first | rw [← Ny151.out] at ho27 | (simp only [Int.reduceToNat] at ho27; rw [← Ny151.out] at ho27)); have n0_ := Aside0.mk (Kd.R_below (by (with_reducible repeat (first | apply Kd.R_alloc | apply Kd.R_drewN | apply Kd.R_drew)); exact HO_5.out) hb); have n1_ := Aside0.mk (Kd.R_elder' (by (with_reducible repeat (first | apply Kd.R_alloc | apply Kd.R_drewN | apply Kd.R_drew)); exact HO_150001.out) (Kd.S_base ho27) hb); have n2_ := Aside0.mk (Kd.S_lower ho27 (below_size (by repeat (first | (with_reducible first | exact HB.out | apply below_alloc | apply pw_below_drewN | apply below_drew1 | refine below_set ?_ GE142.out | refine below_set ?_ GE149.out) | exact HB.out)))); have n3_ := Aside0.mk (blk_below (g := gb142) (o := .cells #[.int .i64 x143000_1, .slice none 0 0] 24 (0, 0)) (by (with_reducible repeat (first | refine blk_drewN ?_ _ | refine blk_drew ?_ | refine blk_alloc ?_ _)); exact BK142.out) hb); have n4_ := Aside0.mk (blk_below (g := gb149) (o := .cells #[.int .i64 x150000_1, u150001] 24 (0, 0)) (by (with_reducible repeat (first | refine blk_drewN ?_ _ | refine blk_drew ?_ | refine blk_alloc ?_ _)); exact BK149.out) hb); have n5_ := Aside0.mk (below_step (by repeat (first | (with_reducible first | exact HB.out | apply below_alloc | apply pw_below_drewN | apply below_drew1 | refine below_set ?_ GE142.out | refine below_set ?_ GE149.out) | exact HB.out)) hb); clear HO_5; clear HO_150001; clear BK142; clear BK149; clear HB; have HO_5 := n0_; have HO_150001 := n1_; have HO153 := n2_; have BK142 := n3_; have BK149 := n4_; have HB := n5_; clear n0_ n1_ n2_ n3_ n4_ n5_; clear hb ho27; have p154 : 0 ≤ (x6_1 : Int) := of_decide_eq_true (by first | (with_reducible assumption) | assumption); have q154 : x6_1 < (t146.length : Int) := of_decide_eq_true (by first | (with_reducible assumption) | assumption); obtain ⟨ad154, e154, hx154_0⟩ := Kd.at_string (Kd.R_reads' HO_5.out).2.2 x6_1 p154 q154; cases e154; replace p154 := eq_true p154; replace q154 := eq_true q154; have p158 : 0 ≤ (x6_1 : Int) := of_decide_eq_true (by first | (with_reducible assumption) | assumption); have q158 : x6_1 < (t146.length : Int) := of_decide_eq_true (by first | (with_reducible assumption) | assumption); obtain ⟨ad158, e158, hx158_0⟩ := Kd.at_string (Kd.R_reads' HO_5.out).2.2 x6_1 p158 q158; obtain rfl : ad154 = ad158 := (by injection e158); replace p158 := eq_true p158; replace q158 := eq_true q158) | ((with_reducible refine gate_callee (f := 13) rfl ?_); refine goesL_ (some 33) rfl rfl Tryd.func13 (by kernel_rfl) rfl #[.string (rdOf ByteArray.empty t146 x6_1), .int .u8 44] rfl (by (try simp only [List.map_toArray, List.map_cons, List.map_nil]); first | done | rfl | (simp only [List.length_drop, List.length_take]; rfl)) ?_; (with_reducible refine (spec_l01Split.calls k1 (rdOf ByteArray.empty t146 x6_1) 44 t159 _ A24.out).mono ?_); rintro e w28 ⟨v160, rfl, ho0, hb⟩; refine ⟨_, rfl, ?_⟩; have n0_ := Aside0.mk (Kd.R_elder' (by (with_reducible repeat (first | apply Kd.R_alloc | apply Kd.R_drewN | apply Kd.R_drew)); exact HO_5.out) (Kd.R_base ho0) hb); have n1_ := Aside0.mk (Kd.R_below (by (with_reducible repeat (first | apply Kd.R_alloc | apply Kd.R_drewN | apply Kd.R_drew)); exact HO_150001.out) hb); have n2_ := Aside0.mk (Kd.S_below (by (with_reducible repeat (first | apply Kd.S_alloc | apply Kd.S_drewN | apply Kd.S_drew)); exact HO153.out) hb); have n3_ := Aside0.mk (Kd.R_lower (Kd.R_new' ho0 (Kd.R_lt (by (with_reducible repeat (first | apply Kd.R_alloc | apply Kd.R_drewN | apply Kd.R_drew)); exact HO_5.out))) (below_size (by repeat (first | (with_reducible first | exact HB.out | apply below_alloc | apply pw_below_drewN | apply below_drew1 | refine below_set ?_ GE142.out | refine below_set ?_ GE149.out) | exact HB.out)))); have n4_ := Aside0.mk (blk_below (g := gb142) (o := .cells #[.int .i64 x143000_1, .slice none 0 0] 24 (0, 0)) (by (with_reducible repeat (first | refine blk_drewN ?_ _ | refine blk_drew ?_ | refine blk_alloc ?_ _)); exact BK142.out) hb); have n5_ := Aside0.mk (blk_below (g := gb149) (o := .cells #[.int .i64 x150000_1, u150001] 24 (0, 0)) (by (with_reducible repeat (first | refine blk_drewN ?_ _ | refine blk_drew ?_ | refine blk_alloc ?_ _)); exact BK149.out) hb); have n6_ := Aside0.mk (below_step (by repeat (first | (with_reducible first | exact HB.out | apply below_alloc | apply pw_below_drewN | apply below_drew1 | refine below_set ?_ GE142.out | refine below_set ?_ GE149.out) | exact HB.out)) hb); clear HO_5; clear HO_150001; clear HO153; clear BK142; clear BK149; clear HB; have HO_5 := n0_; have HO_150001 := n1_; have HO153 := n2_; have HO161 := n3_; have BK142 := n4_; have BK149 := n5_; have HB := n6_; clear n0_ n1_ n2_ n3_ n4_ n5_ n6_; (try clear hb); (try clear hb2); (try clear hk); (try clear hi); (try clear ho0)))
            go_loopg [7, 9] k1 (fun kq v7 v9 w' => ∃ (x7_2 : List (List Int)) (x9_2 : Int) (x143000_2 : Int) (x150000_2 : Int), v9 = .int .i64 x9_2 ∧ Aside0 (spec_ParseSprouts.l1 kq t146 x6_1 x7_2 t159 x9_2 x150000_2 x150001_1 = some (r1, r2, r3)) ∧ Aside0 (kq ≤ k1) ∧ Aside0 (Kd.R Kd.string 9 w' w.heap.size (fun k_ => some k_ ≠ (v160 : Value).ownBlock) (.slice (some ad154) t146.length co25) t146) ∧ Aside0 (Kd.S (Kd.slice 2 (Kd.int .i64)) 38 w' w.heap.size (fun _ => True) v7 x7_2) ∧ Aside0 (Kd.R Kd.string 9 w' w.heap.size (fun k_ => some k_ ≠ ((.slice (some ad154) t146.length co25) : Value).ownBlock) v160 t159) ∧ Aside0 (Kd.R (Kd.slice 38 (Kd.slice 2 (Kd.int .i64))) 37 w' w.heap.size (fun k_ => some k_ ≠ (v7 : Value).ownBlock) u150001 x150001_1) ∧ Aside0 (w'.heap[gb142]? = some (.cells #[.int .i64 x143000_2, (.slice none 0 0)] 24 (0, 0))) ∧ Aside0 (w'.heap[gb149]? = some (.cells #[.int .i64 x150000_2, u150001] 24 (0, 0))) ∧ Aside0 (Below w.heap.size w w'))
            case atStart => exact ⟨(y151), (0), (x143000_1), (x150000_1), (by first | rfl | (simp; done) | (simp [*]; done)), H', ⟨Nat.le_refl _⟩, ⟨by (with_reducible repeat (first | apply Kd.R_alloc | apply Kd.R_drewN | apply Kd.R_drew)); exact Kd.R_mono HO_5.out (fun _ hk => hk.2)⟩, ⟨by (with_reducible repeat (first | apply Kd.S_alloc | apply Kd.S_drewN | apply Kd.S_drew)); exact HO153.out⟩, ⟨by (with_reducible repeat (first | apply Kd.R_alloc | apply Kd.R_drewN | apply Kd.R_drew)); exact Kd.R_mono HO161.out (fun _ hk => hk.2)⟩, ⟨by (with_reducible repeat (first | apply Kd.R_alloc | apply Kd.R_drewN | apply Kd.R_drew)); exact Kd.R_mono HO_150001.out (fun _ hk => hk.2)⟩, ⟨by (with_reducible repeat (first | refine blk_drewN ?_ _ | refine blk_drew ?_ | refine blk_alloc ?_ _)); exact BK142.out⟩, ⟨by (with_reducible repeat (first | refine blk_drewN ?_ _ | refine blk_drew ?_ | refine blk_alloc ?_ _)); exact BK149.out⟩, ⟨by repeat (first | (with_reducible first | exact HB.out | apply below_alloc | apply pw_below_drewN | apply below_drew1 | refine below_set ?_ GE142.out | refine below_set ?_ GE149.out) | exact HB.out)⟩⟩
            case round =>
              clear H'
              try clear c1
              try clear p1
              try clear q1
              try clear hx1
              try clear p2
              try clear c5
              try clear p6
              try clear c9
              try clear c11
              try clear c11b0
              try clear c12
              try clear c12b0
              try clear c13
              try clear c13b0
              try clear c13b1
              try clear c14
              try clear p15
              try clear q15
              try clear hx15
              try clear c18
              try clear hcz10_0
              try clear hcz10_1
              try clear hcz19_0
              try clear hcz19_1
              try clear hcz23_0
              try clear hcz23_1
              try clear hfz10_0
              try clear hfz10_1
              try clear hfz19_0
              try clear hfz19_1
              try clear hfz23_0
              try clear hfz23_1
              try clear hx154_0
              try clear hx158_0
              try clear p154
              try clear p158
              try clear p2
              try clear q154
              try clear q158
              obtain ⟨x7_2, x9_2, x143000_2, x150000_2, rfl, HA, HK2, HO_5, HO_7, HO_8, HO_150001, BK142, BK149, HB⟩ := hrel
              cases gk with
              | zero => exact absurd HA.out (by simp [spec_ParseSprouts.l1])
              | succ k2 =>
                have H := HA.out
                clear HA
                simp only [spec_ParseSprouts.l1] at H
                by_cases c29 : x9_2 < (t159.length : Int)
                · rw [if_pos c29] at H
                  have c29b0 : decide (x9_2 < (t159.length : Int)) = true := decide_eq_true c29
                  clear c29
                  obtain ⟨y165, hy165⟩ : ∃ y_ : List Int, y_ = (([] : List Int)) := ⟨_, rfl⟩
                  replace H : (spec_ParseSprouts.l2 k2 t146 x6_1 x7_2 t159 x9_2 y165 0 x150000_2 x150001_1) = some (r1, r2, r3) := by first | (rw [hy165]; with_reducible exact H) | (have H2_ := (Option.bind_some _ _).symm.trans H; rw [hy165]; with_reducible exact H2_) | (have H2_ := (Option.bind_some _ _).symm.trans H; with_reducible exact H2_) | with_reducible exact H | (rw [hy165]; exact H) | exact H
                  have Ny165 := Aside0.mk hy165
                  clear hy165
                  have H' := Aside0.mk H
                  clear H
                  obtain ⟨Ao30, co30, eo30⟩ := Kd.R_slice HO_8.out
                  subst eo30
                  go_wp2_with (first | ((with_reducible refine gate_dst (N := 40) rfl ?_); refine Kd.R_lit (Kd.int .i64) _ 2 ?hg (N := 40) ?hd (xs := ([] : List Int)) (inner := []) (ok := fun _ => True) (okp := fun _ => True) ?hr ?hp (fun _ hk => hk) trivial (Below.refl _ _) (Nat.le_refl _) (by simp) ?_; (case hd => rfl); (case hg => rfl); (case hr => first | (go_simp; done) | (go_simp; rfl)); (case hp => exact (Reps.none _ _)); intro v166 w31 ho32 hb hg_ hnew_; clear hg_ hnew_; (first | rw [← Ny165.out] at ho32 | (simp only [Int.reduceToNat] at ho32; rw [← Ny165.out] at ho32)); have n0_ := Aside0.mk (Kd.R_below (by (with_reducible repeat (first | apply Kd.R_alloc | apply Kd.R_drewN | apply Kd.R_drew)); exact HO_5.out) hb); have n1_ := Aside0.mk (Kd.S_elder' (by (with_reducible repeat (first | apply Kd.S_alloc | apply Kd.S_drewN | apply Kd.S_drew)); exact HO_7.out) (Kd.R_base ho32) hb); have n2_ := Aside0.mk (Kd.R_below (by (with_reducible repeat (first | apply Kd.R_alloc | apply Kd.R_drewN | apply Kd.R_drew)); exact HO_8.out) hb); have n3_ := Aside0.mk (Kd.R_elder' (by (with_reducible repeat (first | apply Kd.R_alloc | apply Kd.R_drewN | apply Kd.R_drew)); exact HO_150001.out) (Kd.R_base ho32) hb); have n4_ := Aside0.mk (Kd.R_lower ho32 (below_size (by repeat (first | (with_reducible first | exact HB.out | apply below_alloc | apply pw_below_drewN | apply below_drew1 | refine below_set ?_ GE142.out | refine below_set ?_ GE149.out) | exact HB.out)))); have n5_ := Aside0.mk (blk_below (g := gb142) (o := .cells #[.int .i64 x143000_2, .slice none 0 0] 24 (0, 0)) (by (with_reducible repeat (first | refine blk_drewN ?_ _ | refine blk_drew ?_ | refine blk_alloc ?_ _)); exact BK142.out) hb); have n6_ := Aside0.mk (blk_below (g := gb149) (o := .cells #[.int .i64 x150000_2, u150001] 24 (0, 0)) (by (with_reducible repeat (first | refine blk_drewN ?_ _ | refine blk_drew ?_ | refine blk_alloc ?_ _)); exact BK149.out) hb); have n7_ := Aside0.mk (below_step (by repeat (first | (with_reducible first | exact HB.out | apply below_alloc | apply pw_below_drewN | apply below_drew1 | refine below_set ?_ GE142.out | refine below_set ?_ GE149.out) | exact HB.out)) hb); clear HO_5; clear HO_7; clear HO_8; clear HO_150001; clear BK142; clear BK149; clear HB; have HO_5 := n0_; have HO_7 := n1_; have HO_8 := n2_; have HO_150001 := n3_; have HO167 := n4_; have BK142 := n5_; have BK149 := n6_; have HB := n7_; clear n0_ n1_ n2_ n3_ n4_ n5_ n6_ n7_; clear hb ho32))
                  go_loopg [10, 11] k2 (fun kq v10 v11 w' => ∃ (x10_3 : List Int) (x11_3 : Int) (x143000_3 : Int) (x150000_3 : Int), v11 = .int .i64 x11_3 ∧ Aside0 (spec_ParseSprouts.l2 kq t146 x6_1 x7_2 t159 x9_2 x10_3 x11_3 x150000_3 x150001_1 = some (r1, r2, r3)) ∧ Aside0 (kq ≤ k2) ∧ Aside0 (Kd.R Kd.string 9 w' w.heap.size (fun k_ => some k_ ≠ ((.slice Ao30 t159.length co30) : Value).ownBlock) (.slice (some ad154) t146.length co25) t146) ∧ Aside0 (Kd.S (Kd.slice 2 (Kd.int .i64)) 38 w' w.heap.size (fun k_ => some k_ ≠ (v10 : Value).ownBlock) u7 x7_2) ∧ Aside0 (Kd.R Kd.string 9 w' w.heap.size (fun k_ => some k_ ≠ ((.slice (some ad154) t146.length co25) : Value).ownBlock) (.slice Ao30 t159.length co30) t159) ∧ Aside0 (Kd.R (Kd.int .i64) 2 w' w.heap.size (fun _ => True) v10 x10_3) ∧ Aside0 (Kd.R (Kd.slice 38 (Kd.slice 2 (Kd.int .i64))) 37 w' w.heap.size (fun k_ => some k_ ≠ (u7 : Value).ownBlock ∧ some k_ ≠ (v10 : Value).ownBlock) u150001 x150001_1) ∧ Aside0 (w'.heap[gb142]? = some (.cells #[.int .i64 x143000_3, (.slice none 0 0)] 24 (0, 0))) ∧ Aside0 (w'.heap[gb149]? = some (.cells #[.int .i64 x150000_3, u150001] 24 (0, 0))) ∧ Aside0 (Below w.heap.size w w'))
                  case atStart => exact ⟨(y165), (0), (x143000_2), (x150000_2), (by first | rfl | (simp; done) | (simp [*]; done)), H', ⟨Nat.le_refl _⟩, ⟨by (with_reducible repeat (first | apply Kd.R_alloc | apply Kd.R_drewN | apply Kd.R_drew)); exact HO_5.out⟩, ⟨by (with_reducible repeat (first | apply Kd.S_alloc | apply Kd.S_drewN | apply Kd.S_drew)); exact Kd.S_mono HO_7.out (fun _ hk => hk.2)⟩, ⟨by (with_reducible repeat (first | apply Kd.R_alloc | apply Kd.R_drewN | apply Kd.R_drew)); exact HO_8.out⟩, ⟨by (with_reducible repeat (first | apply Kd.R_alloc | apply Kd.R_drewN | apply Kd.R_drew)); exact HO167.out⟩, ⟨by (with_reducible repeat (first | apply Kd.R_alloc | apply Kd.R_drewN | apply Kd.R_drew)); exact HO_150001.out⟩, ⟨by (with_reducible repeat (first | refine blk_drewN ?_ _ | refine blk_drew ?_ | refine blk_alloc ?_ _)); exact BK142.out⟩, ⟨by (with_reducible repeat (first | refine blk_drewN ?_ _ | refine blk_drew ?_ | refine blk_alloc ?_ _)); exact BK149.out⟩, ⟨by repeat (first | (with_reducible first | exact HB.out | apply below_alloc | apply pw_below_drewN | apply below_drew1 | refine below_set ?_ GE142.out | refine below_set ?_ GE149.out) | exact HB.out)⟩⟩
                  case round =>
                    clear H'
                    try clear c1
                    try clear p1
                    try clear q1
                    try clear hx1
                    try clear c2
                    try clear p2
                    try clear c5
                    try clear p6
                    try clear c9
                    try clear c11
                    try clear c11b0
                    try clear c12
                    try clear c12b0
                    try clear c13
                    try clear c13b0
                    try clear c13b1
                    try clear c14
                    try clear p15
                    try clear q15
                    try clear hx15
                    try clear c18
                    try clear c29
                    try clear c29b0
                    try clear hcz10_0
                    try clear hcz10_1
                    try clear hcz19_0
                    try clear hcz19_1
                    try clear hcz23_0
                    try clear hcz23_1
                    try clear hfz10_0
                    try clear hfz10_1
                    try clear hfz19_0
                    try clear hfz19_1
                    try clear hfz23_0
                    try clear hfz23_1
                    try clear hx154_0
                    try clear hx158_0
                    try clear p1
                    try clear p15
                    try clear p154
                    try clear p158
                    try clear p2
                    try clear p6
                    try clear q1
                    try clear q15
                    try clear q154
                    try clear q158
                    obtain ⟨x10_3, x11_3, x143000_3, x150000_3, rfl, HA, HK3, HO_5, HO_7, HO_8, HO_10, HO_150001, BK142, BK149, HB⟩ := hrel
                    cases gk with
                    | zero => exact absurd HA.out (by simp [spec_ParseSprouts.l2])
                    | succ k3 =>
                      have H := HA.out
                      clear HA
                      simp only [spec_ParseSprouts.l2] at H
                      by_cases c33 : 0 ≤ x9_2
                      · rw [if_pos c33] at H
                        have c33b0 : decide (0 ≤ x9_2) = true := decide_eq_true c33
                        clear c33
                        by_cases c34 : x9_2 < (t159.length : Int)
                        · rw [if_pos c34] at H
                          have c34b0 : decide (x9_2 < (t159.length : Int)) = true := decide_eq_true c34
                          clear c34
                          by_cases c35 : x11_3 < ((rdOf ByteArray.empty t159 x9_2).size : Int)
                          · rw [if_pos c35] at H
                            have c35b0 : decide (x11_3 < ((rdOf ByteArray.empty t159 x9_2).size : Int)) = true := decide_eq_true c35
                            clear c35
                            by_cases c36 : 0 ≤ x11_3
                            · rw [if_pos c36] at H
                              have c36b0 : decide (0 ≤ x11_3) = true := decide_eq_true c36
                              clear c36
                              replace H := Option.bind_eq_some_iff.mp H
                              obtain ⟨t170, A380, H⟩ := H
                              replace H : (if t170 = true then (if x10_3.length < 17592186044416 then (spec_ParseSprouts.l2 k3 t146 x6_1 x7_2 t159 x9_2 (x10_3 ++ [wrap64 ((wrap64 (bt (rdOf ByteArray.empty t159 x9_2) x11_3)) - 97)]) (wrap64 (x11_3 + 1)) (mx x150000_3 (wrap64 ((wrap64 ((wrap64 (bt (rdOf ByteArray.empty t159 x9_2) x11_3)) - 97)) + 1))) x150001_1) else (none)) else (some (0, ([] : List (List (List Int))), 6))) = some (r1, r2, r3) := H
                              have A38 := Aside0.mk A380
                              clear A380
                              by_cases c39 : t170 = true
                              · subst c39
                                have H1 : (if x10_3.length < 17592186044416 then (spec_ParseSprouts.l2 k3 t146 x6_1 x7_2 t159 x9_2 (x10_3 ++ [wrap64 ((wrap64 (bt (rdOf ByteArray.empty t159 x9_2) x11_3)) - 97)]) (wrap64 (x11_3 + 1)) (mx x150000_3 (wrap64 ((wrap64 ((wrap64 (bt (rdOf ByteArray.empty t159 x9_2) x11_3)) - 97)) + 1))) x150001_1) else (none)) = some (r1, r2, r3) := by rw [if_pos rfl] at H; exact H
                                clear H
                                have H := H1
                                clear H1
                                by_cases c40 : x10_3.length < 17592186044416
                                · rw [if_pos c40] at H
                                  have LMc40 := Aside0.mk c40
                                  clear c40
                                  obtain ⟨y171, hy171⟩ : ∃ y_ : List Int, y_ = (x10_3 ++ [wrap64 ((wrap64 (bt (rdOf ByteArray.empty t159 x9_2) x11_3)) - 97)]) := ⟨_, rfl⟩
                                  replace H : (spec_ParseSprouts.l2 k3 t146 x6_1 x7_2 t159 x9_2 y171 (wrap64 (x11_3 + 1)) (mx x150000_3 (wrap64 ((wrap64 ((wrap64 (bt (rdOf ByteArray.empty t159 x9_2) x11_3)) - 97)) + 1))) x150001_1) = some (r1, r2, r3) := by first | (rw [hy171]; with_reducible exact H) | (have H2_ := (Option.bind_some _ _).symm.trans H; rw [hy171]; with_reducible exact H2_) | (have H2_ := (Option.bind_some _ _).symm.trans H; with_reducible exact H2_) | with_reducible exact H | (rw [hy171]; exact H) | exact H
                                  have Ny171 := Aside0.mk hy171
                                  clear hy171
                                  obtain ⟨ji41, hji41⟩ : ∃ j_ : Int, (mx x150000_3 (wrap64 ((wrap64 ((wrap64 (bt (rdOf ByteArray.empty t159 x9_2) x11_3)) - 97)) + 1))) = j_ := ⟨_, rfl⟩
                                  replace H : (spec_ParseSprouts.l2 k3 t146 x6_1 x7_2 t159 x9_2 y171 (wrap64 (x11_3 + 1)) ji41 x150001_1) = some (r1, r2, r3) := by first | (rw [hji41] at H; exact H) | (simp only [hji41] at H ⊢; exact H)
                                  (try rw [hji41] at A38)
                                  have hji41_ : (if x150000_3 < (wrap64 ((wrap64 ((wrap64 (bt (rdOf ByteArray.empty t159 x9_2) x11_3)) - 97)) + 1)) then (wrap64 ((wrap64 ((wrap64 (bt (rdOf ByteArray.empty t159 x9_2) x11_3)) - 97)) + 1)) else x150000_3) = ji41 := hji41
                                  have H' := Aside0.mk H
                                  clear H
                                  have p168 : 0 ≤ (x9_2 : Int) := of_decide_eq_true (by first | (with_reducible assumption) | assumption)
                                  have q168 : x9_2 < (t159.length : Int) := of_decide_eq_true (by first | (with_reducible assumption) | assumption)
                                  obtain ⟨ad168, e168, hx168_0⟩ := Kd.at_string (Kd.R_reads' HO_8.out).2.2 x9_2 p168 q168
                                  cases e168
                                  replace p168 := eq_true p168
                                  replace q168 := eq_true q168
                                  have p169 : 0 ≤ (x9_2 : Int) := of_decide_eq_true (by first | (with_reducible assumption) | assumption)
                                  have q169 : x9_2 < (t159.length : Int) := of_decide_eq_true (by first | (with_reducible assumption) | assumption)
                                  obtain ⟨ad169, e169, hx169_0⟩ := Kd.at_string (Kd.R_reads' HO_8.out).2.2 x9_2 p169 q169
                                  obtain rfl : ad168 = ad169 := (by injection e169)
                                  replace p169 := eq_true p169
                                  replace q169 := eq_true q169
                                  have p37 : 0 ≤ (x11_3 : Int) := of_decide_eq_true (by first | (with_reducible assumption) | assumption)
                                  have q37 : x11_3 < ((rdOf ByteArray.empty t159 x9_2).size : Int) := of_decide_eq_true (by first | (with_reducible assumption) | assumption)
                                  have hx37 := bt_at (rdOf ByteArray.empty t159 x9_2) x11_3
                                  replace p37 := eq_true p37
                                  replace q37 := eq_true q37
                                  go_wp2_with (first | ((with_reducible refine gate_callee (f := 14) rfl ?_); refine goesL_ (some 59) rfl rfl Tryd.func14 (by kernel_rfl) rfl #[.int .i64 (wrap64 ((wrap64 (bt (rdOf ByteArray.empty t159 x9_2) x11_3)) - 97)), .int .i64 0, .int .i64 19] rfl (by (try simp only [List.map_toArray, List.map_cons, List.map_nil]); first | done | rfl | (simp only [List.length_drop, List.length_take]; rfl)) ?_; (with_reducible refine (spec_l01In.calls (wrap64 ((wrap64 (bt (rdOf ByteArray.empty t159 x9_2) x11_3)) - 97)) 0 19 true _ A38.out).mono ?_); rintro e w' ⟨rfl, ⟨nd, rfl⟩⟩; refine ⟨_, rfl, ?_⟩; (try (rw [drewN_self wr]; generalize hq_ : World.drewN wr _ = wr; have n0_ : Aside0 (Kd.R (Kd.int .i64) 2 wr w.heap.size (fun _ => True) u10 x10_3) := ⟨by rw [← hq_]; exact (by (with_reducible repeat (first | apply Kd.R_alloc | apply Kd.R_drewN | apply Kd.R_drew)); exact HO_10.out)⟩; have n1_ : Aside0 (Kd.R (Kd.slice 38 (Kd.slice 2 (Kd.int .i64))) 37 wr w.heap.size (fun k_ => some k_ ≠ (u10 : Value).ownBlock ∧ some k_ ≠ (u7 : Value).ownBlock) u150001 x150001_1) := ⟨by rw [← hq_]; exact (by (with_reducible repeat (first | apply Kd.R_alloc | apply Kd.R_drewN | apply Kd.R_drew)); exact Kd.R_mono HO_150001.out (fun _ hk => ⟨hk.2, hk.1⟩))⟩; have n2_ : Aside0 (Kd.R Kd.string 9 wr w.heap.size (fun k_ => some k_ ≠ (.slice (some ad168) t159.length co30 : Value).ownBlock) (.slice (some ad154) t146.length co25) t146) := ⟨by rw [← hq_]; exact (by (with_reducible repeat (first | apply Kd.R_alloc | apply Kd.R_drewN | apply Kd.R_drew)); exact HO_5.out)⟩; have n3_ : Aside0 (Kd.S (Kd.slice 2 (Kd.int .i64)) 38 wr w.heap.size (fun k_ => some k_ ≠ (u10 : Value).ownBlock) u7 x7_2) := ⟨by rw [← hq_]; exact (by (with_reducible repeat (first | apply Kd.S_alloc | apply Kd.S_drewN | apply Kd.S_drew)); exact HO_7.out)⟩; have n4_ : Aside0 (Kd.R Kd.string 9 wr w.heap.size (fun k_ => some k_ ≠ (.slice (some ad154) t146.length co25 : Value).ownBlock) (.slice (some ad168) t159.length co30) t159) := ⟨by rw [← hq_]; exact (by (with_reducible repeat (first | apply Kd.R_alloc | apply Kd.R_drewN | apply Kd.R_drew)); exact HO_8.out)⟩; have n5_ : Aside0 (wr.heap[gb142]? = some (.cells #[.int .i64 x143000_3, .slice none 0 0] 24 (0, 0))) := ⟨by rw [← hq_]; exact (by (with_reducible repeat (first | refine blk_drewN ?_ _ | refine blk_drew ?_ | refine blk_alloc ?_ _)); exact BK142.out)⟩; have n6_ : Aside0 (wr.heap[gb149]? = some (.cells #[.int .i64 x150000_3, u150001] 24 (0, 0))) := ⟨by rw [← hq_]; exact (by (with_reducible repeat (first | refine blk_drewN ?_ _ | refine blk_drew ?_ | refine blk_alloc ?_ _)); exact BK149.out)⟩; have n7_ : Aside0 (Below w.heap.size w wr) := ⟨by rw [← hq_]; exact (by repeat (first | (with_reducible first | exact HB.out | apply below_alloc | apply pw_below_drewN | apply below_drew1 | refine below_set ?_ GE142.out | refine below_set ?_ GE149.out) | exact HB.out))⟩; clear HO_10 HO_150001 HO_5 HO_7 HO_8 BK142 BK149 HB hq_; have HO_10 := n0_; have HO_150001 := n1_; have HO_5 := n2_; have HO_7 := n3_; have HO_8 := n4_; have BK142 := n5_; have BK149 := n6_; have HB := n7_; clear n0_ n1_ n2_ n3_ n4_ n5_ n6_ n7_))) | ((with_reducible refine gate_builtin (b := .append) (xs := #[.tmp 62, .tmp 64]) rfl ?_); at_builtin; refine Kd.R_append (Kd.int .i64) (w0 := w) w.heap.size rfl (.tmp 62) (.tmp 64) 38 2 (.int .i64 0) 8 rfl Tryd.underlying38 info2 rfl (by decide) (by omega) u10 x10_3 (wrap64 ((wrap64 (bt (rdOf ByteArray.empty t159 x9_2) x11_3)) - 97)) [.int .i64 (wrap64 ((wrap64 (bt (rdOf ByteArray.empty t159 x9_2) x11_3)) - 97))] (fun _ => True) (fun _ => False) rfl rfl ?aP (fun _ hk => hk.elim) ?aF ?aO ?aB ?aS ?aL ?_; (case aP => exact rfl); (case aB => exact (by repeat (first | (with_reducible first | exact HB.out | apply below_alloc | apply pw_below_drewN | apply below_drew1 | refine below_set ?_ GE142.out | refine below_set ?_ GE149.out) | exact HB.out))); (case aF => exact (fun _ _ => trivial)); (case aO => exact (by (with_reducible repeat (first | apply Kd.R_alloc | apply Kd.R_drewN | apply Kd.R_drew)); exact HO_10.out)); (case aS => exact (below_size (by repeat (first | (with_reducible first | exact HB.out | apply below_alloc | apply pw_below_drewN | apply below_drew1 | refine below_set ?_ GE142.out | refine below_set ?_ GE149.out) | exact HB.out)))); (case aL => have := LMc40.out; omega); intro v172 w42 ho hb hg hat; rw [← Ny171.out] at ho; have n0_ := Aside0.mk (Kd.R_over' (by (with_reducible repeat (first | apply Kd.R_alloc | apply Kd.R_drewN | apply Kd.R_drew)); exact HO_5.out) (Kd.R_typed (by (with_reducible repeat (first | apply Kd.R_alloc | apply Kd.R_drewN | apply Kd.R_drew)); exact HO_10.out)) (by decide) hg); have n1_ := Aside0.mk (Kd.S_after (ok := (fun _ => True)) (by (with_reducible repeat (first | apply Kd.S_alloc | apply Kd.S_drewN | apply Kd.S_drew)); exact Kd.S_mono HO_7.out (fun _ hk => ⟨trivial, hk⟩)) hg hat); have n2_ := Aside0.mk (Kd.R_over' (by (with_reducible repeat (first | apply Kd.R_alloc | apply Kd.R_drewN | apply Kd.R_drew)); exact HO_8.out) (Kd.R_typed (by (with_reducible repeat (first | apply Kd.R_alloc | apply Kd.R_drewN | apply Kd.R_drew)); exact HO_10.out)) (by decide) hg); have n3_ := Aside0.mk (Kd.R_after (ok := (fun k_ => some k_ ≠ (u7 : Value).ownBlock)) (by (with_reducible repeat (first | apply Kd.R_alloc | apply Kd.R_drewN | apply Kd.R_drew)); exact Kd.R_mono HO_150001.out (fun _ hk => ⟨hk.2, hk.1⟩)) hg hat); have n4_ := Aside0.mk (blk_grown (g := gb142) (o := .cells #[.int .i64 x143000_3, .slice none 0 0] 24 (0, 0)) (by (with_reducible repeat (first | refine blk_drewN ?_ _ | refine blk_drew ?_ | refine blk_alloc ?_ _)); exact BK142.out) hg (Kd.R_ne HO_10.out BK142.out (by decide))); have n5_ := Aside0.mk (blk_grown (g := gb149) (o := .cells #[.int .i64 x150000_3, u150001] 24 (0, 0)) (by (with_reducible repeat (first | refine blk_drewN ?_ _ | refine blk_drew ?_ | refine blk_alloc ?_ _)); exact BK149.out) hg (Kd.R_ne HO_10.out BK149.out (by decide))); have n6_ := Aside0.mk (hb); have n7_ := Aside0.mk (ho); clear HO_5; clear HO_7; clear HO_8; clear HO_150001; clear BK142; clear BK149; clear HB; clear HO_10; have HO_5 := n0_; have HO_7 := n1_; have HO_8 := n2_; have HO_150001 := n3_; have BK142 := n4_; have BK149 := n5_; have HB := n6_; have HO173 := n7_; clear n0_ n1_ n2_ n3_ n4_ n5_ n6_ n7_; clear ho hb hg hat; have hnb43 := NB149_142.out; have hnc43 := NB142_149.out; have hcz44_0 : w42.cell? ⟨gb149, 0, none⟩ = some (.int .i64 x150000_3) := (blk_cell BK149.out 0).trans rfl; have hcz44_1 : w42.cell? ⟨gb149, 1, none⟩ = some (u150001) := (blk_cell BK149.out 1).trans rfl; have hfz44_0 := blk_frozen BK149.out 0; have hfz44_1 := blk_frozen BK149.out 1))
                                  go_roundg k3
                                  case measure => have := HK1.out; have := HK2.out; have := HK3.out; omega
                                  case rel => exact ⟨(y171), (wrap64 (x11_3 + 1)), (x143000_3), (ji41), (by first | rfl | (simp; done) | (simp [*]; done)), H', ⟨by have := HK1.out; have := HK2.out; have := HK3.out; omega⟩, ⟨by (with_reducible repeat (first | apply Kd.R_alloc | apply Kd.R_drewN | apply Kd.R_drew)); exact Kd.R_mono (Kd.R_far (p := ⟨gb149, 0, none⟩) (Kd.R_types HO_5.out BK149.out (by decide)) (fun _ hk => hk.2) (.int .i64 ji41)) (fun _ hk => hk.1)⟩, ⟨by (with_reducible repeat (first | apply Kd.S_alloc | apply Kd.S_drewN | apply Kd.S_drew)); exact Kd.S_mono (Kd.S_far (p := ⟨gb149, 0, none⟩) (Kd.S_types HO_7.out BK149.out (by decide)) (fun _ hk => hk.2) (.int .i64 ji41)) (fun _ hk => hk.1.2)⟩, ⟨by (with_reducible repeat (first | apply Kd.R_alloc | apply Kd.R_drewN | apply Kd.R_drew)); exact Kd.R_mono (Kd.R_far (p := ⟨gb149, 0, none⟩) (Kd.R_types HO_8.out BK149.out (by decide)) (fun _ hk => hk.2) (.int .i64 ji41)) (fun _ hk => hk.1)⟩, ⟨by (with_reducible repeat (first | apply Kd.R_alloc | apply Kd.R_drewN | apply Kd.R_drew)); exact Kd.R_mono (Kd.R_far (p := ⟨gb149, 0, none⟩) (Kd.R_types HO173.out BK149.out (by decide)) (fun _ hk => hk.2) (.int .i64 ji41)) (fun _ hk => trivial)⟩, ⟨by (with_reducible repeat (first | apply Kd.R_alloc | apply Kd.R_drewN | apply Kd.R_drew)); exact Kd.R_mono (Kd.R_far (p := ⟨gb149, 0, none⟩) (Kd.R_types HO_150001.out BK149.out (by decide)) (fun _ hk => hk.2) (.int .i64 ji41)) (fun _ hk => ⟨hk.1.1, hk.1.2⟩)⟩, ⟨by (with_reducible repeat (first | refine blk_drewN ?_ _ | refine blk_drew ?_ | refine blk_alloc ?_ _)); refine blk_far ?_ NB142_149.out _; (with_reducible repeat (first | refine blk_drewN ?_ _ | refine blk_drew ?_ | refine blk_alloc ?_ _)); exact BK142.out⟩, ⟨by (with_reducible repeat (first | refine blk_drewN ?_ _ | refine blk_drew ?_ | refine blk_alloc ?_ _)); refine blk_put (cs := #[.int .i64 x150000_3, u150001]) ?_ 0 _ rfl; (with_reducible repeat (first | refine blk_drewN ?_ _ | refine blk_drew ?_ | refine blk_alloc ?_ _)); exact BK149.out⟩, ⟨by repeat (first | (with_reducible first | exact HB.out | apply below_alloc | apply pw_below_drewN | apply below_drew1 | refine below_set ?_ GE142.out | refine below_set ?_ GE149.out) | exact HB.out)⟩⟩
                                · rw [if_neg c40] at H
                                  exact absurd H (by simp)
                              · replace c39 := Bool.eq_false_iff.mpr c39
                                subst c39
                                have H1 : (some (0, ([] : List (List (List Int))), 6)) = some (r1, r2, r3) := by rw [if_neg (show ¬ (false = true) by decide)] at H; exact H
                                clear H
                                have H := H1
                                clear H1
                                simp only [Option.some.injEq, Prod.mk.injEq] at H
                                obtain ⟨rfl, rfl, rfl⟩ := H
                                have p168 : 0 ≤ (x9_2 : Int) := of_decide_eq_true (by first | (with_reducible assumption) | assumption)
                                have q168 : x9_2 < (t159.length : Int) := of_decide_eq_true (by first | (with_reducible assumption) | assumption)
                                obtain ⟨ad168, e168, hx168_0⟩ := Kd.at_string (Kd.R_reads' HO_8.out).2.2 x9_2 p168 q168
                                cases e168
                                replace p168 := eq_true p168
                                replace q168 := eq_true q168
                                have p169 : 0 ≤ (x9_2 : Int) := of_decide_eq_true (by first | (with_reducible assumption) | assumption)
                                have q169 : x9_2 < (t159.length : Int) := of_decide_eq_true (by first | (with_reducible assumption) | assumption)
                                obtain ⟨ad169, e169, hx169_0⟩ := Kd.at_string (Kd.R_reads' HO_8.out).2.2 x9_2 p169 q169
                                obtain rfl : ad168 = ad169 := (by injection e169)
                                replace p169 := eq_true p169
                                replace q169 := eq_true q169
                                have p37 : 0 ≤ (x11_3 : Int) := of_decide_eq_true (by first | (with_reducible assumption) | assumption)
                                have q37 : x11_3 < ((rdOf ByteArray.empty t159 x9_2).size : Int) := of_decide_eq_true (by first | (with_reducible assumption) | assumption)
                                have hx37 := bt_at (rdOf ByteArray.empty t159 x9_2) x11_3
                                replace p37 := eq_true p37
                                replace q37 := eq_true q37
                                go_wp2_with (first | ((with_reducible refine gate_callee (f := 14) rfl ?_); refine goesL_ (some 59) rfl rfl Tryd.func14 (by kernel_rfl) rfl #[.int .i64 (wrap64 ((wrap64 (bt (rdOf ByteArray.empty t159 x9_2) x11_3)) - 97)), .int .i64 0, .int .i64 19] rfl (by (try simp only [List.map_toArray, List.map_cons, List.map_nil]); first | done | rfl | (simp only [List.length_drop, List.length_take]; rfl)) ?_; (with_reducible refine (spec_l01In.calls (wrap64 ((wrap64 (bt (rdOf ByteArray.empty t159 x9_2) x11_3)) - 97)) 0 19 false _ A38.out).mono ?_); rintro e w' ⟨rfl, ⟨nd, rfl⟩⟩; refine ⟨_, rfl, ?_⟩; (try (rw [drewN_self wr]; generalize hq_ : World.drewN wr _ = wr; have n0_ : Aside0 (Kd.R (Kd.int .i64) 2 wr w.heap.size (fun _ => True) u10 x10_3) := ⟨by rw [← hq_]; exact (by (with_reducible repeat (first | apply Kd.R_alloc | apply Kd.R_drewN | apply Kd.R_drew)); exact HO_10.out)⟩; have n1_ : Aside0 (Kd.R (Kd.slice 38 (Kd.slice 2 (Kd.int .i64))) 37 wr w.heap.size (fun k_ => some k_ ≠ (u10 : Value).ownBlock ∧ some k_ ≠ (u7 : Value).ownBlock) u150001 x150001_1) := ⟨by rw [← hq_]; exact (by (with_reducible repeat (first | apply Kd.R_alloc | apply Kd.R_drewN | apply Kd.R_drew)); exact Kd.R_mono HO_150001.out (fun _ hk => ⟨hk.2, hk.1⟩))⟩; have n2_ : Aside0 (Kd.R Kd.string 9 wr w.heap.size (fun k_ => some k_ ≠ (.slice (some ad168) t159.length co30 : Value).ownBlock) (.slice (some ad154) t146.length co25) t146) := ⟨by rw [← hq_]; exact (by (with_reducible repeat (first | apply Kd.R_alloc | apply Kd.R_drewN | apply Kd.R_drew)); exact HO_5.out)⟩; have n3_ : Aside0 (Kd.S (Kd.slice 2 (Kd.int .i64)) 38 wr w.heap.size (fun k_ => some k_ ≠ (u10 : Value).ownBlock) u7 x7_2) := ⟨by rw [← hq_]; exact (by (with_reducible repeat (first | apply Kd.S_alloc | apply Kd.S_drewN | apply Kd.S_drew)); exact HO_7.out)⟩; have n4_ : Aside0 (Kd.R Kd.string 9 wr w.heap.size (fun k_ => some k_ ≠ (.slice (some ad154) t146.length co25 : Value).ownBlock) (.slice (some ad168) t159.length co30) t159) := ⟨by rw [← hq_]; exact (by (with_reducible repeat (first | apply Kd.R_alloc | apply Kd.R_drewN | apply Kd.R_drew)); exact HO_8.out)⟩; have n5_ : Aside0 (wr.heap[gb142]? = some (.cells #[.int .i64 x143000_3, .slice none 0 0] 24 (0, 0))) := ⟨by rw [← hq_]; exact (by (with_reducible repeat (first | refine blk_drewN ?_ _ | refine blk_drew ?_ | refine blk_alloc ?_ _)); exact BK142.out)⟩; have n6_ : Aside0 (wr.heap[gb149]? = some (.cells #[.int .i64 x150000_3, u150001] 24 (0, 0))) := ⟨by rw [← hq_]; exact (by (with_reducible repeat (first | refine blk_drewN ?_ _ | refine blk_drew ?_ | refine blk_alloc ?_ _)); exact BK149.out)⟩; have n7_ : Aside0 (Below w.heap.size w wr) := ⟨by rw [← hq_]; exact (by repeat (first | (with_reducible first | exact HB.out | apply below_alloc | apply pw_below_drewN | apply below_drew1 | refine below_set ?_ GE142.out | refine below_set ?_ GE149.out) | exact HB.out))⟩; clear HO_10 HO_150001 HO_5 HO_7 HO_8 BK142 BK149 HB hq_; have HO_10 := n0_; have HO_150001 := n1_; have HO_5 := n2_; have HO_7 := n3_; have HO_8 := n4_; have BK142 := n5_; have BK149 := n6_; have HB := n7_; clear n0_ n1_ n2_ n3_ n4_ n5_ n6_ n7_)); have hnb45 := NB142_149.out; have hnc45 := NB149_142.out; have hcz46_0 : wr.cell? ⟨gb142, 0, none⟩ = some (.int .i64 x143000_3) := (blk_cell BK142.out 0).trans rfl; have hcz46_1 : wr.cell? ⟨gb142, 1, none⟩ = some (.slice none 0 0) := (blk_cell BK142.out 1).trans rfl; have hfz46_0 := blk_frozen BK142.out 0; have hfz46_1 := blk_frozen BK142.out 1))
                                refine bodyPost_ret (results_ct rfl _ _ gb142 24 #[.int .i64 0, .slice none 0 0] (0, 0) _ rfl (by (with_reducible repeat (first | refine blk_drewN ?_ _ | refine blk_drew ?_ | refine blk_alloc ?_ _)); refine blk_put (cs := #[.int .i64 0, .slice none 0 0]) ?_ 1 _ rfl; (with_reducible repeat (first | refine blk_drewN ?_ _ | refine blk_drew ?_ | refine blk_alloc ?_ _)); refine blk_put (cs := #[.int .i64 x143000_3, .slice none 0 0]) ?_ 0 _ rfl; (with_reducible repeat (first | refine blk_drewN ?_ _ | refine blk_drew ?_ | refine blk_alloc ?_ _)); exact BK142.out) Tryd.underlying24 rfl (by kernel_rfl)) rfl ?_
                                exact ⟨_, by first | rfl | (simp [errW_none, errW_some] <;> rfl) | (simp [*, errW_none, errW_some] <;> rfl), by first | exact Kd.R_nil _ _ _ _ _ | exact Kd.N_nil _ _ _ _ _ | exact Kd.V_nil _ _ _ _ _ | exact Kd.Q_nil _ _ _ _ _ | exact Kd.S_nil _ _ _ _ _, by repeat (first | (with_reducible first | exact HB.out | apply below_alloc | apply pw_below_drewN | apply below_drew1 | refine below_set ?_ GE142.out | refine below_set ?_ GE149.out) | exact HB.out)⟩
                            · rw [if_neg c36] at H
                              exact absurd H (by simp)
                          · rw [if_neg c35] at H
                            have c35b0 : decide (x11_3 < ((rdOf ByteArray.empty t159 x9_2).size : Int)) = false := decide_eq_false c35
                            clear c35
                            by_cases c47 : x7_2.length < 5864062014805
                            · rw [if_pos c47] at H
                              have LMc47 := Aside0.mk c47
                              clear c47
                              obtain ⟨y174, hy174⟩ : ∃ y_ : List (List Int), y_ = (x7_2 ++ [x10_3]) := ⟨_, rfl⟩
                              replace H : (spec_ParseSprouts.l1 k3 t146 x6_1 y174 t159 (wrap64 (x9_2 + 1)) x150000_3 x150001_1) = some (r1, r2, r3) := by first | (rw [hy174]; with_reducible exact H) | (have H2_ := (Option.bind_some _ _).symm.trans H; rw [hy174]; with_reducible exact H2_) | (have H2_ := (Option.bind_some _ _).symm.trans H; with_reducible exact H2_) | with_reducible exact H | (rw [hy174]; exact H) | exact H
                              have Ny174 := Aside0.mk hy174
                              clear hy174
                              have H' := Aside0.mk H
                              clear H
                              have p168 : 0 ≤ (x9_2 : Int) := of_decide_eq_true (by first | (with_reducible assumption) | assumption)
                              have q168 : x9_2 < (t159.length : Int) := of_decide_eq_true (by first | (with_reducible assumption) | assumption)
                              obtain ⟨ad168, e168, hx168_0⟩ := Kd.at_string (Kd.R_reads' HO_8.out).2.2 x9_2 p168 q168
                              cases e168
                              replace p168 := eq_true p168
                              replace q168 := eq_true q168
                              obtain ⟨Ao49, co49, eo49⟩ := Kd.R_slice HO_10.out
                              subst eo49
                              go_wp2_with (first | ((with_reducible refine gate_builtin (b := .append) (xs := #[.tmp 72, .tmp 74]) rfl ?_); at_builtin; refine Kd.S_append (Kd.slice 2 (Kd.int .i64)) (w0 := w) w.heap.size rfl (.tmp 72) (.tmp 74) 37 38 (.slice none 0 0) 24 rfl Tryd.underlying37 info38 rfl (by decide) (by omega) u7 x7_2 x10_3 [.slice Ao49 x10_3.length co49] (fun _ => True) (fun k_ => some k_ = (.slice Ao49 x10_3.length co49 : Value).ownBlock) rfl rfl ?aP (fun k_ hk_ => ((Kd.R_mono (ok' := fun k_ => ((fun _ => True)) k_ ∧ some k_ ≠ (u7 : Value).ownBlock) (Kd.R_apart' (HO_10.out) (Kd.S_typed HO_7.out) (by decide)) (fun k_ hk => ⟨trivial, hk.2⟩))).1 k_ hk_.symm) ?aF ?aO ?aB ?aS ?aL ?_; (case aP => exact Kd.M_row (Kd.R_mono (Kd.R_tight rfl (Kd.R_mono (ok' := fun k_ => ((fun _ => True)) k_ ∧ some k_ ≠ (u7 : Value).ownBlock) (Kd.R_apart' (HO_10.out) (Kd.S_typed HO_7.out) (by decide)) (fun k_ hk => ⟨trivial, hk.2⟩))) (fun _ h_ => h_))); (case aB => exact (by repeat (first | (with_reducible first | exact HB.out | apply below_alloc | apply pw_below_drewN | apply below_drew1 | refine below_set ?_ GE142.out | refine below_set ?_ GE149.out) | exact HB.out))); (case aF => exact (fun _ _ => trivial)); (case aO => exact (by (with_reducible repeat (first | apply Kd.S_alloc | apply Kd.S_drewN | apply Kd.S_drew)); exact Kd.S_mono HO_7.out (fun k_ hk => ⟨trivial, fun e_ => hk e_⟩))); (case aS => exact (below_size (by repeat (first | (with_reducible first | exact HB.out | apply below_alloc | apply pw_below_drewN | apply below_drew1 | refine below_set ?_ GE142.out | refine below_set ?_ GE149.out) | exact HB.out)))); (case aL => have := LMc47.out; omega); intro v175 w48 ho hb hg hat; rw [← Ny174.out] at ho; have n0_ := Aside0.mk (Kd.R_over' (by (with_reducible repeat (first | apply Kd.R_alloc | apply Kd.R_drewN | apply Kd.R_drew)); exact HO_5.out) (Kd.S_typed (by (with_reducible repeat (first | apply Kd.S_alloc | apply Kd.S_drewN | apply Kd.S_drew)); exact HO_7.out)) (by decide) hg); have n1_ := Aside0.mk (Kd.R_over' (by (with_reducible repeat (first | apply Kd.R_alloc | apply Kd.R_drewN | apply Kd.R_drew)); exact HO_8.out) (Kd.S_typed (by (with_reducible repeat (first | apply Kd.S_alloc | apply Kd.S_drewN | apply Kd.S_drew)); exact HO_7.out)) (by decide) hg); have n2_ := Aside0.mk (Kd.R_after (ok := (fun k_ => some k_ ≠ (.slice Ao49 x10_3.length co49 : Value).ownBlock)) (by (with_reducible repeat (first | apply Kd.R_alloc | apply Kd.R_drewN | apply Kd.R_drew)); exact Kd.R_mono HO_150001.out (fun _ hk => ⟨hk.2, hk.1⟩)) hg hat); have n3_ := Aside0.mk (blk_grown (g := gb142) (o := .cells #[.int .i64 x143000_3, .slice none 0 0] 24 (0, 0)) (by (with_reducible repeat (first | refine blk_drewN ?_ _ | refine blk_drew ?_ | refine blk_alloc ?_ _)); exact BK142.out) hg (Kd.S_ne HO_7.out BK142.out (by decide))); have n4_ := Aside0.mk (blk_grown (g := gb149) (o := .cells #[.int .i64 x150000_3, u150001] 24 (0, 0)) (by (with_reducible repeat (first | refine blk_drewN ?_ _ | refine blk_drew ?_ | refine blk_alloc ?_ _)); exact BK149.out) hg (Kd.S_ne HO_7.out BK149.out (by decide))); have n5_ := Aside0.mk (hb); have n6_ := Aside0.mk (ho); clear HO_5; clear HO_8; clear HO_150001; clear BK142; clear BK149; clear HB; clear HO_7; clear HO_10; have HO_5 := n0_; have HO_8 := n1_; have HO_150001 := n2_; have BK142 := n3_; have BK149 := n4_; have HB := n5_; have HO176 := n6_; clear n0_ n1_ n2_ n3_ n4_ n5_ n6_; clear ho hb hg hat))
                              go_roundg k3
                              case measure => have := HK1.out; have := HK2.out; have := HK3.out; omega
                              case rel => exact ⟨(y174), (wrap64 (x9_2 + 1)), (x143000_3), (x150000_3), (by first | rfl | (simp; done) | (simp [*]; done)), H', ⟨by have := HK1.out; have := HK2.out; have := HK3.out; omega⟩, ⟨by (with_reducible repeat (first | apply Kd.R_alloc | apply Kd.R_drewN | apply Kd.R_drew)); exact HO_5.out⟩, ⟨by (with_reducible repeat (first | apply Kd.S_alloc | apply Kd.S_drewN | apply Kd.S_drew)); exact HO176.out⟩, ⟨by (with_reducible repeat (first | apply Kd.R_alloc | apply Kd.R_drewN | apply Kd.R_drew)); exact HO_8.out⟩, ⟨by (with_reducible repeat (first | apply Kd.R_alloc | apply Kd.R_drewN | apply Kd.R_drew)); exact Kd.R_mono HO_150001.out (fun _ hk => hk.2)⟩, ⟨by (with_reducible repeat (first | refine blk_drewN ?_ _ | refine blk_drew ?_ | refine blk_alloc ?_ _)); exact BK142.out⟩, ⟨by (with_reducible repeat (first | refine blk_drewN ?_ _ | refine blk_drew ?_ | refine blk_alloc ?_ _)); exact BK149.out⟩, ⟨by repeat (first | (with_reducible first | exact HB.out | apply below_alloc | apply pw_below_drewN | apply below_drew1 | refine below_set ?_ GE142.out | refine below_set ?_ GE149.out) | exact HB.out)⟩⟩
                            · rw [if_neg c47] at H
                              exact absurd H (by simp)
                        · rw [if_neg c34] at H
                          exact absurd H (by simp)
                      · rw [if_neg c33] at H
                        exact absurd H (by simp)
                · rw [if_neg c29] at H
                  have c29b0 : decide (x9_2 < (t159.length : Int)) = false := decide_eq_false c29
                  clear c29
                  by_cases c50 : x150001_1.length < 5864062014805
                  · rw [if_pos c50] at H
                    have LMc50 := Aside0.mk c50
                    clear c50
                    obtain ⟨y162, hy162⟩ : ∃ y_ : List (List (List Int)), y_ = (x150001_1 ++ [x7_2]) := ⟨_, rfl⟩
                    replace H : (spec_ParseSprouts.l0 k2 t146 (wrap64 (x6_1 + 1)) x150000_2 y162) = some (r1, r2, r3) := by first | (rw [hy162]; with_reducible exact H) | (have H2_ := (Option.bind_some _ _).symm.trans H; rw [hy162]; with_reducible exact H2_) | (have H2_ := (Option.bind_some _ _).symm.trans H; with_reducible exact H2_) | with_reducible exact H | (rw [hy162]; exact H) | exact H
                    have Ny162 := Aside0.mk hy162
                    clear hy162
                    have H' := Aside0.mk H
                    clear H
                    obtain ⟨Ao51, co51, eo51⟩ := Kd.R_slice HO_8.out
                    subst eo51
                    have hnb52 := NB149_142.out
                    have hnc52 := NB142_149.out
                    have hcz53_0 : wr.cell? ⟨gb149, 0, none⟩ = some (.int .i64 x150000_2) := (blk_cell BK149.out 0).trans rfl
                    have hcz53_1 : wr.cell? ⟨gb149, 1, none⟩ = some (u150001) := (blk_cell BK149.out 1).trans rfl
                    have hfz53_0 := blk_frozen BK149.out 0
                    have hfz53_1 := blk_frozen BK149.out 1
                    obtain ⟨Ao55, co55, eo55⟩ := Kd.S_slice HO_7.out
                    subst eo55
                    go_wp2_with (first | ((with_reducible refine gate_builtin (b := .append) (xs := #[.tmp 77, .tmp 79]) rfl ?_); at_builtin; refine Kd.R_append (Kd.slice 38 (Kd.slice 2 (Kd.int .i64))) (w0 := w) w.heap.size rfl (.tmp 77) (.tmp 79) 22 37 (.slice none 0 0) 24 rfl Tryd.underlying22 info37 rfl (by decide) (by omega) u150001 x150001_1 x7_2 [.slice Ao55 x7_2.length co55] (fun _ => True) (fun k_ => ((fun _ => True)) k_ ∧ some k_ ≠ (u150001 : Value).ownBlock) rfl rfl ?aP (fun _ hk => hk) ?aF ?aO ?aB ?aS ?aL ?_; (case aP => exact Kd.M_row (Kd.R_mono (Kd.R_apart' ((Kd.S_R HO_7.out)) (Kd.R_typed HO_150001.out) (by decide)) (fun k_ hk => ⟨trivial, hk.2⟩))); (case aB => exact (by repeat (first | (with_reducible first | exact HB.out | apply below_alloc | apply pw_below_drewN | apply below_drew1 | refine below_set ?_ GE142.out | refine below_set ?_ GE149.out) | exact HB.out))); (case aF => exact (fun _ _ => trivial)); (case aO => exact (by (with_reducible repeat (first | apply Kd.R_alloc | apply Kd.R_drewN | apply Kd.R_drew)); exact Kd.R_mono HO_150001.out (fun _ hk => trivial))); (case aS => exact (below_size (by repeat (first | (with_reducible first | exact HB.out | apply below_alloc | apply pw_below_drewN | apply below_drew1 | refine below_set ?_ GE142.out | refine below_set ?_ GE149.out) | exact HB.out)))); (case aL => have := LMc50.out; omega); intro v163 w54 ho hb hg hat; rw [← Ny162.out] at ho; have n0_ := Aside0.mk (Kd.R_over' (by (with_reducible repeat (first | apply Kd.R_alloc | apply Kd.R_drewN | apply Kd.R_drew)); exact HO_5.out) (Kd.R_typed (by (with_reducible repeat (first | apply Kd.R_alloc | apply Kd.R_drewN | apply Kd.R_drew)); exact HO_150001.out)) (by decide) hg); have n1_ := Aside0.mk (Kd.R_over' (by (with_reducible repeat (first | apply Kd.R_alloc | apply Kd.R_drewN | apply Kd.R_drew)); exact HO_8.out) (Kd.R_typed (by (with_reducible repeat (first | apply Kd.R_alloc | apply Kd.R_drewN | apply Kd.R_drew)); exact HO_150001.out)) (by decide) hg); have n2_ := Aside0.mk (blk_grown (g := gb142) (o := .cells #[.int .i64 x143000_2, .slice none 0 0] 24 (0, 0)) (by (with_reducible repeat (first | refine blk_drewN ?_ _ | refine blk_drew ?_ | refine blk_alloc ?_ _)); exact BK142.out) hg (Kd.R_ne HO_150001.out BK142.out (by decide))); have n3_ := Aside0.mk (blk_grown (g := gb149) (o := .cells #[.int .i64 x150000_2, u150001] 24 (0, 0)) (by (with_reducible repeat (first | refine blk_drewN ?_ _ | refine blk_drew ?_ | refine blk_alloc ?_ _)); exact BK149.out) hg (Kd.R_ne HO_150001.out BK149.out (by decide))); have n4_ := Aside0.mk (hb); have n5_ := Aside0.mk (ho); clear HO_5; clear HO_8; clear BK142; clear BK149; clear HB; clear HO_150001; clear HO_7; have HO_5 := n0_; have HO_8 := n1_; have BK142 := n2_; have BK149 := n3_; have HB := n4_; have HO164 := n5_; clear n0_ n1_ n2_ n3_ n4_ n5_; clear ho hb hg hat; obtain ⟨Ao56, co56, eo56⟩ := Kd.R_slice HO164.out; subst eo56; have hcz57_0 : w54.cell? ⟨gb149, 0, none⟩ = some (.int .i64 x150000_2) := (blk_cell BK149.out 0).trans rfl; have hcz57_1 : w54.cell? ⟨gb149, 1, none⟩ = some (u150001) := (blk_cell BK149.out 1).trans rfl; have hfz57_0 := blk_frozen BK149.out 0; have hfz57_1 := blk_frozen BK149.out 1))
                    go_roundg k2
                    case measure => have := HK1.out; have := HK2.out; omega
                    case rel => exact ⟨(wrap64 (x6_1 + 1)), (x143000_2), (x150000_2), (y162), (.slice Ao56 y162.length co56), (by first | rfl | (simp; done) | (simp [*]; done)), H', ⟨by have := HK1.out; have := HK2.out; omega⟩, ⟨by (with_reducible repeat (first | apply Kd.R_alloc | apply Kd.R_drewN | apply Kd.R_drew)); exact Kd.R_mono (Kd.R_far (p := ⟨gb149, 1, none⟩) (Kd.R_types HO_5.out BK149.out (by decide)) (fun _ hk => hk.2) (.slice Ao56 y162.length co56)) (fun _ hk => trivial)⟩, ⟨by (with_reducible repeat (first | apply Kd.R_alloc | apply Kd.R_drewN | apply Kd.R_drew)); exact Kd.R_mono (Kd.R_far (p := ⟨gb149, 1, none⟩) (Kd.R_types HO164.out BK149.out (by decide)) (fun _ hk => hk.2) (.slice Ao56 y162.length co56)) (fun _ hk => trivial)⟩, ⟨by (with_reducible repeat (first | refine blk_drewN ?_ _ | refine blk_drew ?_ | refine blk_alloc ?_ _)); refine blk_far ?_ NB142_149.out _; (with_reducible repeat (first | refine blk_drewN ?_ _ | refine blk_drew ?_ | refine blk_alloc ?_ _)); exact BK142.out⟩, ⟨by (with_reducible repeat (first | refine blk_drewN ?_ _ | refine blk_drew ?_ | refine blk_alloc ?_ _)); refine blk_put (cs := #[.int .i64 x150000_2, u150001]) ?_ 1 _ rfl; (with_reducible repeat (first | refine blk_drewN ?_ _ | refine blk_drew ?_ | refine blk_alloc ?_ _)); exact BK149.out⟩, ⟨by repeat (first | (with_reducible first | exact HB.out | apply below_alloc | apply pw_below_drewN | apply below_drew1 | refine below_set ?_ GE142.out | refine below_set ?_ GE149.out) | exact HB.out)⟩⟩
                  · rw [if_neg c50] at H
                    exact absurd H (by simp)
        · rw [if_neg c12] at H
          exact absurd H (by simp)
      · rw [if_neg c11] at H
        have c11b0 : decide (x6_1 < (t146.length : Int)) = false := decide_eq_false c11
        clear c11
        replace H := Option.bind_eq_some_iff.mp H
        obtain ⟨t150, A580, H⟩ := H
        replace H : (if t150 = true then (some (x150000_1, x150001_1, 0)) else (some (0, ([] : List (List (List Int))), 6))) = some (r1, r2, r3) := H
        have A58 := Aside0.mk A580
        clear A580
        by_cases c59 : t150 = true
        · subst c59
          have H1 : (some (x150000_1, x150001_1, 0)) = some (r1, r2, r3) := by rw [if_pos rfl] at H; exact H
          clear H
          have H := H1
          clear H1
          simp only [Option.some.injEq, Prod.mk.injEq] at H
          obtain ⟨rfl, rfl, rfl⟩ := H
          obtain ⟨Ao60, co60, eo60⟩ := Kd.R_slice HO_5.out
          subst eo60
          have hnb61 := NB149_142.out
          have hnc61 := NB142_149.out
          have hcz62_0 : wr.cell? ⟨gb149, 0, none⟩ = some (.int .i64 x150000_1) := (blk_cell BK149.out 0).trans rfl
          have hcz62_1 : wr.cell? ⟨gb149, 1, none⟩ = some (u150001) := (blk_cell BK149.out 1).trans rfl
          have hfz62_0 := blk_frozen BK149.out 0
          have hfz62_1 := blk_frozen BK149.out 1
          obtain ⟨Ao63, co63, eo63⟩ := Kd.R_slice HO_150001.out
          subst eo63
          go_wp2_with (first | ((with_reducible refine gate_callee (f := 15) rfl ?_); refine goesL_ (some 83) rfl rfl Tryd.func15 (by kernel_rfl) rfl #[.agg #[.int .i64 x150000_1, .slice Ao63 x150001_1.length co63]] rfl (by (try simp only [List.map_toArray, List.map_cons, List.map_nil]); first | done | rfl | (simp only [List.length_drop, List.length_take]; rfl)) ?_; (with_reducible refine (spec_l02Is.calls k1 x150000_1 _ _ x150001_1 true _ ?side1 ?side2 A58.out).mono ?_); (case side1 => repeat (first | exact (Kd.R_reads' HO_150001.out).2.2 | (with_reducible refine Kd.C_alloc ?_ _) | (with_reducible refine Kd.C_drewN ?_ _) | (with_reducible refine Kd.C_drew ?_))); (case side2 => exact (Kd.R_reads' HO_150001.out).2.1); rintro e w64 ⟨rfl, hb⟩; refine ⟨_, rfl, ?_⟩; have n0_ := Aside0.mk (Kd.R_below (by (with_reducible repeat (first | apply Kd.R_alloc | apply Kd.R_drewN | apply Kd.R_drew)); exact HO_5.out) hb); have n1_ := Aside0.mk (Kd.R_below (by (with_reducible repeat (first | apply Kd.R_alloc | apply Kd.R_drewN | apply Kd.R_drew)); exact HO_150001.out) hb); have n2_ := Aside0.mk (blk_below (g := gb142) (o := .cells #[.int .i64 x143000_1, .slice none 0 0] 24 (0, 0)) (by (with_reducible repeat (first | refine blk_drewN ?_ _ | refine blk_drew ?_ | refine blk_alloc ?_ _)); exact BK142.out) hb); have n3_ := Aside0.mk (blk_below (g := gb149) (o := .cells #[.int .i64 x150000_1, .slice Ao63 x150001_1.length co63] 24 (0, 0)) (by (with_reducible repeat (first | refine blk_drewN ?_ _ | refine blk_drew ?_ | refine blk_alloc ?_ _)); exact BK149.out) hb); have n4_ := Aside0.mk (below_step (by repeat (first | (with_reducible first | exact HB.out | apply below_alloc | apply pw_below_drewN | apply below_drew1 | refine below_set ?_ GE142.out | refine below_set ?_ GE149.out) | exact HB.out)) hb); clear HO_5; clear HO_150001; clear BK142; clear BK149; clear HB; have HO_5 := n0_; have HO_150001 := n1_; have BK142 := n2_; have BK149 := n3_; have HB := n4_; clear n0_ n1_ n2_ n3_ n4_; (try clear hb); (try clear hb2); (try clear hk); (try clear hi); have hcz65_0 : w64.cell? ⟨gb149, 0, none⟩ = some (.int .i64 x150000_1) := (blk_cell BK149.out 0).trans rfl; have hcz65_1 : w64.cell? ⟨gb149, 1, none⟩ = some (.slice Ao63 x150001_1.length co63) := (blk_cell BK149.out 1).trans rfl; have hfz65_0 := blk_frozen BK149.out 0; have hfz65_1 := blk_frozen BK149.out 1; have hcz66_0 : w64.cell? ⟨gb142, 0, none⟩ = some (.int .i64 x143000_1) := (blk_cell BK142.out 0).trans rfl; have hcz66_1 : w64.cell? ⟨gb142, 1, none⟩ = some (.slice none 0 0) := (blk_cell BK142.out 1).trans rfl; have hfz66_0 := blk_frozen BK142.out 0; have hfz66_1 := blk_frozen BK142.out 1))
          refine bodyPost_ret (results_ct rfl _ _ gb142 24 #[.int .i64 x150000_1, .slice Ao63 x150001_1.length co63] (0, 0) _ rfl (by (with_reducible repeat (first | refine blk_drewN ?_ _ | refine blk_drew ?_ | refine blk_alloc ?_ _)); refine blk_put (cs := #[.int .i64 x150000_1, .slice none 0 0]) ?_ 1 _ rfl; (with_reducible repeat (first | refine blk_drewN ?_ _ | refine blk_drew ?_ | refine blk_alloc ?_ _)); refine blk_put (cs := #[.int .i64 x143000_1, .slice none 0 0]) ?_ 0 _ rfl; (with_reducible repeat (first | refine blk_drewN ?_ _ | refine blk_drew ?_ | refine blk_alloc ?_ _)); exact BK142.out) Tryd.underlying24 rfl (by kernel_rfl)) rfl ?_
          exact ⟨_, by first | rfl | (simp [errW_none, errW_some] <;> rfl) | (simp [*, errW_none, errW_some] <;> rfl), by (with_reducible repeat (first | apply Kd.R_alloc | apply Kd.R_drewN | apply Kd.R_drew)); exact Kd.R_mono (Kd.R_far (p := ⟨gb142, 1, none⟩) (Kd.R_far (p := ⟨gb142, 0, none⟩) (Kd.R_types HO_150001.out BK142.out (by decide)) (fun _ hk => hk.2) (.int .i64 x150000_1)) (fun _ hk => hk.2) (.slice Ao63 x150001_1.length co63)) (fun _ hk => trivial), by repeat (first | (with_reducible first | exact HB.out | apply below_alloc | apply pw_below_drewN | apply below_drew1 | refine below_set ?_ GE142.out | refine below_set ?_ GE149.out) | exact HB.out)⟩
        · replace c59 := Bool.eq_false_iff.mpr c59
          subst c59
          have H1 : (some (0, ([] : List (List (List Int))), 6)) = some (r1, r2, r3) := by rw [if_neg (show ¬ (false = true) by decide)] at H; exact H
          clear H
          have H := H1
          clear H1
          simp only [Option.some.injEq, Prod.mk.injEq] at H
          obtain ⟨rfl, rfl, rfl⟩ := H
          obtain ⟨Ao67, co67, eo67⟩ := Kd.R_slice HO_5.out
          subst eo67
          have hnb68 := NB149_142.out
          have hnc68 := NB142_149.out
          have hcz69_0 : wr.cell? ⟨gb149, 0, none⟩ = some (.int .i64 x150000_1) := (blk_cell BK149.out 0).trans rfl
          have hcz69_1 : wr.cell? ⟨gb149, 1, none⟩ = some (u150001) := (blk_cell BK149.out 1).trans rfl
          have hfz69_0 := blk_frozen BK149.out 0
          have hfz69_1 := blk_frozen BK149.out 1
          obtain ⟨Ao70, co70, eo70⟩ := Kd.R_slice HO_150001.out
          subst eo70
          go_wp2_with (first | ((with_reducible refine gate_callee (f := 15) rfl ?_); refine goesL_ (some 83) rfl rfl Tryd.func15 (by kernel_rfl) rfl #[.agg #[.int .i64 x150000_1, .slice Ao70 x150001_1.length co70]] rfl (by (try simp only [List.map_toArray, List.map_cons, List.map_nil]); first | done | rfl | (simp only [List.length_drop, List.length_take]; rfl)) ?_; (with_reducible refine (spec_l02Is.calls k1 x150000_1 _ _ x150001_1 false _ ?side1 ?side2 A58.out).mono ?_); (case side1 => repeat (first | exact (Kd.R_reads' HO_150001.out).2.2 | (with_reducible refine Kd.C_alloc ?_ _) | (with_reducible refine Kd.C_drewN ?_ _) | (with_reducible refine Kd.C_drew ?_))); (case side2 => exact (Kd.R_reads' HO_150001.out).2.1); rintro e w71 ⟨rfl, hb⟩; refine ⟨_, rfl, ?_⟩; have n0_ := Aside0.mk (Kd.R_below (by (with_reducible repeat (first | apply Kd.R_alloc | apply Kd.R_drewN | apply Kd.R_drew)); exact HO_5.out) hb); have n1_ := Aside0.mk (Kd.R_below (by (with_reducible repeat (first | apply Kd.R_alloc | apply Kd.R_drewN | apply Kd.R_drew)); exact HO_150001.out) hb); have n2_ := Aside0.mk (blk_below (g := gb142) (o := .cells #[.int .i64 x143000_1, .slice none 0 0] 24 (0, 0)) (by (with_reducible repeat (first | refine blk_drewN ?_ _ | refine blk_drew ?_ | refine blk_alloc ?_ _)); exact BK142.out) hb); have n3_ := Aside0.mk (blk_below (g := gb149) (o := .cells #[.int .i64 x150000_1, .slice Ao70 x150001_1.length co70] 24 (0, 0)) (by (with_reducible repeat (first | refine blk_drewN ?_ _ | refine blk_drew ?_ | refine blk_alloc ?_ _)); exact BK149.out) hb); have n4_ := Aside0.mk (below_step (by repeat (first | (with_reducible first | exact HB.out | apply below_alloc | apply pw_below_drewN | apply below_drew1 | refine below_set ?_ GE142.out | refine below_set ?_ GE149.out) | exact HB.out)) hb); clear HO_5; clear HO_150001; clear BK142; clear BK149; clear HB; have HO_5 := n0_; have HO_150001 := n1_; have BK142 := n2_; have BK149 := n3_; have HB := n4_; clear n0_ n1_ n2_ n3_ n4_; (try clear hb); (try clear hb2); (try clear hk); (try clear hi); have hcz72_0 : w71.cell? ⟨gb142, 0, none⟩ = some (.int .i64 x143000_1) := (blk_cell BK142.out 0).trans rfl; have hcz72_1 : w71.cell? ⟨gb142, 1, none⟩ = some (.slice none 0 0) := (blk_cell BK142.out 1).trans rfl; have hfz72_0 := blk_frozen BK142.out 0; have hfz72_1 := blk_frozen BK142.out 1))
          refine bodyPost_ret (results_ct rfl _ _ gb142 24 #[.int .i64 0, .slice none 0 0] (0, 0) _ rfl (by (with_reducible repeat (first | refine blk_drewN ?_ _ | refine blk_drew ?_ | refine blk_alloc ?_ _)); refine blk_put (cs := #[.int .i64 0, .slice none 0 0]) ?_ 1 _ rfl; (with_reducible repeat (first | refine blk_drewN ?_ _ | refine blk_drew ?_ | refine blk_alloc ?_ _)); refine blk_put (cs := #[.int .i64 x143000_1, .slice none 0 0]) ?_ 0 _ rfl; (with_reducible repeat (first | refine blk_drewN ?_ _ | refine blk_drew ?_ | refine blk_alloc ?_ _)); exact BK142.out) Tryd.underlying24 rfl (by kernel_rfl)) rfl ?_
          exact ⟨_, by first | rfl | (simp [errW_none, errW_some] <;> rfl) | (simp [*, errW_none, errW_some] <;> rfl), by first | exact Kd.R_nil _ _ _ _ _ | exact Kd.N_nil _ _ _ _ _ | exact Kd.V_nil _ _ _ _ _ | exact Kd.Q_nil _ _ _ _ _ | exact Kd.S_nil _ _ _ _ _, by repeat (first | (with_reducible first | exact HB.out | apply below_alloc | apply pw_below_drewN | apply below_drew1 | refine below_set ?_ GE142.out | refine below_set ?_ GE149.out) | exact HB.out)⟩

end Go.Proofs.YtfcafnnpejngiaaDoor.PX

/- The degrees of a sprouts position, as the reference and the program reckon them (no condition but sizes that fit). -/
namespace Go.Proofs.YtfcafnnpejngiaaDoor.PX
open Go.RowKit Go.Proofs.YtfcafnnpejngiaaDoorW.PrintWords Go.Proofs.YtfcafnnpejngiaaDoorW.PrintLast Go.Proofs.YtfcafnnpejngiaaDoorW.PrintMore
attribute [local go_sem] max2_int min2_int max_two min_two max_three min_three max_four min_four
set_option linter.unusedVariables false
set_option linter.unusedSimpArgs false
def stepB (n : Int) (b : List Int) : List Int → List Int × List Bool → Option (List Int × List Bool)
  | [], s => some s
  | x :: t, s => if 0 ≤ x ∧ x ≤ n - 1 then stepB n b t (s.1.set x.toNat (wrap64 (s.1.getD x.toNat 0 + 1)), s.2.set x.toNat (if s.2.getD x.toNat false = true then true else (b.length : Int) == 1)) else none
def allB (n : Int) : List (List Int) → List Int × List Bool → Option (List Int × List Bool)
  | [], s => some s
  | b :: t, s => if b = [] then none else (stepB n b b s).bind (allB n t)
def finB (al : List Bool) : Nat → Nat → List Int → Option (List Int)
  | 0, _, c => some c
  | d + 1, i, c => if c.getD i 0 < 1 ∨ c.getD i 0 > 3 ∨ (al.getD i false = true ∧ c.getD i 0 > 1) then none else if al.getD i false = true then finB al d (i + 1) (c.set i 0) else finB al d (i + 1) c
def pairOf : Option (List Int) → List Int × Bool
  | none => ([], false)
  | some c => (c, true)
theorem stepB_len (n : Int) (b : List Int) : ∀ (l : List Int) (s s' : List Int × List Bool), stepB n b l s = some s' → s'.1.length = s.1.length ∧ s'.2.length = s.2.length
  | [], s, s', h => by
    simp only [stepB, Option.some.injEq] at h
    subst h
    exact ⟨rfl, rfl⟩
  | x :: t, s, s', h => by
    unfold stepB at h
    by_cases c : 0 ≤ x ∧ x ≤ n - 1
    · rw [if_pos c] at h
      have := stepB_len n b t _ s' h
      simpa using this
    · rw [if_neg c] at h
      cases h
theorem in_eq (a b c : Int) : spec_l01In.f a b c = some (decide (b ≤ a) && decide (a ≤ c)) := by
  unfold spec_l01In.f
  by_cases h : b ≤ a
  · rw [if_pos (show a ≥ b from h), decide_eq_true h, Bool.true_and]
  · rw [if_neg (show ¬ a ≥ b from h), decide_eq_false h, Bool.false_and]
theorem within_eq (a b c : Int) : impl_within.f a b c = some (decide (b ≤ a) && decide (a ≤ c)) := by
  unfold impl_within.f
  by_cases h : b ≤ a
  · rw [if_pos h, decide_eq_true h, Bool.true_and]
  · rw [if_neg h, decide_eq_false h, Bool.false_and]
theorem rdOf_b (xs : List Bool) (i : Nat) : rdOf false xs (i : Int) = xs.getD i false := by unfold rdOf; rfl
theorem rdL2_nat (xs : List (List (List Int))) (i : Nat) : rd_L3 xs (i : Int) = xs.getD i [] := by unfold rd_L3; rfl
section
variable {n : Int} {R : List (List (List Int))}
set_option maxHeartbeats 4000000 in
theorem spec_in (hn : 1 ≤ n ∧ n ≤ 20) (b : List Int) (hb : b.length < 4611686018427387904) (x6 x7 : Int) (res : List Int × Bool) : ∀ (d i : Nat) (s : List Int × List Bool), i + d = b.length → s.1.length = n.toNat → s.2.length = n.toNat →
    (∀ s', stepB n b (b.drop i) s = some s' → Ev (fun k => spec_l02Degrees.l1 k s'.1 s'.2 x6 (wrap64 (x7 + 1)) n R) res) → (stepB n b (b.drop i) s = none → res = ([], false)) →
    Ev (fun k => spec_l02Degrees.l2 k s.1 s.2 x6 x7 b (i : Int) n R) res
  | 0, i, s, hd, h1, h2, hk, hf => by
    rw [List.drop_of_length_le (by omega)] at hk
    refine Ev.step (fun k => ?_) (hk s rfl)
    rw [spec_l02Degrees.l2, if_neg (by omega)]
  | d + 1, i, s, hd, h1, h2, hk, hf => by
    obtain ⟨x, hx⟩ := get_some (xs := b) (i := i) (by omega)
    have er : rd b (i : Int) = x := by rw [rd_nat, getD_of hx]
    have a1 : (i : Int) < (b.length : Int) := by omega
    have a0 : (0 : Int) ≤ (i : Int) := Int.natCast_nonneg i
    have hw : wrap64 (n - 1) = n - 1 := wrapS (by omega) (by omega)
    have hw2 : wrap64 ((i : Int) + 1) = ((i + 1 : Nat) : Int) := by rw [wrapS (by omega) (by omega), cast_succ]
    rw [drop_of hx] at hk hf
    unfold stepB at hk hf
    by_cases c : 0 ≤ x ∧ x ≤ n - 1
    · rw [if_pos c] at hk hf
      obtain ⟨m, rfl⟩ : ∃ m : Nat, x = (m : Int) := ⟨x.toNat, by omega⟩
      have hcb : (decide ((0 : Int) ≤ (m : Int)) && decide ((m : Int) ≤ n - 1)) = true := by rw [decide_eq_true c.1, decide_eq_true c.2]; rfl
      rw [Int.toNat_natCast] at hk hf
      have ih := spec_in hn b hb x6 x7 res d (i + 1) (s.1.set m (wrap64 (s.1.getD m 0 + 1)), s.2.set m (if s.2.getD m false = true then true else (b.length : Int) == 1)) (by omega) (by simp [h1]) (by simp [h2]) hk hf
      refine Ev.step (fun k => ?_) ih
      rw [spec_l02Degrees.l2, if_pos (by omega), if_pos (by omega), er, in_eq, hw, Option.bind_some, if_pos hcb, if_pos (by omega), if_pos (by omega), Option.bind_some, if_pos (by omega), rdOf_b, rd_nat, Int.toNat_natCast, hw2]
      by_cases e : s.2.getD m false = true
      · rw [if_pos e, if_pos e]
      · rw [if_neg e, if_neg e]
    · rw [if_neg c] at hf
      rw [hf rfl]
      have hcb : ¬ (decide ((0 : Int) ≤ x) && decide (x ≤ n - 1)) = true := by
        simp only [Bool.and_eq_true, decide_eq_true_eq]; exact c
      refine Ev.step (f := fun _ => some ([], false)) (fun k => ?_) (Ev.now _)
      rw [spec_l02Degrees.l2, if_pos a1, if_pos a0, er, in_eq, hw, Option.bind_some, if_neg hcb]
set_option maxHeartbeats 4000000 in
theorem impl_in (hn : 1 ≤ n ∧ n ≤ 20) (b : List Int) (hb : b.length < 4611686018427387904) (C : List (List Int)) (x31 x32 : Int) (res : List Int × Bool) : ∀ (d i : Nat) (s : List Int × List Bool), i + d = b.length → s.1.length = n.toNat → s.2.length = n.toNat →
    (∀ s', stepB n b (b.drop i) s = some s' → Ev (fun k => if (b.length : Int) = 0 then some ([], false) else impl_Sprouts_degrees.l0 k s'.1 s'.2 C x31 (wrap64 (x32 + 1)) n R) res) → (stepB n b (b.drop i) s = none → res = ([], false)) →
    Ev (fun k => impl_Sprouts_degrees.l1 k s.1 s.2 b C x31 x32 b (b.length : Int) (i : Int) n R) res
  | 0, i, s, hd, h1, h2, hk, hf => by
    rw [List.drop_of_length_le (by omega)] at hk
    refine Ev.step (fun k => ?_) (hk s rfl)
    rw [impl_Sprouts_degrees.l1, if_neg (by omega)]
  | d + 1, i, s, hd, h1, h2, hk, hf => by
    obtain ⟨x, hx⟩ := get_some (xs := b) (i := i) (by omega)
    have er : rd b (i : Int) = x := by rw [rd_nat, getD_of hx]
    have a1 : (i : Int) < (b.length : Int) := by omega
    have a0 : (0 : Int) ≤ (i : Int) := Int.natCast_nonneg i
    have hw : wrap64 (n - 1) = n - 1 := wrapS (by omega) (by omega)
    have hw2 : wrap64 ((i : Int) + 1) = ((i + 1 : Nat) : Int) := by rw [wrapS (by omega) (by omega), cast_succ]
    rw [drop_of hx] at hk hf
    unfold stepB at hk hf
    by_cases c : 0 ≤ x ∧ x ≤ n - 1
    · rw [if_pos c] at hk hf
      obtain ⟨m, rfl⟩ : ∃ m : Nat, x = (m : Int) := ⟨x.toNat, by omega⟩
      have hcb : (decide ((0 : Int) ≤ (m : Int)) && decide ((m : Int) ≤ n - 1)) = true := by rw [decide_eq_true c.1, decide_eq_true c.2]; rfl
      rw [Int.toNat_natCast] at hk hf
      have ih := impl_in hn b hb C x31 x32 res d (i + 1) (s.1.set m (wrap64 (s.1.getD m 0 + 1)), s.2.set m (if s.2.getD m false = true then true else (b.length : Int) == 1)) (by omega) (by simp [h1]) (by simp [h2]) hk hf
      refine Ev.step (fun k => ?_) ih
      rw [impl_Sprouts_degrees.l1, if_pos (by omega), if_pos (by omega), if_pos (by omega), er, within_eq, hw, Option.bind_some, if_pos hcb, if_pos (by omega), if_pos (by omega), Option.bind_some, if_pos (by omega), rdOf_b, rd_nat, Int.toNat_natCast, hw2]
      by_cases e : s.2.getD m false = true
      · rw [if_pos e, if_pos e]
      · rw [if_neg e, if_neg e]
    · rw [if_neg c] at hf
      rw [hf rfl]
      have hcb : ¬ (decide ((0 : Int) ≤ x) && decide (x ≤ n - 1)) = true := by
        simp only [Bool.and_eq_true, decide_eq_true_eq]; exact c
      refine Ev.step (f := fun _ => some ([], false)) (fun k => ?_) (Ev.now _)
      rw [impl_Sprouts_degrees.l1, if_pos a1, if_pos a0, if_pos a1, er, within_eq, hw, Option.bind_some, if_neg hcb]
theorem allB_app (n : Int) : ∀ (a b : List (List Int)) (s : List Int × List Bool), allB n (a ++ b) s = (allB n a s).bind (allB n b)
  | [], b, s => rfl
  | x :: a, b, s => by
    rw [List.cons_append]
    unfold allB
    by_cases c : x = []
    · rw [if_pos c, if_pos c]; rfl
    · rw [if_neg c, if_neg c]
      cases stepB n x x s with
      | none => rfl
      | some s' => exact allB_app n a b s'
theorem allB_len (n : Int) : ∀ (l : List (List Int)) (s s' : List Int × List Bool), allB n l s = some s' → s'.1.length = s.1.length ∧ s'.2.length = s.2.length
  | [], s, s', h => by
    simp only [allB, Option.some.injEq] at h
    subst h
    exact ⟨rfl, rfl⟩
  | b :: l, s, s', h => by
    unfold allB at h
    by_cases c : b = []
    · rw [if_pos c] at h; cases h
    · rw [if_neg c] at h
      obtain ⟨s1, h1, h2⟩ := Option.bind_eq_some_iff.1 h
      have e1 := stepB_len n b b s s1 h1
      have e2 := allB_len n l s1 s' h2
      exact ⟨e2.1.trans e1.1, e2.2.trans e1.2⟩
set_option maxHeartbeats 4000000 in
theorem spec_reg (hn : 1 ≤ n ∧ n ≤ 20) (hR : ∀ g ∈ R, g.length < 4611686018427387904 ∧ ∀ b ∈ g, b.length < 4611686018427387904) (hL : R.length < 4611686018427387904) (r : Nat) (g : List (List Int)) (hg : R[r]? = some g) (res : List Int × Bool) : ∀ (d j : Nat) (s : List Int × List Bool), j + d = g.length → s.1.length = n.toNat → s.2.length = n.toNat →
    (∀ s', allB n (g.drop j) s = some s' → Ev (fun k => spec_l02Degrees.l0 k s'.1 s'.2 ((r + 1 : Nat) : Int) n R) res) → (allB n (g.drop j) s = none → res = ([], false)) →
    Ev (fun k => spec_l02Degrees.l1 k s.1 s.2 (r : Int) (j : Int) n R) res
  | 0, j, s, hd, h1, h2, hk, hf => by
    have hr : r < R.length := (List.getElem?_eq_some_iff.1 hg).1
    rw [List.drop_of_length_le (by omega)] at hk
    refine Ev.step (fun k => ?_) (hk s rfl)
    rw [spec_l02Degrees.l1, if_pos (by omega), if_pos (by omega), rdL2_nat, getD_of hg, if_neg (by omega), wrapS (i := (r : Int) + 1) (by omega) (by omega), cast_succ]
  | d + 1, j, s, hd, h1, h2, hk, hf => by
    have hr : r < R.length := (List.getElem?_eq_some_iff.1 hg).1
    have hgR := hR g (List.mem_of_getElem? hg)
    obtain ⟨b, hb⟩ := get_some (xs := g) (i := j) (by omega)
    have hbl := hgR.2 b (List.mem_of_getElem? hb)
    have er : rd_L2 g (j : Int) = b := by rw [rdL1_nat, getD_of hb]
    rw [drop_of hb] at hk hf
    unfold allB at hk hf
    by_cases c : b = []
    · subst c
      rw [if_pos rfl] at hf
      rw [hf rfl]
      refine Ev.step (f := fun _ => some ([], false)) (fun k => ?_) (Ev.now _)
      rw [spec_l02Degrees.l1, if_pos (by omega), if_pos (by omega), rdL2_nat, getD_of hg, if_pos (by omega), if_pos (by omega), er, if_pos (by simp)]
    · rw [if_neg c] at hk hf
      have hpos : 0 < b.length := List.length_pos_iff.2 c
      have hin := spec_in (R := R) hn b hbl (r : Int) (j : Int) res b.length 0 s (by omega) h1 h2 (fun s' hs' => by
        rw [List.drop_zero] at hs'
        have hl := stepB_len n b b s s' hs'
        rw [hs'] at hk hf
        rw [wrapS (i := (j : Int) + 1) (by omega) (by omega), cast_succ]
        exact spec_reg hn hR hL r g hg res d (j + 1) s' (by omega) (hl.1.trans h1) (hl.2.trans h2) hk hf) (fun hs' => by
        rw [List.drop_zero] at hs'
        rw [hs'] at hf
        exact hf rfl)
      refine Ev.step (fun k => ?_) hin
      rw [spec_l02Degrees.l1, if_pos (by omega), if_pos (by omega), rdL2_nat, getD_of hg, if_pos (by omega), if_pos (by omega), er, if_neg (by omega)]
      rfl
set_option maxHeartbeats 4000000 in
theorem spec_regs (hn : 1 ≤ n ∧ n ≤ 20) (hR : ∀ g ∈ R, g.length < 4611686018427387904 ∧ ∀ b ∈ g, b.length < 4611686018427387904) (hL : R.length < 4611686018427387904) (res : List Int × Bool) : ∀ (d r : Nat) (s : List Int × List Bool), r + d = R.length → s.1.length = n.toNat → s.2.length = n.toNat →
    (∀ s', allB n (R.drop r).flatten s = some s' → Ev (fun k => spec_l02Degrees.l3 k s'.1 s'.2 0) res) → (allB n (R.drop r).flatten s = none → res = ([], false)) →
    Ev (fun k => spec_l02Degrees.l0 k s.1 s.2 (r : Int) n R) res
  | 0, r, s, hd, h1, h2, hk, hf => by
    rw [List.drop_of_length_le (by omega)] at hk
    refine Ev.step (fun k => ?_) (hk s rfl)
    rw [spec_l02Degrees.l0, if_neg (by omega)]
  | d + 1, r, s, hd, h1, h2, hk, hf => by
    obtain ⟨g, hg⟩ := get_some (xs := R) (i := r) (by omega)
    rw [drop_of hg, List.flatten_cons, allB_app] at hk hf
    have hin := spec_reg hn hR hL r g hg res g.length 0 s (by omega) h1 h2 (fun s' hs' => by
      rw [List.drop_zero] at hs'
      have hl := allB_len n g s s' hs'
      rw [hs'] at hk hf
      exact spec_regs hn hR hL res d (r + 1) s' (by omega) (hl.1.trans h1) (hl.2.trans h2) hk hf) (fun hs' => by
      rw [List.drop_zero] at hs'
      rw [hs'] at hf
      exact hf rfl)
    refine Ev.step (fun k => ?_) hin
    rw [spec_l02Degrees.l0, if_pos (by omega)]
    rfl
set_option maxHeartbeats 4000000 in
theorem impl_regs (hn : 1 ≤ n ∧ n ≤ 20) (C : List (List Int)) (hC : ∀ b ∈ C, b.length < 4611686018427387904) (hL : C.length < 4611686018427387904) (res : List Int × Bool) : ∀ (d i : Nat) (s : List Int × List Bool), i + d = C.length → s.1.length = n.toNat → s.2.length = n.toNat →
    (∀ s', allB n (C.drop i) s = some s' → Ev (fun k => impl_Sprouts_degrees.l2 k s'.1 s'.2 (s'.1.length : Int) 0) res) → (allB n (C.drop i) s = none → res = ([], false)) →
    Ev (fun k => impl_Sprouts_degrees.l0 k s.1 s.2 C (C.length : Int) (i : Int) n R) res
  | 0, i, s, hd, h1, h2, hk, hf => by
    rw [List.drop_of_length_le (by omega)] at hk
    refine Ev.step (fun k => ?_) (hk s rfl)
    rw [impl_Sprouts_degrees.l0, if_neg (by omega)]
  | d + 1, i, s, hd, h1, h2, hk, hf => by
    obtain ⟨b, hb⟩ := get_some (xs := C) (i := i) (by omega)
    have hbl := hC b (List.mem_of_getElem? hb)
    have er : rd_L2 C (i : Int) = b := by rw [rdL1_nat, getD_of hb]
    rw [drop_of hb] at hk hf
    unfold allB at hk hf
    have hin : Ev (fun k => impl_Sprouts_degrees.l1 k s.1 s.2 b C (C.length : Int) (i : Int) b (b.length : Int) 0 n R) res := impl_in (R := R) hn b hbl C (C.length : Int) (i : Int) res b.length 0 s (by omega) h1 h2 (fun s' hs' => by
        rw [List.drop_zero] at hs'
        have hl := stepB_len n b b s s' hs'
        by_cases c : b = []
        · subst c
          rw [if_pos rfl] at hf
          rw [hf rfl]
          exact Ev.congr (f := fun _ => some ([], false)) (fun k => by rw [if_pos (by simp)]) (Ev.now _)
        · have hpos : 0 < b.length := List.length_pos_iff.2 c
          rw [if_neg c, hs'] at hk hf
          refine Ev.congr (fun k => by rw [if_neg (by omega), wrapS (i := (i : Int) + 1) (by omega) (by omega), cast_succ]) (impl_regs hn C hC hL res d (i + 1) s' (by omega) (hl.1.trans h1) (hl.2.trans h2) hk hf)) (fun hs' => by
        rw [List.drop_zero] at hs'
        by_cases c : b = []
        · rw [if_pos c] at hf
          exact hf rfl
        · rw [if_neg c, hs'] at hf
          exact hf rfl)
    refine Ev.step (fun k => ?_) hin
    rw [impl_Sprouts_degrees.l0, if_pos (by omega), if_pos (by omega), if_pos (by omega), er]
end
set_option maxHeartbeats 4000000 in
theorem spec_fin (al : List Bool) : ∀ (d i : Nat) (c : List Int), i + d = c.length → al.length = c.length → c.length ≤ 20 → Ev (fun k => spec_l02Degrees.l3 k c al (i : Int)) (pairOf (finB al d i c))
  | 0, i, c, hd, ha, hc => by
    refine Ev.step (f := fun _ => some (c, true)) (fun k => ?_) (Ev.now _)
    rw [spec_l02Degrees.l3, if_neg (by omega)]
  | d + 1, i, c, hd, ha, hc => by
    have hw : wrap64 ((i : Int) + 1) = ((i + 1 : Nat) : Int) := by rw [wrapS (by omega) (by omega), cast_succ]
    have bad : ∀ k, spec_l02Degrees.j5 (k + 1) c al (i : Int) true = some ([], false) := fun k => by rw [spec_l02Degrees.j5, if_pos rfl]
    unfold finB
    by_cases q : c.getD i 0 < 1 ∨ c.getD i 0 > 3 ∨ (al.getD i false = true ∧ c.getD i 0 > 1)
    · rw [if_pos q]
      refine Ev.step (f := fun k => spec_l02Degrees.j5 k c al (i : Int) true) (fun k => ?_) (Ev.step (f := fun _ => some ([], false)) bad (Ev.now _))
      rw [spec_l02Degrees.l3, if_pos (by omega), if_pos (by omega), rd_nat, rdOf_b]
      by_cases q1 : c.getD i 0 < 1
      · rw [if_pos q1]
      · rw [if_neg q1]
        by_cases q2 : c.getD i 0 > 3
        · rw [if_pos q2]
        · rw [if_neg q2, if_pos (by omega)]
          have q3 := (q.resolve_left q1).resolve_left q2
          rw [if_pos q3.1, decide_eq_true q3.2]
    · rw [if_neg q]
      have q1 : ¬ c.getD i 0 < 1 := fun h => q (Or.inl h)
      have q2 : ¬ c.getD i 0 > 3 := fun h => q (Or.inr (Or.inl h))
      have e1 : ∀ k, spec_l02Degrees.l3 (k + 1) c al (i : Int) = spec_l02Degrees.j5 k c al (i : Int) false := fun k => by
        rw [spec_l02Degrees.l3, if_pos (by omega), if_pos (by omega), rd_nat, rdOf_b, if_neg q1, if_neg q2, if_pos (by omega)]
        by_cases a : al.getD i false = true
        · rw [if_pos a, decide_eq_false (fun h => q (Or.inr (Or.inr ⟨a, h⟩)))]
        · rw [if_neg a]
      refine Ev.step e1 ?_
      by_cases a : al.getD i false = true
      · rw [if_pos a]
        refine Ev.step (fun k => ?_) (spec_fin al d (i + 1) (c.set i 0) (by rw [List.length_set]; omega) (by rw [List.length_set]; exact ha) (by rw [List.length_set]; exact hc))
        rw [spec_l02Degrees.j5, if_neg (by decide), if_pos (by omega), if_pos (by omega), rdOf_b, if_pos a, if_pos (by omega), Int.toNat_natCast, hw]
      · rw [if_neg a]
        refine Ev.step (fun k => ?_) (spec_fin al d (i + 1) c (by omega) ha hc)
        rw [spec_l02Degrees.j5, if_neg (by decide), if_pos (by omega), if_pos (by omega), rdOf_b, if_neg a, hw]
set_option maxHeartbeats 4000000 in
theorem impl_fin (al : List Bool) : ∀ (d i : Nat) (c : List Int), i + d = c.length → al.length = c.length → c.length ≤ 20 → Ev (fun k => impl_Sprouts_degrees.l2 k c al (c.length : Int) (i : Int)) (pairOf (finB al d i c))
  | 0, i, c, hd, ha, hc => by
    refine Ev.step (f := fun _ => some (c, true)) (fun k => ?_) (Ev.now _)
    rw [impl_Sprouts_degrees.l2, if_neg (by omega)]
  | d + 1, i, c, hd, ha, hc => by
    have hw : wrap64 ((i : Int) + 1) = ((i + 1 : Nat) : Int) := by rw [wrapS (by omega) (by omega), cast_succ]
    have bad : ∀ k, impl_Sprouts_degrees.j4 (k + 1) c al (i : Int) (c.length : Int) (i : Int) true = some ([], false) := fun k => by rw [impl_Sprouts_degrees.j4, if_pos rfl]
    unfold finB
    by_cases q : c.getD i 0 < 1 ∨ c.getD i 0 > 3 ∨ (al.getD i false = true ∧ c.getD i 0 > 1)
    · rw [if_pos q]
      refine Ev.step (f := fun k => impl_Sprouts_degrees.j4 k c al (i : Int) (c.length : Int) (i : Int) true) (fun k => ?_) (Ev.step (f := fun _ => some ([], false)) bad (Ev.now _))
      rw [impl_Sprouts_degrees.l2, if_pos (by omega), if_pos (by omega), if_pos (by omega), rd_nat, rdOf_b, within_eq, Option.bind_some]
      by_cases q1 : (decide ((1 : Int) ≤ c.getD i 0) && decide (c.getD i 0 ≤ 3)) = true
      · rw [if_pos q1, if_pos (by omega)]
        have q2 : 1 ≤ c.getD i 0 ∧ c.getD i 0 ≤ 3 := by simpa only [Bool.and_eq_true, decide_eq_true_eq] using q1
        have q3 := (q.resolve_left (by omega)).resolve_left (by omega)
        rw [if_pos q3.1, decide_eq_true q3.2]
      · rw [if_neg q1]
    · rw [if_neg q]
      have q1 : (decide ((1 : Int) ≤ c.getD i 0) && decide (c.getD i 0 ≤ 3)) = true := by
        rw [decide_eq_true (show (1 : Int) ≤ c.getD i 0 by have : ¬ c.getD i 0 < 1 := fun h => q (Or.inl h)
                                                           omega), decide_eq_true (show c.getD i 0 ≤ 3 by have : ¬ c.getD i 0 > 3 := fun h => q (Or.inr (Or.inl h))
                                                                                                          omega)]
        rfl
      have e1 : ∀ k, impl_Sprouts_degrees.l2 (k + 1) c al (c.length : Int) (i : Int) = impl_Sprouts_degrees.j4 k c al (i : Int) (c.length : Int) (i : Int) false := fun k => by
        rw [impl_Sprouts_degrees.l2, if_pos (by omega), if_pos (by omega), if_pos (by omega), rd_nat, rdOf_b, within_eq, Option.bind_some, if_pos q1, if_pos (by omega)]
        by_cases a : al.getD i false = true
        · rw [if_pos a, decide_eq_false (fun h => q (Or.inr (Or.inr ⟨a, h⟩)))]
        · rw [if_neg a]
      refine Ev.step e1 ?_
      by_cases a : al.getD i false = true
      · rw [if_pos a]
        have ih := impl_fin al d (i + 1) (c.set i 0) (by rw [List.length_set]; omega) (by rw [List.length_set]; exact ha) (by rw [List.length_set]; exact hc)
        rw [List.length_set] at ih
        refine Ev.step (fun k => ?_) ih
        rw [impl_Sprouts_degrees.j4, if_neg (by decide), if_pos (by omega), if_pos (by omega), rdOf_b, if_pos a, if_pos (by omega), Int.toNat_natCast, hw]
      · rw [if_neg a]
        refine Ev.step (fun k => ?_) (impl_fin al d (i + 1) c (by omega) ha hc)
        rw [impl_Sprouts_degrees.j4, if_neg (by decide), if_pos (by omega), if_pos (by omega), rdOf_b, if_neg a, hw]

end Go.Proofs.YtfcafnnpejngiaaDoor.PX

/- The degrees of a sprouts position: both sides, whole (no condition but sizes that fit). -/
namespace Go.Proofs.YtfcafnnpejngiaaDoor.PX
open Go.RowKit Go.Proofs.YtfcafnnpejngiaaDoorW.PrintWords Go.Proofs.YtfcafnnpejngiaaDoorW.PrintLast Go.Proofs.YtfcafnnpejngiaaDoorW.PrintMore
attribute [local go_sem] max2_int min2_int max_two min_two max_three min_three max_four min_four
set_option linter.unusedVariables false
set_option linter.unusedSimpArgs false
theorem con_app (R : List (List (List Int))) (hL : R.length < 4611686018427387904) : ∀ (d i : Nat) (acc : List (List Int)), i + d = R.length → acc.length + (R.drop i).flatten.length ≤ 1000000000 → Ev (fun k => slices_Concat_int64_int64.l1 k acc R (R.length : Int) (i : Int)) (acc ++ (R.drop i).flatten)
  | 0, i, acc, hd, ha => by
    rw [List.drop_of_length_le (by omega), List.flatten_nil, List.append_nil]
    refine Ev.step (f := fun _ => some acc) (fun k => ?_) (Ev.now _)
    rw [slices_Concat_int64_int64.l1, if_neg (by omega)]
  | d + 1, i, acc, hd, ha => by
    obtain ⟨g, hg⟩ := get_some (xs := R) (i := i) (by omega)
    rw [drop_of hg, List.flatten_cons] at ha ⊢
    rw [List.length_append] at ha
    have ih := con_app R hL d (i + 1) (acc ++ g) (by omega) (by rw [List.length_append]; omega)
    rw [List.append_assoc] at ih
    refine Ev.step (fun k => ?_) ih
    rw [slices_Concat_int64_int64.l1, if_pos (by omega), if_pos (by omega), if_pos (by omega), rdL2_nat, getD_of hg, if_pos (by omega), wrapS (i := (i : Int) + 1) (by omega) (by omega), cast_succ]
theorem con_sum (R : List (List (List Int))) (hL : R.length < 4611686018427387904) (hT : R.flatten.length ≤ 1000000000) : ∀ (d i : Nat) (x : Int), i + d = R.length → 0 ≤ x → x + ((R.drop i).flatten.length : Int) ≤ 1000000000 → Ev (fun k => slices_Concat_int64_int64.l0 k R x R (R.length : Int) (i : Int)) R.flatten
  | 0, i, x, hd, h0, h1 => by
    have h := con_app R hL R.length 0 [] (by omega) (by rw [List.drop_zero, List.length_nil]; omega)
    rw [List.drop_zero, List.nil_append] at h
    refine Ev.step (fun k => ?_) h
    rw [slices_Concat_int64_int64.l0, if_neg (by omega), if_pos h0, if_pos (by omega)]
    rfl
  | d + 1, i, x, hd, h0, h1 => by
    obtain ⟨g, hg⟩ := get_some (xs := R) (i := i) (by omega)
    rw [drop_of hg, List.flatten_cons, List.length_append] at h1
    have ih := con_sum R hL hT d (i + 1) (x + (g.length : Int)) (by omega) (by omega) (by omega)
    refine Ev.step (fun k => ?_) ih
    rw [slices_Concat_int64_int64.l0, if_pos (by omega), if_pos (by omega), if_pos (by omega), rdL2_nat, getD_of hg, wrapS (i := x + (g.length : Int)) (by omega) (by omega), if_neg (by omega), wrapS (i := (i : Int) + 1) (by omega) (by omega), cast_succ]
theorem concat_ev (R : List (List (List Int))) (hL : R.length < 4611686018427387904) (hT : R.flatten.length ≤ 1000000000) : Ev (fun k => slices_Concat_int64_int64.f k R) R.flatten :=
  con_sum R hL hT R.length 0 0 (by omega) (by omega) (by rw [List.drop_zero]; omega)
def degOf (n : Int) (R : List (List (List Int))) : Option (List Int) := if (1 ≤ n ∧ n ≤ 20) ∧ R ≠ [] then (allB n R.flatten (List.replicate n.toNat 0, List.replicate n.toNat false)).bind (fun s => finB s.2 n.toNat 0 s.1) else none
theorem specDeg_ev (n : Int) (R : List (List (List Int))) (hR : ∀ g ∈ R, g.length < 4611686018427387904 ∧ ∀ b ∈ g, b.length < 4611686018427387904) (hL : R.length < 4611686018427387904) : Ev (fun k => spec_l02Degrees.f k n R) (pairOf (degOf n R)) := by
  have bad : ∀ b, b = true → Ev (fun k => spec_l02Degrees.j0 k b n R) ([], false) := fun b hb => by
    subst hb
    exact Ev.step (f := fun _ => some ([], false)) (fun k => by rw [spec_l02Degrees.j0, if_pos rfl]) (Ev.now _)
  unfold spec_l02Degrees.f degOf
  rw [in_eq]
  by_cases c : 1 ≤ n ∧ n ≤ 20
  · have cb : (decide ((1 : Int) ≤ n) && decide (n ≤ 20)) = true := by rw [decide_eq_true c.1, decide_eq_true c.2]; rfl
    refine Ev.congr (fun k => by rw [Option.bind_some, if_pos cb]) ?_
    by_cases e : R = []
    · rw [if_neg (fun h => h.2 e)]
      exact bad _ (by rw [e]; rfl)
    · rw [if_pos ⟨c, e⟩, decide_eq_false (show ¬ (R.length : Int) < 1 by have := List.length_pos_iff.2 e; omega)]
      have h := spec_regs c hR hL (pairOf ((allB n R.flatten (List.replicate n.toNat 0, List.replicate n.toNat false)).bind (fun s => finB s.2 n.toNat 0 s.1))) R.length 0 (List.replicate n.toNat 0, List.replicate n.toNat false) (by omega) (by simp) (by simp) (fun s' hs' => by
        rw [List.drop_zero] at hs'
        have hl := allB_len n _ _ s' hs'
        simp only [List.length_replicate] at hl
        rw [hs', Option.bind_some]
        have := spec_fin s'.2 s'.1.length 0 s'.1 (by omega) (by omega) (by omega)
        rw [hl.1] at this
        exact this) (fun hs' => by rw [List.drop_zero] at hs'; rw [hs']; rfl)
      refine Ev.step (fun k => ?_) h
      rw [spec_l02Degrees.j0, if_neg (by decide), if_pos (by omega), if_pos (by omega), if_pos (by omega)]
      rfl
  · rw [if_neg (fun h => c h.1)]
    have cb : ¬ (decide ((1 : Int) ≤ n) && decide (n ≤ 20)) = true := by simp only [Bool.and_eq_true, decide_eq_true_eq]; exact c
    exact Ev.congr (fun k => by rw [Option.bind_some, if_neg cb]) (bad true rfl)
theorem implDeg_ev (n : Int) (R : List (List (List Int))) (hR : ∀ g ∈ R, ∀ b ∈ g, b.length < 4611686018427387904) (hL : R.length < 4611686018427387904) (hT : R.flatten.length ≤ 1000000000) : Ev (fun k => impl_Sprouts_degrees.f k n R) (pairOf (degOf n R)) := by
  have bad : ∀ b, b = true → Ev (fun k => impl_Sprouts_degrees.j0 k b n R) ([], false) := fun b hb => by
    subst hb
    exact Ev.step (f := fun _ => some ([], false)) (fun k => by rw [impl_Sprouts_degrees.j0, if_pos rfl]) (Ev.now _)
  unfold impl_Sprouts_degrees.f degOf
  rw [within_eq]
  by_cases c : 1 ≤ n ∧ n ≤ 20
  · have cb : (decide ((1 : Int) ≤ n) && decide (n ≤ 20)) = true := by rw [decide_eq_true c.1, decide_eq_true c.2]; rfl
    refine Ev.congr (fun k => by rw [Option.bind_some, if_pos cb]) ?_
    by_cases e : R = []
    · rw [if_neg (fun h => h.2 e)]
      exact bad _ (by rw [e]; rfl)
    · have e2 : ((R.length : Int) == 0) = false := beq_eq_false_iff_ne.2 (by have := List.length_pos_iff.2 e; omega)
      rw [if_pos ⟨c, e⟩, e2]
      have h := impl_regs (R := R) c R.flatten (fun b hb => by obtain ⟨g, hg, hbg⟩ := List.mem_flatten.1 hb; exact hR g hg b hbg) (by omega) (pairOf ((allB n R.flatten (List.replicate n.toNat 0, List.replicate n.toNat false)).bind (fun s => finB s.2 n.toNat 0 s.1))) R.flatten.length 0 (List.replicate n.toNat 0, List.replicate n.toNat false) (by omega) (by simp) (by simp) (fun s' hs' => by
        rw [List.drop_zero] at hs'
        have hl := allB_len n _ _ s' hs'
        simp only [List.length_replicate] at hl
        rw [hs', Option.bind_some]
        have := impl_fin s'.2 s'.1.length 0 s'.1 (by omega) (by omega) (by omega)
        rw [← hl.1]
        exact this) (fun hs' => by rw [List.drop_zero] at hs'; rw [hs']; rfl)
      refine Ev.step (f := fun k => (slices_Concat_int64_int64.f k R).bind fun t181 => (impl_Sprouts_degrees.l0 k (List.replicate n.toNat 0) (List.replicate n.toNat false) t181 (t181.length : Int) 0 n R)) (fun k => ?_) (Ev.bind (concat_ev R hL hT) h)
      rw [impl_Sprouts_degrees.j0, if_neg (by decide), if_pos (by omega), if_pos (by omega), if_pos (by omega)]
  · rw [if_neg (fun h => c h.1)]
    have cb : ¬ (decide ((1 : Int) ≤ n) && decide (n ≤ 20)) = true := by simp only [Bool.and_eq_true, decide_eq_true_eq]; exact c
    exact Ev.congr (fun k => by rw [Option.bind_some, if_neg cb]) (bad true rfl)

end Go.Proofs.YtfcafnnpejngiaaDoor.PX

/- Marks laid into a position are found again (no condition but sizes that fit). -/
namespace Go.Proofs.YtfcafnnpejngiaaDoor.PX
open Go.RowKit Go.Proofs.YtfcafnnpejngiaaDoorW.PrintWords Go.Proofs.YtfcafnnpejngiaaDoorW.PrintLast Go.Proofs.YtfcafnnpejngiaaDoorW.PrintMore
attribute [local go_sem] max2_int min2_int max_two min_two max_three min_three max_four min_four
set_option linter.unusedVariables false
set_option linter.unusedSimpArgs false
theorem heldSS_loop (g : List (List Int)) (a : Int) (ha : 0 ≤ a) (hn : a + total g < 4611686018427387904) (hg : g.length < 4611686018427387904) (d : Nat) : ∀ (i : Nat), i + d = g.length →
    Ev (fun k => laws_heldInt64SS.l0 k (markL a g) (a + total (g.take i)) i) (a + total g) := by
  induction d with
  | zero =>
    intro i hd
    have e : i = g.length := by omega
    subst e
    refine Ev.step (f := fun _ => some (a + total g)) (fun k => ?_) (Ev.now _)
    simp only [laws_heldInt64SS.l0]
    rw [if_neg (by rw [markL_length]; omega), List.take_length]
  | succ d ih =>
    intro i hd
    obtain ⟨row, hp⟩ := get_some (xs := g) (i := i) (by omega)
    have hx := ih (i + 1) (by omega)
    have et : total (g.take (i + 1)) = total (g.take i) + row.length := by
      rw [List.take_add_one, hp]
      have : ∀ (x y : List (List Int)), total (x ++ y) = total x + total y := fun x y => by
        induction x with
        | nil => simp [total]
        | cons z r ihx => simp only [List.cons_append, total, ihx]; omega
      rw [this]
      simp [total]
    have hb : total (g.take i) + row.length + total (g.drop (i + 1)) = total g := by
      have : ∀ (x y : List (List Int)), total (x ++ y) = total x + total y := fun x y => by
        induction x with
        | nil => simp [total]
        | cons z r ihx => simp only [List.cons_append, total, ihx]; omega
      have e := congrArg total (List.take_append_drop i g)
      rw [this, drop_of hp] at e
      simp only [total] at e
      omega
    have h0 := total_nonneg (g.take i)
    have h1 := total_nonneg (g.drop (i + 1))
    have hget : rd_L2 (markL a g) (i : Int) = marks (a + total (g.take i)) row.length := by
      rw [rdL1_nat]
      have e : markL a g = markL a (g.take i) ++ markL (a + total (g.take i)) (g.drop i) := by rw [← markL_append, List.take_append_drop]
      rw [e, drop_of hp, List.getD_eq_getElem?_getD, List.getElem?_append_right (by rw [markL_length, List.length_take]; omega), markL_length, List.length_take, show i - min i g.length = 0 by omega]
      rfl
    have hh := held_ev row.length (a + total (g.take i)) (by omega) (by omega)
    rw [et, ← Int.add_assoc] at hx
    refine Ev.step (fun k => by simp only [laws_heldInt64SS.l0]; rw [if_pos (by rw [markL_length]; omega), if_pos (by omega), hget]) (Ev.bind hh (Ev.congr (fun k => ?_) hx))
    rw [if_neg (by omega), wrapS (by omega) (by omega), cast_succ]
theorem heldSS_ev (g : List (List Int)) (a : Int) (ha : 0 ≤ a) (hn : a + total g < 4611686018427387904) (hg : g.length < 4611686018427387904) : Ev (fun k => laws_heldInt64SS.f k (markL a g) a) (a + total g) := by
  have h := heldSS_loop g a ha hn hg g.length 0 (by omega)
  have e : a + total (g.take 0) = a := by simp [total]
  rw [e] at h
  exact h
theorem rdL2_nat' (xs : List (List (List Int))) (i : Nat) : rd_L3 xs (i : Int) = xs.getD i [] := by unfold rd_L3; rfl
theorem held3_loop (R : List (List (List Int))) (a : Int) (ha : 0 ≤ a) (hn : a + total3 R < 4611686018427387904) (hR : Fits3 R) (d : Nat) : ∀ (i : Nat), i + d = R.length →
    Ev (fun k => laws_heldInt64SSS.l0 k (markLL a R) (a + total3 (R.take i)) i) (a + total3 R) := by
  have hl := hR.1
  induction d with
  | zero =>
    intro i hd
    have e : i = R.length := by omega
    subst e
    refine Ev.step (f := fun _ => some (a + total3 R)) (fun k => ?_) (Ev.now _)
    simp only [laws_heldInt64SSS.l0]
    rw [if_neg (by rw [markLL_length]; omega), List.take_length]
  | succ d ih =>
    intro i hd
    obtain ⟨g, hp⟩ := get_some (xs := R) (i := i) (by omega)
    have hx := ih (i + 1) (by omega)
    have et : total3 (R.take (i + 1)) = total3 (R.take i) + total g := by
      rw [List.take_add_one, hp, total3_append]
      simp [total3]
    have hb : total3 (R.take i) + total g + total3 (R.drop (i + 1)) = total3 R := by
      have e := congrArg total3 (List.take_append_drop i R)
      rw [total3_append, drop_of hp] at e
      simp only [total3] at e
      omega
    have h0 := total3_nonneg (R.take i)
    have h1 := total3_nonneg (R.drop (i + 1))
    have h2 := total_nonneg g
    have hget : rd_L3 (markLL a R) (i : Int) = markL (a + total3 (R.take i)) g := by
      rw [rdL2_nat']
      have e : markLL a R = markLL a (R.take i) ++ markLL (a + total3 (R.take i)) (R.drop i) := by rw [← markLL_append, List.take_append_drop]
      rw [e, drop_of hp, List.getD_eq_getElem?_getD, List.getElem?_append_right (by rw [markLL_length, List.length_take]; omega), markLL_length, List.length_take, show i - min i R.length = 0 by omega]
      rfl
    have hh := heldSS_ev g (a + total3 (R.take i)) (by omega) (by omega) (hR.2 g (List.mem_of_getElem? hp))
    rw [et, ← Int.add_assoc] at hx
    refine Ev.step (fun k => by simp only [laws_heldInt64SSS.l0]; rw [if_pos (by rw [markLL_length]; omega), if_pos (by omega), hget]) (Ev.bind hh (Ev.congr (fun k => ?_) hx))
    rw [if_neg (by omega), wrapS (by omega) (by omega), cast_succ]
theorem held3_ev (n : Int) (R : List (List (List Int))) (a : Int) (ha : 0 ≤ a) (hn : a + total3 R < 4611686018427387904) (hR : Fits3 R) : Ev (fun k => laws_heldSprouts.f k n (markLL a R) a) (a + total3 R) := by
  have h := held3_loop R a ha hn hR R.length 0 (by omega)
  have h0 := total3_nonneg R
  have e : a + total3 (R.take 0) = a := by simp [total3]
  rw [e] at h
  unfold laws_heldSprouts.f
  refine Ev.bind (g := fun k => laws_heldInt64SSS.f k (markLL a R) a) (Ev.congr (fun k => rfl) h) (Ev.congr (f := fun _ => some (a + total3 R)) (fun k => ?_) (Ev.now _))
  rw [if_neg (by omega)]
theorem total_le (n : Nat) : ∀ g : List (List Int), (∀ row ∈ g, row.length ≤ n) → total g ≤ (g.length : Int) * n
  | [], _ => by simp [total]
  | row :: rest, h => by
    have := total_le n rest (fun r hr => h r (by simp [hr]))
    have h1 := h row (by simp)
    simp only [total, List.length_cons]
    have e : (((rest.length + 1 : Nat) : Int)) * (n : Int) = (rest.length : Int) * n + n := by rw [Int.natCast_add, Int.add_mul]; simp
    omega

end Go.Proofs.YtfcafnnpejngiaaDoor.PX
