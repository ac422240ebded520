/- Part 5 of the texts under the row of FnExactSproutMoves (no condition). -/
import Derived.Test.YtjihfaebfhbpfaaPk4FnExactSproutMoves
/- The walk of the program's degrees (conditions: the slices read as the lists; each call answers). -/
namespace Go.Proofs.Ytjihfaebfhbpfaa.PX
open Go.RowKit Go.Proofs.YtjihfaebfhbpfaaW.PrintWords Go.Proofs.YtjihfaebfhbpfaaW.PrintLast Go.Proofs.YtjihfaebfhbpfaaW.PrintMore
attribute [local go_sem] max2_int min2_int max_two min_two max_three min_three max_four min_four
set_option linter.unusedVariables false
set_option linter.unusedSimpArgs false
mutual
def impl_Sprouts_degrees.j0 : Nat → Bool → Int → List (List (List Int)) → Option (List Int × Bool)
  | 0, _, _, _ => none
  | k + 1, x21, x174000, x174001 => if x21 = true then (some (([] : List Int), false)) else (if 0 ≤ x174000 then (if (x174000 : Int).toNat ≤ 35184372088832 then (if (x174000 : Int).toNat ≤ 281474976710656 then ((slices_Concat_int64_int64.f k x174001).bind fun t181 => (impl_Sprouts_degrees.l0 k (List.replicate (x174000 : Int).toNat 0) (List.replicate (x174000 : Int).toNat false) t181 (t181.length : Int) 0 x174000 x174001)) else (none)) else (none)) else (none))
def impl_Sprouts_degrees.l0 : Nat → List Int → List Bool → List (List Int) → Int → Int → Int → List (List (List Int)) → Option (List Int × Bool)
  | 0, _, _, _, _, _, _, _ => none
  | k + 1, x4, x5, x30, x31, x32, x174000, x174001 => if x32 < x31 then (if 0 ≤ x32 then (if x32 < (x30.length : Int) then (impl_Sprouts_degrees.l1 k x4 x5 (rd_L1 x30 x32) x30 x31 x32 (rd_L1 x30 x32) ((rd_L1 x30 x32).length : Int) 0 x174000 x174001) else (none)) else (none)) else (impl_Sprouts_degrees.l2 k x4 x5 (x4.length : Int) 0)
def impl_Sprouts_degrees.l1 : Nat → List Int → List Bool → List Int → List (List Int) → Int → Int → List Int → Int → Int → Int → List (List (List Int)) → Option (List Int × Bool)
  | 0, _, _, _, _, _, _, _, _, _, _, _ => none
  | k + 1, x4, x5, x7, x30, x31, x32, x36, x37, x38, x174000, x174001 => if x38 < x37 then (if 0 ≤ x38 then (if x38 < (x36.length : Int) then ((impl_within.f (rd x36 x38) 0 (wrap64 (x174000 - 1))).bind fun t186 => (if t186 = true then (if 0 ≤ (rd x36 x38) then (if (rd x36 x38) < (x4.length : Int) then ((some (x4.set ((rd x36 x38) : Int).toNat (wrap64 ((rd x4 (rd x36 x38)) + 1)) : List Int)).bind fun y188 => (if (rd x36 x38) < (x5.length : Int) then (if rdOf false x5 (rd x36 x38) = true then (impl_Sprouts_degrees.l1 k y188 (x5.set ((rd x36 x38) : Int).toNat true) x7 x30 x31 x32 x36 x37 (wrap64 (x38 + 1)) x174000 x174001) else (impl_Sprouts_degrees.l1 k y188 (x5.set ((rd x36 x38) : Int).toNat ((x7.length : Int) == 1)) x7 x30 x31 x32 x36 x37 (wrap64 (x38 + 1)) x174000 x174001)) else (none))) else (none)) else (none)) else (some (([] : List Int), false)))) else (none)) else (none)) else (if (x7.length : Int) = 0 then (some (([] : List Int), false)) else (impl_Sprouts_degrees.l0 k x4 x5 x30 x31 (wrap64 (x32 + 1)) x174000 x174001))
def impl_Sprouts_degrees.l2 : Nat → List Int → List Bool → Int → Int → Option (List Int × Bool)
  | 0, _, _, _, _ => none
  | k + 1, x4, x5, x72, x73 => if x73 < x72 then (if 0 ≤ x73 then (if x73 < (x4.length : Int) then ((impl_within.f (rd x4 x73) 1 3).bind fun t193 => (if t193 = true then (if x73 < (x5.length : Int) then (if rdOf false x5 x73 = true then (impl_Sprouts_degrees.j4 k x4 x5 x73 x72 x73 (decide ((rd x4 x73) > 1))) else (impl_Sprouts_degrees.j4 k x4 x5 x73 x72 x73 false)) else (none)) else (impl_Sprouts_degrees.j4 k x4 x5 x73 x72 x73 true))) else (none)) else (none)) else (some (x4, true))
def impl_Sprouts_degrees.j4 : Nat → List Int → List Bool → Int → Int → Int → Bool → Option (List Int × Bool)
  | 0, _, _, _, _, _, _ => none
  | k + 1, x4, x5, x10, x72, x73, x90 => if x90 = true then (some (([] : List Int), false)) else (if 0 ≤ x10 then (if x10 < (x5.length : Int) then (if rdOf false x5 x10 = true then (if x10 < (x4.length : Int) then (impl_Sprouts_degrees.l2 k (x4.set (x10 : Int).toNat 0) x5 x72 (wrap64 (x73 + 1))) else (none)) else (impl_Sprouts_degrees.l2 k x4 x5 x72 (wrap64 (x73 + 1)))) else (none)) else (none))
end
def impl_Sprouts_degrees.f (k : Nat) (a0_0 : Int) (l0_1 : List (List (List Int))) : Option (List Int × Bool) := (impl_within.f a0_0 1 20).bind fun t174 => (if t174 = true then (impl_Sprouts_degrees.j0 k ((l0_1.length : Int) == 0) a0_0 l0_1) else (impl_Sprouts_degrees.j0 k true a0_0 l0_1))
theorem impl_Sprouts_degrees.mono_l : ∀ k, (∀ y0 y1 y2, LeO (impl_Sprouts_degrees.j0 k y0 y1 y2) (impl_Sprouts_degrees.j0 (k + 1) y0 y1 y2)) ∧ (∀ y0 y1 y2 y3 y4 y5 y6, LeO (impl_Sprouts_degrees.l0 k y0 y1 y2 y3 y4 y5 y6) (impl_Sprouts_degrees.l0 (k + 1) y0 y1 y2 y3 y4 y5 y6)) ∧ (∀ y0 y1 y2 y3 y4 y5 y6 y7 y8 y9 y10, LeO (impl_Sprouts_degrees.l1 k y0 y1 y2 y3 y4 y5 y6 y7 y8 y9 y10) (impl_Sprouts_degrees.l1 (k + 1) y0 y1 y2 y3 y4 y5 y6 y7 y8 y9 y10)) ∧ (∀ y0 y1 y2 y3, LeO (impl_Sprouts_degrees.l2 k y0 y1 y2 y3) (impl_Sprouts_degrees.l2 (k + 1) y0 y1 y2 y3)) ∧ (∀ y0 y1 y2 y3 y4 y5, LeO (impl_Sprouts_degrees.j4 k y0 y1 y2 y3 y4 y5) (impl_Sprouts_degrees.j4 (k + 1) y0 y1 y2 y3 y4 y5))
  | 0 => ⟨fun _ _ _ r h => by simp [impl_Sprouts_degrees.j0] at h, fun _ _ _ _ _ _ _ r h => by simp [impl_Sprouts_degrees.l0] at h, fun _ _ _ _ _ _ _ _ _ _ _ r h => by simp [impl_Sprouts_degrees.l1] at h, fun _ _ _ _ r h => by simp [impl_Sprouts_degrees.l2] at h, fun _ _ _ _ _ _ r h => by simp [impl_Sprouts_degrees.j4] at h⟩
  | k + 1 => by
    obtain ⟨ih0, ih1, ih2, ih3, ih4⟩ := impl_Sprouts_degrees.mono_l k
    refine ⟨?_, ?_, ?_, ?_, ?_⟩
    · intro y0 y1 y2
      unfold impl_Sprouts_degrees.j0
      repeat' first
      | (with_reducible exact ih0 _ _ _)
      | (with_reducible exact ih1 _ _ _ _ _ _ _)
      | (with_reducible exact ih2 _ _ _ _ _ _ _ _ _ _ _)
      | (with_reducible exact ih3 _ _ _ _)
      | (with_reducible exact ih4 _ _ _ _ _ _)
      | (with_reducible exact slices_Concat_int64_int64.mono _ _)
      | (with_reducible exact LeO.refl _)
      | (with_reducible exact LeO.none _)
      | (with_reducible refine LeO.ite ?_ ?_)
      | (with_reducible refine LeO.bind ?_ (fun _ => ?_))
      | exact ih0 _ _ _
      | exact ih1 _ _ _ _ _ _ _
      | exact ih2 _ _ _ _ _ _ _ _ _ _ _
      | exact ih3 _ _ _ _
      | exact ih4 _ _ _ _ _ _
      | exact slices_Concat_int64_int64.mono _ _
      | exact LeO.none _
      | refine LeO.ite ?_ ?_
      | refine LeO.bind ?_ (fun _ => ?_)
    · intro y0 y1 y2 y3 y4 y5 y6
      unfold impl_Sprouts_degrees.l0
      repeat' first
      | (with_reducible exact ih0 _ _ _)
      | (with_reducible exact ih1 _ _ _ _ _ _ _)
      | (with_reducible exact ih2 _ _ _ _ _ _ _ _ _ _ _)
      | (with_reducible exact ih3 _ _ _ _)
      | (with_reducible exact ih4 _ _ _ _ _ _)
      | (with_reducible exact slices_Concat_int64_int64.mono _ _)
      | (with_reducible exact LeO.refl _)
      | (with_reducible exact LeO.none _)
      | (with_reducible refine LeO.ite ?_ ?_)
      | (with_reducible refine LeO.bind ?_ (fun _ => ?_))
      | exact ih0 _ _ _
      | exact ih1 _ _ _ _ _ _ _
      | exact ih2 _ _ _ _ _ _ _ _ _ _ _
      | exact ih3 _ _ _ _
      | exact ih4 _ _ _ _ _ _
      | exact slices_Concat_int64_int64.mono _ _
      | exact LeO.none _
      | refine LeO.ite ?_ ?_
      | refine LeO.bind ?_ (fun _ => ?_)
    · intro y0 y1 y2 y3 y4 y5 y6 y7 y8 y9 y10
      unfold impl_Sprouts_degrees.l1
      repeat' first
      | (with_reducible exact ih0 _ _ _)
      | (with_reducible exact ih1 _ _ _ _ _ _ _)
      | (with_reducible exact ih2 _ _ _ _ _ _ _ _ _ _ _)
      | (with_reducible exact ih3 _ _ _ _)
      | (with_reducible exact ih4 _ _ _ _ _ _)
      | (with_reducible exact slices_Concat_int64_int64.mono _ _)
      | (with_reducible exact LeO.refl _)
      | (with_reducible exact LeO.none _)
      | (with_reducible refine LeO.ite ?_ ?_)
      | (with_reducible refine LeO.bind ?_ (fun _ => ?_))
      | exact ih0 _ _ _
      | exact ih1 _ _ _ _ _ _ _
      | exact ih2 _ _ _ _ _ _ _ _ _ _ _
      | exact ih3 _ _ _ _
      | exact ih4 _ _ _ _ _ _
      | exact slices_Concat_int64_int64.mono _ _
      | exact LeO.none _
      | refine LeO.ite ?_ ?_
      | refine LeO.bind ?_ (fun _ => ?_)
    · intro y0 y1 y2 y3
      unfold impl_Sprouts_degrees.l2
      repeat' first
      | (with_reducible exact ih0 _ _ _)
      | (with_reducible exact ih1 _ _ _ _ _ _ _)
      | (with_reducible exact ih2 _ _ _ _ _ _ _ _ _ _ _)
      | (with_reducible exact ih3 _ _ _ _)
      | (with_reducible exact ih4 _ _ _ _ _ _)
      | (with_reducible exact slices_Concat_int64_int64.mono _ _)
      | (with_reducible exact LeO.refl _)
      | (with_reducible exact LeO.none _)
      | (with_reducible refine LeO.ite ?_ ?_)
      | (with_reducible refine LeO.bind ?_ (fun _ => ?_))
      | exact ih0 _ _ _
      | exact ih1 _ _ _ _ _ _ _
      | exact ih2 _ _ _ _ _ _ _ _ _ _ _
      | exact ih3 _ _ _ _
      | exact ih4 _ _ _ _ _ _
      | exact slices_Concat_int64_int64.mono _ _
      | exact LeO.none _
      | refine LeO.ite ?_ ?_
      | refine LeO.bind ?_ (fun _ => ?_)
    · intro y0 y1 y2 y3 y4 y5
      unfold impl_Sprouts_degrees.j4
      repeat' first
      | (with_reducible exact ih0 _ _ _)
      | (with_reducible exact ih1 _ _ _ _ _ _ _)
      | (with_reducible exact ih2 _ _ _ _ _ _ _ _ _ _ _)
      | (with_reducible exact ih3 _ _ _ _)
      | (with_reducible exact ih4 _ _ _ _ _ _)
      | (with_reducible exact slices_Concat_int64_int64.mono _ _)
      | (with_reducible exact LeO.refl _)
      | (with_reducible exact LeO.none _)
      | (with_reducible refine LeO.ite ?_ ?_)
      | (with_reducible refine LeO.bind ?_ (fun _ => ?_))
      | exact ih0 _ _ _
      | exact ih1 _ _ _ _ _ _ _
      | exact ih2 _ _ _ _ _ _ _ _ _ _ _
      | exact ih3 _ _ _ _
      | exact ih4 _ _ _ _ _ _
      | exact slices_Concat_int64_int64.mono _ _
      | exact LeO.none _
      | refine LeO.ite ?_ ?_
      | refine LeO.bind ?_ (fun _ => ?_)
theorem impl_Sprouts_degrees.mono : ∀ a0 a1 k, LeO (impl_Sprouts_degrees.f k a0 a1) (impl_Sprouts_degrees.f (k + 1) a0 a1) := by
  intro a0 a1 k
  obtain ⟨ih0, ih1, ih2, ih3, ih4⟩ := impl_Sprouts_degrees.mono_l k
  unfold impl_Sprouts_degrees.f
  repeat' first
      | (with_reducible exact ih0 _ _ _)
      | (with_reducible exact ih1 _ _ _ _ _ _ _)
      | (with_reducible exact ih2 _ _ _ _ _ _ _ _ _ _ _)
      | (with_reducible exact ih3 _ _ _ _)
      | (with_reducible exact ih4 _ _ _ _ _ _)
      | (with_reducible exact slices_Concat_int64_int64.mono _ _)
      | (with_reducible exact LeO.refl _)
      | (with_reducible exact LeO.none _)
      | (with_reducible refine LeO.ite ?_ ?_)
      | (with_reducible refine LeO.bind ?_ (fun _ => ?_))
      | exact ih0 _ _ _
      | exact ih1 _ _ _ _ _ _ _
      | exact ih2 _ _ _ _ _ _ _ _ _ _ _
      | exact ih3 _ _ _ _
      | exact ih4 _ _ _ _ _ _
      | exact slices_Concat_int64_int64.mono _ _
      | exact LeO.none _
      | refine LeO.ite ?_ ?_
      | refine LeO.bind ?_ (fun _ => ?_)
def impl_Sprouts_degrees.T3 : Bool × List (List Nat × List Nat) := (true, [([], []), ([0], [0]), ([1, 1], [1]), ([], []), ([3], [3]), ([4, 4], [4]), ([2, 0, 1, 2], [2]), ([5, 6, 0, 1, 2, 3, 4, 5, 6], [5])])
def impl_Sprouts_degrees.B3 : List Nat := [0, 1, 3, 0, 8, 24, 7, 127]
theorem impl_Sprouts_degrees.tab3 : rtab .any (opsOf Try.f31 3) = impl_Sprouts_degrees.T3 := by kernel_rfl
theorem impl_Sprouts_degrees.bits3 : waitsOk impl_Sprouts_degrees.T3.2 impl_Sprouts_degrees.B3 = true := by kernel_rfl
def NV (w : World) (base : Nat) (ok : Nat → Prop) (v : Value) (xs : List (List Int)) (A : Option Addr) (m c : Nat) (ys : List Int) : Prop := Kd.N (Kd.slice 2 (Kd.int .i64)) 33 w base ok v xs ∧ Kd.V (Kd.int .i64) 2 w base ok (.slice A m c) ys
theorem NV_alloc {w : World} {base : Nat} {ok : Nat → Prop} {v : Value} {xs : List (List Int)} {A : Option Addr} {m c : Nat} {ys : List Int} (h : NV w base ok v xs A m c ys) (o : Obj) : NV (w.alloc o) base ok v xs A m c ys := ⟨Kd.N_alloc h.1 o, Kd.V_alloc h.2 o⟩
theorem NV_drew {w : World} {base : Nat} {ok : Nat → Prop} {v : Value} {xs : List (List Int)} {A : Option Addr} {m c : Nat} {ys : List Int} (h : NV w base ok v xs A m c ys) : NV w.drew base ok v xs A m c ys := ⟨Kd.N_drew h.1, Kd.V_drew h.2⟩
theorem NV_drewN {w : World} {base : Nat} {ok : Nat → Prop} {v : Value} {xs : List (List Int)} {A : Option Addr} {m c : Nat} {ys : List Int} (h : NV w base ok v xs A m c ys) (n : Nat) : NV (w.drewN n) base ok v xs A m c ys := ⟨Kd.N_drewN h.1 n, Kd.V_drewN h.2 n⟩
theorem NV_mono {w : World} {base : Nat} {ok ok' : Nat → Prop} {v : Value} {xs : List (List Int)} {A : Option Addr} {m c : Nat} {ys : List Int} (h : NV w base ok v xs A m c ys) (hok : ∀ k, ok k → ok' k) : NV w base ok' v xs A m c ys := ⟨Kd.N_mono h.1 hok, Kd.V_mono h.2 hok⟩
theorem NV_afterv {w w1 : World} {base : Nat} {ok : Nat → Prop} {v v1 u : Value} {xs : List (List Int)} {A : Option Addr} {m c : Nat} {ys : List Int} (h : NV w base (fun k => ok k ∧ some k ≠ v.ownBlock) u xs A m c ys) (hg : w.grownBy w1 v.ownBlock) (hat : v1.ownBlock = v.ownBlock ∨ ∃ b, v1.ownBlock = some b ∧ w.heap.size ≤ b) : NV w1 base (fun k => ok k ∧ some k ≠ v1.ownBlock) u xs A m c ys := ⟨Kd.N_afterv h.1 hg hat, Kd.V_afterv h.2 hg hat⟩
set_option maxHeartbeats 8000000 in
set_option maxRecDepth 100000 in
theorem impl_Sprouts_degrees.calls (k : Nat) (a0_0 : Int) (A0_1 : Option Addr) (c0_1 : Nat) (l0_1 : List (List (List Int))) (r1 : List Int) (r2 : Bool) (w : World) (hr0_1 : Kd.C (Kd.slice 33 (Kd.slice 2 (Kd.int .i64))) w A0_1 l0_1.length l0_1) (hc0_1 : l0_1.length ≤ c0_1) (h : impl_Sprouts_degrees.f k a0_0 l0_1 = some (r1, r2)) :
    Calls Try.prog 31 #[.agg #[.int .i64 a0_0, .slice A0_1 l0_1.length c0_1]] w fun e w' => ∃ v0_ : Value, e = .returned (.tuple #[v0_, .bool r2]) ∧ Kd.R (Kd.int .i64) 2 w' w.heap.size (fun _ => True) v0_ r1 ∧ Below w.heap.size w w' := by
  have hu27 := Try.underlying27
  have HR0_1 := Aside0.mk hr0_1
  have HC0_1 := Aside0.mk hc0_1
  clear hr0_1 hc0_1
  have HB := Aside0.mk (Below.refl w.heap.size w)
  have H : ((impl_within.f a0_0 1 20).bind fun t174 => (if t174 = true then (impl_Sprouts_degrees.j0 k ((l0_1.length : Int) == 0) a0_0 l0_1) else (impl_Sprouts_degrees.j0 k true a0_0 l0_1))) = some (r1, r2) := h
  clear h
  have HC2 := Aside0.mk H
  clear H
  go_enter Try.func31, Try.ntmps31
  go_upto_region 1 with (first | ((with_reducible refine gate_dst (N := 1) rfl ?_); (try (refine gate_guard (by rfl) ?_; dsimp only)); refine box_event ?hg (N := 1) ?hd (cs := #[.int .i64 a0_0, .slice A0_1 l0_1.length c0_1]) (t := 27) ?hr ?_; (case hd => rfl); (case hg => rfl); (case hr => first | (go_simp; done) | (go_simp; rfl)); intro gb173 hg w3 hbox hb; have n0_ := Aside0.mk (below_step (by repeat (first | (with_reducible first | exact HB.out | apply below_alloc | apply pw_below_drewN | apply below_drew1) | exact HB.out)) hb); have n1_ := Aside0.mk (hbox); have n2_ := Aside0.mk ((by rw [hg]; exact (below_size (by repeat (first | (with_reducible first | exact HB.out | apply below_alloc | apply pw_below_drewN | apply below_drew1) | exact HB.out))) : w.heap.size ≤ gb173)); have n3_ := Aside0.mk ((by rw [hg]; exact (below_size (by repeat (first | (with_reducible first | exact HB.out | apply below_alloc | apply pw_below_drewN | apply below_drew1) | exact HB.out))) : w.heap.size ≤ gb173)); clear HB; have HB := n0_; have BK173 := n1_; have GW173 := n2_; have GE173 := n3_; clear n0_ n1_ n2_ n3_; clear hb hbox hg))
  (try simp only [Act.put, List.setIfInBounds_toArray, List.set_cons_zero, List.set_cons_succ])
  go_cut [21] (fun v21 wc => ∃ (kq : Nat) (x21_1 : Bool), v21 = .bool x21_1 ∧ Aside0 (impl_Sprouts_degrees.j0 kq x21_1 a0_0 l0_1 = some (r1, r2)) ∧ Aside0 (kq ≤ k) ∧ Aside0 (wc.heap[gb173]? = some (.cells #[.int .i64 a0_0, (.slice A0_1 l0_1.length c0_1)] 27 (0, 0))) ∧ Aside0 (Below w.heap.size w wc))
  case first =>
    have H := HC2.out
    clear HC2
    replace H := Option.bind_eq_some_iff.mp H
    obtain ⟨t174, A40, H⟩ := H
    replace H : (if t174 = true then (impl_Sprouts_degrees.j0 k ((l0_1.length : Int) == 0) a0_0 l0_1) else (impl_Sprouts_degrees.j0 k true a0_0 l0_1)) = some (r1, r2) := H
    have A4 := Aside0.mk A40
    clear A40
    by_cases c5 : t174 = true
    · subst c5
      have H1 : (impl_Sprouts_degrees.j0 k ((l0_1.length : Int) == 0) a0_0 l0_1) = some (r1, r2) := by rw [if_pos rfl] at H; exact H
      clear H
      have H := H1
      clear H1
      have H' := Aside0.mk H
      clear H
      have hcz6_0 : w3.cell? ⟨gb173, 0, none⟩ = some (.int .i64 a0_0) := (blk_cell BK173.out 0).trans rfl
      have hcz6_1 : w3.cell? ⟨gb173, 1, none⟩ = some (.slice A0_1 l0_1.length c0_1) := (blk_cell BK173.out 1).trans rfl
      have hfz6_0 := blk_frozen BK173.out 0
      have hfz6_1 := blk_frozen BK173.out 1
      go_wp2_with (first | ((with_reducible refine gate_callee (f := 44) rfl ?_); refine goesL_ (some 14) rfl rfl Try.func44 (by kernel_rfl) rfl #[.int .i64 a0_0, .int .i64 1, .int .i64 20] rfl (by (try simp only [List.map_toArray, List.map_cons, List.map_nil]); first | done | rfl | (simp only [List.length_drop, List.length_take]; rfl)) ?_; (with_reducible refine (impl_within.calls a0_0 1 20 true _ A4.out).mono ?_); rintro e w' ⟨rfl, ⟨nd, rfl⟩⟩; refine ⟨_, rfl, ?_⟩))
      go_meet
      case rel => exact ⟨_, (((l0_1.length : Int) == 0)), (by first | rfl | (simp; done) | (simp [*]; done)), H', ⟨by first | omega | exact Nat.le_refl _⟩, ⟨by (with_reducible repeat (first | refine blk_drewN ?_ _ | refine blk_drew ?_ | refine blk_alloc ?_ _)); exact BK173.out⟩, ⟨by repeat (first | (with_reducible first | exact HB.out | apply below_alloc | apply pw_below_drewN | apply below_drew1 | refine below_set ?_ GE173.out) | exact HB.out)⟩⟩
    · replace c5 := Bool.eq_false_iff.mpr c5
      subst c5
      have H1 : (impl_Sprouts_degrees.j0 k true a0_0 l0_1) = some (r1, r2) := by rw [if_neg (show ¬ (false = true) by decide)] at H; exact H
      clear H
      have H := H1
      clear H1
      have H' := Aside0.mk H
      clear H
      have hcz7_0 : w3.cell? ⟨gb173, 0, none⟩ = some (.int .i64 a0_0) := (blk_cell BK173.out 0).trans rfl
      have hcz7_1 : w3.cell? ⟨gb173, 1, none⟩ = some (.slice A0_1 l0_1.length c0_1) := (blk_cell BK173.out 1).trans rfl
      have hfz7_0 := blk_frozen BK173.out 0
      have hfz7_1 := blk_frozen BK173.out 1
      go_wp2_with (first | ((with_reducible refine gate_callee (f := 44) rfl ?_); refine goesL_ (some 14) rfl rfl Try.func44 (by kernel_rfl) rfl #[.int .i64 a0_0, .int .i64 1, .int .i64 20] rfl (by (try simp only [List.map_toArray, List.map_cons, List.map_nil]); first | done | rfl | (simp only [List.length_drop, List.length_take]; rfl)) ?_; (with_reducible refine (impl_within.calls a0_0 1 20 false _ A4.out).mono ?_); rintro e w' ⟨rfl, ⟨nd, rfl⟩⟩; refine ⟨_, rfl, ?_⟩))
      go_meet
      case rel => exact ⟨_, (true), (by first | rfl | (simp; done) | (simp [*]; done)), H', ⟨by first | omega | exact Nat.le_refl _⟩, ⟨by (with_reducible repeat (first | refine blk_drewN ?_ _ | refine blk_drew ?_ | refine blk_alloc ?_ _)); exact BK173.out⟩, ⟨by repeat (first | (with_reducible first | exact HB.out | apply below_alloc | apply pw_below_drewN | apply below_drew1 | refine below_set ?_ GE173.out) | exact HB.out)⟩⟩
  case rest =>
    clear HC2
    try clear p2
    try clear c3
    try clear c4
    try clear c5
    try clear hcz6_0
    try clear hcz6_1
    try clear hcz7_0
    try clear hcz7_1
    try clear hfz6_0
    try clear hfz6_1
    try clear hfz7_0
    try clear hfz7_1
    obtain ⟨kq, x21_1, rfl, HA, HJ1, BK173, HB⟩ := hcut
    cases kq with
    | zero => exact absurd HA.out (by simp [impl_Sprouts_degrees.j0])
    | succ kj1 =>
      have H := HA.out
      clear HA
      simp only [impl_Sprouts_degrees.j0] at H
      by_cases c8 : x21_1 = true
      · subst c8
        have H1 : (some (([] : List Int), false)) = some (r1, r2) := by rw [if_pos rfl] at H; exact H
        clear H
        have H := H1
        clear H1
        simp only [Option.some.injEq, Prod.mk.injEq] at H
        obtain ⟨rfl, rfl⟩ := H
        go_wp2
        go_ret2
        exact ⟨_, by first | rfl | (simp [errW_none, errW_some] <;> rfl) | (simp [*, errW_none, errW_some] <;> rfl), by first | exact Kd.R_nil _ _ _ _ _ | exact Kd.N_nil _ _ _ _ _ | exact Kd.V_nil _ _ _ _ _ | exact Kd.Q_nil _ _ _ _ _ | exact Kd.S_nil _ _ _ _ _, by repeat (first | (with_reducible first | exact HB.out | apply below_alloc | apply pw_below_drewN | apply below_drew1 | refine below_set ?_ GE173.out) | exact HB.out)⟩
      · replace c8 := Bool.eq_false_iff.mpr c8
        subst c8
        have H1 : (if 0 ≤ a0_0 then (if (a0_0 : Int).toNat ≤ 35184372088832 then (if (a0_0 : Int).toNat ≤ 281474976710656 then ((slices_Concat_int64_int64.f kj1 l0_1).bind fun t181 => (impl_Sprouts_degrees.l0 kj1 (List.replicate (a0_0 : Int).toNat 0) (List.replicate (a0_0 : Int).toNat false) t181 (t181.length : Int) 0 a0_0 l0_1)) else (none)) else (none)) else (none)) = some (r1, r2) := by rw [if_neg (show ¬ (false = true) by decide)] at H; exact H
        clear H
        have H := H1
        clear H1
        by_cases c9 : 0 ≤ a0_0
        · rw [if_pos c9] at H
          have c9b0 := eq_true c9
          have c9b1 : decide (0 ≤ a0_0) = true := decide_eq_true c9
          clear c9
          by_cases c10 : (a0_0 : Int).toNat ≤ 35184372088832
          · rw [if_pos c10] at H
            have c10b0 := eq_true c10
            have c10b1 : decide ((a0_0 : Int).toNat ≤ 35184372088832) = true := decide_eq_true c10
            clear c10
            obtain ⟨y175, hy175⟩ : ∃ y_ : List Int, y_ = (List.replicate (a0_0 : Int).toNat 0) := ⟨_, rfl⟩
            replace H : (if (a0_0 : Int).toNat ≤ 281474976710656 then ((slices_Concat_int64_int64.f kj1 l0_1).bind fun t181 => (impl_Sprouts_degrees.l0 kj1 y175 (List.replicate (a0_0 : Int).toNat false) t181 (t181.length : Int) 0 a0_0 l0_1)) else (none)) = some (r1, r2) := by first | (rw [hy175]; with_reducible exact H) | (have H2_ := (Option.bind_some _ _).symm.trans H; rw [hy175]; with_reducible exact H2_) | (have H2_ := (Option.bind_some _ _).symm.trans H; with_reducible exact H2_) | with_reducible exact H | (rw [hy175]; exact H) | exact H
            have Ny175 := Aside0.mk hy175
            clear hy175
            by_cases c11 : (a0_0 : Int).toNat ≤ 281474976710656
            · rw [if_pos c11] at H
              have c11b0 := eq_true c11
              have c11b1 : decide ((a0_0 : Int).toNat ≤ 281474976710656) = true := decide_eq_true c11
              clear c11
              obtain ⟨y178, hy178⟩ : ∃ y_ : List Bool, y_ = (List.replicate (a0_0 : Int).toNat false) := ⟨_, rfl⟩
              replace H : ((slices_Concat_int64_int64.f kj1 l0_1).bind fun t181 => (impl_Sprouts_degrees.l0 kj1 y175 y178 t181 (t181.length : Int) 0 a0_0 l0_1)) = some (r1, r2) := by first | (rw [hy178]; with_reducible exact H) | (have H2_ := (Option.bind_some _ _).symm.trans H; rw [hy178]; with_reducible exact H2_) | (have H2_ := (Option.bind_some _ _).symm.trans H; with_reducible exact H2_) | with_reducible exact H | (rw [hy178]; exact H) | exact H
              have Ny178 := Aside0.mk hy178
              clear hy178
              replace H := Option.bind_eq_some_iff.mp H
              obtain ⟨t181, A120, H⟩ := H
              replace H : (impl_Sprouts_degrees.l0 kj1 y175 y178 t181 (t181.length : Int) 0 a0_0 l0_1) = some (r1, r2) := H
              have A12 := Aside0.mk A120
              clear A120
              have H' := Aside0.mk H
              clear H
              try go_wp2
              have n0_ := Aside0.mk (blk_drew BK173.out)
              have n1_ := Aside0.mk (below_drew1 HB.out)
              clear BK173
              clear HB
              have BK173 := n0_
              have HB := n1_
              clear n0_ n1_
              refine start_ (n := 8) (S := fun w' => w'.cell? ⟨gb173, 0, none⟩ = some (.int .i64 a0_0) ∧ w'.cell? ⟨gb173, 1, none⟩ = some (.slice A0_1 l0_1.length c0_1)) (ds := []) #[false, false, false, false, false, false, false, false] (by kernel_rfl) rfl rfl ⟨(blk_cell BK173.out 0).trans rfl, (blk_cell BK173.out 1).trans rfl⟩ (fun hHeld => ?_); refine with_tabW impl_Sprouts_degrees.tab3 impl_Sprouts_degrees.bits3 (fun HT_ HW_ => ?_)
              generalize wc.drew = w13 at BK173 HB hHeld ⊢
              refine pure_ (i := 0) (N := some 22) (v := ?_) (a' := ?_) #[true, false, false, false, false, false, false, false] rfl rfl (any_of HT_.out (by kernel_rfl)) (fun _ _ _ h => h) (Or.inl ⟨by rfl, ?_⟩) ?_ ?_
              rotate_left
              · intro w'
                go_simp
                with_reducible rfl
              rotate_left
              · simp only [Act.put, List.setIfInBounds_toArray, List.set_cons_zero, List.set_cons_succ, i64_w, i32_w]
                rfl
              refine pure_ (i := 3) (N := some 25) (v := ?_) (a' := ?_) #[true, false, false, true, false, false, false, false] rfl rfl (any_of HT_.out (by kernel_rfl)) (fun _ _ _ h => h) (Or.inl ⟨by rfl, ?_⟩) ?_ ?_
              rotate_left
              · intro w'
                go_simp
                with_reducible rfl
              rotate_left
              · simp only [Act.put, List.setIfInBounds_toArray, List.set_cons_zero, List.set_cons_succ, i64_w, i32_w]
                rfl
              refine take_ (i := 1) (N := some 23) (v := ?_) (a' := ?_) #[true, true, false, true, false, false, false, false] rfl rfl (take_ofW HT_.out HW_.out (by kernel_rfl)) (fun _ _ _ h => h) (Or.inl ⟨by rfl, ?_⟩) hHeld ?_ ?_
              rotate_left
              · rintro w' ⟨s0, s1⟩
                go_simp
                with_reducible rfl
              rotate_left
              · simp only [Act.put, List.setIfInBounds_toArray, List.set_cons_zero, List.set_cons_succ, i64_w, i32_w]
                rfl
              refine take_ (i := 4) (N := some 26) (v := ?_) (a' := ?_) #[true, true, false, true, true, false, false, false] rfl rfl (take_ofW HT_.out HW_.out (by kernel_rfl)) (fun _ _ _ h => h) (Or.inl ⟨by rfl, ?_⟩) hHeld ?_ ?_
              rotate_left
              · rintro w' ⟨s0, s1⟩
                go_simp
                with_reducible rfl
              rotate_left
              · simp only [Act.put, List.setIfInBounds_toArray, List.set_cons_zero, List.set_cons_succ, i64_w, i32_w]
                rfl
              refine join_ (σ := Value × Value) 1 #[true, true, true, true, true, true, true, false] (fun s_ => [(24, s_.1), (27, s_.2), (4, s_.1)]) (fun s_ w' => (w'.cell? ⟨gb173, 0, none⟩ = some (.int .i64 a0_0) ∧ w'.cell? ⟨gb173, 1, none⟩ = some (.slice A0_1 l0_1.length c0_1)) ∧ (Kd.R (Kd.int .i64) 2 w' w.heap.size (fun _ => True) s_.1 y175) ∧ (Kd.R Kd.bool 4 w' w.heap.size (fun _ => True) s_.2 y178) ∧ (w'.heap[gb173]? = some (.cells #[.int .i64 a0_0, .slice A0_1 l0_1.length c0_1] 27 (0, 0))) ∧ (Below w.heap.size w w')) ?_ ?_
              rotate_left
              · intro hCont
                refine two_ (i := 2) (j := 5) (Ni := some 24) (Nj := some 27) #[true, true, true, true, true, false, false, false] #[true, true, false, true, true, true, false, false] rfl rfl rfl rfl (two_of HT_.out (by kernel_rfl)) (by decide) (by decide) (fun K hK => ?_) (fun K hK => ?_)
                · skip
                  refine Kd.R_make_step (Kd.int .i64) _ 2 (by rfl) (N := 24) rfl 33 _ _ rfl a0_0 rfl rfl Try.underlying33 (.int .i64 0) 8 info2 rfl (by decide) (by omega) 0 (ok := fun _ => True) (okp := fun _ => True) rfl (fun _ hk => hk) trivial (of_decide_eq_true (by first | (with_reducible assumption) | assumption)) (Nat.le_trans (Nat.mul_le_mul_right _ (of_decide_eq_true (by first | (with_reducible assumption) | assumption) : a0_0.toNat ≤ 35184372088832)) (by omega)) (Below.refl _ _) (Nat.le_refl _) ?_
                  intro v176 w14 ho15 hb hg_ hnew_
                  clear hg_ hnew_
                  (first | rw [← Ny175.out] at ho15 | (simp only [Int.reduceToNat] at ho15; rw [← Ny175.out] at ho15))
                  have n0_ := Aside0.mk (Kd.R_lower ho15 (below_size (by repeat (first | (with_reducible first | exact HB.out | apply below_alloc | apply pw_below_drewN | apply below_drew1 | refine below_set ?_ GE173.out) | exact HB.out))))
                  have n1_ := Aside0.mk (blk_below (g := gb173) (o := .cells #[.int .i64 a0_0, .slice A0_1 l0_1.length c0_1] 27 (0, 0)) (by (with_reducible repeat (first | refine blk_drewN ?_ _ | refine blk_drew ?_ | refine blk_alloc ?_ _)); exact BK173.out) hb)
                  have n2_ := Aside0.mk (below_step (by repeat (first | (with_reducible first | exact HB.out | apply below_alloc | apply pw_below_drewN | apply below_drew1 | refine below_set ?_ GE173.out) | exact HB.out)) hb)
                  clear BK173
                  clear HB
                  have HO177 := n0_
                  have BK173 := n1_
                  have HB := n2_
                  clear n0_ n1_ n2_
                  clear hb ho15
                  refine hK.out _ _ ⟨(blk_cell BK173.out 0).trans rfl, (blk_cell BK173.out 1).trans rfl⟩ (fun hHeld => ?_)
                  clear hK K
                  refine norm_ (a' := ?_) ?_ ?_
                  rotate_left
                  · show Act.put _ (some 24) _ = _
                    simp only [Act.put, List.setIfInBounds_toArray, List.set_cons_zero, List.set_cons_succ, i64_w, i32_w]
                    rfl
                  refine pure_ (i := 6) (N := some 4) (v := ?_) (a' := ?_) #[true, true, true, true, true, false, true, false] rfl rfl (any_of HT_.out (by kernel_rfl)) (fun _ _ _ h => h) (Or.inl ⟨by rfl, ?_⟩) ?_ ?_
                  rotate_left
                  · intro w'
                    go_simp
                    with_reducible rfl
                  rotate_left
                  · simp only [Act.put, List.setIfInBounds_toArray, List.set_cons_zero, List.set_cons_succ, i64_w, i32_w]
                    rfl
                  refine one_ (i := 5) (N := some 27) #[true, true, true, true, true, true, true, false] rfl rfl (one_of HT_.out (by kernel_rfl)) (by decide) (fun K hK => ?_)
                  refine Kd.R_make_step Kd.bool _ 4 (by rfl) (N := 27) rfl 60 _ _ rfl a0_0 rfl rfl Try.underlying60 (.bool false) 1 info4 rfl (by decide) (by omega) false (ok := fun _ => True) (okp := fun _ => True) rfl (fun _ hk => hk) trivial (of_decide_eq_true (by first | (with_reducible assumption) | assumption)) (Nat.le_trans (Nat.mul_le_mul_right _ (of_decide_eq_true (by first | (with_reducible assumption) | assumption) : a0_0.toNat ≤ 281474976710656)) (by omega)) (Below.refl _ _) (Nat.le_refl _) ?_
                  intro v179 w16 ho17 hb hg_ hnew_
                  clear hg_ hnew_
                  (first | rw [← Ny178.out] at ho17 | (simp only [Int.reduceToNat] at ho17; rw [← Ny178.out] at ho17))
                  have n0_ := Aside0.mk (Kd.R_below (by (with_reducible repeat (first | apply Kd.R_alloc | apply Kd.R_drewN | apply Kd.R_drew)); exact HO177.out) hb)
                  have n1_ := Aside0.mk (Kd.R_lower ho17 (below_size (by repeat (first | (with_reducible first | exact HB.out | apply below_alloc | apply pw_below_drewN | apply below_drew1 | refine below_set ?_ GE173.out) | exact HB.out))))
                  have n2_ := Aside0.mk (blk_below (g := gb173) (o := .cells #[.int .i64 a0_0, .slice A0_1 l0_1.length c0_1] 27 (0, 0)) (by (with_reducible repeat (first | refine blk_drewN ?_ _ | refine blk_drew ?_ | refine blk_alloc ?_ _)); exact BK173.out) hb)
                  have n3_ := Aside0.mk (below_step (by repeat (first | (with_reducible first | exact HB.out | apply below_alloc | apply pw_below_drewN | apply below_drew1 | refine below_set ?_ GE173.out) | exact HB.out)) hb)
                  clear HO177
                  clear BK173
                  clear HB
                  have HO177 := n0_
                  have HO180 := n1_
                  have BK173 := n2_
                  have HB := n3_
                  clear n0_ n1_ n2_ n3_
                  clear hb ho17
                  refine hK.out _ _ ⟨(blk_cell BK173.out 0).trans rfl, (blk_cell BK173.out 1).trans rfl⟩ (fun hHeld => ?_)
                  clear hK K
                  refine norm_ (a' := ?_) ?_ ?_
                  rotate_left
                  · show Act.put _ (some 27) _ = _
                    simp only [Act.put, List.setIfInBounds_toArray, List.set_cons_zero, List.set_cons_succ, i64_w, i32_w]
                    rfl
                  exact norm_ (by simp only [putAll, Act.put, List.setIfInBounds_toArray, List.set_cons_zero, List.set_cons_succ]) (hCont (v176, v179) _ ⟨hHeld, (by (with_reducible repeat (first | apply Kd.R_alloc | apply Kd.R_drewN | apply Kd.R_drew)); exact HO177.out), (by (with_reducible repeat (first | apply Kd.R_alloc | apply Kd.R_drewN | apply Kd.R_drew)); exact HO180.out), (by (with_reducible repeat (first | refine blk_drewN ?_ _ | refine blk_drew ?_ | refine blk_alloc ?_ _)); exact BK173.out), (by repeat (first | (with_reducible first | exact HB.out | apply below_alloc | apply pw_below_drewN | apply below_drew1 | refine below_set ?_ GE173.out) | exact HB.out))⟩)
                · skip
                  refine Kd.R_make_step Kd.bool _ 4 (by rfl) (N := 27) rfl 60 _ _ rfl a0_0 rfl rfl Try.underlying60 (.bool false) 1 info4 rfl (by decide) (by omega) false (ok := fun _ => True) (okp := fun _ => True) rfl (fun _ hk => hk) trivial (of_decide_eq_true (by first | (with_reducible assumption) | assumption)) (Nat.le_trans (Nat.mul_le_mul_right _ (of_decide_eq_true (by first | (with_reducible assumption) | assumption) : a0_0.toNat ≤ 281474976710656)) (by omega)) (Below.refl _ _) (Nat.le_refl _) ?_
                  intro v179 w14 ho15 hb hg_ hnew_
                  clear hg_ hnew_
                  (first | rw [← Ny178.out] at ho15 | (simp only [Int.reduceToNat] at ho15; rw [← Ny178.out] at ho15))
                  have n0_ := Aside0.mk (Kd.R_lower ho15 (below_size (by repeat (first | (with_reducible first | exact HB.out | apply below_alloc | apply pw_below_drewN | apply below_drew1 | refine below_set ?_ GE173.out) | exact HB.out))))
                  have n1_ := Aside0.mk (blk_below (g := gb173) (o := .cells #[.int .i64 a0_0, .slice A0_1 l0_1.length c0_1] 27 (0, 0)) (by (with_reducible repeat (first | refine blk_drewN ?_ _ | refine blk_drew ?_ | refine blk_alloc ?_ _)); exact BK173.out) hb)
                  have n2_ := Aside0.mk (below_step (by repeat (first | (with_reducible first | exact HB.out | apply below_alloc | apply pw_below_drewN | apply below_drew1 | refine below_set ?_ GE173.out) | exact HB.out)) hb)
                  clear BK173
                  clear HB
                  have HO180 := n0_
                  have BK173 := n1_
                  have HB := n2_
                  clear n0_ n1_ n2_
                  clear hb ho15
                  refine hK.out _ _ ⟨(blk_cell BK173.out 0).trans rfl, (blk_cell BK173.out 1).trans rfl⟩ (fun hHeld => ?_)
                  clear hK K
                  refine norm_ (a' := ?_) ?_ ?_
                  rotate_left
                  · show Act.put _ (some 27) _ = _
                    simp only [Act.put, List.setIfInBounds_toArray, List.set_cons_zero, List.set_cons_succ, i64_w, i32_w]
                    rfl
                  refine one_ (i := 2) (N := some 24) #[true, true, true, true, true, true, false, false] rfl rfl (one_of HT_.out (by kernel_rfl)) (by decide) (fun K hK => ?_)
                  refine Kd.R_make_step (Kd.int .i64) _ 2 (by rfl) (N := 24) rfl 33 _ _ rfl a0_0 rfl rfl Try.underlying33 (.int .i64 0) 8 info2 rfl (by decide) (by omega) 0 (ok := fun _ => True) (okp := fun _ => True) rfl (fun _ hk => hk) trivial (of_decide_eq_true (by first | (with_reducible assumption) | assumption)) (Nat.le_trans (Nat.mul_le_mul_right _ (of_decide_eq_true (by first | (with_reducible assumption) | assumption) : a0_0.toNat ≤ 35184372088832)) (by omega)) (Below.refl _ _) (Nat.le_refl _) ?_
                  intro v176 w16 ho17 hb hg_ hnew_
                  clear hg_ hnew_
                  (first | rw [← Ny175.out] at ho17 | (simp only [Int.reduceToNat] at ho17; rw [← Ny175.out] at ho17))
                  have n0_ := Aside0.mk (Kd.R_below (by (with_reducible repeat (first | apply Kd.R_alloc | apply Kd.R_drewN | apply Kd.R_drew)); exact HO180.out) hb)
                  have n1_ := Aside0.mk (Kd.R_lower ho17 (below_size (by repeat (first | (with_reducible first | exact HB.out | apply below_alloc | apply pw_below_drewN | apply below_drew1 | refine below_set ?_ GE173.out) | exact HB.out))))
                  have n2_ := Aside0.mk (blk_below (g := gb173) (o := .cells #[.int .i64 a0_0, .slice A0_1 l0_1.length c0_1] 27 (0, 0)) (by (with_reducible repeat (first | refine blk_drewN ?_ _ | refine blk_drew ?_ | refine blk_alloc ?_ _)); exact BK173.out) hb)
                  have n3_ := Aside0.mk (below_step (by repeat (first | (with_reducible first | exact HB.out | apply below_alloc | apply pw_below_drewN | apply below_drew1 | refine below_set ?_ GE173.out) | exact HB.out)) hb)
                  clear HO180
                  clear BK173
                  clear HB
                  have HO180 := n0_
                  have HO177 := n1_
                  have BK173 := n2_
                  have HB := n3_
                  clear n0_ n1_ n2_ n3_
                  clear hb ho17
                  refine hK.out _ _ ⟨(blk_cell BK173.out 0).trans rfl, (blk_cell BK173.out 1).trans rfl⟩ (fun hHeld => ?_)
                  clear hK K
                  refine norm_ (a' := ?_) ?_ ?_
                  rotate_left
                  · show Act.put _ (some 24) _ = _
                    simp only [Act.put, List.setIfInBounds_toArray, List.set_cons_zero, List.set_cons_succ, i64_w, i32_w]
                    rfl
                  refine pure_ (i := 6) (N := some 4) (v := ?_) (a' := ?_) #[true, true, true, true, true, true, true, false] rfl rfl (any_of HT_.out (by kernel_rfl)) (fun _ _ _ h => h) (Or.inl ⟨by rfl, ?_⟩) ?_ ?_
                  rotate_left
                  · intro w'
                    go_simp
                    with_reducible rfl
                  rotate_left
                  · simp only [Act.put, List.setIfInBounds_toArray, List.set_cons_zero, List.set_cons_succ, i64_w, i32_w]
                    rfl
                  exact norm_ (by simp only [putAll, Act.put, List.setIfInBounds_toArray, List.set_cons_zero, List.set_cons_succ]) (hCont (v176, v179) _ ⟨hHeld, (by (with_reducible repeat (first | apply Kd.R_alloc | apply Kd.R_drewN | apply Kd.R_drew)); exact HO177.out), (by (with_reducible repeat (first | apply Kd.R_alloc | apply Kd.R_drewN | apply Kd.R_drew)); exact HO180.out), (by (with_reducible repeat (first | refine blk_drewN ?_ _ | refine blk_drew ?_ | refine blk_alloc ?_ _)); exact BK173.out), (by repeat (first | (with_reducible first | exact HB.out | apply below_alloc | apply pw_below_drewN | apply below_drew1 | refine below_set ?_ GE173.out) | exact HB.out))⟩)
              rintro ⟨v176, v179⟩ w18 ⟨hS_, h0_, h1_, h2_, h3_⟩
              have n0_ : Aside0 (Kd.R (Kd.int .i64) 2 w18 w.heap.size (fun _ => True) v176 y175) := ⟨h0_⟩
              have n1_ : Aside0 (Kd.R Kd.bool 4 w18 w.heap.size (fun _ => True) v179 y178) := ⟨h1_⟩
              have n2_ : Aside0 (w18.heap[gb173]? = some (.cells #[.int .i64 a0_0, .slice A0_1 l0_1.length c0_1] 27 (0, 0))) := ⟨h2_⟩
              have n3_ : Aside0 (Below w.heap.size w w18) := ⟨h3_⟩
              clear BK173
              clear HB
              clear h0_ h1_ h2_ h3_
              have HO177 := n0_
              have HO180 := n1_
              have BK173 := n2_
              have HB := n3_
              clear n0_ n1_ n2_ n3_
              have hHeld : w18.cell? ⟨gb173, 0, none⟩ = some (.int .i64 a0_0) ∧ w18.cell? ⟨gb173, 1, none⟩ = some (.slice A0_1 l0_1.length c0_1) := hS_
              refine norm_ (a' := ?_) ?_ ?_
              rotate_left
              · simp only [putAll, Act.put, List.setIfInBounds_toArray, List.set_cons_zero, List.set_cons_succ]
                rfl
              refine pure_ (i := 7) (N := some 5) (v := ?_) (a' := ?_) #[true, true, true, true, true, true, true, true] rfl rfl (any_of HT_.out (by kernel_rfl)) (fun _ _ _ h => h) (Or.inl ⟨by rfl, ?_⟩) ?_ ?_
              rotate_left
              · intro w'
                go_simp
                with_reducible rfl
              rotate_left
              · simp only [Act.put, List.setIfInBounds_toArray, List.set_cons_zero, List.set_cons_succ, i64_w, i32_w]
                rfl
              refine done_ (done_of HT_.out (by kernel_rfl)) ?_
              have hcz19_0 : w18.cell? ⟨gb173, 0, none⟩ = some (.int .i64 a0_0) := (blk_cell BK173.out 0).trans rfl
              have hcz19_1 : w18.cell? ⟨gb173, 1, none⟩ = some (.slice A0_1 l0_1.length c0_1) := (blk_cell BK173.out 1).trans rfl
              have hfz19_0 := blk_frozen BK173.out 0
              have hfz19_1 := blk_frozen BK173.out 1
              try go_wp2_with (first | ((with_reducible refine gate_callee (f := 45) rfl ?_); refine goesL_ (some 30) rfl rfl Try.func45 (by kernel_rfl) rfl #[.slice A0_1 l0_1.length c0_1] rfl (by (try simp only [List.map_toArray, List.map_cons, List.map_nil]); first | done | rfl | (simp only [List.length_drop, List.length_take]; rfl)) ?_; (with_reducible refine (slices_Concat_int64_int64.calls kj1 (fun k_ => k_ < w.heap.size) _ _ l0_1 t181 _ ?side1 A12.out).mono ?_); (case side1 => exact Kd.V_mk HC0_1.out (Kd.F_below (Kd.C_F (Kd.heap_slice 33 (Kd.heap_slice 2 (Kd.heap_int .i64))) HR0_1.out) (by repeat (first | (with_reducible first | exact HB.out | apply below_alloc | apply pw_below_drewN | apply below_drew1 | refine below_set ?_ GE173.out) | exact HB.out)))); rintro e w20 ⟨v182, rfl, ho0, hb⟩; refine ⟨_, rfl, ?_⟩; have n0_ := Aside0.mk (Kd.R_below (by (with_reducible repeat (first | apply Kd.R_alloc | apply Kd.R_drewN | apply Kd.R_drew)); exact HO177.out) hb); have n1_ := Aside0.mk (Kd.R_below (by (with_reducible repeat (first | apply Kd.R_alloc | apply Kd.R_drewN | apply Kd.R_drew)); exact HO180.out) hb); have n2_ := Aside0.mk (Kd.N_lower (Kd.N_mono (ok' := fun k_ => some k_ ≠ (v176 : Value).ownBlock ∧ some k_ ≠ (v179 : Value).ownBlock ∧ k_ ≠ gb173) ho0 (fun k_ hk_ => ⟨Or.elim hk_ (fun hs_ => fun e_ => Nat.not_le.2 hs_ (Kd.R_base HO177.out k_ e_.symm)) (fun hn_ => (Kd.fresh' (Kd.R_lt (by (with_reducible repeat (first | apply Kd.R_alloc | apply Kd.R_drewN | apply Kd.R_drew)); exact HO177.out)) k_ hn_)), Or.elim hk_ (fun hs_ => fun e_ => Nat.not_le.2 hs_ (Kd.R_base HO180.out k_ e_.symm)) (fun hn_ => (Kd.fresh' (Kd.R_lt (by (with_reducible repeat (first | apply Kd.R_alloc | apply Kd.R_drewN | apply Kd.R_drew)); exact HO180.out)) k_ hn_)), Or.elim hk_ (fun hs_ => fun e_ => Nat.not_le.2 hs_ (by rw [e_]; exact GW173.out)) (fun hn_ => (Kd.freshB (g := gb173) (o := .cells #[.int .i64 a0_0, .slice A0_1 l0_1.length c0_1] 27 (0, 0)) (by (with_reducible repeat (first | refine blk_drewN ?_ _ | refine blk_drew ?_ | refine blk_alloc ?_ _)); exact BK173.out) k_ hn_))⟩)) (below_size (by repeat (first | (with_reducible first | exact HB.out | apply below_alloc | apply pw_below_drewN | apply below_drew1 | refine below_set ?_ GE173.out) | exact HB.out)))); have n3_ := Aside0.mk (blk_below (g := gb173) (o := .cells #[.int .i64 a0_0, .slice A0_1 l0_1.length c0_1] 27 (0, 0)) (by (with_reducible repeat (first | refine blk_drewN ?_ _ | refine blk_drew ?_ | refine blk_alloc ?_ _)); exact BK173.out) hb); have n4_ := Aside0.mk (below_step (by repeat (first | (with_reducible first | exact HB.out | apply below_alloc | apply pw_below_drewN | apply below_drew1 | refine below_set ?_ GE173.out) | exact HB.out)) hb); clear HO177; clear HO180; clear BK173; clear HB; have HO177 := n0_; have HO180 := n1_; have HO183 := n2_; have BK173 := n3_; have HB := n4_; clear n0_ n1_ n2_ n3_ n4_; (try clear hb); (try clear hb2); (try clear hk); (try clear hi); (try clear ho0); obtain ⟨Ao21, co21, eo21⟩ := Kd.N_slice HO183.out; subst eo21))
              go_loopg [32] kj1 (fun kq v32 w' => ∃ (x4_2 : List Int) (x5_2 : List Bool) (x32_2 : Int), v32 = .int .i64 x32_2 ∧ Aside0 (impl_Sprouts_degrees.l0 kq x4_2 x5_2 t181 (t181.length : Int) x32_2 a0_0 l0_1 = some (r1, r2)) ∧ Aside0 (kq ≤ kj1) ∧ Aside0 (Kd.R (Kd.int .i64) 2 w' w.heap.size (fun _ => True) v176 x4_2) ∧ Aside0 (Kd.R Kd.bool 4 w' w.heap.size (fun _ => True) v179 x5_2) ∧ Aside0 (Kd.N (Kd.slice 2 (Kd.int .i64)) 33 w' w.heap.size (fun k_ => some k_ ≠ (v176 : Value).ownBlock ∧ some k_ ≠ (v179 : Value).ownBlock ∧ k_ ≠ gb173) (.slice Ao21 t181.length co21) t181) ∧ Aside0 (w'.heap[gb173]? = some (.cells #[.int .i64 a0_0, (.slice A0_1 l0_1.length c0_1)] 27 (0, 0))) ∧ Aside0 (Below w.heap.size w w'))
              case atStart => exact ⟨(y175), (y178), (0), (by first | rfl | (simp; done) | (simp [*]; done)), H', ⟨Nat.le_refl _⟩, ⟨by (with_reducible repeat (first | apply Kd.R_alloc | apply Kd.R_drewN | apply Kd.R_drew)); exact HO177.out⟩, ⟨by (with_reducible repeat (first | apply Kd.R_alloc | apply Kd.R_drewN | apply Kd.R_drew)); exact HO180.out⟩, ⟨by (with_reducible repeat (first | apply Kd.N_alloc | apply Kd.N_drewN | apply Kd.N_drew)); exact HO183.out⟩, ⟨by (with_reducible repeat (first | refine blk_drewN ?_ _ | refine blk_drew ?_ | refine blk_alloc ?_ _)); exact BK173.out⟩, ⟨by repeat (first | (with_reducible first | exact HB.out | apply below_alloc | apply pw_below_drewN | apply below_drew1 | refine below_set ?_ GE173.out) | exact HB.out)⟩⟩
              case round =>
                clear H'
                try clear c1
                try clear p2
                try clear c3
                try clear c4
                try clear c5
                try clear c8
                try clear c9
                try clear c9b0
                try clear c9b1
                try clear c10
                try clear c10b0
                try clear c10b1
                try clear c11
                try clear c11b0
                try clear c11b1
                try clear hcz19_0
                try clear hcz19_1
                try clear hcz6_0
                try clear hcz6_1
                try clear hcz7_0
                try clear hcz7_1
                try clear hfz19_0
                try clear hfz19_1
                try clear hfz6_0
                try clear hfz6_1
                try clear hfz7_0
                try clear hfz7_1
                try clear p2
                obtain ⟨x4_2, x5_2, x32_2, rfl, HA, HK2, HO_4, HO_5, HO_30, BK173, HB⟩ := hrel
                cases gk with
                | zero => exact absurd HA.out (by simp [impl_Sprouts_degrees.l0])
                | succ k2 =>
                  have H := HA.out
                  clear HA
                  simp only [impl_Sprouts_degrees.l0] at H
                  by_cases c22 : x32_2 < (t181.length : Int)
                  · rw [if_pos c22] at H
                    have c22b0 : decide (x32_2 < (t181.length : Int)) = true := decide_eq_true c22
                    clear c22
                    by_cases c23 : 0 ≤ x32_2
                    · rw [if_pos c23] at H
                      have c23b0 : decide (0 ≤ x32_2) = true := decide_eq_true c23
                      clear c23
                      by_cases c24 : x32_2 < (t181.length : Int)
                      · rw [if_pos c24] at H
                        have c24b0 : decide (x32_2 < (t181.length : Int)) = true := decide_eq_true c24
                        clear c24
                        have H' := Aside0.mk H
                        clear H
                        have p184 : 0 ≤ (x32_2 : Int) := of_decide_eq_true (by first | (with_reducible assumption) | assumption)
                        have q184 : x32_2 < (t181.length : Int) := of_decide_eq_true (by first | (with_reducible assumption) | assumption)
                        obtain ⟨ad184, A184_0, c184_0, e184, hx184_0, hl184_0, hi184_0⟩ := at_L1 (Kd.N_reads' HO_30.out).2.2 x32_2 p184 q184
                        cases e184
                        obtain ⟨ce184, hce184, hMe184, hcc184⟩ := Kd.N_get HO_30.out [] x32_2 p184 (by first | exact q184 | exact of_decide_eq_true (by first | (with_reducible assumption) | assumption) | (have e_ := (Kd.N_reads' HO_30.out).1; omega))
                        obtain ⟨ua184_0, uc184_0, rfl, ul184_0, ge184_0⟩ := Kd.FK_slice_open hMe184
                        have hv184_0 := hcc184 0 _ rfl
                        rw [Nat.add_zero, show ((Kd.slice 2 (Kd.int .i64))).sz = 1 from rfl, Nat.mul_one] at hv184_0
                        replace hv184_0 := Option.some.inj (hv184_0.symm.trans hx184_0)
                        injection hv184_0 with hva_ hvn_ hvc_
                        rw [hva_] at ge184_0
                        rw [hvc_] at ul184_0
                        have HL184_0 := Aside0.mk (show Kd.V (Kd.int .i64) 2 _ w.heap.size _ _ (rd_L1 t181 x32_2) from Kd.V_mk ul184_0 ge184_0)
                        clear hva_ hvn_ hvc_ ge184_0 ul184_0
                        clear hcc184 hce184
                        have HR184_0 := Aside0.mk hi184_0
                        have HC184_0 := Aside0.mk hl184_0
                        clear hi184_0 hl184_0
                        replace p184 := eq_true p184
                        replace q184 := eq_true q184
                        go_wp2
                        go_loopg [38] k2 (fun kq v38 w' => ∃ (x4_3 : List Int) (x5_3 : List Bool) (x38_3 : Int), v38 = .int .i64 x38_3 ∧ Aside0 (impl_Sprouts_degrees.l1 kq x4_3 x5_3 (rd_L1 t181 x32_2) t181 (t181.length : Int) x32_2 (rd_L1 t181 x32_2) ((rd_L1 t181 x32_2).length : Int) x38_3 a0_0 l0_1 = some (r1, r2)) ∧ Aside0 (kq ≤ k2) ∧ Aside0 (Kd.R (Kd.int .i64) 2 w' w.heap.size (fun _ => True) v176 x4_3) ∧ Aside0 (Kd.R Kd.bool 4 w' w.heap.size (fun _ => True) v179 x5_3) ∧ Aside0 (NV w' w.heap.size (fun k_ => some k_ ≠ (v176 : Value).ownBlock ∧ some k_ ≠ (v179 : Value).ownBlock ∧ k_ ≠ gb173) (.slice (some ad184) t181.length co21) t181 A184_0 (rd_L1 t181 x32_2).length c184_0 (rd_L1 t181 x32_2)) ∧ Aside0 (w'.heap[gb173]? = some (.cells #[.int .i64 a0_0, (.slice A0_1 l0_1.length c0_1)] 27 (0, 0))) ∧ Aside0 (Below w.heap.size w w'))
                        case atStart => exact ⟨(x4_2), (x5_2), (0), (by first | rfl | (simp; done) | (simp [*]; done)), H', ⟨Nat.le_refl _⟩, ⟨by (with_reducible repeat (first | apply Kd.R_alloc | apply Kd.R_drewN | apply Kd.R_drew)); exact HO_4.out⟩, ⟨by (with_reducible repeat (first | apply Kd.R_alloc | apply Kd.R_drewN | apply Kd.R_drew)); exact HO_5.out⟩, ⟨by (with_reducible repeat (first | apply NV_alloc | apply NV_drewN | apply NV_drew)); exact ⟨HO_30.out, Kd.V_mono HL184_0.out (fun _ hk => hk.1)⟩⟩, ⟨by (with_reducible repeat (first | refine blk_drewN ?_ _ | refine blk_drew ?_ | refine blk_alloc ?_ _)); exact BK173.out⟩, ⟨by repeat (first | (with_reducible first | exact HB.out | apply below_alloc | apply pw_below_drewN | apply below_drew1 | refine below_set ?_ GE173.out) | exact HB.out)⟩⟩
                        case round =>
                          clear H'
                          try clear c1
                          try clear p1
                          try clear q1
                          try clear hx1
                          try clear c2
                          try clear p2
                          try clear c3
                          try clear c4
                          try clear c5
                          try clear c8
                          try clear c9
                          try clear c9b0
                          try clear c9b1
                          try clear c10
                          try clear c10b0
                          try clear c10b1
                          try clear c11
                          try clear c11b0
                          try clear c11b1
                          try clear c18
                          try clear p18
                          try clear q18
                          try clear hx18
                          try clear c22
                          try clear c22b0
                          try clear c23
                          try clear c23b0
                          try clear c24
                          try clear c24b0
                          try clear hcz19_0
                          try clear hcz19_1
                          try clear hcz6_0
                          try clear hcz6_1
                          try clear hcz7_0
                          try clear hcz7_1
                          try clear hfz19_0
                          try clear hfz19_1
                          try clear hfz6_0
                          try clear hfz6_1
                          try clear hfz7_0
                          try clear hfz7_1
                          try clear hx184_0
                          try clear p184
                          try clear p2
                          try clear q184
                          obtain ⟨x4_3, x5_3, x38_3, rfl, HA, HK3, HO_4, HO_5, HO_30, BK173, HB⟩ := hrel
                          cases gk with
                          | zero => exact absurd HA.out (by simp [impl_Sprouts_degrees.l1])
                          | succ k3 =>
                            have H := HA.out
                            clear HA
                            simp only [impl_Sprouts_degrees.l1] at H
                            by_cases c25 : x38_3 < ((rd_L1 t181 x32_2).length : Int)
                            · rw [if_pos c25] at H
                              have c25b0 : decide (x38_3 < ((rd_L1 t181 x32_2).length : Int)) = true := decide_eq_true c25
                              clear c25
                              by_cases c26 : 0 ≤ x38_3
                              · rw [if_pos c26] at H
                                have c26b0 : decide (0 ≤ x38_3) = true := decide_eq_true c26
                                clear c26
                                by_cases c27 : x38_3 < ((rd_L1 t181 x32_2).length : Int)
                                · rw [if_pos c27] at H
                                  have c27b0 : decide (x38_3 < ((rd_L1 t181 x32_2).length : Int)) = true := decide_eq_true c27
                                  clear c27
                                  replace H := Option.bind_eq_some_iff.mp H
                                  obtain ⟨t186, A280, H⟩ := H
                                  replace H : (if t186 = true then (if 0 ≤ (rd (rd_L1 t181 x32_2) x38_3) then (if (rd (rd_L1 t181 x32_2) x38_3) < (x4_3.length : Int) then ((some (x4_3.set ((rd (rd_L1 t181 x32_2) x38_3) : Int).toNat (wrap64 ((rd x4_3 (rd (rd_L1 t181 x32_2) x38_3)) + 1)) : List Int)).bind fun y188 => (if (rd (rd_L1 t181 x32_2) x38_3) < (x5_3.length : Int) then (if rdOf false x5_3 (rd (rd_L1 t181 x32_2) x38_3) = true then (impl_Sprouts_degrees.l1 k3 y188 (x5_3.set ((rd (rd_L1 t181 x32_2) x38_3) : Int).toNat true) (rd_L1 t181 x32_2) t181 (t181.length : Int) x32_2 (rd_L1 t181 x32_2) ((rd_L1 t181 x32_2).length : Int) (wrap64 (x38_3 + 1)) a0_0 l0_1) else (impl_Sprouts_degrees.l1 k3 y188 (x5_3.set ((rd (rd_L1 t181 x32_2) x38_3) : Int).toNat (((rd_L1 t181 x32_2).length : Int) == 1)) (rd_L1 t181 x32_2) t181 (t181.length : Int) x32_2 (rd_L1 t181 x32_2) ((rd_L1 t181 x32_2).length : Int) (wrap64 (x38_3 + 1)) a0_0 l0_1)) else (none))) else (none)) else (none)) else (some (([] : List Int), false))) = some (r1, r2) := H
                                  have A28 := Aside0.mk A280
                                  clear A280
                                  by_cases c29 : t186 = true
                                  · subst c29
                                    have H1 : (if 0 ≤ (rd (rd_L1 t181 x32_2) x38_3) then (if (rd (rd_L1 t181 x32_2) x38_3) < (x4_3.length : Int) then ((some (x4_3.set ((rd (rd_L1 t181 x32_2) x38_3) : Int).toNat (wrap64 ((rd x4_3 (rd (rd_L1 t181 x32_2) x38_3)) + 1)) : List Int)).bind fun y188 => (if (rd (rd_L1 t181 x32_2) x38_3) < (x5_3.length : Int) then (if rdOf false x5_3 (rd (rd_L1 t181 x32_2) x38_3) = true then (impl_Sprouts_degrees.l1 k3 y188 (x5_3.set ((rd (rd_L1 t181 x32_2) x38_3) : Int).toNat true) (rd_L1 t181 x32_2) t181 (t181.length : Int) x32_2 (rd_L1 t181 x32_2) ((rd_L1 t181 x32_2).length : Int) (wrap64 (x38_3 + 1)) a0_0 l0_1) else (impl_Sprouts_degrees.l1 k3 y188 (x5_3.set ((rd (rd_L1 t181 x32_2) x38_3) : Int).toNat (((rd_L1 t181 x32_2).length : Int) == 1)) (rd_L1 t181 x32_2) t181 (t181.length : Int) x32_2 (rd_L1 t181 x32_2) ((rd_L1 t181 x32_2).length : Int) (wrap64 (x38_3 + 1)) a0_0 l0_1)) else (none))) else (none)) else (none)) = some (r1, r2) := by rw [if_pos rfl] at H; exact H
                                    clear H
                                    have H := H1
                                    clear H1
                                    by_cases c30 : 0 ≤ (rd (rd_L1 t181 x32_2) x38_3)
                                    · rw [if_pos c30] at H
                                      have c30b0 : decide (0 ≤ (rd (rd_L1 t181 x32_2) x38_3)) = true := decide_eq_true c30
                                      clear c30
                                      by_cases c31 : (rd (rd_L1 t181 x32_2) x38_3) < (x4_3.length : Int)
                                      · rw [if_pos c31] at H
                                        have c31b0 : decide ((rd (rd_L1 t181 x32_2) x38_3) < (x4_3.length : Int)) = true := decide_eq_true c31
                                        clear c31
                                        obtain ⟨y188, hy188⟩ : ∃ y_ : List Int, y_ = (x4_3.set ((rd (rd_L1 t181 x32_2) x38_3) : Int).toNat (wrap64 ((rd x4_3 (rd (rd_L1 t181 x32_2) x38_3)) + 1))) := ⟨_, rfl⟩
                                        replace H : (if (rd (rd_L1 t181 x32_2) x38_3) < (x5_3.length : Int) then (if rdOf false x5_3 (rd (rd_L1 t181 x32_2) x38_3) = true then (impl_Sprouts_degrees.l1 k3 y188 (x5_3.set ((rd (rd_L1 t181 x32_2) x38_3) : Int).toNat true) (rd_L1 t181 x32_2) t181 (t181.length : Int) x32_2 (rd_L1 t181 x32_2) ((rd_L1 t181 x32_2).length : Int) (wrap64 (x38_3 + 1)) a0_0 l0_1) else (impl_Sprouts_degrees.l1 k3 y188 (x5_3.set ((rd (rd_L1 t181 x32_2) x38_3) : Int).toNat (((rd_L1 t181 x32_2).length : Int) == 1)) (rd_L1 t181 x32_2) t181 (t181.length : Int) x32_2 (rd_L1 t181 x32_2) ((rd_L1 t181 x32_2).length : Int) (wrap64 (x38_3 + 1)) a0_0 l0_1)) else (none)) = some (r1, r2) := by first | (rw [hy188]; with_reducible exact H) | (have H2_ := (Option.bind_some _ _).symm.trans H; rw [hy188]; with_reducible exact H2_) | (have H2_ := (Option.bind_some _ _).symm.trans H; with_reducible exact H2_) | with_reducible exact H | (rw [hy188]; exact H) | exact H
                                        have Ny188 := Aside0.mk hy188
                                        clear hy188
                                        by_cases c33 : (rd (rd_L1 t181 x32_2) x38_3) < (x5_3.length : Int)
                                        · rw [if_pos c33] at H
                                          have c33b0 : decide ((rd (rd_L1 t181 x32_2) x38_3) < (x5_3.length : Int)) = true := decide_eq_true c33
                                          clear c33
                                          obtain ⟨bq34, hbq34⟩ : ∃ b_ : Bool, b_ = (rdOf false x5_3 (rd (rd_L1 t181 x32_2) x38_3)) := ⟨_, rfl⟩
                                          replace H : (if bq34 = true then (impl_Sprouts_degrees.l1 k3 y188 (x5_3.set ((rd (rd_L1 t181 x32_2) x38_3) : Int).toNat true) (rd_L1 t181 x32_2) t181 (t181.length : Int) x32_2 (rd_L1 t181 x32_2) ((rd_L1 t181 x32_2).length : Int) (wrap64 (x38_3 + 1)) a0_0 l0_1) else (impl_Sprouts_degrees.l1 k3 y188 (x5_3.set ((rd (rd_L1 t181 x32_2) x38_3) : Int).toNat (((rd_L1 t181 x32_2).length : Int) == 1)) (rd_L1 t181 x32_2) t181 (t181.length : Int) x32_2 (rd_L1 t181 x32_2) ((rd_L1 t181 x32_2).length : Int) (wrap64 (x38_3 + 1)) a0_0 l0_1)) = some (r1, r2) := by rw [← hbq34] at H; exact H
                                          have Nbq34 := Aside0.mk hbq34
                                          clear hbq34
                                          by_cases c35 : bq34 = true
                                          · subst c35
                                            have H1 : (impl_Sprouts_degrees.l1 k3 y188 (x5_3.set ((rd (rd_L1 t181 x32_2) x38_3) : Int).toNat true) (rd_L1 t181 x32_2) t181 (t181.length : Int) x32_2 (rd_L1 t181 x32_2) ((rd_L1 t181 x32_2).length : Int) (wrap64 (x38_3 + 1)) a0_0 l0_1) = some (r1, r2) := by rw [if_pos rfl] at H; exact H
                                            clear H
                                            have H := H1
                                            clear H1
                                            obtain ⟨y190, hy190⟩ : ∃ y_ : List Bool, y_ = (x5_3.set ((rd (rd_L1 t181 x32_2) x38_3) : Int).toNat true) := ⟨_, rfl⟩
                                            replace H : (impl_Sprouts_degrees.l1 k3 y188 y190 (rd_L1 t181 x32_2) t181 (t181.length : Int) x32_2 (rd_L1 t181 x32_2) ((rd_L1 t181 x32_2).length : Int) (wrap64 (x38_3 + 1)) a0_0 l0_1) = some (r1, r2) := by first | (rw [hy190]; with_reducible exact H) | (have H2_ := (Option.bind_some _ _).symm.trans H; rw [hy190]; with_reducible exact H2_) | (have H2_ := (Option.bind_some _ _).symm.trans H; with_reducible exact H2_) | with_reducible exact H | (rw [hy190]; exact H) | exact H
                                            have Ny190 := Aside0.mk hy190
                                            clear hy190
                                            have H' := Aside0.mk H
                                            clear H
                                            have p185 : 0 ≤ (x38_3 : Int) := of_decide_eq_true (by first | (with_reducible assumption) | assumption)
                                            have q185 : x38_3 < ((rd_L1 t181 x32_2).length : Int) := of_decide_eq_true (by first | (with_reducible assumption) | assumption)
                                            obtain ⟨ad185, e185, hx185_0⟩ := Kd.at_int (Kd.V_reads' HO_30.out.2).2.2 x38_3 p185 q185
                                            cases e185

                                            replace p185 := eq_true p185
                                            replace q185 := eq_true q185
                                            have hcz37_0 : wr.cell? ⟨gb173, 0, none⟩ = some (.int .i64 a0_0) := (blk_cell BK173.out 0).trans rfl
                                            have hcz37_1 : wr.cell? ⟨gb173, 1, none⟩ = some (.slice A0_1 l0_1.length c0_1) := (blk_cell BK173.out 1).trans rfl
                                            have hfz37_0 := blk_frozen BK173.out 0
                                            have hfz37_1 := blk_frozen BK173.out 1
                                            go_wp2_with (first | ((with_reducible refine gate_callee (f := 44) rfl ?_); refine goesL_ (some 46) rfl rfl Try.func44 (by kernel_rfl) rfl #[.int .i64 (rd (rd_L1 t181 x32_2) x38_3), .int .i64 0, .int .i64 (wrap64 (a0_0 - 1))] rfl (by (try simp only [List.map_toArray, List.map_cons, List.map_nil]); first | done | rfl | (simp only [List.length_drop, List.length_take]; rfl)) ?_; (with_reducible refine (impl_within.calls (rd (rd_L1 t181 x32_2) x38_3) 0 (wrap64 (a0_0 - 1)) true _ A28.out).mono ?_); rintro e w' ⟨rfl, ⟨nd, rfl⟩⟩; refine ⟨_, rfl, ?_⟩; have n0_ := Aside0.mk (Kd.R_drewN HO_4.out nd); have n1_ := Aside0.mk (Kd.R_drewN HO_5.out nd); have n2_ := Aside0.mk (NV_drewN HO_30.out nd); have n3_ := Aside0.mk (blk_drewN BK173.out nd); have n4_ := Aside0.mk (pw_below_drewN HB.out nd); clear HO_4 HO_5 HO_30 BK173 HB; have HO_4 := n0_; have HO_5 := n1_; have HO_30 := n2_; have BK173 := n3_; have HB := n4_; clear n0_ n1_ n2_ n3_ n4_; obtain ⟨Ao38, co38, eo38⟩ := Kd.R_slice HO_4.out; subst eo38; have p187 : 0 ≤ ((rd (rd_L1 t181 x32_2) x38_3) : Int) := of_decide_eq_true (by first | (with_reducible assumption) | assumption); have q187 : (rd (rd_L1 t181 x32_2) x38_3) < (x4_3.length : Int) := of_decide_eq_true (by first | (with_reducible assumption) | assumption); obtain ⟨ad187, e187, hx187_0⟩ := Kd.at_int (Kd.R_reads' HO_4.out).2.2 (rd (rd_L1 t181 x32_2) x38_3) p187 q187; cases e187; replace p187 := eq_true p187; replace q187 := eq_true q187; have p32 : 0 ≤ ((rd (rd_L1 t181 x32_2) x38_3) : Int) := of_decide_eq_true (by first | (with_reducible assumption) | assumption); have q32 : ((rd (rd_L1 t181 x32_2) x38_3) : Int) < ((x4_3.length : Int) : Int) := of_decide_eq_true (by first | (with_reducible assumption) | assumption); obtain ⟨go32, co32, eo32, gb32, gl32, cl32, HG32⟩ := Kd.R_form HO_4.out (by omega); (first | cases eo32 | (injection eo32 with ea_ en_ ec_; (first | subst ea_ | (injection ea_ with ea_; subst ea_)); subst ec_; clear en_)); have GB32 := Aside0.mk gb32; have GG32 := Aside0.mk HG32; clear gb32 gl32 HG32; (first | simp only [add_plain] at hx187_0 | skip); obtain ⟨hx32_0, hf32_0⟩ := Kd.R_celln 0 HO_4.out ((rd (rd_L1 t181 x32_2) x38_3) : Int) p32 q32; replace p32 := eq_true p32; replace q32 := eq_true q32; obtain ⟨hy39_, hz39_⟩ := Kd.R_celln 0 HO_4.out ((rd (rd_L1 t181 x32_2) x38_3) : Int) (of_decide_eq_true (by first | (with_reducible assumption) | assumption)) (of_decide_eq_true (by first | (with_reducible assumption) | assumption)); have HP39 := Kd.R_putg HO_4.out ((rd (rd_L1 t181 x32_2) x38_3) : Int) (wrap64 ((rd x4_3 (rd (rd_L1 t181 x32_2) x38_3)) + 1))) | ((with_reducible refine gate_store (t := 2) (p := 53) rfl ?_); refine store_event (t := 2) (p := 53) (v := ?vo_w40) (w1 := ((wr.drewN nd).setCell ⟨go32, ((rd (rd_L1 t181 x32_2) x38_3) : Int).toNat, none⟩ (.int .i64 (wrap64 ((rd x4_3 (rd (rd_L1 t181 x32_2) x38_3)) + 1))))) ?hg ?ho ?hn ?hr ?_; (case ho => rfl); (case hg => rfl); (case hn => rfl); (case hr => first | (go_simp; done) | (go_simp; rfl)); intro w40 hw; have hg : (wr.drewN nd).grownBy w40 (some go32) := (by rw [hw]; exact HP39.2); have hp_ : Kd.R (Kd.int .i64) 2 w40 w.heap.size (fun _ => True) (.slice (some ⟨go32, 0, none⟩) x4_3.length co38) y188 := (by rw [hw, Ny188.out]; exact HP39.1); clear HP39; have n0_ := Aside0.mk (hp_); have n1_ := Aside0.mk (Kd.R_over' (v := (.slice (some ⟨go32, 0, none⟩) x4_3.length co38)) (by (with_reducible repeat (first | apply Kd.R_alloc | apply Kd.R_drewN | apply Kd.R_drew)); exact HO_5.out) (Kd.R_typed HO_4.out) (by decide) hg); have n2_ := Aside0.mk (NV_afterv (v := (.slice (some ⟨go32, 0, none⟩) x4_3.length co38)) (v1 := (.slice (some ⟨go32, 0, none⟩) x4_3.length co38)) (ok := (fun k_ => some k_ ≠ (v179 : Value).ownBlock ∧ k_ ≠ gb173)) (by (with_reducible repeat (first | apply NV_alloc | apply NV_drewN | apply NV_drew)); exact NV_mono HO_30.out (fun _ hk => ⟨⟨hk.2.1, hk.2.2⟩, hk.1⟩)) hg (.inl rfl)); have n3_ := Aside0.mk (blk_grown (g := gb173) (o := .cells #[.int .i64 a0_0, .slice A0_1 l0_1.length c0_1] 27 (0, 0)) (by (with_reducible repeat (first | refine blk_drewN ?_ _ | refine blk_drew ?_ | refine blk_alloc ?_ _)); exact BK173.out) hg (Kd.R_ne HO_4.out BK173.out (by decide))); have n4_ := Aside0.mk ((by rw [hw]; exact below_set (HB.out) GB32.out : Below w.heap.size w w40)); clear HO_4; clear HO_5; clear HO_30; clear BK173; clear HB; have HO_4 := n0_; have HO_5 := n1_; have HO_30 := n2_; have BK173 := n3_; have HB := n4_; clear n0_ n1_ n2_ n3_ n4_; clear hg hw hp_; obtain ⟨Ao41, co41, eo41⟩ := Kd.R_slice HO_5.out; subst eo41; have p189 : 0 ≤ ((rd (rd_L1 t181 x32_2) x38_3) : Int) := of_decide_eq_true (by first | (with_reducible assumption) | assumption); have q189 : (rd (rd_L1 t181 x32_2) x38_3) < (x5_3.length : Int) := of_decide_eq_true (by first | (with_reducible assumption) | assumption); obtain ⟨ad189, e189, hx189_0⟩ := Kd.at_bool (Kd.R_reads' HO_5.out).2.2 (rd (rd_L1 t181 x32_2) x38_3) p189 q189; (try rw [← Nbq34.out] at hx189_0); cases e189; replace p189 := eq_true p189; replace q189 := eq_true q189; have p36 : 0 ≤ ((rd (rd_L1 t181 x32_2) x38_3) : Int) := of_decide_eq_true (by first | (with_reducible assumption) | assumption); have q36 : ((rd (rd_L1 t181 x32_2) x38_3) : Int) < ((x5_3.length : Int) : Int) := of_decide_eq_true (by first | (with_reducible assumption) | assumption); obtain ⟨go36, co36, eo36, gb36, gl36, cl36, HG36⟩ := Kd.R_form HO_5.out (by omega); (first | cases eo36 | (injection eo36 with ea_ en_ ec_; (first | subst ea_ | (injection ea_ with ea_; subst ea_)); subst ec_; clear en_)); have GB36 := Aside0.mk gb36; have GG36 := Aside0.mk HG36; clear gb36 gl36 HG36; (first | simp only [add_plain] at hx189_0 | skip); obtain ⟨hx36_0, hf36_0⟩ := Kd.R_celln false HO_5.out ((rd (rd_L1 t181 x32_2) x38_3) : Int) p36 q36; replace p36 := eq_true p36; replace q36 := eq_true q36; obtain ⟨hy42_, hz42_⟩ := Kd.R_celln false HO_5.out ((rd (rd_L1 t181 x32_2) x38_3) : Int) (of_decide_eq_true (by first | (with_reducible assumption) | assumption)) (of_decide_eq_true (by first | (with_reducible assumption) | assumption)); have HP42 := Kd.R_putg HO_5.out ((rd (rd_L1 t181 x32_2) x38_3) : Int) true) | ((with_reducible refine gate_store (t := 4) (p := 65) rfl ?_); refine store_event (t := 4) (p := 65) (v := ?vo_w43) (w1 := (w40.setCell ⟨go36, ((rd (rd_L1 t181 x32_2) x38_3) : Int).toNat, none⟩ (.bool true))) ?hg ?ho ?hn ?hr ?_; (case ho => rfl); (case hg => rfl); (case hn => rfl); (case hr => first | (go_simp; done) | (go_simp; rfl)); intro w43 hw; have hg : w40.grownBy w43 (some go36) := (by rw [hw]; exact HP42.2); have hp_ : Kd.R Kd.bool 4 w43 w.heap.size (fun _ => True) (.slice (some ⟨go36, 0, none⟩) x5_3.length co41) y190 := (by rw [hw, Ny190.out]; exact HP42.1); clear HP42; have n0_ := Aside0.mk (Kd.R_over' (v := (.slice (some ⟨go36, 0, none⟩) x5_3.length co41)) (by (with_reducible repeat (first | apply Kd.R_alloc | apply Kd.R_drewN | apply Kd.R_drew)); exact HO_4.out) (Kd.R_typed HO_5.out) (by decide) hg); have n1_ := Aside0.mk (hp_); have n2_ := Aside0.mk (NV_afterv (v := (.slice (some ⟨go36, 0, none⟩) x5_3.length co41)) (v1 := (.slice (some ⟨go36, 0, none⟩) x5_3.length co41)) (ok := (fun k_ => some k_ ≠ (.slice (some ⟨go32, 0, none⟩) x4_3.length co38 : Value).ownBlock ∧ k_ ≠ gb173)) (by (with_reducible repeat (first | apply NV_alloc | apply NV_drewN | apply NV_drew)); exact NV_mono HO_30.out (fun _ hk => ⟨⟨hk.2, hk.1.2⟩, hk.1.1⟩)) hg (.inl rfl)); have n3_ := Aside0.mk (blk_grown (g := gb173) (o := .cells #[.int .i64 a0_0, .slice A0_1 l0_1.length c0_1] 27 (0, 0)) (by (with_reducible repeat (first | refine blk_drewN ?_ _ | refine blk_drew ?_ | refine blk_alloc ?_ _)); exact BK173.out) hg (Kd.R_ne HO_5.out BK173.out (by decide))); have n4_ := Aside0.mk ((by rw [hw]; exact below_set (HB.out) GB36.out : Below w.heap.size w w43)); clear HO_4; clear HO_5; clear HO_30; clear BK173; clear HB; have HO_4 := n0_; have HO_5 := n1_; have HO_30 := n2_; have BK173 := n3_; have HB := n4_; clear n0_ n1_ n2_ n3_ n4_; clear hg hw hp_))
                                            go_roundg k3
                                            case measure => have := HJ1.out; have := HK2.out; have := HK3.out; omega
                                            case rel => exact ⟨(y188), (y190), (wrap64 (x38_3 + 1)), (by first | rfl | (simp; done) | (simp [*]; done)), H', ⟨by have := HJ1.out; have := HK2.out; have := HK3.out; omega⟩, ⟨by (with_reducible repeat (first | apply Kd.R_alloc | apply Kd.R_drewN | apply Kd.R_drew)); exact HO_4.out⟩, ⟨by (with_reducible repeat (first | apply Kd.R_alloc | apply Kd.R_drewN | apply Kd.R_drew)); exact HO_5.out⟩, ⟨by (with_reducible repeat (first | apply NV_alloc | apply NV_drewN | apply NV_drew)); exact NV_mono HO_30.out (fun _ hk => ⟨hk.1.1, ⟨hk.2, hk.1.2⟩⟩)⟩, ⟨by (with_reducible repeat (first | refine blk_drewN ?_ _ | refine blk_drew ?_ | refine blk_alloc ?_ _)); exact BK173.out⟩, ⟨by repeat (first | (with_reducible first | exact HB.out | apply below_alloc | apply pw_below_drewN | apply below_drew1 | refine below_set ?_ GE173.out) | exact HB.out)⟩⟩
                                          · replace c35 := Bool.eq_false_iff.mpr c35
                                            subst c35
                                            have H1 : (impl_Sprouts_degrees.l1 k3 y188 (x5_3.set ((rd (rd_L1 t181 x32_2) x38_3) : Int).toNat (((rd_L1 t181 x32_2).length : Int) == 1)) (rd_L1 t181 x32_2) t181 (t181.length : Int) x32_2 (rd_L1 t181 x32_2) ((rd_L1 t181 x32_2).length : Int) (wrap64 (x38_3 + 1)) a0_0 l0_1) = some (r1, r2) := by rw [if_neg (show ¬ (false = true) by decide)] at H; exact H
                                            clear H
                                            have H := H1
                                            clear H1
                                            obtain ⟨y191, hy191⟩ : ∃ y_ : List Bool, y_ = (x5_3.set ((rd (rd_L1 t181 x32_2) x38_3) : Int).toNat (((rd_L1 t181 x32_2).length : Int) == 1)) := ⟨_, rfl⟩
                                            replace H : (impl_Sprouts_degrees.l1 k3 y188 y191 (rd_L1 t181 x32_2) t181 (t181.length : Int) x32_2 (rd_L1 t181 x32_2) ((rd_L1 t181 x32_2).length : Int) (wrap64 (x38_3 + 1)) a0_0 l0_1) = some (r1, r2) := by first | (rw [hy191]; with_reducible exact H) | (have H2_ := (Option.bind_some _ _).symm.trans H; rw [hy191]; with_reducible exact H2_) | (have H2_ := (Option.bind_some _ _).symm.trans H; with_reducible exact H2_) | with_reducible exact H | (rw [hy191]; exact H) | exact H
                                            have Ny191 := Aside0.mk hy191
                                            clear hy191
                                            have H' := Aside0.mk H
                                            clear H
                                            have p185 : 0 ≤ (x38_3 : Int) := of_decide_eq_true (by first | (with_reducible assumption) | assumption)
                                            have q185 : x38_3 < ((rd_L1 t181 x32_2).length : Int) := of_decide_eq_true (by first | (with_reducible assumption) | assumption)
                                            obtain ⟨ad185, e185, hx185_0⟩ := Kd.at_int (Kd.V_reads' HO_30.out.2).2.2 x38_3 p185 q185
                                            cases e185

                                            replace p185 := eq_true p185
                                            replace q185 := eq_true q185
                                            have hcz45_0 : wr.cell? ⟨gb173, 0, none⟩ = some (.int .i64 a0_0) := (blk_cell BK173.out 0).trans rfl
                                            have hcz45_1 : wr.cell? ⟨gb173, 1, none⟩ = some (.slice A0_1 l0_1.length c0_1) := (blk_cell BK173.out 1).trans rfl
                                            have hfz45_0 := blk_frozen BK173.out 0
                                            have hfz45_1 := blk_frozen BK173.out 1
                                            go_wp2_with (first | ((with_reducible refine gate_callee (f := 44) rfl ?_); refine goesL_ (some 46) rfl rfl Try.func44 (by kernel_rfl) rfl #[.int .i64 (rd (rd_L1 t181 x32_2) x38_3), .int .i64 0, .int .i64 (wrap64 (a0_0 - 1))] rfl (by (try simp only [List.map_toArray, List.map_cons, List.map_nil]); first | done | rfl | (simp only [List.length_drop, List.length_take]; rfl)) ?_; (with_reducible refine (impl_within.calls (rd (rd_L1 t181 x32_2) x38_3) 0 (wrap64 (a0_0 - 1)) true _ A28.out).mono ?_); rintro e w' ⟨rfl, ⟨nd, rfl⟩⟩; refine ⟨_, rfl, ?_⟩; have n0_ := Aside0.mk (Kd.R_drewN HO_4.out nd); have n1_ := Aside0.mk (Kd.R_drewN HO_5.out nd); have n2_ := Aside0.mk (NV_drewN HO_30.out nd); have n3_ := Aside0.mk (blk_drewN BK173.out nd); have n4_ := Aside0.mk (pw_below_drewN HB.out nd); clear HO_4 HO_5 HO_30 BK173 HB; have HO_4 := n0_; have HO_5 := n1_; have HO_30 := n2_; have BK173 := n3_; have HB := n4_; clear n0_ n1_ n2_ n3_ n4_; obtain ⟨Ao46, co46, eo46⟩ := Kd.R_slice HO_4.out; subst eo46; have p187 : 0 ≤ ((rd (rd_L1 t181 x32_2) x38_3) : Int) := of_decide_eq_true (by first | (with_reducible assumption) | assumption); have q187 : (rd (rd_L1 t181 x32_2) x38_3) < (x4_3.length : Int) := of_decide_eq_true (by first | (with_reducible assumption) | assumption); obtain ⟨ad187, e187, hx187_0⟩ := Kd.at_int (Kd.R_reads' HO_4.out).2.2 (rd (rd_L1 t181 x32_2) x38_3) p187 q187; cases e187; replace p187 := eq_true p187; replace q187 := eq_true q187; have p32 : 0 ≤ ((rd (rd_L1 t181 x32_2) x38_3) : Int) := of_decide_eq_true (by first | (with_reducible assumption) | assumption); have q32 : ((rd (rd_L1 t181 x32_2) x38_3) : Int) < ((x4_3.length : Int) : Int) := of_decide_eq_true (by first | (with_reducible assumption) | assumption); obtain ⟨go32, co32, eo32, gb32, gl32, cl32, HG32⟩ := Kd.R_form HO_4.out (by omega); (first | cases eo32 | (injection eo32 with ea_ en_ ec_; (first | subst ea_ | (injection ea_ with ea_; subst ea_)); subst ec_; clear en_)); have GB32 := Aside0.mk gb32; have GG32 := Aside0.mk HG32; clear gb32 gl32 HG32; (first | simp only [add_plain] at hx187_0 | skip); obtain ⟨hx32_0, hf32_0⟩ := Kd.R_celln 0 HO_4.out ((rd (rd_L1 t181 x32_2) x38_3) : Int) p32 q32; replace p32 := eq_true p32; replace q32 := eq_true q32; obtain ⟨hy47_, hz47_⟩ := Kd.R_celln 0 HO_4.out ((rd (rd_L1 t181 x32_2) x38_3) : Int) (of_decide_eq_true (by first | (with_reducible assumption) | assumption)) (of_decide_eq_true (by first | (with_reducible assumption) | assumption)); have HP47 := Kd.R_putg HO_4.out ((rd (rd_L1 t181 x32_2) x38_3) : Int) (wrap64 ((rd x4_3 (rd (rd_L1 t181 x32_2) x38_3)) + 1))) | ((with_reducible refine gate_store (t := 2) (p := 53) rfl ?_); refine store_event (t := 2) (p := 53) (v := ?vo_w48) (w1 := ((wr.drewN nd).setCell ⟨go32, ((rd (rd_L1 t181 x32_2) x38_3) : Int).toNat, none⟩ (.int .i64 (wrap64 ((rd x4_3 (rd (rd_L1 t181 x32_2) x38_3)) + 1))))) ?hg ?ho ?hn ?hr ?_; (case ho => rfl); (case hg => rfl); (case hn => rfl); (case hr => first | (go_simp; done) | (go_simp; rfl)); intro w48 hw; have hg : (wr.drewN nd).grownBy w48 (some go32) := (by rw [hw]; exact HP47.2); have hp_ : Kd.R (Kd.int .i64) 2 w48 w.heap.size (fun _ => True) (.slice (some ⟨go32, 0, none⟩) x4_3.length co46) y188 := (by rw [hw, Ny188.out]; exact HP47.1); clear HP47; have n0_ := Aside0.mk (hp_); have n1_ := Aside0.mk (Kd.R_over' (v := (.slice (some ⟨go32, 0, none⟩) x4_3.length co46)) (by (with_reducible repeat (first | apply Kd.R_alloc | apply Kd.R_drewN | apply Kd.R_drew)); exact HO_5.out) (Kd.R_typed HO_4.out) (by decide) hg); have n2_ := Aside0.mk (NV_afterv (v := (.slice (some ⟨go32, 0, none⟩) x4_3.length co46)) (v1 := (.slice (some ⟨go32, 0, none⟩) x4_3.length co46)) (ok := (fun k_ => some k_ ≠ (v179 : Value).ownBlock ∧ k_ ≠ gb173)) (by (with_reducible repeat (first | apply NV_alloc | apply NV_drewN | apply NV_drew)); exact NV_mono HO_30.out (fun _ hk => ⟨⟨hk.2.1, hk.2.2⟩, hk.1⟩)) hg (.inl rfl)); have n3_ := Aside0.mk (blk_grown (g := gb173) (o := .cells #[.int .i64 a0_0, .slice A0_1 l0_1.length c0_1] 27 (0, 0)) (by (with_reducible repeat (first | refine blk_drewN ?_ _ | refine blk_drew ?_ | refine blk_alloc ?_ _)); exact BK173.out) hg (Kd.R_ne HO_4.out BK173.out (by decide))); have n4_ := Aside0.mk ((by rw [hw]; exact below_set (HB.out) GB32.out : Below w.heap.size w w48)); clear HO_4; clear HO_5; clear HO_30; clear BK173; clear HB; have HO_4 := n0_; have HO_5 := n1_; have HO_30 := n2_; have BK173 := n3_; have HB := n4_; clear n0_ n1_ n2_ n3_ n4_; clear hg hw hp_; obtain ⟨Ao49, co49, eo49⟩ := Kd.R_slice HO_5.out; subst eo49; have p189 : 0 ≤ ((rd (rd_L1 t181 x32_2) x38_3) : Int) := of_decide_eq_true (by first | (with_reducible assumption) | assumption); have q189 : (rd (rd_L1 t181 x32_2) x38_3) < (x5_3.length : Int) := of_decide_eq_true (by first | (with_reducible assumption) | assumption); obtain ⟨ad189, e189, hx189_0⟩ := Kd.at_bool (Kd.R_reads' HO_5.out).2.2 (rd (rd_L1 t181 x32_2) x38_3) p189 q189; (try rw [← Nbq34.out] at hx189_0); cases e189; replace p189 := eq_true p189; replace q189 := eq_true q189; have p44 : 0 ≤ ((rd (rd_L1 t181 x32_2) x38_3) : Int) := of_decide_eq_true (by first | (with_reducible assumption) | assumption); have q44 : ((rd (rd_L1 t181 x32_2) x38_3) : Int) < ((x5_3.length : Int) : Int) := of_decide_eq_true (by first | (with_reducible assumption) | assumption); obtain ⟨go44, co44, eo44, gb44, gl44, cl44, HG44⟩ := Kd.R_form HO_5.out (by omega); (first | cases eo44 | (injection eo44 with ea_ en_ ec_; (first | subst ea_ | (injection ea_ with ea_; subst ea_)); subst ec_; clear en_)); have GB44 := Aside0.mk gb44; have GG44 := Aside0.mk HG44; clear gb44 gl44 HG44; (first | simp only [add_plain] at hx189_0 | skip); obtain ⟨hx44_0, hf44_0⟩ := Kd.R_celln false HO_5.out ((rd (rd_L1 t181 x32_2) x38_3) : Int) p44 q44; replace p44 := eq_true p44; replace q44 := eq_true q44; obtain ⟨hy50_, hz50_⟩ := Kd.R_celln false HO_5.out ((rd (rd_L1 t181 x32_2) x38_3) : Int) (of_decide_eq_true (by first | (with_reducible assumption) | assumption)) (of_decide_eq_true (by first | (with_reducible assumption) | assumption)); have HP50 := Kd.R_putg HO_5.out ((rd (rd_L1 t181 x32_2) x38_3) : Int) (((rd_L1 t181 x32_2).length : Int) == 1)) | ((with_reducible refine gate_store (t := 4) (p := 65) rfl ?_); refine store_event (t := 4) (p := 65) (v := ?vo_w51) (w1 := (w48.setCell ⟨go44, ((rd (rd_L1 t181 x32_2) x38_3) : Int).toNat, none⟩ (.bool (((rd_L1 t181 x32_2).length : Int) == 1)))) ?hg ?ho ?hn ?hr ?_; (case ho => rfl); (case hg => rfl); (case hn => rfl); (case hr => first | (go_simp; done) | (go_simp; rfl)); intro w51 hw; have hg : w48.grownBy w51 (some go44) := (by rw [hw]; exact HP50.2); have hp_ : Kd.R Kd.bool 4 w51 w.heap.size (fun _ => True) (.slice (some ⟨go44, 0, none⟩) x5_3.length co49) y191 := (by rw [hw, Ny191.out]; exact HP50.1); clear HP50; have n0_ := Aside0.mk (Kd.R_over' (v := (.slice (some ⟨go44, 0, none⟩) x5_3.length co49)) (by (with_reducible repeat (first | apply Kd.R_alloc | apply Kd.R_drewN | apply Kd.R_drew)); exact HO_4.out) (Kd.R_typed HO_5.out) (by decide) hg); have n1_ := Aside0.mk (hp_); have n2_ := Aside0.mk (NV_afterv (v := (.slice (some ⟨go44, 0, none⟩) x5_3.length co49)) (v1 := (.slice (some ⟨go44, 0, none⟩) x5_3.length co49)) (ok := (fun k_ => some k_ ≠ (.slice (some ⟨go32, 0, none⟩) x4_3.length co46 : Value).ownBlock ∧ k_ ≠ gb173)) (by (with_reducible repeat (first | apply NV_alloc | apply NV_drewN | apply NV_drew)); exact NV_mono HO_30.out (fun _ hk => ⟨⟨hk.2, hk.1.2⟩, hk.1.1⟩)) hg (.inl rfl)); have n3_ := Aside0.mk (blk_grown (g := gb173) (o := .cells #[.int .i64 a0_0, .slice A0_1 l0_1.length c0_1] 27 (0, 0)) (by (with_reducible repeat (first | refine blk_drewN ?_ _ | refine blk_drew ?_ | refine blk_alloc ?_ _)); exact BK173.out) hg (Kd.R_ne HO_5.out BK173.out (by decide))); have n4_ := Aside0.mk ((by rw [hw]; exact below_set (HB.out) GB44.out : Below w.heap.size w w51)); clear HO_4; clear HO_5; clear HO_30; clear BK173; clear HB; have HO_4 := n0_; have HO_5 := n1_; have HO_30 := n2_; have BK173 := n3_; have HB := n4_; clear n0_ n1_ n2_ n3_ n4_; clear hg hw hp_))
                                            go_roundg k3
                                            case measure => have := HJ1.out; have := HK2.out; have := HK3.out; omega
                                            case rel => exact ⟨(y188), (y191), (wrap64 (x38_3 + 1)), (by first | rfl | (simp; done) | (simp [*]; done)), H', ⟨by have := HJ1.out; have := HK2.out; have := HK3.out; omega⟩, ⟨by (with_reducible repeat (first | apply Kd.R_alloc | apply Kd.R_drewN | apply Kd.R_drew)); exact HO_4.out⟩, ⟨by (with_reducible repeat (first | apply Kd.R_alloc | apply Kd.R_drewN | apply Kd.R_drew)); exact HO_5.out⟩, ⟨by (with_reducible repeat (first | apply NV_alloc | apply NV_drewN | apply NV_drew)); exact NV_mono HO_30.out (fun _ hk => ⟨hk.1.1, ⟨hk.2, hk.1.2⟩⟩)⟩, ⟨by (with_reducible repeat (first | refine blk_drewN ?_ _ | refine blk_drew ?_ | refine blk_alloc ?_ _)); exact BK173.out⟩, ⟨by repeat (first | (with_reducible first | exact HB.out | apply below_alloc | apply pw_below_drewN | apply below_drew1 | refine below_set ?_ GE173.out) | exact HB.out)⟩⟩
                                        · rw [if_neg c33] at H
                                          exact absurd H (by simp)
                                      · rw [if_neg c31] at H
                                        exact absurd H (by simp)
                                    · rw [if_neg c30] at H
                                      exact absurd H (by simp)
                                  · replace c29 := Bool.eq_false_iff.mpr c29
                                    subst c29
                                    have H1 : (some (([] : List Int), false)) = some (r1, r2) := by rw [if_neg (show ¬ (false = true) by decide)] at H; exact H
                                    clear H
                                    have H := H1
                                    clear H1
                                    simp only [Option.some.injEq, Prod.mk.injEq] at H
                                    obtain ⟨rfl, rfl⟩ := H
                                    have p185 : 0 ≤ (x38_3 : Int) := of_decide_eq_true (by first | (with_reducible assumption) | assumption)
                                    have q185 : x38_3 < ((rd_L1 t181 x32_2).length : Int) := of_decide_eq_true (by first | (with_reducible assumption) | assumption)
                                    obtain ⟨ad185, e185, hx185_0⟩ := Kd.at_int (Kd.V_reads' HO_30.out.2).2.2 x38_3 p185 q185
                                    cases e185

                                    replace p185 := eq_true p185
                                    replace q185 := eq_true q185
                                    have hcz52_0 : wr.cell? ⟨gb173, 0, none⟩ = some (.int .i64 a0_0) := (blk_cell BK173.out 0).trans rfl
                                    have hcz52_1 : wr.cell? ⟨gb173, 1, none⟩ = some (.slice A0_1 l0_1.length c0_1) := (blk_cell BK173.out 1).trans rfl
                                    have hfz52_0 := blk_frozen BK173.out 0
                                    have hfz52_1 := blk_frozen BK173.out 1
                                    go_wp2_with (first | ((with_reducible refine gate_callee (f := 44) rfl ?_); refine goesL_ (some 46) rfl rfl Try.func44 (by kernel_rfl) rfl #[.int .i64 (rd (rd_L1 t181 x32_2) x38_3), .int .i64 0, .int .i64 (wrap64 (a0_0 - 1))] rfl (by (try simp only [List.map_toArray, List.map_cons, List.map_nil]); first | done | rfl | (simp only [List.length_drop, List.length_take]; rfl)) ?_; (with_reducible refine (impl_within.calls (rd (rd_L1 t181 x32_2) x38_3) 0 (wrap64 (a0_0 - 1)) false _ A28.out).mono ?_); rintro e w' ⟨rfl, ⟨nd, rfl⟩⟩; refine ⟨_, rfl, ?_⟩))
                                    go_ret2
                                    exact ⟨_, by first | rfl | (simp [errW_none, errW_some] <;> rfl) | (simp [*, errW_none, errW_some] <;> rfl), by first | exact Kd.R_nil _ _ _ _ _ | exact Kd.N_nil _ _ _ _ _ | exact Kd.V_nil _ _ _ _ _ | exact Kd.Q_nil _ _ _ _ _ | exact Kd.S_nil _ _ _ _ _, by repeat (first | (with_reducible first | exact HB.out | apply below_alloc | apply pw_below_drewN | apply below_drew1 | refine below_set ?_ GE173.out) | exact HB.out)⟩
                                · rw [if_neg c27] at H
                                  exact absurd H (by simp)
                              · rw [if_neg c26] at H
                                exact absurd H (by simp)
                            · rw [if_neg c25] at H
                              have c25b0 : decide (x38_3 < ((rd_L1 t181 x32_2).length : Int)) = false := decide_eq_false c25
                              clear c25
                              by_cases c53 : ((rd_L1 t181 x32_2).length : Int) = 0
                              · rw [if_pos c53] at H
                                have c53b0 : (((rd_L1 t181 x32_2).length : Int) == 0) = true := beq_iff_eq.mpr c53
                                have c53b1 : (((rd_L1 t181 x32_2).length : Int) != 0) = false := bne_eq_false_iff_eq.mpr c53
                                clear c53
                                simp only [Option.some.injEq, Prod.mk.injEq] at H
                                obtain ⟨rfl, rfl⟩ := H
                                go_wp2
                                go_ret2
                                exact ⟨_, by first | rfl | (simp [errW_none, errW_some] <;> rfl) | (simp [*, errW_none, errW_some] <;> rfl), by first | exact Kd.R_nil _ _ _ _ _ | exact Kd.N_nil _ _ _ _ _ | exact Kd.V_nil _ _ _ _ _ | exact Kd.Q_nil _ _ _ _ _ | exact Kd.S_nil _ _ _ _ _, by repeat (first | (with_reducible first | exact HB.out | apply below_alloc | apply pw_below_drewN | apply below_drew1 | refine below_set ?_ GE173.out) | exact HB.out)⟩
                              · rw [if_neg c53] at H
                                have c53b0 : (((rd_L1 t181 x32_2).length : Int) == 0) = false := beq_eq_false_iff_ne.mpr c53
                                have c53b1 : (((rd_L1 t181 x32_2).length : Int) != 0) = true := bne_iff_ne.mpr c53
                                have c53b2 : ¬ ((rd_L1 t181 x32_2) = []) := fun h_ => c53 (by rw [h_]; rfl)
                                have H' := Aside0.mk H
                                clear H
                                go_wp2
                                go_roundg k3
                                case measure => have := HJ1.out; have := HK2.out; have := HK3.out; omega
                                case rel => exact ⟨(x4_3), (x5_3), (wrap64 (x32_2 + 1)), (by first | rfl | (simp; done) | (simp [*]; done)), H', ⟨by have := HJ1.out; have := HK2.out; have := HK3.out; omega⟩, ⟨by (with_reducible repeat (first | apply Kd.R_alloc | apply Kd.R_drewN | apply Kd.R_drew)); exact HO_4.out⟩, ⟨by (with_reducible repeat (first | apply Kd.R_alloc | apply Kd.R_drewN | apply Kd.R_drew)); exact HO_5.out⟩, ⟨by (with_reducible repeat (first | apply Kd.N_alloc | apply Kd.N_drewN | apply Kd.N_drew)); exact HO_30.out.1⟩, ⟨by (with_reducible repeat (first | refine blk_drewN ?_ _ | refine blk_drew ?_ | refine blk_alloc ?_ _)); exact BK173.out⟩, ⟨by repeat (first | (with_reducible first | exact HB.out | apply below_alloc | apply pw_below_drewN | apply below_drew1 | refine below_set ?_ GE173.out) | exact HB.out)⟩⟩
                      · rw [if_neg c24] at H
                        exact absurd H (by simp)
                    · rw [if_neg c23] at H
                      exact absurd H (by simp)
                  · rw [if_neg c22] at H
                    have c22b0 : decide (x32_2 < (t181.length : Int)) = false := decide_eq_false c22
                    clear c22
                    have H' := Aside0.mk H
                    clear H
                    obtain ⟨Ao54, co54, eo54⟩ := Kd.R_slice HO_4.out
                    subst eo54
                    go_wp2
                    go_loopg [73] k2 (fun kq v73 w' => ∃ (x4_3 : List Int) (x73_3 : Int), v73 = .int .i64 x73_3 ∧ Aside0 (impl_Sprouts_degrees.l2 kq x4_3 x5_2 (x4_2.length : Int) x73_3 = some (r1, r2)) ∧ Aside0 (kq ≤ k2) ∧ Aside0 (Kd.R (Kd.int .i64) 2 w' w.heap.size (fun _ => True) (.slice Ao54 x4_2.length co54) x4_3) ∧ Aside0 (Kd.R Kd.bool 4 w' w.heap.size (fun _ => True) v179 x5_2) ∧ Aside0 (w'.heap[gb173]? = some (.cells #[.int .i64 a0_0, (.slice A0_1 l0_1.length c0_1)] 27 (0, 0))) ∧ Aside0 (Below w.heap.size w w'))
                    case atStart => exact ⟨(x4_2), (0), (by first | rfl | (simp; done) | (simp [*]; done)), H', ⟨Nat.le_refl _⟩, ⟨by (with_reducible repeat (first | apply Kd.R_alloc | apply Kd.R_drewN | apply Kd.R_drew)); exact HO_4.out⟩, ⟨by (with_reducible repeat (first | apply Kd.R_alloc | apply Kd.R_drewN | apply Kd.R_drew)); exact HO_5.out⟩, ⟨by (with_reducible repeat (first | refine blk_drewN ?_ _ | refine blk_drew ?_ | refine blk_alloc ?_ _)); exact BK173.out⟩, ⟨by repeat (first | (with_reducible first | exact HB.out | apply below_alloc | apply pw_below_drewN | apply below_drew1 | refine below_set ?_ GE173.out) | exact HB.out)⟩⟩
                    case round =>
                      clear H'
                      try clear c1
                      try clear p1
                      try clear q1
                      try clear hx1
                      try clear c2
                      try clear p2
                      try clear c3
                      try clear p3
                      try clear q3
                      try clear hx3
                      try clear hf3
                      try clear c4
                      try clear p4
                      try clear q4
                      try clear hx4
                      try clear hf4
                      try clear c5
                      try clear p6
                      try clear c8
                      try clear c9
                      try clear c9b0
                      try clear c9b1
                      try clear c10
                      try clear c10b0
                      try clear c10b1
                      try clear c11
                      try clear c11b0
                      try clear c11b1
                      try clear c18
                      try clear p18
                      try clear q18
                      try clear hx18
                      try clear c22
                      try clear c22b0
                      try clear c23
                      try clear c23b0
                      try clear c24
                      try clear c24b0
                      try clear c25
                      try clear c25b0
                      try clear c26
                      try clear c26b0
                      try clear c27
                      try clear c27b0
                      try clear c29
                      try clear c30
                      try clear c30b0
                      try clear c31
                      try clear c31b0
                      try clear p32
                      try clear q32
                      try clear hx32
                      try clear hf32
                      try clear c33
                      try clear c33b0
                      try clear q34
                      try clear c35
                      try clear p36
                      try clear q36
                      try clear hx36
                      try clear hf36
                      try clear c44
                      try clear p44
                      try clear q44
                      try clear hx44
                      try clear hf44
                      try clear c45
                      try clear c53
                      try clear c53b0
                      try clear c53b1
                      try clear c53b2
                      try clear hcz19_0
                      try clear hcz19_1
                      try clear hcz37_0
                      try clear hcz37_1
                      try clear hcz45_0
                      try clear hcz45_1
                      try clear hcz52_0
                      try clear hcz52_1
                      try clear hcz6_0
                      try clear hcz6_1
                      try clear hcz7_0
                      try clear hcz7_1
                      try clear hfz19_0
                      try clear hfz19_1
                      try clear hfz37_0
                      try clear hfz37_1
                      try clear hfz45_0
                      try clear hfz45_1
                      try clear hfz52_0
                      try clear hfz52_1
                      try clear hfz6_0
                      try clear hfz6_1
                      try clear hfz7_0
                      try clear hfz7_1
                      try clear hx184_0
                      try clear hx185_0
                      try clear hx187_0
                      try clear hx189_0
                      try clear hx32_0
                      try clear hx36_0
                      try clear hx44_0
                      try clear p1
                      try clear p18
                      try clear p184
                      try clear p185
                      try clear p187
                      try clear p189
                      try clear p2
                      try clear p32
                      try clear p36
                      try clear p44
                      try clear q1
                      try clear q18
                      try clear q184
                      try clear q185
                      try clear q187
                      try clear q189
                      try clear q32
                      try clear q36
                      try clear q44
                      obtain ⟨x4_3, x73_3, rfl, HA, HK3, HO_4, HO_5, BK173, HB⟩ := hrel
                      have hl4_3 := (Kd.R_reads' HO_4.out).1
                      rw [hl4_3] at HO_4
                      (try simp only [hl4_3])
                      (try simp only [hl4_3] at BK173)
                      (try simp only [hl4_3] at HO_5)
                      cases gk with
                      | zero => exact absurd HA.out (by simp [impl_Sprouts_degrees.l2])
                      | succ k3 =>
                        have H := HA.out
                        clear HA
                        simp only [impl_Sprouts_degrees.l2] at H
                        by_cases c55 : x73_3 < (x4_2.length : Int)
                        · rw [if_pos c55] at H
                          have c55b0 : decide (x73_3 < (x4_2.length : Int)) = true := decide_eq_true c55
                          clear c55
                          by_cases c56 : 0 ≤ x73_3
                          · rw [if_pos c56] at H
                            have c56b0 : decide (0 ≤ x73_3) = true := decide_eq_true c56
                            clear c56
                            by_cases c57 : x73_3 < (x4_3.length : Int)
                            · rw [if_pos c57] at H
                              have c57b0 : decide (x73_3 < (x4_3.length : Int)) = true := decide_eq_true c57
                              clear c57
                              have HC58 := Aside0.mk H
                              clear H
                              have p192 : 0 ≤ (x73_3 : Int) := of_decide_eq_true (by first | (with_reducible assumption) | assumption)
                              have q192 : x73_3 < (x4_3.length : Int) := of_decide_eq_true (by first | (with_reducible assumption) | assumption)
                              obtain ⟨ad192, e192, hx192_0⟩ := Kd.at_int (Kd.R_reads' HO_4.out).2.2 x73_3 p192 q192
                              cases e192
                              replace p192 := eq_true p192
                              replace q192 := eq_true q192
                              go_upto_region 21 with (fail)
                              go_cut [90] (fun v90 wc => ∃ (kq : Nat) (x90_57 : Bool), v90 = .bool x90_57 ∧ Aside0 (impl_Sprouts_degrees.j4 kq x4_3 x5_2 x73_3 (x4_2.length : Int) x73_3 x90_57 = some (r1, r2)) ∧ Aside0 (kq ≤ k3) ∧ Aside0 (Kd.R (Kd.int .i64) 2 wc w.heap.size (fun _ => True) (.slice (some ad192) x4_3.length co54) x4_3) ∧ Aside0 (Kd.R Kd.bool 4 wc w.heap.size (fun _ => True) v179 x5_2) ∧ Aside0 (wc.heap[gb173]? = some (.cells #[.int .i64 a0_0, (.slice A0_1 l0_1.length c0_1)] 27 (0, 0))) ∧ Aside0 (Below w.heap.size w wc))
                              case first =>
                                have H := HC58.out
                                clear HC58
                                replace H := Option.bind_eq_some_iff.mp H
                                obtain ⟨t193, A590, H⟩ := H
                                replace H : (if t193 = true then (if x73_3 < (x5_2.length : Int) then (if rdOf false x5_2 x73_3 = true then (impl_Sprouts_degrees.j4 k3 x4_3 x5_2 x73_3 (x4_2.length : Int) x73_3 (decide ((rd x4_3 x73_3) > 1))) else (impl_Sprouts_degrees.j4 k3 x4_3 x5_2 x73_3 (x4_2.length : Int) x73_3 false)) else (none)) else (impl_Sprouts_degrees.j4 k3 x4_3 x5_2 x73_3 (x4_2.length : Int) x73_3 true)) = some (r1, r2) := H
                                have A59 := Aside0.mk A590
                                clear A590
                                by_cases c60 : t193 = true
                                · subst c60
                                  have H1 : (if x73_3 < (x5_2.length : Int) then (if rdOf false x5_2 x73_3 = true then (impl_Sprouts_degrees.j4 k3 x4_3 x5_2 x73_3 (x4_2.length : Int) x73_3 (decide ((rd x4_3 x73_3) > 1))) else (impl_Sprouts_degrees.j4 k3 x4_3 x5_2 x73_3 (x4_2.length : Int) x73_3 false)) else (none)) = some (r1, r2) := by rw [if_pos rfl] at H; exact H
                                  clear H
                                  have H := H1
                                  clear H1
                                  by_cases c61 : x73_3 < (x5_2.length : Int)
                                  · rw [if_pos c61] at H
                                    have c61b0 : decide (x73_3 < (x5_2.length : Int)) = true := decide_eq_true c61
                                    clear c61
                                    (first | rw [c61b0] | (simp only [i64_w, i32_w]; rw [c61b0]) | skip)
                                    obtain ⟨bq62, hbq62⟩ : ∃ b_ : Bool, b_ = (rdOf false x5_2 x73_3) := ⟨_, rfl⟩
                                    replace H : (if bq62 = true then (impl_Sprouts_degrees.j4 k3 x4_3 x5_2 x73_3 (x4_2.length : Int) x73_3 (decide ((rd x4_3 x73_3) > 1))) else (impl_Sprouts_degrees.j4 k3 x4_3 x5_2 x73_3 (x4_2.length : Int) x73_3 false)) = some (r1, r2) := by rw [← hbq62] at H; exact H
                                    have Nbq62 := Aside0.mk hbq62
                                    clear hbq62
                                    by_cases c63 : bq62 = true
                                    · subst c63
                                      have H1 : (impl_Sprouts_degrees.j4 k3 x4_3 x5_2 x73_3 (x4_2.length : Int) x73_3 (decide ((rd x4_3 x73_3) > 1))) = some (r1, r2) := by rw [if_pos rfl] at H; exact H
                                      clear H
                                      have H := H1
                                      clear H1
                                      have H' := Aside0.mk H
                                      clear H
                                      go_wp2_with (first | ((with_reducible refine gate_callee (f := 44) rfl ?_); refine goesL_ (some 79) rfl rfl Try.func44 (by kernel_rfl) rfl #[.int .i64 (rd x4_3 x73_3), .int .i64 1, .int .i64 3] rfl (by (try simp only [List.map_toArray, List.map_cons, List.map_nil]); first | done | rfl | (simp only [List.length_drop, List.length_take]; rfl)) ?_; (with_reducible refine (impl_within.calls (rd x4_3 x73_3) 1 3 true _ A59.out).mono ?_); rintro e w' ⟨rfl, ⟨nd, rfl⟩⟩; refine ⟨_, rfl, ?_⟩; obtain ⟨Ao64, co64, eo64⟩ := Kd.R_slice HO_5.out; subst eo64; have p194 : 0 ≤ (x73_3 : Int) := of_decide_eq_true (by first | (with_reducible assumption) | assumption); have q194 : x73_3 < (x5_2.length : Int) := of_decide_eq_true (by first | (with_reducible assumption) | assumption); obtain ⟨ad194, e194, hx194_0⟩ := Kd.at_bool (Kd.R_reads' HO_5.out).2.2 x73_3 p194 q194; (try rw [← Nbq62.out] at hx194_0); cases e194; replace p194 := eq_true p194; replace q194 := eq_true q194))
                                      go_meet
                                      case rel => exact ⟨_, (decide ((rd x4_3 x73_3) > 1)), (by first | rfl | (simp; done) | (simp [*]; done)), H', ⟨by have := HJ1.out; have := HK2.out; have := HK3.out; first | omega | exact Nat.le_refl _⟩, ⟨by (try simp only [hl4_3]); (with_reducible repeat (first | apply Kd.R_alloc | apply Kd.R_drewN | apply Kd.R_drew)); exact HO_4.out⟩, ⟨by (try simp only [hl4_3]); (with_reducible repeat (first | apply Kd.R_alloc | apply Kd.R_drewN | apply Kd.R_drew)); exact HO_5.out⟩, ⟨by (try simp only [hl4_3]); (with_reducible repeat (first | refine blk_drewN ?_ _ | refine blk_drew ?_ | refine blk_alloc ?_ _)); exact BK173.out⟩, ⟨by repeat (first | (with_reducible first | exact HB.out | apply below_alloc | apply pw_below_drewN | apply below_drew1 | refine below_set ?_ GE173.out) | exact HB.out)⟩⟩
                                    · replace c63 := Bool.eq_false_iff.mpr c63
                                      subst c63
                                      have H1 : (impl_Sprouts_degrees.j4 k3 x4_3 x5_2 x73_3 (x4_2.length : Int) x73_3 false) = some (r1, r2) := by rw [if_neg (show ¬ (false = true) by decide)] at H; exact H
                                      clear H
                                      have H := H1
                                      clear H1
                                      have H' := Aside0.mk H
                                      clear H
                                      go_wp2_with (first | ((with_reducible refine gate_callee (f := 44) rfl ?_); refine goesL_ (some 79) rfl rfl Try.func44 (by kernel_rfl) rfl #[.int .i64 (rd x4_3 x73_3), .int .i64 1, .int .i64 3] rfl (by (try simp only [List.map_toArray, List.map_cons, List.map_nil]); first | done | rfl | (simp only [List.length_drop, List.length_take]; rfl)) ?_; (with_reducible refine (impl_within.calls (rd x4_3 x73_3) 1 3 true _ A59.out).mono ?_); rintro e w' ⟨rfl, ⟨nd, rfl⟩⟩; refine ⟨_, rfl, ?_⟩; obtain ⟨Ao65, co65, eo65⟩ := Kd.R_slice HO_5.out; subst eo65; have p194 : 0 ≤ (x73_3 : Int) := of_decide_eq_true (by first | (with_reducible assumption) | assumption); have q194 : x73_3 < (x5_2.length : Int) := of_decide_eq_true (by first | (with_reducible assumption) | assumption); obtain ⟨ad194, e194, hx194_0⟩ := Kd.at_bool (Kd.R_reads' HO_5.out).2.2 x73_3 p194 q194; (try rw [← Nbq62.out] at hx194_0); cases e194; replace p194 := eq_true p194; replace q194 := eq_true q194))
                                      go_meet
                                      case rel => exact ⟨_, (false), (by first | rfl | (simp; done) | (simp [*]; done)), H', ⟨by have := HJ1.out; have := HK2.out; have := HK3.out; first | omega | exact Nat.le_refl _⟩, ⟨by (try simp only [hl4_3]); (with_reducible repeat (first | apply Kd.R_alloc | apply Kd.R_drewN | apply Kd.R_drew)); exact HO_4.out⟩, ⟨by (try simp only [hl4_3]); (with_reducible repeat (first | apply Kd.R_alloc | apply Kd.R_drewN | apply Kd.R_drew)); exact HO_5.out⟩, ⟨by (try simp only [hl4_3]); (with_reducible repeat (first | refine blk_drewN ?_ _ | refine blk_drew ?_ | refine blk_alloc ?_ _)); exact BK173.out⟩, ⟨by repeat (first | (with_reducible first | exact HB.out | apply below_alloc | apply pw_below_drewN | apply below_drew1 | refine below_set ?_ GE173.out) | exact HB.out)⟩⟩
                                  · rw [if_neg c61] at H
                                    exact absurd H (by simp)
                                · replace c60 := Bool.eq_false_iff.mpr c60
                                  subst c60
                                  have H1 : (impl_Sprouts_degrees.j4 k3 x4_3 x5_2 x73_3 (x4_2.length : Int) x73_3 true) = some (r1, r2) := by rw [if_neg (show ¬ (false = true) by decide)] at H; exact H
                                  clear H
                                  have H := H1
                                  clear H1
                                  have H' := Aside0.mk H
                                  clear H
                                  go_wp2_with (first | ((with_reducible refine gate_callee (f := 44) rfl ?_); refine goesL_ (some 79) rfl rfl Try.func44 (by kernel_rfl) rfl #[.int .i64 (rd x4_3 x73_3), .int .i64 1, .int .i64 3] rfl (by (try simp only [List.map_toArray, List.map_cons, List.map_nil]); first | done | rfl | (simp only [List.length_drop, List.length_take]; rfl)) ?_; (with_reducible refine (impl_within.calls (rd x4_3 x73_3) 1 3 false _ A59.out).mono ?_); rintro e w' ⟨rfl, ⟨nd, rfl⟩⟩; refine ⟨_, rfl, ?_⟩))
                                  go_meet
                                  case rel => exact ⟨_, (true), (by first | rfl | (simp; done) | (simp [*]; done)), H', ⟨by have := HJ1.out; have := HK2.out; have := HK3.out; first | omega | exact Nat.le_refl _⟩, ⟨by (try simp only [hl4_3]); (with_reducible repeat (first | apply Kd.R_alloc | apply Kd.R_drewN | apply Kd.R_drew)); exact HO_4.out⟩, ⟨by (try simp only [hl4_3]); (with_reducible repeat (first | apply Kd.R_alloc | apply Kd.R_drewN | apply Kd.R_drew)); exact HO_5.out⟩, ⟨by (try simp only [hl4_3]); (with_reducible repeat (first | refine blk_drewN ?_ _ | refine blk_drew ?_ | refine blk_alloc ?_ _)); exact BK173.out⟩, ⟨by repeat (first | (with_reducible first | exact HB.out | apply below_alloc | apply pw_below_drewN | apply below_drew1 | refine below_set ?_ GE173.out) | exact HB.out)⟩⟩
                              case rest =>
                                clear HC58
                                try clear c1
                                try clear p1
                                try clear q1
                                try clear hx1
                                try clear c2
                                try clear p2
                                try clear c3
                                try clear p3
                                try clear q3
                                try clear hx3
                                try clear hf3
                                try clear c4
                                try clear p4
                                try clear q4
                                try clear hx4
                                try clear hf4
                                try clear c5
                                try clear c6
                                try clear p6
                                try clear q6
                                try clear c8
                                try clear c9
                                try clear c9b0
                                try clear c9b1
                                try clear c10
                                try clear c10b0
                                try clear c10b1
                                try clear c11
                                try clear c11b0
                                try clear c11b1
                                try clear c18
                                try clear p18
                                try clear q18
                                try clear hx18
                                try clear p19
                                try clear q19
                                try clear hx19
                                try clear c22
                                try clear c22b0
                                try clear c23
                                try clear c23b0
                                try clear c24
                                try clear c24b0
                                try clear c25
                                try clear c25b0
                                try clear c26
                                try clear c26b0
                                try clear c27
                                try clear c27b0
                                try clear c29
                                try clear c30
                                try clear c30b0
                                try clear c31
                                try clear c31b0
                                try clear p32
                                try clear q32
                                try clear hx32
                                try clear hf32
                                try clear c33
                                try clear c33b0
                                try clear q34
                                try clear c35
                                try clear p36
                                try clear q36
                                try clear hx36
                                try clear hf36
                                try clear c44
                                try clear p44
                                try clear q44
                                try clear hx44
                                try clear hf44
                                try clear c45
                                try clear c53
                                try clear c53b0
                                try clear c53b1
                                try clear c53b2
                                try clear c55
                                try clear c55b0
                                try clear c56
                                try clear c56b0
                                try clear c57
                                try clear c57b0
                                try clear c60
                                try clear c61
                                try clear c61b0
                                try clear q62
                                try clear c63
                                try clear p64
                                try clear hcz19_0
                                try clear hcz19_1
                                try clear hcz37_0
                                try clear hcz37_1
                                try clear hcz45_0
                                try clear hcz45_1
                                try clear hcz52_0
                                try clear hcz52_1
                                try clear hcz6_0
                                try clear hcz6_1
                                try clear hcz7_0
                                try clear hcz7_1
                                try clear hfz19_0
                                try clear hfz19_1
                                try clear hfz37_0
                                try clear hfz37_1
                                try clear hfz45_0
                                try clear hfz45_1
                                try clear hfz52_0
                                try clear hfz52_1
                                try clear hfz6_0
                                try clear hfz6_1
                                try clear hfz7_0
                                try clear hfz7_1
                                try clear hx184_0
                                try clear hx185_0
                                try clear hx187_0
                                try clear hx189_0
                                try clear hx192_0
                                try clear hx194_0
                                try clear hx32_0
                                try clear hx36_0
                                try clear hx44_0
                                try clear p1
                                try clear p18
                                try clear p184
                                try clear p185
                                try clear p187
                                try clear p189
                                try clear p192
                                try clear p194
                                try clear p2
                                try clear p3
                                try clear p32
                                try clear p36
                                try clear p4
                                try clear p44
                                try clear p6
                                try clear q1
                                try clear q18
                                try clear q184
                                try clear q185
                                try clear q187
                                try clear q189
                                try clear q192
                                try clear q194
                                try clear q3
                                try clear q32
                                try clear q34
                                try clear q36
                                try clear q4
                                try clear q44
                                obtain ⟨kq, x90_57, rfl, HA, HJ57, HO_4, HO_5, BK173, HB⟩ := hcut
                                cases kq with
                                | zero => exact absurd HA.out (by simp [impl_Sprouts_degrees.j4])
                                | succ kj57 =>
                                  have H := HA.out
                                  clear HA
                                  simp only [impl_Sprouts_degrees.j4] at H
                                  by_cases c66 : x90_57 = true
                                  · subst c66
                                    have H1 : (some (([] : List Int), false)) = some (r1, r2) := by rw [if_pos rfl] at H; exact H
                                    clear H
                                    have H := H1
                                    clear H1
                                    simp only [Option.some.injEq, Prod.mk.injEq] at H
                                    obtain ⟨rfl, rfl⟩ := H
                                    go_wp2
                                    go_ret2
                                    exact ⟨_, by first | rfl | (simp [errW_none, errW_some] <;> rfl) | (simp [*, errW_none, errW_some] <;> rfl), by first | exact Kd.R_nil _ _ _ _ _ | exact Kd.N_nil _ _ _ _ _ | exact Kd.V_nil _ _ _ _ _ | exact Kd.Q_nil _ _ _ _ _ | exact Kd.S_nil _ _ _ _ _, by repeat (first | (with_reducible first | exact HB.out | apply below_alloc | apply pw_below_drewN | apply below_drew1 | refine below_set ?_ GE173.out) | exact HB.out)⟩
                                  · replace c66 := Bool.eq_false_iff.mpr c66
                                    subst c66
                                    have H1 : (if 0 ≤ x73_3 then (if x73_3 < (x5_2.length : Int) then (if rdOf false x5_2 x73_3 = true then (if x73_3 < (x4_3.length : Int) then (impl_Sprouts_degrees.l2 kj57 (x4_3.set (x73_3 : Int).toNat 0) x5_2 (x4_2.length : Int) (wrap64 (x73_3 + 1))) else (none)) else (impl_Sprouts_degrees.l2 kj57 x4_3 x5_2 (x4_2.length : Int) (wrap64 (x73_3 + 1)))) else (none)) else (none)) = some (r1, r2) := by rw [if_neg (show ¬ (false = true) by decide)] at H; exact H
                                    clear H
                                    have H := H1
                                    clear H1
                                    by_cases c67 : 0 ≤ x73_3
                                    · rw [if_pos c67] at H
                                      have c67b0 : decide (0 ≤ x73_3) = true := decide_eq_true c67
                                      clear c67
                                      by_cases c68 : x73_3 < (x5_2.length : Int)
                                      · rw [if_pos c68] at H
                                        have c68b0 : decide (x73_3 < (x5_2.length : Int)) = true := decide_eq_true c68
                                        clear c68
                                        obtain ⟨bq69, hbq69⟩ : ∃ b_ : Bool, b_ = (rdOf false x5_2 x73_3) := ⟨_, rfl⟩
                                        replace H : (if bq69 = true then (if x73_3 < (x4_3.length : Int) then (impl_Sprouts_degrees.l2 kj57 (x4_3.set (x73_3 : Int).toNat 0) x5_2 (x4_2.length : Int) (wrap64 (x73_3 + 1))) else (none)) else (impl_Sprouts_degrees.l2 kj57 x4_3 x5_2 (x4_2.length : Int) (wrap64 (x73_3 + 1)))) = some (r1, r2) := by rw [← hbq69] at H; exact H
                                        have Nbq69 := Aside0.mk hbq69
                                        clear hbq69
                                        by_cases c70 : bq69 = true
                                        · subst c70
                                          have H1 : (if x73_3 < (x4_3.length : Int) then (impl_Sprouts_degrees.l2 kj57 (x4_3.set (x73_3 : Int).toNat 0) x5_2 (x4_2.length : Int) (wrap64 (x73_3 + 1))) else (none)) = some (r1, r2) := by rw [if_pos rfl] at H; exact H
                                          clear H
                                          have H := H1
                                          clear H1
                                          by_cases c71 : x73_3 < (x4_3.length : Int)
                                          · rw [if_pos c71] at H
                                            have c71b0 : decide (x73_3 < (x4_3.length : Int)) = true := decide_eq_true c71
                                            clear c71
                                            obtain ⟨y196, hy196⟩ : ∃ y_ : List Int, y_ = (x4_3.set (x73_3 : Int).toNat 0) := ⟨_, rfl⟩
                                            replace H : (impl_Sprouts_degrees.l2 kj57 y196 x5_2 (x4_2.length : Int) (wrap64 (x73_3 + 1))) = some (r1, r2) := by first | (rw [hy196]; with_reducible exact H) | (have H2_ := (Option.bind_some _ _).symm.trans H; rw [hy196]; with_reducible exact H2_) | (have H2_ := (Option.bind_some _ _).symm.trans H; with_reducible exact H2_) | with_reducible exact H | (rw [hy196]; exact H) | exact H
                                            have Ny196 := Aside0.mk hy196
                                            clear hy196
                                            have H' := Aside0.mk H
                                            clear H
                                            obtain ⟨Ao73, co73, eo73⟩ := Kd.R_slice HO_5.out
                                            subst eo73
                                            have p195 : 0 ≤ (x73_3 : Int) := of_decide_eq_true (by first | (with_reducible assumption) | assumption)
                                            have q195 : x73_3 < (x5_2.length : Int) := of_decide_eq_true (by first | (with_reducible assumption) | assumption)
                                            obtain ⟨ad195, e195, hx195_0⟩ := Kd.at_bool (Kd.R_reads' HO_5.out).2.2 x73_3 p195 q195
                                            (try rw [← Nbq69.out] at hx195_0)
                                            cases e195
                                            replace p195 := eq_true p195
                                            replace q195 := eq_true q195
                                            have p72 : 0 ≤ (x73_3 : Int) := of_decide_eq_true (by first | (with_reducible assumption) | assumption)
                                            have q72 : (x73_3 : Int) < ((x4_3.length : Int) : Int) := of_decide_eq_true (by first | (with_reducible assumption) | assumption)
                                            obtain ⟨go72, co72, eo72, gb72, gl72, cl72, HG72⟩ := Kd.R_form HO_4.out (by omega)
                                            (first | cases eo72 | (injection eo72 with ea_ en_ ec_; (first | subst ea_ | (injection ea_ with ea_; subst ea_)); subst ec_; clear en_))
                                            have GB72 := Aside0.mk gb72
                                            have GG72 := Aside0.mk HG72
                                            clear gb72 gl72 HG72
                                            (first | simp only [add_plain] at hx192_0 | skip)
                                            obtain ⟨hx72_0, hf72_0⟩ := Kd.R_celln 0 HO_4.out (x73_3 : Int) p72 q72
                                            replace p72 := eq_true p72
                                            replace q72 := eq_true q72
                                            have HP74 := Kd.R_putg HO_4.out (x73_3 : Int) 0
                                            go_wp2_with (first | ((with_reducible refine gate_store (t := 2) (p := 97) rfl ?_); refine store_event (t := 2) (p := 97) (v := ?vo_w75) (w1 := (wc.setCell ⟨go72, (x73_3 : Int).toNat, none⟩ (.int .i64 0))) ?hg ?ho ?hn ?hr ?_; (case ho => rfl); (case hg => rfl); (case hn => rfl); (case hr => first | (go_simp; done) | (go_simp; rfl)); intro w75 hw; have hg : wc.grownBy w75 (some go72) := (by rw [hw]; exact HP74.2); have hp_ : Kd.R (Kd.int .i64) 2 w75 w.heap.size (fun _ => True) (.slice (some ⟨go72, 0, none⟩) x4_3.length co54) y196 := (by rw [hw, Ny196.out]; exact HP74.1); clear HP74; have n0_ := Aside0.mk (hp_); have n1_ := Aside0.mk (Kd.R_over' (v := (.slice (some ⟨go72, 0, none⟩) x4_3.length co54)) (by (with_reducible repeat (first | apply Kd.R_alloc | apply Kd.R_drewN | apply Kd.R_drew)); exact HO_5.out) (Kd.R_typed HO_4.out) (by decide) hg); have n2_ := Aside0.mk (blk_grown (g := gb173) (o := .cells #[.int .i64 a0_0, .slice A0_1 l0_1.length c0_1] 27 (0, 0)) (by (with_reducible repeat (first | refine blk_drewN ?_ _ | refine blk_drew ?_ | refine blk_alloc ?_ _)); exact BK173.out) hg (Kd.R_ne HO_4.out BK173.out (by decide))); have n3_ := Aside0.mk ((by rw [hw]; exact below_set (HB.out) GB72.out : Below w.heap.size w w75)); clear HO_4; clear HO_5; clear BK173; clear HB; have HO_4 := n0_; have HO_5 := n1_; have BK173 := n2_; have HB := n3_; clear n0_ n1_ n2_ n3_; clear hg hw hp_))
                                            (try simp only [← hl4_3])
                                            go_roundg kj57
                                            case measure => have := HJ1.out; have := HK2.out; have := HK3.out; have := HJ57.out; omega
                                            case rel => exact ⟨(y196), (wrap64 (x73_3 + 1)), (by first | rfl | (simp; done) | (simp [*]; done)), H', ⟨by have := HJ1.out; have := HK2.out; have := HK3.out; have := HJ57.out; omega⟩, ⟨by (try simp only [hl4_3]); (with_reducible repeat (first | apply Kd.R_alloc | apply Kd.R_drewN | apply Kd.R_drew)); exact HO_4.out⟩, ⟨by (try simp only [hl4_3]); (with_reducible repeat (first | apply Kd.R_alloc | apply Kd.R_drewN | apply Kd.R_drew)); exact HO_5.out⟩, ⟨by (try simp only [hl4_3]); (with_reducible repeat (first | refine blk_drewN ?_ _ | refine blk_drew ?_ | refine blk_alloc ?_ _)); exact BK173.out⟩, ⟨by repeat (first | (with_reducible first | exact HB.out | apply below_alloc | apply pw_below_drewN | apply below_drew1 | refine below_set ?_ GE173.out) | exact HB.out)⟩⟩
                                          · rw [if_neg c71] at H
                                            exact absurd H (by simp)
                                        · replace c70 := Bool.eq_false_iff.mpr c70
                                          subst c70
                                          have H1 : (impl_Sprouts_degrees.l2 kj57 x4_3 x5_2 (x4_2.length : Int) (wrap64 (x73_3 + 1))) = some (r1, r2) := by rw [if_neg (show ¬ (false = true) by decide)] at H; exact H
                                          clear H
                                          have H := H1
                                          clear H1
                                          have H' := Aside0.mk H
                                          clear H
                                          obtain ⟨Ao76, co76, eo76⟩ := Kd.R_slice HO_5.out
                                          subst eo76
                                          have p195 : 0 ≤ (x73_3 : Int) := of_decide_eq_true (by first | (with_reducible assumption) | assumption)
                                          have q195 : x73_3 < (x5_2.length : Int) := of_decide_eq_true (by first | (with_reducible assumption) | assumption)
                                          obtain ⟨ad195, e195, hx195_0⟩ := Kd.at_bool (Kd.R_reads' HO_5.out).2.2 x73_3 p195 q195
                                          (try rw [← Nbq69.out] at hx195_0)
                                          cases e195
                                          replace p195 := eq_true p195
                                          replace q195 := eq_true q195
                                          go_wp2
                                          (try simp only [← hl4_3])
                                          go_roundg kj57
                                          case measure => have := HJ1.out; have := HK2.out; have := HK3.out; have := HJ57.out; omega
                                          case rel => exact ⟨(x4_3), (wrap64 (x73_3 + 1)), (by first | rfl | (simp; done) | (simp [*]; done)), H', ⟨by have := HJ1.out; have := HK2.out; have := HK3.out; have := HJ57.out; omega⟩, ⟨by (try simp only [hl4_3]); (with_reducible repeat (first | apply Kd.R_alloc | apply Kd.R_drewN | apply Kd.R_drew)); exact HO_4.out⟩, ⟨by (try simp only [hl4_3]); (with_reducible repeat (first | apply Kd.R_alloc | apply Kd.R_drewN | apply Kd.R_drew)); exact HO_5.out⟩, ⟨by (try simp only [hl4_3]); (with_reducible repeat (first | refine blk_drewN ?_ _ | refine blk_drew ?_ | refine blk_alloc ?_ _)); exact BK173.out⟩, ⟨by repeat (first | (with_reducible first | exact HB.out | apply below_alloc | apply pw_below_drewN | apply below_drew1 | refine below_set ?_ GE173.out) | exact HB.out)⟩⟩
                                      · rw [if_neg c68] at H
                                        exact absurd H (by simp)
                                    · rw [if_neg c67] at H
                                      exact absurd H (by simp)
                            · rw [if_neg c57] at H
                              exact absurd H (by simp)
                          · rw [if_neg c56] at H
                            exact absurd H (by simp)
                        · rw [if_neg c55] at H
                          have c55b0 : decide (x73_3 < (x4_2.length : Int)) = false := decide_eq_false c55
                          have c55b1 : decide (x73_3 < (x4_3.length : Int)) = false := by first | (rw [hl4_3]; exact c55b0) | (rw [← hl4_3]; exact c55b0)
                          clear c55
                          simp only [Option.some.injEq, Prod.mk.injEq] at H
                          obtain ⟨rfl, rfl⟩ := H
                          go_wp2
                          go_ret2
                          exact ⟨_, by first | rfl | (simp [errW_none, errW_some] <;> rfl) | (simp [*, errW_none, errW_some] <;> rfl), by (with_reducible repeat (first | apply Kd.R_alloc | apply Kd.R_drewN | apply Kd.R_drew)); exact HO_4.out, by repeat (first | (with_reducible first | exact HB.out | apply below_alloc | apply pw_below_drewN | apply below_drew1 | refine below_set ?_ GE173.out) | exact HB.out)⟩
            · rw [if_neg c11] at H
              exact absurd H (by simp)
          · rw [if_neg c10] at H
            exact absurd H (by simp)
        · rw [if_neg c9] at H
          exact absurd H (by simp)

end Go.Proofs.Ytjihfaebfhbpfaa.PX

/- Function values called in a walk (no condition). -/
namespace Go.Proofs.Ytjihfaebfhbpfaa.PX
open Go.RowKit Go.Proofs.YtjihfaebfhbpfaaW.PrintWords Go.Proofs.YtjihfaebfhbpfaaW.PrintLast Go.Proofs.YtjihfaebfhbpfaaW.PrintMore
attribute [local go_sem] max2_int min2_int max_two min_two max_three min_three max_four min_four
set_option linter.unusedVariables false
set_option linter.unusedSimpArgs false
/-- A function that a value leads to: its text is there. -/
def HasFn (f : FuncId) : Prop := ∃ fn, Try.prog.funcs[f]? = some fn ∧ (fn.name == "runtime.NumGoroutine") = false ∧ fn.body.isSome = true
/-- A call of a function value, in a plain region, as an arm of go_wp2_with. -/
theorem goesV_ {ops : Array Oper} {Q : Exit → Act → World → Prop} {rest : List Oper} {oi : Oper} {a : Act} {w : World} (N : Option Tmp) (hd : oi.dst = N) (hg : oi.guard = none) {t : Tmp} {os_ : Array Operand} {ts : Array TypeId} (f : FuncId) (cap : Array Value) (hf : HasFn f) (args : Array Value)
    (hop : oi.op = .call { callee := .value (.tmp t), args := os_, argTypes := ts }) (ht : a.eval (.tmp t) = .func (.func f) #[] cap) (hargs : os_.map a.eval = args)
    (h : Calls Try.prog f (args ++ cap) w fun e w' => ∃ v, e = .returned v ∧ wpList Try.prog ops Q rest (a.put N v) w') : wpList Try.prog ops Q (oi :: rest) a w := by
  obtain ⟨fn, hf, hname, hb⟩ := hf
  refine wpList_plain hg fun K hK => ?_
  have he := enters_ hf hname hb (args ++ cap) w
  have hrun : (execOp a.eval oi).run Try.prog w = .ok (.enter f (args ++ cap)) w := by
    unfold execOp
    simp only [hop, resolve, ht, hargs]
    simp [Deferred.ofValue, invoke, he]
  unfold Oper.wp
  rw [hrun, Oper.upon_enter]
  refine h.mono fun e w'' hh => ?_
  obtain ⟨v, rfl, hk⟩ := hh
  subst hd
  exact hK _ _ hk

end Go.Proofs.Ytjihfaebfhbpfaa.PX

/- The walk of the program's chosen, for any function value that answers V and leaves memory as it is (condition: it does so wherever old memory is as it was). -/
namespace Go.Proofs.Ytjihfaebfhbpfaa.PX
open Go.RowKit Go.Proofs.YtjihfaebfhbpfaaW.PrintWords Go.Proofs.YtjihfaebfhbpfaaW.PrintLast Go.Proofs.YtjihfaebfhbpfaaW.PrintMore
attribute [local go_sem] max2_int min2_int max_two min_two max_three min_three max_four min_four
set_option linter.unusedVariables false
set_option linter.unusedSimpArgs false
section
variable (V : Int → Option Bool)
def impl_chosen.l0 : Nat → List Int → Int → Int → Option (List Int)
  | 0, _, _, _ => none
  | k + 1, x5, x8, x9 => if x9 < x8 then ((V x9).bind fun t164 => (if t164 = true then (if x5.length < 17592186044416 then (impl_chosen.l0 k (x5 ++ [x9]) x8 (wrap64 (x9 + 1))) else (none)) else (impl_chosen.l0 k x5 x8 (wrap64 (x9 + 1))))) else (some x5)
def impl_chosen.f (k : Nat) (a0 : Int) : Option (List Int) := impl_chosen.l0 V k (([] : List Int)) a0 0
end
theorem impl_chosen.mono_l (V : Int → Option Bool) : ∀ k, (∀ y0 y1 y2, LeO (impl_chosen.l0 V k y0 y1 y2) (impl_chosen.l0 V (k + 1) y0 y1 y2))
  | 0 => fun _ _ _ r h => by simp [impl_chosen.l0] at h
  | k + 1 => by
    have ih0 := impl_chosen.mono_l V k
    · intro y0 y1 y2
      unfold impl_chosen.l0
      repeat' first
      | (with_reducible exact ih0 _ _ _)
      | (with_reducible exact LeO.refl _)
      | (with_reducible exact LeO.none _)
      | (with_reducible refine LeO.ite ?_ ?_)
      | (with_reducible refine LeO.bind ?_ (fun _ => ?_))
      | exact ih0 _ _ _
      | exact LeO.none _
      | refine LeO.ite ?_ ?_
      | refine LeO.bind ?_ (fun _ => ?_)
theorem impl_chosen.mono (V : Int → Option Bool) : ∀ a0 k, LeO (impl_chosen.f V k a0) (impl_chosen.f V (k + 1) a0) := by
  intro a0 k
  have ih0 := impl_chosen.mono_l V k
  unfold impl_chosen.f
  repeat' first
      | (with_reducible exact ih0 _ _ _)
      | (with_reducible exact LeO.refl _)
      | (with_reducible exact LeO.none _)
      | (with_reducible refine LeO.ite ?_ ?_)
      | (with_reducible refine LeO.bind ?_ (fun _ => ?_))
      | exact ih0 _ _ _
      | exact LeO.none _
      | refine LeO.ite ?_ ?_
      | refine LeO.bind ?_ (fun _ => ?_)
set_option maxHeartbeats 8000000 in
set_option maxRecDepth 100000 in
theorem impl_chosen.calls (V : Int → Option Bool) (cf : FuncId) (cap : Array Value) (hF : HasFn cf) (k : Nat) (a0 : Int) (r : List Int) (w : World) (hV : ∀ (x : Int) (r : Bool) (w1 : World), Below w.heap.size w w1 → V x = some r → Calls Try.prog cf (#[.int .i64 x] ++ cap) w1 fun e w' => e = .returned (.bool r) ∧ Drawn0 w1 w') (h : impl_chosen.f V k a0 = some r) :
    Calls Try.prog 63 #[.int .i64 a0, .func (.func cf) #[] cap] w fun e w' => ∃ v0_ : Value, e = .returned (v0_) ∧ Kd.R (Kd.int .i64) 2 w' w.heap.size (fun _ => True) v0_ r ∧ Below w.heap.size w w' := by
  have HF := Aside0.mk hF
  have HV := Aside0.mk hV
  clear hF hV
  have HB := Aside0.mk (Below.refl w.heap.size w)
  have H : (impl_chosen.l0 V k (([] : List Int)) a0 0) = some r := h
  clear h
  obtain ⟨y161, hy161⟩ : ∃ y_ : List Int, y_ = (([] : List Int)) := ⟨_, rfl⟩
  replace H : (impl_chosen.l0 V k y161 a0 0) = some r := by first | (rw [hy161]; with_reducible exact H) | (have H2_ := (Option.bind_some _ _).symm.trans H; rw [hy161]; with_reducible exact H2_) | (have H2_ := (Option.bind_some _ _).symm.trans H; with_reducible exact H2_) | with_reducible exact H | (rw [hy161]; exact H) | exact H
  have Ny161 := Aside0.mk hy161
  clear hy161
  have H' := Aside0.mk H
  clear H
  go_enter Try.func63, Try.ntmps63
  go_wp2_with (first | ((with_reducible refine gate_dst (N := 7) rfl ?_); refine Kd.R_lit (Kd.int .i64) _ 2 ?hg (N := 7) ?hd (xs := ([] : List Int)) (inner := []) (ok := fun _ => True) (okp := fun _ => True) ?hr ?hp (fun _ hk => hk) trivial (Below.refl _ _) (Nat.le_refl _) (by simp) ?_; (case hd => rfl); (case hg => rfl); (case hr => first | (go_simp; done) | (go_simp; rfl)); (case hp => exact (Reps.none _ _)); intro v162 w3 ho4 hb hg_ hnew_; clear hg_ hnew_; (first | rw [← Ny161.out] at ho4 | (simp only [Int.reduceToNat] at ho4; rw [← Ny161.out] at ho4)); have n0_ := Aside0.mk (Kd.R_lower ho4 (below_size (by repeat (first | (with_reducible first | exact HB.out | apply below_alloc | apply pw_below_drewN | apply below_drew1) | exact HB.out)))); have n1_ := Aside0.mk (below_step (by repeat (first | (with_reducible first | exact HB.out | apply below_alloc | apply pw_below_drewN | apply below_drew1) | exact HB.out)) hb); clear HB; have HO163 := n0_; have HB := n1_; clear n0_ n1_; clear hb ho4))
  go_loopg [5, 9] k (fun kq v5 v9 w' => ∃ (x5_1 : List Int) (x9_1 : Int), v9 = .int .i64 x9_1 ∧ Aside0 (impl_chosen.l0 V kq x5_1 a0 x9_1 = some r) ∧ Aside0 (kq ≤ k) ∧ Aside0 (Kd.R (Kd.int .i64) 2 w' w.heap.size (fun _ => True) v5 x5_1) ∧ Aside0 (Below w.heap.size w w'))
  case atStart => exact ⟨(y161), (0), (by first | rfl | (simp; done) | (simp [*]; done)), H', ⟨Nat.le_refl _⟩, ⟨by (with_reducible repeat (first | apply Kd.R_alloc | apply Kd.R_drewN | apply Kd.R_drew)); exact HO163.out⟩, ⟨by repeat (first | (with_reducible first | exact HB.out | apply below_alloc | apply pw_below_drewN | apply below_drew1) | exact HB.out)⟩⟩
  case round =>
    clear H'
    try clear p2
    obtain ⟨x5_1, x9_1, rfl, HA, HK1, HO_5, HB⟩ := hrel
    cases gk with
    | zero => exact absurd HA.out (by simp [impl_chosen.l0])
    | succ k1 =>
      have H := HA.out
      clear HA
      simp only [impl_chosen.l0] at H
      by_cases c5 : x9_1 < a0
      · rw [if_pos c5] at H
        have c5b0 : decide (x9_1 < a0) = true := decide_eq_true c5
        clear c5
        replace H := Option.bind_eq_some_iff.mp H
        obtain ⟨t164, A60, H⟩ := H
        replace H : (if t164 = true then (if x5_1.length < 17592186044416 then (impl_chosen.l0 V k1 (x5_1 ++ [x9_1]) a0 (wrap64 (x9_1 + 1))) else (none)) else (impl_chosen.l0 V k1 x5_1 a0 (wrap64 (x9_1 + 1)))) = some r := H
        have A6 := Aside0.mk A60
        clear A60
        by_cases c7 : t164 = true
        · subst c7
          have H1 : (if x5_1.length < 17592186044416 then (impl_chosen.l0 V k1 (x5_1 ++ [x9_1]) a0 (wrap64 (x9_1 + 1))) else (none)) = some r := by rw [if_pos rfl] at H; exact H
          clear H
          have H := H1
          clear H1
          by_cases c8 : x5_1.length < 17592186044416
          · rw [if_pos c8] at H
            have LMc8 := Aside0.mk c8
            clear c8
            obtain ⟨y165, hy165⟩ : ∃ y_ : List Int, y_ = (x5_1 ++ [x9_1]) := ⟨_, rfl⟩
            replace H : (impl_chosen.l0 V k1 y165 a0 (wrap64 (x9_1 + 1))) = some r := by first | (rw [hy165]; with_reducible exact H) | (have H2_ := (Option.bind_some _ _).symm.trans H; rw [hy165]; with_reducible exact H2_) | (have H2_ := (Option.bind_some _ _).symm.trans H; with_reducible exact H2_) | with_reducible exact H | (rw [hy165]; exact H) | exact H
            have Ny165 := Aside0.mk hy165
            clear hy165
            have H' := Aside0.mk H
            clear H
            go_wp2_with (first | ((with_reducible refine gate_dst (N := 14) rfl ?_); refine goesV_ (some 14) rfl rfl cf cap HF.out #[.int .i64 x9_1] rfl rfl (by (try simp only [List.map_toArray, List.map_cons, List.map_nil]); first | done | rfl | (simp only [List.length_drop, List.length_take]; rfl)) ?_; (with_reducible refine (HV.out x9_1 true _ (by repeat (first | (with_reducible first | exact HB.out | apply below_alloc | apply pw_below_drewN | apply below_drew1) | exact HB.out)) A6.out).mono ?_); rintro e w' ⟨rfl, ⟨nd, rfl⟩⟩; refine ⟨_, rfl, ?_⟩) | ((with_reducible refine gate_builtin (b := .append) (xs := #[.tmp 15, .tmp 17]) rfl ?_); at_builtin; refine Kd.R_append (Kd.int .i64) (w0 := w) w.heap.size rfl (.tmp 15) (.tmp 17) 33 2 (.int .i64 0) 8 rfl Try.underlying33 info2 rfl (by decide) (by omega) u5 x5_1 x9_1 [.int .i64 x9_1] (fun _ => True) (fun _ => False) rfl rfl ?aP (fun _ hk => hk.elim) ?aF ?aO ?aB ?aS ?aL ?_; (case aP => exact rfl); (case aB => exact (by repeat (first | (with_reducible first | exact HB.out | apply below_alloc | apply pw_below_drewN | apply below_drew1) | exact HB.out))); (case aF => exact (fun _ _ => trivial)); (case aO => exact (by (with_reducible repeat (first | apply Kd.R_alloc | apply Kd.R_drewN | apply Kd.R_drew)); exact HO_5.out)); (case aS => exact (below_size (by repeat (first | (with_reducible first | exact HB.out | apply below_alloc | apply pw_below_drewN | apply below_drew1) | exact HB.out)))); (case aL => have := LMc8.out; omega); intro v166 w9 ho hb hg hat; rw [← Ny165.out] at ho; have n0_ := Aside0.mk (hb); have n1_ := Aside0.mk (ho); clear HB; clear HO_5; have HB := n0_; have HO167 := n1_; clear n0_ n1_; clear ho hb hg hat))
            go_roundg k1
            case measure => have := HK1.out; omega
            case rel => exact ⟨(y165), (wrap64 (x9_1 + 1)), (by first | rfl | (simp; done) | (simp [*]; done)), H', ⟨by have := HK1.out; omega⟩, ⟨by (with_reducible repeat (first | apply Kd.R_alloc | apply Kd.R_drewN | apply Kd.R_drew)); exact HO167.out⟩, ⟨by repeat (first | (with_reducible first | exact HB.out | apply below_alloc | apply pw_below_drewN | apply below_drew1) | exact HB.out)⟩⟩
          · rw [if_neg c8] at H
            exact absurd H (by simp)
        · replace c7 := Bool.eq_false_iff.mpr c7
          subst c7
          have H1 : (impl_chosen.l0 V k1 x5_1 a0 (wrap64 (x9_1 + 1))) = some r := by rw [if_neg (show ¬ (false = true) by decide)] at H; exact H
          clear H
          have H := H1
          clear H1
          have H' := Aside0.mk H
          clear H
          go_wp2_with (first | ((with_reducible refine gate_dst (N := 14) rfl ?_); refine goesV_ (some 14) rfl rfl cf cap HF.out #[.int .i64 x9_1] rfl rfl (by (try simp only [List.map_toArray, List.map_cons, List.map_nil]); first | done | rfl | (simp only [List.length_drop, List.length_take]; rfl)) ?_; (with_reducible refine (HV.out x9_1 false _ (by repeat (first | (with_reducible first | exact HB.out | apply below_alloc | apply pw_below_drewN | apply below_drew1) | exact HB.out)) A6.out).mono ?_); rintro e w' ⟨rfl, ⟨nd, rfl⟩⟩; refine ⟨_, rfl, ?_⟩))
          go_roundg k1
          case measure => have := HK1.out; omega
          case rel => exact ⟨(x5_1), (wrap64 (x9_1 + 1)), (by first | rfl | (simp; done) | (simp [*]; done)), H', ⟨by have := HK1.out; omega⟩, ⟨by (with_reducible repeat (first | apply Kd.R_alloc | apply Kd.R_drewN | apply Kd.R_drew)); exact HO_5.out⟩, ⟨by repeat (first | (with_reducible first | exact HB.out | apply below_alloc | apply pw_below_drewN | apply below_drew1) | exact HB.out)⟩⟩
      · rw [if_neg c5] at H
        have c5b0 : decide (x9_1 < a0) = false := decide_eq_false c5
        clear c5
        obtain rfl := Option.some.inj H
        go_wp2
        go_ret
        exact ⟨_, by first | rfl | (simp [errW_none, errW_some] <;> rfl) | (simp [*, errW_none, errW_some] <;> rfl), by (with_reducible repeat (first | apply Kd.R_alloc | apply Kd.R_drewN | apply Kd.R_drew)); exact HO_5.out, by repeat (first | (with_reducible first | exact HB.out | apply below_alloc | apply pw_below_drewN | apply below_drew1) | exact HB.out)⟩

end Go.Proofs.Ytjihfaebfhbpfaa.PX

/- impl.cuts, a contract (conditions: at most 256 numbers; the place is not below 0). -/
namespace Go.Proofs.Ytjihfaebfhbpfaa.PX
open Go.RowKit Go.Proofs.YtjihfaebfhbpfaaW.PrintWords Go.Proofs.YtjihfaebfhbpfaaW.PrintLast Go.Proofs.YtjihfaebfhbpfaaW.PrintMore
attribute [local go_sem] max2_int min2_int max_two min_two max_three min_three max_four min_four
set_option linter.unusedVariables false
set_option linter.unusedSimpArgs false
def cutB (b x : Int) : Bool := decide ((Go.bits .and .i64 (shr .i64 x b) 1) = 0)
def cutsOf (b : Int) (m : Nat) : List Int := ((List.range m).map (fun (i : Nat) => (i : Int))).filter (cutB b)
def cutsL (b m : Int) : Option (List Int) := if m ≤ 256 then some (cutsOf b m.toNat) else none
def impl_cuts.f (l0 : List (List Int)) (a1 : Int) (a2 : Int) : Option (List Int) := if a1 = a2 then (if 0 ≤ a1 then cutsL a1 (shl .i64 1 (l0.length : Int)) else none) else (some (([0] : List Int)))
theorem hasFn_cuts : HasFn 64 := ⟨_, Try.func64, by kernel_rfl, rfl⟩
theorem wrap64_small {i : Int} (h0 : 0 ≤ i) (h : i < 9223372036854775807) : wrap64 i = i := by unfold wrap64; omega
theorem cutsOf_succ (b : Int) (j : Nat) : cutsOf b (j + 1) = cutsOf b j ++ (if cutB b (j : Int) = true then [(j : Int)] else []) := by
  unfold cutsOf
  rw [List.range_succ, List.map_append, List.filter_append]
  congr 1
  simp only [List.map_cons, List.map_nil, List.filter_cons, List.filter_nil]
theorem cutsOf_len (b : Int) (m : Nat) : (cutsOf b m).length ≤ m := by
  unfold cutsOf
  refine Nat.le_trans (List.length_filter_le _ _) ?_
  simp
theorem chosen_loop (b m : Int) (hm : m ≤ 256) : ∀ (d j : Nat), j + d = m.toNat → Ev (fun k => impl_chosen.l0 (fun x => some (cutB b x)) k (cutsOf b j) m (j : Int)) (cutsOf b m.toNat)
  | 0, j, hd => by
    refine Ev.step (f := fun _ => some (cutsOf b m.toNat)) (fun k => ?_) (Ev.now _)
    rw [impl_chosen.l0, if_neg (by omega), show j = m.toNat by omega]
  | d + 1, j, hd => by
    have ih := chosen_loop b m hm d (j + 1) (by omega)
    have hl := cutsOf_len b j
    refine Ev.step (fun k => ?_) ih
    rw [impl_chosen.l0, if_pos (by omega), Option.bind_some, wrap64_small (i := (j : Int) + 1) (by omega) (by omega), cutsOf_succ, show ((j : Int) + 1) = ((j + 1 : Nat) : Int) by omega]
    by_cases c : cutB b (j : Int) = true
    · rw [if_pos c, if_pos c, if_pos (by omega)]
    · rw [if_neg c, if_neg c, List.append_nil]
theorem chosen_ev (b m : Int) (hm : m ≤ 256) : Ev (fun k => impl_chosen.f (fun x => some (cutB b x)) k m) (cutsOf b m.toNat) := chosen_loop b m hm m.toNat 0 (by omega)
set_option maxHeartbeats 8000000 in
set_option maxRecDepth 100000 in
theorem cuts_1.calls (g : Nat) (b x : Int) (w : World) (hb0 : 0 ≤ b) (hc : w.cell? ⟨g, 0, none⟩ = some (.int .i64 b)) : Calls Try.prog 64 (#[.int .i64 x] ++ #[.pointer (some ⟨g, 0, none⟩)]) w fun e w' => e = .returned (.bool (cutB b x)) ∧ Drawn0 w w' := by
  have hn : decide (b < 0) = false := decide_eq_false (by omega)
  have hn2 : decide (0 ≤ b) = true := decide_eq_true hb0
  show Calls Try.prog 64 #[.int .i64 x, .pointer (some ⟨g, 0, none⟩)] w _
  go_enter Try.func64, Try.ntmps64
  go_wp2
  go_ret
  exact ⟨by first | rfl | (simp [cutB]; done) | (simp [cutB, *]; done), by repeat (first | exact Drawn0.refl _ | apply Drawn0.step)⟩
set_option maxHeartbeats 8000000 in
set_option maxRecDepth 100000 in
theorem impl_cuts.calls (A0 : Option Addr) (c0 : Nat) (l0 : List (List Int)) (a1 : Int) (a2 : Int) (r : List Int) (w : World) (hr0 : Kd.C (Kd.slice 2 (Kd.int .i64)) w A0 l0.length l0) (hc0 : l0.length ≤ c0) (h : impl_cuts.f l0 a1 a2 = some r) :
    Calls Try.prog 55 #[.slice A0 l0.length c0, .int .i64 a1, .int .i64 a2] w fun e w' => ∃ v0_ : Value, e = .returned (v0_) ∧ Kd.R (Kd.int .i64) 2 w' w.heap.size (fun _ => True) v0_ r ∧ Below w.heap.size w w' := by
  have HR0 := Aside0.mk hr0
  have HC0 := Aside0.mk hc0
  clear hr0 hc0
  have HB := Aside0.mk (Below.refl w.heap.size w)
  have H : (if a1 = a2 then (if 0 ≤ a1 then cutsL a1 (shl .i64 1 (l0.length : Int)) else none) else (some (([0] : List Int)))) = some r := h
  clear h
  by_cases c4 : a1 = a2
  · rw [if_pos c4] at H
    have c4b0 : (a1 == a2) = true := beq_iff_eq.mpr c4
    have c4b1 : (a1 != a2) = false := bne_eq_false_iff_eq.mpr c4
    clear c4
    obtain ⟨ji5, hji5⟩ : ∃ j_ : Int, (shl .i64 1 (l0.length : Int)) = j_ := ⟨_, rfl⟩
    rw [hji5] at H
    have hb0 : 0 ≤ a1 := by
      by_cases q : 0 ≤ a1
      · exact q
      · rw [if_neg q] at H; cases H
    rw [if_pos hb0, cutsL] at H
    have hm : ji5 ≤ 256 := by
      by_cases q : ji5 ≤ 256
      · exact q
      · rw [if_neg q] at H; cases H
    rw [if_pos hm] at H
    obtain rfl := Option.some.inj H
    obtain ⟨K, hK⟩ := chosen_ev a1 ji5 hm
    have HCH := Aside0.mk (hK K (Nat.le_refl _))
    have HB0 := Aside0.mk hb0
    clear hK H hb0 hm
    have hji5_ : (IntKind.i64.wrap (1 * 2 ^ min (l0.length : Int).toNat 64)) = ji5 := hji5
    have hji5z : (l0.length : Int) ≤ 64 → (IntKind.i64.wrap (1 * 2 ^ (l0.length : Int).toNat)) = ji5 := shl_small hji5
    have hji5p : (IntKind.i64.wrap (1 * 2 ^ min l0.length 64)) = ji5 := hji5_
    have hji5q : (l0.length : Int) ≤ 64 → (IntKind.i64.wrap (1 * 2 ^ l0.length)) = ji5 := hji5z
    have hji5r : (IntKind.i64.wrap (2 ^ min l0.length 64)) = ji5 := by have h_ := hji5p; rw [Int.one_mul] at h_; exact h_
    have hji5s : (l0.length : Int) ≤ 64 → (IntKind.i64.wrap (2 ^ l0.length)) = ji5 := fun hle_ => by have h_ := hji5q hle_; rw [Int.one_mul] at h_; exact h_
    have hji5u : (IntKind.i64.wrap (2 ^ min (l0.length : Int).toNat 64)) = ji5 := by have h_ := hji5_; rw [Int.one_mul] at h_; exact h_
    have hji5v : (l0.length : Int) ≤ 64 → (IntKind.i64.wrap (2 ^ (l0.length : Int).toNat)) = ji5 := fun hle_ => by have h_ := hji5z hle_; rw [Int.one_mul] at h_; exact h_
    have hji5y : (wrap64 (1 * 2 ^ min (l0.length : Int).toNat 64)) = ji5 := (i64_w _).symm.trans hji5_
    have hji5x : (l0.length : Int) ≤ 64 → (wrap64 (1 * 2 ^ (l0.length : Int).toNat)) = ji5 := fun h_ => (i64_w _).symm.trans (hji5z h_)
    go_enter Try.func55, Try.ntmps55
    go_wp2_with (first | ((with_reducible refine gate_dst (N := 4) rfl ?_); refine box_event ?hg (N := 4) ?hd (cs := #[.int .i64 a1]) (t := 3) ?hr ?_; (case hd => rfl); (case hg => rfl); (case hr => first | (go_simp; done) | (go_simp; rfl)); intro gbx hgx w3 hbox hb; have n0_ := Aside0.mk (below_step HB.out hb); clear HB; have HB := n0_; have BKX := Aside0.mk hbox; have hczx : w3.cell? ⟨gbx, 0, none⟩ = some (.int .i64 a1) := (blk_cell BKX.out 0).trans rfl; clear n0_ hb hbox hgx) | ((with_reducible refine gate_callee (f := 63) rfl ?_); refine goesL_ (some 15) rfl rfl Try.func63 (by kernel_rfl) rfl #[.int .i64 ji5, .func (.func 64) #[] #[.pointer (some ⟨gbx, 0, none⟩)]] rfl (by (try simp only [List.map_toArray, List.map_cons, List.map_nil]); first | done | rfl) ?_; (with_reducible refine (impl_chosen.calls (fun x => some (cutB a1 x)) 64 #[.pointer (some ⟨gbx, 0, none⟩)] hasFn_cuts K ji5 _ _ ?hV HCH.out).mono ?_); (case hV => intro x_ r_ w1_ hb_ hv_; obtain rfl := Option.some.inj hv_; exact cuts_1.calls gbx a1 x_ w1_ HB0.out (pw_cell_below hb_ hczx)); rintro e w6 ⟨v0, rfl, ho, hb⟩; refine ⟨_, rfl, ?_⟩; have HO := Aside0.mk (Kd.R_lower ho HB.out.size); have n0_ := Aside0.mk (below_step HB.out hb); clear HB; have HB := n0_; clear n0_ hb ho))
    go_ret
    exact ⟨_, by first | rfl | (simp [errW_none, errW_some] <;> rfl) | (simp only [← hji5]; first | rfl | (simp [errW_none, errW_some] <;> rfl)) | (simp [*, errW_none, errW_some] <;> rfl), by (with_reducible repeat (first | apply Kd.R_alloc | apply Kd.R_drewN | apply Kd.R_drew)); exact HO.out, by repeat (first | (with_reducible first | exact HB.out | apply below_alloc | apply pw_below_drewN | apply below_drew1) | exact HB.out)⟩
  · rw [if_neg c4] at H
    have c4b0 : (a1 == a2) = false := beq_eq_false_iff_ne.mpr c4
    have c4b1 : (a1 != a2) = true := bne_iff_ne.mpr c4
    obtain ⟨y294, hy294⟩ : ∃ y_ : List Int, y_ = (([0] : List Int)) := ⟨_, rfl⟩
    replace H : (some y294) = some r := by first | (rw [hy294]; with_reducible exact H) | (have H2_ := (Option.bind_some _ _).symm.trans H; rw [hy294]; with_reducible exact H2_) | (have H2_ := (Option.bind_some _ _).symm.trans H; with_reducible exact H2_) | with_reducible exact H | (rw [hy294]; exact H) | exact H
    have Ny294 := Aside0.mk hy294
    clear hy294
    obtain rfl := Option.some.inj H
    go_enter Try.func55, Try.ntmps55
    go_wp2_with (first | ((with_reducible refine gate_dst (N := 4) rfl ?_); refine box_event ?hg (N := 4) ?hd (cs := #[.int .i64 a1]) (t := 3) ?hr ?_; (case hd => rfl); (case hg => rfl); (case hr => first | (go_simp; done) | (go_simp; rfl)); intro gbx hgx w3 hbox hb; have n0_ := Aside0.mk (below_step HB.out hb); clear HB; have HB := n0_; have BKX := Aside0.mk hbox; have hczx : w3.cell? ⟨gbx, 0, none⟩ = some (.int .i64 a1) := (blk_cell BKX.out 0).trans rfl; clear n0_ hb hbox hgx) | ((with_reducible refine gate_dst (N := 10) rfl ?_); refine Kd.R_lit (Kd.int .i64) _ 2 ?hg (N := 10) ?hd (xs := ([0] : List Int)) (inner := [.int .i64 0]) (ok := fun _ => True) (okp := fun _ => True) ?hr ?hp (fun _ hk => hk) trivial (Below.refl _ _) (Nat.le_refl _) (by simp) ?_; (case hd => rfl); (case hg => rfl); (case hr => first | (go_simp; done) | (go_simp; rfl)); (case hp => exact (Reps.one (show Kd.M (Kd.int .i64) _ _ _ 0 [.int .i64 0] from rfl) (Reps.none _ _))); intro v295 w8 ho9 hb hg_ hnew_; clear hg_ hnew_; (first | rw [← Ny294.out] at ho9 | (simp only [Int.reduceToNat] at ho9; rw [← Ny294.out] at ho9)); have n0_ := Aside0.mk (Kd.R_lower ho9 (below_size (by repeat (first | (with_reducible first | exact HB.out | apply below_alloc | apply pw_below_drewN | apply below_drew1) | exact HB.out)))); have n1_ := Aside0.mk (below_step (by repeat (first | (with_reducible first | exact HB.out | apply below_alloc | apply pw_below_drewN | apply below_drew1) | exact HB.out)) hb); clear HB; have HO296 := n0_; have HB := n1_; clear n0_ n1_; clear hb ho9))
    go_ret
    exact ⟨_, by first | rfl | (simp [errW_none, errW_some] <;> rfl) | (simp [*, errW_none, errW_some] <;> rfl), by (with_reducible repeat (first | apply Kd.R_alloc | apply Kd.R_drewN | apply Kd.R_drew)); exact HO296.out, by repeat (first | (with_reducible first | exact HB.out | apply below_alloc | apply pw_below_drewN | apply below_drew1) | exact HB.out)⟩

end Go.Proofs.Ytjihfaebfhbpfaa.PX

namespace Go.Proofs.Ytjihfaebfhbpfaa.PX
open Go.RowKit Go.Proofs.YtjihfaebfhbpfaaW.PrintWords Go.Proofs.YtjihfaebfhbpfaaW.PrintLast Go.Proofs.YtjihfaebfhbpfaaW.PrintMore
attribute [local go_sem] max2_int min2_int max_two min_two max_three min_three max_four min_four   -- for this text's walks alone
set_option linter.unusedVariables false
set_option linter.unusedSimpArgs false

/-! ### impl_sproutMoves: function 41 -/
mutual
def impl_sproutMoves.l0 : Nat → List Int → List (List Int) → List (List (List Int)) → Int → Int → Option ((List (List Int)))
  | 0, _, _, _, _, _ => none
  | k + 1, x3, x5, x24, x25, x26 => if x26 < x25 then (if 0 ≤ x26 then (if x26 < (x24.length : Int) then (impl_sproutMoves.l1 k x3 x5 x26 (rd_L2 x24 x26) x24 x25 x26 (rd_L2 x24 x26) ((rd_L2 x24 x26).length : Int) 0) else (none)) else (none)) else (some x5)
def impl_sproutMoves.l1 : Nat → List Int → List (List Int) → Int → List (List Int) → List (List (List Int)) → Int → Int → List (List Int) → Int → Int → Option ((List (List Int)))
  | 0, _, _, _, _, _, _, _, _, _, _ => none
  | k + 1, x3, x5, x6, x7, x24, x25, x26, x31, x32, x33 => if x33 < x32 then (if 0 ≤ x33 then (if x33 < (x31.length : Int) then (impl_sproutMoves.l2 k x3 x5 x6 x7 x33 x24 x25 x26 x31 x32 x33 (rd_L1 x31 x33) ((rd_L1 x31 x33).length : Int) 0) else (none)) else (none)) else (impl_sproutMoves.l0 k x3 x5 x24 x25 (wrap64 (x26 + 1)))
def impl_sproutMoves.l2 : Nat → List Int → List (List Int) → Int → List (List Int) → Int → List (List (List Int)) → Int → Int → List (List Int) → Int → Int → List Int → Int → Int → Option ((List (List Int)))
  | 0, _, _, _, _, _, _, _, _, _, _, _, _, _, _ => none
  | k + 1, x3, x5, x6, x7, x8, x24, x25, x26, x31, x32, x33, x38, x39, x40 => if x40 < x39 then (if 0 ≤ x40 then (if x40 < (x38.length : Int) then (impl_sproutMoves.l3 k x3 x5 x6 x7 x8 x40 (rd x38 x40) x8 x24 x25 x26 x31 x32 x33 x38 x39 x40) else (none)) else (none)) else (impl_sproutMoves.l1 k x3 x5 x6 x7 x24 x25 x26 x31 x32 (wrap64 (x33 + 1)))
def impl_sproutMoves.l3 : Nat → List Int → List (List Int) → Int → List (List Int) → Int → Int → Int → Int → List (List (List Int)) → Int → Int → List (List Int) → Int → Int → List Int → Int → Int → Option ((List (List Int)))
  | 0, _, _, _, _, _, _, _, _, _, _, _, _, _, _, _, _, _ => none
  | k + 1, x3, x5, x6, x7, x8, x10, x11, x12, x24, x25, x26, x31, x32, x33, x38, x39, x40 => if x12 < (x7.length : Int) then (if 0 ≤ x12 then (impl_sproutMoves.l4 k x3 x5 x6 x7 x8 x10 x11 x12 x24 x25 x26 x31 x32 x33 x38 x39 x40 (rd_L1 x7 x12) ((rd_L1 x7 x12).length : Int) 0) else (none)) else (impl_sproutMoves.l2 k x3 x5 x6 x7 x8 x24 x25 x26 x31 x32 x33 x38 x39 (wrap64 (x40 + 1)))
def impl_sproutMoves.l4 : Nat → List Int → List (List Int) → Int → List (List Int) → Int → Int → Int → Int → List (List (List Int)) → Int → Int → List (List Int) → Int → Int → List Int → Int → Int → List Int → Int → Int → Option ((List (List Int)))
  | 0, _, _, _, _, _, _, _, _, _, _, _, _, _, _, _, _, _, _, _, _ => none
  | k + 1, x3, x5, x6, x7, x8, x10, x11, x12, x24, x25, x26, x31, x32, x33, x38, x39, x40, x55, x56, x57 => if x57 < x56 then (if 0 ≤ x57 then (if x57 < (x55.length : Int) then (if x12 = x8 then (if x57 < x10 then (impl_sproutMoves.j5 k x3 x5 x6 x7 x8 x10 x11 x12 x57 x24 x25 x26 x31 x32 x33 x38 x39 x40 x55 x56 x57 true) else ((impl_mayJoin.f x3 x11 (rd x55 x57)).bind fun t310 => (impl_sproutMoves.j5 k x3 x5 x6 x7 x8 x10 x11 x12 x57 x24 x25 x26 x31 x32 x33 x38 x39 x40 x55 x56 x57 (!t310)))) else ((impl_mayJoin.f x3 x11 (rd x55 x57)).bind fun t311 => (impl_sproutMoves.j5 k x3 x5 x6 x7 x8 x10 x11 x12 x57 x24 x25 x26 x31 x32 x33 x38 x39 x40 x55 x56 x57 (!t311)))) else (none)) else (none)) else (impl_sproutMoves.l3 k x3 x5 x6 x7 x8 x10 x11 (wrap64 (x12 + 1)) x24 x25 x26 x31 x32 x33 x38 x39 x40)
def impl_sproutMoves.j5 : Nat → List Int → List (List Int) → Int → List (List Int) → Int → Int → Int → Int → Int → List (List (List Int)) → Int → Int → List (List Int) → Int → Int → List Int → Int → Int → List Int → Int → Int → Bool → Option ((List (List Int)))
  | 0, _, _, _, _, _, _, _, _, _, _, _, _, _, _, _, _, _, _, _, _, _, _ => none
  | k + 1, x3, x5, x6, x7, x8, x10, x11, x12, x13, x24, x25, x26, x31, x32, x33, x38, x39, x40, x55, x56, x57, x76 => if x76 = true then (impl_sproutMoves.l4 k x3 x5 x6 x7 x8 x10 x11 x12 x24 x25 x26 x31 x32 x33 x38 x39 x40 x55 x56 (wrap64 (x57 + 1))) else ((impl_cuts.f x7 x8 x12).bind fun t312 => (impl_sproutMoves.l5 k x3 x5 x6 x7 x8 x10 x11 x12 x13 x24 x25 x26 x31 x32 x33 x38 x39 x40 x55 x56 x57 t312 (t312.length : Int) 0))
def impl_sproutMoves.l5 : Nat → List Int → List (List Int) → Int → List (List Int) → Int → Int → Int → Int → Int → List (List (List Int)) → Int → Int → List (List Int) → Int → Int → List Int → Int → Int → List Int → Int → Int → List Int → Int → Int → Option ((List (List Int)))
  | 0, _, _, _, _, _, _, _, _, _, _, _, _, _, _, _, _, _, _, _, _, _, _, _, _ => none
  | k + 1, x3, x5, x6, x7, x8, x10, x11, x12, x13, x24, x25, x26, x31, x32, x33, x38, x39, x40, x55, x56, x57, x80, x81, x82 => if x82 < x81 then (if 0 ≤ x82 then (if x82 < (x80.length : Int) then (if x5.length < 5864062014805 then (impl_sproutMoves.l5 k x3 (x5 ++ [(([x6, x8, x10, x12, x13, rd x80 x82] : List Int))]) x6 x7 x8 x10 x11 x12 x13 x24 x25 x26 x31 x32 x33 x38 x39 x40 x55 x56 x57 x80 x81 (wrap64 (x82 + 1))) else (none)) else (none)) else (none)) else (impl_sproutMoves.l4 k x3 x5 x6 x7 x8 x10 x11 x12 x24 x25 x26 x31 x32 x33 x38 x39 x40 x55 x56 (wrap64 (x57 + 1)))
end
def impl_sproutMoves.f (k : Nat) (a0_0 : Int) (l0_1 : List (List (List Int))) : Option ((List (List Int))) := (impl_Sprouts_degrees.f k a0_0 l0_1).bind fun bt298 => (impl_sproutMoves.l0 k bt298.1 (([] : List (List Int))) l0_1 (l0_1.length : Int) 0)
theorem impl_sproutMoves.mono_l : ∀ k, (∀ y0 y1 y2 y3 y4, LeO (impl_sproutMoves.l0 k y0 y1 y2 y3 y4) (impl_sproutMoves.l0 (k + 1) y0 y1 y2 y3 y4)) ∧ (∀ y0 y1 y2 y3 y4 y5 y6 y7 y8 y9, LeO (impl_sproutMoves.l1 k y0 y1 y2 y3 y4 y5 y6 y7 y8 y9) (impl_sproutMoves.l1 (k + 1) y0 y1 y2 y3 y4 y5 y6 y7 y8 y9)) ∧ (∀ y0 y1 y2 y3 y4 y5 y6 y7 y8 y9 y10 y11 y12 y13, LeO (impl_sproutMoves.l2 k y0 y1 y2 y3 y4 y5 y6 y7 y8 y9 y10 y11 y12 y13) (impl_sproutMoves.l2 (k + 1) y0 y1 y2 y3 y4 y5 y6 y7 y8 y9 y10 y11 y12 y13)) ∧ (∀ y0 y1 y2 y3 y4 y5 y6 y7 y8 y9 y10 y11 y12 y13 y14 y15 y16, LeO (impl_sproutMoves.l3 k y0 y1 y2 y3 y4 y5 y6 y7 y8 y9 y10 y11 y12 y13 y14 y15 y16) (impl_sproutMoves.l3 (k + 1) y0 y1 y2 y3 y4 y5 y6 y7 y8 y9 y10 y11 y12 y13 y14 y15 y16)) ∧ (∀ y0 y1 y2 y3 y4 y5 y6 y7 y8 y9 y10 y11 y12 y13 y14 y15 y16 y17 y18 y19, LeO (impl_sproutMoves.l4 k y0 y1 y2 y3 y4 y5 y6 y7 y8 y9 y10 y11 y12 y13 y14 y15 y16 y17 y18 y19) (impl_sproutMoves.l4 (k + 1) y0 y1 y2 y3 y4 y5 y6 y7 y8 y9 y10 y11 y12 y13 y14 y15 y16 y17 y18 y19)) ∧ (∀ y0 y1 y2 y3 y4 y5 y6 y7 y8 y9 y10 y11 y12 y13 y14 y15 y16 y17 y18 y19 y20 y21, LeO (impl_sproutMoves.j5 k y0 y1 y2 y3 y4 y5 y6 y7 y8 y9 y10 y11 y12 y13 y14 y15 y16 y17 y18 y19 y20 y21) (impl_sproutMoves.j5 (k + 1) y0 y1 y2 y3 y4 y5 y6 y7 y8 y9 y10 y11 y12 y13 y14 y15 y16 y17 y18 y19 y20 y21)) ∧ (∀ y0 y1 y2 y3 y4 y5 y6 y7 y8 y9 y10 y11 y12 y13 y14 y15 y16 y17 y18 y19 y20 y21 y22 y23, LeO (impl_sproutMoves.l5 k y0 y1 y2 y3 y4 y5 y6 y7 y8 y9 y10 y11 y12 y13 y14 y15 y16 y17 y18 y19 y20 y21 y22 y23) (impl_sproutMoves.l5 (k + 1) y0 y1 y2 y3 y4 y5 y6 y7 y8 y9 y10 y11 y12 y13 y14 y15 y16 y17 y18 y19 y20 y21 y22 y23))
  | 0 => ⟨fun _ _ _ _ _ r h => by simp [impl_sproutMoves.l0] at h, fun _ _ _ _ _ _ _ _ _ _ r h => by simp [impl_sproutMoves.l1] at h, fun _ _ _ _ _ _ _ _ _ _ _ _ _ _ r h => by simp [impl_sproutMoves.l2] at h, fun _ _ _ _ _ _ _ _ _ _ _ _ _ _ _ _ _ r h => by simp [impl_sproutMoves.l3] at h, fun _ _ _ _ _ _ _ _ _ _ _ _ _ _ _ _ _ _ _ _ r h => by simp [impl_sproutMoves.l4] at h, fun _ _ _ _ _ _ _ _ _ _ _ _ _ _ _ _ _ _ _ _ _ _ r h => by simp [impl_sproutMoves.j5] at h, fun _ _ _ _ _ _ _ _ _ _ _ _ _ _ _ _ _ _ _ _ _ _ _ _ r h => by simp [impl_sproutMoves.l5] at h⟩
  | k + 1 => by
    obtain ⟨ih0, ih1, ih2, ih3, ih4, ih5, ih6⟩ := impl_sproutMoves.mono_l k
    refine ⟨?_, ?_, ?_, ?_, ?_, ?_, ?_⟩
    · intro y0 y1 y2 y3 y4
      unfold impl_sproutMoves.l0
      repeat' first
      | (with_reducible exact ih0 _ _ _ _ _)
      | (with_reducible exact ih1 _ _ _ _ _ _ _ _ _ _)
      | (with_reducible exact ih2 _ _ _ _ _ _ _ _ _ _ _ _ _ _)
      | (with_reducible exact ih3 _ _ _ _ _ _ _ _ _ _ _ _ _ _ _ _ _)
      | (with_reducible exact ih4 _ _ _ _ _ _ _ _ _ _ _ _ _ _ _ _ _ _ _ _)
      | (with_reducible exact ih5 _ _ _ _ _ _ _ _ _ _ _ _ _ _ _ _ _ _ _ _ _ _)
      | (with_reducible exact ih6 _ _ _ _ _ _ _ _ _ _ _ _ _ _ _ _ _ _ _ _ _ _ _ _)
      | (with_reducible exact impl_Sprouts_degrees.mono _ _ _)
      | (with_reducible exact LeO.refl _)
      | (with_reducible exact LeO.none _)
      | (with_reducible refine LeO.ite ?_ ?_)
      | (with_reducible refine LeO.bind ?_ (fun _ => ?_))
      | exact ih0 _ _ _ _ _
      | exact ih1 _ _ _ _ _ _ _ _ _ _
      | exact ih2 _ _ _ _ _ _ _ _ _ _ _ _ _ _
      | exact ih3 _ _ _ _ _ _ _ _ _ _ _ _ _ _ _ _ _
      | exact ih4 _ _ _ _ _ _ _ _ _ _ _ _ _ _ _ _ _ _ _ _
      | exact ih5 _ _ _ _ _ _ _ _ _ _ _ _ _ _ _ _ _ _ _ _ _ _
      | exact ih6 _ _ _ _ _ _ _ _ _ _ _ _ _ _ _ _ _ _ _ _ _ _ _ _
      | exact impl_Sprouts_degrees.mono _ _ _
      | exact LeO.none _
      | refine LeO.ite ?_ ?_
      | refine LeO.bind ?_ (fun _ => ?_)
    · intro y0 y1 y2 y3 y4 y5 y6 y7 y8 y9
      unfold impl_sproutMoves.l1
      repeat' first
      | (with_reducible exact ih0 _ _ _ _ _)
      | (with_reducible exact ih1 _ _ _ _ _ _ _ _ _ _)
      | (with_reducible exact ih2 _ _ _ _ _ _ _ _ _ _ _ _ _ _)
      | (with_reducible exact ih3 _ _ _ _ _ _ _ _ _ _ _ _ _ _ _ _ _)
      | (with_reducible exact ih4 _ _ _ _ _ _ _ _ _ _ _ _ _ _ _ _ _ _ _ _)
      | (with_reducible exact ih5 _ _ _ _ _ _ _ _ _ _ _ _ _ _ _ _ _ _ _ _ _ _)
      | (with_reducible exact ih6 _ _ _ _ _ _ _ _ _ _ _ _ _ _ _ _ _ _ _ _ _ _ _ _)
      | (with_reducible exact impl_Sprouts_degrees.mono _ _ _)
      | (with_reducible exact LeO.refl _)
      | (with_reducible exact LeO.none _)
      | (with_reducible refine LeO.ite ?_ ?_)
      | (with_reducible refine LeO.bind ?_ (fun _ => ?_))
      | exact ih0 _ _ _ _ _
      | exact ih1 _ _ _ _ _ _ _ _ _ _
      | exact ih2 _ _ _ _ _ _ _ _ _ _ _ _ _ _
      | exact ih3 _ _ _ _ _ _ _ _ _ _ _ _ _ _ _ _ _
      | exact ih4 _ _ _ _ _ _ _ _ _ _ _ _ _ _ _ _ _ _ _ _
      | exact ih5 _ _ _ _ _ _ _ _ _ _ _ _ _ _ _ _ _ _ _ _ _ _
      | exact ih6 _ _ _ _ _ _ _ _ _ _ _ _ _ _ _ _ _ _ _ _ _ _ _ _
      | exact impl_Sprouts_degrees.mono _ _ _
      | exact LeO.none _
      | refine LeO.ite ?_ ?_
      | refine LeO.bind ?_ (fun _ => ?_)
    · intro y0 y1 y2 y3 y4 y5 y6 y7 y8 y9 y10 y11 y12 y13
      unfold impl_sproutMoves.l2
      repeat' first
      | (with_reducible exact ih0 _ _ _ _ _)
      | (with_reducible exact ih1 _ _ _ _ _ _ _ _ _ _)
      | (with_reducible exact ih2 _ _ _ _ _ _ _ _ _ _ _ _ _ _)
      | (with_reducible exact ih3 _ _ _ _ _ _ _ _ _ _ _ _ _ _ _ _ _)
      | (with_reducible exact ih4 _ _ _ _ _ _ _ _ _ _ _ _ _ _ _ _ _ _ _ _)
      | (with_reducible exact ih5 _ _ _ _ _ _ _ _ _ _ _ _ _ _ _ _ _ _ _ _ _ _)
      | (with_reducible exact ih6 _ _ _ _ _ _ _ _ _ _ _ _ _ _ _ _ _ _ _ _ _ _ _ _)
      | (with_reducible exact impl_Sprouts_degrees.mono _ _ _)
      | (with_reducible exact LeO.refl _)
      | (with_reducible exact LeO.none _)
      | (with_reducible refine LeO.ite ?_ ?_)
      | (with_reducible refine LeO.bind ?_ (fun _ => ?_))
      | exact ih0 _ _ _ _ _
      | exact ih1 _ _ _ _ _ _ _ _ _ _
      | exact ih2 _ _ _ _ _ _ _ _ _ _ _ _ _ _
      | exact ih3 _ _ _ _ _ _ _ _ _ _ _ _ _ _ _ _ _
      | exact ih4 _ _ _ _ _ _ _ _ _ _ _ _ _ _ _ _ _ _ _ _
      | exact ih5 _ _ _ _ _ _ _ _ _ _ _ _ _ _ _ _ _ _ _ _ _ _
      | exact ih6 _ _ _ _ _ _ _ _ _ _ _ _ _ _ _ _ _ _ _ _ _ _ _ _
      | exact impl_Sprouts_degrees.mono _ _ _
      | exact LeO.none _
      | refine LeO.ite ?_ ?_
      | refine LeO.bind ?_ (fun _ => ?_)
    · intro y0 y1 y2 y3 y4 y5 y6 y7 y8 y9 y10 y11 y12 y13 y14 y15 y16
      unfold impl_sproutMoves.l3
      repeat' first
      | (with_reducible exact ih0 _ _ _ _ _)
      | (with_reducible exact ih1 _ _ _ _ _ _ _ _ _ _)
      | (with_reducible exact ih2 _ _ _ _ _ _ _ _ _ _ _ _ _ _)
      | (with_reducible exact ih3 _ _ _ _ _ _ _ _ _ _ _ _ _ _ _ _ _)
      | (with_reducible exact ih4 _ _ _ _ _ _ _ _ _ _ _ _ _ _ _ _ _ _ _ _)
      | (with_reducible exact ih5 _ _ _ _ _ _ _ _ _ _ _ _ _ _ _ _ _ _ _ _ _ _)
      | (with_reducible exact ih6 _ _ _ _ _ _ _ _ _ _ _ _ _ _ _ _ _ _ _ _ _ _ _ _)
      | (with_reducible exact impl_Sprouts_degrees.mono _ _ _)
      | (with_reducible exact LeO.refl _)
      | (with_reducible exact LeO.none _)
      | (with_reducible refine LeO.ite ?_ ?_)
      | (with_reducible refine LeO.bind ?_ (fun _ => ?_))
      | exact ih0 _ _ _ _ _
      | exact ih1 _ _ _ _ _ _ _ _ _ _
      | exact ih2 _ _ _ _ _ _ _ _ _ _ _ _ _ _
      | exact ih3 _ _ _ _ _ _ _ _ _ _ _ _ _ _ _ _ _
      | exact ih4 _ _ _ _ _ _ _ _ _ _ _ _ _ _ _ _ _ _ _ _
      | exact ih5 _ _ _ _ _ _ _ _ _ _ _ _ _ _ _ _ _ _ _ _ _ _
      | exact ih6 _ _ _ _ _ _ _ _ _ _ _ _ _ _ _ _ _ _ _ _ _ _ _ _
      | exact impl_Sprouts_degrees.mono _ _ _
      | exact LeO.none _
      | refine LeO.ite ?_ ?_
      | refine LeO.bind ?_ (fun _ => ?_)
    · intro y0 y1 y2 y3 y4 y5 y6 y7 y8 y9 y10 y11 y12 y13 y14 y15 y16 y17 y18 y19
      unfold impl_sproutMoves.l4
      repeat' first
      | (with_reducible exact ih0 _ _ _ _ _)
      | (with_reducible exact ih1 _ _ _ _ _ _ _ _ _ _)
      | (with_reducible exact ih2 _ _ _ _ _ _ _ _ _ _ _ _ _ _)
      | (with_reducible exact ih3 _ _ _ _ _ _ _ _ _ _ _ _ _ _ _ _ _)
      | (with_reducible exact ih4 _ _ _ _ _ _ _ _ _ _ _ _ _ _ _ _ _ _ _ _)
      | (with_reducible exact ih5 _ _ _ _ _ _ _ _ _ _ _ _ _ _ _ _ _ _ _ _ _ _)
      | (with_reducible exact ih6 _ _ _ _ _ _ _ _ _ _ _ _ _ _ _ _ _ _ _ _ _ _ _ _)
      | (with_reducible exact impl_Sprouts_degrees.mono _ _ _)
      | (with_reducible exact LeO.refl _)
      | (with_reducible exact LeO.none _)
      | (with_reducible refine LeO.ite ?_ ?_)
      | (with_reducible refine LeO.bind ?_ (fun _ => ?_))
      | exact ih0 _ _ _ _ _
      | exact ih1 _ _ _ _ _ _ _ _ _ _
      | exact ih2 _ _ _ _ _ _ _ _ _ _ _ _ _ _
      | exact ih3 _ _ _ _ _ _ _ _ _ _ _ _ _ _ _ _ _
      | exact ih4 _ _ _ _ _ _ _ _ _ _ _ _ _ _ _ _ _ _ _ _
      | exact ih5 _ _ _ _ _ _ _ _ _ _ _ _ _ _ _ _ _ _ _ _ _ _
      | exact ih6 _ _ _ _ _ _ _ _ _ _ _ _ _ _ _ _ _ _ _ _ _ _ _ _
      | exact impl_Sprouts_degrees.mono _ _ _
      | exact LeO.none _
      | refine LeO.ite ?_ ?_
      | refine LeO.bind ?_ (fun _ => ?_)
    · intro y0 y1 y2 y3 y4 y5 y6 y7 y8 y9 y10 y11 y12 y13 y14 y15 y16 y17 y18 y19 y20 y21
      unfold impl_sproutMoves.j5
      repeat' first
      | (with_reducible exact ih0 _ _ _ _ _)
      | (with_reducible exact ih1 _ _ _ _ _ _ _ _ _ _)
      | (with_reducible exact ih2 _ _ _ _ _ _ _ _ _ _ _ _ _ _)
      | (with_reducible exact ih3 _ _ _ _ _ _ _ _ _ _ _ _ _ _ _ _ _)
      | (with_reducible exact ih4 _ _ _ _ _ _ _ _ _ _ _ _ _ _ _ _ _ _ _ _)
      | (with_reducible exact ih5 _ _ _ _ _ _ _ _ _ _ _ _ _ _ _ _ _ _ _ _ _ _)
      | (with_reducible exact ih6 _ _ _ _ _ _ _ _ _ _ _ _ _ _ _ _ _ _ _ _ _ _ _ _)
      | (with_reducible exact impl_Sprouts_degrees.mono _ _ _)
      | (with_reducible exact LeO.refl _)
      | (with_reducible exact LeO.none _)
      | (with_reducible refine LeO.ite ?_ ?_)
      | (with_reducible refine LeO.bind ?_ (fun _ => ?_))
      | exact ih0 _ _ _ _ _
      | exact ih1 _ _ _ _ _ _ _ _ _ _
      | exact ih2 _ _ _ _ _ _ _ _ _ _ _ _ _ _
      | exact ih3 _ _ _ _ _ _ _ _ _ _ _ _ _ _ _ _ _
      | exact ih4 _ _ _ _ _ _ _ _ _ _ _ _ _ _ _ _ _ _ _ _
      | exact ih5 _ _ _ _ _ _ _ _ _ _ _ _ _ _ _ _ _ _ _ _ _ _
      | exact ih6 _ _ _ _ _ _ _ _ _ _ _ _ _ _ _ _ _ _ _ _ _ _ _ _
      | exact impl_Sprouts_degrees.mono _ _ _
      | exact LeO.none _
      | refine LeO.ite ?_ ?_
      | refine LeO.bind ?_ (fun _ => ?_)
    · intro y0 y1 y2 y3 y4 y5 y6 y7 y8 y9 y10 y11 y12 y13 y14 y15 y16 y17 y18 y19 y20 y21 y22 y23
      unfold impl_sproutMoves.l5
      repeat' first
      | (with_reducible exact ih0 _ _ _ _ _)
      | (with_reducible exact ih1 _ _ _ _ _ _ _ _ _ _)
      | (with_reducible exact ih2 _ _ _ _ _ _ _ _ _ _ _ _ _ _)
      | (with_reducible exact ih3 _ _ _ _ _ _ _ _ _ _ _ _ _ _ _ _ _)
      | (with_reducible exact ih4 _ _ _ _ _ _ _ _ _ _ _ _ _ _ _ _ _ _ _ _)
      | (with_reducible exact ih5 _ _ _ _ _ _ _ _ _ _ _ _ _ _ _ _ _ _ _ _ _ _)
      | (with_reducible exact ih6 _ _ _ _ _ _ _ _ _ _ _ _ _ _ _ _ _ _ _ _ _ _ _ _)
      | (with_reducible exact impl_Sprouts_degrees.mono _ _ _)
      | (with_reducible exact LeO.refl _)
      | (with_reducible exact LeO.none _)
      | (with_reducible refine LeO.ite ?_ ?_)
      | (with_reducible refine LeO.bind ?_ (fun _ => ?_))
      | exact ih0 _ _ _ _ _
      | exact ih1 _ _ _ _ _ _ _ _ _ _
      | exact ih2 _ _ _ _ _ _ _ _ _ _ _ _ _ _
      | exact ih3 _ _ _ _ _ _ _ _ _ _ _ _ _ _ _ _ _
      | exact ih4 _ _ _ _ _ _ _ _ _ _ _ _ _ _ _ _ _ _ _ _
      | exact ih5 _ _ _ _ _ _ _ _ _ _ _ _ _ _ _ _ _ _ _ _ _ _
      | exact ih6 _ _ _ _ _ _ _ _ _ _ _ _ _ _ _ _ _ _ _ _ _ _ _ _
      | exact impl_Sprouts_degrees.mono _ _ _
      | exact LeO.none _
      | refine LeO.ite ?_ ?_
      | refine LeO.bind ?_ (fun _ => ?_)
theorem impl_sproutMoves.mono : ∀ a0 a1 k, LeO (impl_sproutMoves.f k a0 a1) (impl_sproutMoves.f (k + 1) a0 a1) := by
  intro a0 a1 k
  obtain ⟨ih0, ih1, ih2, ih3, ih4, ih5, ih6⟩ := impl_sproutMoves.mono_l k
  unfold impl_sproutMoves.f
  repeat' first
      | (with_reducible exact ih0 _ _ _ _ _)
      | (with_reducible exact ih1 _ _ _ _ _ _ _ _ _ _)
      | (with_reducible exact ih2 _ _ _ _ _ _ _ _ _ _ _ _ _ _)
      | (with_reducible exact ih3 _ _ _ _ _ _ _ _ _ _ _ _ _ _ _ _ _)
      | (with_reducible exact ih4 _ _ _ _ _ _ _ _ _ _ _ _ _ _ _ _ _ _ _ _)
      | (with_reducible exact ih5 _ _ _ _ _ _ _ _ _ _ _ _ _ _ _ _ _ _ _ _ _ _)
      | (with_reducible exact ih6 _ _ _ _ _ _ _ _ _ _ _ _ _ _ _ _ _ _ _ _ _ _ _ _)
      | (with_reducible exact impl_Sprouts_degrees.mono _ _ _)
      | (with_reducible exact LeO.refl _)
      | (with_reducible exact LeO.none _)
      | (with_reducible refine LeO.ite ?_ ?_)
      | (with_reducible refine LeO.bind ?_ (fun _ => ?_))
      | exact ih0 _ _ _ _ _
      | exact ih1 _ _ _ _ _ _ _ _ _ _
      | exact ih2 _ _ _ _ _ _ _ _ _ _ _ _ _ _
      | exact ih3 _ _ _ _ _ _ _ _ _ _ _ _ _ _ _ _ _
      | exact ih4 _ _ _ _ _ _ _ _ _ _ _ _ _ _ _ _ _ _ _ _
      | exact ih5 _ _ _ _ _ _ _ _ _ _ _ _ _ _ _ _ _ _ _ _ _ _
      | exact ih6 _ _ _ _ _ _ _ _ _ _ _ _ _ _ _ _ _ _ _ _ _ _ _ _
      | exact impl_Sprouts_degrees.mono _ _ _
      | exact LeO.none _
      | refine LeO.ite ?_ ?_
      | refine LeO.bind ?_ (fun _ => ?_)
set_option maxHeartbeats 8000000 in
set_option maxRecDepth 100000 in
theorem impl_sproutMoves.calls (k : Nat) (a0_0 : Int) (A0_1 : Option Addr) (c0_1 : Nat) (l0_1 : List (List (List Int))) (r : List (List Int)) (w : World) (hr0_1 : Kd.C (Kd.slice 33 (Kd.slice 2 (Kd.int .i64))) w A0_1 l0_1.length l0_1) (hc0_1 : l0_1.length ≤ c0_1) (h : impl_sproutMoves.f k a0_0 l0_1 = some r) :
    Calls Try.prog 41 #[.agg #[.int .i64 a0_0, .slice A0_1 l0_1.length c0_1]] w fun e w' => ∃ v0_ : Value, e = .returned (v0_) ∧ Kd.S (Kd.slice 2 (Kd.int .i64)) 33 w' w.heap.size (fun _ => True) v0_ r ∧ Below w.heap.size w w' := by
  have hu27 := Try.underlying27
  have HR0_1 := Aside0.mk hr0_1
  have HC0_1 := Aside0.mk hc0_1
  clear hr0_1 hc0_1
  have HB := Aside0.mk (Below.refl w.heap.size w)
  have H : ((impl_Sprouts_degrees.f k a0_0 l0_1).bind fun bt298 => (impl_sproutMoves.l0 k bt298.1 (([] : List (List Int))) l0_1 (l0_1.length : Int) 0)) = some r := h
  clear h
  replace H := Option.bind_eq_some_iff.mp H
  obtain ⟨⟨t298, t301⟩, A20, H⟩ := H
  replace H : (impl_sproutMoves.l0 k t298 (([] : List (List Int))) l0_1 (l0_1.length : Int) 0) = some r := H
  have A2 := Aside0.mk A20
  clear A20
  obtain ⟨y302, hy302⟩ : ∃ y_ : List (List Int), y_ = (([] : List (List Int))) := ⟨_, rfl⟩
  replace H : (impl_sproutMoves.l0 k t298 y302 l0_1 (l0_1.length : Int) 0) = some r := by first | (rw [hy302]; with_reducible exact H) | (have H2_ := (Option.bind_some _ _).symm.trans H; rw [hy302]; with_reducible exact H2_) | (have H2_ := (Option.bind_some _ _).symm.trans H; with_reducible exact H2_) | with_reducible exact H | (rw [hy302]; exact H) | exact H
  have Ny302 := Aside0.mk hy302
  clear hy302
  have H' := Aside0.mk H
  clear H
  go_enter Try.func41, Try.ntmps41
  go_wp2_with (first | ((with_reducible refine gate_dst (N := 1) rfl ?_); refine box_event ?hg (N := 1) ?hd (cs := #[.int .i64 a0_0, .slice A0_1 l0_1.length c0_1]) (t := 27) ?hr ?_; (case hd => rfl); (case hg => rfl); (case hr => first | (go_simp; done) | (go_simp; rfl)); intro gb297 hg w3 hbox hb; have n0_ := Aside0.mk (below_step (by repeat (first | (with_reducible first | exact HB.out | apply below_alloc | apply pw_below_drewN | apply below_drew1) | exact HB.out)) hb); have n1_ := Aside0.mk (hbox); have n2_ := Aside0.mk ((by rw [hg]; exact (below_size (by repeat (first | (with_reducible first | exact HB.out | apply below_alloc | apply pw_below_drewN | apply below_drew1) | exact HB.out))) : w.heap.size ≤ gb297)); have n3_ := Aside0.mk ((by rw [hg]; exact (below_size (by repeat (first | (with_reducible first | exact HB.out | apply below_alloc | apply pw_below_drewN | apply below_drew1) | exact HB.out))) : w.heap.size ≤ gb297)); clear HB; have HB := n0_; have BK297 := n1_; have GW297 := n2_; have GE297 := n3_; clear n0_ n1_ n2_ n3_; clear hb hbox hg; have hcz4_0 : w3.cell? ⟨gb297, 0, none⟩ = some (.int .i64 a0_0) := (blk_cell BK297.out 0).trans rfl; have hcz4_1 : w3.cell? ⟨gb297, 1, none⟩ = some (.slice A0_1 l0_1.length c0_1) := (blk_cell BK297.out 1).trans rfl; have hfz4_0 := blk_frozen BK297.out 0; have hfz4_1 := blk_frozen BK297.out 1) | ((with_reducible refine gate_callee (f := 31) rfl ?_); refine goesL_ (some 19) rfl rfl Try.func31 (by kernel_rfl) rfl #[.agg #[.int .i64 a0_0, .slice A0_1 l0_1.length c0_1]] rfl (by (try simp only [List.map_toArray, List.map_cons, List.map_nil]); first | done | rfl | (simp only [List.length_drop, List.length_take]; rfl)) ?_; (with_reducible refine (impl_Sprouts_degrees.calls k a0_0 _ _ l0_1 t298 t301 _ ?side1 ?side2 A2.out).mono ?_); (case side1 => repeat (first | exact (Kd.C_below HR0_1.out HB.out) | (with_reducible refine Kd.C_alloc ?_ _) | (with_reducible refine Kd.C_drewN ?_ _) | (with_reducible refine Kd.C_drew ?_))); (case side2 => exact HC0_1.out); rintro e w5 ⟨v299, rfl, ho0, hb⟩; refine ⟨_, rfl, ?_⟩; have n0_ := Aside0.mk (Kd.R_lower ho0 (below_size (by repeat (first | (with_reducible first | exact HB.out | apply below_alloc | apply pw_below_drewN | apply below_drew1 | refine below_set ?_ GE297.out) | exact HB.out)))); have n1_ := Aside0.mk (blk_below (g := gb297) (o := .cells #[.int .i64 a0_0, .slice A0_1 l0_1.length c0_1] 27 (0, 0)) (by (with_reducible repeat (first | refine blk_drewN ?_ _ | refine blk_drew ?_ | refine blk_alloc ?_ _)); exact BK297.out) hb); have n2_ := Aside0.mk (below_step (by repeat (first | (with_reducible first | exact HB.out | apply below_alloc | apply pw_below_drewN | apply below_drew1 | refine below_set ?_ GE297.out) | exact HB.out)) hb); clear BK297; clear HB; have HO300 := n0_; have BK297 := n1_; have HB := n2_; clear n0_ n1_ n2_; (try clear hb); (try clear hb2); (try clear hk); (try clear hi); (try clear ho0)) | ((with_reducible refine gate_dst (N := 22) rfl ?_); refine Kd.S_lit (Kd.slice 2 (Kd.int .i64)) _ 33 ?hg (N := 22) ?hd (xs := ([] : List (List Int))) (inner := []) (ok := fun _ => True) (okp := fun _ => True) ?hr ?hp (fun _ hk => hk) trivial (Below.refl _ _) (Nat.le_refl _) (by simp) ?_; (case hd => rfl); (case hg => rfl); (case hr => first | (go_simp; done) | (go_simp; rfl)); (case hp => exact (Reps.none _ _)); intro v303 w6 ho7 hb hg_ hnew_; clear hg_ hnew_; (first | rw [← Ny302.out] at ho7 | (simp only [Int.reduceToNat] at ho7; rw [← Ny302.out] at ho7)); have n0_ := Aside0.mk (Kd.R_below (by (with_reducible repeat (first | apply Kd.R_alloc | apply Kd.R_drewN | apply Kd.R_drew)); exact HO300.out) hb); have n1_ := Aside0.mk (Kd.S_lower (Kd.S_new' ho7 (Kd.R_lt (by (with_reducible repeat (first | apply Kd.R_alloc | apply Kd.R_drewN | apply Kd.R_drew)); exact HO300.out))) (below_size (by repeat (first | (with_reducible first | exact HB.out | apply below_alloc | apply pw_below_drewN | apply below_drew1 | refine below_set ?_ GE297.out) | exact HB.out)))); have n2_ := Aside0.mk (blk_below (g := gb297) (o := .cells #[.int .i64 a0_0, .slice A0_1 l0_1.length c0_1] 27 (0, 0)) (by (with_reducible repeat (first | refine blk_drewN ?_ _ | refine blk_drew ?_ | refine blk_alloc ?_ _)); exact BK297.out) hb); have n3_ := Aside0.mk (below_step (by repeat (first | (with_reducible first | exact HB.out | apply below_alloc | apply pw_below_drewN | apply below_drew1 | refine below_set ?_ GE297.out) | exact HB.out)) hb); clear HO300; clear BK297; clear HB; have HO300 := n0_; have HO304 := n1_; have BK297 := n2_; have HB := n3_; clear n0_ n1_ n2_ n3_; clear hb ho7; have hcz8_0 : w6.cell? ⟨gb297, 0, none⟩ = some (.int .i64 a0_0) := (blk_cell BK297.out 0).trans rfl; have hcz8_1 : w6.cell? ⟨gb297, 1, none⟩ = some (.slice A0_1 l0_1.length c0_1) := (blk_cell BK297.out 1).trans rfl; have hfz8_0 := blk_frozen BK297.out 0; have hfz8_1 := blk_frozen BK297.out 1))
  go_loopg [5, 26] k (fun kq v5 v26 w' => ∃ (x5_1 : List (List Int)) (x26_1 : Int), v26 = .int .i64 x26_1 ∧ Aside0 (impl_sproutMoves.l0 kq t298 x5_1 l0_1 (l0_1.length : Int) x26_1 = some r) ∧ Aside0 (kq ≤ k) ∧ Aside0 (Kd.R (Kd.int .i64) 2 w' w.heap.size (fun _ => True) v299 t298) ∧ Aside0 (Kd.S (Kd.slice 2 (Kd.int .i64)) 33 w' w.heap.size (fun k_ => some k_ ≠ (v299 : Value).ownBlock) v5 x5_1) ∧ Aside0 (w'.heap[gb297]? = some (.cells #[.int .i64 a0_0, (.slice A0_1 l0_1.length c0_1)] 27 (0, 0))) ∧ Aside0 (Below w.heap.size w w'))
  case atStart => exact ⟨(y302), (0), (by first | rfl | (simp; done) | (simp [*]; done)), H', ⟨Nat.le_refl _⟩, ⟨by (with_reducible repeat (first | apply Kd.R_alloc | apply Kd.R_drewN | apply Kd.R_drew)); exact HO300.out⟩, ⟨by (with_reducible repeat (first | apply Kd.S_alloc | apply Kd.S_drewN | apply Kd.S_drew)); exact Kd.S_mono HO304.out (fun _ hk => hk.2)⟩, ⟨by (with_reducible repeat (first | refine blk_drewN ?_ _ | refine blk_drew ?_ | refine blk_alloc ?_ _)); exact BK297.out⟩, ⟨by repeat (first | (with_reducible first | exact HB.out | apply below_alloc | apply pw_below_drewN | apply below_drew1 | refine below_set ?_ GE297.out) | exact HB.out)⟩⟩
  case round =>
    clear H'
    try clear p2
    try clear c3
    try clear c4
    try clear hcz4_0
    try clear hcz4_1
    try clear hcz8_0
    try clear hcz8_1
    try clear hfz4_0
    try clear hfz4_1
    try clear hfz8_0
    try clear hfz8_1
    obtain ⟨x5_1, x26_1, rfl, HA, HK1, HO_3, HO_5, BK297, HB⟩ := hrel
    cases gk with
    | zero => exact absurd HA.out (by simp [impl_sproutMoves.l0])
    | succ k1 =>
      have H := HA.out
      clear HA
      simp only [impl_sproutMoves.l0] at H
      by_cases c9 : x26_1 < (l0_1.length : Int)
      · rw [if_pos c9] at H
        have c9b0 : decide (x26_1 < (l0_1.length : Int)) = true := decide_eq_true c9
        clear c9
        by_cases c10 : 0 ≤ x26_1
        · rw [if_pos c10] at H
          have c10b0 : decide (0 ≤ x26_1) = true := decide_eq_true c10
          clear c10
          by_cases c11 : x26_1 < (l0_1.length : Int)
          · rw [if_pos c11] at H
            have c11b0 : decide (x26_1 < (l0_1.length : Int)) = true := decide_eq_true c11
            clear c11
            have H' := Aside0.mk H
            clear H
            have p305 : 0 ≤ (x26_1 : Int) := of_decide_eq_true (by first | (with_reducible assumption) | assumption)
            have q305 : x26_1 < (l0_1.length : Int) := of_decide_eq_true (by first | (with_reducible assumption) | assumption)
            obtain ⟨ad305, A305_0, c305_0, e305, hx305_0, hl305_0, hi305_0⟩ := at_L2 HR0_1.out x26_1 p305 q305
            cases e305
            replace hx305_0 := (HB.out.cell (World.block_lt_of_cell? w _ hx305_0)).trans hx305_0
            have HR305_0 := Aside0.mk hi305_0
            have HC305_0 := Aside0.mk hl305_0
            clear hi305_0 hl305_0
            replace p305 := eq_true p305
            replace q305 := eq_true q305
            go_wp2
            go_loopg [5, 33] k1 (fun kq v5 v33 w' => ∃ (x5_2 : List (List Int)) (x33_2 : Int), v33 = .int .i64 x33_2 ∧ Aside0 (impl_sproutMoves.l1 kq t298 x5_2 x26_1 (rd_L2 l0_1 x26_1) l0_1 (l0_1.length : Int) x26_1 (rd_L2 l0_1 x26_1) ((rd_L2 l0_1 x26_1).length : Int) x33_2 = some r) ∧ Aside0 (kq ≤ k1) ∧ Aside0 (Kd.R (Kd.int .i64) 2 w' w.heap.size (fun _ => True) v299 t298) ∧ Aside0 (Kd.S (Kd.slice 2 (Kd.int .i64)) 33 w' w.heap.size (fun k_ => some k_ ≠ (v299 : Value).ownBlock) v5 x5_2) ∧ Aside0 (w'.heap[gb297]? = some (.cells #[.int .i64 a0_0, (.slice (some ad305) l0_1.length c0_1)] 27 (0, 0))) ∧ Aside0 (Below w.heap.size w w'))
            case atStart => exact ⟨(x5_1), (0), (by first | rfl | (simp; done) | (simp [*]; done)), H', ⟨Nat.le_refl _⟩, ⟨by (with_reducible repeat (first | apply Kd.R_alloc | apply Kd.R_drewN | apply Kd.R_drew)); exact HO_3.out⟩, ⟨by (with_reducible repeat (first | apply Kd.S_alloc | apply Kd.S_drewN | apply Kd.S_drew)); exact HO_5.out⟩, ⟨by (with_reducible repeat (first | refine blk_drewN ?_ _ | refine blk_drew ?_ | refine blk_alloc ?_ _)); exact BK297.out⟩, ⟨by repeat (first | (with_reducible first | exact HB.out | apply below_alloc | apply pw_below_drewN | apply below_drew1 | refine below_set ?_ GE297.out) | exact HB.out)⟩⟩
            case round =>
              clear H'
              try clear c1
              try clear p2
              try clear c3
              try clear p3
              try clear q3
              try clear hx3
              try clear c4
              try clear c9
              try clear c9b0
              try clear c10
              try clear c10b0
              try clear c11
              try clear c11b0
              try clear hcz4_0
              try clear hcz4_1
              try clear hcz8_0
              try clear hcz8_1
              try clear hfz4_0
              try clear hfz4_1
              try clear hfz8_0
              try clear hfz8_1
              try clear hx305_0
              try clear p2
              try clear p305
              try clear q305
              obtain ⟨x5_2, x33_2, rfl, HA, HK2, HO_3, HO_5, BK297, HB⟩ := hrel
              cases gk with
              | zero => exact absurd HA.out (by simp [impl_sproutMoves.l1])
              | succ k2 =>
                have H := HA.out
                clear HA
                simp only [impl_sproutMoves.l1] at H
                by_cases c12 : x33_2 < ((rd_L2 l0_1 x26_1).length : Int)
                · rw [if_pos c12] at H
                  have c12b0 : decide (x33_2 < ((rd_L2 l0_1 x26_1).length : Int)) = true := decide_eq_true c12
                  clear c12
                  by_cases c13 : 0 ≤ x33_2
                  · rw [if_pos c13] at H
                    have c13b0 : decide (0 ≤ x33_2) = true := decide_eq_true c13
                    clear c13
                    by_cases c14 : x33_2 < ((rd_L2 l0_1 x26_1).length : Int)
                    · rw [if_pos c14] at H
                      have c14b0 : decide (x33_2 < ((rd_L2 l0_1 x26_1).length : Int)) = true := decide_eq_true c14
                      clear c14
                      have H' := Aside0.mk H
                      clear H
                      have p306 : 0 ≤ (x33_2 : Int) := of_decide_eq_true (by first | (with_reducible assumption) | assumption)
                      have q306 : x33_2 < ((rd_L2 l0_1 x26_1).length : Int) := of_decide_eq_true (by first | (with_reducible assumption) | assumption)
                      obtain ⟨ad306, A306_0, c306_0, e306, hx306_0, hl306_0, hi306_0⟩ := at_L1 HR305_0.out x33_2 p306 q306
                      cases e306
                      replace hx306_0 := (HB.out.cell (World.block_lt_of_cell? w _ hx306_0)).trans hx306_0
                      have HR306_0 := Aside0.mk hi306_0
                      have HC306_0 := Aside0.mk hl306_0
                      clear hi306_0 hl306_0
                      replace p306 := eq_true p306
                      replace q306 := eq_true q306
                      go_wp2
                      go_loopg [5, 40] k2 (fun kq v5 v40 w' => ∃ (x5_3 : List (List Int)) (x40_3 : Int), v40 = .int .i64 x40_3 ∧ Aside0 (impl_sproutMoves.l2 kq t298 x5_3 x26_1 (rd_L2 l0_1 x26_1) x33_2 l0_1 (l0_1.length : Int) x26_1 (rd_L2 l0_1 x26_1) ((rd_L2 l0_1 x26_1).length : Int) x33_2 (rd_L1 (rd_L2 l0_1 x26_1) x33_2) ((rd_L1 (rd_L2 l0_1 x26_1) x33_2).length : Int) x40_3 = some r) ∧ Aside0 (kq ≤ k2) ∧ Aside0 (Kd.R (Kd.int .i64) 2 w' w.heap.size (fun _ => True) v299 t298) ∧ Aside0 (Kd.S (Kd.slice 2 (Kd.int .i64)) 33 w' w.heap.size (fun k_ => some k_ ≠ (v299 : Value).ownBlock) v5 x5_3) ∧ Aside0 (w'.heap[gb297]? = some (.cells #[.int .i64 a0_0, (.slice (some ad305) l0_1.length c0_1)] 27 (0, 0))) ∧ Aside0 (Below w.heap.size w w'))
                      case atStart => exact ⟨(x5_2), (0), (by first | rfl | (simp; done) | (simp [*]; done)), H', ⟨Nat.le_refl _⟩, ⟨by (with_reducible repeat (first | apply Kd.R_alloc | apply Kd.R_drewN | apply Kd.R_drew)); exact HO_3.out⟩, ⟨by (with_reducible repeat (first | apply Kd.S_alloc | apply Kd.S_drewN | apply Kd.S_drew)); exact HO_5.out⟩, ⟨by (with_reducible repeat (first | refine blk_drewN ?_ _ | refine blk_drew ?_ | refine blk_alloc ?_ _)); exact BK297.out⟩, ⟨by repeat (first | (with_reducible first | exact HB.out | apply below_alloc | apply pw_below_drewN | apply below_drew1 | refine below_set ?_ GE297.out) | exact HB.out)⟩⟩
                      case round =>
                        clear H'
                        try clear c1
                        try clear p2
                        try clear c3
                        try clear p3
                        try clear q3
                        try clear hx3
                        try clear c4
                        try clear c9
                        try clear c9b0
                        try clear c10
                        try clear c10b0
                        try clear c11
                        try clear c11b0
                        try clear c12
                        try clear c12b0
                        try clear c13
                        try clear c13b0
                        try clear c14
                        try clear c14b0
                        try clear hcz4_0
                        try clear hcz4_1
                        try clear hcz8_0
                        try clear hcz8_1
                        try clear hfz4_0
                        try clear hfz4_1
                        try clear hfz8_0
                        try clear hfz8_1
                        try clear hx305_0
                        try clear hx306_0
                        try clear p2
                        try clear p3
                        try clear p305
                        try clear p306
                        try clear q3
                        try clear q305
                        try clear q306
                        obtain ⟨x5_3, x40_3, rfl, HA, HK3, HO_3, HO_5, BK297, HB⟩ := hrel
                        cases gk with
                        | zero => exact absurd HA.out (by simp [impl_sproutMoves.l2])
                        | succ k3 =>
                          have H := HA.out
                          clear HA
                          simp only [impl_sproutMoves.l2] at H
                          by_cases c15 : x40_3 < ((rd_L1 (rd_L2 l0_1 x26_1) x33_2).length : Int)
                          · rw [if_pos c15] at H
                            have c15b0 : decide (x40_3 < ((rd_L1 (rd_L2 l0_1 x26_1) x33_2).length : Int)) = true := decide_eq_true c15
                            clear c15
                            by_cases c16 : 0 ≤ x40_3
                            · rw [if_pos c16] at H
                              have c16b0 : decide (0 ≤ x40_3) = true := decide_eq_true c16
                              clear c16
                              by_cases c17 : x40_3 < ((rd_L1 (rd_L2 l0_1 x26_1) x33_2).length : Int)
                              · rw [if_pos c17] at H
                                have c17b0 : decide (x40_3 < ((rd_L1 (rd_L2 l0_1 x26_1) x33_2).length : Int)) = true := decide_eq_true c17
                                clear c17
                                have H' := Aside0.mk H
                                clear H
                                have p307 : 0 ≤ (x40_3 : Int) := of_decide_eq_true (by first | (with_reducible assumption) | assumption)
                                have q307 : x40_3 < ((rd_L1 (rd_L2 l0_1 x26_1) x33_2).length : Int) := of_decide_eq_true (by first | (with_reducible assumption) | assumption)
                                obtain ⟨ad307, e307, hx307_0⟩ := Kd.at_int HR306_0.out x40_3 p307 q307
                                cases e307
                                replace hx307_0 := (HB.out.cell (World.block_lt_of_cell? w _ hx307_0)).trans hx307_0
                                replace p307 := eq_true p307
                                replace q307 := eq_true q307
                                go_wp2
                                go_loopg [5, 12] k3 (fun kq v5 v12 w' => ∃ (x5_4 : List (List Int)) (x12_4 : Int), v12 = .int .i64 x12_4 ∧ Aside0 (impl_sproutMoves.l3 kq t298 x5_4 x26_1 (rd_L2 l0_1 x26_1) x33_2 x40_3 (rd (rd_L1 (rd_L2 l0_1 x26_1) x33_2) x40_3) x12_4 l0_1 (l0_1.length : Int) x26_1 (rd_L2 l0_1 x26_1) ((rd_L2 l0_1 x26_1).length : Int) x33_2 (rd_L1 (rd_L2 l0_1 x26_1) x33_2) ((rd_L1 (rd_L2 l0_1 x26_1) x33_2).length : Int) x40_3 = some r) ∧ Aside0 (kq ≤ k3) ∧ Aside0 (Kd.R (Kd.int .i64) 2 w' w.heap.size (fun _ => True) v299 t298) ∧ Aside0 (Kd.S (Kd.slice 2 (Kd.int .i64)) 33 w' w.heap.size (fun k_ => some k_ ≠ (v299 : Value).ownBlock) v5 x5_4) ∧ Aside0 (w'.heap[gb297]? = some (.cells #[.int .i64 a0_0, (.slice (some ad305) l0_1.length c0_1)] 27 (0, 0))) ∧ Aside0 (Below w.heap.size w w'))
                                case atStart => exact ⟨(x5_3), (x33_2), (by first | rfl | (simp; done) | (simp [*]; done)), H', ⟨Nat.le_refl _⟩, ⟨by (with_reducible repeat (first | apply Kd.R_alloc | apply Kd.R_drewN | apply Kd.R_drew)); exact HO_3.out⟩, ⟨by (with_reducible repeat (first | apply Kd.S_alloc | apply Kd.S_drewN | apply Kd.S_drew)); exact HO_5.out⟩, ⟨by (with_reducible repeat (first | refine blk_drewN ?_ _ | refine blk_drew ?_ | refine blk_alloc ?_ _)); exact BK297.out⟩, ⟨by repeat (first | (with_reducible first | exact HB.out | apply below_alloc | apply pw_below_drewN | apply below_drew1 | refine below_set ?_ GE297.out) | exact HB.out)⟩⟩
                                case round =>
                                  clear H'
                                  try clear c1
                                  try clear p2
                                  try clear c3
                                  try clear p3
                                  try clear q3
                                  try clear hx3
                                  try clear c4
                                  try clear c9
                                  try clear c9b0
                                  try clear c10
                                  try clear c10b0
                                  try clear c11
                                  try clear c11b0
                                  try clear c12
                                  try clear c12b0
                                  try clear c13
                                  try clear c13b0
                                  try clear c14
                                  try clear c14b0
                                  try clear c15
                                  try clear c15b0
                                  try clear c16
                                  try clear c16b0
                                  try clear c17
                                  try clear c17b0
                                  try clear hcz4_0
                                  try clear hcz4_1
                                  try clear hcz8_0
                                  try clear hcz8_1
                                  try clear hfz4_0
                                  try clear hfz4_1
                                  try clear hfz8_0
                                  try clear hfz8_1
                                  try clear hx305_0
                                  try clear hx306_0
                                  try clear hx307_0
                                  try clear p2
                                  try clear p3
                                  try clear p305
                                  try clear p306
                                  try clear p307
                                  try clear q3
                                  try clear q305
                                  try clear q306
                                  try clear q307
                                  obtain ⟨x5_4, x12_4, rfl, HA, HK4, HO_3, HO_5, BK297, HB⟩ := hrel
                                  cases gk with
                                  | zero => exact absurd HA.out (by simp [impl_sproutMoves.l3])
                                  | succ k4 =>
                                    have H := HA.out
                                    clear HA
                                    simp only [impl_sproutMoves.l3] at H
                                    by_cases c18 : x12_4 < ((rd_L2 l0_1 x26_1).length : Int)
                                    · rw [if_pos c18] at H
                                      have c18b0 : decide (x12_4 < ((rd_L2 l0_1 x26_1).length : Int)) = true := decide_eq_true c18
                                      clear c18
                                      by_cases c19 : 0 ≤ x12_4
                                      · rw [if_pos c19] at H
                                        have c19b0 : decide (0 ≤ x12_4) = true := decide_eq_true c19
                                        clear c19
                                        have H' := Aside0.mk H
                                        clear H
                                        have p308 : 0 ≤ (x12_4 : Int) := of_decide_eq_true (by first | (with_reducible assumption) | assumption)
                                        have q308 : x12_4 < ((rd_L2 l0_1 x26_1).length : Int) := of_decide_eq_true (by first | (with_reducible assumption) | assumption)
                                        obtain ⟨ad308, A308_0, c308_0, e308, hx308_0, hl308_0, hi308_0⟩ := at_L1 HR305_0.out x12_4 p308 q308
                                        obtain rfl : ad306 = ad308 := (by injection e308)
                                        replace hx308_0 := (HB.out.cell (World.block_lt_of_cell? w _ hx308_0)).trans hx308_0
                                        have HR308_0 := Aside0.mk hi308_0
                                        have HC308_0 := Aside0.mk hl308_0
                                        clear hi308_0 hl308_0
                                        replace p308 := eq_true p308
                                        replace q308 := eq_true q308
                                        go_wp2
                                        go_loopg [5, 57] k4 (fun kq v5 v57 w' => ∃ (x5_5 : List (List Int)) (x57_5 : Int), v57 = .int .i64 x57_5 ∧ Aside0 (impl_sproutMoves.l4 kq t298 x5_5 x26_1 (rd_L2 l0_1 x26_1) x33_2 x40_3 (rd (rd_L1 (rd_L2 l0_1 x26_1) x33_2) x40_3) x12_4 l0_1 (l0_1.length : Int) x26_1 (rd_L2 l0_1 x26_1) ((rd_L2 l0_1 x26_1).length : Int) x33_2 (rd_L1 (rd_L2 l0_1 x26_1) x33_2) ((rd_L1 (rd_L2 l0_1 x26_1) x33_2).length : Int) x40_3 (rd_L1 (rd_L2 l0_1 x26_1) x12_4) ((rd_L1 (rd_L2 l0_1 x26_1) x12_4).length : Int) x57_5 = some r) ∧ Aside0 (kq ≤ k4) ∧ Aside0 (Kd.R (Kd.int .i64) 2 w' w.heap.size (fun _ => True) v299 t298) ∧ Aside0 (Kd.S (Kd.slice 2 (Kd.int .i64)) 33 w' w.heap.size (fun k_ => some k_ ≠ (v299 : Value).ownBlock) v5 x5_5) ∧ Aside0 (w'.heap[gb297]? = some (.cells #[.int .i64 a0_0, (.slice (some ad305) l0_1.length c0_1)] 27 (0, 0))) ∧ Aside0 (Below w.heap.size w w'))
                                        case atStart => exact ⟨(x5_4), (0), (by first | rfl | (simp; done) | (simp [*]; done)), H', ⟨Nat.le_refl _⟩, ⟨by (with_reducible repeat (first | apply Kd.R_alloc | apply Kd.R_drewN | apply Kd.R_drew)); exact HO_3.out⟩, ⟨by (with_reducible repeat (first | apply Kd.S_alloc | apply Kd.S_drewN | apply Kd.S_drew)); exact HO_5.out⟩, ⟨by (with_reducible repeat (first | refine blk_drewN ?_ _ | refine blk_drew ?_ | refine blk_alloc ?_ _)); exact BK297.out⟩, ⟨by repeat (first | (with_reducible first | exact HB.out | apply below_alloc | apply pw_below_drewN | apply below_drew1 | refine below_set ?_ GE297.out) | exact HB.out)⟩⟩
                                        case round =>
                                          clear H'
                                          try clear c1
                                          try clear p2
                                          try clear c3
                                          try clear p3
                                          try clear q3
                                          try clear hx3
                                          try clear c4
                                          try clear c9
                                          try clear c9b0
                                          try clear c10
                                          try clear c10b0
                                          try clear c11
                                          try clear c11b0
                                          try clear c12
                                          try clear c12b0
                                          try clear c13
                                          try clear c13b0
                                          try clear c14
                                          try clear c14b0
                                          try clear c15
                                          try clear c15b0
                                          try clear c16
                                          try clear c16b0
                                          try clear c17
                                          try clear c17b0
                                          try clear c18
                                          try clear c18b0
                                          try clear c19
                                          try clear c19b0
                                          try clear hcz4_0
                                          try clear hcz4_1
                                          try clear hcz8_0
                                          try clear hcz8_1
                                          try clear hfz4_0
                                          try clear hfz4_1
                                          try clear hfz8_0
                                          try clear hfz8_1
                                          try clear hx305_0
                                          try clear hx306_0
                                          try clear hx307_0
                                          try clear hx308_0
                                          try clear p2
                                          try clear p3
                                          try clear p305
                                          try clear p306
                                          try clear p307
                                          try clear p308
                                          try clear q3
                                          try clear q305
                                          try clear q306
                                          try clear q307
                                          try clear q308
                                          obtain ⟨x5_5, x57_5, rfl, HA, HK5, HO_3, HO_5, BK297, HB⟩ := hrel
                                          cases gk with
                                          | zero => exact absurd HA.out (by simp [impl_sproutMoves.l4])
                                          | succ k5 =>
                                            have H := HA.out
                                            clear HA
                                            simp only [impl_sproutMoves.l4] at H
                                            by_cases c20 : x57_5 < ((rd_L1 (rd_L2 l0_1 x26_1) x12_4).length : Int)
                                            · rw [if_pos c20] at H
                                              have c20b0 : decide (x57_5 < ((rd_L1 (rd_L2 l0_1 x26_1) x12_4).length : Int)) = true := decide_eq_true c20
                                              clear c20
                                              by_cases c21 : 0 ≤ x57_5
                                              · rw [if_pos c21] at H
                                                have c21b0 : decide (0 ≤ x57_5) = true := decide_eq_true c21
                                                clear c21
                                                by_cases c22 : x57_5 < ((rd_L1 (rd_L2 l0_1 x26_1) x12_4).length : Int)
                                                · rw [if_pos c22] at H
                                                  have c22b0 : decide (x57_5 < ((rd_L1 (rd_L2 l0_1 x26_1) x12_4).length : Int)) = true := decide_eq_true c22
                                                  clear c22
                                                  have HC23 := Aside0.mk H
                                                  clear H
                                                  have p309 : 0 ≤ (x57_5 : Int) := of_decide_eq_true (by first | (with_reducible assumption) | assumption)
                                                  have q309 : x57_5 < ((rd_L1 (rd_L2 l0_1 x26_1) x12_4).length : Int) := of_decide_eq_true (by first | (with_reducible assumption) | assumption)
                                                  obtain ⟨ad309, e309, hx309_0⟩ := Kd.at_int HR308_0.out x57_5 p309 q309
                                                  cases e309
                                                  replace hx309_0 := (HB.out.cell (World.block_lt_of_cell? w _ hx309_0)).trans hx309_0
                                                  replace p309 := eq_true p309
                                                  replace q309 := eq_true q309
                                                  go_upto_region 18 with (fail)
                                                  go_cut [76] (fun v76 wc => ∃ (kq : Nat) (x76_22 : Bool), v76 = .bool x76_22 ∧ Aside0 (impl_sproutMoves.j5 kq t298 x5_5 x26_1 (rd_L2 l0_1 x26_1) x33_2 x40_3 (rd (rd_L1 (rd_L2 l0_1 x26_1) x33_2) x40_3) x12_4 x57_5 l0_1 (l0_1.length : Int) x26_1 (rd_L2 l0_1 x26_1) ((rd_L2 l0_1 x26_1).length : Int) x33_2 (rd_L1 (rd_L2 l0_1 x26_1) x33_2) ((rd_L1 (rd_L2 l0_1 x26_1) x33_2).length : Int) x40_3 (rd_L1 (rd_L2 l0_1 x26_1) x12_4) ((rd_L1 (rd_L2 l0_1 x26_1) x12_4).length : Int) x57_5 x76_22 = some r) ∧ Aside0 (kq ≤ k5) ∧ Aside0 (Kd.R (Kd.int .i64) 2 wc w.heap.size (fun _ => True) v299 t298) ∧ Aside0 (Kd.S (Kd.slice 2 (Kd.int .i64)) 33 wc w.heap.size (fun k_ => some k_ ≠ (v299 : Value).ownBlock) u5 x5_5) ∧ Aside0 (wc.heap[gb297]? = some (.cells #[.int .i64 a0_0, (.slice (some ad305) l0_1.length c0_1)] 27 (0, 0))) ∧ Aside0 (Below w.heap.size w wc))
                                                  case first =>
                                                    have H := HC23.out
                                                    clear HC23
                                                    by_cases c24 : x12_4 = x33_2
                                                    · rw [if_pos c24] at H
                                                      have c24b0 : (x12_4 == x33_2) = true := beq_iff_eq.mpr c24
                                                      have c24b1 : (x12_4 != x33_2) = false := bne_eq_false_iff_eq.mpr c24
                                                      clear c24
                                                      (first | rw [c24b0] | (simp only [i64_w, i32_w]; rw [c24b0]) | skip)
                                                      by_cases c25 : x57_5 < x40_3
                                                      · rw [if_pos c25] at H
                                                        have c25b0 : decide (x57_5 < x40_3) = true := decide_eq_true c25
                                                        clear c25
                                                        have H' := Aside0.mk H
                                                        clear H
                                                        go_wp2
                                                        go_meet
                                                        case rel => exact ⟨_, (true), (by first | rfl | (simp; done) | (simp [*]; done)), H', ⟨by have := HK1.out; have := HK2.out; have := HK3.out; have := HK4.out; have := HK5.out; first | omega | exact Nat.le_refl _⟩, ⟨by (with_reducible repeat (first | apply Kd.R_alloc | apply Kd.R_drewN | apply Kd.R_drew)); exact HO_3.out⟩, ⟨by (with_reducible repeat (first | apply Kd.S_alloc | apply Kd.S_drewN | apply Kd.S_drew)); exact HO_5.out⟩, ⟨by (with_reducible repeat (first | refine blk_drewN ?_ _ | refine blk_drew ?_ | refine blk_alloc ?_ _)); exact BK297.out⟩, ⟨by repeat (first | (with_reducible first | exact HB.out | apply below_alloc | apply pw_below_drewN | apply below_drew1 | refine below_set ?_ GE297.out) | exact HB.out)⟩⟩
                                                      · rw [if_neg c25] at H
                                                        have c25b0 : decide (x57_5 < x40_3) = false := decide_eq_false c25
                                                        clear c25
                                                        replace H := Option.bind_eq_some_iff.mp H
                                                        obtain ⟨t310, A260, H⟩ := H
                                                        replace H : (impl_sproutMoves.j5 k5 t298 x5_5 x26_1 (rd_L2 l0_1 x26_1) x33_2 x40_3 (rd (rd_L1 (rd_L2 l0_1 x26_1) x33_2) x40_3) x12_4 x57_5 l0_1 (l0_1.length : Int) x26_1 (rd_L2 l0_1 x26_1) ((rd_L2 l0_1 x26_1).length : Int) x33_2 (rd_L1 (rd_L2 l0_1 x26_1) x33_2) ((rd_L1 (rd_L2 l0_1 x26_1) x33_2).length : Int) x40_3 (rd_L1 (rd_L2 l0_1 x26_1) x12_4) ((rd_L1 (rd_L2 l0_1 x26_1) x12_4).length : Int) x57_5 (!t310)) = some r := H
                                                        have A26 := Aside0.mk A260
                                                        clear A260
                                                        have H' := Aside0.mk H
                                                        clear H
                                                        obtain ⟨Ao27, co27, eo27⟩ := Kd.R_slice HO_3.out
                                                        subst eo27
                                                        go_wp2_with (first | (go_at_call 54; (with_reducible refine (impl_mayJoin.calls _ _ t298 (rd (rd_L1 (rd_L2 l0_1 x26_1) x33_2) x40_3) (rd (rd_L1 (rd_L2 l0_1 x26_1) x12_4) x57_5) t310 _ ?side1 ?side2 A26.out).mono ?_); (case side1 => repeat (first | exact (Kd.R_reads' HO_3.out).2.2 | (with_reducible refine Kd.C_alloc ?_ _) | (with_reducible refine Kd.C_drewN ?_ _) | (with_reducible refine Kd.C_drew ?_))); (case side2 => exact (Kd.R_reads' HO_3.out).2.1); rintro e w' ⟨rfl, ⟨nd, rfl⟩⟩))
                                                        go_meet
                                                        case rel => exact ⟨_, (!t310), (by first | rfl | (simp; done) | (simp [*]; done)), H', ⟨by have := HK1.out; have := HK2.out; have := HK3.out; have := HK4.out; have := HK5.out; first | omega | exact Nat.le_refl _⟩, ⟨by (with_reducible repeat (first | apply Kd.R_alloc | apply Kd.R_drewN | apply Kd.R_drew)); exact HO_3.out⟩, ⟨by (with_reducible repeat (first | apply Kd.S_alloc | apply Kd.S_drewN | apply Kd.S_drew)); exact HO_5.out⟩, ⟨by (with_reducible repeat (first | refine blk_drewN ?_ _ | refine blk_drew ?_ | refine blk_alloc ?_ _)); exact BK297.out⟩, ⟨by repeat (first | (with_reducible first | exact HB.out | apply below_alloc | apply pw_below_drewN | apply below_drew1 | refine below_set ?_ GE297.out) | exact HB.out)⟩⟩
                                                    · rw [if_neg c24] at H
                                                      have c24b0 : (x12_4 == x33_2) = false := beq_eq_false_iff_ne.mpr c24
                                                      have c24b1 : (x12_4 != x33_2) = true := bne_iff_ne.mpr c24
                                                      (first | rw [c24b0] | (simp only [i64_w, i32_w]; rw [c24b0]) | skip)
                                                      replace H := Option.bind_eq_some_iff.mp H
                                                      obtain ⟨t311, A280, H⟩ := H
                                                      replace H : (impl_sproutMoves.j5 k5 t298 x5_5 x26_1 (rd_L2 l0_1 x26_1) x33_2 x40_3 (rd (rd_L1 (rd_L2 l0_1 x26_1) x33_2) x40_3) x12_4 x57_5 l0_1 (l0_1.length : Int) x26_1 (rd_L2 l0_1 x26_1) ((rd_L2 l0_1 x26_1).length : Int) x33_2 (rd_L1 (rd_L2 l0_1 x26_1) x33_2) ((rd_L1 (rd_L2 l0_1 x26_1) x33_2).length : Int) x40_3 (rd_L1 (rd_L2 l0_1 x26_1) x12_4) ((rd_L1 (rd_L2 l0_1 x26_1) x12_4).length : Int) x57_5 (!t311)) = some r := H
                                                      have A28 := Aside0.mk A280
                                                      clear A280
                                                      have H' := Aside0.mk H
                                                      clear H
                                                      obtain ⟨Ao29, co29, eo29⟩ := Kd.R_slice HO_3.out
                                                      subst eo29
                                                      go_wp2_with (first | (go_at_call 54; (with_reducible refine (impl_mayJoin.calls _ _ t298 (rd (rd_L1 (rd_L2 l0_1 x26_1) x33_2) x40_3) (rd (rd_L1 (rd_L2 l0_1 x26_1) x12_4) x57_5) t311 _ ?side1 ?side2 A28.out).mono ?_); (case side1 => repeat (first | exact (Kd.R_reads' HO_3.out).2.2 | (with_reducible refine Kd.C_alloc ?_ _) | (with_reducible refine Kd.C_drewN ?_ _) | (with_reducible refine Kd.C_drew ?_))); (case side2 => exact (Kd.R_reads' HO_3.out).2.1); rintro e w' ⟨rfl, ⟨nd, rfl⟩⟩))
                                                      go_meet
                                                      case rel => exact ⟨_, (!t311), (by first | rfl | (simp; done) | (simp [*]; done)), H', ⟨by have := HK1.out; have := HK2.out; have := HK3.out; have := HK4.out; have := HK5.out; first | omega | exact Nat.le_refl _⟩, ⟨by (with_reducible repeat (first | apply Kd.R_alloc | apply Kd.R_drewN | apply Kd.R_drew)); exact HO_3.out⟩, ⟨by (with_reducible repeat (first | apply Kd.S_alloc | apply Kd.S_drewN | apply Kd.S_drew)); exact HO_5.out⟩, ⟨by (with_reducible repeat (first | refine blk_drewN ?_ _ | refine blk_drew ?_ | refine blk_alloc ?_ _)); exact BK297.out⟩, ⟨by repeat (first | (with_reducible first | exact HB.out | apply below_alloc | apply pw_below_drewN | apply below_drew1 | refine below_set ?_ GE297.out) | exact HB.out)⟩⟩
                                                  case rest =>
                                                    clear HC23
                                                    try clear c1
                                                    try clear c2
                                                    try clear p2
                                                    try clear c3
                                                    try clear p3
                                                    try clear q3
                                                    try clear hx3
                                                    try clear c4
                                                    try clear c9
                                                    try clear c9b0
                                                    try clear c10
                                                    try clear c10b0
                                                    try clear c11
                                                    try clear c11b0
                                                    try clear c12
                                                    try clear c12b0
                                                    try clear c13
                                                    try clear c13b0
                                                    try clear c14
                                                    try clear c14b0
                                                    try clear c15
                                                    try clear c15b0
                                                    try clear c16
                                                    try clear c16b0
                                                    try clear c17
                                                    try clear c17b0
                                                    try clear c18
                                                    try clear c18b0
                                                    try clear c19
                                                    try clear c19b0
                                                    try clear c20
                                                    try clear c20b0
                                                    try clear c21
                                                    try clear c21b0
                                                    try clear c22
                                                    try clear c22b0
                                                    try clear c24
                                                    try clear c24b0
                                                    try clear c24b1
                                                    try clear c25
                                                    try clear c25b0
                                                    try clear hcz4_0
                                                    try clear hcz4_1
                                                    try clear hcz8_0
                                                    try clear hcz8_1
                                                    try clear hfz4_0
                                                    try clear hfz4_1
                                                    try clear hfz8_0
                                                    try clear hfz8_1
                                                    try clear hx305_0
                                                    try clear hx306_0
                                                    try clear hx307_0
                                                    try clear hx308_0
                                                    try clear hx309_0
                                                    try clear p2
                                                    try clear p3
                                                    try clear p305
                                                    try clear p306
                                                    try clear p307
                                                    try clear p308
                                                    try clear p309
                                                    try clear q3
                                                    try clear q305
                                                    try clear q306
                                                    try clear q307
                                                    try clear q308
                                                    try clear q309
                                                    obtain ⟨kq, x76_22, rfl, HA, HJ22, HO_3, HO_5, BK297, HB⟩ := hcut
                                                    cases kq with
                                                    | zero => exact absurd HA.out (by simp [impl_sproutMoves.j5])
                                                    | succ kj22 =>
                                                      have H := HA.out
                                                      clear HA
                                                      simp only [impl_sproutMoves.j5] at H
                                                      by_cases c30 : x76_22 = true
                                                      · subst c30
                                                        have H1 : (impl_sproutMoves.l4 kj22 t298 x5_5 x26_1 (rd_L2 l0_1 x26_1) x33_2 x40_3 (rd (rd_L1 (rd_L2 l0_1 x26_1) x33_2) x40_3) x12_4 l0_1 (l0_1.length : Int) x26_1 (rd_L2 l0_1 x26_1) ((rd_L2 l0_1 x26_1).length : Int) x33_2 (rd_L1 (rd_L2 l0_1 x26_1) x33_2) ((rd_L1 (rd_L2 l0_1 x26_1) x33_2).length : Int) x40_3 (rd_L1 (rd_L2 l0_1 x26_1) x12_4) ((rd_L1 (rd_L2 l0_1 x26_1) x12_4).length : Int) (wrap64 (x57_5 + 1))) = some r := by rw [if_pos rfl] at H; exact H
                                                        clear H
                                                        have H := H1
                                                        clear H1
                                                        have H' := Aside0.mk H
                                                        clear H
                                                        go_wp2
                                                        go_roundg kj22
                                                        case measure => have := HK1.out; have := HK2.out; have := HK3.out; have := HK4.out; have := HK5.out; have := HJ22.out; omega
                                                        case rel => exact ⟨(x5_5), (wrap64 (x57_5 + 1)), (by first | rfl | (simp; done) | (simp [*]; done)), H', ⟨by have := HK1.out; have := HK2.out; have := HK3.out; have := HK4.out; have := HK5.out; have := HJ22.out; omega⟩, ⟨by (with_reducible repeat (first | apply Kd.R_alloc | apply Kd.R_drewN | apply Kd.R_drew)); exact HO_3.out⟩, ⟨by (with_reducible repeat (first | apply Kd.S_alloc | apply Kd.S_drewN | apply Kd.S_drew)); exact HO_5.out⟩, ⟨by (with_reducible repeat (first | refine blk_drewN ?_ _ | refine blk_drew ?_ | refine blk_alloc ?_ _)); exact BK297.out⟩, ⟨by repeat (first | (with_reducible first | exact HB.out | apply below_alloc | apply pw_below_drewN | apply below_drew1 | refine below_set ?_ GE297.out) | exact HB.out)⟩⟩
                                                      · replace c30 := Bool.eq_false_iff.mpr c30
                                                        subst c30
                                                        have H1 : ((impl_cuts.f (rd_L2 l0_1 x26_1) x33_2 x12_4).bind fun t312 => (impl_sproutMoves.l5 kj22 t298 x5_5 x26_1 (rd_L2 l0_1 x26_1) x33_2 x40_3 (rd (rd_L1 (rd_L2 l0_1 x26_1) x33_2) x40_3) x12_4 x57_5 l0_1 (l0_1.length : Int) x26_1 (rd_L2 l0_1 x26_1) ((rd_L2 l0_1 x26_1).length : Int) x33_2 (rd_L1 (rd_L2 l0_1 x26_1) x33_2) ((rd_L1 (rd_L2 l0_1 x26_1) x33_2).length : Int) x40_3 (rd_L1 (rd_L2 l0_1 x26_1) x12_4) ((rd_L1 (rd_L2 l0_1 x26_1) x12_4).length : Int) x57_5 t312 (t312.length : Int) 0)) = some r := by rw [if_neg (show ¬ (false = true) by decide)] at H; exact H
                                                        clear H
                                                        have H := H1
                                                        clear H1
                                                        replace H := Option.bind_eq_some_iff.mp H
                                                        obtain ⟨t312, A310, H⟩ := H
                                                        replace H : (impl_sproutMoves.l5 kj22 t298 x5_5 x26_1 (rd_L2 l0_1 x26_1) x33_2 x40_3 (rd (rd_L1 (rd_L2 l0_1 x26_1) x33_2) x40_3) x12_4 x57_5 l0_1 (l0_1.length : Int) x26_1 (rd_L2 l0_1 x26_1) ((rd_L2 l0_1 x26_1).length : Int) x33_2 (rd_L1 (rd_L2 l0_1 x26_1) x33_2) ((rd_L1 (rd_L2 l0_1 x26_1) x33_2).length : Int) x40_3 (rd_L1 (rd_L2 l0_1 x26_1) x12_4) ((rd_L1 (rd_L2 l0_1 x26_1) x12_4).length : Int) x57_5 t312 (t312.length : Int) 0) = some r := H
                                                        have A31 := Aside0.mk A310
                                                        clear A310
                                                        have H' := Aside0.mk H
                                                        clear H
                                                        go_wp2_with (first | ((with_reducible refine gate_callee (f := 55) rfl ?_); refine goesL_ (some 80) rfl rfl Try.func55 (by kernel_rfl) rfl #[.slice (some ad306) (rd_L2 l0_1 x26_1).length c305_0, .int .i64 x33_2, .int .i64 x12_4] rfl (by (try simp only [List.map_toArray, List.map_cons, List.map_nil]); first | done | rfl | (simp only [List.length_drop, List.length_take]; rfl)) ?_; (with_reducible refine (impl_cuts.calls _ _ (rd_L2 l0_1 x26_1) x33_2 x12_4 t312 _ ?side1 ?side2 A31.out).mono ?_); (case side1 => repeat (first | exact (Kd.C_below HR305_0.out HB.out) | (with_reducible refine Kd.C_alloc ?_ _) | (with_reducible refine Kd.C_drewN ?_ _) | (with_reducible refine Kd.C_drew ?_))); (case side2 => exact HC305_0.out); rintro e w32 ⟨v313, rfl, ho0, hb⟩; refine ⟨_, rfl, ?_⟩; have n0_ := Aside0.mk (Kd.R_elder' (by (with_reducible repeat (first | apply Kd.R_alloc | apply Kd.R_drewN | apply Kd.R_drew)); exact HO_3.out) (Kd.R_base ho0) hb); have n1_ := Aside0.mk (Kd.S_elder' (by (with_reducible repeat (first | apply Kd.S_alloc | apply Kd.S_drewN | apply Kd.S_drew)); exact HO_5.out) (Kd.R_base ho0) hb); have n2_ := Aside0.mk (Kd.R_lower (Kd.R_new' ho0 (Kd.R_lt (by (with_reducible repeat (first | apply Kd.R_alloc | apply Kd.R_drewN | apply Kd.R_drew)); exact HO_3.out))) (below_size (by repeat (first | (with_reducible first | exact HB.out | apply below_alloc | apply pw_below_drewN | apply below_drew1 | refine below_set ?_ GE297.out) | exact HB.out)))); have n3_ := Aside0.mk (blk_below (g := gb297) (o := .cells #[.int .i64 a0_0, .slice (some ad305) l0_1.length c0_1] 27 (0, 0)) (by (with_reducible repeat (first | refine blk_drewN ?_ _ | refine blk_drew ?_ | refine blk_alloc ?_ _)); exact BK297.out) hb); have n4_ := Aside0.mk (below_step (by repeat (first | (with_reducible first | exact HB.out | apply below_alloc | apply pw_below_drewN | apply below_drew1 | refine below_set ?_ GE297.out) | exact HB.out)) hb); clear HO_3; clear HO_5; clear BK297; clear HB; have HO_3 := n0_; have HO_5 := n1_; have HO314 := n2_; have BK297 := n3_; have HB := n4_; clear n0_ n1_ n2_ n3_ n4_; (try clear hb); (try clear hb2); (try clear hk); (try clear hi); (try clear ho0); obtain ⟨Ao33, co33, eo33⟩ := Kd.R_slice HO314.out; subst eo33))
                                                        go_loopg [5, 82] kj22 (fun kq v5 v82 w' => ∃ (x5_7 : List (List Int)) (x82_7 : Int), v82 = .int .i64 x82_7 ∧ Aside0 (impl_sproutMoves.l5 kq t298 x5_7 x26_1 (rd_L2 l0_1 x26_1) x33_2 x40_3 (rd (rd_L1 (rd_L2 l0_1 x26_1) x33_2) x40_3) x12_4 x57_5 l0_1 (l0_1.length : Int) x26_1 (rd_L2 l0_1 x26_1) ((rd_L2 l0_1 x26_1).length : Int) x33_2 (rd_L1 (rd_L2 l0_1 x26_1) x33_2) ((rd_L1 (rd_L2 l0_1 x26_1) x33_2).length : Int) x40_3 (rd_L1 (rd_L2 l0_1 x26_1) x12_4) ((rd_L1 (rd_L2 l0_1 x26_1) x12_4).length : Int) x57_5 t312 (t312.length : Int) x82_7 = some r) ∧ Aside0 (kq ≤ kj22) ∧ Aside0 (Kd.R (Kd.int .i64) 2 w' w.heap.size (fun k_ => some k_ ≠ ((.slice Ao33 t312.length co33) : Value).ownBlock) v299 t298) ∧ Aside0 (Kd.S (Kd.slice 2 (Kd.int .i64)) 33 w' w.heap.size (fun k_ => some k_ ≠ (v299 : Value).ownBlock ∧ some k_ ≠ ((.slice Ao33 t312.length co33) : Value).ownBlock) v5 x5_7) ∧ Aside0 (Kd.R (Kd.int .i64) 2 w' w.heap.size (fun k_ => some k_ ≠ (v299 : Value).ownBlock) (.slice Ao33 t312.length co33) t312) ∧ Aside0 (w'.heap[gb297]? = some (.cells #[.int .i64 a0_0, (.slice (some ad305) l0_1.length c0_1)] 27 (0, 0))) ∧ Aside0 (Below w.heap.size w w'))
                                                        case atStart => exact ⟨(x5_5), (0), (by first | rfl | (simp; done) | (simp [*]; done)), H', ⟨Nat.le_refl _⟩, ⟨by (with_reducible repeat (first | apply Kd.R_alloc | apply Kd.R_drewN | apply Kd.R_drew)); exact Kd.R_mono HO_3.out (fun _ hk => hk.2)⟩, ⟨by (with_reducible repeat (first | apply Kd.S_alloc | apply Kd.S_drewN | apply Kd.S_drew)); exact HO_5.out⟩, ⟨by (with_reducible repeat (first | apply Kd.R_alloc | apply Kd.R_drewN | apply Kd.R_drew)); exact Kd.R_mono HO314.out (fun _ hk => hk.2)⟩, ⟨by (with_reducible repeat (first | refine blk_drewN ?_ _ | refine blk_drew ?_ | refine blk_alloc ?_ _)); exact BK297.out⟩, ⟨by repeat (first | (with_reducible first | exact HB.out | apply below_alloc | apply pw_below_drewN | apply below_drew1 | refine below_set ?_ GE297.out) | exact HB.out)⟩⟩
                                                        case round =>
                                                          clear H'
                                                          try clear c1
                                                          try clear c2
                                                          try clear p2
                                                          try clear c3
                                                          try clear p3
                                                          try clear q3
                                                          try clear hx3
                                                          try clear c4
                                                          try clear c5
                                                          try clear p6
                                                          try clear c9
                                                          try clear c9b0
                                                          try clear c10
                                                          try clear c10b0
                                                          try clear c11
                                                          try clear c11b0
                                                          try clear c12
                                                          try clear c12b0
                                                          try clear c13
                                                          try clear c13b0
                                                          try clear c14
                                                          try clear c14b0
                                                          try clear c15
                                                          try clear c15b0
                                                          try clear c16
                                                          try clear c16b0
                                                          try clear c17
                                                          try clear c17b0
                                                          try clear c18
                                                          try clear c18b0
                                                          try clear c19
                                                          try clear c19b0
                                                          try clear c20
                                                          try clear c20b0
                                                          try clear c21
                                                          try clear c21b0
                                                          try clear c22
                                                          try clear c22b0
                                                          try clear c24
                                                          try clear c24b0
                                                          try clear c24b1
                                                          try clear c25
                                                          try clear c25b0
                                                          try clear c30
                                                          try clear p30
                                                          try clear q30
                                                          try clear hx30
                                                          try clear c31
                                                          try clear hcz4_0
                                                          try clear hcz4_1
                                                          try clear hcz8_0
                                                          try clear hcz8_1
                                                          try clear hfz4_0
                                                          try clear hfz4_1
                                                          try clear hfz8_0
                                                          try clear hfz8_1
                                                          try clear hx305_0
                                                          try clear hx306_0
                                                          try clear hx307_0
                                                          try clear hx308_0
                                                          try clear hx309_0
                                                          try clear p2
                                                          try clear p3
                                                          try clear p305
                                                          try clear p306
                                                          try clear p307
                                                          try clear p308
                                                          try clear p309
                                                          try clear q3
                                                          try clear q305
                                                          try clear q306
                                                          try clear q307
                                                          try clear q308
                                                          try clear q309
                                                          obtain ⟨x5_7, x82_7, rfl, HA, HK7, HO_3, HO_5, HO_80, BK297, HB⟩ := hrel
                                                          cases gk with
                                                          | zero => exact absurd HA.out (by simp [impl_sproutMoves.l5])
                                                          | succ k7 =>
                                                            have H := HA.out
                                                            clear HA
                                                            simp only [impl_sproutMoves.l5] at H
                                                            by_cases c34 : x82_7 < (t312.length : Int)
                                                            · rw [if_pos c34] at H
                                                              have c34b0 : decide (x82_7 < (t312.length : Int)) = true := decide_eq_true c34
                                                              clear c34
                                                              by_cases c35 : 0 ≤ x82_7
                                                              · rw [if_pos c35] at H
                                                                have c35b0 : decide (0 ≤ x82_7) = true := decide_eq_true c35
                                                                clear c35
                                                                by_cases c36 : x82_7 < (t312.length : Int)
                                                                · rw [if_pos c36] at H
                                                                  have c36b0 : decide (x82_7 < (t312.length : Int)) = true := decide_eq_true c36
                                                                  clear c36
                                                                  obtain ⟨y316, hy316⟩ : ∃ y_ : List Int, y_ = (([x26_1, x33_2, x40_3, x12_4, x57_5, rd t312 x82_7] : List Int)) := ⟨_, rfl⟩
                                                                  replace H : (if x5_7.length < 5864062014805 then (impl_sproutMoves.l5 k7 t298 (x5_7 ++ [y316]) x26_1 (rd_L2 l0_1 x26_1) x33_2 x40_3 (rd (rd_L1 (rd_L2 l0_1 x26_1) x33_2) x40_3) x12_4 x57_5 l0_1 (l0_1.length : Int) x26_1 (rd_L2 l0_1 x26_1) ((rd_L2 l0_1 x26_1).length : Int) x33_2 (rd_L1 (rd_L2 l0_1 x26_1) x33_2) ((rd_L1 (rd_L2 l0_1 x26_1) x33_2).length : Int) x40_3 (rd_L1 (rd_L2 l0_1 x26_1) x12_4) ((rd_L1 (rd_L2 l0_1 x26_1) x12_4).length : Int) x57_5 t312 (t312.length : Int) (wrap64 (x82_7 + 1))) else (none)) = some r := by first | (rw [hy316]; with_reducible exact H) | (have H2_ := (Option.bind_some _ _).symm.trans H; rw [hy316]; with_reducible exact H2_) | (have H2_ := (Option.bind_some _ _).symm.trans H; with_reducible exact H2_) | with_reducible exact H | (rw [hy316]; exact H) | exact H
                                                                  have Ny316 := Aside0.mk hy316
                                                                  clear hy316
                                                                  by_cases c37 : x5_7.length < 5864062014805
                                                                  · rw [if_pos c37] at H
                                                                    have LMc37 := Aside0.mk c37
                                                                    clear c37
                                                                    obtain ⟨y319, hy319⟩ : ∃ y_ : List (List Int), y_ = (x5_7 ++ [y316]) := ⟨_, rfl⟩
                                                                    replace H : (impl_sproutMoves.l5 k7 t298 y319 x26_1 (rd_L2 l0_1 x26_1) x33_2 x40_3 (rd (rd_L1 (rd_L2 l0_1 x26_1) x33_2) x40_3) x12_4 x57_5 l0_1 (l0_1.length : Int) x26_1 (rd_L2 l0_1 x26_1) ((rd_L2 l0_1 x26_1).length : Int) x33_2 (rd_L1 (rd_L2 l0_1 x26_1) x33_2) ((rd_L1 (rd_L2 l0_1 x26_1) x33_2).length : Int) x40_3 (rd_L1 (rd_L2 l0_1 x26_1) x12_4) ((rd_L1 (rd_L2 l0_1 x26_1) x12_4).length : Int) x57_5 t312 (t312.length : Int) (wrap64 (x82_7 + 1))) = some r := by first | (rw [hy319]; with_reducible exact H) | (have H2_ := (Option.bind_some _ _).symm.trans H; rw [hy319]; with_reducible exact H2_) | (have H2_ := (Option.bind_some _ _).symm.trans H; with_reducible exact H2_) | with_reducible exact H | (rw [hy319]; exact H) | exact H
                                                                    have Ny319 := Aside0.mk hy319
                                                                    clear hy319
                                                                    have H' := Aside0.mk H
                                                                    clear H
                                                                    have p315 : 0 ≤ (x82_7 : Int) := of_decide_eq_true (by first | (with_reducible assumption) | assumption)
                                                                    have q315 : x82_7 < (t312.length : Int) := of_decide_eq_true (by first | (with_reducible assumption) | assumption)
                                                                    obtain ⟨ad315, e315, hx315_0⟩ := Kd.at_int (Kd.R_reads' HO_80.out).2.2 x82_7 p315 q315
                                                                    cases e315
                                                                    replace p315 := eq_true p315
                                                                    replace q315 := eq_true q315
                                                                    go_wp2_with (first | ((with_reducible refine gate_dst (N := 93) rfl ?_); refine Kd.R_lit (Kd.int .i64) _ 2 ?hg (N := 93) ?hd (xs := ([x26_1, x33_2, x40_3, x12_4, x57_5, rd t312 x82_7] : List Int)) (inner := [.int .i64 x26_1, .int .i64 x33_2, .int .i64 x40_3, .int .i64 x12_4, .int .i64 x57_5, .int .i64 (rd t312 x82_7)]) (ok := fun _ => True) (okp := fun _ => True) ?hr ?hp (fun _ hk => hk) trivial (Below.refl _ _) (Nat.le_refl _) (by simp) ?_; (case hd => rfl); (case hg => rfl); (case hr => first | (go_simp; done) | (go_simp; rfl)); (case hp => exact (Reps.one (show Kd.M (Kd.int .i64) _ _ _ x26_1 [.int .i64 x26_1] from rfl) (Reps.one (show Kd.M (Kd.int .i64) _ _ _ x33_2 [.int .i64 x33_2] from rfl) (Reps.one (show Kd.M (Kd.int .i64) _ _ _ x40_3 [.int .i64 x40_3] from rfl) (Reps.one (show Kd.M (Kd.int .i64) _ _ _ x12_4 [.int .i64 x12_4] from rfl) (Reps.one (show Kd.M (Kd.int .i64) _ _ _ x57_5 [.int .i64 x57_5] from rfl) (Reps.one (show Kd.M (Kd.int .i64) _ _ _ (rd t312 x82_7) [.int .i64 (rd t312 x82_7)] from rfl) (Reps.none _ _)))))))); intro v317 w38 ho39 hb hg_ hnew_; clear hg_ hnew_; (first | rw [← Ny316.out] at ho39 | (simp only [Int.reduceToNat] at ho39; rw [← Ny316.out] at ho39)); have n0_ := Aside0.mk (Kd.R_elder' (by (with_reducible repeat (first | apply Kd.R_alloc | apply Kd.R_drewN | apply Kd.R_drew)); exact HO_3.out) (Kd.R_base ho39) hb); have n1_ := Aside0.mk (Kd.S_elder' (by (with_reducible repeat (first | apply Kd.S_alloc | apply Kd.S_drewN | apply Kd.S_drew)); exact HO_5.out) (Kd.R_base ho39) hb); have n2_ := Aside0.mk (Kd.R_elder' (by (with_reducible repeat (first | apply Kd.R_alloc | apply Kd.R_drewN | apply Kd.R_drew)); exact HO_80.out) (Kd.R_base ho39) hb); have n3_ := Aside0.mk (Kd.R_lower (Kd.R_new' (Kd.R_new' ho39 (Kd.R_lt (by (with_reducible repeat (first | apply Kd.R_alloc | apply Kd.R_drewN | apply Kd.R_drew)); exact HO_3.out))) (Kd.R_lt (by (with_reducible repeat (first | apply Kd.R_alloc | apply Kd.R_drewN | apply Kd.R_drew)); exact HO_80.out))) (below_size (by repeat (first | (with_reducible first | exact HB.out | apply below_alloc | apply pw_below_drewN | apply below_drew1 | refine below_set ?_ GE297.out) | exact HB.out)))); have n4_ := Aside0.mk (blk_below (g := gb297) (o := .cells #[.int .i64 a0_0, .slice (some ad305) l0_1.length c0_1] 27 (0, 0)) (by (with_reducible repeat (first | refine blk_drewN ?_ _ | refine blk_drew ?_ | refine blk_alloc ?_ _)); exact BK297.out) hb); have n5_ := Aside0.mk (below_step (by repeat (first | (with_reducible first | exact HB.out | apply below_alloc | apply pw_below_drewN | apply below_drew1 | refine below_set ?_ GE297.out) | exact HB.out)) hb); clear HO_3; clear HO_5; clear HO_80; clear BK297; clear HB; have HO_3 := n0_; have HO_5 := n1_; have HO_80 := n2_; have HO318 := n3_; have BK297 := n4_; have HB := n5_; clear n0_ n1_ n2_ n3_ n4_ n5_; clear hb ho39; obtain ⟨Ao41, co41, eo41⟩ := Kd.R_slice HO318.out; subst eo41) | ((with_reducible refine gate_builtin (b := .append) (xs := #[.tmp 86, .tmp 94]) rfl ?_); at_builtin; refine Kd.S_append (Kd.slice 2 (Kd.int .i64)) (w0 := w) w.heap.size rfl (.tmp 86) (.tmp 94) 41 33 (.slice none 0 0) 24 rfl Try.underlying41 info33 rfl (by decide) (by omega) u5 x5_7 y316 [.slice Ao41 y316.length co41] (fun k_ => some k_ ≠ (v299 : Value).ownBlock ∧ some k_ ≠ (.slice (some ad315) t312.length co33 : Value).ownBlock) (fun k_ => some k_ = (.slice Ao41 y316.length co41 : Value).ownBlock) rfl rfl ?aP (fun k_ hk_ => ((Kd.R_mono (ok' := fun k_ => ((fun k_ => some k_ ≠ (v299 : Value).ownBlock ∧ some k_ ≠ (.slice (some ad315) t312.length co33 : Value).ownBlock)) k_ ∧ some k_ ≠ (u5 : Value).ownBlock) (Kd.R_apart' (HO318.out) (Kd.S_typed HO_5.out) (by decide)) (fun k_ hk => ⟨⟨hk.1.1.2, hk.1.2⟩, hk.2⟩))).1 k_ hk_.symm) ?aF ?aO ?aB ?aS ?aL ?_; (case aP => exact Kd.M_row (Kd.R_mono (Kd.R_tight rfl (Kd.R_mono (ok' := fun k_ => ((fun k_ => some k_ ≠ (v299 : Value).ownBlock ∧ some k_ ≠ (.slice (some ad315) t312.length co33 : Value).ownBlock)) k_ ∧ some k_ ≠ (u5 : Value).ownBlock) (Kd.R_apart' (HO318.out) (Kd.S_typed HO_5.out) (by decide)) (fun k_ hk => ⟨⟨hk.1.1.2, hk.1.2⟩, hk.2⟩))) (fun _ h_ => h_))); (case aB => exact (by repeat (first | (with_reducible first | exact HB.out | apply below_alloc | apply pw_below_drewN | apply below_drew1 | refine below_set ?_ GE297.out) | exact HB.out))); (case aF => exact (fun k_ hk => ⟨Kd.fresh' (Kd.R_lt (by (with_reducible repeat (first | apply Kd.R_alloc | apply Kd.R_drewN | apply Kd.R_drew)); exact HO_3.out)) k_ hk, Kd.fresh' (Kd.R_lt (by (with_reducible repeat (first | apply Kd.R_alloc | apply Kd.R_drewN | apply Kd.R_drew)); exact HO_80.out)) k_ hk⟩)); (case aO => exact (by (with_reducible repeat (first | apply Kd.S_alloc | apply Kd.S_drewN | apply Kd.S_drew)); exact Kd.S_mono HO_5.out (fun k_ hk => ⟨⟨hk.1.1, hk.1.2⟩, fun e_ => hk.2 e_⟩))); (case aS => exact (below_size (by repeat (first | (with_reducible first | exact HB.out | apply below_alloc | apply pw_below_drewN | apply below_drew1 | refine below_set ?_ GE297.out) | exact HB.out)))); (case aL => have := LMc37.out; omega); intro v320 w40 ho hb hg hat; rw [← Ny319.out] at ho; have n0_ := Aside0.mk (Kd.R_over' (by (with_reducible repeat (first | apply Kd.R_alloc | apply Kd.R_drewN | apply Kd.R_drew)); exact HO_3.out) (Kd.S_typed (by (with_reducible repeat (first | apply Kd.S_alloc | apply Kd.S_drewN | apply Kd.S_drew)); exact HO_5.out)) (by decide) hg); have n1_ := Aside0.mk (Kd.R_over' (by (with_reducible repeat (first | apply Kd.R_alloc | apply Kd.R_drewN | apply Kd.R_drew)); exact HO_80.out) (Kd.S_typed (by (with_reducible repeat (first | apply Kd.S_alloc | apply Kd.S_drewN | apply Kd.S_drew)); exact HO_5.out)) (by decide) hg); have n2_ := Aside0.mk (blk_grown (g := gb297) (o := .cells #[.int .i64 a0_0, .slice (some ad305) l0_1.length c0_1] 27 (0, 0)) (by (with_reducible repeat (first | refine blk_drewN ?_ _ | refine blk_drew ?_ | refine blk_alloc ?_ _)); exact BK297.out) hg (Kd.S_ne HO_5.out BK297.out (by decide))); have n3_ := Aside0.mk (hb); have n4_ := Aside0.mk (ho); clear HO_3; clear HO_80; clear BK297; clear HB; clear HO_5; clear HO318; have HO_3 := n0_; have HO_80 := n1_; have BK297 := n2_; have HB := n3_; have HO321 := n4_; clear n0_ n1_ n2_ n3_ n4_; clear ho hb hg hat))
                                                                    go_roundg k7
                                                                    case measure => have := HK1.out; have := HK2.out; have := HK3.out; have := HK4.out; have := HK5.out; have := HJ22.out; have := HK7.out; omega
                                                                    case rel => exact ⟨(y319), (wrap64 (x82_7 + 1)), (by first | rfl | (simp; done) | (simp [*]; done)), H', ⟨by have := HK1.out; have := HK2.out; have := HK3.out; have := HK4.out; have := HK5.out; have := HJ22.out; have := HK7.out; omega⟩, ⟨by (with_reducible repeat (first | apply Kd.R_alloc | apply Kd.R_drewN | apply Kd.R_drew)); exact Kd.R_mono HO_3.out (fun _ hk => hk.1)⟩, ⟨by (with_reducible repeat (first | apply Kd.S_alloc | apply Kd.S_drewN | apply Kd.S_drew)); exact HO321.out⟩, ⟨by (with_reducible repeat (first | apply Kd.R_alloc | apply Kd.R_drewN | apply Kd.R_drew)); exact Kd.R_mono HO_80.out (fun _ hk => hk.1)⟩, ⟨by (with_reducible repeat (first | refine blk_drewN ?_ _ | refine blk_drew ?_ | refine blk_alloc ?_ _)); exact BK297.out⟩, ⟨by repeat (first | (with_reducible first | exact HB.out | apply below_alloc | apply pw_below_drewN | apply below_drew1 | refine below_set ?_ GE297.out) | exact HB.out)⟩⟩
                                                                  · rw [if_neg c37] at H
                                                                    exact absurd H (by simp)
                                                                · rw [if_neg c36] at H
                                                                  exact absurd H (by simp)
                                                              · rw [if_neg c35] at H
                                                                exact absurd H (by simp)
                                                            · rw [if_neg c34] at H
                                                              have c34b0 : decide (x82_7 < (t312.length : Int)) = false := decide_eq_false c34
                                                              clear c34
                                                              have H' := Aside0.mk H
                                                              clear H
                                                              go_wp2
                                                              go_roundg k7
                                                              case measure => have := HK1.out; have := HK2.out; have := HK3.out; have := HK4.out; have := HK5.out; have := HJ22.out; have := HK7.out; omega
                                                              case rel => exact ⟨(x5_7), (wrap64 (x57_5 + 1)), (by first | rfl | (simp; done) | (simp [*]; done)), H', ⟨by have := HK1.out; have := HK2.out; have := HK3.out; have := HK4.out; have := HK5.out; have := HJ22.out; have := HK7.out; omega⟩, ⟨by (with_reducible repeat (first | apply Kd.R_alloc | apply Kd.R_drewN | apply Kd.R_drew)); exact Kd.R_mono HO_3.out (fun _ hk => trivial)⟩, ⟨by (with_reducible repeat (first | apply Kd.S_alloc | apply Kd.S_drewN | apply Kd.S_drew)); exact Kd.S_mono HO_5.out (fun _ hk => hk.1)⟩, ⟨by (with_reducible repeat (first | refine blk_drewN ?_ _ | refine blk_drew ?_ | refine blk_alloc ?_ _)); exact BK297.out⟩, ⟨by repeat (first | (with_reducible first | exact HB.out | apply below_alloc | apply pw_below_drewN | apply below_drew1 | refine below_set ?_ GE297.out) | exact HB.out)⟩⟩
                                                · rw [if_neg c22] at H
                                                  exact absurd H (by simp)
                                              · rw [if_neg c21] at H
                                                exact absurd H (by simp)
                                            · rw [if_neg c20] at H
                                              have c20b0 : decide (x57_5 < ((rd_L1 (rd_L2 l0_1 x26_1) x12_4).length : Int)) = false := decide_eq_false c20
                                              clear c20
                                              have H' := Aside0.mk H
                                              clear H
                                              go_wp2
                                              go_roundg k5
                                              case measure => have := HK1.out; have := HK2.out; have := HK3.out; have := HK4.out; have := HK5.out; omega
                                              case rel => exact ⟨(x5_5), (wrap64 (x12_4 + 1)), (by first | rfl | (simp; done) | (simp [*]; done)), H', ⟨by have := HK1.out; have := HK2.out; have := HK3.out; have := HK4.out; have := HK5.out; omega⟩, ⟨by (with_reducible repeat (first | apply Kd.R_alloc | apply Kd.R_drewN | apply Kd.R_drew)); exact HO_3.out⟩, ⟨by (with_reducible repeat (first | apply Kd.S_alloc | apply Kd.S_drewN | apply Kd.S_drew)); exact HO_5.out⟩, ⟨by (with_reducible repeat (first | refine blk_drewN ?_ _ | refine blk_drew ?_ | refine blk_alloc ?_ _)); exact BK297.out⟩, ⟨by repeat (first | (with_reducible first | exact HB.out | apply below_alloc | apply pw_below_drewN | apply below_drew1 | refine below_set ?_ GE297.out) | exact HB.out)⟩⟩
                                      · rw [if_neg c19] at H
                                        exact absurd H (by simp)
                                    · rw [if_neg c18] at H
                                      have c18b0 : decide (x12_4 < ((rd_L2 l0_1 x26_1).length : Int)) = false := decide_eq_false c18
                                      clear c18
                                      have H' := Aside0.mk H
                                      clear H
                                      go_wp2
                                      go_roundg k4
                                      case measure => have := HK1.out; have := HK2.out; have := HK3.out; have := HK4.out; omega
                                      case rel => exact ⟨(x5_4), (wrap64 (x40_3 + 1)), (by first | rfl | (simp; done) | (simp [*]; done)), H', ⟨by have := HK1.out; have := HK2.out; have := HK3.out; have := HK4.out; omega⟩, ⟨by (with_reducible repeat (first | apply Kd.R_alloc | apply Kd.R_drewN | apply Kd.R_drew)); exact HO_3.out⟩, ⟨by (with_reducible repeat (first | apply Kd.S_alloc | apply Kd.S_drewN | apply Kd.S_drew)); exact HO_5.out⟩, ⟨by (with_reducible repeat (first | refine blk_drewN ?_ _ | refine blk_drew ?_ | refine blk_alloc ?_ _)); exact BK297.out⟩, ⟨by repeat (first | (with_reducible first | exact HB.out | apply below_alloc | apply pw_below_drewN | apply below_drew1 | refine below_set ?_ GE297.out) | exact HB.out)⟩⟩
                              · rw [if_neg c17] at H
                                exact absurd H (by simp)
                            · rw [if_neg c16] at H
                              exact absurd H (by simp)
                          · rw [if_neg c15] at H
                            have c15b0 : decide (x40_3 < ((rd_L1 (rd_L2 l0_1 x26_1) x33_2).length : Int)) = false := decide_eq_false c15
                            clear c15
                            have H' := Aside0.mk H
                            clear H
                            go_wp2
                            go_roundg k3
                            case measure => have := HK1.out; have := HK2.out; have := HK3.out; omega
                            case rel => exact ⟨(x5_3), (wrap64 (x33_2 + 1)), (by first | rfl | (simp; done) | (simp [*]; done)), H', ⟨by have := HK1.out; have := HK2.out; have := HK3.out; omega⟩, ⟨by (with_reducible repeat (first | apply Kd.R_alloc | apply Kd.R_drewN | apply Kd.R_drew)); exact HO_3.out⟩, ⟨by (with_reducible repeat (first | apply Kd.S_alloc | apply Kd.S_drewN | apply Kd.S_drew)); exact HO_5.out⟩, ⟨by (with_reducible repeat (first | refine blk_drewN ?_ _ | refine blk_drew ?_ | refine blk_alloc ?_ _)); exact BK297.out⟩, ⟨by repeat (first | (with_reducible first | exact HB.out | apply below_alloc | apply pw_below_drewN | apply below_drew1 | refine below_set ?_ GE297.out) | exact HB.out)⟩⟩
                    · rw [if_neg c14] at H
                      exact absurd H (by simp)
                  · rw [if_neg c13] at H
                    exact absurd H (by simp)
                · rw [if_neg c12] at H
                  have c12b0 : decide (x33_2 < ((rd_L2 l0_1 x26_1).length : Int)) = false := decide_eq_false c12
                  clear c12
                  have H' := Aside0.mk H
                  clear H
                  go_wp2
                  go_roundg k2
                  case measure => have := HK1.out; have := HK2.out; omega
                  case rel => exact ⟨(x5_2), (wrap64 (x26_1 + 1)), (by first | rfl | (simp; done) | (simp [*]; done)), H', ⟨by have := HK1.out; have := HK2.out; omega⟩, ⟨by (with_reducible repeat (first | apply Kd.R_alloc | apply Kd.R_drewN | apply Kd.R_drew)); exact HO_3.out⟩, ⟨by (with_reducible repeat (first | apply Kd.S_alloc | apply Kd.S_drewN | apply Kd.S_drew)); exact HO_5.out⟩, ⟨by (with_reducible repeat (first | refine blk_drewN ?_ _ | refine blk_drew ?_ | refine blk_alloc ?_ _)); exact BK297.out⟩, ⟨by repeat (first | (with_reducible first | exact HB.out | apply below_alloc | apply pw_below_drewN | apply below_drew1 | refine below_set ?_ GE297.out) | exact HB.out)⟩⟩
          · rw [if_neg c11] at H
            exact absurd H (by simp)
        · rw [if_neg c10] at H
          exact absurd H (by simp)
      · rw [if_neg c9] at H
        have c9b0 : decide (x26_1 < (l0_1.length : Int)) = false := decide_eq_false c9
        clear c9
        obtain rfl := Option.some.inj H
        go_wp2
        go_ret
        exact ⟨_, by first | rfl | (simp [errW_none, errW_some] <;> rfl) | (simp [*, errW_none, errW_some] <;> rfl), by (with_reducible repeat (first | apply Kd.S_alloc | apply Kd.S_drewN | apply Kd.S_drew)); exact Kd.S_mono HO_5.out (fun _ hk => trivial), by repeat (first | (with_reducible first | exact HB.out | apply below_alloc | apply pw_below_drewN | apply below_drew1 | refine below_set ?_ GE297.out) | exact HB.out)⟩

end Go.Proofs.Ytjihfaebfhbpfaa.PX
