-- Written by a program of this session (sprint.py) that drives the print over the translation, with contracts of this session's own for some functions.
import Derived.Test.YtlicbcaloebhlaaPXx0
import Derived.Test.YtlicbcaloebhlaaPXx1
import Derived.Test.YtlicbcaloebhlaaPXx2
import Derived.Test.YtlicbcaloebhlaaPXx12
namespace Go.Proofs.Ytlicbcaloebhlaa.PX
open Go.RowKit Go.Proofs.YtlicbcaloebhlaaW.PrintWords Go.Proofs.YtlicbcaloebhlaaW.PrintLast Go.Proofs.YtlicbcaloebhlaaW.PrintMore
attribute [local go_sem] max2_int min2_int max_two min_two max_three min_three max_four min_four   -- for this text's walks alone
set_option linter.unusedVariables false
set_option linter.unusedSimpArgs false

/-! ### spec_LengthsOf: function 46 -/
mutual
def spec_LengthsOf.l0 : Nat → List Bool → List Int → Int → List (List Int) → Option (List Int × Int)
  | 0, _, _, _, _ => none
  | k + 1, x4, x5, x6, x563000 => if x6 ≥ 0 then (spec_LengthsOf.l1 k x4 x5 x6 (-1) 0 x563000) else (some (x5, 0))
def spec_LengthsOf.l1 : Nat → List Bool → List Int → Int → Int → Int → List (List Int) → Option (List Int × Int)
  | 0, _, _, _, _, _, _ => none
  | k + 1, x4, x5, x6, x7, x8, x563000 => if 0 ≤ x6 then (if x6 < (x563000.length : Int) then (if x8 < ((rd_L1 x563000 x6).length : Int) then (if 0 ≤ x8 then (if x6 < (x4.length : Int) then (if rdOf false x4 x6 = true then (if 0 ≤ (rd (rd_L1 x563000 x6) x8) then (if (rd (rd_L1 x563000 x6) x8) < (x4.length : Int) then (if (rdOf false x4 (rd (rd_L1 x563000 x6) x8) = true) then (spec_LengthsOf.j2 k x4 x5 x6 x7 x8 (rd (rd_L1 x563000 x6) x8) false x563000) else (if x7 < 0 then (spec_LengthsOf.j2 k x4 x5 x6 x7 x8 (rd (rd_L1 x563000 x6) x8) true x563000) else (if (rd (rd_L1 x563000 x6) x8) < (x5.length : Int) then (spec_LengthsOf.j2 k x4 x5 x6 x7 x8 (rd (rd_L1 x563000 x6) x8) (decide ((rd x5 (rd (rd_L1 x563000 x6) x8)) < x7)) x563000) else (none)))) else (none)) else (none)) else (spec_LengthsOf.j2 k x4 x5 x6 x7 x8 (rd (rd_L1 x563000 x6) x8) false x563000)) else (none)) else (none)) else (if x6 < (x5.length : Int) then (spec_LengthsOf.l0 k x4 (x5.set (x6 : Int).toNat (wrap64 (x7 + 1))) (wrap64 (x6 - 1)) x563000) else (none))) else (none)) else (none)
def spec_LengthsOf.j2 : Nat → List Bool → List Int → Int → Int → Int → Int → Bool → List (List Int) → Option (List Int × Int)
  | 0, _, _, _, _, _, _, _, _ => none
  | k + 1, x4, x5, x6, x7, x8, x9, x43, x563000 => if x43 = true then (if 0 ≤ x9 then (if x9 < (x5.length : Int) then (spec_LengthsOf.l1 k x4 x5 x6 (rd x5 x9) (wrap64 (x8 + 1)) x563000) else (none)) else (none)) else (if 0 ≤ x6 then (if x6 < (x4.length : Int) then (if rdOf false x4 x6 = true then (spec_LengthsOf.l1 k x4 x5 x6 x7 (wrap64 (x8 + 1)) x563000) else (if 0 ≤ x9 then (if x9 < (x5.length : Int) then (if (rd x5 x9) > x7 then (spec_LengthsOf.l1 k x4 x5 x6 (rd x5 x9) (wrap64 (x8 + 1)) x563000) else (spec_LengthsOf.l1 k x4 x5 x6 x7 (wrap64 (x8 + 1)) x563000)) else (none)) else (none))) else (none)) else (none))
end
def spec_LengthsOf.f (k : Nat) (l0_0 : List (List Int)) : Option (List Int × Int) := (spec_l01Is.f k l0_0).bind fun t563 => (if t563 = true then ((spec_l01Won.f k l0_0 false).bind fun t564 => ((spec_l01N.f l0_0).bind fun t567 => (if 0 ≤ t567 then (if (t567 : Int).toNat ≤ 35184372088832 then ((spec_l01N.f l0_0).bind fun t571 => (spec_LengthsOf.l0 k t564 (List.replicate (t567 : Int).toNat 0) (wrap64 (t571 - 1)) l0_0)) else (none)) else (none)))) else (some (([] : List Int), 1)))
theorem spec_LengthsOf.mono_l : ∀ k, (∀ y0 y1 y2 y3, LeO (spec_LengthsOf.l0 k y0 y1 y2 y3) (spec_LengthsOf.l0 (k + 1) y0 y1 y2 y3)) ∧ (∀ y0 y1 y2 y3 y4 y5, LeO (spec_LengthsOf.l1 k y0 y1 y2 y3 y4 y5) (spec_LengthsOf.l1 (k + 1) y0 y1 y2 y3 y4 y5)) ∧ (∀ y0 y1 y2 y3 y4 y5 y6 y7, LeO (spec_LengthsOf.j2 k y0 y1 y2 y3 y4 y5 y6 y7) (spec_LengthsOf.j2 (k + 1) y0 y1 y2 y3 y4 y5 y6 y7))
  | 0 => ⟨fun _ _ _ _ r h => by simp [spec_LengthsOf.l0] at h, fun _ _ _ _ _ _ r h => by simp [spec_LengthsOf.l1] at h, fun _ _ _ _ _ _ _ _ r h => by simp [spec_LengthsOf.j2] at h⟩
  | k + 1 => by
    obtain ⟨ih0, ih1, ih2⟩ := spec_LengthsOf.mono_l k
    refine ⟨?_, ?_, ?_⟩
    · intro y0 y1 y2 y3
      unfold spec_LengthsOf.l0
      repeat' first
      | (with_reducible exact ih0 _ _ _ _)
      | (with_reducible exact ih1 _ _ _ _ _ _)
      | (with_reducible exact ih2 _ _ _ _ _ _ _ _)
      | (with_reducible exact spec_l01Is.mono _ _)
      | (with_reducible exact spec_l01Won.mono _ _ _)
      | (with_reducible exact LeO.refl _)
      | (with_reducible exact LeO.none _)
      | (with_reducible refine LeO.ite ?_ ?_)
      | (with_reducible refine LeO.bind ?_ (fun _ => ?_))
      | exact ih0 _ _ _ _
      | exact ih1 _ _ _ _ _ _
      | exact ih2 _ _ _ _ _ _ _ _
      | exact spec_l01Is.mono _ _
      | exact spec_l01Won.mono _ _ _
      | exact LeO.none _
      | refine LeO.ite ?_ ?_
      | refine LeO.bind ?_ (fun _ => ?_)
    · intro y0 y1 y2 y3 y4 y5
      unfold spec_LengthsOf.l1
      repeat' first
      | (with_reducible exact ih0 _ _ _ _)
      | (with_reducible exact ih1 _ _ _ _ _ _)
      | (with_reducible exact ih2 _ _ _ _ _ _ _ _)
      | (with_reducible exact spec_l01Is.mono _ _)
      | (with_reducible exact spec_l01Won.mono _ _ _)
      | (with_reducible exact LeO.refl _)
      | (with_reducible exact LeO.none _)
      | (with_reducible refine LeO.ite ?_ ?_)
      | (with_reducible refine LeO.bind ?_ (fun _ => ?_))
      | exact ih0 _ _ _ _
      | exact ih1 _ _ _ _ _ _
      | exact ih2 _ _ _ _ _ _ _ _
      | exact spec_l01Is.mono _ _
      | exact spec_l01Won.mono _ _ _
      | exact LeO.none _
      | refine LeO.ite ?_ ?_
      | refine LeO.bind ?_ (fun _ => ?_)
    · intro y0 y1 y2 y3 y4 y5 y6 y7
      unfold spec_LengthsOf.j2
      repeat' first
      | (with_reducible exact ih0 _ _ _ _)
      | (with_reducible exact ih1 _ _ _ _ _ _)
      | (with_reducible exact ih2 _ _ _ _ _ _ _ _)
      | (with_reducible exact spec_l01Is.mono _ _)
      | (with_reducible exact spec_l01Won.mono _ _ _)
      | (with_reducible exact LeO.refl _)
      | (with_reducible exact LeO.none _)
      | (with_reducible refine LeO.ite ?_ ?_)
      | (with_reducible refine LeO.bind ?_ (fun _ => ?_))
      | exact ih0 _ _ _ _
      | exact ih1 _ _ _ _ _ _
      | exact ih2 _ _ _ _ _ _ _ _
      | exact spec_l01Is.mono _ _
      | exact spec_l01Won.mono _ _ _
      | exact LeO.none _
      | refine LeO.ite ?_ ?_
      | refine LeO.bind ?_ (fun _ => ?_)
theorem spec_LengthsOf.mono : ∀ a0 k, LeO (spec_LengthsOf.f k a0) (spec_LengthsOf.f (k + 1) a0) := by
  intro a0 k
  obtain ⟨ih0, ih1, ih2⟩ := spec_LengthsOf.mono_l k
  unfold spec_LengthsOf.f
  repeat' first
      | (with_reducible exact ih0 _ _ _ _)
      | (with_reducible exact ih1 _ _ _ _ _ _)
      | (with_reducible exact ih2 _ _ _ _ _ _ _ _)
      | (with_reducible exact spec_l01Is.mono _ _)
      | (with_reducible exact spec_l01Won.mono _ _ _)
      | (with_reducible exact LeO.refl _)
      | (with_reducible exact LeO.none _)
      | (with_reducible refine LeO.ite ?_ ?_)
      | (with_reducible refine LeO.bind ?_ (fun _ => ?_))
      | exact ih0 _ _ _ _
      | exact ih1 _ _ _ _ _ _
      | exact ih2 _ _ _ _ _ _ _ _
      | exact spec_l01Is.mono _ _
      | exact spec_l01Won.mono _ _ _
      | exact LeO.none _
      | refine LeO.ite ?_ ?_
      | refine LeO.bind ?_ (fun _ => ?_)
set_option maxHeartbeats 8000000 in
set_option maxRecDepth 100000 in
theorem spec_LengthsOf.calls (k : Nat) (A0_0 : Option Addr) (c0_0 : Nat) (l0_0 : List (List Int)) (r1 : List Int) (r2 : Int) (w : World) (hr0_0 : Kd.C (Kd.slice 2 (Kd.int .i64)) w A0_0 l0_0.length l0_0) (hc0_0 : l0_0.length ≤ c0_0) (h : spec_LengthsOf.f k l0_0 = some (r1, r2)) :
    Calls Try.prog 46 #[.agg #[.slice A0_0 l0_0.length c0_0]] w fun e w' => ∃ v0_ : Value, e = .returned (.tuple #[v0_, .int .i64 r2]) ∧ Kd.R (Kd.int .i64) 2 w' w.heap.size (fun _ => True) v0_ r1 ∧ Below w.heap.size w w' := by
  have hu27 := Try.underlying27
  have HR0_0 := Aside0.mk hr0_0
  have HC0_0 := Aside0.mk hc0_0
  clear hr0_0 hc0_0
  have HB := Aside0.mk (Below.refl w.heap.size w)
  have H : ((spec_l01Is.f k l0_0).bind fun t563 => (if t563 = true then ((spec_l01Won.f k l0_0 false).bind fun t564 => ((spec_l01N.f l0_0).bind fun t567 => (if 0 ≤ t567 then (if (t567 : Int).toNat ≤ 35184372088832 then ((spec_l01N.f l0_0).bind fun t571 => (spec_LengthsOf.l0 k t564 (List.replicate (t567 : Int).toNat 0) (wrap64 (t571 - 1)) l0_0)) else (none)) else (none)))) else (some (([] : List Int), 1)))) = some (r1, r2) := h
  clear h
  replace H := Option.bind_eq_some_iff.mp H
  obtain ⟨t563, A20, H⟩ := H
  replace H : (if t563 = true then ((spec_l01Won.f k l0_0 false).bind fun t564 => ((spec_l01N.f l0_0).bind fun t567 => (if 0 ≤ t567 then (if (t567 : Int).toNat ≤ 35184372088832 then ((spec_l01N.f l0_0).bind fun t571 => (spec_LengthsOf.l0 k t564 (List.replicate (t567 : Int).toNat 0) (wrap64 (t571 - 1)) l0_0)) else (none)) else (none)))) else (some (([] : List Int), 1))) = some (r1, r2) := H
  have A2 := Aside0.mk A20
  clear A20
  by_cases c3 : t563 = true
  · subst c3
    have H1 : ((spec_l01Won.f k l0_0 false).bind fun t564 => ((spec_l01N.f l0_0).bind fun t567 => (if 0 ≤ t567 then (if (t567 : Int).toNat ≤ 35184372088832 then ((spec_l01N.f l0_0).bind fun t571 => (spec_LengthsOf.l0 k t564 (List.replicate (t567 : Int).toNat 0) (wrap64 (t571 - 1)) l0_0)) else (none)) else (none)))) = some (r1, r2) := by rw [if_pos rfl] at H; exact H
    clear H
    have H := H1
    clear H1
    replace H := Option.bind_eq_some_iff.mp H
    obtain ⟨t564, A40, H⟩ := H
    replace H : ((spec_l01N.f l0_0).bind fun t567 => (if 0 ≤ t567 then (if (t567 : Int).toNat ≤ 35184372088832 then ((spec_l01N.f l0_0).bind fun t571 => (spec_LengthsOf.l0 k t564 (List.replicate (t567 : Int).toNat 0) (wrap64 (t571 - 1)) l0_0)) else (none)) else (none))) = some (r1, r2) := H
    have A4 := Aside0.mk A40
    clear A40
    replace H := Option.bind_eq_some_iff.mp H
    obtain ⟨t567, A50, H⟩ := H
    replace H : (if 0 ≤ t567 then (if (t567 : Int).toNat ≤ 35184372088832 then ((spec_l01N.f l0_0).bind fun t571 => (spec_LengthsOf.l0 k t564 (List.replicate (t567 : Int).toNat 0) (wrap64 (t571 - 1)) l0_0)) else (none)) else (none)) = some (r1, r2) := H
    have A5 := Aside0.mk A50
    clear A50
    by_cases c6 : 0 ≤ t567
    · rw [if_pos c6] at H
      have c6b0 := eq_true c6
      have c6b1 : decide (0 ≤ t567) = true := decide_eq_true c6
      clear c6
      by_cases c7 : (t567 : Int).toNat ≤ 35184372088832
      · rw [if_pos c7] at H
        have c7b0 := eq_true c7
        have c7b1 : decide ((t567 : Int).toNat ≤ 35184372088832) = true := decide_eq_true c7
        clear c7
        obtain ⟨y568, hy568⟩ : ∃ y_ : List Int, y_ = (List.replicate (t567 : Int).toNat 0) := ⟨_, rfl⟩
        replace H : ((spec_l01N.f l0_0).bind fun t571 => (spec_LengthsOf.l0 k t564 y568 (wrap64 (t571 - 1)) l0_0)) = some (r1, r2) := by first | (rw [hy568]; with_reducible exact H) | (have H2_ := (Option.bind_some _ _).symm.trans H; rw [hy568]; with_reducible exact H2_) | (have H2_ := (Option.bind_some _ _).symm.trans H; with_reducible exact H2_) | with_reducible exact H | (rw [hy568]; exact H) | exact H
        have Ny568 := Aside0.mk hy568
        clear hy568
        replace H := Option.bind_eq_some_iff.mp H
        obtain ⟨t571, A80, H⟩ := H
        replace H : (spec_LengthsOf.l0 k t564 y568 (wrap64 (t571 - 1)) l0_0) = some (r1, r2) := H
        have A8 := Aside0.mk A80
        clear A80
        have H' := Aside0.mk H
        clear H
        go_enter Try.func46, Try.ntmps46
        try go_wp2_with (first | ((with_reducible refine gate_dst (N := 1) rfl ?_); refine box_event ?hg (N := 1) ?hd (cs := #[.slice A0_0 l0_0.length c0_0]) (t := 27) ?hr ?_; (case hd => rfl); (case hg => rfl); (case hr => first | (go_simp; done) | (go_simp; rfl)); intro gb562 hg w9 hbox hb; have n0_ := Aside0.mk (below_step (by repeat (first | (with_reducible first | exact HB.out | apply below_alloc | apply pw_below_drewN | apply below_drew1) | exact HB.out)) hb); have n1_ := Aside0.mk (hbox); have n2_ := Aside0.mk ((by rw [hg]; exact (below_size (by repeat (first | (with_reducible first | exact HB.out | apply below_alloc | apply pw_below_drewN | apply below_drew1) | exact HB.out))) : w.heap.size ≤ gb562)); have n3_ := Aside0.mk ((by rw [hg]; exact (below_size (by repeat (first | (with_reducible first | exact HB.out | apply below_alloc | apply pw_below_drewN | apply below_drew1) | exact HB.out))) : w.heap.size ≤ gb562)); clear HB; have HB := n0_; have BK562 := n1_; have GW562 := n2_; have GE562 := n3_; clear n0_ n1_ n2_ n3_; clear hb hbox hg; have hcz10_0 : w9.cell? ⟨gb562, 0, none⟩ = some (.slice A0_0 l0_0.length c0_0) := (blk_cell BK562.out 0).trans rfl; have hfz10_0 := blk_frozen BK562.out 0) | ((with_reducible refine gate_callee (f := 52) rfl ?_); refine goesL_ (some 11) rfl rfl Try.func52 (by kernel_rfl) rfl #[.agg #[.slice A0_0 l0_0.length c0_0]] rfl (by (try simp only [List.map_toArray, List.map_cons, List.map_nil]); first | done | rfl | (simp only [List.length_drop, List.length_take]; rfl)) ?_; (with_reducible refine (spec_l01Is.calls k _ _ l0_0 true _ ?side1 ?side2 A2.out).mono ?_); (case side1 => repeat (first | exact (Kd.C_below HR0_0.out HB.out) | (with_reducible refine Kd.C_alloc ?_ _) | (with_reducible refine Kd.C_drewN ?_ _) | (with_reducible refine Kd.C_drew ?_))); (case side2 => exact HC0_0.out); rintro e w11 ⟨rfl, hb⟩; refine ⟨_, rfl, ?_⟩; have n0_ := Aside0.mk (blk_below (g := gb562) (o := .cells #[.slice A0_0 l0_0.length c0_0] 27 (0, 0)) (by (with_reducible repeat (first | refine blk_drewN ?_ _ | refine blk_drew ?_ | refine blk_alloc ?_ _)); exact BK562.out) hb); have n1_ := Aside0.mk (below_step (by repeat (first | (with_reducible first | exact HB.out | apply below_alloc | apply pw_below_drewN | apply below_drew1 | refine below_set ?_ GE562.out) | exact HB.out)) hb); clear BK562; clear HB; have BK562 := n0_; have HB := n1_; clear n0_ n1_; (try clear hb); (try clear hb2); (try clear hk); (try clear hi)))
        have n0_ := Aside0.mk (blk_drew BK562.out)
        have n1_ := Aside0.mk (below_drew1 HB.out)
        clear BK562
        clear HB
        have BK562 := n0_
        have HB := n1_
        clear n0_ n1_
        refine start_ (n := 7) (S := fun w' => w'.cell? ⟨gb562, 0, none⟩ = some (.slice A0_0 l0_0.length c0_0)) (ds := []) #[false, false, false, false, false, false, false] (by kernel_rfl) rfl rfl ((blk_cell BK562.out 0).trans rfl) (fun hHeld => ?_)
        generalize w11.drew = w12 at BK562 HB hHeld ⊢
        refine take_ (i := 0) (N := some 13) (v := ?_) (a' := ?_) #[true, false, false, false, false, false, false] rfl rfl (by kernel_rfl) (fun _ _ _ h => h) (Or.inl ⟨by rfl, ?_⟩) hHeld ?_ ?_
        rotate_left
        · intro w' s0
          go_simp
          with_reducible rfl
        rotate_left
        · simp only [Act.put, List.setIfInBounds_toArray, List.set_cons_zero, List.set_cons_succ, i64_w, i32_w]
          rfl
        refine take_ (i := 2) (N := some 15) (v := ?_) (a' := ?_) #[true, false, true, false, false, false, false] rfl rfl (by kernel_rfl) (fun _ _ _ h => h) (Or.inl ⟨by rfl, ?_⟩) hHeld ?_ ?_
        rotate_left
        · intro w' s0
          go_simp
          with_reducible rfl
        rotate_left
        · simp only [Act.put, List.setIfInBounds_toArray, List.set_cons_zero, List.set_cons_succ, i64_w, i32_w]
          rfl
        refine one_ (i := 1) (N := some 14) #[true, true, true, false, false, false, false] rfl rfl (by kernel_rfl) (by decide) (fun K hK => ?_)
        refine goes_ Try.func66 (by kernel_rfl) rfl #[.agg #[.slice A0_0 l0_0.length c0_0], .bool false] (by rfl) rfl rfl (by (try simp only [List.map_toArray, List.map_cons, List.map_nil]); first | done | rfl | (simp only [List.length_drop, List.length_take]; rfl)) ?_
        with_reducible refine (spec_l01Won.calls k _ _ l0_0 false t564 _ ?side1 ?side2 A4.out).mono ?_
        (case side1 => repeat (first | exact (Kd.C_below HR0_0.out HB.out) | (with_reducible refine Kd.C_alloc ?_ _) | (with_reducible refine Kd.C_drewN ?_ _) | (with_reducible refine Kd.C_drew ?_)))
        (case side2 => exact HC0_0.out)
        rintro e w13 ⟨v565, rfl, ho0, hb⟩
        refine ⟨_, rfl, ?_⟩
        have n0_ := Aside0.mk (Kd.R_lower ho0 (below_size (by repeat (first | (with_reducible first | exact HB.out | apply below_alloc | apply pw_below_drewN | apply below_drew1 | refine below_set ?_ GE562.out) | exact HB.out))))
        have n1_ := Aside0.mk (blk_below (g := gb562) (o := .cells #[.slice A0_0 l0_0.length c0_0] 27 (0, 0)) (by (with_reducible repeat (first | refine blk_drewN ?_ _ | refine blk_drew ?_ | refine blk_alloc ?_ _)); exact BK562.out) hb)
        have n2_ := Aside0.mk (below_step (by repeat (first | (with_reducible first | exact HB.out | apply below_alloc | apply pw_below_drewN | apply below_drew1 | refine below_set ?_ GE562.out) | exact HB.out)) hb)
        clear BK562
        clear HB
        have HO566 := n0_
        have BK562 := n1_
        have HB := n2_
        clear n0_ n1_ n2_
        (try clear hb)
        (try clear hb2)
        (try clear hk)
        (try clear hi)
        (try clear ho0)
        refine hK.out _ _ ((blk_cell BK562.out 0).trans rfl) (fun hHeld => ?_)
        clear hK K
        refine norm_ (a' := ?_) ?_ ?_
        rotate_left
        · show Act.put _ (some 14) _ = _
          simp only [Act.put, List.setIfInBounds_toArray, List.set_cons_zero, List.set_cons_succ, i64_w, i32_w]
          rfl
        refine one_ (i := 3) (N := some 16) #[true, true, true, true, false, false, false] rfl rfl (by kernel_rfl) (by decide) (fun K hK => ?_)
        refine goes_ Try.func62 (by kernel_rfl) rfl #[.agg #[.slice A0_0 l0_0.length c0_0]] (by rfl) rfl rfl (by (try simp only [List.map_toArray, List.map_cons, List.map_nil]); first | done | rfl | (simp only [List.length_drop, List.length_take]; rfl)) ?_
        with_reducible refine (spec_l01N.calls _ _ l0_0 t567 _ ?side1 ?side2 A5.out).mono ?_
        (case side1 => repeat (first | exact (Kd.C_below HR0_0.out HB.out) | (with_reducible refine Kd.C_alloc ?_ _) | (with_reducible refine Kd.C_drewN ?_ _) | (with_reducible refine Kd.C_drew ?_)))
        (case side2 => exact HC0_0.out)
        rintro e w14 ⟨rfl, hb⟩
        refine ⟨_, rfl, ?_⟩
        have n0_ := Aside0.mk (Kd.R_below (by (with_reducible repeat (first | apply Kd.R_alloc | apply Kd.R_drewN | apply Kd.R_drew)); exact HO566.out) hb)
        have n1_ := Aside0.mk (blk_below (g := gb562) (o := .cells #[.slice A0_0 l0_0.length c0_0] 27 (0, 0)) (by (with_reducible repeat (first | refine blk_drewN ?_ _ | refine blk_drew ?_ | refine blk_alloc ?_ _)); exact BK562.out) hb)
        have n2_ := Aside0.mk (below_step (by repeat (first | (with_reducible first | exact HB.out | apply below_alloc | apply pw_below_drewN | apply below_drew1 | refine below_set ?_ GE562.out) | exact HB.out)) hb)
        clear HO566
        clear BK562
        clear HB
        have HO566 := n0_
        have BK562 := n1_
        have HB := n2_
        clear n0_ n1_ n2_
        (try clear hb)
        (try clear hb2)
        (try clear hk)
        (try clear hi)
        refine hK.out _ _ ((blk_cell BK562.out 0).trans rfl) (fun hHeld => ?_)
        clear hK K
        refine norm_ (a' := ?_) ?_ ?_
        rotate_left
        · show Act.put _ (some 16) _ = _
          simp only [Act.put, List.setIfInBounds_toArray, List.set_cons_zero, List.set_cons_succ, i64_w, i32_w]
          rfl
        refine pure_ (i := 5) (N := some 4) (v := ?_) (a' := ?_) #[true, true, true, true, false, true, false] rfl rfl (by kernel_rfl) (fun _ _ _ h => h) (Or.inl ⟨by rfl, ?_⟩) ?_ ?_
        rotate_left
        · intro w'
          go_simp
          with_reducible rfl
        rotate_left
        · simp only [Act.put, List.setIfInBounds_toArray, List.set_cons_zero, List.set_cons_succ, i64_w, i32_w]
          rfl
        refine one_ (i := 4) (N := some 17) #[true, true, true, true, true, true, false] rfl rfl (by kernel_rfl) (by decide) (fun K hK => ?_)
        refine Kd.R_make_step (Kd.int .i64) _ 2 (by rfl) (N := 17) rfl 31 _ _ rfl t567 rfl rfl Try.underlying31 (.int .i64 0) 8 info2 rfl (by decide) (by omega) 0 (ok := fun _ => True) (okp := fun _ => True) rfl (fun _ hk => hk) trivial (of_decide_eq_true (by first | (with_reducible assumption) | assumption)) (Nat.le_trans (Nat.mul_le_mul_right _ (of_decide_eq_true (by first | (with_reducible assumption) | assumption) : t567.toNat ≤ 35184372088832)) (by omega)) (Below.refl _ _) (Nat.le_refl _) ?_
        intro v569 w15 ho16 hb hg_ hnew_
        clear hg_ hnew_
        (first | rw [← Ny568.out] at ho16 | (simp only [Int.reduceToNat] at ho16; rw [← Ny568.out] at ho16))
        have n0_ := Aside0.mk (Kd.R_below (by (with_reducible repeat (first | apply Kd.R_alloc | apply Kd.R_drewN | apply Kd.R_drew)); exact HO566.out) hb)
        have n1_ := Aside0.mk (Kd.R_lower ho16 (below_size (by repeat (first | (with_reducible first | exact HB.out | apply below_alloc | apply pw_below_drewN | apply below_drew1 | refine below_set ?_ GE562.out) | exact HB.out))))
        have n2_ := Aside0.mk (blk_below (g := gb562) (o := .cells #[.slice A0_0 l0_0.length c0_0] 27 (0, 0)) (by (with_reducible repeat (first | refine blk_drewN ?_ _ | refine blk_drew ?_ | refine blk_alloc ?_ _)); exact BK562.out) hb)
        have n3_ := Aside0.mk (below_step (by repeat (first | (with_reducible first | exact HB.out | apply below_alloc | apply pw_below_drewN | apply below_drew1 | refine below_set ?_ GE562.out) | exact HB.out)) hb)
        clear HO566
        clear BK562
        clear HB
        have HO566 := n0_
        have HO570 := n1_
        have BK562 := n2_
        have HB := n3_
        clear n0_ n1_ n2_ n3_
        clear hb ho16
        refine hK.out _ _ ((blk_cell BK562.out 0).trans rfl) (fun hHeld => ?_)
        clear hK K
        refine norm_ (a' := ?_) ?_ ?_
        rotate_left
        · show Act.put _ (some 17) _ = _
          simp only [Act.put, List.setIfInBounds_toArray, List.set_cons_zero, List.set_cons_succ, i64_w, i32_w]
          rfl
        refine pure_ (i := 6) (N := some 5) (v := ?_) (a' := ?_) #[true, true, true, true, true, true, true] rfl rfl (by kernel_rfl) (fun _ _ _ h => h) (Or.inl ⟨by rfl, ?_⟩) ?_ ?_
        rotate_left
        · intro w'
          go_simp
          with_reducible rfl
        rotate_left
        · simp only [Act.put, List.setIfInBounds_toArray, List.set_cons_zero, List.set_cons_succ, i64_w, i32_w]
          rfl
        refine done_ (by kernel_rfl) ?_
        have hcz17_0 : w15.cell? ⟨gb562, 0, none⟩ = some (.slice A0_0 l0_0.length c0_0) := (blk_cell BK562.out 0).trans rfl
        have hfz17_0 := blk_frozen BK562.out 0
        try go_wp2_with (first | ((with_reducible refine gate_callee (f := 62) rfl ?_); refine goesL_ (some 19) rfl rfl Try.func62 (by kernel_rfl) rfl #[.agg #[.slice A0_0 l0_0.length c0_0]] rfl (by (try simp only [List.map_toArray, List.map_cons, List.map_nil]); first | done | rfl | (simp only [List.length_drop, List.length_take]; rfl)) ?_; (with_reducible refine (spec_l01N.calls _ _ l0_0 t571 _ ?side1 ?side2 A8.out).mono ?_); (case side1 => repeat (first | exact (Kd.C_below HR0_0.out HB.out) | (with_reducible refine Kd.C_alloc ?_ _) | (with_reducible refine Kd.C_drewN ?_ _) | (with_reducible refine Kd.C_drew ?_))); (case side2 => exact HC0_0.out); rintro e w18 ⟨rfl, hb⟩; refine ⟨_, rfl, ?_⟩; have n0_ := Aside0.mk (Kd.R_below (by (with_reducible repeat (first | apply Kd.R_alloc | apply Kd.R_drewN | apply Kd.R_drew)); exact HO566.out) hb); have n1_ := Aside0.mk (Kd.R_below (by (with_reducible repeat (first | apply Kd.R_alloc | apply Kd.R_drewN | apply Kd.R_drew)); exact HO570.out) hb); have n2_ := Aside0.mk (blk_below (g := gb562) (o := .cells #[.slice A0_0 l0_0.length c0_0] 27 (0, 0)) (by (with_reducible repeat (first | refine blk_drewN ?_ _ | refine blk_drew ?_ | refine blk_alloc ?_ _)); exact BK562.out) hb); have n3_ := Aside0.mk (below_step (by repeat (first | (with_reducible first | exact HB.out | apply below_alloc | apply pw_below_drewN | apply below_drew1 | refine below_set ?_ GE562.out) | exact HB.out)) hb); clear HO566; clear HO570; clear BK562; clear HB; have HO566 := n0_; have HO570 := n1_; have BK562 := n2_; have HB := n3_; clear n0_ n1_ n2_ n3_; (try clear hb); (try clear hb2); (try clear hk); (try clear hi)))
        go_loopg [6] k (fun kq v6 w' => ∃ (x5_1 : List Int) (x6_1 : Int), v6 = .int .i64 x6_1 ∧ Aside0 (spec_LengthsOf.l0 kq t564 x5_1 x6_1 l0_0 = some (r1, r2)) ∧ Aside0 (kq ≤ k) ∧ Aside0 (Kd.R Kd.bool 4 w' w.heap.size (fun _ => True) v565 t564) ∧ Aside0 (Kd.R (Kd.int .i64) 2 w' w.heap.size (fun _ => True) v569 x5_1) ∧ Aside0 (w'.heap[gb562]? = some (.cells #[(.slice A0_0 l0_0.length c0_0)] 27 (0, 0))) ∧ Aside0 (Below w.heap.size w w'))
        case atStart => exact ⟨(y568), (wrap64 (t571 - 1)), (by first | rfl | (simp; done) | (simp [*]; done)), H', ⟨Nat.le_refl _⟩, ⟨by (with_reducible repeat (first | apply Kd.R_alloc | apply Kd.R_drewN | apply Kd.R_drew)); exact HO566.out⟩, ⟨by (with_reducible repeat (first | apply Kd.R_alloc | apply Kd.R_drewN | apply Kd.R_drew)); exact HO570.out⟩, ⟨by (with_reducible repeat (first | refine blk_drewN ?_ _ | refine blk_drew ?_ | refine blk_alloc ?_ _)); exact BK562.out⟩, ⟨by repeat (first | (with_reducible first | exact HB.out | apply below_alloc | apply pw_below_drewN | apply below_drew1 | refine below_set ?_ GE562.out) | exact HB.out)⟩⟩
        case round =>
          clear H'
          try clear p2
          try clear c3
          try clear c4
          try clear c5
          try clear c6
          try clear c6b0
          try clear c6b1
          try clear p6
          try clear c7
          try clear c7b0
          try clear c7b1
          try clear hcz10_0
          try clear hcz17_0
          try clear hfz10_0
          try clear hfz17_0
          obtain ⟨x5_1, x6_1, rfl, HA, HK1, HO_4, HO_5, BK562, HB⟩ := hrel
          cases gk with
          | zero => exact absurd HA.out (by simp [spec_LengthsOf.l0])
          | succ k1 =>
            have H := HA.out
            clear HA
            simp only [spec_LengthsOf.l0] at H
            by_cases c19 : x6_1 ≥ 0
            · rw [if_pos c19] at H
              have c19b0 : decide (0 ≤ x6_1) = true := decide_eq_true c19
              clear c19
              have H' := Aside0.mk H
              clear H
              go_wp2
              go_loopg [7, 8] k1 (fun kq v7 v8 w' => ∃ (x7_2 : Int) (x8_2 : Int), v7 = .int .i64 x7_2 ∧ v8 = .int .i64 x8_2 ∧ Aside0 (spec_LengthsOf.l1 kq t564 x5_1 x6_1 x7_2 x8_2 l0_0 = some (r1, r2)) ∧ Aside0 (kq ≤ k1) ∧ Aside0 (Kd.R Kd.bool 4 w' w.heap.size (fun _ => True) v565 t564) ∧ Aside0 (Kd.R (Kd.int .i64) 2 w' w.heap.size (fun _ => True) v569 x5_1) ∧ Aside0 (w'.heap[gb562]? = some (.cells #[(.slice A0_0 l0_0.length c0_0)] 27 (0, 0))) ∧ Aside0 (Below w.heap.size w w'))
              case atStart => exact ⟨((-1)), (0), (by first | rfl | (simp; done) | (simp [*]; done)), (by first | rfl | (simp; done) | (simp [*]; done)), H', ⟨Nat.le_refl _⟩, ⟨by (with_reducible repeat (first | apply Kd.R_alloc | apply Kd.R_drewN | apply Kd.R_drew)); exact HO_4.out⟩, ⟨by (with_reducible repeat (first | apply Kd.R_alloc | apply Kd.R_drewN | apply Kd.R_drew)); exact HO_5.out⟩, ⟨by (with_reducible repeat (first | refine blk_drewN ?_ _ | refine blk_drew ?_ | refine blk_alloc ?_ _)); exact BK562.out⟩, ⟨by repeat (first | (with_reducible first | exact HB.out | apply below_alloc | apply pw_below_drewN | apply below_drew1 | refine below_set ?_ GE562.out) | exact HB.out)⟩⟩
              case round =>
                clear H'
                try clear c1
                try clear p2
                try clear c3
                try clear c4
                try clear c5
                try clear c6
                try clear c6b0
                try clear c6b1
                try clear p6
                try clear c7
                try clear c7b0
                try clear c7b1
                try clear c19
                try clear c19b0
                try clear hcz10_0
                try clear hcz17_0
                try clear hfz10_0
                try clear hfz17_0
                try clear p2
                try clear p6
                obtain ⟨x7_2, x8_2, rfl, rfl, HA, HK2, HO_4, HO_5, BK562, HB⟩ := hrel
                cases gk with
                | zero => exact absurd HA.out (by simp [spec_LengthsOf.l1])
                | succ k2 =>
                  have H := HA.out
                  clear HA
                  simp only [spec_LengthsOf.l1] at H
                  by_cases c20 : 0 ≤ x6_1
                  · rw [if_pos c20] at H
                    have c20b0 : decide (0 ≤ x6_1) = true := decide_eq_true c20
                    clear c20
                    by_cases c21 : x6_1 < (l0_0.length : Int)
                    · rw [if_pos c21] at H
                      have c21b0 : decide (x6_1 < (l0_0.length : Int)) = true := decide_eq_true c21
                      clear c21
                      by_cases c22 : x8_2 < ((rd_L1 l0_0 x6_1).length : Int)
                      · rw [if_pos c22] at H
                        have c22b0 : decide (x8_2 < ((rd_L1 l0_0 x6_1).length : Int)) = true := decide_eq_true c22
                        clear c22
                        by_cases c23 : 0 ≤ x8_2
                        · rw [if_pos c23] at H
                          have c23b0 : decide (0 ≤ x8_2) = true := decide_eq_true c23
                          clear c23
                          have HC24 := Aside0.mk H
                          clear H
                          have hcz25_0 : wr.cell? ⟨gb562, 0, none⟩ = some (.slice A0_0 l0_0.length c0_0) := (blk_cell BK562.out 0).trans rfl
                          have hfz25_0 := blk_frozen BK562.out 0
                          have p572 : 0 ≤ (x6_1 : Int) := of_decide_eq_true (by first | (with_reducible assumption) | assumption)
                          have q572 : x6_1 < (l0_0.length : Int) := of_decide_eq_true (by first | (with_reducible assumption) | assumption)
                          obtain ⟨ad572, A572_0, c572_0, e572, hx572_0, hl572_0, hi572_0⟩ := at_L1 HR0_0.out x6_1 p572 q572
                          cases e572
                          replace hx572_0 := (HB.out.cell (World.block_lt_of_cell? w _ hx572_0)).trans hx572_0
                          have HR572_0 := Aside0.mk hi572_0
                          have HC572_0 := Aside0.mk hl572_0
                          clear hi572_0 hl572_0
                          replace p572 := eq_true p572
                          replace q572 := eq_true q572
                          have p574 : 0 ≤ (x6_1 : Int) := of_decide_eq_true (by first | (with_reducible assumption) | assumption)
                          have q574 : x6_1 < (l0_0.length : Int) := of_decide_eq_true (by first | (with_reducible assumption) | assumption)
                          obtain ⟨ad574, A574_0, c574_0, e574, hx574_0, hl574_0, hi574_0⟩ := at_L1 HR0_0.out x6_1 p574 q574
                          obtain rfl : ad572 = ad574 := (by injection e574)
                          replace hx574_0 := (HB.out.cell (World.block_lt_of_cell? w _ hx574_0)).trans hx574_0
                          have HR574_0 := Aside0.mk hi574_0
                          have HC574_0 := Aside0.mk hl574_0
                          clear hi574_0 hl574_0
                          replace p574 := eq_true p574
                          replace q574 := eq_true q574
                          have ea_ := Option.some.inj (hx572_0.symm.trans hx574_0)
                          injection ea_ with ea_ en_ ec_
                          subst ea_
                          subst ec_
                          clear en_
                          have p575 : 0 ≤ (x8_2 : Int) := of_decide_eq_true (by first | (with_reducible assumption) | assumption)
                          have q575 : x8_2 < ((rd_L1 l0_0 x6_1).length : Int) := of_decide_eq_true (by first | (with_reducible assumption) | assumption)
                          obtain ⟨ad575, e575, hx575_0⟩ := Kd.at_int HR574_0.out x8_2 p575 q575
                          cases e575
                          replace hx575_0 := (HB.out.cell (World.block_lt_of_cell? w _ hx575_0)).trans hx575_0
                          replace p575 := eq_true p575
                          replace q575 := eq_true q575
                          go_upto_region 12 with (fail)
                          go_cut [43] (fun v43 wc => ∃ (kq : Nat) (x43_23 : Bool), v43 = .bool x43_23 ∧ Aside0 (spec_LengthsOf.j2 kq t564 x5_1 x6_1 x7_2 x8_2 (rd (rd_L1 l0_0 x6_1) x8_2) x43_23 l0_0 = some (r1, r2)) ∧ Aside0 (kq ≤ k2) ∧ Aside0 (Kd.R Kd.bool 4 wc w.heap.size (fun _ => True) v565 t564) ∧ Aside0 (Kd.R (Kd.int .i64) 2 wc w.heap.size (fun _ => True) v569 x5_1) ∧ Aside0 (wc.heap[gb562]? = some (.cells #[(.slice (some ad572) l0_0.length c0_0)] 27 (0, 0))) ∧ Aside0 (Below w.heap.size w wc))
                          case first =>
                            have H := HC24.out
                            clear HC24
                            by_cases c26 : x6_1 < (t564.length : Int)
                            · rw [if_pos c26] at H
                              have c26b0 : decide (x6_1 < (t564.length : Int)) = true := decide_eq_true c26
                              clear c26
                              (first | rw [c26b0] | (simp only [i64_w, i32_w]; rw [c26b0]) | skip)
                              obtain ⟨bq27, hbq27⟩ : ∃ b_ : Bool, b_ = (rdOf false t564 x6_1) := ⟨_, rfl⟩
                              replace H : (if bq27 = true then (if 0 ≤ (rd (rd_L1 l0_0 x6_1) x8_2) then (if (rd (rd_L1 l0_0 x6_1) x8_2) < (t564.length : Int) then (if (rdOf false t564 (rd (rd_L1 l0_0 x6_1) x8_2) = true) then (spec_LengthsOf.j2 k2 t564 x5_1 x6_1 x7_2 x8_2 (rd (rd_L1 l0_0 x6_1) x8_2) false l0_0) else (if x7_2 < 0 then (spec_LengthsOf.j2 k2 t564 x5_1 x6_1 x7_2 x8_2 (rd (rd_L1 l0_0 x6_1) x8_2) true l0_0) else (if (rd (rd_L1 l0_0 x6_1) x8_2) < (x5_1.length : Int) then (spec_LengthsOf.j2 k2 t564 x5_1 x6_1 x7_2 x8_2 (rd (rd_L1 l0_0 x6_1) x8_2) (decide ((rd x5_1 (rd (rd_L1 l0_0 x6_1) x8_2)) < x7_2)) l0_0) else (none)))) else (none)) else (none)) else (spec_LengthsOf.j2 k2 t564 x5_1 x6_1 x7_2 x8_2 (rd (rd_L1 l0_0 x6_1) x8_2) false l0_0)) = some (r1, r2) := by rw [← hbq27] at H; exact H
                              have Nbq27 := Aside0.mk hbq27
                              clear hbq27
                              by_cases c28 : bq27 = true
                              · subst c28
                                have H1 : (if 0 ≤ (rd (rd_L1 l0_0 x6_1) x8_2) then (if (rd (rd_L1 l0_0 x6_1) x8_2) < (t564.length : Int) then (if (rdOf false t564 (rd (rd_L1 l0_0 x6_1) x8_2) = true) then (spec_LengthsOf.j2 k2 t564 x5_1 x6_1 x7_2 x8_2 (rd (rd_L1 l0_0 x6_1) x8_2) false l0_0) else (if x7_2 < 0 then (spec_LengthsOf.j2 k2 t564 x5_1 x6_1 x7_2 x8_2 (rd (rd_L1 l0_0 x6_1) x8_2) true l0_0) else (if (rd (rd_L1 l0_0 x6_1) x8_2) < (x5_1.length : Int) then (spec_LengthsOf.j2 k2 t564 x5_1 x6_1 x7_2 x8_2 (rd (rd_L1 l0_0 x6_1) x8_2) (decide ((rd x5_1 (rd (rd_L1 l0_0 x6_1) x8_2)) < x7_2)) l0_0) else (none)))) else (none)) else (none)) = some (r1, r2) := by rw [if_pos rfl] at H; exact H
                                clear H
                                have H := H1
                                clear H1
                                by_cases c29 : 0 ≤ (rd (rd_L1 l0_0 x6_1) x8_2)
                                · rw [if_pos c29] at H
                                  have c29b0 : decide (0 ≤ (rd (rd_L1 l0_0 x6_1) x8_2)) = true := decide_eq_true c29
                                  clear c29
                                  by_cases c30 : (rd (rd_L1 l0_0 x6_1) x8_2) < (t564.length : Int)
                                  · rw [if_pos c30] at H
                                    have c30b0 : decide ((rd (rd_L1 l0_0 x6_1) x8_2) < (t564.length : Int)) = true := decide_eq_true c30
                                    clear c30
                                    obtain ⟨bq31, hbq31⟩ : ∃ b_ : Bool, b_ = (rdOf false t564 (rd (rd_L1 l0_0 x6_1) x8_2)) := ⟨_, rfl⟩
                                    replace H : (if (bq31 = true) then (spec_LengthsOf.j2 k2 t564 x5_1 x6_1 x7_2 x8_2 (rd (rd_L1 l0_0 x6_1) x8_2) false l0_0) else (if x7_2 < 0 then (spec_LengthsOf.j2 k2 t564 x5_1 x6_1 x7_2 x8_2 (rd (rd_L1 l0_0 x6_1) x8_2) true l0_0) else (if (rd (rd_L1 l0_0 x6_1) x8_2) < (x5_1.length : Int) then (spec_LengthsOf.j2 k2 t564 x5_1 x6_1 x7_2 x8_2 (rd (rd_L1 l0_0 x6_1) x8_2) (decide ((rd x5_1 (rd (rd_L1 l0_0 x6_1) x8_2)) < x7_2)) l0_0) else (none)))) = some (r1, r2) := by rw [← hbq31] at H; exact H
                                    have Nbq31 := Aside0.mk hbq31
                                    clear hbq31
                                    by_cases c32 : (bq31 = true)
                                    · subst c32
                                      have H1 : (spec_LengthsOf.j2 k2 t564 x5_1 x6_1 x7_2 x8_2 (rd (rd_L1 l0_0 x6_1) x8_2) false l0_0) = some (r1, r2) := by rw [if_pos rfl] at H; exact H
                                      clear H
                                      have H := H1
                                      clear H1
                                      have H' := Aside0.mk H
                                      clear H
                                      obtain ⟨Ao33, co33, eo33⟩ := Kd.R_slice HO_4.out
                                      subst eo33
                                      have p576 : 0 ≤ (x6_1 : Int) := of_decide_eq_true (by first | (with_reducible assumption) | assumption)
                                      have q576 : x6_1 < (t564.length : Int) := of_decide_eq_true (by first | (with_reducible assumption) | assumption)
                                      obtain ⟨ad576, e576, hx576_0⟩ := Kd.at_bool (Kd.R_reads' HO_4.out).2.2 x6_1 p576 q576
                                      (try rw [← Nbq27.out] at hx576_0)
                                      (try rw [← Nbq31.out] at hx576_0)
                                      cases e576
                                      replace p576 := eq_true p576
                                      replace q576 := eq_true q576
                                      have p577 : 0 ≤ ((rd (rd_L1 l0_0 x6_1) x8_2) : Int) := of_decide_eq_true (by first | (with_reducible assumption) | assumption)
                                      have q577 : (rd (rd_L1 l0_0 x6_1) x8_2) < (t564.length : Int) := of_decide_eq_true (by first | (with_reducible assumption) | assumption)
                                      obtain ⟨ad577, e577, hx577_0⟩ := Kd.at_bool (Kd.R_reads' HO_4.out).2.2 (rd (rd_L1 l0_0 x6_1) x8_2) p577 q577
                                      (try rw [← Nbq27.out] at hx577_0)
                                      (try rw [← Nbq31.out] at hx577_0)
                                      obtain rfl : ad576 = ad577 := (by injection e577)
                                      replace p577 := eq_true p577
                                      replace q577 := eq_true q577
                                      go_wp2
                                      go_meet
                                      case rel => exact ⟨_, (false), (by first | rfl | (simp; done) | (simp [*]; done)), H', ⟨by have := HK1.out; have := HK2.out; first | omega | exact Nat.le_refl _⟩, ⟨by (with_reducible repeat (first | apply Kd.R_alloc | apply Kd.R_drewN | apply Kd.R_drew)); exact HO_4.out⟩, ⟨by (with_reducible repeat (first | apply Kd.R_alloc | apply Kd.R_drewN | apply Kd.R_drew)); exact HO_5.out⟩, ⟨by (with_reducible repeat (first | refine blk_drewN ?_ _ | refine blk_drew ?_ | refine blk_alloc ?_ _)); exact BK562.out⟩, ⟨by repeat (first | (with_reducible first | exact HB.out | apply below_alloc | apply pw_below_drewN | apply below_drew1 | refine below_set ?_ GE562.out) | exact HB.out)⟩⟩
                                    · replace c32 := Bool.eq_false_iff.mpr c32
                                      subst c32
                                      have H1 : (if x7_2 < 0 then (spec_LengthsOf.j2 k2 t564 x5_1 x6_1 x7_2 x8_2 (rd (rd_L1 l0_0 x6_1) x8_2) true l0_0) else (if (rd (rd_L1 l0_0 x6_1) x8_2) < (x5_1.length : Int) then (spec_LengthsOf.j2 k2 t564 x5_1 x6_1 x7_2 x8_2 (rd (rd_L1 l0_0 x6_1) x8_2) (decide ((rd x5_1 (rd (rd_L1 l0_0 x6_1) x8_2)) < x7_2)) l0_0) else (none))) = some (r1, r2) := by rw [if_neg (show ¬ (false = true) by decide)] at H; exact H
                                      clear H
                                      have H := H1
                                      clear H1
                                      by_cases c34 : x7_2 < 0
                                      · rw [if_pos c34] at H
                                        have c34b0 : decide (x7_2 < 0) = true := decide_eq_true c34
                                        clear c34
                                        have H' := Aside0.mk H
                                        clear H
                                        obtain ⟨Ao35, co35, eo35⟩ := Kd.R_slice HO_4.out
                                        subst eo35
                                        have p576 : 0 ≤ (x6_1 : Int) := of_decide_eq_true (by first | (with_reducible assumption) | assumption)
                                        have q576 : x6_1 < (t564.length : Int) := of_decide_eq_true (by first | (with_reducible assumption) | assumption)
                                        obtain ⟨ad576, e576, hx576_0⟩ := Kd.at_bool (Kd.R_reads' HO_4.out).2.2 x6_1 p576 q576
                                        (try rw [← Nbq27.out] at hx576_0)
                                        (try rw [← Nbq31.out] at hx576_0)
                                        cases e576
                                        replace p576 := eq_true p576
                                        replace q576 := eq_true q576
                                        have p577 : 0 ≤ ((rd (rd_L1 l0_0 x6_1) x8_2) : Int) := of_decide_eq_true (by first | (with_reducible assumption) | assumption)
                                        have q577 : (rd (rd_L1 l0_0 x6_1) x8_2) < (t564.length : Int) := of_decide_eq_true (by first | (with_reducible assumption) | assumption)
                                        obtain ⟨ad577, e577, hx577_0⟩ := Kd.at_bool (Kd.R_reads' HO_4.out).2.2 (rd (rd_L1 l0_0 x6_1) x8_2) p577 q577
                                        (try rw [← Nbq27.out] at hx577_0)
                                        (try rw [← Nbq31.out] at hx577_0)
                                        obtain rfl : ad576 = ad577 := (by injection e577)
                                        replace p577 := eq_true p577
                                        replace q577 := eq_true q577
                                        go_wp2
                                        go_meet
                                        case rel => exact ⟨_, (true), (by first | rfl | (simp; done) | (simp [*]; done)), H', ⟨by have := HK1.out; have := HK2.out; first | omega | exact Nat.le_refl _⟩, ⟨by (with_reducible repeat (first | apply Kd.R_alloc | apply Kd.R_drewN | apply Kd.R_drew)); exact HO_4.out⟩, ⟨by (with_reducible repeat (first | apply Kd.R_alloc | apply Kd.R_drewN | apply Kd.R_drew)); exact HO_5.out⟩, ⟨by (with_reducible repeat (first | refine blk_drewN ?_ _ | refine blk_drew ?_ | refine blk_alloc ?_ _)); exact BK562.out⟩, ⟨by repeat (first | (with_reducible first | exact HB.out | apply below_alloc | apply pw_below_drewN | apply below_drew1 | refine below_set ?_ GE562.out) | exact HB.out)⟩⟩
                                      · rw [if_neg c34] at H
                                        have c34b0 : decide (x7_2 < 0) = false := decide_eq_false c34
                                        clear c34
                                        by_cases c36 : (rd (rd_L1 l0_0 x6_1) x8_2) < (x5_1.length : Int)
                                        · rw [if_pos c36] at H
                                          have c36b0 : decide ((rd (rd_L1 l0_0 x6_1) x8_2) < (x5_1.length : Int)) = true := decide_eq_true c36
                                          clear c36
                                          have H' := Aside0.mk H
                                          clear H
                                          obtain ⟨Ao37, co37, eo37⟩ := Kd.R_slice HO_4.out
                                          subst eo37
                                          have p576 : 0 ≤ (x6_1 : Int) := of_decide_eq_true (by first | (with_reducible assumption) | assumption)
                                          have q576 : x6_1 < (t564.length : Int) := of_decide_eq_true (by first | (with_reducible assumption) | assumption)
                                          obtain ⟨ad576, e576, hx576_0⟩ := Kd.at_bool (Kd.R_reads' HO_4.out).2.2 x6_1 p576 q576
                                          (try rw [← Nbq27.out] at hx576_0)
                                          (try rw [← Nbq31.out] at hx576_0)
                                          cases e576
                                          replace p576 := eq_true p576
                                          replace q576 := eq_true q576
                                          have p577 : 0 ≤ ((rd (rd_L1 l0_0 x6_1) x8_2) : Int) := of_decide_eq_true (by first | (with_reducible assumption) | assumption)
                                          have q577 : (rd (rd_L1 l0_0 x6_1) x8_2) < (t564.length : Int) := of_decide_eq_true (by first | (with_reducible assumption) | assumption)
                                          obtain ⟨ad577, e577, hx577_0⟩ := Kd.at_bool (Kd.R_reads' HO_4.out).2.2 (rd (rd_L1 l0_0 x6_1) x8_2) p577 q577
                                          (try rw [← Nbq27.out] at hx577_0)
                                          (try rw [← Nbq31.out] at hx577_0)
                                          obtain rfl : ad576 = ad577 := (by injection e577)
                                          replace p577 := eq_true p577
                                          replace q577 := eq_true q577
                                          obtain ⟨Ao38, co38, eo38⟩ := Kd.R_slice HO_5.out
                                          subst eo38
                                          have p578 : 0 ≤ ((rd (rd_L1 l0_0 x6_1) x8_2) : Int) := of_decide_eq_true (by first | (with_reducible assumption) | assumption)
                                          have q578 : (rd (rd_L1 l0_0 x6_1) x8_2) < (x5_1.length : Int) := of_decide_eq_true (by first | (with_reducible assumption) | assumption)
                                          obtain ⟨ad578, e578, hx578_0⟩ := Kd.at_int (Kd.R_reads' HO_5.out).2.2 (rd (rd_L1 l0_0 x6_1) x8_2) p578 q578
                                          cases e578
                                          replace p578 := eq_true p578
                                          replace q578 := eq_true q578
                                          go_wp2
                                          go_meet
                                          case rel => exact ⟨_, (decide ((rd x5_1 (rd (rd_L1 l0_0 x6_1) x8_2)) < x7_2)), (by first | rfl | (simp; done) | (simp [*]; done)), H', ⟨by have := HK1.out; have := HK2.out; first | omega | exact Nat.le_refl _⟩, ⟨by (with_reducible repeat (first | apply Kd.R_alloc | apply Kd.R_drewN | apply Kd.R_drew)); exact HO_4.out⟩, ⟨by (with_reducible repeat (first | apply Kd.R_alloc | apply Kd.R_drewN | apply Kd.R_drew)); exact HO_5.out⟩, ⟨by (with_reducible repeat (first | refine blk_drewN ?_ _ | refine blk_drew ?_ | refine blk_alloc ?_ _)); exact BK562.out⟩, ⟨by repeat (first | (with_reducible first | exact HB.out | apply below_alloc | apply pw_below_drewN | apply below_drew1 | refine below_set ?_ GE562.out) | exact HB.out)⟩⟩
                                        · rw [if_neg c36] at H
                                          exact absurd H (by simp)
                                  · rw [if_neg c30] at H
                                    exact absurd H (by simp)
                                · rw [if_neg c29] at H
                                  exact absurd H (by simp)
                              · replace c28 := Bool.eq_false_iff.mpr c28
                                subst c28
                                have H1 : (spec_LengthsOf.j2 k2 t564 x5_1 x6_1 x7_2 x8_2 (rd (rd_L1 l0_0 x6_1) x8_2) false l0_0) = some (r1, r2) := by rw [if_neg (show ¬ (false = true) by decide)] at H; exact H
                                clear H
                                have H := H1
                                clear H1
                                have H' := Aside0.mk H
                                clear H
                                obtain ⟨Ao39, co39, eo39⟩ := Kd.R_slice HO_4.out
                                subst eo39
                                have p576 : 0 ≤ (x6_1 : Int) := of_decide_eq_true (by first | (with_reducible assumption) | assumption)
                                have q576 : x6_1 < (t564.length : Int) := of_decide_eq_true (by first | (with_reducible assumption) | assumption)
                                obtain ⟨ad576, e576, hx576_0⟩ := Kd.at_bool (Kd.R_reads' HO_4.out).2.2 x6_1 p576 q576
                                (try rw [← Nbq27.out] at hx576_0)
                                cases e576
                                replace p576 := eq_true p576
                                replace q576 := eq_true q576
                                go_wp2
                                go_meet
                                case rel => exact ⟨_, (false), (by first | rfl | (simp; done) | (simp [*]; done)), H', ⟨by have := HK1.out; have := HK2.out; first | omega | exact Nat.le_refl _⟩, ⟨by (with_reducible repeat (first | apply Kd.R_alloc | apply Kd.R_drewN | apply Kd.R_drew)); exact HO_4.out⟩, ⟨by (with_reducible repeat (first | apply Kd.R_alloc | apply Kd.R_drewN | apply Kd.R_drew)); exact HO_5.out⟩, ⟨by (with_reducible repeat (first | refine blk_drewN ?_ _ | refine blk_drew ?_ | refine blk_alloc ?_ _)); exact BK562.out⟩, ⟨by repeat (first | (with_reducible first | exact HB.out | apply below_alloc | apply pw_below_drewN | apply below_drew1 | refine below_set ?_ GE562.out) | exact HB.out)⟩⟩
                            · rw [if_neg c26] at H
                              exact absurd H (by simp)
                          case rest =>
                            clear HC24
                            try clear c1
                            try clear c2
                            try clear p2
                            try clear q2
                            try clear c3
                            try clear q3
                            try clear c4
                            try clear c5
                            try clear p5
                            try clear q5
                            try clear hx5
                            try clear c6
                            try clear c6b0
                            try clear c6b1
                            try clear p6
                            try clear c7
                            try clear c7b0
                            try clear c7b1
                            try clear c19
                            try clear c19b0
                            try clear c20
                            try clear c20b0
                            try clear c21
                            try clear c21b0
                            try clear c22
                            try clear c22b0
                            try clear c23
                            try clear c23b0
                            try clear c26
                            try clear c26b0
                            try clear q27
                            try clear c28
                            try clear c29
                            try clear c29b0
                            try clear c30
                            try clear c30b0
                            try clear q31
                            try clear c32
                            try clear c34
                            try clear c34b0
                            try clear c36
                            try clear c36b0
                            try clear hcz10_0
                            try clear hcz17_0
                            try clear hcz25_0
                            try clear hfz10_0
                            try clear hfz17_0
                            try clear hfz25_0
                            try clear hx572_0
                            try clear hx574_0
                            try clear hx575_0
                            try clear hx576_0
                            try clear hx577_0
                            try clear hx578_0
                            try clear p2
                            try clear p572
                            try clear p574
                            try clear p575
                            try clear p576
                            try clear p577
                            try clear p578
                            try clear p6
                            try clear q572
                            try clear q574
                            try clear q575
                            try clear q576
                            try clear q577
                            try clear q578
                            obtain ⟨kq, x43_23, rfl, HA, HJ23, HO_4, HO_5, BK562, HB⟩ := hcut
                            cases kq with
                            | zero => exact absurd HA.out (by simp [spec_LengthsOf.j2])
                            | succ kj23 =>
                              have H := HA.out
                              clear HA
                              simp only [spec_LengthsOf.j2] at H
                              by_cases c40 : x43_23 = true
                              · subst c40
                                have H1 : (if 0 ≤ (rd (rd_L1 l0_0 x6_1) x8_2) then (if (rd (rd_L1 l0_0 x6_1) x8_2) < (x5_1.length : Int) then (spec_LengthsOf.l1 kj23 t564 x5_1 x6_1 (rd x5_1 (rd (rd_L1 l0_0 x6_1) x8_2)) (wrap64 (x8_2 + 1)) l0_0) else (none)) else (none)) = some (r1, r2) := by rw [if_pos rfl] at H; exact H
                                clear H
                                have H := H1
                                clear H1
                                by_cases c41 : 0 ≤ (rd (rd_L1 l0_0 x6_1) x8_2)
                                · rw [if_pos c41] at H
                                  have c41b0 : decide (0 ≤ (rd (rd_L1 l0_0 x6_1) x8_2)) = true := decide_eq_true c41
                                  clear c41
                                  by_cases c42 : (rd (rd_L1 l0_0 x6_1) x8_2) < (x5_1.length : Int)
                                  · rw [if_pos c42] at H
                                    have c42b0 : decide ((rd (rd_L1 l0_0 x6_1) x8_2) < (x5_1.length : Int)) = true := decide_eq_true c42
                                    clear c42
                                    have H' := Aside0.mk H
                                    clear H
                                    obtain ⟨Ao43, co43, eo43⟩ := Kd.R_slice HO_5.out
                                    subst eo43
                                    have p579 : 0 ≤ ((rd (rd_L1 l0_0 x6_1) x8_2) : Int) := of_decide_eq_true (by first | (with_reducible assumption) | assumption)
                                    have q579 : (rd (rd_L1 l0_0 x6_1) x8_2) < (x5_1.length : Int) := of_decide_eq_true (by first | (with_reducible assumption) | assumption)
                                    obtain ⟨ad579, e579, hx579_0⟩ := Kd.at_int (Kd.R_reads' HO_5.out).2.2 (rd (rd_L1 l0_0 x6_1) x8_2) p579 q579
                                    cases e579
                                    replace p579 := eq_true p579
                                    replace q579 := eq_true q579
                                    go_wp2
                                    go_roundg kj23
                                    case measure => have := HK1.out; have := HK2.out; have := HJ23.out; omega
                                    case rel => exact ⟨(rd x5_1 (rd (rd_L1 l0_0 x6_1) x8_2)), (wrap64 (x8_2 + 1)), (by first | rfl | (simp; done) | (simp [*]; done)), (by first | rfl | (simp; done) | (simp [*]; done)), H', ⟨by have := HK1.out; have := HK2.out; have := HJ23.out; omega⟩, ⟨by (with_reducible repeat (first | apply Kd.R_alloc | apply Kd.R_drewN | apply Kd.R_drew)); exact HO_4.out⟩, ⟨by (with_reducible repeat (first | apply Kd.R_alloc | apply Kd.R_drewN | apply Kd.R_drew)); exact HO_5.out⟩, ⟨by (with_reducible repeat (first | refine blk_drewN ?_ _ | refine blk_drew ?_ | refine blk_alloc ?_ _)); exact BK562.out⟩, ⟨by repeat (first | (with_reducible first | exact HB.out | apply below_alloc | apply pw_below_drewN | apply below_drew1 | refine below_set ?_ GE562.out) | exact HB.out)⟩⟩
                                  · rw [if_neg c42] at H
                                    exact absurd H (by simp)
                                · rw [if_neg c41] at H
                                  exact absurd H (by simp)
                              · replace c40 := Bool.eq_false_iff.mpr c40
                                subst c40
                                have H1 : (if 0 ≤ x6_1 then (if x6_1 < (t564.length : Int) then (if rdOf false t564 x6_1 = true then (spec_LengthsOf.l1 kj23 t564 x5_1 x6_1 x7_2 (wrap64 (x8_2 + 1)) l0_0) else (if 0 ≤ (rd (rd_L1 l0_0 x6_1) x8_2) then (if (rd (rd_L1 l0_0 x6_1) x8_2) < (x5_1.length : Int) then (if (rd x5_1 (rd (rd_L1 l0_0 x6_1) x8_2)) > x7_2 then (spec_LengthsOf.l1 kj23 t564 x5_1 x6_1 (rd x5_1 (rd (rd_L1 l0_0 x6_1) x8_2)) (wrap64 (x8_2 + 1)) l0_0) else (spec_LengthsOf.l1 kj23 t564 x5_1 x6_1 x7_2 (wrap64 (x8_2 + 1)) l0_0)) else (none)) else (none))) else (none)) else (none)) = some (r1, r2) := by rw [if_neg (show ¬ (false = true) by decide)] at H; exact H
                                clear H
                                have H := H1
                                clear H1
                                by_cases c44 : 0 ≤ x6_1
                                · rw [if_pos c44] at H
                                  have c44b0 : decide (0 ≤ x6_1) = true := decide_eq_true c44
                                  clear c44
                                  by_cases c45 : x6_1 < (t564.length : Int)
                                  · rw [if_pos c45] at H
                                    have c45b0 : decide (x6_1 < (t564.length : Int)) = true := decide_eq_true c45
                                    clear c45
                                    obtain ⟨bq46, hbq46⟩ : ∃ b_ : Bool, b_ = (rdOf false t564 x6_1) := ⟨_, rfl⟩
                                    replace H : (if bq46 = true then (spec_LengthsOf.l1 kj23 t564 x5_1 x6_1 x7_2 (wrap64 (x8_2 + 1)) l0_0) else (if 0 ≤ (rd (rd_L1 l0_0 x6_1) x8_2) then (if (rd (rd_L1 l0_0 x6_1) x8_2) < (x5_1.length : Int) then (if (rd x5_1 (rd (rd_L1 l0_0 x6_1) x8_2)) > x7_2 then (spec_LengthsOf.l1 kj23 t564 x5_1 x6_1 (rd x5_1 (rd (rd_L1 l0_0 x6_1) x8_2)) (wrap64 (x8_2 + 1)) l0_0) else (spec_LengthsOf.l1 kj23 t564 x5_1 x6_1 x7_2 (wrap64 (x8_2 + 1)) l0_0)) else (none)) else (none))) = some (r1, r2) := by rw [← hbq46] at H; exact H
                                    have Nbq46 := Aside0.mk hbq46
                                    clear hbq46
                                    by_cases c47 : bq46 = true
                                    · subst c47
                                      have H1 : (spec_LengthsOf.l1 kj23 t564 x5_1 x6_1 x7_2 (wrap64 (x8_2 + 1)) l0_0) = some (r1, r2) := by rw [if_pos rfl] at H; exact H
                                      clear H
                                      have H := H1
                                      clear H1
                                      have H' := Aside0.mk H
                                      clear H
                                      obtain ⟨Ao48, co48, eo48⟩ := Kd.R_slice HO_4.out
                                      subst eo48
                                      have p580 : 0 ≤ (x6_1 : Int) := of_decide_eq_true (by first | (with_reducible assumption) | assumption)
                                      have q580 : x6_1 < (t564.length : Int) := of_decide_eq_true (by first | (with_reducible assumption) | assumption)
                                      obtain ⟨ad580, e580, hx580_0⟩ := Kd.at_bool (Kd.R_reads' HO_4.out).2.2 x6_1 p580 q580
                                      (try rw [← Nbq46.out] at hx580_0)
                                      cases e580
                                      replace p580 := eq_true p580
                                      replace q580 := eq_true q580
                                      go_wp2
                                      go_roundg kj23
                                      case measure => have := HK1.out; have := HK2.out; have := HJ23.out; omega
                                      case rel => exact ⟨(x7_2), (wrap64 (x8_2 + 1)), (by first | rfl | (simp; done) | (simp [*]; done)), (by first | rfl | (simp; done) | (simp [*]; done)), H', ⟨by have := HK1.out; have := HK2.out; have := HJ23.out; omega⟩, ⟨by (with_reducible repeat (first | apply Kd.R_alloc | apply Kd.R_drewN | apply Kd.R_drew)); exact HO_4.out⟩, ⟨by (with_reducible repeat (first | apply Kd.R_alloc | apply Kd.R_drewN | apply Kd.R_drew)); exact HO_5.out⟩, ⟨by (with_reducible repeat (first | refine blk_drewN ?_ _ | refine blk_drew ?_ | refine blk_alloc ?_ _)); exact BK562.out⟩, ⟨by repeat (first | (with_reducible first | exact HB.out | apply below_alloc | apply pw_below_drewN | apply below_drew1 | refine below_set ?_ GE562.out) | exact HB.out)⟩⟩
                                    · replace c47 := Bool.eq_false_iff.mpr c47
                                      subst c47
                                      have H1 : (if 0 ≤ (rd (rd_L1 l0_0 x6_1) x8_2) then (if (rd (rd_L1 l0_0 x6_1) x8_2) < (x5_1.length : Int) then (if (rd x5_1 (rd (rd_L1 l0_0 x6_1) x8_2)) > x7_2 then (spec_LengthsOf.l1 kj23 t564 x5_1 x6_1 (rd x5_1 (rd (rd_L1 l0_0 x6_1) x8_2)) (wrap64 (x8_2 + 1)) l0_0) else (spec_LengthsOf.l1 kj23 t564 x5_1 x6_1 x7_2 (wrap64 (x8_2 + 1)) l0_0)) else (none)) else (none)) = some (r1, r2) := by rw [if_neg (show ¬ (false = true) by decide)] at H; exact H
                                      clear H
                                      have H := H1
                                      clear H1
                                      by_cases c49 : 0 ≤ (rd (rd_L1 l0_0 x6_1) x8_2)
                                      · rw [if_pos c49] at H
                                        have c49b0 : decide (0 ≤ (rd (rd_L1 l0_0 x6_1) x8_2)) = true := decide_eq_true c49
                                        clear c49
                                        by_cases c50 : (rd (rd_L1 l0_0 x6_1) x8_2) < (x5_1.length : Int)
                                        · rw [if_pos c50] at H
                                          have c50b0 : decide ((rd (rd_L1 l0_0 x6_1) x8_2) < (x5_1.length : Int)) = true := decide_eq_true c50
                                          clear c50
                                          by_cases c51 : (rd x5_1 (rd (rd_L1 l0_0 x6_1) x8_2)) > x7_2
                                          · rw [if_pos c51] at H
                                            have c51b0 : decide (x7_2 < (rd x5_1 (rd (rd_L1 l0_0 x6_1) x8_2))) = true := decide_eq_true c51
                                            clear c51
                                            have H' := Aside0.mk H
                                            clear H
                                            obtain ⟨Ao52, co52, eo52⟩ := Kd.R_slice HO_4.out
                                            subst eo52
                                            have p580 : 0 ≤ (x6_1 : Int) := of_decide_eq_true (by first | (with_reducible assumption) | assumption)
                                            have q580 : x6_1 < (t564.length : Int) := of_decide_eq_true (by first | (with_reducible assumption) | assumption)
                                            obtain ⟨ad580, e580, hx580_0⟩ := Kd.at_bool (Kd.R_reads' HO_4.out).2.2 x6_1 p580 q580
                                            (try rw [← Nbq46.out] at hx580_0)
                                            cases e580
                                            replace p580 := eq_true p580
                                            replace q580 := eq_true q580
                                            obtain ⟨Ao53, co53, eo53⟩ := Kd.R_slice HO_5.out
                                            subst eo53
                                            have p581 : 0 ≤ ((rd (rd_L1 l0_0 x6_1) x8_2) : Int) := of_decide_eq_true (by first | (with_reducible assumption) | assumption)
                                            have q581 : (rd (rd_L1 l0_0 x6_1) x8_2) < (x5_1.length : Int) := of_decide_eq_true (by first | (with_reducible assumption) | assumption)
                                            obtain ⟨ad581, e581, hx581_0⟩ := Kd.at_int (Kd.R_reads' HO_5.out).2.2 (rd (rd_L1 l0_0 x6_1) x8_2) p581 q581
                                            cases e581
                                            replace p581 := eq_true p581
                                            replace q581 := eq_true q581
                                            have p582 : 0 ≤ ((rd (rd_L1 l0_0 x6_1) x8_2) : Int) := of_decide_eq_true (by first | (with_reducible assumption) | assumption)
                                            have q582 : (rd (rd_L1 l0_0 x6_1) x8_2) < (x5_1.length : Int) := of_decide_eq_true (by first | (with_reducible assumption) | assumption)
                                            obtain ⟨ad582, e582, hx582_0⟩ := Kd.at_int (Kd.R_reads' HO_5.out).2.2 (rd (rd_L1 l0_0 x6_1) x8_2) p582 q582
                                            obtain rfl : ad581 = ad582 := (by injection e582)
                                            replace p582 := eq_true p582
                                            replace q582 := eq_true q582
                                            go_wp2
                                            go_roundg kj23
                                            case measure => have := HK1.out; have := HK2.out; have := HJ23.out; omega
                                            case rel => exact ⟨(rd x5_1 (rd (rd_L1 l0_0 x6_1) x8_2)), (wrap64 (x8_2 + 1)), (by first | rfl | (simp; done) | (simp [*]; done)), (by first | rfl | (simp; done) | (simp [*]; done)), H', ⟨by have := HK1.out; have := HK2.out; have := HJ23.out; omega⟩, ⟨by (with_reducible repeat (first | apply Kd.R_alloc | apply Kd.R_drewN | apply Kd.R_drew)); exact HO_4.out⟩, ⟨by (with_reducible repeat (first | apply Kd.R_alloc | apply Kd.R_drewN | apply Kd.R_drew)); exact HO_5.out⟩, ⟨by (with_reducible repeat (first | refine blk_drewN ?_ _ | refine blk_drew ?_ | refine blk_alloc ?_ _)); exact BK562.out⟩, ⟨by repeat (first | (with_reducible first | exact HB.out | apply below_alloc | apply pw_below_drewN | apply below_drew1 | refine below_set ?_ GE562.out) | exact HB.out)⟩⟩
                                          · rw [if_neg c51] at H
                                            have c51b0 : decide (x7_2 < (rd x5_1 (rd (rd_L1 l0_0 x6_1) x8_2))) = false := decide_eq_false c51
                                            clear c51
                                            have H' := Aside0.mk H
                                            clear H
                                            obtain ⟨Ao54, co54, eo54⟩ := Kd.R_slice HO_4.out
                                            subst eo54
                                            have p580 : 0 ≤ (x6_1 : Int) := of_decide_eq_true (by first | (with_reducible assumption) | assumption)
                                            have q580 : x6_1 < (t564.length : Int) := of_decide_eq_true (by first | (with_reducible assumption) | assumption)
                                            obtain ⟨ad580, e580, hx580_0⟩ := Kd.at_bool (Kd.R_reads' HO_4.out).2.2 x6_1 p580 q580
                                            (try rw [← Nbq46.out] at hx580_0)
                                            cases e580
                                            replace p580 := eq_true p580
                                            replace q580 := eq_true q580
                                            obtain ⟨Ao55, co55, eo55⟩ := Kd.R_slice HO_5.out
                                            subst eo55
                                            have p581 : 0 ≤ ((rd (rd_L1 l0_0 x6_1) x8_2) : Int) := of_decide_eq_true (by first | (with_reducible assumption) | assumption)
                                            have q581 : (rd (rd_L1 l0_0 x6_1) x8_2) < (x5_1.length : Int) := of_decide_eq_true (by first | (with_reducible assumption) | assumption)
                                            obtain ⟨ad581, e581, hx581_0⟩ := Kd.at_int (Kd.R_reads' HO_5.out).2.2 (rd (rd_L1 l0_0 x6_1) x8_2) p581 q581
                                            cases e581
                                            replace p581 := eq_true p581
                                            replace q581 := eq_true q581
                                            go_wp2
                                            go_roundg kj23
                                            case measure => have := HK1.out; have := HK2.out; have := HJ23.out; omega
                                            case rel => exact ⟨(x7_2), (wrap64 (x8_2 + 1)), (by first | rfl | (simp; done) | (simp [*]; done)), (by first | rfl | (simp; done) | (simp [*]; done)), H', ⟨by have := HK1.out; have := HK2.out; have := HJ23.out; omega⟩, ⟨by (with_reducible repeat (first | apply Kd.R_alloc | apply Kd.R_drewN | apply Kd.R_drew)); exact HO_4.out⟩, ⟨by (with_reducible repeat (first | apply Kd.R_alloc | apply Kd.R_drewN | apply Kd.R_drew)); exact HO_5.out⟩, ⟨by (with_reducible repeat (first | refine blk_drewN ?_ _ | refine blk_drew ?_ | refine blk_alloc ?_ _)); exact BK562.out⟩, ⟨by repeat (first | (with_reducible first | exact HB.out | apply below_alloc | apply pw_below_drewN | apply below_drew1 | refine below_set ?_ GE562.out) | exact HB.out)⟩⟩
                                        · rw [if_neg c50] at H
                                          exact absurd H (by simp)
                                      · rw [if_neg c49] at H
                                        exact absurd H (by simp)
                                  · rw [if_neg c45] at H
                                    exact absurd H (by simp)
                                · rw [if_neg c44] at H
                                  exact absurd H (by simp)
                        · rw [if_neg c23] at H
                          exact absurd H (by simp)
                      · rw [if_neg c22] at H
                        have c22b0 : decide (x8_2 < ((rd_L1 l0_0 x6_1).length : Int)) = false := decide_eq_false c22
                        clear c22
                        by_cases c56 : x6_1 < (x5_1.length : Int)
                        · rw [if_pos c56] at H
                          have c56b0 : decide (x6_1 < (x5_1.length : Int)) = true := decide_eq_true c56
                          clear c56
                          obtain ⟨y573, hy573⟩ : ∃ y_ : List Int, y_ = (x5_1.set (x6_1 : Int).toNat (wrap64 (x7_2 + 1))) := ⟨_, rfl⟩
                          replace H : (spec_LengthsOf.l0 k2 t564 y573 (wrap64 (x6_1 - 1)) l0_0) = some (r1, r2) := by first | (rw [hy573]; with_reducible exact H) | (have H2_ := (Option.bind_some _ _).symm.trans H; rw [hy573]; with_reducible exact H2_) | (have H2_ := (Option.bind_some _ _).symm.trans H; with_reducible exact H2_) | with_reducible exact H | (rw [hy573]; exact H) | exact H
                          have Ny573 := Aside0.mk hy573
                          clear hy573
                          have H' := Aside0.mk H
                          clear H
                          have hcz58_0 : wr.cell? ⟨gb562, 0, none⟩ = some (.slice A0_0 l0_0.length c0_0) := (blk_cell BK562.out 0).trans rfl
                          have hfz58_0 := blk_frozen BK562.out 0
                          have p572 : 0 ≤ (x6_1 : Int) := of_decide_eq_true (by first | (with_reducible assumption) | assumption)
                          have q572 : x6_1 < (l0_0.length : Int) := of_decide_eq_true (by first | (with_reducible assumption) | assumption)
                          obtain ⟨ad572, A572_0, c572_0, e572, hx572_0, hl572_0, hi572_0⟩ := at_L1 HR0_0.out x6_1 p572 q572
                          cases e572
                          replace hx572_0 := (HB.out.cell (World.block_lt_of_cell? w _ hx572_0)).trans hx572_0
                          have HR572_0 := Aside0.mk hi572_0
                          have HC572_0 := Aside0.mk hl572_0
                          clear hi572_0 hl572_0
                          replace p572 := eq_true p572
                          replace q572 := eq_true q572
                          have p57 : 0 ≤ (x6_1 : Int) := of_decide_eq_true (by first | (with_reducible assumption) | assumption)
                          have q57 : (x6_1 : Int) < ((x5_1.length : Int) : Int) := of_decide_eq_true (by first | (with_reducible assumption) | assumption)
                          obtain ⟨go57, co57, eo57, gb57, gl57, cl57, HG57⟩ := Kd.R_form HO_5.out (by omega)
                          (first | cases eo57 | (injection eo57 with ea_ en_ ec_; (first | subst ea_ | (injection ea_ with ea_; subst ea_)); subst ec_; clear en_))
                          have GB57 := Aside0.mk gb57
                          have GG57 := Aside0.mk HG57
                          clear gb57 gl57 HG57
                          obtain ⟨hx57_0, hf57_0⟩ := Kd.R_celln 0 HO_5.out (x6_1 : Int) p57 q57
                          replace p57 := eq_true p57
                          replace q57 := eq_true q57
                          have HP59 := Kd.R_putg HO_5.out (x6_1 : Int) (wrap64 (x7_2 + 1))
                          go_wp2_with (first | ((with_reducible refine gate_store (t := 2) (p := 93) rfl ?_); refine store_event (t := 2) (p := 93) (v := ?vo_w60) (w1 := (wr.setCell ⟨go57, (x6_1 : Int).toNat, none⟩ (.int .i64 (wrap64 (x7_2 + 1))))) ?hg ?ho ?hn ?hr ?_; (case ho => rfl); (case hg => rfl); (case hn => rfl); (case hr => first | (go_simp; done) | (go_simp; rfl)); intro w60 hw; have hg : wr.grownBy w60 (some go57) := (by rw [hw]; exact HP59.2); have hp_ : Kd.R (Kd.int .i64) 2 w60 w.heap.size (fun _ => True) (.slice (some ⟨go57, 0, none⟩) x5_1.length co57) y573 := (by rw [hw, Ny573.out]; exact HP59.1); clear HP59; have n0_ := Aside0.mk (Kd.R_over' (v := (.slice (some ⟨go57, 0, none⟩) x5_1.length co57)) (by (with_reducible repeat (first | apply Kd.R_alloc | apply Kd.R_drewN | apply Kd.R_drew)); exact HO_4.out) (Kd.R_typed HO_5.out) (by decide) hg); have n1_ := Aside0.mk (hp_); have n2_ := Aside0.mk (blk_grown (g := gb562) (o := .cells #[.slice (some ad572) l0_0.length c0_0] 27 (0, 0)) (by (with_reducible repeat (first | refine blk_drewN ?_ _ | refine blk_drew ?_ | refine blk_alloc ?_ _)); exact BK562.out) hg (Kd.R_ne HO_5.out BK562.out (by decide))); have n3_ := Aside0.mk ((by rw [hw]; exact below_set (HB.out) GB57.out : Below w.heap.size w w60)); clear HO_4; clear HO_5; clear BK562; clear HB; have HO_4 := n0_; have HO_5 := n1_; have BK562 := n2_; have HB := n3_; clear n0_ n1_ n2_ n3_; clear hg hw hp_))
                          go_roundg k2
                          case measure => have := HK1.out; have := HK2.out; omega
                          case rel => exact ⟨(y573), (wrap64 (x6_1 - 1)), (by first | rfl | (simp; done) | (simp [*]; done)), H', ⟨by have := HK1.out; have := HK2.out; omega⟩, ⟨by (with_reducible repeat (first | apply Kd.R_alloc | apply Kd.R_drewN | apply Kd.R_drew)); exact HO_4.out⟩, ⟨by (with_reducible repeat (first | apply Kd.R_alloc | apply Kd.R_drewN | apply Kd.R_drew)); exact HO_5.out⟩, ⟨by (with_reducible repeat (first | refine blk_drewN ?_ _ | refine blk_drew ?_ | refine blk_alloc ?_ _)); exact BK562.out⟩, ⟨by repeat (first | (with_reducible first | exact HB.out | apply below_alloc | apply pw_below_drewN | apply below_drew1 | refine below_set ?_ GE562.out) | exact HB.out)⟩⟩
                        · rw [if_neg c56] at H
                          exact absurd H (by simp)
                    · rw [if_neg c21] at H
                      exact absurd H (by simp)
                  · rw [if_neg c20] at H
                    exact absurd H (by simp)
            · rw [if_neg c19] at H
              have c19b0 : decide (0 ≤ x6_1) = false := decide_eq_false c19
              clear c19
              simp only [Option.some.injEq, Prod.mk.injEq] at H
              obtain ⟨rfl, rfl⟩ := H
              go_wp2
              go_ret2
              exact ⟨_, by first | rfl | (simp [errW_none, errW_some] <;> rfl) | (simp [*, errW_none, errW_some] <;> rfl), by (with_reducible repeat (first | apply Kd.R_alloc | apply Kd.R_drewN | apply Kd.R_drew)); exact HO_5.out, by repeat (first | (with_reducible first | exact HB.out | apply below_alloc | apply pw_below_drewN | apply below_drew1 | refine below_set ?_ GE562.out) | exact HB.out)⟩
      · rw [if_neg c7] at H
        exact absurd H (by simp)
    · rw [if_neg c6] at H
      exact absurd H (by simp)
  · replace c3 := Bool.eq_false_iff.mpr c3
    subst c3
    have H1 : (some (([] : List Int), 1)) = some (r1, r2) := by rw [if_neg (show ¬ (false = true) by decide)] at H; exact H
    clear H
    have H := H1
    clear H1
    simp only [Option.some.injEq, Prod.mk.injEq] at H
    obtain ⟨rfl, rfl⟩ := H
    go_enter Try.func46, Try.ntmps46
    go_wp2_with (first | ((with_reducible refine gate_dst (N := 1) rfl ?_); refine box_event ?hg (N := 1) ?hd (cs := #[.slice A0_0 l0_0.length c0_0]) (t := 27) ?hr ?_; (case hd => rfl); (case hg => rfl); (case hr => first | (go_simp; done) | (go_simp; rfl)); intro gb562 hg w61 hbox hb; have n0_ := Aside0.mk (below_step (by repeat (first | (with_reducible first | exact HB.out | apply below_alloc | apply pw_below_drewN | apply below_drew1) | exact HB.out)) hb); have n1_ := Aside0.mk (hbox); have n2_ := Aside0.mk ((by rw [hg]; exact (below_size (by repeat (first | (with_reducible first | exact HB.out | apply below_alloc | apply pw_below_drewN | apply below_drew1) | exact HB.out))) : w.heap.size ≤ gb562)); have n3_ := Aside0.mk ((by rw [hg]; exact (below_size (by repeat (first | (with_reducible first | exact HB.out | apply below_alloc | apply pw_below_drewN | apply below_drew1) | exact HB.out))) : w.heap.size ≤ gb562)); clear HB; have HB := n0_; have BK562 := n1_; have GW562 := n2_; have GE562 := n3_; clear n0_ n1_ n2_ n3_; clear hb hbox hg; have hcz62_0 : w61.cell? ⟨gb562, 0, none⟩ = some (.slice A0_0 l0_0.length c0_0) := (blk_cell BK562.out 0).trans rfl; have hfz62_0 := blk_frozen BK562.out 0) | ((with_reducible refine gate_callee (f := 52) rfl ?_); refine goesL_ (some 11) rfl rfl Try.func52 (by kernel_rfl) rfl #[.agg #[.slice A0_0 l0_0.length c0_0]] rfl (by (try simp only [List.map_toArray, List.map_cons, List.map_nil]); first | done | rfl | (simp only [List.length_drop, List.length_take]; rfl)) ?_; (with_reducible refine (spec_l01Is.calls k _ _ l0_0 false _ ?side1 ?side2 A2.out).mono ?_); (case side1 => repeat (first | exact (Kd.C_below HR0_0.out HB.out) | (with_reducible refine Kd.C_alloc ?_ _) | (with_reducible refine Kd.C_drewN ?_ _) | (with_reducible refine Kd.C_drew ?_))); (case side2 => exact HC0_0.out); rintro e w63 ⟨rfl, hb⟩; refine ⟨_, rfl, ?_⟩; have n0_ := Aside0.mk (blk_below (g := gb562) (o := .cells #[.slice A0_0 l0_0.length c0_0] 27 (0, 0)) (by (with_reducible repeat (first | refine blk_drewN ?_ _ | refine blk_drew ?_ | refine blk_alloc ?_ _)); exact BK562.out) hb); have n1_ := Aside0.mk (below_step (by repeat (first | (with_reducible first | exact HB.out | apply below_alloc | apply pw_below_drewN | apply below_drew1 | refine below_set ?_ GE562.out) | exact HB.out)) hb); clear BK562; clear HB; have BK562 := n0_; have HB := n1_; clear n0_ n1_; (try clear hb); (try clear hb2); (try clear hk); (try clear hi)))
    go_ret2
    exact ⟨_, by first | rfl | (simp [errW_none, errW_some] <;> rfl) | (simp [*, errW_none, errW_some] <;> rfl), by first | exact Kd.R_nil _ _ _ _ _ | exact Kd.N_nil _ _ _ _ _ | exact Kd.V_nil _ _ _ _ _ | exact Kd.Q_nil _ _ _ _ _ | exact Kd.S_nil _ _ _ _ _, by repeat (first | (with_reducible first | exact HB.out | apply below_alloc | apply pw_below_drewN | apply below_drew1 | refine below_set ?_ GE562.out) | exact HB.out)⟩

end Go.Proofs.Ytlicbcaloebhlaa.PX
