/- Part 5 of the texts under the row of FnExactGameText (no condition). -/
import Derived.Test.YthcnblclmlkoiaaDoorPk4FnExactGameText
namespace Go.Proofs.YthcnblclmlkoiaaDoor.PX
open Go.RowKit Go.Proofs.YthcnblclmlkoiaaDoorW.PrintWords Go.Proofs.YthcnblclmlkoiaaDoorW.PrintLast Go.Proofs.YthcnblclmlkoiaaDoorW.PrintMore
attribute [local go_sem] max2_int min2_int max_two min_two max_three min_three max_four min_four   -- for this text's walks alone
set_option linter.unusedVariables false
set_option linter.unusedSimpArgs false

/-! ### impl_IsGame: function 35 -/
def impl_IsGame.l0 : Nat → Int → List (List Int) → Int → Int → Option (Bool)
  | 0, _, _, _, _ => none
  | k + 1, x3, x10, x11, x12 => if x12 < x11 then (if 0 ≤ x12 then (if x12 < (x10.length : Int) then ((impl_isRising.f k (rd_L3 x10 x12) (wrap64 (x12 + 1)) (wrap64 (x3 - 1))).bind fun t291 => (if t291 = true then (impl_IsGame.l0 k x3 x10 x11 (wrap64 (x12 + 1))) else (some false))) else (none)) else (none)) else ((impl_within.f x3 1 40).bind fun t292 => (some t292))
def impl_IsGame.f (k : Nat) (l0_0 : List (List Int)) : Option (Bool) := (impl_size_int64.f l0_0).bind fun t289 => (impl_IsGame.l0 k t289 l0_0 (l0_0.length : Int) 0)
theorem impl_IsGame.mono_l : ∀ k, (∀ y0 y1 y2 y3, LeO (impl_IsGame.l0 k y0 y1 y2 y3) (impl_IsGame.l0 (k + 1) y0 y1 y2 y3))
  | 0 => fun _ _ _ _ r h => by simp [impl_IsGame.l0] at h
  | k + 1 => by
    have ih0 := impl_IsGame.mono_l k
    · intro y0 y1 y2 y3
      unfold impl_IsGame.l0
      repeat' first
      | (with_reducible exact ih0 _ _ _ _)
      | (with_reducible exact impl_isRising.mono _ _ _ _)
      | (with_reducible exact LeO.refl _)
      | (with_reducible exact LeO.none _)
      | (with_reducible refine LeO.ite ?_ ?_)
      | (with_reducible refine LeO.bind ?_ (fun _ => ?_))
      | exact ih0 _ _ _ _
      | exact impl_isRising.mono _ _ _ _
      | exact LeO.none _
      | refine LeO.ite ?_ ?_
      | refine LeO.bind ?_ (fun _ => ?_)
theorem impl_IsGame.mono : ∀ a0 k, LeO (impl_IsGame.f k a0) (impl_IsGame.f (k + 1) a0) := by
  intro a0 k
  have ih0 := impl_IsGame.mono_l k
  unfold impl_IsGame.f
  repeat' first
      | (with_reducible exact ih0 _ _ _ _)
      | (with_reducible exact impl_isRising.mono _ _ _ _)
      | (with_reducible exact LeO.refl _)
      | (with_reducible exact LeO.none _)
      | (with_reducible refine LeO.ite ?_ ?_)
      | (with_reducible refine LeO.bind ?_ (fun _ => ?_))
      | exact ih0 _ _ _ _
      | exact impl_isRising.mono _ _ _ _
      | exact LeO.none _
      | refine LeO.ite ?_ ?_
      | refine LeO.bind ?_ (fun _ => ?_)
set_option maxHeartbeats 8000000 in
set_option maxRecDepth 100000 in
theorem impl_IsGame.calls (k : Nat) (A0_0 : Option Addr) (c0_0 : Nat) (l0_0 : List (List Int)) (r : Bool) (w : World) (hr0_0 : Kd.C (Kd.slice 2 (Kd.int .i64)) w A0_0 l0_0.length l0_0) (hc0_0 : l0_0.length ≤ c0_0) (h : impl_IsGame.f k l0_0 = some r) :
    Calls Tryd.prog 35 #[.agg #[.slice A0_0 l0_0.length c0_0]] w fun e w' => e = .returned (.bool r) ∧ Below w.heap.size w w' := by
  have hu43 := Tryd.underlying43
  have HR0_0 := Aside0.mk hr0_0
  have HC0_0 := Aside0.mk hc0_0
  clear hr0_0 hc0_0
  have HB := Aside0.mk (Below.refl w.heap.size w)
  have H : ((impl_size_int64.f l0_0).bind fun t289 => (impl_IsGame.l0 k t289 l0_0 (l0_0.length : Int) 0)) = some r := h
  clear h
  replace H := Option.bind_eq_some_iff.mp H
  obtain ⟨t289, A20, H⟩ := H
  replace H : (impl_IsGame.l0 k t289 l0_0 (l0_0.length : Int) 0) = some r := H
  have A2 := Aside0.mk A20
  clear A20
  have H' := Aside0.mk H
  clear H
  go_enter Tryd.func35, Tryd.ntmps35
  go_wp2_with (first | ((with_reducible refine gate_dst (N := 1) rfl ?_); refine box_event ?hg (N := 1) ?hd (cs := #[.slice A0_0 l0_0.length c0_0]) (t := 43) ?hr ?_; (case hd => rfl); (case hg => rfl); (case hr => first | (go_simp; done) | (go_simp; rfl)); intro gb288 hg w3 hbox hb; have n0_ := Aside0.mk (below_step (by repeat (first | (with_reducible first | exact HB.out | apply below_alloc | apply pw_below_drewN | apply below_drew1) | exact HB.out)) hb); have n1_ := Aside0.mk (hbox); have n2_ := Aside0.mk ((by rw [hg]; exact (below_size (by repeat (first | (with_reducible first | exact HB.out | apply below_alloc | apply pw_below_drewN | apply below_drew1) | exact HB.out))) : w.heap.size ≤ gb288)); have n3_ := Aside0.mk ((by rw [hg]; exact (below_size (by repeat (first | (with_reducible first | exact HB.out | apply below_alloc | apply pw_below_drewN | apply below_drew1) | exact HB.out))) : w.heap.size ≤ gb288)); clear HB; have HB := n0_; have BK288 := n1_; have GW288 := n2_; have GE288 := n3_; clear n0_ n1_ n2_ n3_; clear hb hbox hg; have hcz4_0 : w3.cell? ⟨gb288, 0, none⟩ = some (.slice A0_0 l0_0.length c0_0) := (blk_cell BK288.out 0).trans rfl; have hfz4_0 := blk_frozen BK288.out 0) | ((with_reducible refine gate_callee (f := 46) rfl ?_); refine goesL_ (some 8) rfl rfl Tryd.func46 (by kernel_rfl) rfl #[.slice A0_0 l0_0.length c0_0] rfl (by (try simp only [List.map_toArray, List.map_cons, List.map_nil]); first | done | rfl | (simp only [List.length_drop, List.length_take]; rfl)) ?_; (with_reducible refine (impl_size_int64.calls _ _ l0_0 t289 _ ?side1 ?side2 A2.out).mono ?_); (case side1 => repeat (first | exact (Kd.C_below HR0_0.out HB.out) | (with_reducible refine Kd.C_alloc ?_ _) | (with_reducible refine Kd.C_drewN ?_ _) | (with_reducible refine Kd.C_drew ?_))); (case side2 => exact HC0_0.out); rintro e w' ⟨rfl, ⟨nd, rfl⟩⟩; refine ⟨_, rfl, ?_⟩))
  go_loopg [12] k (fun kq v12 w' => ∃ (x12_1 : Int), v12 = .int .i64 x12_1 ∧ Aside0 (impl_IsGame.l0 kq t289 l0_0 (l0_0.length : Int) x12_1 = some r) ∧ Aside0 (kq ≤ k) ∧ Aside0 (w'.heap[gb288]? = some (.cells #[(.slice A0_0 l0_0.length c0_0)] 43 (0, 0))) ∧ Aside0 (Below w.heap.size w w'))
  case atStart => exact ⟨(0), (by first | rfl | (simp; done) | (simp [*]; done)), H', ⟨Nat.le_refl _⟩, ⟨by (with_reducible repeat (first | refine blk_drewN ?_ _ | refine blk_drew ?_ | refine blk_alloc ?_ _)); exact BK288.out⟩, ⟨by repeat (first | (with_reducible first | exact HB.out | apply below_alloc | apply pw_below_drewN | apply below_drew1 | refine below_set ?_ GE288.out) | exact HB.out)⟩⟩
  case round =>
    clear H'
    try clear p2
    try clear c3
    try clear c4
    try clear hcz4_0
    try clear hfz4_0
    obtain ⟨x12_1, rfl, HA, HK1, BK288, HB⟩ := hrel
    cases gk with
    | zero => exact absurd HA.out (by simp [impl_IsGame.l0])
    | succ k1 =>
      have H := HA.out
      clear HA
      simp only [impl_IsGame.l0] at H
      by_cases c5 : x12_1 < (l0_0.length : Int)
      · rw [if_pos c5] at H
        have c5b0 : decide (x12_1 < (l0_0.length : Int)) = true := decide_eq_true c5
        clear c5
        by_cases c6 : 0 ≤ x12_1
        · rw [if_pos c6] at H
          have c6b0 : decide (0 ≤ x12_1) = true := decide_eq_true c6
          clear c6
          by_cases c7 : x12_1 < (l0_0.length : Int)
          · rw [if_pos c7] at H
            have c7b0 : decide (x12_1 < (l0_0.length : Int)) = true := decide_eq_true c7
            clear c7
            replace H := Option.bind_eq_some_iff.mp H
            obtain ⟨t291, A80, H⟩ := H
            replace H : (if t291 = true then (impl_IsGame.l0 k1 t289 l0_0 (l0_0.length : Int) (wrap64 (x12_1 + 1))) else (some false)) = some r := H
            have A8 := Aside0.mk A80
            clear A80
            by_cases c9 : t291 = true
            · subst c9
              have H1 : (impl_IsGame.l0 k1 t289 l0_0 (l0_0.length : Int) (wrap64 (x12_1 + 1))) = some r := by rw [if_pos rfl] at H; exact H
              clear H
              have H := H1
              clear H1
              have H' := Aside0.mk H
              clear H
              have p290 : 0 ≤ (x12_1 : Int) := of_decide_eq_true (by first | (with_reducible assumption) | assumption)
              have q290 : x12_1 < (l0_0.length : Int) := of_decide_eq_true (by first | (with_reducible assumption) | assumption)
              obtain ⟨ad290, A290_0, c290_0, e290, hx290_0, hl290_0, hi290_0⟩ := at_L3 HR0_0.out x12_1 p290 q290
              cases e290
              replace hx290_0 := (HB.out.cell (World.block_lt_of_cell? w _ hx290_0)).trans hx290_0
              have HR290_0 := Aside0.mk hi290_0
              have HC290_0 := Aside0.mk hl290_0
              clear hi290_0 hl290_0
              replace p290 := eq_true p290
              replace q290 := eq_true q290
              go_wp2_with (first | ((with_reducible refine gate_callee (f := 47) rfl ?_); refine goesL_ (some 22) rfl rfl Tryd.func47 (by kernel_rfl) rfl #[.slice A290_0 (rd_L3 l0_0 x12_1).length c290_0, .int .i64 (wrap64 (x12_1 + 1)), .int .i64 (wrap64 (t289 - 1))] rfl (by (try simp only [List.map_toArray, List.map_cons, List.map_nil]); first | done | rfl | (simp only [List.length_drop, List.length_take]; rfl)) ?_; (with_reducible refine (impl_isRising.calls k1 _ _ (rd_L3 l0_0 x12_1) (wrap64 (x12_1 + 1)) (wrap64 (t289 - 1)) true _ ?side1 ?side2 A8.out).mono ?_); (case side1 => repeat (first | exact (Kd.C_below HR290_0.out HB.out) | (with_reducible refine Kd.C_alloc ?_ _) | (with_reducible refine Kd.C_drewN ?_ _) | (with_reducible refine Kd.C_drew ?_))); (case side2 => exact HC290_0.out); rintro e w' ⟨rfl, ⟨nd, rfl⟩⟩; refine ⟨_, rfl, ?_⟩))
              go_roundg k1
              case measure => have := HK1.out; omega
              case rel => exact ⟨(wrap64 (x12_1 + 1)), (by first | rfl | (simp; done) | (simp [*]; done)), H', ⟨by have := HK1.out; omega⟩, ⟨by (with_reducible repeat (first | refine blk_drewN ?_ _ | refine blk_drew ?_ | refine blk_alloc ?_ _)); exact BK288.out⟩, ⟨by repeat (first | (with_reducible first | exact HB.out | apply below_alloc | apply pw_below_drewN | apply below_drew1 | refine below_set ?_ GE288.out) | exact HB.out)⟩⟩
            · replace c9 := Bool.eq_false_iff.mpr c9
              subst c9
              have H1 : (some false) = some r := by rw [if_neg (show ¬ (false = true) by decide)] at H; exact H
              clear H
              have H := H1
              clear H1
              obtain rfl := Option.some.inj H
              have p290 : 0 ≤ (x12_1 : Int) := of_decide_eq_true (by first | (with_reducible assumption) | assumption)
              have q290 : x12_1 < (l0_0.length : Int) := of_decide_eq_true (by first | (with_reducible assumption) | assumption)
              obtain ⟨ad290, A290_0, c290_0, e290, hx290_0, hl290_0, hi290_0⟩ := at_L3 HR0_0.out x12_1 p290 q290
              cases e290
              replace hx290_0 := (HB.out.cell (World.block_lt_of_cell? w _ hx290_0)).trans hx290_0
              have HR290_0 := Aside0.mk hi290_0
              have HC290_0 := Aside0.mk hl290_0
              clear hi290_0 hl290_0
              replace p290 := eq_true p290
              replace q290 := eq_true q290
              go_wp2_with (first | ((with_reducible refine gate_callee (f := 47) rfl ?_); refine goesL_ (some 22) rfl rfl Tryd.func47 (by kernel_rfl) rfl #[.slice A290_0 (rd_L3 l0_0 x12_1).length c290_0, .int .i64 (wrap64 (x12_1 + 1)), .int .i64 (wrap64 (t289 - 1))] rfl (by (try simp only [List.map_toArray, List.map_cons, List.map_nil]); first | done | rfl | (simp only [List.length_drop, List.length_take]; rfl)) ?_; (with_reducible refine (impl_isRising.calls k1 _ _ (rd_L3 l0_0 x12_1) (wrap64 (x12_1 + 1)) (wrap64 (t289 - 1)) false _ ?side1 ?side2 A8.out).mono ?_); (case side1 => repeat (first | exact (Kd.C_below HR290_0.out HB.out) | (with_reducible refine Kd.C_alloc ?_ _) | (with_reducible refine Kd.C_drewN ?_ _) | (with_reducible refine Kd.C_drew ?_))); (case side2 => exact HC290_0.out); rintro e w' ⟨rfl, ⟨nd, rfl⟩⟩; refine ⟨_, rfl, ?_⟩))
              go_ret
              exact ⟨by first | rfl | (simp [errW_none, errW_some] <;> rfl) | (simp [*, errW_none, errW_some] <;> rfl), by repeat (first | (with_reducible first | exact HB.out | apply below_alloc | apply pw_below_drewN | apply below_drew1 | refine below_set ?_ GE288.out) | exact HB.out)⟩
          · rw [if_neg c7] at H
            exact absurd H (by simp)
        · rw [if_neg c6] at H
          exact absurd H (by simp)
      · rw [if_neg c5] at H
        have c5b0 : decide (x12_1 < (l0_0.length : Int)) = false := decide_eq_false c5
        clear c5
        replace H := Option.bind_eq_some_iff.mp H
        obtain ⟨t292, A100, H⟩ := H
        replace H : (some t292) = some r := H
        have A10 := Aside0.mk A100
        clear A100
        obtain rfl := Option.some.inj H
        go_wp2_with (first | ((with_reducible refine gate_callee (f := 41) rfl ?_); refine goesL_ (some 26) rfl rfl Tryd.func41 (by kernel_rfl) rfl #[.int .i64 t289, .int .i64 1, .int .i64 40] rfl (by (try simp only [List.map_toArray, List.map_cons, List.map_nil]); first | done | rfl | (simp only [List.length_drop, List.length_take]; rfl)) ?_; (with_reducible refine (impl_within.calls t289 1 40 t292 _ A10.out).mono ?_); rintro e w' ⟨rfl, ⟨nd, rfl⟩⟩; refine ⟨_, rfl, ?_⟩))
        go_ret
        exact ⟨by first | rfl | (simp [errW_none, errW_some] <;> rfl) | (simp [*, errW_none, errW_some] <;> rfl), by repeat (first | (with_reducible first | exact HB.out | apply below_alloc | apply pw_below_drewN | apply below_drew1 | refine below_set ?_ GE288.out) | exact HB.out)⟩

/-! ### impl_GameText: function 17 -/
def impl_GameText.l0 : Nat → List ByteArray → List (List Int) → Int → Int → Option (ByteArray × Int)
  | 0, _, _, _, _ => none
  | k + 1, x4, x12, x13, x14 => if x14 < x13 then (if 0 ≤ x14 then (if x14 < (x12.length : Int) then ((impl_joined.f k (rd_L3 x12 x14) (⟨#[46]⟩ : ByteArray)).bind fun t299 => (if x4.length < 8796093022208 then (impl_GameText.l0 k (x4 ++ [t299]) x12 x13 (wrap64 (x14 + 1))) else (none))) else (none)) else (none)) else ((strings_Join.f x4 (⟨#[44]⟩ : ByteArray)).bind fun t303 => (some (t303, 0)))
def impl_GameText.f (k : Nat) (l0_0 : List (List Int)) : Option (ByteArray × Int) := (impl_IsGame.f k l0_0).bind fun t294 => (if t294 = true then (impl_GameText.l0 k (([] : List ByteArray)) l0_0 (l0_0.length : Int) 0) else (some ((⟨#[]⟩ : ByteArray), 1)))
theorem impl_GameText.mono_l : ∀ k, (∀ y0 y1 y2 y3, LeO (impl_GameText.l0 k y0 y1 y2 y3) (impl_GameText.l0 (k + 1) y0 y1 y2 y3))
  | 0 => fun _ _ _ _ r h => by simp [impl_GameText.l0] at h
  | k + 1 => by
    have ih0 := impl_GameText.mono_l k
    · intro y0 y1 y2 y3
      unfold impl_GameText.l0
      repeat' first
      | (with_reducible exact ih0 _ _ _ _)
      | (with_reducible exact impl_IsGame.mono _ _)
      | (with_reducible exact impl_joined.mono _ _ _)
      | (with_reducible exact LeO.refl _)
      | (with_reducible exact LeO.none _)
      | (with_reducible refine LeO.ite ?_ ?_)
      | (with_reducible refine LeO.bind ?_ (fun _ => ?_))
      | exact ih0 _ _ _ _
      | exact impl_IsGame.mono _ _
      | exact impl_joined.mono _ _ _
      | exact LeO.none _
      | refine LeO.ite ?_ ?_
      | refine LeO.bind ?_ (fun _ => ?_)
theorem impl_GameText.mono : ∀ a0 k, LeO (impl_GameText.f k a0) (impl_GameText.f (k + 1) a0) := by
  intro a0 k
  have ih0 := impl_GameText.mono_l k
  unfold impl_GameText.f
  repeat' first
      | (with_reducible exact ih0 _ _ _ _)
      | (with_reducible exact impl_IsGame.mono _ _)
      | (with_reducible exact impl_joined.mono _ _ _)
      | (with_reducible exact LeO.refl _)
      | (with_reducible exact LeO.none _)
      | (with_reducible refine LeO.ite ?_ ?_)
      | (with_reducible refine LeO.bind ?_ (fun _ => ?_))
      | exact ih0 _ _ _ _
      | exact impl_IsGame.mono _ _
      | exact impl_joined.mono _ _ _
      | exact LeO.none _
      | refine LeO.ite ?_ ?_
      | refine LeO.bind ?_ (fun _ => ?_)
set_option maxHeartbeats 8000000 in
set_option maxRecDepth 100000 in
theorem impl_GameText.calls (k : Nat) (A0_0 : Option Addr) (c0_0 : Nat) (l0_0 : List (List Int)) (r1 : ByteArray) (r2 : Int) (w : World) (hr0_0 : Kd.C (Kd.slice 2 (Kd.int .i64)) w A0_0 l0_0.length l0_0) (hc0_0 : l0_0.length ≤ c0_0) (h : impl_GameText.f k l0_0 = some (r1, r2)) :
    Calls Tryd.prog 17 #[.agg #[.slice A0_0 l0_0.length c0_0]] w fun e w' => e = .returned (.tuple #[.string r1, .int .i64 r2]) ∧ Below w.heap.size w w' := by
  have hu43 := Tryd.underlying43
  have HR0_0 := Aside0.mk hr0_0
  have HC0_0 := Aside0.mk hc0_0
  clear hr0_0 hc0_0
  have HB := Aside0.mk (Below.refl w.heap.size w)
  have H : ((impl_IsGame.f k l0_0).bind fun t294 => (if t294 = true then (impl_GameText.l0 k (([] : List ByteArray)) l0_0 (l0_0.length : Int) 0) else (some ((⟨#[]⟩ : ByteArray), 1)))) = some (r1, r2) := h
  clear h
  replace H := Option.bind_eq_some_iff.mp H
  obtain ⟨t294, A20, H⟩ := H
  replace H : (if t294 = true then (impl_GameText.l0 k (([] : List ByteArray)) l0_0 (l0_0.length : Int) 0) else (some ((⟨#[]⟩ : ByteArray), 1))) = some (r1, r2) := H
  have A2 := Aside0.mk A20
  clear A20
  by_cases c3 : t294 = true
  · subst c3
    have H1 : (impl_GameText.l0 k (([] : List ByteArray)) l0_0 (l0_0.length : Int) 0) = some (r1, r2) := by rw [if_pos rfl] at H; exact H
    clear H
    have H := H1
    clear H1
    obtain ⟨y295, hy295⟩ : ∃ y_ : List ByteArray, y_ = (([] : List ByteArray)) := ⟨_, rfl⟩
    replace H : (impl_GameText.l0 k y295 l0_0 (l0_0.length : Int) 0) = some (r1, r2) := by first | (rw [hy295]; with_reducible exact H) | (have H2_ := (Option.bind_some _ _).symm.trans H; rw [hy295]; with_reducible exact H2_) | (have H2_ := (Option.bind_some _ _).symm.trans H; with_reducible exact H2_) | with_reducible exact H | (rw [hy295]; exact H) | exact H
    have Ny295 := Aside0.mk hy295
    clear hy295
    have H' := Aside0.mk H
    clear H
    go_enter Tryd.func17, Tryd.ntmps17
    go_wp2_with (first | ((with_reducible refine gate_dst (N := 1) rfl ?_); refine box_event ?hg (N := 1) ?hd (cs := #[.slice A0_0 l0_0.length c0_0]) (t := 43) ?hr ?_; (case hd => rfl); (case hg => rfl); (case hr => first | (go_simp; done) | (go_simp; rfl)); intro gb293 hg w4 hbox hb; have n0_ := Aside0.mk (below_step (by repeat (first | (with_reducible first | exact HB.out | apply below_alloc | apply pw_below_drewN | apply below_drew1) | exact HB.out)) hb); have n1_ := Aside0.mk (hbox); have n2_ := Aside0.mk ((by rw [hg]; exact (below_size (by repeat (first | (with_reducible first | exact HB.out | apply below_alloc | apply pw_below_drewN | apply below_drew1) | exact HB.out))) : w.heap.size ≤ gb293)); have n3_ := Aside0.mk ((by rw [hg]; exact (below_size (by repeat (first | (with_reducible first | exact HB.out | apply below_alloc | apply pw_below_drewN | apply below_drew1) | exact HB.out))) : w.heap.size ≤ gb293)); clear HB; have HB := n0_; have BK293 := n1_; have GW293 := n2_; have GE293 := n3_; clear n0_ n1_ n2_ n3_; clear hb hbox hg; have hcz5_0 : w4.cell? ⟨gb293, 0, none⟩ = some (.slice A0_0 l0_0.length c0_0) := (blk_cell BK293.out 0).trans rfl; have hfz5_0 := blk_frozen BK293.out 0) | ((with_reducible refine gate_callee (f := 35) rfl ?_); refine goesL_ (some 8) rfl rfl Tryd.func35 (by kernel_rfl) rfl #[.agg #[.slice A0_0 l0_0.length c0_0]] rfl (by (try simp only [List.map_toArray, List.map_cons, List.map_nil]); first | done | rfl | (simp only [List.length_drop, List.length_take]; rfl)) ?_; (with_reducible refine (impl_IsGame.calls k _ _ l0_0 true _ ?side1 ?side2 A2.out).mono ?_); (case side1 => repeat (first | exact (Kd.C_below HR0_0.out HB.out) | (with_reducible refine Kd.C_alloc ?_ _) | (with_reducible refine Kd.C_drewN ?_ _) | (with_reducible refine Kd.C_drew ?_))); (case side2 => exact HC0_0.out); rintro e w6 ⟨rfl, hb⟩; refine ⟨_, rfl, ?_⟩; have n0_ := Aside0.mk (blk_below (g := gb293) (o := .cells #[.slice A0_0 l0_0.length c0_0] 43 (0, 0)) (by (with_reducible repeat (first | refine blk_drewN ?_ _ | refine blk_drew ?_ | refine blk_alloc ?_ _)); exact BK293.out) hb); have n1_ := Aside0.mk (below_step (by repeat (first | (with_reducible first | exact HB.out | apply below_alloc | apply pw_below_drewN | apply below_drew1 | refine below_set ?_ GE293.out) | exact HB.out)) hb); clear BK293; clear HB; have BK293 := n0_; have HB := n1_; clear n0_ n1_; (try clear hb); (try clear hb2); (try clear hk); (try clear hi)) | ((with_reducible refine gate_dst (N := 10) rfl ?_); refine Kd.R_lit Kd.string _ 9 ?hg (N := 10) ?hd (xs := ([] : List ByteArray)) (inner := []) (ok := fun _ => True) (okp := fun _ => True) ?hr ?hp (fun _ hk => hk) trivial (Below.refl _ _) (Nat.le_refl _) (by simp) ?_; (case hd => rfl); (case hg => rfl); (case hr => first | (go_simp; done) | (go_simp; rfl)); (case hp => exact (Reps.none _ _)); intro v296 w7 ho8 hb hg_ hnew_; clear hg_ hnew_; (first | rw [← Ny295.out] at ho8 | (simp only [Int.reduceToNat] at ho8; rw [← Ny295.out] at ho8)); have n0_ := Aside0.mk (Kd.R_lower ho8 (below_size (by repeat (first | (with_reducible first | exact HB.out | apply below_alloc | apply pw_below_drewN | apply below_drew1 | refine below_set ?_ GE293.out) | exact HB.out)))); have n1_ := Aside0.mk (blk_below (g := gb293) (o := .cells #[.slice A0_0 l0_0.length c0_0] 43 (0, 0)) (by (with_reducible repeat (first | refine blk_drewN ?_ _ | refine blk_drew ?_ | refine blk_alloc ?_ _)); exact BK293.out) hb); have n2_ := Aside0.mk (below_step (by repeat (first | (with_reducible first | exact HB.out | apply below_alloc | apply pw_below_drewN | apply below_drew1 | refine below_set ?_ GE293.out) | exact HB.out)) hb); clear BK293; clear HB; have HO297 := n0_; have BK293 := n1_; have HB := n2_; clear n0_ n1_ n2_; clear hb ho8; have hcz9_0 : w7.cell? ⟨gb293, 0, none⟩ = some (.slice A0_0 l0_0.length c0_0) := (blk_cell BK293.out 0).trans rfl; have hfz9_0 := blk_frozen BK293.out 0))
    go_loopg [4, 14] k (fun kq v4 v14 w' => ∃ (x4_1 : List ByteArray) (x14_1 : Int), v14 = .int .i64 x14_1 ∧ Aside0 (impl_GameText.l0 kq x4_1 l0_0 (l0_0.length : Int) x14_1 = some (r1, r2)) ∧ Aside0 (kq ≤ k) ∧ Aside0 (Kd.R Kd.string 9 w' w.heap.size (fun _ => True) v4 x4_1) ∧ Aside0 (w'.heap[gb293]? = some (.cells #[(.slice A0_0 l0_0.length c0_0)] 43 (0, 0))) ∧ Aside0 (Below w.heap.size w w'))
    case atStart => exact ⟨(y295), (0), (by first | rfl | (simp; done) | (simp [*]; done)), H', ⟨Nat.le_refl _⟩, ⟨by (with_reducible repeat (first | apply Kd.R_alloc | apply Kd.R_drewN | apply Kd.R_drew)); exact HO297.out⟩, ⟨by (with_reducible repeat (first | refine blk_drewN ?_ _ | refine blk_drew ?_ | refine blk_alloc ?_ _)); exact BK293.out⟩, ⟨by repeat (first | (with_reducible first | exact HB.out | apply below_alloc | apply pw_below_drewN | apply below_drew1 | refine below_set ?_ GE293.out) | exact HB.out)⟩⟩
    case round =>
      clear H'
      try clear c1
      try clear p2
      try clear c3
      try clear hcz5_0
      try clear hcz9_0
      try clear hfz5_0
      try clear hfz9_0
      obtain ⟨x4_1, x14_1, rfl, HA, HK1, HO_4, BK293, HB⟩ := hrel
      cases gk with
      | zero => exact absurd HA.out (by simp [impl_GameText.l0])
      | succ k1 =>
        have H := HA.out
        clear HA
        simp only [impl_GameText.l0] at H
        by_cases c10 : x14_1 < (l0_0.length : Int)
        · rw [if_pos c10] at H
          have c10b0 : decide (x14_1 < (l0_0.length : Int)) = true := decide_eq_true c10
          clear c10
          by_cases c11 : 0 ≤ x14_1
          · rw [if_pos c11] at H
            have c11b0 : decide (0 ≤ x14_1) = true := decide_eq_true c11
            clear c11
            by_cases c12 : x14_1 < (l0_0.length : Int)
            · rw [if_pos c12] at H
              have c12b0 : decide (x14_1 < (l0_0.length : Int)) = true := decide_eq_true c12
              clear c12
              replace H := Option.bind_eq_some_iff.mp H
              obtain ⟨t299, A130, H⟩ := H
              replace H : (if x4_1.length < 8796093022208 then (impl_GameText.l0 k1 (x4_1 ++ [t299]) l0_0 (l0_0.length : Int) (wrap64 (x14_1 + 1))) else (none)) = some (r1, r2) := H
              have A13 := Aside0.mk A130
              clear A130
              by_cases c14 : x4_1.length < 8796093022208
              · rw [if_pos c14] at H
                have LMc14 := Aside0.mk c14
                clear c14
                obtain ⟨y300, hy300⟩ : ∃ y_ : List ByteArray, y_ = (x4_1 ++ [t299]) := ⟨_, rfl⟩
                replace H : (impl_GameText.l0 k1 y300 l0_0 (l0_0.length : Int) (wrap64 (x14_1 + 1))) = some (r1, r2) := by first | (rw [hy300]; with_reducible exact H) | (have H2_ := (Option.bind_some _ _).symm.trans H; rw [hy300]; with_reducible exact H2_) | (have H2_ := (Option.bind_some _ _).symm.trans H; with_reducible exact H2_) | with_reducible exact H | (rw [hy300]; exact H) | exact H
                have Ny300 := Aside0.mk hy300
                clear hy300
                have H' := Aside0.mk H
                clear H
                have p298 : 0 ≤ (x14_1 : Int) := of_decide_eq_true (by first | (with_reducible assumption) | assumption)
                have q298 : x14_1 < (l0_0.length : Int) := of_decide_eq_true (by first | (with_reducible assumption) | assumption)
                obtain ⟨ad298, A298_0, c298_0, e298, hx298_0, hl298_0, hi298_0⟩ := at_L3 HR0_0.out x14_1 p298 q298
                cases e298
                replace hx298_0 := (HB.out.cell (World.block_lt_of_cell? w _ hx298_0)).trans hx298_0
                have HR298_0 := Aside0.mk hi298_0
                have HC298_0 := Aside0.mk hl298_0
                clear hi298_0 hl298_0
                replace p298 := eq_true p298
                replace q298 := eq_true q298
                go_wp2_with (first | ((with_reducible refine gate_callee (f := 29) rfl ?_); refine goesL_ (some 20) rfl rfl Tryd.func29 (by kernel_rfl) rfl #[.slice A298_0 (rd_L3 l0_0 x14_1).length c298_0, .string (⟨#[46]⟩ : ByteArray)] rfl (by (try simp only [List.map_toArray, List.map_cons, List.map_nil]); first | done | rfl | (simp only [List.length_drop, List.length_take]; rfl)) ?_; (with_reducible refine (impl_joined.calls k1 _ _ (rd_L3 l0_0 x14_1) (⟨#[46]⟩ : ByteArray) t299 _ ?side1 ?side2 A13.out).mono ?_); (case side1 => repeat (first | exact (Kd.C_below HR298_0.out HB.out) | (with_reducible refine Kd.C_alloc ?_ _) | (with_reducible refine Kd.C_drewN ?_ _) | (with_reducible refine Kd.C_drew ?_))); (case side2 => exact HC298_0.out); rintro e w15 ⟨rfl, hb⟩; refine ⟨_, rfl, ?_⟩; have n0_ := Aside0.mk (Kd.R_below (by (with_reducible repeat (first | apply Kd.R_alloc | apply Kd.R_drewN | apply Kd.R_drew)); exact HO_4.out) hb); have n1_ := Aside0.mk (blk_below (g := gb293) (o := .cells #[.slice (some ad298) l0_0.length c0_0] 43 (0, 0)) (by (with_reducible repeat (first | refine blk_drewN ?_ _ | refine blk_drew ?_ | refine blk_alloc ?_ _)); exact BK293.out) hb); have n2_ := Aside0.mk (below_step (by repeat (first | (with_reducible first | exact HB.out | apply below_alloc | apply pw_below_drewN | apply below_drew1 | refine below_set ?_ GE293.out) | exact HB.out)) hb); clear HO_4; clear BK293; clear HB; have HO_4 := n0_; have BK293 := n1_; have HB := n2_; clear n0_ n1_ n2_; (try clear hb); (try clear hb2); (try clear hk); (try clear hi)) | ((with_reducible refine gate_builtin (b := .append) (xs := #[.tmp 18, .tmp 21]) rfl ?_); at_builtin; refine Kd.R_append Kd.string (w0 := w) w.heap.size rfl (.tmp 18) (.tmp 21) 61 9 (.string ⟨#[]⟩) 16 rfl Tryd.underlying61 info9 rfl (by decide) (by omega) u4 x4_1 t299 [.string t299] (fun _ => True) (fun _ => False) rfl rfl ?aP (fun _ hk => hk.elim) ?aF ?aO ?aB ?aS ?aL ?_; (case aP => exact rfl); (case aB => exact (by repeat (first | (with_reducible first | exact HB.out | apply below_alloc | apply pw_below_drewN | apply below_drew1 | refine below_set ?_ GE293.out) | exact HB.out))); (case aF => exact (fun _ _ => trivial)); (case aO => exact (by (with_reducible repeat (first | apply Kd.R_alloc | apply Kd.R_drewN | apply Kd.R_drew)); exact HO_4.out)); (case aS => exact (below_size (by repeat (first | (with_reducible first | exact HB.out | apply below_alloc | apply pw_below_drewN | apply below_drew1 | refine below_set ?_ GE293.out) | exact HB.out)))); (case aL => have := LMc14.out; omega); intro v301 w16 ho hb hg hat; rw [← Ny300.out] at ho; have n0_ := Aside0.mk (blk_grown (g := gb293) (o := .cells #[.slice (some ad298) l0_0.length c0_0] 43 (0, 0)) (by (with_reducible repeat (first | refine blk_drewN ?_ _ | refine blk_drew ?_ | refine blk_alloc ?_ _)); exact BK293.out) hg (Kd.R_ne HO_4.out BK293.out (by decide))); have n1_ := Aside0.mk (hb); have n2_ := Aside0.mk (ho); clear BK293; clear HB; clear HO_4; have BK293 := n0_; have HB := n1_; have HO302 := n2_; clear n0_ n1_ n2_; clear ho hb hg hat))
                go_roundg k1
                case measure => have := HK1.out; omega
                case rel => exact ⟨(y300), (wrap64 (x14_1 + 1)), (by first | rfl | (simp; done) | (simp [*]; done)), H', ⟨by have := HK1.out; omega⟩, ⟨by (with_reducible repeat (first | apply Kd.R_alloc | apply Kd.R_drewN | apply Kd.R_drew)); exact HO302.out⟩, ⟨by (with_reducible repeat (first | refine blk_drewN ?_ _ | refine blk_drew ?_ | refine blk_alloc ?_ _)); exact BK293.out⟩, ⟨by repeat (first | (with_reducible first | exact HB.out | apply below_alloc | apply pw_below_drewN | apply below_drew1 | refine below_set ?_ GE293.out) | exact HB.out)⟩⟩
              · rw [if_neg c14] at H
                exact absurd H (by simp)
            · rw [if_neg c12] at H
              exact absurd H (by simp)
          · rw [if_neg c11] at H
            exact absurd H (by simp)
        · rw [if_neg c10] at H
          have c10b0 : decide (x14_1 < (l0_0.length : Int)) = false := decide_eq_false c10
          clear c10
          replace H := Option.bind_eq_some_iff.mp H
          obtain ⟨t303, A170, H⟩ := H
          replace H : (some (t303, 0)) = some (r1, r2) := H
          have A17 := Aside0.mk A170
          clear A170
          simp only [Option.some.injEq, Prod.mk.injEq] at H
          obtain ⟨rfl, rfl⟩ := H
          obtain ⟨Ao18, co18, eo18⟩ := Kd.R_slice HO_4.out
          subst eo18
          go_wp2_with (first | ((with_reducible refine gate_callee (f := 36) rfl ?_); refine goesL_ (some 25) rfl rfl Tryd.func36 (by kernel_rfl) rfl #[.slice Ao18 x4_1.length co18, .string (⟨#[44]⟩ : ByteArray)] rfl (by (try simp only [List.map_toArray, List.map_cons, List.map_nil]); first | done | rfl | (simp only [List.length_drop, List.length_take]; rfl)) ?_; (with_reducible refine (strings_Join.calls _ _ x4_1 (⟨#[44]⟩ : ByteArray) t303 _ ?side1 ?side2 A17.out).mono ?_); (case side1 => repeat (first | exact (Kd.R_reads' HO_4.out).2.2 | (with_reducible refine Kd.C_alloc ?_ _) | (with_reducible refine Kd.C_drewN ?_ _) | (with_reducible refine Kd.C_drew ?_))); (case side2 => exact (Kd.R_reads' HO_4.out).2.1); rintro e w19 ⟨rfl, hb⟩; refine ⟨_, rfl, ?_⟩; have n0_ := Aside0.mk (Kd.R_below (by (with_reducible repeat (first | apply Kd.R_alloc | apply Kd.R_drewN | apply Kd.R_drew)); exact HO_4.out) hb); have n1_ := Aside0.mk (blk_below (g := gb293) (o := .cells #[.slice A0_0 l0_0.length c0_0] 43 (0, 0)) (by (with_reducible repeat (first | refine blk_drewN ?_ _ | refine blk_drew ?_ | refine blk_alloc ?_ _)); exact BK293.out) hb); have n2_ := Aside0.mk (below_step (by repeat (first | (with_reducible first | exact HB.out | apply below_alloc | apply pw_below_drewN | apply below_drew1 | refine below_set ?_ GE293.out) | exact HB.out)) hb); clear HO_4; clear BK293; clear HB; have HO_4 := n0_; have BK293 := n1_; have HB := n2_; clear n0_ n1_ n2_; (try clear hb); (try clear hb2); (try clear hk); (try clear hi)))
          go_ret2
          exact ⟨by first | rfl | (simp [errW_none, errW_some] <;> rfl) | (simp [*, errW_none, errW_some] <;> rfl), by repeat (first | (with_reducible first | exact HB.out | apply below_alloc | apply pw_below_drewN | apply below_drew1 | refine below_set ?_ GE293.out) | exact HB.out)⟩
  · replace c3 := Bool.eq_false_iff.mpr c3
    subst c3
    have H1 : (some ((⟨#[]⟩ : ByteArray), 1)) = some (r1, r2) := by rw [if_neg (show ¬ (false = true) by decide)] at H; exact H
    clear H
    have H := H1
    clear H1
    simp only [Option.some.injEq, Prod.mk.injEq] at H
    obtain ⟨rfl, rfl⟩ := H
    go_enter Tryd.func17, Tryd.ntmps17
    go_wp2_with (first | ((with_reducible refine gate_dst (N := 1) rfl ?_); refine box_event ?hg (N := 1) ?hd (cs := #[.slice A0_0 l0_0.length c0_0]) (t := 43) ?hr ?_; (case hd => rfl); (case hg => rfl); (case hr => first | (go_simp; done) | (go_simp; rfl)); intro gb293 hg w20 hbox hb; have n0_ := Aside0.mk (below_step (by repeat (first | (with_reducible first | exact HB.out | apply below_alloc | apply pw_below_drewN | apply below_drew1) | exact HB.out)) hb); have n1_ := Aside0.mk (hbox); have n2_ := Aside0.mk ((by rw [hg]; exact (below_size (by repeat (first | (with_reducible first | exact HB.out | apply below_alloc | apply pw_below_drewN | apply below_drew1) | exact HB.out))) : w.heap.size ≤ gb293)); have n3_ := Aside0.mk ((by rw [hg]; exact (below_size (by repeat (first | (with_reducible first | exact HB.out | apply below_alloc | apply pw_below_drewN | apply below_drew1) | exact HB.out))) : w.heap.size ≤ gb293)); clear HB; have HB := n0_; have BK293 := n1_; have GW293 := n2_; have GE293 := n3_; clear n0_ n1_ n2_ n3_; clear hb hbox hg; have hcz21_0 : w20.cell? ⟨gb293, 0, none⟩ = some (.slice A0_0 l0_0.length c0_0) := (blk_cell BK293.out 0).trans rfl; have hfz21_0 := blk_frozen BK293.out 0) | ((with_reducible refine gate_callee (f := 35) rfl ?_); refine goesL_ (some 8) rfl rfl Tryd.func35 (by kernel_rfl) rfl #[.agg #[.slice A0_0 l0_0.length c0_0]] rfl (by (try simp only [List.map_toArray, List.map_cons, List.map_nil]); first | done | rfl | (simp only [List.length_drop, List.length_take]; rfl)) ?_; (with_reducible refine (impl_IsGame.calls k _ _ l0_0 false _ ?side1 ?side2 A2.out).mono ?_); (case side1 => repeat (first | exact (Kd.C_below HR0_0.out HB.out) | (with_reducible refine Kd.C_alloc ?_ _) | (with_reducible refine Kd.C_drewN ?_ _) | (with_reducible refine Kd.C_drew ?_))); (case side2 => exact HC0_0.out); rintro e w22 ⟨rfl, hb⟩; refine ⟨_, rfl, ?_⟩; have n0_ := Aside0.mk (blk_below (g := gb293) (o := .cells #[.slice A0_0 l0_0.length c0_0] 43 (0, 0)) (by (with_reducible repeat (first | refine blk_drewN ?_ _ | refine blk_drew ?_ | refine blk_alloc ?_ _)); exact BK293.out) hb); have n1_ := Aside0.mk (below_step (by repeat (first | (with_reducible first | exact HB.out | apply below_alloc | apply pw_below_drewN | apply below_drew1 | refine below_set ?_ GE293.out) | exact HB.out)) hb); clear BK293; clear HB; have BK293 := n0_; have HB := n1_; clear n0_ n1_; (try clear hb); (try clear hb2); (try clear hk); (try clear hi)))
    go_ret2
    exact ⟨by first | rfl | (simp [errW_none, errW_some] <;> rfl) | (simp [*, errW_none, errW_some] <;> rfl), by repeat (first | (with_reducible first | exact HB.out | apply below_alloc | apply pw_below_drewN | apply below_drew1 | refine below_set ?_ GE293.out) | exact HB.out)⟩

end Go.Proofs.YthcnblclmlkoiaaDoor.PX

namespace Go.Proofs.YthcnblclmlkoiaaDoor.PX
open Go.RowKit Go.Proofs.YthcnblclmlkoiaaDoorW.PrintWords Go.Proofs.YthcnblclmlkoiaaDoorW.PrintLast Go.Proofs.YthcnblclmlkoiaaDoorW.PrintMore
attribute [local go_sem] max2_int min2_int max_two min_two max_three min_three max_four min_four   -- for this text's walks alone
set_option linter.unusedVariables false
set_option linter.unusedSimpArgs false

/-! ### laws_eqInt64SS: function 37 -/
def laws_eqInt64SS.l0 : Nat → List (List Int) → List (List Int) → Int → Option (Bool)
  | 0, _, _, _ => none
  | k + 1, x0, x1, x5 => if x5 < (x0.length : Int) then (if 0 ≤ x5 then (if x5 < (x1.length : Int) then ((laws_eqInt64S.f k (rd_L3 x0 x5) (rd_L3 x1 x5)).bind fun t306 => (if t306 = true then (laws_eqInt64SS.l0 k x0 x1 (wrap64 (x5 + 1))) else (some false))) else (none)) else (none)) else (some true)
def laws_eqInt64SS.f (k : Nat) (l0 : List (List Int)) (l1 : List (List Int)) : Option (Bool) := if (l0.length : Int) = (l1.length : Int) then (laws_eqInt64SS.l0 k l0 l1 0) else (some false)
theorem laws_eqInt64SS.mono_l : ∀ k, (∀ y0 y1 y2, LeO (laws_eqInt64SS.l0 k y0 y1 y2) (laws_eqInt64SS.l0 (k + 1) y0 y1 y2))
  | 0 => fun _ _ _ r h => by simp [laws_eqInt64SS.l0] at h
  | k + 1 => by
    have ih0 := laws_eqInt64SS.mono_l k
    · intro y0 y1 y2
      unfold laws_eqInt64SS.l0
      repeat' first
      | (with_reducible exact ih0 _ _ _)
      | (with_reducible exact laws_eqInt64S.mono _ _ _)
      | (with_reducible exact LeO.refl _)
      | (with_reducible exact LeO.none _)
      | (with_reducible refine LeO.ite ?_ ?_)
      | (with_reducible refine LeO.bind ?_ (fun _ => ?_))
      | exact ih0 _ _ _
      | exact laws_eqInt64S.mono _ _ _
      | exact LeO.none _
      | refine LeO.ite ?_ ?_
      | refine LeO.bind ?_ (fun _ => ?_)
theorem laws_eqInt64SS.mono : ∀ a0 a1 k, LeO (laws_eqInt64SS.f k a0 a1) (laws_eqInt64SS.f (k + 1) a0 a1) := by
  intro a0 a1 k
  have ih0 := laws_eqInt64SS.mono_l k
  unfold laws_eqInt64SS.f
  repeat' first
      | (with_reducible exact ih0 _ _ _)
      | (with_reducible exact laws_eqInt64S.mono _ _ _)
      | (with_reducible exact LeO.refl _)
      | (with_reducible exact LeO.none _)
      | (with_reducible refine LeO.ite ?_ ?_)
      | (with_reducible refine LeO.bind ?_ (fun _ => ?_))
      | exact ih0 _ _ _
      | exact laws_eqInt64S.mono _ _ _
      | exact LeO.none _
      | refine LeO.ite ?_ ?_
      | refine LeO.bind ?_ (fun _ => ?_)
set_option maxHeartbeats 8000000 in
set_option maxRecDepth 100000 in
theorem laws_eqInt64SS.calls (k : Nat) (A0 : Option Addr) (c0 : Nat) (l0 : List (List Int)) (A1 : Option Addr) (c1 : Nat) (l1 : List (List Int)) (r : Bool) (w : World) (hr0 : Kd.C (Kd.slice 2 (Kd.int .i64)) w A0 l0.length l0) (hc0 : l0.length ≤ c0) (hr1 : Kd.C (Kd.slice 2 (Kd.int .i64)) w A1 l1.length l1) (hc1 : l1.length ≤ c1) (h : laws_eqInt64SS.f k l0 l1 = some r) :
    Calls Tryd.prog 37 #[.slice A0 l0.length c0, .slice A1 l1.length c1] w fun e w' => e = .returned (.bool r) ∧ Drawn0 w w' := by
  have HR0 := Aside0.mk hr0
  have HC0 := Aside0.mk hc0
  clear hr0 hc0
  have HR1 := Aside0.mk hr1
  have HC1 := Aside0.mk hc1
  clear hr1 hc1
  have H : (if (l0.length : Int) = (l1.length : Int) then (laws_eqInt64SS.l0 k l0 l1 0) else (some false)) = some r := h
  clear h
  by_cases c3 : (l0.length : Int) = (l1.length : Int)
  · rw [if_pos c3] at H
    have c3b0 : ((l0.length : Int) == (l1.length : Int)) = true := beq_iff_eq.mpr c3
    have c3b1 : ((l0.length : Int) != (l1.length : Int)) = false := bne_eq_false_iff_eq.mpr c3
    have c3b2 : (l0.length == l1.length) = true := by first | simpa using c3 | (simp at c3 ⊢; omega)
    clear c3
    have H' := Aside0.mk H
    clear H
    go_enter Tryd.func37, Tryd.ntmps37
    go_wp2
    repeat (go_quiet (fail); try go_wp2)
    go_loopg [5] k (fun kq v5 w' => ∃ (x5_1 : Int), v5 = .int .i64 x5_1 ∧ Aside0 (laws_eqInt64SS.l0 kq l0 l1 x5_1 = some r) ∧ Aside0 (kq ≤ k) ∧ Drawn0 w w')
    case atStart => exact ⟨(0), (by first | rfl | (simp; done) | (simp [*]; done)), H', ⟨Nat.le_refl _⟩, by repeat (first | exact Drawn0.refl _ | apply Drawn0.step)⟩
    case round =>
      clear H'
      try clear c1
      try clear p2
      try clear c3
      try clear c3b0
      try clear c3b1
      try clear c3b2
      obtain ⟨x5_1, rfl, HA, HK1, ⟨m1, rfl⟩⟩ := hrel
      cases gk with
      | zero => exact absurd HA.out (by simp [laws_eqInt64SS.l0])
      | succ k1 =>
        have H := HA.out
        clear HA
        simp only [laws_eqInt64SS.l0] at H
        by_cases c4 : x5_1 < (l0.length : Int)
        · rw [if_pos c4] at H
          have c4b0 : decide (x5_1 < (l0.length : Int)) = true := decide_eq_true c4
          clear c4
          by_cases c5 : 0 ≤ x5_1
          · rw [if_pos c5] at H
            have c5b0 : decide (0 ≤ x5_1) = true := decide_eq_true c5
            clear c5
            by_cases c6 : x5_1 < (l1.length : Int)
            · rw [if_pos c6] at H
              have c6b0 : decide (x5_1 < (l1.length : Int)) = true := decide_eq_true c6
              clear c6
              replace H := Option.bind_eq_some_iff.mp H
              obtain ⟨t306, A70, H⟩ := H
              replace H : (if t306 = true then (laws_eqInt64SS.l0 k1 l0 l1 (wrap64 (x5_1 + 1))) else (some false)) = some r := H
              have A7 := Aside0.mk A70
              clear A70
              by_cases c8 : t306 = true
              · subst c8
                have H1 : (laws_eqInt64SS.l0 k1 l0 l1 (wrap64 (x5_1 + 1))) = some r := by rw [if_pos rfl] at H; exact H
                clear H
                have H := H1
                clear H1
                have H' := Aside0.mk H
                clear H
                have p304 : 0 ≤ (x5_1 : Int) := of_decide_eq_true (by first | (with_reducible assumption) | assumption)
                have q304 : x5_1 < (l0.length : Int) := of_decide_eq_true (by first | (with_reducible assumption) | assumption)
                obtain ⟨ad304, A304_0, c304_0, e304, hx304_0, hl304_0, hi304_0⟩ := at_L3 HR0.out x5_1 p304 q304
                cases e304
                have HR304_0 := Aside0.mk hi304_0
                have HC304_0 := Aside0.mk hl304_0
                clear hi304_0 hl304_0
                replace p304 := eq_true p304
                replace q304 := eq_true q304
                have p305 : 0 ≤ (x5_1 : Int) := of_decide_eq_true (by first | (with_reducible assumption) | assumption)
                have q305 : x5_1 < (l1.length : Int) := of_decide_eq_true (by first | (with_reducible assumption) | assumption)
                obtain ⟨ad305, A305_0, c305_0, e305, hx305_0, hl305_0, hi305_0⟩ := at_L3 HR1.out x5_1 p305 q305
                cases e305
                have HR305_0 := Aside0.mk hi305_0
                have HC305_0 := Aside0.mk hl305_0
                clear hi305_0 hl305_0
                replace p305 := eq_true p305
                replace q305 := eq_true q305
                go_wp2_with (first | (go_at_call 30; (with_reducible refine (laws_eqInt64S.calls k1 _ _ (rd_L3 l0 x5_1) _ _ (rd_L3 l1 x5_1) true _ ?side1 ?side2 ?side3 ?side4 A7.out).mono ?_); (case side1 => repeat (first | exact HR304_0.out | (with_reducible refine Kd.C_alloc ?_ _) | (with_reducible refine Kd.C_drewN ?_ _) | (with_reducible refine Kd.C_drew ?_))); (case side2 => exact HC304_0.out); (case side3 => repeat (first | exact HR305_0.out | (with_reducible refine Kd.C_alloc ?_ _) | (with_reducible refine Kd.C_drewN ?_ _) | (with_reducible refine Kd.C_drew ?_))); (case side4 => exact HC305_0.out); rintro e w' ⟨rfl, ⟨nd, rfl⟩⟩; (try first | exact ⟨rfl, _, World.drewN_drewN _ _ _⟩ | exact ⟨rfl, _, Eq.trans (World.drewN_drewN _ _ _) (congrArg (World.drewN _) (Nat.add_assoc _ _ _))⟩)))
                repeat (go_quiet (first | (go_at_call 30; (with_reducible refine (laws_eqInt64S.calls k1 _ _ (rd_L3 l0 x5_1) _ _ (rd_L3 l1 x5_1) true _ ?side1 ?side2 ?side3 ?side4 A7.out).mono ?_); (case side1 => repeat (first | exact HR304_0.out | (with_reducible refine Kd.C_alloc ?_ _) | (with_reducible refine Kd.C_drewN ?_ _) | (with_reducible refine Kd.C_drew ?_))); (case side2 => exact HC304_0.out); (case side3 => repeat (first | exact HR305_0.out | (with_reducible refine Kd.C_alloc ?_ _) | (with_reducible refine Kd.C_drewN ?_ _) | (with_reducible refine Kd.C_drew ?_))); (case side4 => exact HC305_0.out); rintro e w' ⟨rfl, ⟨nd, rfl⟩⟩; (try first | exact ⟨rfl, _, World.drewN_drewN _ _ _⟩ | exact ⟨rfl, _, Eq.trans (World.drewN_drewN _ _ _) (congrArg (World.drewN _) (Nat.add_assoc _ _ _))⟩))); try go_wp2_with (first | (go_at_call 30; (with_reducible refine (laws_eqInt64S.calls k1 _ _ (rd_L3 l0 x5_1) _ _ (rd_L3 l1 x5_1) true _ ?side1 ?side2 ?side3 ?side4 A7.out).mono ?_); (case side1 => repeat (first | exact HR304_0.out | (with_reducible refine Kd.C_alloc ?_ _) | (with_reducible refine Kd.C_drewN ?_ _) | (with_reducible refine Kd.C_drew ?_))); (case side2 => exact HC304_0.out); (case side3 => repeat (first | exact HR305_0.out | (with_reducible refine Kd.C_alloc ?_ _) | (with_reducible refine Kd.C_drewN ?_ _) | (with_reducible refine Kd.C_drew ?_))); (case side4 => exact HC305_0.out); rintro e w' ⟨rfl, ⟨nd, rfl⟩⟩; (try first | exact ⟨rfl, _, World.drewN_drewN _ _ _⟩ | exact ⟨rfl, _, Eq.trans (World.drewN_drewN _ _ _) (congrArg (World.drewN _) (Nat.add_assoc _ _ _))⟩))))
                go_roundg k1
                case measure => have := HK1.out; omega
                case rel => exact ⟨(wrap64 (x5_1 + 1)), (by first | rfl | (simp; done) | (simp [*]; done)), H', ⟨by have := HK1.out; omega⟩, by repeat (first | exact Drawn0.refl _ | apply Drawn0.step)⟩
              · replace c8 := Bool.eq_false_iff.mpr c8
                subst c8
                have H1 : (some false) = some r := by rw [if_neg (show ¬ (false = true) by decide)] at H; exact H
                clear H
                have H := H1
                clear H1
                obtain rfl := Option.some.inj H
                have p304 : 0 ≤ (x5_1 : Int) := of_decide_eq_true (by first | (with_reducible assumption) | assumption)
                have q304 : x5_1 < (l0.length : Int) := of_decide_eq_true (by first | (with_reducible assumption) | assumption)
                obtain ⟨ad304, A304_0, c304_0, e304, hx304_0, hl304_0, hi304_0⟩ := at_L3 HR0.out x5_1 p304 q304
                cases e304
                have HR304_0 := Aside0.mk hi304_0
                have HC304_0 := Aside0.mk hl304_0
                clear hi304_0 hl304_0
                replace p304 := eq_true p304
                replace q304 := eq_true q304
                have p305 : 0 ≤ (x5_1 : Int) := of_decide_eq_true (by first | (with_reducible assumption) | assumption)
                have q305 : x5_1 < (l1.length : Int) := of_decide_eq_true (by first | (with_reducible assumption) | assumption)
                obtain ⟨ad305, A305_0, c305_0, e305, hx305_0, hl305_0, hi305_0⟩ := at_L3 HR1.out x5_1 p305 q305
                cases e305
                have HR305_0 := Aside0.mk hi305_0
                have HC305_0 := Aside0.mk hl305_0
                clear hi305_0 hl305_0
                replace p305 := eq_true p305
                replace q305 := eq_true q305
                go_wp2_with (first | (go_at_call 30; (with_reducible refine (laws_eqInt64S.calls k1 _ _ (rd_L3 l0 x5_1) _ _ (rd_L3 l1 x5_1) false _ ?side1 ?side2 ?side3 ?side4 A7.out).mono ?_); (case side1 => repeat (first | exact HR304_0.out | (with_reducible refine Kd.C_alloc ?_ _) | (with_reducible refine Kd.C_drewN ?_ _) | (with_reducible refine Kd.C_drew ?_))); (case side2 => exact HC304_0.out); (case side3 => repeat (first | exact HR305_0.out | (with_reducible refine Kd.C_alloc ?_ _) | (with_reducible refine Kd.C_drewN ?_ _) | (with_reducible refine Kd.C_drew ?_))); (case side4 => exact HC305_0.out); rintro e w' ⟨rfl, ⟨nd, rfl⟩⟩; (try first | exact ⟨rfl, _, World.drewN_drewN _ _ _⟩ | exact ⟨rfl, _, Eq.trans (World.drewN_drewN _ _ _) (congrArg (World.drewN _) (Nat.add_assoc _ _ _))⟩)))
                repeat (go_quiet (first | (go_at_call 30; (with_reducible refine (laws_eqInt64S.calls k1 _ _ (rd_L3 l0 x5_1) _ _ (rd_L3 l1 x5_1) false _ ?side1 ?side2 ?side3 ?side4 A7.out).mono ?_); (case side1 => repeat (first | exact HR304_0.out | (with_reducible refine Kd.C_alloc ?_ _) | (with_reducible refine Kd.C_drewN ?_ _) | (with_reducible refine Kd.C_drew ?_))); (case side2 => exact HC304_0.out); (case side3 => repeat (first | exact HR305_0.out | (with_reducible refine Kd.C_alloc ?_ _) | (with_reducible refine Kd.C_drewN ?_ _) | (with_reducible refine Kd.C_drew ?_))); (case side4 => exact HC305_0.out); rintro e w' ⟨rfl, ⟨nd, rfl⟩⟩; (try first | exact ⟨rfl, _, World.drewN_drewN _ _ _⟩ | exact ⟨rfl, _, Eq.trans (World.drewN_drewN _ _ _) (congrArg (World.drewN _) (Nat.add_assoc _ _ _))⟩))); try go_wp2_with (first | (go_at_call 30; (with_reducible refine (laws_eqInt64S.calls k1 _ _ (rd_L3 l0 x5_1) _ _ (rd_L3 l1 x5_1) false _ ?side1 ?side2 ?side3 ?side4 A7.out).mono ?_); (case side1 => repeat (first | exact HR304_0.out | (with_reducible refine Kd.C_alloc ?_ _) | (with_reducible refine Kd.C_drewN ?_ _) | (with_reducible refine Kd.C_drew ?_))); (case side2 => exact HC304_0.out); (case side3 => repeat (first | exact HR305_0.out | (with_reducible refine Kd.C_alloc ?_ _) | (with_reducible refine Kd.C_drewN ?_ _) | (with_reducible refine Kd.C_drew ?_))); (case side4 => exact HC305_0.out); rintro e w' ⟨rfl, ⟨nd, rfl⟩⟩; (try first | exact ⟨rfl, _, World.drewN_drewN _ _ _⟩ | exact ⟨rfl, _, Eq.trans (World.drewN_drewN _ _ _) (congrArg (World.drewN _) (Nat.add_assoc _ _ _))⟩))))
                go_ret
                exact ⟨by first | rfl | (simp; done) | (simp [*]; done), by repeat (first | exact Drawn0.refl _ | apply Drawn0.step)⟩
            · rw [if_neg c6] at H
              exact absurd H (by simp)
          · rw [if_neg c5] at H
            exact absurd H (by simp)
        · rw [if_neg c4] at H
          have c4b0 : decide (x5_1 < (l0.length : Int)) = false := decide_eq_false c4
          clear c4
          obtain rfl := Option.some.inj H
          go_wp2
          repeat (go_quiet (fail); try go_wp2)
          go_ret
          exact ⟨by first | rfl | (simp; done) | (simp [*]; done), by repeat (first | exact Drawn0.refl _ | apply Drawn0.step)⟩
  · rw [if_neg c3] at H
    have c3b0 : ((l0.length : Int) == (l1.length : Int)) = false := beq_eq_false_iff_ne.mpr c3
    have c3b1 : ((l0.length : Int) != (l1.length : Int)) = true := bne_iff_ne.mpr c3
    have c3b2 : (l0.length == l1.length) = false := by first | simpa using c3 | (simp at c3 ⊢; omega)
    obtain rfl := Option.some.inj H
    go_enter Tryd.func37, Tryd.ntmps37
    go_wp2
    repeat (go_quiet (fail); try go_wp2)
    go_ret
    exact ⟨by first | rfl | (simp; done) | (simp [*]; done), by repeat (first | exact Drawn0.refl _ | apply Drawn0.step)⟩

/-! ### laws_eqGame: function 18 -/
def laws_eqGame.f (k : Nat) (l0_0 : List (List Int)) (l1_0 : List (List Int)) : Option (Bool) := (laws_eqInt64SS.f k l0_0 l1_0).bind fun t309 => (if t309 = true then (some true) else (some false))
theorem laws_eqGame.mono : ∀ a0 a1 k, LeO (laws_eqGame.f k a0 a1) (laws_eqGame.f (k + 1) a0 a1) := by
  intro a0 a1 k
  unfold laws_eqGame.f
  repeat' first
      | (with_reducible exact laws_eqInt64SS.mono _ _ _)
      | (with_reducible exact LeO.refl _)
      | (with_reducible exact LeO.none _)
      | (with_reducible refine LeO.ite ?_ ?_)
      | (with_reducible refine LeO.bind ?_ (fun _ => ?_))
      | exact laws_eqInt64SS.mono _ _ _
      | exact LeO.none _
      | refine LeO.ite ?_ ?_
      | refine LeO.bind ?_ (fun _ => ?_)
set_option maxHeartbeats 8000000 in
set_option maxRecDepth 100000 in
theorem laws_eqGame.calls (k : Nat) (A0_0 : Option Addr) (c0_0 : Nat) (l0_0 : List (List Int)) (A1_0 : Option Addr) (c1_0 : Nat) (l1_0 : List (List Int)) (r : Bool) (w : World) (hr0_0 : Kd.C (Kd.slice 2 (Kd.int .i64)) w A0_0 l0_0.length l0_0) (hc0_0 : l0_0.length ≤ c0_0) (hr1_0 : Kd.C (Kd.slice 2 (Kd.int .i64)) w A1_0 l1_0.length l1_0) (hc1_0 : l1_0.length ≤ c1_0) (h : laws_eqGame.f k l0_0 l1_0 = some r) :
    Calls Tryd.prog 18 #[.agg #[.slice A0_0 l0_0.length c0_0], .agg #[.slice A1_0 l1_0.length c1_0]] w fun e w' => e = .returned (.bool r) ∧ Below w.heap.size w w' := by
  have hu43 := Tryd.underlying43
  have HR0_0 := Aside0.mk hr0_0
  have HC0_0 := Aside0.mk hc0_0
  clear hr0_0 hc0_0
  have HR1_0 := Aside0.mk hr1_0
  have HC1_0 := Aside0.mk hc1_0
  clear hr1_0 hc1_0
  have HB := Aside0.mk (Below.refl w.heap.size w)
  have H : ((laws_eqInt64SS.f k l0_0 l1_0).bind fun t309 => (if t309 = true then (some true) else (some false))) = some r := h
  clear h
  replace H := Option.bind_eq_some_iff.mp H
  obtain ⟨t309, A30, H⟩ := H
  replace H : (if t309 = true then (some true) else (some false)) = some r := H
  have A3 := Aside0.mk A30
  clear A30
  by_cases c4 : t309 = true
  · subst c4
    have H1 : (some true) = some r := by rw [if_pos rfl] at H; exact H
    clear H
    have H := H1
    clear H1
    obtain rfl := Option.some.inj H
    go_enter Tryd.func18, Tryd.ntmps18
    go_wp2_with (first | ((with_reducible refine gate_dst (N := 2) rfl ?_); refine box_event ?hg (N := 2) ?hd (cs := #[.slice A0_0 l0_0.length c0_0]) (t := 43) ?hr ?_; (case hd => rfl); (case hg => rfl); (case hr => first | (go_simp; done) | (go_simp; rfl)); intro gb307 hg w5 hbox hb; have n0_ := Aside0.mk (below_step (by repeat (first | (with_reducible first | exact HB.out | apply below_alloc | apply pw_below_drewN | apply below_drew1) | exact HB.out)) hb); have n1_ := Aside0.mk (hbox); have n2_ := Aside0.mk ((by rw [hg]; exact (below_size (by repeat (first | (with_reducible first | exact HB.out | apply below_alloc | apply pw_below_drewN | apply below_drew1) | exact HB.out))) : w.heap.size ≤ gb307)); have n3_ := Aside0.mk ((by rw [hg]; exact (below_size (by repeat (first | (with_reducible first | exact HB.out | apply below_alloc | apply pw_below_drewN | apply below_drew1) | exact HB.out))) : w.heap.size ≤ gb307)); clear HB; have HB := n0_; have BK307 := n1_; have GW307 := n2_; have GE307 := n3_; clear n0_ n1_ n2_ n3_; clear hb hbox hg) | ((with_reducible refine gate_dst (N := 3) rfl ?_); refine box_event ?hg (N := 3) ?hd (cs := #[.slice A1_0 l1_0.length c1_0]) (t := 43) ?hr ?_; (case hd => rfl); (case hg => rfl); (case hr => first | (go_simp; done) | (go_simp; rfl)); intro gb308 hg w6 hbox hb; have n0_ := Aside0.mk (blk_below (g := gb307) (o := .cells #[.slice A0_0 l0_0.length c0_0] 43 (0, 0)) (by (with_reducible repeat (first | refine blk_drewN ?_ _ | refine blk_drew ?_ | refine blk_alloc ?_ _)); exact BK307.out) hb); have n1_ := Aside0.mk (below_step (by repeat (first | (with_reducible first | exact HB.out | apply below_alloc | apply pw_below_drewN | apply below_drew1 | refine below_set ?_ GE307.out) | exact HB.out)) hb); have n2_ := Aside0.mk (hbox); have n3_ := Aside0.mk ((by rw [hg]; exact (below_size (by repeat (first | (with_reducible first | exact HB.out | apply below_alloc | apply pw_below_drewN | apply below_drew1 | refine below_set ?_ GE307.out) | exact HB.out))) : w.heap.size ≤ gb308)); have n4_ := Aside0.mk ((by rw [hg]; exact (below_size (by repeat (first | (with_reducible first | exact HB.out | apply below_alloc | apply pw_below_drewN | apply below_drew1 | refine below_set ?_ GE307.out) | exact HB.out))) : w.heap.size ≤ gb308)); have n5_ := Aside0.mk ((by rw [hg]; exact Nat.ne_of_lt (blk_lt (g := gb307) (o := .cells #[.slice A0_0 l0_0.length c0_0] 43 (0, 0)) (by (with_reducible repeat (first | refine blk_drewN ?_ _ | refine blk_drew ?_ | refine blk_alloc ?_ _)); exact BK307.out)) : gb307 ≠ gb308)); have n6_ := Aside0.mk ((by rw [hg]; exact Nat.ne_of_gt (blk_lt (g := gb307) (o := .cells #[.slice A0_0 l0_0.length c0_0] 43 (0, 0)) (by (with_reducible repeat (first | refine blk_drewN ?_ _ | refine blk_drew ?_ | refine blk_alloc ?_ _)); exact BK307.out)) : gb308 ≠ gb307)); clear BK307; clear HB; have BK307 := n0_; have HB := n1_; have BK308 := n2_; have GW308 := n3_; have GE308 := n4_; have NB307_308 := n5_; have NB308_307 := n6_; clear n0_ n1_ n2_ n3_ n4_ n5_ n6_; clear hb hbox hg; have hnb7 := NB307_308.out; have hnc7 := NB308_307.out; have hcz8_0 : w6.cell? ⟨gb307, 0, none⟩ = some (.slice A0_0 l0_0.length c0_0) := (blk_cell BK307.out 0).trans rfl; have hfz8_0 := blk_frozen BK307.out 0; have hcz9_0 : w6.cell? ⟨gb308, 0, none⟩ = some (.slice A1_0 l1_0.length c1_0) := (blk_cell BK308.out 0).trans rfl; have hfz9_0 := blk_frozen BK308.out 0) | ((with_reducible refine gate_callee (f := 37) rfl ?_); refine goesL_ (some 9) rfl rfl Tryd.func37 (by kernel_rfl) rfl #[.slice A0_0 l0_0.length c0_0, .slice A1_0 l1_0.length c1_0] rfl (by (try simp only [List.map_toArray, List.map_cons, List.map_nil]); first | done | rfl | (simp only [List.length_drop, List.length_take]; rfl)) ?_; (with_reducible refine (laws_eqInt64SS.calls k _ _ l0_0 _ _ l1_0 true _ ?side1 ?side2 ?side3 ?side4 A3.out).mono ?_); (case side1 => repeat (first | exact (Kd.C_below HR0_0.out HB.out) | (with_reducible refine Kd.C_alloc ?_ _) | (with_reducible refine Kd.C_drewN ?_ _) | (with_reducible refine Kd.C_drew ?_))); (case side2 => exact HC0_0.out); (case side3 => repeat (first | exact (Kd.C_below HR1_0.out HB.out) | (with_reducible refine Kd.C_alloc ?_ _) | (with_reducible refine Kd.C_drewN ?_ _) | (with_reducible refine Kd.C_drew ?_))); (case side4 => exact HC1_0.out); rintro e w' ⟨rfl, ⟨nd, rfl⟩⟩; refine ⟨_, rfl, ?_⟩))
    go_ret
    exact ⟨by first | rfl | (simp [errW_none, errW_some] <;> rfl) | (simp [*, errW_none, errW_some] <;> rfl), by repeat (first | (with_reducible first | exact HB.out | apply below_alloc | apply pw_below_drewN | apply below_drew1 | refine below_set ?_ GE307.out | refine below_set ?_ GE308.out) | exact HB.out)⟩
  · replace c4 := Bool.eq_false_iff.mpr c4
    subst c4
    have H1 : (some false) = some r := by rw [if_neg (show ¬ (false = true) by decide)] at H; exact H
    clear H
    have H := H1
    clear H1
    obtain rfl := Option.some.inj H
    go_enter Tryd.func18, Tryd.ntmps18
    go_wp2_with (first | ((with_reducible refine gate_dst (N := 2) rfl ?_); refine box_event ?hg (N := 2) ?hd (cs := #[.slice A0_0 l0_0.length c0_0]) (t := 43) ?hr ?_; (case hd => rfl); (case hg => rfl); (case hr => first | (go_simp; done) | (go_simp; rfl)); intro gb307 hg w10 hbox hb; have n0_ := Aside0.mk (below_step (by repeat (first | (with_reducible first | exact HB.out | apply below_alloc | apply pw_below_drewN | apply below_drew1) | exact HB.out)) hb); have n1_ := Aside0.mk (hbox); have n2_ := Aside0.mk ((by rw [hg]; exact (below_size (by repeat (first | (with_reducible first | exact HB.out | apply below_alloc | apply pw_below_drewN | apply below_drew1) | exact HB.out))) : w.heap.size ≤ gb307)); have n3_ := Aside0.mk ((by rw [hg]; exact (below_size (by repeat (first | (with_reducible first | exact HB.out | apply below_alloc | apply pw_below_drewN | apply below_drew1) | exact HB.out))) : w.heap.size ≤ gb307)); clear HB; have HB := n0_; have BK307 := n1_; have GW307 := n2_; have GE307 := n3_; clear n0_ n1_ n2_ n3_; clear hb hbox hg) | ((with_reducible refine gate_dst (N := 3) rfl ?_); refine box_event ?hg (N := 3) ?hd (cs := #[.slice A1_0 l1_0.length c1_0]) (t := 43) ?hr ?_; (case hd => rfl); (case hg => rfl); (case hr => first | (go_simp; done) | (go_simp; rfl)); intro gb308 hg w11 hbox hb; have n0_ := Aside0.mk (blk_below (g := gb307) (o := .cells #[.slice A0_0 l0_0.length c0_0] 43 (0, 0)) (by (with_reducible repeat (first | refine blk_drewN ?_ _ | refine blk_drew ?_ | refine blk_alloc ?_ _)); exact BK307.out) hb); have n1_ := Aside0.mk (below_step (by repeat (first | (with_reducible first | exact HB.out | apply below_alloc | apply pw_below_drewN | apply below_drew1 | refine below_set ?_ GE307.out) | exact HB.out)) hb); have n2_ := Aside0.mk (hbox); have n3_ := Aside0.mk ((by rw [hg]; exact (below_size (by repeat (first | (with_reducible first | exact HB.out | apply below_alloc | apply pw_below_drewN | apply below_drew1 | refine below_set ?_ GE307.out) | exact HB.out))) : w.heap.size ≤ gb308)); have n4_ := Aside0.mk ((by rw [hg]; exact (below_size (by repeat (first | (with_reducible first | exact HB.out | apply below_alloc | apply pw_below_drewN | apply below_drew1 | refine below_set ?_ GE307.out) | exact HB.out))) : w.heap.size ≤ gb308)); have n5_ := Aside0.mk ((by rw [hg]; exact Nat.ne_of_lt (blk_lt (g := gb307) (o := .cells #[.slice A0_0 l0_0.length c0_0] 43 (0, 0)) (by (with_reducible repeat (first | refine blk_drewN ?_ _ | refine blk_drew ?_ | refine blk_alloc ?_ _)); exact BK307.out)) : gb307 ≠ gb308)); have n6_ := Aside0.mk ((by rw [hg]; exact Nat.ne_of_gt (blk_lt (g := gb307) (o := .cells #[.slice A0_0 l0_0.length c0_0] 43 (0, 0)) (by (with_reducible repeat (first | refine blk_drewN ?_ _ | refine blk_drew ?_ | refine blk_alloc ?_ _)); exact BK307.out)) : gb308 ≠ gb307)); clear BK307; clear HB; have BK307 := n0_; have HB := n1_; have BK308 := n2_; have GW308 := n3_; have GE308 := n4_; have NB307_308 := n5_; have NB308_307 := n6_; clear n0_ n1_ n2_ n3_ n4_ n5_ n6_; clear hb hbox hg; have hnb12 := NB307_308.out; have hnc12 := NB308_307.out; have hcz13_0 : w11.cell? ⟨gb307, 0, none⟩ = some (.slice A0_0 l0_0.length c0_0) := (blk_cell BK307.out 0).trans rfl; have hfz13_0 := blk_frozen BK307.out 0; have hcz14_0 : w11.cell? ⟨gb308, 0, none⟩ = some (.slice A1_0 l1_0.length c1_0) := (blk_cell BK308.out 0).trans rfl; have hfz14_0 := blk_frozen BK308.out 0) | ((with_reducible refine gate_callee (f := 37) rfl ?_); refine goesL_ (some 9) rfl rfl Tryd.func37 (by kernel_rfl) rfl #[.slice A0_0 l0_0.length c0_0, .slice A1_0 l1_0.length c1_0] rfl (by (try simp only [List.map_toArray, List.map_cons, List.map_nil]); first | done | rfl | (simp only [List.length_drop, List.length_take]; rfl)) ?_; (with_reducible refine (laws_eqInt64SS.calls k _ _ l0_0 _ _ l1_0 false _ ?side1 ?side2 ?side3 ?side4 A3.out).mono ?_); (case side1 => repeat (first | exact (Kd.C_below HR0_0.out HB.out) | (with_reducible refine Kd.C_alloc ?_ _) | (with_reducible refine Kd.C_drewN ?_ _) | (with_reducible refine Kd.C_drew ?_))); (case side2 => exact HC0_0.out); (case side3 => repeat (first | exact (Kd.C_below HR1_0.out HB.out) | (with_reducible refine Kd.C_alloc ?_ _) | (with_reducible refine Kd.C_drewN ?_ _) | (with_reducible refine Kd.C_drew ?_))); (case side4 => exact HC1_0.out); rintro e w' ⟨rfl, ⟨nd, rfl⟩⟩; refine ⟨_, rfl, ?_⟩))
    go_ret
    exact ⟨by first | rfl | (simp [errW_none, errW_some] <;> rfl) | (simp [*, errW_none, errW_some] <;> rfl), by repeat (first | (with_reducible first | exact HB.out | apply below_alloc | apply pw_below_drewN | apply below_drew1 | refine below_set ?_ GE307.out | refine below_set ?_ GE308.out) | exact HB.out)⟩

end Go.Proofs.YthcnblclmlkoiaaDoor.PX

namespace Go.Proofs.YthcnblclmlkoiaaDoor.PX
open Go.RowKit Go.Proofs.YthcnblclmlkoiaaDoorW.PrintWords Go.Proofs.YthcnblclmlkoiaaDoorW.PrintLast Go.Proofs.YthcnblclmlkoiaaDoorW.PrintMore
attribute [local go_sem] max2_int min2_int max_two min_two max_three min_three max_four min_four   -- for this text's walks alone
set_option linter.unusedVariables false
set_option linter.unusedSimpArgs false

/-! ### laws_FnExactGameText: function 5 -/
def laws_FnExactGameText.j0 : Nat → Bool → List (List Int) → List (List Int) → Option (Bool)
  | 0, _, _, _ => none
  | k + 1, x34, x311000, x321000 => if x34 = true then (some false) else ((laws_toGame.f k x311000).bind fun t323 => ((laws_eqGame.f k x321000 t323).bind fun t326 => (if t326 = true then (some true) else (some false))))
def laws_FnExactGameText.f (k : Nat) (l0_0 : List (List Int)) : Option (Bool) := (laws_szGame.f k l0_0 1048576).bind fun t311 => (if t311 < 0 then (some true) else ((laws_toGame.f k l0_0).bind fun t312 => ((spec_GameText.f k t312).bind fun bt315 => ((laws_toGame.f k l0_0).bind fun t317 => ((impl_GameText.f k t317).bind fun bt321 => (if bt321.1.toList = bt315.1.toList then (laws_FnExactGameText.j0 k (bt321.2 != bt315.2) l0_0 t317) else (laws_FnExactGameText.j0 k true l0_0 t317)))))))
theorem laws_FnExactGameText.mono_l : ∀ k, (∀ y0 y1 y2, LeO (laws_FnExactGameText.j0 k y0 y1 y2) (laws_FnExactGameText.j0 (k + 1) y0 y1 y2))
  | 0 => fun _ _ _ r h => by simp [laws_FnExactGameText.j0] at h
  | k + 1 => by
    have ih0 := laws_FnExactGameText.mono_l k
    · intro y0 y1 y2
      unfold laws_FnExactGameText.j0
      repeat' first
      | (with_reducible exact ih0 _ _ _)
      | (with_reducible exact impl_GameText.mono _ _)
      | (with_reducible exact laws_eqGame.mono _ _ _)
      | (with_reducible exact laws_szGame.mono _ _ _)
      | (with_reducible exact laws_toGame.mono _ _)
      | (with_reducible exact spec_GameText.mono _ _)
      | (with_reducible exact LeO.refl _)
      | (with_reducible exact LeO.none _)
      | (with_reducible refine LeO.ite ?_ ?_)
      | (with_reducible refine LeO.bind ?_ (fun _ => ?_))
      | exact ih0 _ _ _
      | exact impl_GameText.mono _ _
      | exact laws_eqGame.mono _ _ _
      | exact laws_szGame.mono _ _ _
      | exact laws_toGame.mono _ _
      | exact spec_GameText.mono _ _
      | exact LeO.none _
      | refine LeO.ite ?_ ?_
      | refine LeO.bind ?_ (fun _ => ?_)
theorem laws_FnExactGameText.mono : ∀ a0 k, LeO (laws_FnExactGameText.f k a0) (laws_FnExactGameText.f (k + 1) a0) := by
  intro a0 k
  have ih0 := laws_FnExactGameText.mono_l k
  unfold laws_FnExactGameText.f
  repeat' first
      | (with_reducible exact ih0 _ _ _)
      | (with_reducible exact impl_GameText.mono _ _)
      | (with_reducible exact laws_eqGame.mono _ _ _)
      | (with_reducible exact laws_szGame.mono _ _ _)
      | (with_reducible exact laws_toGame.mono _ _)
      | (with_reducible exact spec_GameText.mono _ _)
      | (with_reducible exact LeO.refl _)
      | (with_reducible exact LeO.none _)
      | (with_reducible refine LeO.ite ?_ ?_)
      | (with_reducible refine LeO.bind ?_ (fun _ => ?_))
      | exact ih0 _ _ _
      | exact impl_GameText.mono _ _
      | exact laws_eqGame.mono _ _ _
      | exact laws_szGame.mono _ _ _
      | exact laws_toGame.mono _ _
      | exact spec_GameText.mono _ _
      | exact LeO.none _
      | refine LeO.ite ?_ ?_
      | refine LeO.bind ?_ (fun _ => ?_)
set_option maxHeartbeats 8000000 in
set_option maxRecDepth 100000 in
theorem laws_FnExactGameText.calls (k : Nat) (A0_0 : Option Addr) (c0_0 : Nat) (l0_0 : List (List Int)) (r : Bool) (w : World) (hr0_0 : Kd.C (Kd.slice 2 (Kd.int .i64)) w A0_0 l0_0.length l0_0) (hc0_0 : l0_0.length ≤ c0_0) (h : laws_FnExactGameText.f k l0_0 = some r) :
    Calls Tryd.prog 5 #[.agg #[.slice A0_0 l0_0.length c0_0]] w fun e w' => e = .returned (.bool r) ∧ Below w.heap.size w w' := by
  have hu40 := Tryd.underlying40
  have hu43 := Tryd.underlying43
  have HR0_0 := Aside0.mk hr0_0
  have HC0_0 := Aside0.mk hc0_0
  clear hr0_0 hc0_0
  have HB := Aside0.mk (Below.refl w.heap.size w)
  have H : ((laws_szGame.f k l0_0 1048576).bind fun t311 => (if t311 < 0 then (some true) else ((laws_toGame.f k l0_0).bind fun t312 => ((spec_GameText.f k t312).bind fun bt315 => ((laws_toGame.f k l0_0).bind fun t317 => ((impl_GameText.f k t317).bind fun bt321 => (if bt321.1.toList = bt315.1.toList then (laws_FnExactGameText.j0 k (bt321.2 != bt315.2) l0_0 t317) else (laws_FnExactGameText.j0 k true l0_0 t317)))))))) = some r := h
  clear h
  replace H := Option.bind_eq_some_iff.mp H
  obtain ⟨t311, A20, H⟩ := H
  replace H : (if t311 < 0 then (some true) else ((laws_toGame.f k l0_0).bind fun t312 => ((spec_GameText.f k t312).bind fun bt315 => ((laws_toGame.f k l0_0).bind fun t317 => ((impl_GameText.f k t317).bind fun bt321 => (if bt321.1.toList = bt315.1.toList then (laws_FnExactGameText.j0 k (bt321.2 != bt315.2) l0_0 t317) else (laws_FnExactGameText.j0 k true l0_0 t317))))))) = some r := H
  have A2 := Aside0.mk A20
  clear A20
  by_cases c3 : t311 < 0
  · rw [if_pos c3] at H
    have c3b0 : decide (t311 < 0) = true := decide_eq_true c3
    clear c3
    obtain rfl := Option.some.inj H
    go_enter Tryd.func5, Tryd.ntmps5
    go_wp2_with (first | ((with_reducible refine gate_dst (N := 1) rfl ?_); refine box_event ?hg (N := 1) ?hd (cs := #[.slice A0_0 l0_0.length c0_0]) (t := 40) ?hr ?_; (case hd => rfl); (case hg => rfl); (case hr => first | (go_simp; done) | (go_simp; rfl)); intro gb310 hg w4 hbox hb; have n0_ := Aside0.mk (below_step (by repeat (first | (with_reducible first | exact HB.out | apply below_alloc | apply pw_below_drewN | apply below_drew1) | exact HB.out)) hb); have n1_ := Aside0.mk (hbox); have n2_ := Aside0.mk ((by rw [hg]; exact (below_size (by repeat (first | (with_reducible first | exact HB.out | apply below_alloc | apply pw_below_drewN | apply below_drew1) | exact HB.out))) : w.heap.size ≤ gb310)); have n3_ := Aside0.mk ((by rw [hg]; exact (below_size (by repeat (first | (with_reducible first | exact HB.out | apply below_alloc | apply pw_below_drewN | apply below_drew1) | exact HB.out))) : w.heap.size ≤ gb310)); clear HB; have HB := n0_; have BK310 := n1_; have GW310 := n2_; have GE310 := n3_; clear n0_ n1_ n2_ n3_; clear hb hbox hg; have hcz5_0 : w4.cell? ⟨gb310, 0, none⟩ = some (.slice A0_0 l0_0.length c0_0) := (blk_cell BK310.out 0).trans rfl; have hfz5_0 := blk_frozen BK310.out 0) | ((with_reducible refine gate_callee (f := 14) rfl ?_); refine goesL_ (some 11) rfl rfl Tryd.func14 (by kernel_rfl) rfl #[.agg #[.slice A0_0 l0_0.length c0_0], .int .i64 1048576] rfl (by (try simp only [List.map_toArray, List.map_cons, List.map_nil]); first | done | rfl | (simp only [List.length_drop, List.length_take]; rfl)) ?_; (with_reducible refine (laws_szGame.calls k _ _ l0_0 1048576 t311 _ ?side1 ?side2 A2.out).mono ?_); (case side1 => repeat (first | exact (Kd.C_below HR0_0.out HB.out) | (with_reducible refine Kd.C_alloc ?_ _) | (with_reducible refine Kd.C_drewN ?_ _) | (with_reducible refine Kd.C_drew ?_))); (case side2 => exact HC0_0.out); rintro e w6 ⟨rfl, hb⟩; refine ⟨_, rfl, ?_⟩; have n0_ := Aside0.mk (blk_below (g := gb310) (o := .cells #[.slice A0_0 l0_0.length c0_0] 40 (0, 0)) (by (with_reducible repeat (first | refine blk_drewN ?_ _ | refine blk_drew ?_ | refine blk_alloc ?_ _)); exact BK310.out) hb); have n1_ := Aside0.mk (below_step (by repeat (first | (with_reducible first | exact HB.out | apply below_alloc | apply pw_below_drewN | apply below_drew1 | refine below_set ?_ GE310.out) | exact HB.out)) hb); clear BK310; clear HB; have BK310 := n0_; have HB := n1_; clear n0_ n1_; (try clear hb); (try clear hb2); (try clear hk); (try clear hi)))
    go_ret
    exact ⟨by first | rfl | (simp [errW_none, errW_some] <;> rfl) | (simp [*, errW_none, errW_some] <;> rfl), by repeat (first | (with_reducible first | exact HB.out | apply below_alloc | apply pw_below_drewN | apply below_drew1 | refine below_set ?_ GE310.out) | exact HB.out)⟩
  · rw [if_neg c3] at H
    have c3b0 : decide (t311 < 0) = false := decide_eq_false c3
    clear c3
    replace H := Option.bind_eq_some_iff.mp H
    obtain ⟨t312, A70, H⟩ := H
    replace H : ((spec_GameText.f k t312).bind fun bt315 => ((laws_toGame.f k l0_0).bind fun t317 => ((impl_GameText.f k t317).bind fun bt321 => (if bt321.1.toList = bt315.1.toList then (laws_FnExactGameText.j0 k (bt321.2 != bt315.2) l0_0 t317) else (laws_FnExactGameText.j0 k true l0_0 t317))))) = some r := H
    have A7 := Aside0.mk A70
    clear A70
    replace H := Option.bind_eq_some_iff.mp H
    obtain ⟨⟨t315, t316⟩, A80, H⟩ := H
    replace H : ((laws_toGame.f k l0_0).bind fun t317 => ((impl_GameText.f k t317).bind fun bt321 => (if bt321.1.toList = t315.toList then (laws_FnExactGameText.j0 k (bt321.2 != t316) l0_0 t317) else (laws_FnExactGameText.j0 k true l0_0 t317)))) = some r := H
    have A8 := Aside0.mk A80
    clear A80
    replace H := Option.bind_eq_some_iff.mp H
    obtain ⟨t317, A90, H⟩ := H
    replace H : ((impl_GameText.f k t317).bind fun bt321 => (if bt321.1.toList = t315.toList then (laws_FnExactGameText.j0 k (bt321.2 != t316) l0_0 t317) else (laws_FnExactGameText.j0 k true l0_0 t317))) = some r := H
    have A9 := Aside0.mk A90
    clear A90
    replace H := Option.bind_eq_some_iff.mp H
    obtain ⟨⟨t321, t322⟩, A100, H⟩ := H
    replace H : (if t321.toList = t315.toList then (laws_FnExactGameText.j0 k (t322 != t316) l0_0 t317) else (laws_FnExactGameText.j0 k true l0_0 t317)) = some r := H
    have A10 := Aside0.mk A100
    clear A100
    have HC11 := Aside0.mk H
    clear H
    go_enter Tryd.func5, Tryd.ntmps5
    go_upto_region 8 with (first | ((with_reducible refine gate_dst (N := 1) rfl ?_); refine box_event ?hg (N := 1) ?hd (cs := #[.slice A0_0 l0_0.length c0_0]) (t := 40) ?hr ?_; (case hd => rfl); (case hg => rfl); (case hr => first | (go_simp; done) | (go_simp; rfl)); intro gb310 hg w12 hbox hb; have n0_ := Aside0.mk (below_step (by repeat (first | (with_reducible first | exact HB.out | apply below_alloc | apply pw_below_drewN | apply below_drew1) | exact HB.out)) hb); have n1_ := Aside0.mk (hbox); have n2_ := Aside0.mk ((by rw [hg]; exact (below_size (by repeat (first | (with_reducible first | exact HB.out | apply below_alloc | apply pw_below_drewN | apply below_drew1) | exact HB.out))) : w.heap.size ≤ gb310)); have n3_ := Aside0.mk ((by rw [hg]; exact (below_size (by repeat (first | (with_reducible first | exact HB.out | apply below_alloc | apply pw_below_drewN | apply below_drew1) | exact HB.out))) : w.heap.size ≤ gb310)); clear HB; have HB := n0_; have BK310 := n1_; have GW310 := n2_; have GE310 := n3_; clear n0_ n1_ n2_ n3_; clear hb hbox hg; have hcz13_0 : w12.cell? ⟨gb310, 0, none⟩ = some (.slice A0_0 l0_0.length c0_0) := (blk_cell BK310.out 0).trans rfl; have hfz13_0 := blk_frozen BK310.out 0) | ((with_reducible refine gate_callee (f := 14) rfl ?_); refine goesL_ (some 11) rfl rfl Tryd.func14 (by kernel_rfl) rfl #[.agg #[.slice A0_0 l0_0.length c0_0], .int .i64 1048576] rfl (by (try simp only [List.map_toArray, List.map_cons, List.map_nil]); first | done | rfl | (simp only [List.length_drop, List.length_take]; rfl)) ?_; (with_reducible refine (laws_szGame.calls k _ _ l0_0 1048576 t311 _ ?side1 ?side2 A2.out).mono ?_); (case side1 => repeat (first | exact (Kd.C_below HR0_0.out HB.out) | (with_reducible refine Kd.C_alloc ?_ _) | (with_reducible refine Kd.C_drewN ?_ _) | (with_reducible refine Kd.C_drew ?_))); (case side2 => exact HC0_0.out); rintro e w14 ⟨rfl, hb⟩; refine ⟨_, rfl, ?_⟩; have n0_ := Aside0.mk (blk_below (g := gb310) (o := .cells #[.slice A0_0 l0_0.length c0_0] 40 (0, 0)) (by (with_reducible repeat (first | refine blk_drewN ?_ _ | refine blk_drew ?_ | refine blk_alloc ?_ _)); exact BK310.out) hb); have n1_ := Aside0.mk (below_step (by repeat (first | (with_reducible first | exact HB.out | apply below_alloc | apply pw_below_drewN | apply below_drew1 | refine below_set ?_ GE310.out) | exact HB.out)) hb); clear BK310; clear HB; have BK310 := n0_; have HB := n1_; clear n0_ n1_; (try clear hb); (try clear hb2); (try clear hk); (try clear hi); have hcz15_0 : w14.cell? ⟨gb310, 0, none⟩ = some (.slice A0_0 l0_0.length c0_0) := (blk_cell BK310.out 0).trans rfl; have hfz15_0 := blk_frozen BK310.out 0) | ((with_reducible refine gate_callee (f := 16) rfl ?_); refine goesL_ (some 16) rfl rfl Tryd.func16 (by kernel_rfl) rfl #[.agg #[.slice A0_0 l0_0.length c0_0]] rfl (by (try simp only [List.map_toArray, List.map_cons, List.map_nil]); first | done | rfl | (simp only [List.length_drop, List.length_take]; rfl)) ?_; (with_reducible refine (laws_toGame.calls k _ _ l0_0 t312 _ ?side1 ?side2 A7.out).mono ?_); (case side1 => repeat (first | exact (Kd.C_below HR0_0.out HB.out) | (with_reducible refine Kd.C_alloc ?_ _) | (with_reducible refine Kd.C_drewN ?_ _) | (with_reducible refine Kd.C_drew ?_))); (case side2 => exact HC0_0.out); rintro e w16 ⟨v313, rfl, ho0, hb⟩; refine ⟨_, rfl, ?_⟩; have n0_ := Aside0.mk (Kd.S_lower ho0 (below_size (by repeat (first | (with_reducible first | exact HB.out | apply below_alloc | apply pw_below_drewN | apply below_drew1 | refine below_set ?_ GE310.out) | exact HB.out)))); have n1_ := Aside0.mk (blk_below (g := gb310) (o := .cells #[.slice A0_0 l0_0.length c0_0] 40 (0, 0)) (by (with_reducible repeat (first | refine blk_drewN ?_ _ | refine blk_drew ?_ | refine blk_alloc ?_ _)); exact BK310.out) hb); have n2_ := Aside0.mk (below_step (by repeat (first | (with_reducible first | exact HB.out | apply below_alloc | apply pw_below_drewN | apply below_drew1 | refine below_set ?_ GE310.out) | exact HB.out)) hb); clear BK310; clear HB; have HO314 := n0_; have BK310 := n1_; have HB := n2_; clear n0_ n1_ n2_; (try clear hb); (try clear hb2); (try clear hk); (try clear hi); (try clear ho0); obtain ⟨Ao17, co17, eo17⟩ := Kd.S_slice HO314.out; subst eo17) | ((with_reducible refine gate_callee (f := 15) rfl ?_); refine goesL_ (some 17) rfl rfl Tryd.func15 (by kernel_rfl) rfl #[.agg #[.slice Ao17 t312.length co17]] rfl (by (try simp only [List.map_toArray, List.map_cons, List.map_nil]); first | done | rfl | (simp only [List.length_drop, List.length_take]; rfl)) ?_; (with_reducible refine (spec_GameText.calls k _ _ t312 t315 t316 _ ?side1 ?side2 A8.out).mono ?_); (case side1 => repeat (first | exact (Kd.S_reads' HO314.out).2.2 | (with_reducible refine Kd.C_alloc ?_ _) | (with_reducible refine Kd.C_drewN ?_ _) | (with_reducible refine Kd.C_drew ?_))); (case side2 => exact (Kd.S_reads' HO314.out).2.1); rintro e w18 ⟨rfl, hb⟩; refine ⟨_, rfl, ?_⟩; have n0_ := Aside0.mk (Kd.S_below (by (with_reducible repeat (first | apply Kd.S_alloc | apply Kd.S_drewN | apply Kd.S_drew)); exact HO314.out) hb); have n1_ := Aside0.mk (blk_below (g := gb310) (o := .cells #[.slice A0_0 l0_0.length c0_0] 40 (0, 0)) (by (with_reducible repeat (first | refine blk_drewN ?_ _ | refine blk_drew ?_ | refine blk_alloc ?_ _)); exact BK310.out) hb); have n2_ := Aside0.mk (below_step (by repeat (first | (with_reducible first | exact HB.out | apply below_alloc | apply pw_below_drewN | apply below_drew1 | refine below_set ?_ GE310.out) | exact HB.out)) hb); clear HO314; clear BK310; clear HB; have HO314 := n0_; have BK310 := n1_; have HB := n2_; clear n0_ n1_ n2_; (try clear hb); (try clear hb2); (try clear hk); (try clear hi); have hcz19_0 : w18.cell? ⟨gb310, 0, none⟩ = some (.slice A0_0 l0_0.length c0_0) := (blk_cell BK310.out 0).trans rfl; have hfz19_0 := blk_frozen BK310.out 0) | ((with_reducible refine gate_callee (f := 16) rfl ?_); refine goesL_ (some 21) rfl rfl Tryd.func16 (by kernel_rfl) rfl #[.agg #[.slice A0_0 l0_0.length c0_0]] rfl (by (try simp only [List.map_toArray, List.map_cons, List.map_nil]); first | done | rfl | (simp only [List.length_drop, List.length_take]; rfl)) ?_; (with_reducible refine (laws_toGame.calls k _ _ l0_0 t317 _ ?side1 ?side2 A9.out).mono ?_); (case side1 => repeat (first | exact (Kd.C_below HR0_0.out HB.out) | (with_reducible refine Kd.C_alloc ?_ _) | (with_reducible refine Kd.C_drewN ?_ _) | (with_reducible refine Kd.C_drew ?_))); (case side2 => exact HC0_0.out); rintro e w20 ⟨v318, rfl, ho0, hb⟩; refine ⟨_, rfl, ?_⟩; have n0_ := Aside0.mk (Kd.S_elder' (by (with_reducible repeat (first | apply Kd.S_alloc | apply Kd.S_drewN | apply Kd.S_drew)); exact HO314.out) (Kd.S_base ho0) hb); have n1_ := Aside0.mk (Kd.S_lower (Kd.S_new' ho0 (Kd.S_lt (by (with_reducible repeat (first | apply Kd.S_alloc | apply Kd.S_drewN | apply Kd.S_drew)); exact HO314.out))) (below_size (by repeat (first | (with_reducible first | exact HB.out | apply below_alloc | apply pw_below_drewN | apply below_drew1 | refine below_set ?_ GE310.out) | exact HB.out)))); have n2_ := Aside0.mk (blk_below (g := gb310) (o := .cells #[.slice A0_0 l0_0.length c0_0] 40 (0, 0)) (by (with_reducible repeat (first | refine blk_drewN ?_ _ | refine blk_drew ?_ | refine blk_alloc ?_ _)); exact BK310.out) hb); have n3_ := Aside0.mk (below_step (by repeat (first | (with_reducible first | exact HB.out | apply below_alloc | apply pw_below_drewN | apply below_drew1 | refine below_set ?_ GE310.out) | exact HB.out)) hb); clear HO314; clear BK310; clear HB; have HO314 := n0_; have HO319 := n1_; have BK310 := n2_; have HB := n3_; clear n0_ n1_ n2_ n3_; (try clear hb); (try clear hb2); (try clear hk); (try clear hi); (try clear ho0)) | ((with_reducible refine gate_dst (N := 6) rfl ?_); refine box_event ?hg (N := 6) ?hd (cs := #[.slice none 0 0]) (t := 43) ?hr ?_; (case hd => rfl); (case hg => rfl); (case hr => first | (go_simp; done) | (go_simp; rfl)); intro gb320 hg w21 hbox hb; have n0_ := Aside0.mk (Kd.S_below (by (with_reducible repeat (first | apply Kd.S_alloc | apply Kd.S_drewN | apply Kd.S_drew)); exact HO314.out) hb); have n1_ := Aside0.mk (Kd.S_below (by (with_reducible repeat (first | apply Kd.S_alloc | apply Kd.S_drewN | apply Kd.S_drew)); exact HO319.out) hb); have n2_ := Aside0.mk (blk_below (g := gb310) (o := .cells #[.slice A0_0 l0_0.length c0_0] 40 (0, 0)) (by (with_reducible repeat (first | refine blk_drewN ?_ _ | refine blk_drew ?_ | refine blk_alloc ?_ _)); exact BK310.out) hb); have n3_ := Aside0.mk (below_step (by repeat (first | (with_reducible first | exact HB.out | apply below_alloc | apply pw_below_drewN | apply below_drew1 | refine below_set ?_ GE310.out) | exact HB.out)) hb); have n4_ := Aside0.mk (hbox); have n5_ := Aside0.mk ((by rw [hg]; exact (below_size (by repeat (first | (with_reducible first | exact HB.out | apply below_alloc | apply pw_below_drewN | apply below_drew1 | refine below_set ?_ GE310.out) | exact HB.out))) : w.heap.size ≤ gb320)); have n6_ := Aside0.mk ((by rw [hg]; exact (below_size (by repeat (first | (with_reducible first | exact HB.out | apply below_alloc | apply pw_below_drewN | apply below_drew1 | refine below_set ?_ GE310.out) | exact HB.out))) : w.heap.size ≤ gb320)); have n7_ := Aside0.mk ((by rw [hg]; exact Nat.ne_of_lt (blk_lt (g := gb310) (o := .cells #[.slice A0_0 l0_0.length c0_0] 40 (0, 0)) (by (with_reducible repeat (first | refine blk_drewN ?_ _ | refine blk_drew ?_ | refine blk_alloc ?_ _)); exact BK310.out)) : gb310 ≠ gb320)); have n8_ := Aside0.mk ((by rw [hg]; exact Nat.ne_of_gt (blk_lt (g := gb310) (o := .cells #[.slice A0_0 l0_0.length c0_0] 40 (0, 0)) (by (with_reducible repeat (first | refine blk_drewN ?_ _ | refine blk_drew ?_ | refine blk_alloc ?_ _)); exact BK310.out)) : gb320 ≠ gb310)); clear HO314; clear HO319; clear BK310; clear HB; have HO314 := n0_; have HO319 := n1_; have BK310 := n2_; have HB := n3_; have BK320 := n4_; have GW320 := n5_; have GE320 := n6_; have NB310_320 := n7_; have NB320_310 := n8_; clear n0_ n1_ n2_ n3_ n4_ n5_ n6_ n7_ n8_; clear hb hbox hg; obtain ⟨Ao22, co22, eo22⟩ := Kd.S_slice HO319.out; subst eo22; have hnb23 := NB320_310.out; have hnc23 := NB310_320.out; have hcz24_0 : w21.cell? ⟨gb320, 0, none⟩ = some (.slice none 0 0) := (blk_cell BK320.out 0).trans rfl; have hfz24_0 := blk_frozen BK320.out 0) | ((with_reducible refine gate_callee (f := 17) rfl ?_); refine goesL_ (some 24) rfl rfl Tryd.func17 (by kernel_rfl) rfl #[.agg #[.slice Ao22 t317.length co22]] rfl (by (try simp only [List.map_toArray, List.map_cons, List.map_nil]); first | done | rfl | (simp only [List.length_drop, List.length_take]; rfl)) ?_; (with_reducible refine (impl_GameText.calls k _ _ t317 t321 t322 _ ?side1 ?side2 A10.out).mono ?_); (case side1 => refine (Kd.S_reads' (e := 29) (base := w.heap.size) (ok := fun k_ => (True ∧ some k_ ≠ (.slice Ao17 t312.length co17 : Value).ownBlock)) (n := t317.length) (c := co22) ?_).2.2; exact (by (with_reducible repeat (first | apply Kd.S_alloc | apply Kd.S_drewN | apply Kd.S_drew)); exact (Kd.S_mono (Kd.S_far (p := ⟨gb320, 0, none⟩) (Kd.S_types HO319.out BK320.out (by decide)) (fun _ hk => hk.2) (.slice Ao22 t317.length co22)) (fun _ h_ => h_.1)))); (case side2 => exact (Kd.S_reads' HO319.out).2.1); rintro e w25 ⟨rfl, hb⟩; refine ⟨_, rfl, ?_⟩; have n0_ := Aside0.mk (Kd.S_below (by (with_reducible repeat (first | apply Kd.S_alloc | apply Kd.S_drewN | apply Kd.S_drew)); exact (Kd.S_mono (Kd.S_far (p := ⟨gb320, 0, none⟩) (Kd.S_types HO314.out BK320.out (by decide)) (fun _ hk => hk.2) (.slice Ao22 t317.length co22)) (fun _ h_ => h_.1))) hb); have n1_ := Aside0.mk (Kd.S_below (by (with_reducible repeat (first | apply Kd.S_alloc | apply Kd.S_drewN | apply Kd.S_drew)); exact (Kd.S_mono (Kd.S_far (p := ⟨gb320, 0, none⟩) (Kd.S_types HO319.out BK320.out (by decide)) (fun _ hk => hk.2) (.slice Ao22 t317.length co22)) (fun _ h_ => h_.1))) hb); have n2_ := Aside0.mk (blk_below (g := gb310) (o := .cells #[.slice A0_0 l0_0.length c0_0] 40 (0, 0)) (by (with_reducible repeat (first | refine blk_drewN ?_ _ | refine blk_drew ?_ | refine blk_alloc ?_ _)); refine blk_far ?_ NB310_320.out _; (with_reducible repeat (first | refine blk_drewN ?_ _ | refine blk_drew ?_ | refine blk_alloc ?_ _)); exact BK310.out) hb); have n3_ := Aside0.mk (blk_below (g := gb320) (o := .cells #[.slice Ao22 t317.length co22] 43 (0, 0)) (by (with_reducible repeat (first | refine blk_drewN ?_ _ | refine blk_drew ?_ | refine blk_alloc ?_ _)); refine blk_put (cs := #[.slice none 0 0]) ?_ 0 _ rfl; (with_reducible repeat (first | refine blk_drewN ?_ _ | refine blk_drew ?_ | refine blk_alloc ?_ _)); exact BK320.out) hb); have n4_ := Aside0.mk (below_step (by repeat (first | (with_reducible first | exact HB.out | apply below_alloc | apply pw_below_drewN | apply below_drew1 | refine below_set ?_ GE310.out | refine below_set ?_ GE320.out) | exact HB.out)) hb); clear HO314; clear HO319; clear BK310; clear BK320; clear HB; have HO314 := n0_; have HO319 := n1_; have BK310 := n2_; have BK320 := n3_; have HB := n4_; clear n0_ n1_ n2_ n3_ n4_; (try clear hb); (try clear hb2); (try clear hk); (try clear hi)))
    (try simp only [Act.put, List.setIfInBounds_toArray, List.set_cons_zero, List.set_cons_succ])
    go_cut [34] (fun v34 wc => ∃ (kq : Nat) (x34_10 : Bool), v34 = .bool x34_10 ∧ Aside0 (laws_FnExactGameText.j0 kq x34_10 l0_0 t317 = some r) ∧ Aside0 (kq ≤ k) ∧ Aside0 (Kd.S (Kd.slice 2 (Kd.int .i64)) 29 wc w.heap.size (fun _ => True) (.slice Ao22 t317.length co22) t317) ∧ Aside0 (wc.heap[gb310]? = some (.cells #[(.slice A0_0 l0_0.length c0_0)] 40 (0, 0))) ∧ Aside0 (wc.heap[gb320]? = some (.cells #[(.slice Ao22 t317.length co22)] 43 (0, 0))) ∧ Aside0 (Below w.heap.size w wc))
    case first =>
      have H := HC11.out
      clear HC11
      by_cases c26 : t321.toList = t315.toList
      · rw [if_pos c26] at H
        have c26b0 : (t321.toList == t315.toList) = true := beq_iff_eq.mpr c26
        have c26b1 : (t321.toList != t315.toList) = false := bne_eq_false_iff_eq.mpr c26
        clear c26
        (first | rw [c26b0] | (simp only [i64_w, i32_w]; rw [c26b0]) | skip)
        have H' := Aside0.mk H
        clear H
        go_wp2
        go_meet
        case rel => exact ⟨_, ((t322 != t316)), (by first | rfl | (simp; done) | (simp [*]; done)), H', ⟨by first | omega | exact Nat.le_refl _⟩, ⟨by (with_reducible repeat (first | apply Kd.S_alloc | apply Kd.S_drewN | apply Kd.S_drew)); exact Kd.S_mono HO319.out (fun _ hk => trivial)⟩, ⟨by (with_reducible repeat (first | refine blk_drewN ?_ _ | refine blk_drew ?_ | refine blk_alloc ?_ _)); exact BK310.out⟩, ⟨by (with_reducible repeat (first | refine blk_drewN ?_ _ | refine blk_drew ?_ | refine blk_alloc ?_ _)); exact BK320.out⟩, ⟨by repeat (first | (with_reducible first | exact HB.out | apply below_alloc | apply pw_below_drewN | apply below_drew1 | refine below_set ?_ GE310.out | refine below_set ?_ GE320.out) | exact HB.out)⟩⟩
      · rw [if_neg c26] at H
        have c26b0 : (t321.toList == t315.toList) = false := beq_eq_false_iff_ne.mpr c26
        have c26b1 : (t321.toList != t315.toList) = true := bne_iff_ne.mpr c26
        (first | rw [c26b0] | (simp only [i64_w, i32_w]; rw [c26b0]) | skip)
        have H' := Aside0.mk H
        clear H
        go_wp2
        go_meet
        case rel => exact ⟨_, (true), (by first | rfl | (simp; done) | (simp [*]; done)), H', ⟨by first | omega | exact Nat.le_refl _⟩, ⟨by (with_reducible repeat (first | apply Kd.S_alloc | apply Kd.S_drewN | apply Kd.S_drew)); exact Kd.S_mono HO319.out (fun _ hk => trivial)⟩, ⟨by (with_reducible repeat (first | refine blk_drewN ?_ _ | refine blk_drew ?_ | refine blk_alloc ?_ _)); exact BK310.out⟩, ⟨by (with_reducible repeat (first | refine blk_drewN ?_ _ | refine blk_drew ?_ | refine blk_alloc ?_ _)); exact BK320.out⟩, ⟨by repeat (first | (with_reducible first | exact HB.out | apply below_alloc | apply pw_below_drewN | apply below_drew1 | refine below_set ?_ GE310.out | refine below_set ?_ GE320.out) | exact HB.out)⟩⟩
    case rest =>
      clear HC11
      try clear c1
      try clear c2
      try clear p2
      try clear c3
      try clear c3b0
      try clear c5
      try clear c14
      try clear c15
      try clear c16
      try clear c17
      try clear c23
      try clear c26
      try clear c26b0
      try clear c26b1
      try clear hcz13_0
      try clear hcz15_0
      try clear hcz19_0
      try clear hcz24_0
      try clear hcz5_0
      try clear hfz13_0
      try clear hfz15_0
      try clear hfz19_0
      try clear hfz24_0
      try clear hfz5_0
      obtain ⟨kq, x34_10, rfl, HA, HJ10, HO_321000, BK310, BK320, HB⟩ := hcut
      cases kq with
      | zero => exact absurd HA.out (by simp [laws_FnExactGameText.j0])
      | succ kj10 =>
        have H := HA.out
        clear HA
        simp only [laws_FnExactGameText.j0] at H
        by_cases c27 : x34_10 = true
        · subst c27
          have H1 : (some false) = some r := by rw [if_pos rfl] at H; exact H
          clear H
          have H := H1
          clear H1
          obtain rfl := Option.some.inj H
          go_wp2
          go_ret
          exact ⟨by first | rfl | (simp [errW_none, errW_some] <;> rfl) | (simp [*, errW_none, errW_some] <;> rfl), by repeat (first | (with_reducible first | exact HB.out | apply below_alloc | apply pw_below_drewN | apply below_drew1 | refine below_set ?_ GE310.out | refine below_set ?_ GE320.out) | exact HB.out)⟩
        · replace c27 := Bool.eq_false_iff.mpr c27
          subst c27
          have H1 : ((laws_toGame.f kj10 l0_0).bind fun t323 => ((laws_eqGame.f kj10 t317 t323).bind fun t326 => (if t326 = true then (some true) else (some false)))) = some r := by rw [if_neg (show ¬ (false = true) by decide)] at H; exact H
          clear H
          have H := H1
          clear H1
          replace H := Option.bind_eq_some_iff.mp H
          obtain ⟨t323, A280, H⟩ := H
          replace H : ((laws_eqGame.f kj10 t317 t323).bind fun t326 => (if t326 = true then (some true) else (some false))) = some r := H
          have A28 := Aside0.mk A280
          clear A280
          replace H := Option.bind_eq_some_iff.mp H
          obtain ⟨t326, A290, H⟩ := H
          replace H : (if t326 = true then (some true) else (some false)) = some r := H
          have A29 := Aside0.mk A290
          clear A290
          by_cases c30 : t326 = true
          · subst c30
            have H1 : (some true) = some r := by rw [if_pos rfl] at H; exact H
            clear H
            have H := H1
            clear H1
            obtain rfl := Option.some.inj H
            try go_wp2
            have n0_ := Aside0.mk (Kd.S_drew HO_321000.out)
            have n1_ := Aside0.mk (blk_drew BK310.out)
            have n2_ := Aside0.mk (blk_drew BK320.out)
            have n3_ := Aside0.mk (below_drew1 HB.out)
            clear HO_321000
            clear BK310
            clear BK320
            clear HB
            have HO_321000 := n0_
            have BK310 := n1_
            have BK320 := n2_
            have HB := n3_
            clear n0_ n1_ n2_ n3_
            refine start_ (n := 5) (S := fun w' => w'.cell? ⟨gb320, 0, none⟩ = some (.slice Ao22 t317.length co22) ∧ w'.cell? ⟨gb310, 0, none⟩ = some (.slice A0_0 l0_0.length c0_0)) (ds := []) #[false, false, false, false, false] (by kernel_rfl) rfl rfl ⟨(blk_cell BK320.out 0).trans rfl, (blk_cell BK310.out 0).trans rfl⟩ (fun hHeld => ?_)
            generalize wc.drew = w31 at HO_321000 BK310 BK320 HB hHeld ⊢
            refine take_ (i := 0) (N := some 35) (v := ?_) (a' := ?_) #[true, false, false, false, false] rfl rfl (by kernel_rfl) (fun _ _ _ h => h) (Or.inl ⟨by rfl, ?_⟩) hHeld ?_ ?_
            rotate_left
            · rintro w' ⟨s0, s1⟩
              go_simp
              with_reducible rfl
            rotate_left
            · simp only [Act.put, List.setIfInBounds_toArray, List.set_cons_zero, List.set_cons_succ, i64_w, i32_w]
              rfl
            refine take_ (i := 1) (N := some 36) (v := ?_) (a' := ?_) #[true, true, false, false, false] rfl rfl (by kernel_rfl) (fun _ _ _ h => h) (Or.inl ⟨by rfl, ?_⟩) hHeld ?_ ?_
            rotate_left
            · rintro w' ⟨s0, s1⟩
              go_simp
              with_reducible rfl
            rotate_left
            · simp only [Act.put, List.setIfInBounds_toArray, List.set_cons_zero, List.set_cons_succ, i64_w, i32_w]
              rfl
            refine one_ (i := 2) (N := some 37) #[true, true, true, false, false] rfl rfl (by kernel_rfl) (by decide) (fun K hK => ?_)
            refine goes_ Tryd.func16 (by kernel_rfl) rfl #[.agg #[.slice A0_0 l0_0.length c0_0]] (by rfl) rfl rfl (by (try simp only [List.map_toArray, List.map_cons, List.map_nil]); first | done | rfl | (simp only [List.length_drop, List.length_take]; rfl)) ?_
            with_reducible refine (laws_toGame.calls kj10 _ _ l0_0 t323 _ ?side1 ?side2 A28.out).mono ?_
            (case side1 => repeat (first | exact (Kd.C_below HR0_0.out HB.out) | (with_reducible refine Kd.C_alloc ?_ _) | (with_reducible refine Kd.C_drewN ?_ _) | (with_reducible refine Kd.C_drew ?_)))
            (case side2 => exact HC0_0.out)
            rintro e w32 ⟨v324, rfl, ho0, hb⟩
            refine ⟨_, rfl, ?_⟩
            have n0_ := Aside0.mk (Kd.S_elder' (by (with_reducible repeat (first | apply Kd.S_alloc | apply Kd.S_drewN | apply Kd.S_drew)); exact HO_321000.out) (Kd.S_base ho0) hb)
            have n1_ := Aside0.mk (Kd.S_lower (Kd.S_new' ho0 (Kd.S_lt (by (with_reducible repeat (first | apply Kd.S_alloc | apply Kd.S_drewN | apply Kd.S_drew)); exact HO_321000.out))) (below_size (by repeat (first | (with_reducible first | exact HB.out | apply below_alloc | apply pw_below_drewN | apply below_drew1 | refine below_set ?_ GE310.out | refine below_set ?_ GE320.out) | exact HB.out))))
            have n2_ := Aside0.mk (blk_below (g := gb310) (o := .cells #[.slice A0_0 l0_0.length c0_0] 40 (0, 0)) (by (with_reducible repeat (first | refine blk_drewN ?_ _ | refine blk_drew ?_ | refine blk_alloc ?_ _)); exact BK310.out) hb)
            have n3_ := Aside0.mk (blk_below (g := gb320) (o := .cells #[.slice Ao22 t317.length co22] 43 (0, 0)) (by (with_reducible repeat (first | refine blk_drewN ?_ _ | refine blk_drew ?_ | refine blk_alloc ?_ _)); exact BK320.out) hb)
            have n4_ := Aside0.mk (below_step (by repeat (first | (with_reducible first | exact HB.out | apply below_alloc | apply pw_below_drewN | apply below_drew1 | refine below_set ?_ GE310.out | refine below_set ?_ GE320.out) | exact HB.out)) hb)
            clear HO_321000
            clear BK310
            clear BK320
            clear HB
            have HO_321000 := n0_
            have HO325 := n1_
            have BK310 := n2_
            have BK320 := n3_
            have HB := n4_
            clear n0_ n1_ n2_ n3_ n4_
            (try clear hb)
            (try clear hb2)
            (try clear hk)
            (try clear hi)
            (try clear ho0)
            obtain ⟨Ao33, co33, eo33⟩ := Kd.S_slice HO325.out
            (first | subst eo33 | (injection eo33 with f1_ f2_ f3_; have f4_ := f1_.symm; have f5_ := f3_.symm; clear f1_ f2_ f3_; subst f4_; subst f5_))
            refine hK.out _ _ ⟨(blk_cell BK320.out 0).trans rfl, (blk_cell BK310.out 0).trans rfl⟩ (fun hHeld => ?_)
            clear hK K
            refine norm_ (a' := ?_) ?_ ?_
            rotate_left
            · show Act.put _ (some 37) _ = _
              simp only [Act.put, List.setIfInBounds_toArray, List.set_cons_zero, List.set_cons_succ, i64_w, i32_w]
              rfl
            refine one_ (i := 3) (N := some 38) #[true, true, true, true, false] rfl rfl (by kernel_rfl) (by decide) (fun K hK => ?_)
            refine goes_ Tryd.func18 (by kernel_rfl) rfl #[.agg #[.slice Ao22 t317.length co22], .agg #[.slice Ao33 t323.length co33]] (by rfl) rfl rfl (by (try simp only [List.map_toArray, List.map_cons, List.map_nil]); first | done | rfl | (simp only [List.length_drop, List.length_take]; rfl)) ?_
            with_reducible refine (laws_eqGame.calls kj10 _ _ t317 _ _ t323 true _ ?side1 ?side2 ?side3 ?side4 A29.out).mono ?_
            (case side1 => repeat (first | exact (Kd.S_reads' HO_321000.out).2.2 | (with_reducible refine Kd.C_alloc ?_ _) | (with_reducible refine Kd.C_drewN ?_ _) | (with_reducible refine Kd.C_drew ?_)))
            (case side2 => exact (Kd.S_reads' HO_321000.out).2.1)
            (case side3 => repeat (first | exact (Kd.S_reads' HO325.out).2.2 | (with_reducible refine Kd.C_alloc ?_ _) | (with_reducible refine Kd.C_drewN ?_ _) | (with_reducible refine Kd.C_drew ?_)))
            (case side4 => exact (Kd.S_reads' HO325.out).2.1)
            rintro e w34 ⟨rfl, hb⟩
            refine ⟨_, rfl, ?_⟩
            have n0_ := Aside0.mk (Kd.S_below (by (with_reducible repeat (first | apply Kd.S_alloc | apply Kd.S_drewN | apply Kd.S_drew)); exact HO_321000.out) hb)
            have n1_ := Aside0.mk (Kd.S_below (by (with_reducible repeat (first | apply Kd.S_alloc | apply Kd.S_drewN | apply Kd.S_drew)); exact HO325.out) hb)
            have n2_ := Aside0.mk (blk_below (g := gb310) (o := .cells #[.slice A0_0 l0_0.length c0_0] 40 (0, 0)) (by (with_reducible repeat (first | refine blk_drewN ?_ _ | refine blk_drew ?_ | refine blk_alloc ?_ _)); exact BK310.out) hb)
            have n3_ := Aside0.mk (blk_below (g := gb320) (o := .cells #[.slice Ao22 t317.length co22] 43 (0, 0)) (by (with_reducible repeat (first | refine blk_drewN ?_ _ | refine blk_drew ?_ | refine blk_alloc ?_ _)); exact BK320.out) hb)
            have n4_ := Aside0.mk (below_step (by repeat (first | (with_reducible first | exact HB.out | apply below_alloc | apply pw_below_drewN | apply below_drew1 | refine below_set ?_ GE310.out | refine below_set ?_ GE320.out) | exact HB.out)) hb)
            clear HO_321000
            clear HO325
            clear BK310
            clear BK320
            clear HB
            have HO_321000 := n0_
            have HO325 := n1_
            have BK310 := n2_
            have BK320 := n3_
            have HB := n4_
            clear n0_ n1_ n2_ n3_ n4_
            (try clear hb)
            (try clear hb2)
            (try clear hk)
            (try clear hi)
            refine hK.out _ _ ⟨(blk_cell BK320.out 0).trans rfl, (blk_cell BK310.out 0).trans rfl⟩ (fun hHeld => ?_)
            clear hK K
            refine norm_ (a' := ?_) ?_ ?_
            rotate_left
            · show Act.put _ (some 38) _ = _
              simp only [Act.put, List.setIfInBounds_toArray, List.set_cons_zero, List.set_cons_succ, i64_w, i32_w]
              rfl
            refine pure_ (i := 4) (N := some 39) (v := ?_) (a' := ?_) #[true, true, true, true, true] rfl rfl (by kernel_rfl) (fun _ _ _ h => h) (Or.inl ⟨by rfl, ?_⟩) ?_ ?_
            rotate_left
            · intro w'
              go_simp
              with_reducible rfl
            rotate_left
            · simp only [Act.put, List.setIfInBounds_toArray, List.set_cons_zero, List.set_cons_succ, i64_w, i32_w]
              rfl
            refine done_ (by kernel_rfl) ?_
            try go_wp2
            go_ret
            exact ⟨by first | rfl | (simp [errW_none, errW_some] <;> rfl) | (simp [*, errW_none, errW_some] <;> rfl), by repeat (first | (with_reducible first | exact HB.out | apply below_alloc | apply pw_below_drewN | apply below_drew1 | refine below_set ?_ GE310.out | refine below_set ?_ GE320.out) | exact HB.out)⟩
          · replace c30 := Bool.eq_false_iff.mpr c30
            subst c30
            have H1 : (some false) = some r := by rw [if_neg (show ¬ (false = true) by decide)] at H; exact H
            clear H
            have H := H1
            clear H1
            obtain rfl := Option.some.inj H
            try go_wp2
            have n0_ := Aside0.mk (Kd.S_drew HO_321000.out)
            have n1_ := Aside0.mk (blk_drew BK310.out)
            have n2_ := Aside0.mk (blk_drew BK320.out)
            have n3_ := Aside0.mk (below_drew1 HB.out)
            clear HO_321000
            clear BK310
            clear BK320
            clear HB
            have HO_321000 := n0_
            have BK310 := n1_
            have BK320 := n2_
            have HB := n3_
            clear n0_ n1_ n2_ n3_
            refine start_ (n := 5) (S := fun w' => w'.cell? ⟨gb320, 0, none⟩ = some (.slice Ao22 t317.length co22) ∧ w'.cell? ⟨gb310, 0, none⟩ = some (.slice A0_0 l0_0.length c0_0)) (ds := []) #[false, false, false, false, false] (by kernel_rfl) rfl rfl ⟨(blk_cell BK320.out 0).trans rfl, (blk_cell BK310.out 0).trans rfl⟩ (fun hHeld => ?_)
            generalize wc.drew = w35 at HO_321000 BK310 BK320 HB hHeld ⊢
            refine take_ (i := 0) (N := some 35) (v := ?_) (a' := ?_) #[true, false, false, false, false] rfl rfl (by kernel_rfl) (fun _ _ _ h => h) (Or.inl ⟨by rfl, ?_⟩) hHeld ?_ ?_
            rotate_left
            · rintro w' ⟨s0, s1⟩
              go_simp
              with_reducible rfl
            rotate_left
            · simp only [Act.put, List.setIfInBounds_toArray, List.set_cons_zero, List.set_cons_succ, i64_w, i32_w]
              rfl
            refine take_ (i := 1) (N := some 36) (v := ?_) (a' := ?_) #[true, true, false, false, false] rfl rfl (by kernel_rfl) (fun _ _ _ h => h) (Or.inl ⟨by rfl, ?_⟩) hHeld ?_ ?_
            rotate_left
            · rintro w' ⟨s0, s1⟩
              go_simp
              with_reducible rfl
            rotate_left
            · simp only [Act.put, List.setIfInBounds_toArray, List.set_cons_zero, List.set_cons_succ, i64_w, i32_w]
              rfl
            refine one_ (i := 2) (N := some 37) #[true, true, true, false, false] rfl rfl (by kernel_rfl) (by decide) (fun K hK => ?_)
            refine goes_ Tryd.func16 (by kernel_rfl) rfl #[.agg #[.slice A0_0 l0_0.length c0_0]] (by rfl) rfl rfl (by (try simp only [List.map_toArray, List.map_cons, List.map_nil]); first | done | rfl | (simp only [List.length_drop, List.length_take]; rfl)) ?_
            with_reducible refine (laws_toGame.calls kj10 _ _ l0_0 t323 _ ?side1 ?side2 A28.out).mono ?_
            (case side1 => repeat (first | exact (Kd.C_below HR0_0.out HB.out) | (with_reducible refine Kd.C_alloc ?_ _) | (with_reducible refine Kd.C_drewN ?_ _) | (with_reducible refine Kd.C_drew ?_)))
            (case side2 => exact HC0_0.out)
            rintro e w36 ⟨v324, rfl, ho0, hb⟩
            refine ⟨_, rfl, ?_⟩
            have n0_ := Aside0.mk (Kd.S_elder' (by (with_reducible repeat (first | apply Kd.S_alloc | apply Kd.S_drewN | apply Kd.S_drew)); exact HO_321000.out) (Kd.S_base ho0) hb)
            have n1_ := Aside0.mk (Kd.S_lower (Kd.S_new' ho0 (Kd.S_lt (by (with_reducible repeat (first | apply Kd.S_alloc | apply Kd.S_drewN | apply Kd.S_drew)); exact HO_321000.out))) (below_size (by repeat (first | (with_reducible first | exact HB.out | apply below_alloc | apply pw_below_drewN | apply below_drew1 | refine below_set ?_ GE310.out | refine below_set ?_ GE320.out) | exact HB.out))))
            have n2_ := Aside0.mk (blk_below (g := gb310) (o := .cells #[.slice A0_0 l0_0.length c0_0] 40 (0, 0)) (by (with_reducible repeat (first | refine blk_drewN ?_ _ | refine blk_drew ?_ | refine blk_alloc ?_ _)); exact BK310.out) hb)
            have n3_ := Aside0.mk (blk_below (g := gb320) (o := .cells #[.slice Ao22 t317.length co22] 43 (0, 0)) (by (with_reducible repeat (first | refine blk_drewN ?_ _ | refine blk_drew ?_ | refine blk_alloc ?_ _)); exact BK320.out) hb)
            have n4_ := Aside0.mk (below_step (by repeat (first | (with_reducible first | exact HB.out | apply below_alloc | apply pw_below_drewN | apply below_drew1 | refine below_set ?_ GE310.out | refine below_set ?_ GE320.out) | exact HB.out)) hb)
            clear HO_321000
            clear BK310
            clear BK320
            clear HB
            have HO_321000 := n0_
            have HO325 := n1_
            have BK310 := n2_
            have BK320 := n3_
            have HB := n4_
            clear n0_ n1_ n2_ n3_ n4_
            (try clear hb)
            (try clear hb2)
            (try clear hk)
            (try clear hi)
            (try clear ho0)
            obtain ⟨Ao37, co37, eo37⟩ := Kd.S_slice HO325.out
            (first | subst eo37 | (injection eo37 with f1_ f2_ f3_; have f4_ := f1_.symm; have f5_ := f3_.symm; clear f1_ f2_ f3_; subst f4_; subst f5_))
            refine hK.out _ _ ⟨(blk_cell BK320.out 0).trans rfl, (blk_cell BK310.out 0).trans rfl⟩ (fun hHeld => ?_)
            clear hK K
            refine norm_ (a' := ?_) ?_ ?_
            rotate_left
            · show Act.put _ (some 37) _ = _
              simp only [Act.put, List.setIfInBounds_toArray, List.set_cons_zero, List.set_cons_succ, i64_w, i32_w]
              rfl
            refine one_ (i := 3) (N := some 38) #[true, true, true, true, false] rfl rfl (by kernel_rfl) (by decide) (fun K hK => ?_)
            refine goes_ Tryd.func18 (by kernel_rfl) rfl #[.agg #[.slice Ao22 t317.length co22], .agg #[.slice Ao37 t323.length co37]] (by rfl) rfl rfl (by (try simp only [List.map_toArray, List.map_cons, List.map_nil]); first | done | rfl | (simp only [List.length_drop, List.length_take]; rfl)) ?_
            with_reducible refine (laws_eqGame.calls kj10 _ _ t317 _ _ t323 false _ ?side1 ?side2 ?side3 ?side4 A29.out).mono ?_
            (case side1 => repeat (first | exact (Kd.S_reads' HO_321000.out).2.2 | (with_reducible refine Kd.C_alloc ?_ _) | (with_reducible refine Kd.C_drewN ?_ _) | (with_reducible refine Kd.C_drew ?_)))
            (case side2 => exact (Kd.S_reads' HO_321000.out).2.1)
            (case side3 => repeat (first | exact (Kd.S_reads' HO325.out).2.2 | (with_reducible refine Kd.C_alloc ?_ _) | (with_reducible refine Kd.C_drewN ?_ _) | (with_reducible refine Kd.C_drew ?_)))
            (case side4 => exact (Kd.S_reads' HO325.out).2.1)
            rintro e w38 ⟨rfl, hb⟩
            refine ⟨_, rfl, ?_⟩
            have n0_ := Aside0.mk (Kd.S_below (by (with_reducible repeat (first | apply Kd.S_alloc | apply Kd.S_drewN | apply Kd.S_drew)); exact HO_321000.out) hb)
            have n1_ := Aside0.mk (Kd.S_below (by (with_reducible repeat (first | apply Kd.S_alloc | apply Kd.S_drewN | apply Kd.S_drew)); exact HO325.out) hb)
            have n2_ := Aside0.mk (blk_below (g := gb310) (o := .cells #[.slice A0_0 l0_0.length c0_0] 40 (0, 0)) (by (with_reducible repeat (first | refine blk_drewN ?_ _ | refine blk_drew ?_ | refine blk_alloc ?_ _)); exact BK310.out) hb)
            have n3_ := Aside0.mk (blk_below (g := gb320) (o := .cells #[.slice Ao22 t317.length co22] 43 (0, 0)) (by (with_reducible repeat (first | refine blk_drewN ?_ _ | refine blk_drew ?_ | refine blk_alloc ?_ _)); exact BK320.out) hb)
            have n4_ := Aside0.mk (below_step (by repeat (first | (with_reducible first | exact HB.out | apply below_alloc | apply pw_below_drewN | apply below_drew1 | refine below_set ?_ GE310.out | refine below_set ?_ GE320.out) | exact HB.out)) hb)
            clear HO_321000
            clear HO325
            clear BK310
            clear BK320
            clear HB
            have HO_321000 := n0_
            have HO325 := n1_
            have BK310 := n2_
            have BK320 := n3_
            have HB := n4_
            clear n0_ n1_ n2_ n3_ n4_
            (try clear hb)
            (try clear hb2)
            (try clear hk)
            (try clear hi)
            refine hK.out _ _ ⟨(blk_cell BK320.out 0).trans rfl, (blk_cell BK310.out 0).trans rfl⟩ (fun hHeld => ?_)
            clear hK K
            refine norm_ (a' := ?_) ?_ ?_
            rotate_left
            · show Act.put _ (some 38) _ = _
              simp only [Act.put, List.setIfInBounds_toArray, List.set_cons_zero, List.set_cons_succ, i64_w, i32_w]
              rfl
            refine pure_ (i := 4) (N := some 39) (v := ?_) (a' := ?_) #[true, true, true, true, true] rfl rfl (by kernel_rfl) (fun _ _ _ h => h) (Or.inl ⟨by rfl, ?_⟩) ?_ ?_
            rotate_left
            · intro w'
              go_simp
              with_reducible rfl
            rotate_left
            · simp only [Act.put, List.setIfInBounds_toArray, List.set_cons_zero, List.set_cons_succ, i64_w, i32_w]
              rfl
            refine done_ (by kernel_rfl) ?_
            try go_wp2
            go_ret
            exact ⟨by first | rfl | (simp [errW_none, errW_some] <;> rfl) | (simp [*, errW_none, errW_some] <;> rfl), by repeat (first | (with_reducible first | exact HB.out | apply below_alloc | apply pw_below_drewN | apply below_drew1 | refine below_set ?_ GE310.out | refine below_set ?_ GE320.out) | exact HB.out)⟩

end Go.Proofs.YthcnblclmlkoiaaDoor.PX

/- Decimal numerals from 0 to 99, and lists of them joined: both sides (conditions: numbers from 0 to 99; sizes that fit). -/
namespace Go.Proofs.YthcnblclmlkoiaaDoor.PX
open Go.RowKit Go.Proofs.YthcnblclmlkoiaaDoorW.PrintWords Go.Proofs.YthcnblclmlkoiaaDoorW.PrintLast Go.Proofs.YthcnblclmlkoiaaDoorW.PrintMore
attribute [local go_sem] max2_int min2_int max_two min_two max_three min_three max_four min_four
set_option linter.unusedVariables false
set_option linter.unusedSimpArgs false
def bs (l : List UInt8) : ByteArray := ⟨l.toArray⟩
theorem bs_append (a b : List UInt8) : bs a ++ bs b = bs (a ++ b) := ByteArray.ext (by rw [ByteArray.data_append]; simp [bs])
theorem bs_size (a : List UInt8) : (bs a).size = a.length := by simp [bs, ByteArray.size]
theorem bs_data (a : List UInt8) : (bs a).data.toList = a := by simp [bs]
def dig (n : Int) : List UInt8 := Lib.decDigits n.toNat
theorem dig_len {n : Int} (h0 : 0 ≤ n) (h1 : n < 100) : (dig n).length ≤ 2 := by
  unfold dig
  by_cases h : n.toNat < 10
  · rw [Lib.decDigits_one h]; simp
  · rw [Lib.decDigits_two h (by omega)]; simp
theorem format_eq {n : Int} (h0 : 0 ≤ n) (h1 : n < 100) : impl_decimal.f n = some (bs (dig n)) := by
  unfold impl_decimal.f strconv_FormatInt.f
  rw [if_pos ⟨h0, h1, rfl⟩]
  rfl
theorem u8_of {n : Int} (h0 : 0 ≤ n) (h1 : n < 10) : bs [UInt8.ofNat (48 + n.toNat)] = strOfNums [(wrap64 (48 + n)) % 256] := by
  have e : (wrap64 (48 + n)) % 256 = ((48 + n.toNat : Nat) : Int) := by unfold wrap64; omega
  rw [e]
  rfl
theorem dec_one {n : Int} (h0 : 0 ≤ n) (h1 : n < 10) : Ev (fun k => spec_l01Dec.f k n) (bs (dig n)) := by
  refine Ev.step (f := fun _ => some (bs (dig n))) (fun k => ?_) (Ev.now _)
  rw [spec_l01Dec.f, if_neg (by omega), if_pos h1]
  unfold dig
  rw [Lib.decDigits_one (by omega), u8_of h0 h1]
theorem dec_ev {n : Int} (h0 : 0 ≤ n) (h1 : n < 100) : Ev (fun k => spec_l01Dec.f k n) (bs (dig n)) := by
  by_cases h : n < 10
  · exact dec_one h0 h
  · have ed : wrap64 (Int.tdiv n 10) = n / 10 := by rw [Int.tdiv_eq_ediv_of_nonneg h0]; unfold wrap64; omega
    have em : Int.tmod n 10 = n % 10 := Int.tmod_eq_emod_of_nonneg h0
    refine Ev.step (fun k => by rw [spec_l01Dec.f, if_neg (by omega), if_neg h, ed, em]) (Ev.bind (dec_one (n := n / 10) (by omega) (by omega)) ?_)
    refine Ev.congr (f := fun _ => some (bs (dig n))) (fun k => ?_) (Ev.now _)
    rw [Option.bind_some, ← u8_of (n := n % 10) (by omega) (by omega)]
    have l1 : (dig (n / 10)).length ≤ 2 := dig_len (by omega) (by omega)
    rw [bs_size, bs_size, if_pos (by simp only [List.length_singleton]; omega), bs_append]
    have e2 : dig n = dig (n / 10) ++ [UInt8.ofNat (48 + (n % 10).toNat)] := by
      unfold dig
      rw [Lib.decDigits_two (i := n.toNat) (by omega) (by omega), Lib.decDigits_one (i := (n / 10).toNat) (by omega), show n.toNat / 10 = (n / 10).toNat by omega, show n.toNat % 10 = (n % 10).toNat by omega]
      rfl
    rw [e2]
/-- Words with a sign between them. -/
def flatU (s : UInt8) : Nat → List (List UInt8) → List UInt8
  | _, [] => []
  | j, w :: t => (if j = 0 then [] else [s]) ++ w ++ flatU s (j + 1) t
theorem tail_flatU (s : UInt8) : ∀ (t : List (List UInt8)) (j : Nat), Lib.joinTail [s] t = flatU s (j + 1) t
  | [], j => rfl
  | w :: t, j => by
    have ih := tail_flatU s t (j + 1)
    unfold Lib.joinTail at ih ⊢
    rw [List.map_cons, List.flatten_cons, ih, flatU, if_neg (by omega)]
theorem join_flatU (s : UInt8) : ∀ ws : List (List UInt8), Lib.join ws [s] = flatU s 0 ws
  | [] => rfl
  | w :: t => by rw [Lib.join_cons, tail_flatU s t 0, flatU, if_pos rfl, List.nil_append]
theorem flatU_len (s : UInt8) (m : Nat) : ∀ (ws : List (List UInt8)) (j : Nat), (∀ w ∈ ws, w.length ≤ m) → (flatU s j ws).length ≤ ws.length * (m + 1)
  | [], j, _ => by simp [flatU]
  | w :: t, j, h => by
    have ih := flatU_len s m t (j + 1) (fun x hx => h x (List.mem_cons_of_mem _ hx))
    have hw := h w (List.mem_cons_self ..)
    have h1 : (if j = 0 then ([] : List UInt8) else [s]).length ≤ 1 := by split <;> simp
    simp only [flatU, List.length_append, List.length_cons]
    rw [Nat.succ_mul]
    omega
def okD (l : List Int) : Prop := ∀ x ∈ l, 0 ≤ x ∧ x < 100
theorem digs_len {l : List Int} (h : okD l) : ∀ w ∈ l.map dig, w.length ≤ 2 := fun w hw => by
  obtain ⟨x, hx, rfl⟩ := List.mem_map.1 hw
  exact dig_len (h x hx).1 (h x hx).2
def textU (s : UInt8) (l : List Int) : List UInt8 := flatU s 0 (l.map dig)
theorem textU_len (s : UInt8) {l : List Int} (h : okD l) : (textU s l).length ≤ l.length * 3 := by
  have := flatU_len s 2 (l.map dig) 0 (digs_len h)
  rwa [List.length_map] at this
theorem joinU_f (s : UInt8) (ws : List (List UInt8)) (m : Nat) (h : ∀ w ∈ ws, w.length ≤ m) (hl : ws.length ≤ 1048576) (hm : m ≤ 4194304) : strings_Join.f (ws.map bs) (⟨#[s]⟩ : ByteArray) = some (bs (flatU s 0 ws)) := by
  have e : (ws.map bs).map (·.data.toList) = ws := by rw [List.map_map]; exact (List.map_congr_left (fun w _ => bs_data w)).trans (List.map_id _)
  have hf := flatU_len s m ws 0 h
  have hb : ws.length * (m + 1) ≤ 1048576 * (4194304 + 1) := Nat.mul_le_mul hl (by omega)
  unfold strings_Join.f
  rw [e, show ((⟨#[s]⟩ : ByteArray).data.toList) = [s] from rfl, join_flatU, List.length_map, if_pos ⟨by omega, by omega⟩]
  rfl
theorem joined_loop (s : UInt8) (l : List Int) (hd : okD l) (hl : l.length ≤ 1048576) : ∀ (d i : Nat), i + d = l.length → Ev (fun k => impl_joined.l0 k (⟨#[s]⟩ : ByteArray) ((l.take i).map (fun x => bs (dig x))) l (l.length : Int) (i : Int)) (bs (textU s l))
  | 0, i, hi => by
    refine Ev.step (f := fun _ => some (bs (textU s l))) (fun k => ?_) (Ev.now _)
    rw [impl_joined.l0, if_neg (by omega), List.take_of_length_le (by omega), show (l.map fun x => bs (dig x)) = (l.map dig).map bs by rw [List.map_map]; rfl, joinU_f s (l.map dig) 2 (digs_len hd) (by rw [List.length_map]; exact hl) (by omega)]
    rfl
  | d + 1, i, hi => by
    obtain ⟨x, hx⟩ := get_some (xs := l) (i := i) (by omega)
    have hm := hd x (List.mem_of_getElem? hx)
    have ih := joined_loop s l hd hl d (i + 1) (by omega)
    rw [List.take_add_one, hx, Option.toList_some, List.map_append, List.map_cons, List.map_nil] at ih
    refine Ev.step (fun k => ?_) ih
    rw [impl_joined.l0, if_pos (by omega), if_pos (by omega), if_pos (by omega), rd_nat, getD_of hx, format_eq hm.1 hm.2, Option.bind_some, if_pos (by rw [List.length_map, List.length_take]; omega), wrapS (i := (i : Int) + 1) (by omega) (by omega), cast_succ]
theorem joined_ev (s : UInt8) (l : List Int) (hd : okD l) (hl : l.length ≤ 1048576) : Ev (fun k => impl_joined.f k l (⟨#[s]⟩ : ByteArray)) (bs (textU s l)) := joined_loop s l hd hl l.length 0 (by omega)

end Go.Proofs.YthcnblclmlkoiaaDoor.PX

/- A row of a list of rows, read at an index (no condition). -/
namespace Go.Proofs.YthcnblclmlkoiaaDoor.PX
open Go.RowKit Go.Proofs.YthcnblclmlkoiaaDoorW.PrintWords Go.Proofs.YthcnblclmlkoiaaDoorW.PrintLast Go.Proofs.YthcnblclmlkoiaaDoorW.PrintMore
attribute [local go_sem] max2_int min2_int max_two min_two max_three min_three max_four min_four
set_option linter.unusedVariables false
set_option linter.unusedSimpArgs false
theorem rdL1_nat (xs : List (List Int)) (i : Nat) : rd_L3 xs (i : Int) = xs.getD i [] := by unfold rd_L3; rfl

end Go.Proofs.YthcnblclmlkoiaaDoor.PX

/- The program's IsGame and the reference's l01Is tell the same, on every list of lists of sizes that fit in memory. -/
namespace Go.Proofs.YthcnblclmlkoiaaDoor.PX
open Go.RowKit Go.Proofs.YthcnblclmlkoiaaDoorW.PrintWords Go.Proofs.YthcnblclmlkoiaaDoorW.PrintLast Go.Proofs.YthcnblclmlkoiaaDoorW.PrintMore
attribute [local go_sem] max2_int min2_int max_two min_two max_three min_three max_four min_four
set_option linter.unusedVariables false
set_option linter.unusedSimpArgs false
def okRow (last n : Int) : List Int → Bool
  | [] => true
  | x :: r => decide (last < x) && (decide (x < n) && okRow x n r)
def okRows (n : Int) : Int → List (List Int) → Bool
  | _, [] => true
  | p, row :: rest => okRow p n row && okRows n (p + 1) rest
def isGame (g : List (List Int)) : Bool := decide (1 ≤ g.length) && (decide (g.length ≤ 40) && okRows g.length 0 g)
theorem is_row (g : List (List Int)) (row : List Int) (p : Nat) (hp : g[p]? = some row) (hl : row.length < 4611686018427387904) (hg : g.length < 4611686018427387904) (v : Bool)
    (hv : Ev (fun k => spec_l01Is.l0 k (g.length : Int) ((p + 1 : Nat) : Int) g) v) (d : Nat) :
    ∀ (i : Nat) (last : Int), i + d = row.length → Ev (fun k => spec_l01Is.l1 k (g.length : Int) (p : Int) last (i : Int) g) (okRow last g.length (row.drop i) && v) := by
  have hpl : p < g.length := (List.getElem?_eq_some_iff.1 hp).1
  have hr : rd_L3 g (p : Int) = row := by rw [rdL1_nat]; exact getD_of hp
  induction d with
  | zero =>
    intro i last hd
    have e : row.drop i = [] := List.drop_eq_nil_of_le (by omega)
    rw [e]
    refine Ev.step (fun k => ?_) (r := v) (show Ev _ _ from hv)
    simp only [spec_l01Is.l1]
    rw [if_pos (by omega), if_pos (by omega), hr, if_neg (by omega), wrapS (by omega) (by omega), cast_succ]
  | succ d ih =>
    intro i last hd
    obtain ⟨x, hx⟩ := get_some (xs := row) (i := i) (by omega)
    have hrx : rd row (i : Int) = x := by rw [rd_nat]; exact getD_of hx
    have h1 : ∀ k, spec_l01Is.l1 (k + 1) (g.length : Int) (p : Int) last (i : Int) g = (if x ≤ last then (some false) else (if x ≥ (g.length : Int) then (some false) else (spec_l01Is.l1 k (g.length : Int) (p : Int) x ((i + 1 : Nat) : Int) g))) := fun k => by
      simp only [spec_l01Is.l1]
      rw [if_pos (by omega), if_pos (by omega), hr, if_pos (by omega), if_pos (by omega), hrx, wrapS (by omega) (by omega), cast_succ]
    rw [drop_of hx]
    simp only [okRow]
    by_cases c1 : x ≤ last
    · have : (decide (last < x)) = false := by simp; omega
      rw [this]
      exact Ev.step (fun k => by rw [h1, if_pos c1]) (Ev.now false)
    · have : (decide (last < x)) = true := by simp; omega
      rw [this]
      by_cases c2 : x ≥ (g.length : Int)
      · have : (decide (x < (g.length : Int))) = false := by simp; omega
        rw [this]
        exact Ev.step (fun k => by rw [h1, if_neg c1, if_pos c2]) (Ev.now false)
      · have : (decide (x < (g.length : Int))) = true := by simp; omega
        rw [this]
        simp only [Bool.true_and]
        exact Ev.step (fun k => by rw [h1, if_neg c1, if_neg c2]) (ih (i + 1) x (by omega))
theorem is_rows (g : List (List Int)) (hl : ∀ row ∈ g, row.length < 4611686018427387904) (hg : g.length < 4611686018427387904) (d : Nat) :
    ∀ p : Nat, p + d = g.length → Ev (fun k => spec_l01Is.l0 k (g.length : Int) (p : Int) g) (okRows g.length p (g.drop p)) := by
  induction d with
  | zero =>
    intro p hd
    rw [List.drop_eq_nil_of_le (by omega)]
    refine Ev.step (f := fun _ => some true) (fun k => ?_) (Ev.now true)
    simp only [spec_l01Is.l0]; rw [if_neg (by omega)]
  | succ d ih =>
    intro p hd
    obtain ⟨row, hp⟩ := get_some (xs := g) (i := p) (by omega)
    rw [drop_of hp]
    simp only [okRows, cast_succ]
    refine Ev.step (fun k => ?_) (is_row g row p hp (hl row (List.mem_of_getElem? hp)) hg _ (ih (p + 1) (by omega)) row.length 0 (p : Int) (by omega))
    simp only [spec_l01Is.l0]; rw [if_pos (by omega)]; rfl
theorem l01Is_ev (g : List (List Int)) (hl : ∀ row ∈ g, row.length < 4611686018427387904) (hg : g.length < 4611686018427387904) : Ev (fun k => spec_l01Is.f k g) (isGame g) := by
  have hin : spec_l01In.f (g.length : Int) 1 40 = some (decide (1 ≤ g.length) && decide (g.length ≤ 40)) := by
    unfold spec_l01In.f
    by_cases h : (g.length : Int) ≥ 1
    · rw [if_pos h]
      have : decide (1 ≤ g.length) = true := decide_eq_true (by omega)
      have e2 : decide ((g.length : Int) ≤ 40) = decide (g.length ≤ 40) := by rw [decide_eq_decide]; omega
      rw [this, Bool.true_and, e2]
    · rw [if_neg h]
      have : decide (1 ≤ g.length) = false := decide_eq_false (by omega)
      rw [this]; rfl
  unfold isGame
  by_cases h1 : (decide (1 ≤ g.length) && decide (g.length ≤ 40)) = true
  · have h2 : (decide (1 ≤ g.length) = true) ∧ (decide (g.length ≤ 40) = true) := by simpa using h1
    rw [h2.1, h2.2]
    simp only [Bool.true_and]
    refine Ev.congr (fun k => ?_) (is_rows g hl hg g.length 0 (by omega))
    unfold spec_l01Is.f spec_l01N.f
    simp only [Option.bind_some, hin]
    rw [if_pos h1]; rfl
  · have h2 : (decide (1 ≤ g.length) && (decide (g.length ≤ 40) && okRows (g.length : Int) 0 g)) = false := by
      cases a : decide (1 ≤ g.length) <;> cases b : decide (g.length ≤ 40) <;> simp_all
    rw [h2]
    refine Ev.congr (f := fun _ => some false) (fun k => ?_) (Ev.now false)
    unfold spec_l01Is.f spec_l01N.f
    simp only [Option.bind_some, hin]
    rw [if_neg h1]
theorem rising_loop (xs : List Int) (lo hi : Int) (hl : xs.length < 4611686018427387904) (d : Nat) :
    ∀ (i : Nat) (last : Int), i + d = xs.length → (if i = 0 then last = lo - 1 else xs[i - 1]? = some last) → lo - 1 ≤ last → Ev (fun k => impl_isRising.l0 k xs lo hi xs (xs.length : Int) (i : Int)) (okRow last (hi + 1) (xs.drop i)) := by
  have hw : ∀ a b c : Int, impl_within.f a b c = some (decide (b ≤ a) && decide (a ≤ c)) := by
    intro a b c
    unfold impl_within.f
    by_cases h : b ≤ a <;> simp [h]
  induction d with
  | zero =>
    intro i last hd _ _
    rw [List.drop_eq_nil_of_le (by omega)]
    refine Ev.step (f := fun _ => some true) (fun k => ?_) (Ev.now true)
    simp only [impl_isRising.l0]; rw [if_neg (by omega)]
  | succ d ih =>
    intro i last hd hlast hge
    obtain ⟨x, hx⟩ := get_some (xs := xs) (i := i) (by omega)
    have hrx : rd xs (i : Int) = x := by rw [rd_nat]; exact getD_of hx
    rw [drop_of hx]
    simp only [okRow]
    have hn := ih (i + 1) x (by omega) (by rw [if_neg (by omega)]; simpa using hx)
    by_cases h0 : i = 0
    · subst h0
      rw [if_pos rfl] at hlast
      subst hlast
      have h1 : ∀ k, impl_isRising.l0 (k + 1) xs lo hi xs (xs.length : Int) ((0 : Nat) : Int) = (if (decide (lo ≤ x) && decide (x ≤ hi)) = true then (impl_isRising.l0 k xs lo hi xs (xs.length : Int) ((0 + 1 : Nat) : Int)) else (some false)) := fun k => by
        simp only [impl_isRising.l0]
        rw [if_pos (by omega), if_pos (by omega), if_pos (by omega), hrx, hw]
        simp only [Option.bind_some]
        rw [if_neg (show ¬ (((0 : Nat) : Int) > 0) by omega), wrapS (by omega) (by omega), cast_succ]
      by_cases c : (decide (lo ≤ x) && decide (x ≤ hi)) = true
      · have c' : lo ≤ x ∧ x ≤ hi := by simpa using c
        have e1 : decide (lo - 1 < x) = true := by simp; omega
        have e2 : decide (x < hi + 1) = true := by simp; omega
        rw [e1, e2]
        simp only [Bool.true_and]
        exact Ev.step (fun k => by rw [h1, if_pos c]) (hn (by omega))
      · have e : (decide (lo - 1 < x) && (decide (x < hi + 1) && okRow x (hi + 1) (xs.drop (0 + 1)))) = false := by
          cases a : decide (lo - 1 < x) <;> cases b : decide (x < hi + 1) <;> simp_all <;> omega
        rw [e]
        exact Ev.step (fun k => by rw [h1, if_neg c]) (Ev.now false)
    · rw [if_neg h0] at hlast
      have hw1 : wrap64 ((i : Int) - 1) = ((i - 1 : Nat) : Int) := by rw [wrapS (by omega) (by omega)]; omega
      have hrl : rd xs ((i - 1 : Nat) : Int) = last := by
        rw [rd_nat]
        exact getD_of hlast
      have h1 : ∀ k, impl_isRising.l0 (k + 1) xs lo hi xs (xs.length : Int) (i : Int) = (if (decide (lo ≤ x) && decide (x ≤ hi)) = true then (if x ≤ last then (some false) else (impl_isRising.l0 k xs lo hi xs (xs.length : Int) ((i + 1 : Nat) : Int))) else (some false)) := fun k => by
        simp only [impl_isRising.l0]
        rw [if_pos (by omega), if_pos (by omega), if_pos (by omega), hrx, hw]
        simp only [Option.bind_some]
        rw [if_pos (show ((i : Int) > 0) by omega), hw1, if_pos (show (0 : Int) ≤ ((i - 1 : Nat) : Int) by omega), if_pos (show ((i - 1 : Nat) : Int) < (xs.length : Int) by omega), hrl, wrapS (by omega) (by omega), cast_succ]
      by_cases c1 : x ≤ last
      · have e : decide (last < x) = false := by simp; omega
        rw [e]
        refine Ev.step (f := fun _ => some false) (fun k => ?_) (Ev.now false)
        rw [h1, if_pos c1]; split <;> rfl
      · have e : decide (last < x) = true := by simp; omega
        rw [e]
        simp only [Bool.true_and]
        by_cases c2 : x ≤ hi
        · have e2 : decide (x < hi + 1) = true := by simp; omega
          rw [e2]
          simp only [Bool.true_and]
          exact Ev.step (fun k => by rw [h1, if_pos (by simp; omega), if_neg c1]) (hn (by omega))
        · have e2 : decide (x < hi + 1) = false := by simp; omega
          rw [e2]
          exact Ev.step (fun k => by rw [h1, if_neg (by simp; omega)]) (Ev.now false)
theorem rising_ev (xs : List Int) (lo hi : Int) (hl : xs.length < 4611686018427387904) : Ev (fun k => impl_isRising.f k xs lo hi) (okRow (lo - 1) (hi + 1) xs) := by
  have := rising_loop xs lo hi hl xs.length 0 (lo - 1) (by omega) (by simp) (by omega)
  exact this
theorem isg_loop (g : List (List Int)) (hl : ∀ row ∈ g, row.length < 4611686018427387904) (hg : g.length < 4611686018427387904) (d : Nat) :
    ∀ p : Nat, p + d = g.length → Ev (fun k => impl_IsGame.l0 k (g.length : Int) g (g.length : Int) (p : Int)) (okRows g.length p (g.drop p) && (decide (1 ≤ g.length) && decide (g.length ≤ 40))) := by
  induction d with
  | zero =>
    intro p hd
    rw [List.drop_eq_nil_of_le (by omega)]
    refine Ev.step (f := fun _ => some (decide (1 ≤ g.length) && decide (g.length ≤ 40))) (fun k => ?_) (by simp only [okRows, Bool.true_and]; exact Ev.now _)
    simp only [impl_IsGame.l0]; rw [if_neg (by omega)]
    unfold impl_within.f
    by_cases h : (1 : Int) ≤ (g.length : Int)
    · rw [if_pos h]
      have e : decide (1 ≤ g.length) = true := decide_eq_true (by omega)
      rw [e]; simp; omega
    · rw [if_neg h]
      have e : decide (1 ≤ g.length) = false := decide_eq_false (by omega)
      rw [e]; simp
  | succ d ih =>
    intro p hd
    obtain ⟨row, hp⟩ := get_some (xs := g) (i := p) (by omega)
    have hr : rd_L3 g (p : Int) = row := by rw [rdL1_nat]; exact getD_of hp
    rw [drop_of hp]
    simp only [okRows, cast_succ]
    have hrow := rising_ev row (wrap64 ((p : Int) + 1)) (wrap64 ((g.length : Int) - 1)) (hl row (List.mem_of_getElem? hp))
    rw [wrapS (by omega) (by omega), wrapS (by omega) (by omega), show (p : Int) + 1 - 1 = (p : Int) by omega, show (g.length : Int) - 1 + 1 = (g.length : Int) by omega] at hrow
    have hn := ih (p + 1) (by omega)
    refine Ev.step (f := fun k => (impl_isRising.f k row ((p : Int) + 1) ((g.length : Int) - 1)).bind fun t => if t = true then (impl_IsGame.l0 k (g.length : Int) g (g.length : Int) ((p + 1 : Nat) : Int)) else (some false)) (fun k => ?_) (Ev.bind hrow ?_)
    · simp only [impl_IsGame.l0]
      rw [if_pos (by omega), if_pos (by omega), if_pos (by omega), hr, wrapS (i := (p : Int) + 1) (by omega) (by omega), wrapS (i := (g.length : Int) - 1) (by omega) (by omega), cast_succ]
    · cases okRow (p : Int) (g.length : Int) row with
      | true => simp only [Bool.true_and]; exact Ev.congr (fun k => by simp) hn
      | false => exact Ev.congr (f := fun _ => some false) (fun k => by simp) (Ev.now false)
theorem IsGame_ev (g : List (List Int)) (hl : ∀ row ∈ g, row.length < 4611686018427387904) (hg : g.length < 4611686018427387904) : Ev (fun k => impl_IsGame.f k g) (isGame g) := by
  have := isg_loop g hl hg g.length 0 (by omega)
  have e : isGame g = (okRows (g.length : Int) ((0 : Nat) : Int) (g.drop 0) && (decide (1 ≤ g.length) && decide (g.length ≤ 40))) := by
    unfold isGame
    rw [List.drop_zero]
    cases decide (1 ≤ g.length) <;> cases decide (g.length ≤ 40) <;> simp
  rw [e]
  exact this

end Go.Proofs.YthcnblclmlkoiaaDoor.PX

/- Values of the places of a game, from the last place to the first; what a game that is told to be one gives (no condition). -/
namespace Go.Proofs.YthcnblclmlkoiaaDoor.PX
open Go.RowKit Go.Proofs.YthcnblclmlkoiaaDoorW.PrintWords Go.Proofs.YthcnblclmlkoiaaDoorW.PrintLast Go.Proofs.YthcnblclmlkoiaaDoorW.PrintMore
attribute [local go_sem] max2_int min2_int max_two min_two max_three min_three max_four min_four
set_option linter.unusedVariables false
set_option linter.unusedSimpArgs false
theorem okRow_mem {n : Int} : ∀ {xs : List Int} {last : Int}, okRow last n xs = true → ∀ q ∈ xs, last < q ∧ q < n
  | [], _, _, q, h => by simp at h
  | x :: r, last, h, q, hq => by
    simp only [okRow, Bool.and_eq_true, decide_eq_true_eq] at h
    rcases List.mem_cons.1 hq with rfl | hq
    · exact ⟨h.1, h.2.1⟩
    · have := okRow_mem h.2.2 q hq
      exact ⟨by omega, this.2⟩
theorem okRow_len {n : Int} : ∀ {xs : List Int} {last : Int}, okRow last n xs = true → last < n → (xs.length : Int) ≤ n - 1 - last
  | [], last, _, h => by simp only [List.length_nil]; omega
  | x :: r, last, h, hl => by
    simp only [okRow, Bool.and_eq_true, decide_eq_true_eq] at h
    have := okRow_len h.2.2 h.2.1
    simp only [List.length_cons]
    omega
theorem okRows_get {n : Int} : ∀ {g : List (List Int)} {p : Int} {i : Nat} {row : List Int}, okRows n p g = true → g[i]? = some row → okRow (p + i) n row = true
  | [], _, _, _, _, h => by simp at h
  | x :: r, p, i, row, h, hi => by
    simp only [okRows, Bool.and_eq_true] at h
    cases i with
    | zero =>
      simp only [List.getElem?_cons_zero, Option.some.injEq] at hi
      subst hi
      simpa using h.1
    | succ i =>
      simp only [List.getElem?_cons_succ] at hi
      have := okRows_get h.2 hi
      rw [show p + ((i + 1 : Nat) : Int) = p + 1 + i by omega]
      exact this
theorem game_row {g : List (List Int)} (h : isGame g = true) {p : Nat} {row : List Int} (hp : g[p]? = some row) :
    (∀ q ∈ row, (p : Int) < q ∧ q < g.length) ∧ row.length ≤ 40 := by
  simp only [isGame, Bool.and_eq_true, decide_eq_true_eq] at h
  have hr := okRows_get h.2.2 hp
  have hl : p < g.length := (List.getElem?_eq_some_iff.1 hp).1
  have h1 := okRow_mem hr
  have h2 := okRow_len hr (by omega)
  exact ⟨fun q hq => ⟨by have := h1 q hq; omega, (h1 q hq).2⟩, by omega⟩
theorem game_len {g : List (List Int)} (h : isGame g = true) : 1 ≤ g.length ∧ g.length ≤ 40 := by
  simp only [isGame, Bool.and_eq_true, decide_eq_true_eq] at h
  exact ⟨h.1, h.2.1⟩
/-- The values of the last d places, the first of them first. -/
def backAt {α : Type} (sem : List α → α) (z : α) (g : List (List Int)) : Nat → List α
  | 0 => []
  | d + 1 => sem ((g.getD (g.length - (d + 1)) []).map fun q => (backAt sem z g d).getD (q.toNat - (g.length - d)) z) :: backAt sem z g d
theorem backAt_length {α : Type} (sem : List α → α) (z : α) (g : List (List Int)) : ∀ d, (backAt sem z g d).length = d
  | 0 => rfl
  | d + 1 => by simp only [backAt, List.length_cons, backAt_length sem z g d]
def backs {α : Type} (sem : List α → α) (z : α) (g : List (List Int)) : List α := backAt sem z g g.length
/-- What the places after p lead a row to. -/
def seen {α : Type} (sem : List α → α) (z : α) (g : List (List Int)) (p d : Nat) (row : List Int) : List α := row.map fun q => (backAt sem z g d).getD (q.toNat - (p + 1)) z
theorem backAt_succ {α : Type} (sem : List α → α) (z : α) (g : List (List Int)) (p d : Nat) (row : List Int) (hg : g.length = p + 1 + d) (hp : g[p]? = some row) :
    backAt sem z g (d + 1) = sem (seen sem z g p d row) :: backAt sem z g d := by
  simp only [backAt, seen]
  rw [show g.length - (d + 1) = p by omega, show g.length - d = p + 1 by omega, getD_of hp]
theorem arr_get {α : Type} (z : α) (m : Nat) (bs : List α) (q : Nat) (h : m ≤ q) : (List.replicate m z ++ bs).getD q z = bs.getD (q - m) z := by
  rw [List.getD_eq_getElem?_getD, List.getD_eq_getElem?_getD, List.getElem?_append_right (by simpa using h), List.length_replicate]
theorem arr_set {α : Type} (z v : α) (p : Nat) (bs : List α) : (List.replicate (p + 1) z ++ bs).set p v = List.replicate p z ++ v :: bs := by
  rw [List.replicate_succ', List.append_assoc, List.set_append_right _ _ (by simp)]
  simp
/-- What holds of every value of the later places holds of what a row is led to. -/
theorem seen_all {α : Type} (sem : List α → α) (z : α) (Q : α → Prop) (g : List (List Int)) (p d : Nat) (row : List Int) (hg : g.length = p + 1 + d)
    (hq : ∀ q ∈ row, (p : Int) < q ∧ q < g.length) (hb : ∀ x ∈ backAt sem z g d, Q x) : ∀ x ∈ seen sem z g p d row, Q x := by
  intro x hx
  obtain ⟨q, hm, rfl⟩ := List.mem_map.1 hx
  have h := hq q hm
  have hl : q.toNat - (p + 1) < (backAt sem z g d).length := by rw [backAt_length]; omega
  rw [List.getD_eq_getElem?_getD, List.getElem?_eq_getElem hl]
  exact hb _ (List.getElem_mem hl)
theorem backAt_all {α : Type} (sem : List α → α) (z : α) (Q : α → Prop) (g : List (List Int)) (h : isGame g = true) (hs : ∀ xs : List α, xs.length ≤ 40 → (∀ x ∈ xs, Q x) → Q (sem xs)) :
    ∀ d, d ≤ g.length → ∀ x ∈ backAt sem z g d, Q x
  | 0, _, x, hx => by simp [backAt] at hx
  | d + 1, hd, x, hx => by
    obtain ⟨p, hp⟩ : ∃ p, g.length = p + 1 + d := ⟨g.length - (d + 1), by omega⟩
    obtain ⟨row, hr⟩ := get_some (xs := g) (i := p) (by omega)
    have ih := backAt_all sem z Q g h hs d (by omega)
    have hw := game_row h hr
    rw [backAt_succ sem z g p d row hp hr] at hx
    rcases List.mem_cons.1 hx with rfl | hx
    · exact hs _ (by simp only [seen, List.length_map]; exact hw.2) (seen_all sem z Q g p d row hp hw.1 ih)
    · exact ih x hx

end Go.Proofs.YthcnblclmlkoiaaDoor.PX

/- The text of a game: both sides (condition: lists that fit). -/
namespace Go.Proofs.YthcnblclmlkoiaaDoor.PX
open Go.RowKit Go.Proofs.YthcnblclmlkoiaaDoorW.PrintWords Go.Proofs.YthcnblclmlkoiaaDoorW.PrintLast Go.Proofs.YthcnblclmlkoiaaDoorW.PrintMore
attribute [local go_sem] max2_int min2_int max_two min_two max_three min_three max_four min_four
set_option linter.unusedVariables false
set_option linter.unusedSimpArgs false
def gameTextU (g : List (List Int)) : List UInt8 := flatU 44 0 (g.map (textU 46))
def okG (g : List (List Int)) : Prop := ∀ row ∈ g, okD row ∧ row.length ≤ 100
theorem dec_stepG {x : Int} (h0 : 0 ≤ x) (h1 : x < 100) (acc : List UInt8) (hl : acc.length ≤ 1048576) : (bs acc).size + (bs (dig x)).size ≤ 9223372036854775807 := by
  have := dig_len h0 h1
  rw [bs_size, bs_size]; omega
theorem t01_l1 {g : List (List Int)} {row : List Int} {p : Nat} (hp : g[p]? = some row) (hd : okD row) (hl : row.length ≤ 100) (hg : g.length ≤ 1000) (r : ByteArray) : ∀ (d i : Nat) (acc : List UInt8), i + d = row.length → acc.length + 3 * d ≤ 1000000 → Ev (fun k => spec_l01Text.l0 k (bs (acc ++ flatU 46 i ((row.drop i).map dig))) ((p + 1 : Nat) : Int) g) r → Ev (fun k => spec_l01Text.l1 k (bs acc) (p : Int) (i : Int) g) r
  | 0, i, acc, hi, ha, h => by
    have hpl := (List.getElem?_eq_some_iff.1 hp).1
    rw [List.drop_of_length_le (by omega), List.map_nil, flatU, List.append_nil] at h
    refine Ev.step (fun k => ?_) h
    rw [spec_l01Text.l1, rdL1_nat, getD_of hp, if_pos (by omega), if_pos (by omega), if_neg (by omega), wrapS (i := (p : Int) + 1) (by omega) (by omega), cast_succ]
  | d + 1, i, acc, hi, ha, h => by
    have hpl := (List.getElem?_eq_some_iff.1 hp).1
    obtain ⟨x, hx⟩ := get_some (xs := row) (i := i) (by omega)
    have hm := hd x (List.mem_of_getElem? hx)
    have hgl := dig_len hm.1 hm.2
    rw [drop_of hx, List.map_cons, flatU, show acc ++ ((if i = 0 then ([] : List UInt8) else [46]) ++ dig x ++ flatU 46 (i + 1) ((row.drop (i + 1)).map dig)) = (acc ++ if i = 0 then [] else [46]) ++ dig x ++ flatU 46 (i + 1) ((row.drop (i + 1)).map dig) by simp only [List.append_assoc]] at h
    have ih := t01_l1 hp hd hl hg r d (i + 1) ((acc ++ if i = 0 then [] else [46]) ++ dig x) (by omega) (by
      have : (if i = 0 then ([] : List UInt8) else [46]).length ≤ 1 := by split <;> simp
      simp only [List.length_append]; omega) h
    by_cases c : i = 0
    · subst c
      refine Ev.step (fun k => by rw [spec_l01Text.l1, rdL1_nat, getD_of hp, if_pos (by omega), if_pos (by omega), if_pos (by omega), if_neg (by omega), if_pos (by omega), rd_nat, getD_of hx]) (Ev.bind (dec_ev hm.1 hm.2) ?_)
      refine Ev.congr (fun k => ?_) ih
      rw [if_pos (dec_stepG hm.1 hm.2 acc (by omega)), bs_append, if_pos rfl, List.append_nil, wrapS (i := ((0 : Nat) : Int) + 1) (by omega) (by omega), cast_succ]
    · refine Ev.step (fun k => by rw [spec_l01Text.l1, rdL1_nat, getD_of hp, if_pos (by omega), if_pos (by omega), if_pos (by omega), if_pos (by omega), if_pos (by rw [bs_size]; omega), if_pos (by omega), rd_nat, getD_of hx]) (Ev.bind (dec_ev hm.1 hm.2) ?_)
      refine Ev.congr (fun k => ?_) ih
      rw [show (⟨#[46]⟩ : ByteArray) = bs [46] from rfl, bs_append, if_pos (dec_stepG hm.1 hm.2 _ (by simp only [List.length_append, List.length_singleton]; omega)), bs_append, if_neg c, wrapS (i := (i : Int) + 1) (by omega) (by omega), cast_succ]
theorem t01_l0 (g : List (List Int)) (hok : okG g) (hg : g.length ≤ 100) : ∀ (d p : Nat) (acc : List UInt8), p + d = g.length → acc.length + 302 * d ≤ 100000 → Ev (fun k => spec_l01Text.l0 k (bs acc) (p : Int) g) (bs (acc ++ flatU 44 p ((g.drop p).map (textU 46))))
  | 0, p, acc, hi, ha => by
    refine Ev.step (f := fun _ => some (bs acc)) (fun k => ?_) (by rw [List.drop_of_length_le (by omega), List.map_nil, flatU, List.append_nil]; exact Ev.now _)
    rw [spec_l01Text.l0, if_neg (by omega)]
  | d + 1, p, acc, hi, ha => by
    obtain ⟨row, hr⟩ := get_some (xs := g) (i := p) (by omega)
    obtain ⟨hd, hl⟩ := hok row (List.mem_of_getElem? hr)
    have ht := textU_len 46 hd
    have ih := t01_l0 g hok hg d (p + 1) ((acc ++ if p = 0 then [] else [44]) ++ textU 46 row) (by omega) (by
      have : (if p = 0 then ([] : List UInt8) else [44]).length ≤ 1 := by split <;> simp
      simp only [List.length_append]; omega)
    rw [drop_of hr, List.map_cons, flatU, show acc ++ ((if p = 0 then ([] : List UInt8) else [44]) ++ textU 46 row ++ flatU 44 (p + 1) ((g.drop (p + 1)).map (textU 46))) = (acc ++ if p = 0 then [] else [44]) ++ textU 46 row ++ flatU 44 (p + 1) ((g.drop (p + 1)).map (textU 46)) by simp only [List.append_assoc]]
    have h1 := t01_l1 hr hd hl (by omega) _ row.length 0 (acc ++ if p = 0 then [] else [44]) (by omega) (by
      have : (if p = 0 then ([] : List UInt8) else [44]).length ≤ 1 := by split <;> simp
      simp only [List.length_append]; omega) (by rw [List.drop_zero]; exact ih)
    have h2 : Ev (fun k => spec_l01Text.j1 k (bs (acc ++ if p = 0 then [] else [44])) (p : Int) g) _ := Ev.step (fun k => by rw [spec_l01Text.j1]; rfl) h1
    refine Ev.step (fun k => ?_) h2
    by_cases c : p = 0
    · rw [spec_l01Text.l0, if_pos (by omega), if_neg (by omega), if_pos c, List.append_nil]
    · rw [spec_l01Text.l0, if_pos (by omega), if_pos (by omega), if_pos (by rw [bs_size]; omega), show (⟨#[44]⟩ : ByteArray) = bs [44] from rfl, bs_append, if_neg c]
theorem game_loop (g : List (List Int)) (hok : okG g) (hg : g.length ≤ 100) : ∀ (d i : Nat), i + d = g.length → Ev (fun k => impl_GameText.l0 k ((g.take i).map (fun row => bs (textU 46 row))) g (g.length : Int) (i : Int)) (bs (gameTextU g), 0)
  | 0, i, hi => by
    refine Ev.step (f := fun _ => some (bs (gameTextU g), 0)) (fun k => ?_) (Ev.now _)
    have hw : ∀ w ∈ g.map (textU 46), w.length ≤ 300 := fun w hw => by
      obtain ⟨row, hr, rfl⟩ := List.mem_map.1 hw
      have := textU_len 46 (hok row hr).1
      have := (hok row hr).2
      omega
    rw [impl_GameText.l0, if_neg (by omega), List.take_of_length_le (by omega), show (g.map fun row => bs (textU 46 row)) = (g.map (textU 46)).map bs by rw [List.map_map]; rfl, joinU_f 44 (g.map (textU 46)) 300 hw (by rw [List.length_map]; omega) (by omega)]
    rfl
  | d + 1, i, hi => by
    obtain ⟨row, hr⟩ := get_some (xs := g) (i := i) (by omega)
    obtain ⟨hd, hl⟩ := hok row (List.mem_of_getElem? hr)
    have ih := game_loop g hok hg d (i + 1) (by omega)
    rw [List.take_add_one, hr, Option.toList_some, List.map_append, List.map_cons, List.map_nil] at ih
    refine Ev.step (fun k => by rw [impl_GameText.l0, if_pos (by omega), if_pos (by omega), if_pos (by omega), rdL1_nat, getD_of hr]) (Ev.bind (joined_ev 46 row hd (by omega)) ?_)
    refine Ev.congr (fun k => ?_) ih
    rw [if_pos (by rw [List.length_map, List.length_take]; omega), wrapS (i := (i : Int) + 1) (by omega) (by omega), cast_succ]
def gameText (g : List (List Int)) : ByteArray × Int := if isGame g = true then (bs (gameTextU g), 0) else (⟨#[]⟩, 1)
theorem isGame_okG {g : List (List Int)} (h : isGame g = true) : okG g ∧ g.length ≤ 40 := by
  unfold isGame at h
  simp only [Bool.and_eq_true, decide_eq_true_eq] at h
  obtain ⟨h1, h2, h3⟩ := h
  refine ⟨fun row hr => ?_, h2⟩
  obtain ⟨i, hi⟩ := List.mem_iff_getElem?.1 hr
  have hil := (List.getElem?_eq_some_iff.1 hi).1
  have ho := okRows_get h3 hi
  have hm := okRow_mem ho
  have hl := okRow_len ho (by omega)
  exact ⟨fun x hx => by have := hm x hx; omega, by omega⟩
theorem specGameText_ev (g : List (List Int)) (hl : ∀ row ∈ g, row.length < 4611686018427387904) (hg : g.length < 4611686018427387904) : Ev (fun k => spec_GameText.f k g) (gameText g) := by
  unfold spec_GameText.f gameText
  refine Ev.bind (l01Is_ev g hl hg) ?_
  cases hE : isGame g with
  | false => exact Ev.congr (f := fun _ => some (⟨#[]⟩, 1)) (fun k => rfl) (Ev.now _)
  | true =>
    obtain ⟨h1, h2⟩ := isGame_okG hE
    have h := t01_l0 g h1 (by omega) g.length 0 [] (by omega) (by simp; omega)
    rw [List.drop_zero, List.nil_append] at h
    exact Ev.congr (fun k => by rw [if_pos rfl]) (Ev.bind (show Ev (fun k => spec_l01Text.f k g) (bs (gameTextU g)) from h) (Ev.now _))
theorem implGameText_ev (g : List (List Int)) (hl : ∀ row ∈ g, row.length < 4611686018427387904) (hg : g.length < 4611686018427387904) : Ev (fun k => impl_GameText.f k g) (gameText g) := by
  unfold impl_GameText.f gameText
  refine Ev.bind (IsGame_ev g hl hg) ?_
  cases hE : isGame g with
  | false => exact Ev.congr (f := fun _ => some (⟨#[]⟩, 1)) (fun k => rfl) (Ev.now _)
  | true =>
    obtain ⟨h1, h2⟩ := isGame_okG hE
    exact Ev.congr (fun k => by rw [if_pos rfl]; rfl) (game_loop g h1 (by omega) g.length 0 (by omega))

end Go.Proofs.YthcnblclmlkoiaaDoor.PX

/- What the laws do with lists of whole numbers: copied, compared, marked, held; their sizes counted (no condition but sizes that fit). -/
namespace Go.Proofs.YthcnblclmlkoiaaDoor.PX
open Go.RowKit Go.Proofs.YthcnblclmlkoiaaDoorW.PrintWords Go.Proofs.YthcnblclmlkoiaaDoorW.PrintLast Go.Proofs.YthcnblclmlkoiaaDoorW.PrintMore
attribute [local go_sem] max2_int min2_int max_two min_two max_three min_three max_four min_four
set_option linter.unusedVariables false
set_option linter.unusedSimpArgs false
theorem ev_from {α : Type} {g : Nat → Option α} {r : α} (n : Nat) (h : ∀ m, g (n + 1 + m) = some r) : Ev g r := ⟨n + 1, fun k hk => by
  have := h (k - (n + 1))
  rw [show n + 1 + (k - (n + 1)) = k by omega] at this
  exact this⟩
theorem eqI_loop (xs : List Int) (hn : xs.length < 4611686018427387904) (d : Nat) : ∀ i : Nat, i + d = xs.length → Ev (fun k => laws_eqInt64S.l0 k xs xs (i : Int)) true := by
  induction d with
  | zero =>
    intro i hd
    refine Ev.step (f := fun _ => some true) (fun k => ?_) (Ev.now true)
    simp only [laws_eqInt64S.l0]; rw [if_neg (by omega)]
  | succ d ih =>
    intro i hd
    refine Ev.step (fun k => ?_) (ih (i + 1) (by omega))
    simp only [laws_eqInt64S.l0]; rw [if_pos (by omega), if_pos (by omega), if_pos (by omega), if_true, wrapS (by omega) (by omega), cast_succ]
theorem eqI_ev (xs : List Int) (hn : xs.length < 4611686018427387904) : Ev (fun k => laws_eqInt64S.f k xs xs) true := by
  refine Ev.congr (fun k => ?_) (eqI_loop xs hn xs.length 0 (by omega))
  unfold laws_eqInt64S.f
  rw [if_pos rfl]; rfl
theorem toI_loop (xs : List Int) (hn : xs.length < 4611686018427387904) (d : Nat) : ∀ i : Nat, i + d = xs.length → Ev (fun k => laws_toInt64S.l0 k xs (xs.take i ++ List.replicate d 0) (i : Int)) xs := by
  induction d with
  | zero =>
    intro i hd
    rw [List.take_of_length_le (by omega)]
    refine Ev.step (f := fun _ => some xs) (fun k => ?_) (Ev.now xs)
    simp only [laws_toInt64S.l0]; rw [if_neg (by omega)]; simp
  | succ d ih =>
    intro i hd
    obtain ⟨x, hx⟩ := get_some (xs := xs) (i := i) (by omega)
    have hrx : rd xs (i : Int) = x := by rw [rd_nat]; exact getD_of hx
    have hl : (xs.take i).length = i := by rw [List.length_take]; omega
    refine Ev.step (fun k => ?_) (ih (i + 1) (by omega))
    simp only [laws_toInt64S.l0]
    rw [if_pos (by omega), if_pos (by omega), if_pos (by rw [List.length_append, hl, List.length_replicate]; omega), wrapS (by omega) (by omega), hrx, cast_succ]
    have e : (xs.take i ++ List.replicate (d + 1) 0).set ((i : Int)).toNat x = xs.take (i + 1) ++ List.replicate d 0 := by
      have e1 : ((i : Int)).toNat = (xs.take i).length := by rw [hl]; omega
      rw [e1, List.set_append_right _ _ (Nat.le_refl _), Nat.sub_self, List.replicate_succ, List.set_cons_zero]
      obtain ⟨hlt, hxe⟩ := List.getElem?_eq_some_iff.1 hx
      rw [List.take_succ_eq_append_getElem hlt, hxe]
      simp
    rw [e]
theorem toI_ev (xs : List Int) (hn : xs.length ≤ 1048576) : Ev (fun k => laws_toInt64S.f k xs) xs := by
  refine Ev.congr (fun k => ?_) (toI_loop xs (by omega) xs.length 0 (by omega))
  unfold laws_toInt64S.f
  rw [if_pos (by omega), if_pos (by omega)]
  simp
theorem szI_eq (xs : List Int) (a : Int) (h0 : 0 ≤ a) (h1 : a ≤ 1048576) (hn : xs.length ≤ 9223372036854775807) : laws_szInt64S.f xs a = some (if a - xs.length < 0 then -1 else a - xs.length) := by
  unfold laws_szInt64S.f
  rw [wrapS (by omega) (by omega)]
  split <;> rfl

end Go.Proofs.YthcnblclmlkoiaaDoor.PX

/- What the laws do with games: sizes counted, copied, compared (no condition but sizes that fit). -/
namespace Go.Proofs.YthcnblclmlkoiaaDoor.PX
open Go.RowKit Go.Proofs.YthcnblclmlkoiaaDoorW.PrintWords Go.Proofs.YthcnblclmlkoiaaDoorW.PrintLast Go.Proofs.YthcnblclmlkoiaaDoorW.PrintMore
attribute [local go_sem] max2_int min2_int max_two min_two max_three min_three max_four min_four
set_option linter.unusedVariables false
set_option linter.unusedSimpArgs false
def total : List (List Int) → Int
  | [] => 0
  | row :: rest => row.length + total rest
theorem total_nonneg : ∀ g : List (List Int), 0 ≤ total g
  | [] => by simp [total]
  | row :: rest => by have := total_nonneg rest; simp only [total]; omega
theorem total_mem {g : List (List Int)} {row : List Int} (h : row ∈ g) : (row.length : Int) ≤ total g := by
  induction g with
  | nil => simp at h
  | cons x rest ih =>
    simp only [total]
    have := total_nonneg rest
    rcases List.mem_cons.1 h with rfl | h
    · omega
    · have := ih h
      omega
theorem szSS_loop (g : List (List Int)) (hl : ∀ row ∈ g, row.length ≤ 9223372036854775807) (hg : g.length ≤ 1048576) (d : Nat) : ∀ (i : Nat) (a : Int), i + d = g.length → 0 ≤ a → a ≤ 1048576 →
    ∃ t, Ev (fun k => laws_szInt64SS.l0 k g a (i : Int)) t ∧ (t < 0 ∨ (0 ≤ t ∧ total (g.drop i) ≤ a ∧ t ≤ a)) := by
  induction d with
  | zero =>
    intro i a hd h0 h1
    refine ⟨a, Ev.step (f := fun _ => some a) (fun k => ?_) (Ev.now a), .inr ⟨h0, ?_⟩⟩
    · simp only [laws_szInt64SS.l0]; rw [if_neg (by omega)]
    · rw [List.drop_eq_nil_of_le (by omega)]; exact ⟨h0, Int.le_refl _⟩
  | succ d ih =>
    intro i a hd h0 h1
    obtain ⟨row, hp⟩ := get_some (xs := g) (i := i) (by omega)
    have hr : rd_L3 g (i : Int) = row := by rw [rdL1_nat]; exact getD_of hp
    have hs := szI_eq row a h0 h1 (hl row (List.mem_of_getElem? hp))
    have h2 : ∀ k, laws_szInt64SS.l0 (k + 1) g a (i : Int) = (if (if a - (row.length : Int) < 0 then -1 else a - row.length) < 0 then (some (-1)) else (laws_szInt64SS.l0 k g (if a - (row.length : Int) < 0 then -1 else a - row.length) ((i + 1 : Nat) : Int))) := fun k => by
      simp only [laws_szInt64SS.l0]
      rw [if_pos (by omega), if_pos (by omega), hr, hs, wrapS (by omega) (by omega), cast_succ]
      rfl
    rw [drop_of hp]
    simp only [total]
    by_cases c : a - (row.length : Int) < 0
    · exact ⟨-1, Ev.step (f := fun _ => some (-1)) (fun k => by rw [h2, if_pos c]; rfl) (Ev.now _), .inl (by omega)⟩
    · obtain ⟨t, ht, hor⟩ := ih (i + 1) (a - row.length) (by omega) (by omega) (by omega)
      refine ⟨t, Ev.step (fun k => by rw [h2, if_neg c, if_neg c]) ht, ?_⟩
      rcases hor with hor | hor
      · exact .inl hor
      · exact .inr ⟨hor.1, by omega, by omega⟩
/-- A game's size counted off from what is left. -/
theorem szG_evb (g : List (List Int)) (b : Int) (hb0 : 0 ≤ b) (hb : b ≤ 1048576) (hg : g.length ≤ 9223372036854775807) (hl : ∀ row ∈ g, row.length ≤ 9223372036854775807) :
    ∃ t, Ev (fun k => laws_szGame.f k g b) t ∧ (t < 0 ∨ (0 ≤ t ∧ t ≤ b ∧ g.length ≤ 1048576 ∧ total g ≤ 1048576)) := by
  by_cases c : b - g.length < 0
  · refine ⟨-1, Ev.congr (f := fun _ => some (-1)) (fun k => ?_) (Ev.now _), .inl (by omega)⟩
    unfold laws_szGame.f laws_szInt64SS.f
    rw [wrapS (by omega) (by omega), if_pos c]; rfl
  · obtain ⟨t, ht, hor⟩ := szSS_loop g hl (by omega) g.length 0 (b - g.length) (by omega) (by omega) (by omega)
    have hS : Ev (fun k => laws_szInt64SS.f k g b) t := Ev.congr (fun k => by unfold laws_szInt64SS.f; rw [wrapS (by omega) (by omega), if_neg c]; rfl) ht
    rcases hor with hor | hor
    · refine ⟨-1, ?_, .inl (by omega)⟩
      refine Ev.congr (f := fun k => (laws_szInt64SS.f k g b).bind fun t => (if t < 0 then (some (-1)) else (some t))) (fun k => rfl) (Ev.bind hS ?_)
      exact Ev.congr (f := fun _ => some (-1)) (fun k => by rw [if_pos hor]) (Ev.now _)
    · refine ⟨t, ?_, .inr ⟨hor.1, by omega, by omega, by rw [List.drop_zero] at hor; omega⟩⟩
      refine Ev.congr (f := fun k => (laws_szInt64SS.f k g b).bind fun t => (if t < 0 then (some (-1)) else (some t))) (fun k => rfl) (Ev.bind hS ?_)
      exact Ev.congr (f := fun _ => some t) (fun k => by rw [if_neg (by omega)]) (Ev.now _)
theorem szG_ev (g : List (List Int)) (hg : g.length ≤ 9223372036854775807) (hl : ∀ row ∈ g, row.length ≤ 9223372036854775807) :
    ∃ t, Ev (fun k => laws_szGame.f k g 1048576) t ∧ (t < 0 ∨ (0 ≤ t ∧ g.length ≤ 1048576 ∧ total g ≤ 1048576)) := by
  by_cases c : (1048576 : Int) - g.length < 0
  · refine ⟨-1, Ev.congr (f := fun _ => some (-1)) (fun k => ?_) (Ev.now _), .inl (by omega)⟩
    unfold laws_szGame.f laws_szInt64SS.f
    rw [wrapS (by omega) (by omega), if_pos c]; rfl
  · obtain ⟨t, ht, hor⟩ := szSS_loop g hl (by omega) g.length 0 (1048576 - g.length) (by omega) (by omega) (by omega)
    have hS : Ev (fun k => laws_szInt64SS.f k g 1048576) t := Ev.congr (fun k => by unfold laws_szInt64SS.f; rw [wrapS (by omega) (by omega), if_neg c]; rfl) ht
    rcases hor with hor | hor
    · refine ⟨-1, ?_, .inl (by omega)⟩
      refine Ev.congr (f := fun k => (laws_szInt64SS.f k g 1048576).bind fun t => (if t < 0 then (some (-1)) else (some t))) (fun k => rfl) (Ev.bind hS ?_)
      exact Ev.congr (f := fun _ => some (-1)) (fun k => by rw [if_pos hor]) (Ev.now _)
    · refine ⟨t, ?_, .inr ⟨hor.1, by omega, by rw [List.drop_zero] at hor; omega⟩⟩
      refine Ev.congr (f := fun k => (laws_szInt64SS.f k g 1048576).bind fun t => (if t < 0 then (some (-1)) else (some t))) (fun k => rfl) (Ev.bind hS ?_)
      exact Ev.congr (f := fun _ => some t) (fun k => by rw [if_neg (by omega)]) (Ev.now _)
theorem toSS_loop (g : List (List Int)) (hl : ∀ row ∈ g, row.length ≤ 1048576) (hg : g.length ≤ 1048576) (d : Nat) : ∀ i : Nat, i + d = g.length → Ev (fun k => laws_toInt64SS.l0 k g (g.take i ++ List.replicate d []) (i : Int)) g := by
  induction d with
  | zero =>
    intro i hd
    rw [List.take_of_length_le (by omega)]
    refine Ev.step (f := fun _ => some g) (fun k => ?_) (Ev.now g)
    simp only [laws_toInt64SS.l0]; rw [if_neg (by omega)]; simp
  | succ d ih =>
    intro i hd
    obtain ⟨row, hp⟩ := get_some (xs := g) (i := i) (by omega)
    have hr : rd_L3 g (i : Int) = row := by rw [rdL1_nat]; exact getD_of hp
    have hlen : (g.take i).length = i := by rw [List.length_take]; omega
    refine Ev.step (f := fun k => (laws_toInt64S.f k row).bind fun t => laws_toInt64SS.l0 k g ((g.take i ++ List.replicate (d + 1) []).set ((i : Int)).toNat t) ((i + 1 : Nat) : Int)) (fun k => ?_) (Ev.bind (toI_ev row (hl row (List.mem_of_getElem? hp))) ?_)
    · simp only [laws_toInt64SS.l0]
      rw [if_pos (by omega), if_pos (by omega), hr, wrapS (by omega) (by omega), cast_succ]
      congr 1
      funext t
      rw [if_pos (by rw [List.length_append, hlen, List.length_replicate]; omega)]
    · refine Ev.congr (fun k => ?_) (ih (i + 1) (by omega))
      have e1 : ((i : Int)).toNat = (g.take i).length := by rw [hlen]; omega
      have e : (g.take i ++ List.replicate (d + 1) []).set ((i : Int)).toNat row = g.take (i + 1) ++ List.replicate d [] := by
        rw [e1, List.set_append_right _ _ (Nat.le_refl _), Nat.sub_self, List.replicate_succ, List.set_cons_zero]
        obtain ⟨hlt, hxe⟩ := List.getElem?_eq_some_iff.1 hp
        rw [List.take_succ_eq_append_getElem hlt, hxe]
        simp
      rw [e]
theorem toG_ev (g : List (List Int)) (hg : g.length ≤ 1048576) (ht : total g ≤ 1048576) : Ev (fun k => laws_toGame.f k g) g := by
  have hl : ∀ row ∈ g, row.length ≤ 1048576 := fun row h => by have := total_mem h; omega
  have h := toSS_loop g hl hg g.length 0 (by omega)
  have hS : Ev (fun k => laws_toInt64SS.f k g) g := Ev.congr (fun k => by unfold laws_toInt64SS.f; rw [if_pos (by omega), if_pos (by omega)]; simp) h
  exact Ev.congr (f := fun k => (laws_toInt64SS.f k g).bind fun t => some t) (fun k => rfl) (Ev.bind hS (Ev.now g))
theorem eqSS_loop (g : List (List Int)) (hl : ∀ row ∈ g, row.length < 4611686018427387904) (hg : g.length < 4611686018427387904) (d : Nat) : ∀ i : Nat, i + d = g.length → Ev (fun k => laws_eqInt64SS.l0 k g g (i : Int)) true := by
  induction d with
  | zero =>
    intro i hd
    refine Ev.step (f := fun _ => some true) (fun k => ?_) (Ev.now true)
    simp only [laws_eqInt64SS.l0]; rw [if_neg (by omega)]
  | succ d ih =>
    intro i hd
    obtain ⟨row, hp⟩ := get_some (xs := g) (i := i) (by omega)
    have hr : rd_L3 g (i : Int) = row := by rw [rdL1_nat]; exact getD_of hp
    refine Ev.step (f := fun k => (laws_eqInt64S.f k row row).bind fun t => if t = true then laws_eqInt64SS.l0 k g g ((i + 1 : Nat) : Int) else some false) (fun k => ?_) (Ev.bind (eqI_ev row (hl row (List.mem_of_getElem? hp))) ?_)
    · simp only [laws_eqInt64SS.l0]
      rw [if_pos (by omega), if_pos (by omega), if_pos (by omega), hr, wrapS (by omega) (by omega), cast_succ]
    · exact Ev.congr (fun k => by simp) (ih (i + 1) (by omega))
theorem eqG_ev (g : List (List Int)) (hl : ∀ row ∈ g, row.length < 4611686018427387904) (hg : g.length < 4611686018427387904) : Ev (fun k => laws_eqGame.f k g g) true := by
  have hS : Ev (fun k => laws_eqInt64SS.f k g g) true := Ev.congr (fun k => by unfold laws_eqInt64SS.f; rw [if_pos rfl]; rfl) (eqSS_loop g hl hg g.length 0 (by omega))
  exact Ev.congr (f := fun k => (laws_eqInt64SS.f k g g).bind fun t => if t = true then some true else some false) (fun k => rfl) (Ev.bind hS (Ev.congr (f := fun _ => some true) (fun k => by simp) (Ev.now true)))

end Go.Proofs.YthcnblclmlkoiaaDoor.PX

/- The law FnExactGameText, in plain terms (no condition). -/
namespace Go.Proofs.YthcnblclmlkoiaaDoor.Pure
open Go.RowKit Go.Proofs.YthcnblclmlkoiaaDoor.PX Go.Proofs.YthcnblclmlkoiaaDoorW.PrintWords Go.Proofs.YthcnblclmlkoiaaDoorW.PrintLast Go.Proofs.YthcnblclmlkoiaaDoorW.PrintMore
set_option linter.unusedSimpArgs false
set_option linter.unusedVariables false

theorem FnExactGameText : ∀ (l0_0 : List (List Int)), (l0_0.length ≤ 9223372036854775807 ∧ ∀ x0 ∈ l0_0, x0.length ≤ 9223372036854775807 ∧ ∀ x1 ∈ x0, (Lit.int .i64 x1).wf = true) → ∃ k, laws_FnExactGameText.f k l0_0 = some true := by
  intro g hg
  obtain ⟨t, hs, ht⟩ := szG_ev g hg.1 (fun row h => (hg.2 row h).1)
  refine Ev.rounds (r := true) ?_
  refine Ev.congr (fun k => by unfold laws_FnExactGameText.f; rfl) (Ev.bind hs ?_)
  rcases ht with ht | ⟨h0, h1, h2⟩
  · exact Ev.congr (f := fun _ => some true) (fun k => by rw [if_pos ht]) (Ev.now true)
  · have hl : ∀ row ∈ g, row.length < 4611686018427387904 := fun row h => by have := total_mem h; omega
    have hG := toG_ev g h1 h2
    refine Ev.congr (fun k => by rw [if_neg (by omega)]) (Ev.bind hG ?_)
    refine Ev.bind (specGameText_ev g hl (by omega)) ?_
    refine Ev.bind hG ?_
    refine Ev.bind (implGameText_ev g hl (by omega)) ?_
    refine Ev.congr (fun k => by rw [if_pos rfl, bne_self_eq_false]) ?_
    refine Ev.step (f := fun k => (laws_toGame.f k g).bind fun t => (laws_eqGame.f k g t).bind fun t => if t = true then some true else some false) (fun k => ?_) ?_
    · simp only [laws_FnExactGameText.j0]
      rw [if_neg (by decide)]
    · refine Ev.bind hG (Ev.bind (eqG_ev g hl (by omega)) ?_)
      exact Ev.congr (f := fun _ => some true) (fun k => by rw [if_pos rfl]) (Ev.now true)

end Go.Proofs.YthcnblclmlkoiaaDoor.Pure
