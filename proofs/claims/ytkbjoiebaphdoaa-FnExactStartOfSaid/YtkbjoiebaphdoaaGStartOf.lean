/- impl.StartOf, a contract: the regions lie apart, rows and all (no condition). -/
import Derived.Test.YtkbjoiebaphdoaaPSx0
import Derived.Test.YtkbjoiebaphdoaaPSx1
import Derived.Test.YtkbjoiebaphdoaaSSl
namespace Go.Proofs.Ytkbjoiebaphdoaa.PS
open Go.RowKit Go.Proofs.YtkbjoiebaphdoaaW.PrintWords Go.Proofs.YtkbjoiebaphdoaaW.PrintLast Go.Proofs.YtkbjoiebaphdoaaW.PrintMore
attribute [local go_sem] max2_int min2_int max_two min_two max_three min_three max_four min_four
set_option linter.unusedVariables false
set_option linter.unusedSimpArgs false
def impl_StartOf.l0 : Nat → Int → Int → Int → List (List (List Int)) → Option (Int × (List (List (List Int))) × Int)
  | 0, _, _, _, _ => none
  | k + 1, x13, x14, x121000, x121001 => if x14 < x13 then (if 0 < (x121001.length : Int) then (if (rd_L2 x121001 0).length < 5864062014805 then (impl_StartOf.l0 k x13 (wrap64 (x14 + 1)) x121000 (x121001.set (0 : Int).toNat ((rd_L2 x121001 0) ++ [(([x14] : List Int))]))) else (none)) else (none)) else (some (x121000, x121001, 0))
def impl_StartOf.f (k : Nat) (a0 : Int) : Option (Int × (List (List (List Int))) × Int) := (impl_within.f a0 1 6).bind fun t116 => (if t116 = true then (impl_StartOf.l0 k a0 0 a0 (([[]] : List (List (List Int))))) else (some (0, ([] : List (List (List Int))), 2)))
set_option maxHeartbeats 8000000 in
set_option maxRecDepth 100000 in
theorem impl_StartOf.calls (k : Nat) (a0 : Int) (r1 : Int) (r2 : List (List (List Int))) (r3 : Int) (w : World) (h : impl_StartOf.f k a0 = some (r1, r2, r3)) :
    Calls Try.prog 56 #[.int .i64 a0] w fun e w' => ∃ v1_ : Value, e = .returned (.tuple #[.agg #[.int .i64 r1, v1_], .int .i64 r3]) ∧ Kd.S (sl 22 (Kd.slice 2 (Kd.int .i64))) 41 w' w.heap.size (fun _ => True) v1_ r2 ∧ Below w.heap.size w w' := by
  have hu62 := Try.underlying62
  have HB := Aside0.mk (Below.refl w.heap.size w)
  have H : ((impl_within.f a0 1 6).bind fun t116 => (if t116 = true then (impl_StartOf.l0 k a0 0 a0 (([[]] : List (List (List Int))))) else (some (0, ([] : List (List (List Int))), 2)))) = some (r1, r2, r3) := h
  clear h
  replace H := Option.bind_eq_some_iff.mp H
  obtain ⟨t116, A20, H⟩ := H
  replace H : (if t116 = true then (impl_StartOf.l0 k a0 0 a0 (([[]] : List (List (List Int))))) else (some (0, ([] : List (List (List Int))), 2))) = some (r1, r2, r3) := H
  have A2 := Aside0.mk A20
  clear A20
  by_cases c3 : t116 = true
  · subst c3
    have H1 : (impl_StartOf.l0 k a0 0 a0 (([[]] : List (List (List Int))))) = some (r1, r2, r3) := by rw [if_pos rfl] at H; exact H
    clear H
    have H := H1
    clear H1
    obtain ⟨y117, hy117⟩ : ∃ y_ : List (List (List Int)), y_ = (([[]] : List (List (List Int)))) := ⟨_, rfl⟩
    replace H : (impl_StartOf.l0 k a0 0 a0 y117) = some (r1, r2, r3) := by first | (rw [hy117]; with_reducible exact H) | (have H2_ := (Option.bind_some _ _).symm.trans H; rw [hy117]; with_reducible exact H2_) | (have H2_ := (Option.bind_some _ _).symm.trans H; with_reducible exact H2_) | with_reducible exact H | (rw [hy117]; exact H) | exact H
    have Ny117 := Aside0.mk hy117
    clear hy117
    have H' := Aside0.mk H
    clear H
    go_enter Try.func56, Try.ntmps56
    go_wp2_with (first | ((with_reducible refine gate_dst (N := 2) rfl ?_); refine box_event ?hg (N := 2) ?hd (cs := #[.int .i64 0, .slice none 0 0]) (t := 62) ?hr ?_; (case hd => rfl); (case hg => rfl); (case hr => first | (go_simp; done) | (go_simp; rfl)); intro gb115 hg w4 hbox hb; have n0_ := Aside0.mk (below_step (by repeat (first | (with_reducible first | exact HB.out | apply below_alloc | apply pw_below_drewN | apply below_drew1) | exact HB.out)) hb); have n1_ := Aside0.mk (hbox); have n2_ := Aside0.mk ((by rw [hg]; exact (below_size (by repeat (first | (with_reducible first | exact HB.out | apply below_alloc | apply pw_below_drewN | apply below_drew1) | exact HB.out))) : w.heap.size ≤ gb115)); have n3_ := Aside0.mk ((by rw [hg]; exact (below_size (by repeat (first | (with_reducible first | exact HB.out | apply below_alloc | apply pw_below_drewN | apply below_drew1) | exact HB.out))) : w.heap.size ≤ gb115)); clear HB; have HB := n0_; have BK115 := n1_; have GW115 := n2_; have GE115 := n3_; clear n0_ n1_ n2_ n3_; clear hb hbox hg) | ((with_reducible refine gate_callee (f := 86) rfl ?_); refine goesL_ (some 7) rfl rfl Try.func86 (by kernel_rfl) rfl #[.int .i64 a0, .int .i64 1, .int .i64 6] rfl (by (try simp only [List.map_toArray, List.map_cons, List.map_nil]); first | done | rfl | (simp only [List.length_drop, List.length_take]; rfl)) ?_; (with_reducible refine (impl_within.calls a0 1 6 true _ A2.out).mono ?_); rintro e w' ⟨rfl, ⟨nd, rfl⟩⟩; refine ⟨_, rfl, ?_⟩; (try (rw [drewN_self w4]; generalize hq_ : World.drewN w4 _ = w4; have n0_ : Aside0 (w4.heap[gb115]? = some (.cells #[.int .i64 0, .slice none 0 0] 62 (0, 0))) := ⟨by rw [← hq_]; exact (by (with_reducible repeat (first | refine blk_drewN ?_ _ | refine blk_drew ?_ | refine blk_alloc ?_ _)); exact BK115.out)⟩; have n1_ : Aside0 (Below w.heap.size w w4) := ⟨by rw [← hq_]; exact (by repeat (first | (with_reducible first | exact HB.out | apply below_alloc | apply pw_below_drewN | apply below_drew1 | refine below_set ?_ GE115.out) | exact HB.out))⟩; clear BK115 HB hq_; have BK115 := n0_; have HB := n1_; clear n0_ n1_))) | ((with_reducible refine gate_dst (N := 11) rfl ?_); refine Kd.S_lit (sl 22 (Kd.slice 2 (Kd.int .i64))) _ 41 ?hg (N := 11) ?hd (xs := ([[]] : List (List (List Int)))) (inner := [.slice none 0 0]) (ok := fun _ => True) (okp := fun _ => True) ?hr ?hp (fun _ hk => hk) trivial (Below.refl _ _) (Nat.le_refl _) (by simp) ?_; (case hd => rfl); (case hg => rfl); (case hr => first | (go_simp; done) | (go_simp; rfl)); (case hp => exact (Reps.one (show Kd.M (sl 22 (Kd.slice 2 (Kd.int .i64))) _ _ _ [] [.slice none 0 0] from ⟨_, rfl, Kd.S_nil _ _ _ _ _⟩) (Reps.none _ _))); intro v118 w5 ho6 hb hg_ hnew_; clear hg_ hnew_; (first | rw [← Ny117.out] at ho6 | (simp only [Int.reduceToNat] at ho6; rw [← Ny117.out] at ho6)); have n0_ := Aside0.mk (Kd.S_lower ho6 (below_size (by repeat (first | (with_reducible first | exact HB.out | apply below_alloc | apply pw_below_drewN | apply below_drew1 | refine below_set ?_ GE115.out) | exact HB.out)))); have n1_ := Aside0.mk (blk_below (g := gb115) (o := .cells #[.int .i64 0, .slice none 0 0] 62 (0, 0)) (by (with_reducible repeat (first | refine blk_drewN ?_ _ | refine blk_drew ?_ | refine blk_alloc ?_ _)); exact BK115.out) hb); have n2_ := Aside0.mk (below_step (by repeat (first | (with_reducible first | exact HB.out | apply below_alloc | apply pw_below_drewN | apply below_drew1 | refine below_set ?_ GE115.out) | exact HB.out)) hb); clear BK115; clear HB; have HO119 := n0_; have BK115 := n1_; have HB := n2_; clear n0_ n1_ n2_; clear hb ho6; obtain ⟨Ao7, co7, eo7⟩ := Kd.S_slice HO119.out; subst eo7) | ((with_reducible refine gate_dst (N := 4) rfl ?_); refine box_event ?hg (N := 4) ?hd (cs := #[.int .i64 0, .slice none 0 0]) (t := 62) ?hr ?_; (case hd => rfl); (case hg => rfl); (case hr => first | (go_simp; done) | (go_simp; rfl)); intro gb120 hg w8 hbox hb; have n0_ := Aside0.mk (Kd.S_below (by (with_reducible repeat (first | apply Kd.S_alloc | apply Kd.S_drewN | apply Kd.S_drew)); exact HO119.out) hb); have n1_ := Aside0.mk (blk_below (g := gb115) (o := .cells #[.int .i64 0, .slice none 0 0] 62 (0, 0)) (by (with_reducible repeat (first | refine blk_drewN ?_ _ | refine blk_drew ?_ | refine blk_alloc ?_ _)); exact BK115.out) hb); have n2_ := Aside0.mk (below_step (by repeat (first | (with_reducible first | exact HB.out | apply below_alloc | apply pw_below_drewN | apply below_drew1 | refine below_set ?_ GE115.out) | exact HB.out)) hb); have n3_ := Aside0.mk (hbox); have n4_ := Aside0.mk ((by rw [hg]; exact (below_size (by repeat (first | (with_reducible first | exact HB.out | apply below_alloc | apply pw_below_drewN | apply below_drew1 | refine below_set ?_ GE115.out) | exact HB.out))) : w.heap.size ≤ gb120)); have n5_ := Aside0.mk ((by rw [hg]; exact (below_size (by repeat (first | (with_reducible first | exact HB.out | apply below_alloc | apply pw_below_drewN | apply below_drew1 | refine below_set ?_ GE115.out) | exact HB.out))) : w.heap.size ≤ gb120)); have n6_ := Aside0.mk ((by rw [hg]; exact Nat.ne_of_lt (blk_lt (g := gb115) (o := .cells #[.int .i64 0, .slice none 0 0] 62 (0, 0)) (by (with_reducible repeat (first | refine blk_drewN ?_ _ | refine blk_drew ?_ | refine blk_alloc ?_ _)); exact BK115.out)) : gb115 ≠ gb120)); have n7_ := Aside0.mk ((by rw [hg]; exact Nat.ne_of_gt (blk_lt (g := gb115) (o := .cells #[.int .i64 0, .slice none 0 0] 62 (0, 0)) (by (with_reducible repeat (first | refine blk_drewN ?_ _ | refine blk_drew ?_ | refine blk_alloc ?_ _)); exact BK115.out)) : gb120 ≠ gb115)); clear HO119; clear BK115; clear HB; have HO119 := n0_; have BK115 := n1_; have HB := n2_; have BK120 := n3_; have GW120 := n4_; have GE120 := n5_; have NB115_120 := n6_; have NB120_115 := n7_; clear n0_ n1_ n2_ n3_ n4_ n5_ n6_ n7_; clear hb hbox hg; have hnb9 := NB120_115.out; have hnc9 := NB115_120.out; have hcz10_0 : w8.cell? ⟨gb120, 0, none⟩ = some (.int .i64 0) := (blk_cell BK120.out 0).trans rfl; have hcz10_1 : w8.cell? ⟨gb120, 1, none⟩ = some (.slice none 0 0) := (blk_cell BK120.out 1).trans rfl; have hfz10_0 := blk_frozen BK120.out 0; have hfz10_1 := blk_frozen BK120.out 1))
    go_loopg [14] k (fun kq v14 w' => ∃ (x14_1 : Int) (x121001_1 : List (List (List Int))) (u121001 : Value), v14 = .int .i64 x14_1 ∧ Aside0 (impl_StartOf.l0 kq a0 x14_1 a0 x121001_1 = some (r1, r2, r3)) ∧ Aside0 (kq ≤ k) ∧ Aside0 (Kd.S (sl 22 (Kd.slice 2 (Kd.int .i64))) 41 w' w.heap.size (fun _ => True) u121001 x121001_1) ∧ Aside0 (w'.heap[gb115]? = some (.cells #[.int .i64 0, (.slice none 0 0)] 62 (0, 0))) ∧ Aside0 (w'.heap[gb120]? = some (.cells #[.int .i64 a0, u121001] 62 (0, 0))) ∧ Aside0 (Below w.heap.size w w'))
    case atStart => exact ⟨(0), (y117), (.slice Ao7 y117.length co7), (by first | rfl | (simp; done) | (simp [*]; done)), H', ⟨Nat.le_refl _⟩, ⟨by (with_reducible repeat (first | apply Kd.S_alloc | apply Kd.S_drewN | apply Kd.S_drew)); exact Kd.S_mono (Kd.S_far (p := ⟨gb120, 1, none⟩) (Kd.S_far (p := ⟨gb120, 0, none⟩) (Kd.S_types HO119.out BK120.out (by decide)) (fun _ hk => hk.2) (.int .i64 a0)) (fun _ hk => hk.2) (.slice Ao7 y117.length co7)) (fun _ hk => trivial)⟩, ⟨by (with_reducible repeat (first | refine blk_drewN ?_ _ | refine blk_drew ?_ | refine blk_alloc ?_ _)); refine blk_far ?_ NB115_120.out _; (with_reducible repeat (first | refine blk_drewN ?_ _ | refine blk_drew ?_ | refine blk_alloc ?_ _)); refine blk_far ?_ NB115_120.out _; (with_reducible repeat (first | refine blk_drewN ?_ _ | refine blk_drew ?_ | refine blk_alloc ?_ _)); exact BK115.out⟩, ⟨by (with_reducible repeat (first | refine blk_drewN ?_ _ | refine blk_drew ?_ | refine blk_alloc ?_ _)); refine blk_put (cs := #[.int .i64 a0, .slice none 0 0]) ?_ 1 _ rfl; (with_reducible repeat (first | refine blk_drewN ?_ _ | refine blk_drew ?_ | refine blk_alloc ?_ _)); refine blk_put (cs := #[.int .i64 0, .slice none 0 0]) ?_ 0 _ rfl; (with_reducible repeat (first | refine blk_drewN ?_ _ | refine blk_drew ?_ | refine blk_alloc ?_ _)); exact BK120.out⟩, ⟨by repeat (first | (with_reducible first | exact HB.out | apply below_alloc | apply pw_below_drewN | apply below_drew1 | refine below_set ?_ GE115.out | refine below_set ?_ GE120.out) | exact HB.out)⟩⟩
    case round =>
      clear H'
      try clear p2
      try clear c3
      try clear c5
      try clear c8
      try clear c9
      try clear hcz10_0
      try clear hcz10_1
      try clear hfz10_0
      try clear hfz10_1
      obtain ⟨x14_1, x121001_1, u121001, rfl, HA, HK1, HO_121001, BK115, BK120, HB⟩ := hrel
      cases gk with
      | zero => exact absurd HA.out (by simp [impl_StartOf.l0])
      | succ k1 =>
        have H := HA.out
        clear HA
        simp only [impl_StartOf.l0] at H
        by_cases c11 : x14_1 < a0
        · rw [if_pos c11] at H
          have c11b0 : decide (x14_1 < a0) = true := decide_eq_true c11
          clear c11
          by_cases c12 : 0 < (x121001_1.length : Int)
          · rw [if_pos c12] at H
            have c12b0 : decide (0 < (x121001_1.length : Int)) = true := decide_eq_true c12
            have c12b1 : decide (0 < x121001_1.length) = true := decide_eq_true (by omega)
            clear c12
            obtain ⟨y122, hy122⟩ : ∃ y_ : List Int, y_ = (([x14_1] : List Int)) := ⟨_, rfl⟩
            replace H : (if (rd_L2 x121001_1 0).length < 5864062014805 then (impl_StartOf.l0 k1 a0 (wrap64 (x14_1 + 1)) a0 (x121001_1.set (0 : Int).toNat ((rd_L2 x121001_1 0) ++ [y122]))) else (none)) = some (r1, r2, r3) := by first | (rw [hy122]; with_reducible exact H) | (have H2_ := (Option.bind_some _ _).symm.trans H; rw [hy122]; with_reducible exact H2_) | (have H2_ := (Option.bind_some _ _).symm.trans H; with_reducible exact H2_) | with_reducible exact H | (rw [hy122]; exact H) | exact H
            have Ny122 := Aside0.mk hy122
            clear hy122
            by_cases c13 : (rd_L2 x121001_1 0).length < 5864062014805
            · rw [if_pos c13] at H
              have LMc13 := Aside0.mk c13
              clear c13
              obtain ⟨y125, hy125⟩ : ∃ y_ : List (List Int), y_ = ((rd_L2 x121001_1 0) ++ [y122]) := ⟨_, rfl⟩
              replace H : (impl_StartOf.l0 k1 a0 (wrap64 (x14_1 + 1)) a0 (x121001_1.set (0 : Int).toNat y125)) = some (r1, r2, r3) := by first | (rw [hy125]; with_reducible exact H) | (have H2_ := (Option.bind_some _ _).symm.trans H; rw [hy125]; with_reducible exact H2_) | (have H2_ := (Option.bind_some _ _).symm.trans H; with_reducible exact H2_) | with_reducible exact H | (rw [hy125]; exact H) | exact H
              have Ny125 := Aside0.mk hy125
              clear hy125
              obtain ⟨y128, hy128⟩ : ∃ y_ : List (List (List Int)), y_ = (x121001_1.set (0 : Int).toNat y125) := ⟨_, rfl⟩
              replace H : (impl_StartOf.l0 k1 a0 (wrap64 (x14_1 + 1)) a0 y128) = some (r1, r2, r3) := by first | (rw [hy128]; with_reducible exact H) | (have H2_ := (Option.bind_some _ _).symm.trans H; rw [hy128]; with_reducible exact H2_) | (have H2_ := (Option.bind_some _ _).symm.trans H; with_reducible exact H2_) | with_reducible exact H | (rw [hy128]; exact H) | exact H
              have Ny128 := Aside0.mk hy128
              clear hy128
              have H' := Aside0.mk H
              clear H
              have hlen : 0 < x121001_1.length := by have := of_decide_eq_true c12b0; omega
              obtain ⟨go, co, eo, gb_, gl_, cl, HG⟩ := Kd.S_form HO_121001.out hlen
              subst eo
              obtain ⟨N, hN⟩ : ∃ N, N = wr.heap.size := ⟨_, rfl⟩
              have HT2 : Kd.S (sl 22 (Kd.slice 2 (Kd.int .i64))) 41 wr w.heap.size (fun k => ((True ∧ k ≠ gb115) ∧ k ≠ gb120) ∧ ¬ (N ≤ k)) (.slice (some ⟨go, 0, none⟩) x121001_1.length co) x121001_1 := Kd.S_mono (Kd.S_bound (Kd.S_types (Kd.S_types HO_121001.out BK115.out (by decide)) BK120.out (by decide))) (fun k hk => ⟨hk.1, by have := hk.2.2.1; omega⟩)
              obtain ⟨oki, ce, hcl, hM, hcc, hfr, hoki, hH⟩ := Kd.S_elem HT2 [] 0 (by omega) (by omega)
              obtain ⟨ve, rfl, hSv⟩ := hM
              have hx : wr.cell? ⟨go, 0, none⟩ = some ve := by have h_ := hcc 0 ve rfl; simpa [show ((sl 22 (Kd.slice 2 (Kd.int .i64)))).sz = 1 from rfl] using h_
              have hc0 : cl[0]? = some ve := (blk_cell HG 0).symm.trans hx
              have hr0 : x121001_1.getD (0 : Int).toNat [] = rd_L2 x121001_1 0 := rfl
              rw [hr0] at hSv
              have hoki2 : ∀ k, oki k → k < N ∧ k ≠ gb115 ∧ k ≠ gb120 ∧ k ≠ go := fun k hk => ⟨Nat.lt_of_not_le (hoki k hk).1.2, (hoki k hk).1.1.1.2, (hoki k hk).1.1.2, (hoki k hk).2⟩
              have hgN : go < N := by omega
              have h1N : gb115 < N := by rw [hN]; exact blk_lt BK115.out
              have h2N : gb120 < N := by rw [hN]; exact blk_lt BK120.out
              have hng : go ≠ gb115 ∧ go ≠ gb120 := by have h_ := (Kd.S_R HT2).1 go (by simp [Value.ownBlock]); exact ⟨h_.1.1.2, h_.1.2⟩
              have hBw : w.heap.size ≤ N := by rw [hN]; exact HB.out.size
              have k0 : Kept wr wr.drew (fun _ => False) := (Kept.refl wr _).drew
              have F1 := Aside0.mk (Kd.S_kept hSv k0 (fun _ _ h => h))
              have F2 := Aside0.mk (Kd.H_kept hH k0 (fun _ _ _ h => h))
              have F3 := Aside0.mk (blk_kept BK115.out k0 (fun h => h))
              have F4 := Aside0.mk (blk_kept BK120.out k0 (fun h => h))
              have F5 := Aside0.mk (blk_kept HG k0 (fun h => h))
              have F6 := Aside0.mk (below_drew HB.out)
              have F7 := Aside0.mk (show wr.drew.heap.size = N from hN.symm)
              have FO := Aside0.mk hoki2
              have FN := Aside0.mk (show go < N ∧ gb115 < N ∧ gb120 < N ∧ w.heap.size ≤ N ∧ go ≠ gb115 ∧ go ≠ gb120 from ⟨hgN, h1N, h2N, hBw, hng.1, hng.2⟩)
              have FC := Aside0.mk hc0
              have FG := Aside0.mk gb_
              have HBX := HB
              clear hH hSv hoki hoki2 hcc hfr hcl HT2 hgN h1N h2N hng hBw k0 hr0 gb_ gl_
              go_wp2
              refine start_ (n := 12) (S := fun w' => w'.cell? ⟨gb120, 1, none⟩ = some (.slice (some ⟨go, 0, none⟩) x121001_1.length co) ∧ w'.cell? ⟨go, 0, none⟩ = some ve) (ds := [11]) #[false, false, false, false, false, false, false, false, false, false, false, false] (by kernel_rfl) rfl rfl ⟨(blk_cell F4.out 1).trans rfl, (blk_cell F5.out 0).trans FC.out⟩ (fun hHeld => ?_)
              clear hx hc0
              generalize wr.drew = wd at F1 F2 F3 F4 F5 F6 F7 hHeld ⊢
              refine pure_ (i := 0) (N := some 17) (v := ?_) (a' := ?_) #[true, false, false, false, false, false, false, false, false, false, false, false] rfl rfl (by kernel_rfl) (fun _ _ _ h => h) (Or.inl ⟨by rfl, ?_⟩) ?_ ?_
              rotate_left
              · intro w'
                go_simp
                with_reducible rfl
              rotate_left
              · simp only [putAll, Act.put, List.setIfInBounds_toArray, List.set_cons_zero, List.set_cons_succ, i64_w, i32_w]
                rfl
              refine take_ (i := 1) (N := some 18) (v := ?_) (a' := ?_) #[true, true, false, false, false, false, false, false, false, false, false, false] rfl rfl (by kernel_rfl) (fun _ _ _ h => h) (Or.inl ⟨by rfl, ?_⟩) hHeld ?_ ?_
              rotate_left
              · rintro w' ⟨s0_, s1_⟩
                go_simp
                with_reducible rfl
              rotate_left
              · simp only [putAll, Act.put, List.setIfInBounds_toArray, List.set_cons_zero, List.set_cons_succ, i64_w, i32_w]
                rfl
              refine pure_ (i := 2) (N := some 19) (v := ?_) (a' := ?_) #[true, true, true, false, false, false, false, false, false, false, false, false] rfl rfl (by kernel_rfl) (fun _ _ _ h => h) (Or.inl ⟨by rfl, ?_⟩) ?_ ?_
              rotate_left
              · intro w'
                go_simp
                with_reducible rfl
              rotate_left
              · simp only [putAll, Act.put, List.setIfInBounds_toArray, List.set_cons_zero, List.set_cons_succ, i64_w, i32_w]
                rfl
              refine take_ (i := 3) (N := some 20) (v := ?_) (a' := ?_) #[true, true, true, true, false, false, false, false, false, false, false, false] rfl rfl (by kernel_rfl) (fun _ _ _ h => h) (Or.inl ⟨by rfl, ?_⟩) hHeld ?_ ?_
              rotate_left
              · rintro w' ⟨s0_, s1_⟩
                go_simp
                with_reducible rfl
              rotate_left
              · simp only [putAll, Act.put, List.setIfInBounds_toArray, List.set_cons_zero, List.set_cons_succ, i64_w, i32_w]
                rfl
              refine pure_ (i := 4) (N := some 21) (v := ?_) (a' := ?_) #[true, true, true, true, true, false, false, false, false, false, false, false] rfl rfl (by kernel_rfl) (fun _ _ _ h => h) (Or.inl ⟨by rfl, ?_⟩) ?_ ?_
              rotate_left
              · intro w'
                go_simp
                with_reducible rfl
              rotate_left
              · simp only [putAll, Act.put, List.setIfInBounds_toArray, List.set_cons_zero, List.set_cons_succ, i64_w, i32_w]
                rfl
              refine take_ (i := 5) (N := some 22) (v := ?_) (a' := ?_) #[true, true, true, true, true, true, false, false, false, false, false, false] rfl rfl (by kernel_rfl) (fun _ _ _ h => h) (Or.inl ⟨by rfl, ?_⟩) hHeld ?_ ?_
              rotate_left
              · rintro w' ⟨s0_, s1_⟩
                go_simp
                with_reducible rfl
              rotate_left
              · simp only [putAll, Act.put, List.setIfInBounds_toArray, List.set_cons_zero, List.set_cons_succ, i64_w, i32_w]
                rfl
              refine pure_ (i := 6) (N := some 23) (v := ?_) (a' := ?_) #[true, true, true, true, true, true, true, false, false, false, false, false] rfl rfl (by kernel_rfl) (fun _ _ _ h => h) (Or.inl ⟨by rfl, ?_⟩) ?_ ?_
              rotate_left
              · intro w'
                go_simp
                with_reducible rfl
              rotate_left
              · simp only [putAll, Act.put, List.setIfInBounds_toArray, List.set_cons_zero, List.set_cons_succ, i64_w, i32_w]
                rfl
              refine one_ (i := 7) (N := some 24) #[true, true, true, true, true, true, true, true, false, false, false, false] rfl rfl (by kernel_rfl) (by decide) (fun K hK => ?_)
              refine Kd.R_lit_step (Kd.int .i64) (w0 := wd) _ 2 (by rfl) (N := 24) rfl (xs := ([x14_1] : List Int)) (inner := [.int .i64 x14_1]) (ok := fun _ => True) (okp := fun _ => True) ?hr ?hp (fun _ hk => hk) trivial (Below.refl _ _) (Nat.le_refl _) (by simp) ?_
              case hr => first | (go_simp; done) | (go_simp; rfl)
              case hp => exact (Reps.one (show Kd.M (Kd.int .i64) _ _ _ x14_1 [.int .i64 x14_1] from rfl) (Reps.none _ _))
              intro vl wl hol hbl hgl hnewl
              obtain ⟨Al, cl_, el⟩ := Kd.R_slice hol
              subst el
              have G0 := Aside0.mk hol
              have kl : Kept wd wl (fun _ => False) := Kept.of_below hbl _
              have n1 := Aside0.mk (Kd.S_kept F1.out kl (fun _ _ h => h))
              have n2 := Aside0.mk (Kd.H_kept F2.out kl (fun _ _ _ h => h))
              have n3 := Aside0.mk (blk_kept F3.out kl (fun h => h))
              have n4 := Aside0.mk (blk_kept F4.out kl (fun h => h))
              have n5 := Aside0.mk (blk_kept F5.out kl (fun h => h))
              have n6 := Aside0.mk (below_then F6.out F6.out.size hbl)
              have n7 := Aside0.mk (show N ≤ wd.heap.size ∧ wd.heap.size ≤ wl.heap.size from ⟨Nat.le_of_eq F7.out.symm, hbl.size⟩)
              clear F1 F2 F3 F4 F5 F6 F7 hol hbl hgl hnewl kl
              refine hK.out _ _ ⟨(blk_cell n4.out 1).trans rfl, (blk_cell n5.out 0).trans FC.out⟩ (fun hHeld => ?_)
              clear hK K
              refine norm_ (a' := ?_) ?_ ?_
              rotate_left
              · show Act.put _ (some 24) _ = _
                simp only [Act.put, List.setIfInBounds_toArray, List.set_cons_zero, List.set_cons_succ, i64_w, i32_w]
                rfl
              refine one_ (i := 8) (N := some 25) #[true, true, true, true, true, true, true, true, true, false, false, false] rfl rfl (by kernel_rfl) (by decide) (fun K hK => ?_)
              refine value_ (w1 := wl.alloc (.cells #[.slice Al ([x14_1] : List Int).length cl_] 22 (0, 0))) (v := .slice (some ⟨wl.heap.size, 0, none⟩) 1 1) (by rfl) rfl (by first | (go_simp; done) | (go_simp; rfl)) ?_
              refine hK.out _ _ ⟨(blk_cell (blk_alloc n4.out _) 1).trans rfl, (blk_cell (blk_alloc n5.out _) 0).trans FC.out⟩ (fun hHeld => ?_)
              clear hK K
              refine norm_ (a' := ?_) ?_ ?_
              rotate_left
              · show Act.put _ (some 25) _ = _
                simp only [Act.put, List.setIfInBounds_toArray, List.set_cons_zero, List.set_cons_succ, i64_w, i32_w]
                rfl
              refine one_ (i := 9) (N := some 26) #[true, true, true, true, true, true, true, true, true, true, false, false] rfl rfl (by kernel_rfl) (by decide) (fun K hK => ?_)
              have hEl : Kd.R (Kd.int .i64) 2 wl w.heap.size (fun k => some k = (Value.slice Al ([x14_1] : List Int).length cl_).ownBlock) (.slice Al ([x14_1] : List Int).length cl_) [x14_1] := Kd.R_tight rfl (Kd.R_lower G0.out (by have := n7.out; have := FN.out; omega))
              have hEb : ∀ k, some k = (Value.slice Al ([x14_1] : List Int).length cl_).ownBlock → N ≤ k := fun k hk => by have := Kd.R_base G0.out k hk.symm; have := n7.out; omega
              have hVb : ∀ k, ve.ownBlock = some k → oki k := (Kd.S_R n1.out).1
              refine Kd.S_append_step (Kd.slice 2 (Kd.int .i64)) (w0 := w) w.heap.size (by rfl) (.tmp 22) (.tmp 25) 41 22 (.slice none 0 0) 24 rfl Try.underlying41 info22 rfl (by decide) (by decide) ve (rd_L2 x121001_1 0) [x14_1] [.slice Al ([x14_1] : List Int).length cl_] (fun k => oki k ∨ N ≤ k) (fun k => some k = (Value.slice Al ([x14_1] : List Int).length cl_).ownBlock) rfl rfl ⟨_, rfl, hEl⟩ (fun k hk => ⟨Or.inr (hEb k hk), fun e_ => by have h1_ := hEb k hk; have h2_ := (FO.out k (hVb k e_.symm)).1; omega⟩) (fun k hk => Or.inr (by have := n7.out; omega)) (Kd.S_mono n1.out (fun k hk => ⟨Or.inl hk, fun e_ => by have h1_ := hEb k e_; have h2_ := (FO.out k hk).1; omega⟩)) n6.out n6.out.size (by have := LMc13.out; omega) ?_
              intro va wa hoa hba hga hata
              obtain ⟨Aa, ca, ea⟩ := Kd.S_slice hoa
              have ka : Kept wl wa oki := Kept.of_grown hga (Kept.refl _ _) (fun k hk => Or.inl (hVb k hk))
              have hoa2 : Kd.S (Kd.slice 2 (Kd.int .i64)) 22 wa w.heap.size (fun k => oki k ∨ N ≤ k) va y125 := by rw [Ny125.out, Ny122.out]; exact hoa
              have LY := Aside0.mk (show y125.length = (rd_L2 x121001_1 0).length + 1 from by rw [Ny125.out, Ny122.out, List.length_append]; rfl)
              have HP := Kd.S_seg (okg := fun k => N ≤ k) (okp := fun k => oki k ∨ N ≤ k) (Kd.H_kept n2.out ka (fun k _ hn h => hn h)) (by omega) (by omega) (seg := [va]) (j := 0) (show 1 ≤ 1 from by decide) (x' := y125) (M_rowS hoa2) (fun _ hk => hk) (fun k hk => by have := FN.out; exact ⟨⟨⟨trivial, by omega⟩, by omega⟩, by omega⟩)
              have m3 := Aside0.mk (blk_kept n3.out ka (fun h_ => (FO.out _ h_).2.1 rfl))
              have m4 := Aside0.mk (blk_kept n4.out ka (fun h_ => (FO.out _ h_).2.2.1 rfl))
              have m5 := Aside0.mk (blk_kept n5.out ka (fun h_ => (FO.out _ h_).2.2.2 rfl))
              have m6 := Aside0.mk hba
              have HP := Aside0.mk HP
              subst ea
              clear n1 n2 n3 n4 n5 n6 n7 hoa hoa2 hba hga hata ka hEl hEb hVb G0
              refine hK.out _ _ ⟨(blk_cell m4.out 1).trans rfl, (blk_cell m5.out 0).trans FC.out⟩ (fun hHeld => ?_)
              clear hK K
              refine norm_ (a' := ?_) ?_ ?_
              rotate_left
              · show Act.put _ (some 26) _ = _
                simp only [Act.put, List.setIfInBounds_toArray, List.set_cons_zero, List.set_cons_succ, i64_w, i32_w]
                rfl
              refine pure_ (i := 10) (N := some 27) (v := ?_) (a' := ?_) #[true, true, true, true, true, true, true, true, true, true, true, false] rfl rfl (by kernel_rfl) (fun _ _ _ h => h) (Or.inl ⟨by rfl, ?_⟩) ?_ ?_
              rotate_left
              · intro w'
                go_simp
                with_reducible rfl
              rotate_left
              · simp only [putAll, Act.put, List.setIfInBounds_toArray, List.set_cons_zero, List.set_cons_succ, i64_w, i32_w]
                rfl
              have hz_ : wa.cell? ⟨go, 0, none⟩ = some ve := hHeld.2
              have hf_ := blk_frozen m5.out 0
              refine last_ (i := 11) (N := none) #[true, true, true, true, true, true, true, true, true, true, true, true] rfl rfl (by kernel_rfl) (by decide) (fun K hK => ?_)
              refine skip_ (w1 := wa.setCell ⟨go, 0, none⟩ (.slice Aa ((rd_L2 x121001_1 0) ++ [[x14_1]]).length ca)) (by rfl) rfl (by first | (go_simp; done) | (go_simp; rfl)) ?_
              obtain ⟨ws, hw⟩ : ∃ w_, w_ = wa.setCell ⟨go, 0, none⟩ (.slice Aa ((rd_L2 x121001_1 0) ++ [[x14_1]]).length ca) := ⟨_, rfl⟩
              rw [← hw]
              have HO_1210012 := Aside0.mk (show Kd.S (sl 22 (Kd.slice 2 (Kd.int .i64))) 41 ws w.heap.size (fun _ => True) (.slice (some ⟨go, 0, none⟩) x121001_1.length co) y128 from by rw [hw, Ny128.out]; exact Kd.S_mono HP.out.1 (fun _ _ => trivial))
              have BA := Aside0.mk (show ws.heap[gb115]? = some (.cells #[.int .i64 0, .slice none 0 0] 62 (0, 0)) from by rw [hw]; exact blk_far m3.out (by have := FN.out; show gb115 ≠ go; exact fun e_ => this.2.2.2.2.1 e_.symm) _)
              have BB := Aside0.mk (show ws.heap[gb120]? = some (.cells #[.int .i64 a0, .slice (some ⟨go, 0, none⟩) x121001_1.length co] 62 (0, 0)) from by rw [hw]; exact blk_far m4.out (by have := FN.out; show gb120 ≠ go; exact fun e_ => this.2.2.2.2.2 e_.symm) _)
              have BC := Aside0.mk (show Below w.heap.size w ws from by rw [hw]; exact below_set m6.out FG.out)
              refine hK.out _ _ ?_
              clear hK K hw
              refine done_ (by kernel_rfl) ?_
              clear HO_121001 BK115 BK120 HB HP m3 m4 m5 m6
              have HO_121001 := HO_1210012
              have BK115 := BA
              have BK120 := BB
              have HB := BC
              go_wp2
              go_roundg k1
              case measure => have := HK1.out; omega
              case rel => exact ⟨(wrap64 (x14_1 + 1)), (y128), (.slice (some ⟨go, 0, none⟩) x121001_1.length co), (by first | rfl | (simp; done) | (simp [*]; done)), H', ⟨by have := HK1.out; omega⟩, ⟨by (with_reducible repeat (first | apply Kd.S_alloc | apply Kd.S_drewN | apply Kd.S_drew)); exact HO_121001.out⟩, ⟨by (with_reducible repeat (first | refine blk_drewN ?_ _ | refine blk_drew ?_ | refine blk_alloc ?_ _)); exact BK115.out⟩, ⟨by (with_reducible repeat (first | refine blk_drewN ?_ _ | refine blk_drew ?_ | refine blk_alloc ?_ _)); exact BK120.out⟩, ⟨by repeat (first | (with_reducible first | exact HB.out | apply below_alloc | apply pw_below_drewN | apply below_drew1 | refine below_set ?_ GE115.out | refine below_set ?_ GE120.out) | exact HB.out)⟩⟩
            · rw [if_neg c13] at H
              exact absurd H (by simp)
          · rw [if_neg c12] at H
            exact absurd H (by simp)
        · rw [if_neg c11] at H
          have c11b0 : decide (x14_1 < a0) = false := decide_eq_false c11
          clear c11
          simp only [Option.some.injEq, Prod.mk.injEq] at H
          obtain ⟨rfl, rfl, rfl⟩ := H
          have hnb24 := NB120_115.out
          have hnc24 := NB115_120.out
          have hcz25_0 : wr.cell? ⟨gb120, 0, none⟩ = some (.int .i64 a0) := (blk_cell BK120.out 0).trans rfl
          have hcz25_1 : wr.cell? ⟨gb120, 1, none⟩ = some (u121001) := (blk_cell BK120.out 1).trans rfl
          have hfz25_0 := blk_frozen BK120.out 0
          have hfz25_1 := blk_frozen BK120.out 1
          have hcz26_0 : wr.cell? ⟨gb115, 0, none⟩ = some (.int .i64 0) := (blk_cell BK115.out 0).trans rfl
          have hcz26_1 : wr.cell? ⟨gb115, 1, none⟩ = some (.slice none 0 0) := (blk_cell BK115.out 1).trans rfl
          have hfz26_0 := blk_frozen BK115.out 0
          have hfz26_1 := blk_frozen BK115.out 1
          obtain ⟨Ao27, co27, eo27⟩ := Kd.S_slice HO_121001.out
          subst eo27
          go_wp2
          refine bodyPost_ret (results_ct rfl _ _ gb115 62 #[.int .i64 a0, .slice Ao27 x121001_1.length co27] (0, 0) _ rfl (by (with_reducible repeat (first | refine blk_drewN ?_ _ | refine blk_drew ?_ | refine blk_alloc ?_ _)); refine blk_put (cs := #[.int .i64 a0, .slice none 0 0]) ?_ 1 _ rfl; (with_reducible repeat (first | refine blk_drewN ?_ _ | refine blk_drew ?_ | refine blk_alloc ?_ _)); refine blk_put (cs := #[.int .i64 0, .slice none 0 0]) ?_ 0 _ rfl; (with_reducible repeat (first | refine blk_drewN ?_ _ | refine blk_drew ?_ | refine blk_alloc ?_ _)); exact BK115.out) Try.underlying62 rfl (by kernel_rfl)) rfl ?_
          exact ⟨_, by first | rfl | (simp [errW_none, errW_some] <;> rfl) | (simp [*, errW_none, errW_some] <;> rfl), by (with_reducible repeat (first | apply Kd.S_alloc | apply Kd.S_drewN | apply Kd.S_drew)); exact Kd.S_mono (Kd.S_far (p := ⟨gb115, 1, none⟩) (Kd.S_far (p := ⟨gb115, 0, none⟩) (Kd.S_types HO_121001.out BK115.out (by decide)) (fun _ hk => hk.2) (.int .i64 a0)) (fun _ hk => hk.2) (.slice Ao27 x121001_1.length co27)) (fun _ hk => trivial), by repeat (first | (with_reducible first | exact HB.out | apply below_alloc | apply pw_below_drewN | apply below_drew1 | refine below_set ?_ GE115.out | refine below_set ?_ GE120.out) | exact HB.out)⟩
  · replace c3 := Bool.eq_false_iff.mpr c3
    subst c3
    have H1 : (some (0, ([] : List (List (List Int))), 2)) = some (r1, r2, r3) := by rw [if_neg (show ¬ (false = true) by decide)] at H; exact H
    clear H
    have H := H1
    clear H1
    simp only [Option.some.injEq, Prod.mk.injEq] at H
    obtain ⟨rfl, rfl, rfl⟩ := H
    go_enter Try.func56, Try.ntmps56
    go_wp2_with (first | ((with_reducible refine gate_dst (N := 2) rfl ?_); refine box_event ?hg (N := 2) ?hd (cs := #[.int .i64 0, .slice none 0 0]) (t := 62) ?hr ?_; (case hd => rfl); (case hg => rfl); (case hr => first | (go_simp; done) | (go_simp; rfl)); intro gb115 hg w28 hbox hb; have n0_ := Aside0.mk (below_step (by repeat (first | (with_reducible first | exact HB.out | apply below_alloc | apply pw_below_drewN | apply below_drew1) | exact HB.out)) hb); have n1_ := Aside0.mk (hbox); have n2_ := Aside0.mk ((by rw [hg]; exact (below_size (by repeat (first | (with_reducible first | exact HB.out | apply below_alloc | apply pw_below_drewN | apply below_drew1) | exact HB.out))) : w.heap.size ≤ gb115)); have n3_ := Aside0.mk ((by rw [hg]; exact (below_size (by repeat (first | (with_reducible first | exact HB.out | apply below_alloc | apply pw_below_drewN | apply below_drew1) | exact HB.out))) : w.heap.size ≤ gb115)); clear HB; have HB := n0_; have BK115 := n1_; have GW115 := n2_; have GE115 := n3_; clear n0_ n1_ n2_ n3_; clear hb hbox hg) | ((with_reducible refine gate_callee (f := 86) rfl ?_); refine goesL_ (some 7) rfl rfl Try.func86 (by kernel_rfl) rfl #[.int .i64 a0, .int .i64 1, .int .i64 6] rfl (by (try simp only [List.map_toArray, List.map_cons, List.map_nil]); first | done | rfl | (simp only [List.length_drop, List.length_take]; rfl)) ?_; (with_reducible refine (impl_within.calls a0 1 6 false _ A2.out).mono ?_); rintro e w' ⟨rfl, ⟨nd, rfl⟩⟩; refine ⟨_, rfl, ?_⟩; (try (rw [drewN_self w28]; generalize hq_ : World.drewN w28 _ = w28; have n0_ : Aside0 (w28.heap[gb115]? = some (.cells #[.int .i64 0, .slice none 0 0] 62 (0, 0))) := ⟨by rw [← hq_]; exact (by (with_reducible repeat (first | refine blk_drewN ?_ _ | refine blk_drew ?_ | refine blk_alloc ?_ _)); exact BK115.out)⟩; have n1_ : Aside0 (Below w.heap.size w w28) := ⟨by rw [← hq_]; exact (by repeat (first | (with_reducible first | exact HB.out | apply below_alloc | apply pw_below_drewN | apply below_drew1 | refine below_set ?_ GE115.out) | exact HB.out))⟩; clear BK115 HB hq_; have BK115 := n0_; have HB := n1_; clear n0_ n1_)); have hcz29_0 : w28.cell? ⟨gb115, 0, none⟩ = some (.int .i64 0) := (blk_cell BK115.out 0).trans rfl; have hcz29_1 : w28.cell? ⟨gb115, 1, none⟩ = some (.slice none 0 0) := (blk_cell BK115.out 1).trans rfl; have hfz29_0 := blk_frozen BK115.out 0; have hfz29_1 := blk_frozen BK115.out 1))
    refine bodyPost_ret (results_ct rfl _ _ gb115 62 #[.int .i64 0, .slice none 0 0] (0, 0) _ rfl (by (with_reducible repeat (first | refine blk_drewN ?_ _ | refine blk_drew ?_ | refine blk_alloc ?_ _)); refine blk_put (cs := #[.int .i64 0, .slice none 0 0]) ?_ 1 _ rfl; (with_reducible repeat (first | refine blk_drewN ?_ _ | refine blk_drew ?_ | refine blk_alloc ?_ _)); refine blk_put (cs := #[.int .i64 0, .slice none 0 0]) ?_ 0 _ rfl; (with_reducible repeat (first | refine blk_drewN ?_ _ | refine blk_drew ?_ | refine blk_alloc ?_ _)); exact BK115.out) Try.underlying62 rfl (by kernel_rfl)) rfl ?_
    exact ⟨_, by first | rfl | (simp [errW_none, errW_some] <;> rfl) | (simp [*, errW_none, errW_some] <;> rfl), by first | exact Kd.S_nil _ _ _ _ _ | exact Kd.N_nil _ _ _ _ _ | exact Kd.V_nil _ _ _ _ _ | exact Kd.Q_nil _ _ _ _ _ | exact Kd.S_nil _ _ _ _ _, by repeat (first | (with_reducible first | exact HB.out | apply below_alloc | apply pw_below_drewN | apply below_drew1 | refine below_set ?_ GE115.out) | exact HB.out)⟩

end Go.Proofs.Ytkbjoiebaphdoaa.PS
