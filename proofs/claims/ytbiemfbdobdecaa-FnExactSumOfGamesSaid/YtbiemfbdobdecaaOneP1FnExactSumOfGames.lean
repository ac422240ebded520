/- The first part of the texts under the row of FnExactSumOfGames. -/
import Derived.Deep.Slices
import Derived.Lib.SmallJoins
import Derived.Test.YtbiemfbdobdecaaWWords
import Derived.Test.YtbiemfbdobdecaaWShare
import Derived.Test.YtbiemfbdobdecaaRows
import Derived.Test.YtbiemfbdobdecaaPXx0
import Derived.Test.YtbiemfbdobdecaaPXx9
import Derived.Test.YtbiemfbdobdecaaPXx10
import Derived.Test.YtbiemfbdobdecaaWGuard
import Derived.Test.YtbiemfbdobdecaaPXx1
import Derived.Test.YtbiemfbdobdecaaPXx6
import Derived.Test.YtbiemfbdobdecaaPXx8
import Derived.Test.YtbiemfbdobdecaaPXx5
import Derived.Test.YtbiemfbdobdecaaPXx2
import Derived.Test.YtbiemfbdobdecaaPXx7
import Derived.Test.YtbiemfbdobdecaaPXx4
import Derived.Test.YtbiemfbdobdecaaPXx3
import Derived.WalkKit
import Derived.ProofKit
import Derived.OpenShut
import Derived.ShutString
import Derived.ChangeOld
import Derived.Below
import Derived.Carry
import Derived.SizedLaws
import Derived.Test.YtbiemfbdobdecaaOneP0FnExactSumOfGames
/- The law FnExactSumOfGames along its good road: where the callees answer alike, it returns true and leaves all old memory as it was. -/
namespace Go.Proofs.Ytbiemfbdobdecaa.PX
open Go.RowKit Go.Proofs.YtbiemfbdobdecaaW.PrintWords Go.Proofs.YtbiemfbdobdecaaW.PrintLast Go.Proofs.YtbiemfbdobdecaaW.PrintMore
attribute [local go_sem] max2_int min2_int max_two min_two max_three min_three max_four min_four
set_option linter.unusedVariables false
set_option linter.unusedSimpArgs false

set_option maxHeartbeats 16000000 in
set_option maxRecDepth 100000 in
theorem laws_FnExactSumOfGames.good (k : Nat) (A0_0 : Option Addr) (c0_0 : Nat) (l0_0 : List (List Int)) (A1_0 : Option Addr) (c1_0 : Nat) (l1_0 : List (List Int)) (tsz0 : Int) (tsz1 : Int) (r0 : List (List Int)) (r1 : Int) (tm0 : Int) (tm1 : Int) (tm2 : Int) (w : World) (hr0_0 : Kd.C (Kd.slice 2 (Kd.int .i64)) w A0_0 l0_0.length l0_0) (hc0_0 : l0_0.length ≤ c0_0) (hr1_0 : Kd.C (Kd.slice 2 (Kd.int .i64)) w A1_0 l1_0.length l1_0) (hc1_0 : l1_0.length ≤ c1_0) (D_tsz0 : decide (tsz0 < 0) = false) (E_laws_szGame_14_h : laws_szGame.f k l0_0 1048576 = some tsz0) (D_tsz1 : decide (tsz1 < 0) = false) (E_laws_szGame_17_h : laws_szGame.f k l1_0 tsz0 = some tsz1) (E_laws_toGame_22_h : laws_toGame.f k l0_0 = some l0_0) (E_laws_toGame_30_h : laws_toGame.f k l1_0 = some l1_0) (E_spec_SumOfGames_38_h : spec_SumOfGames.f k l0_0 l1_0 = some (r0, r1)) (E_impl_SumOfGames_138_h : impl_SumOfGames.f k l0_0 l1_0 = some (r0, r1)) (E_laws_eqGame_154_h : laws_eqGame.f k r0 r0 = some true) (E_laws_eqGame_166_h : laws_eqGame.f k l0_0 l0_0 = some true) (E_laws_eqGame_178_h : laws_eqGame.f k l1_0 l1_0 = some true) (D_tm0 : decide (tm0 < 0) = false) (HM1_F112_h : 1 + total l0_0 < 4611686018427387904) (HM2_F112_h : l0_0.length < 4611686018427387904) (tm0_eq_h : 1 + total l0_0 = tm0) (D_tm1 : decide (tm1 < 0) = false) (HM1_F127_h : tm0 + total l1_0 < 4611686018427387904) (HM2_F127_h : l1_0.length < 4611686018427387904) (tm1_eq_h : tm0 + total l1_0 = tm1) (D_tm2 : decide (tm2 < 0) = false) (HM1_F143_h : 1 + total r0 < 4611686018427387904) (HM2_F143_h : r0.length < 4611686018427387904) (tm2_eq_h : 1 + total r0 = tm2) (E_laws_heldGame_189_h : laws_heldGame.f k (markL 1 r0) 1 = some tm2) :
    Calls Try.prog 3 #[.agg #[.slice A0_0 l0_0.length c0_0], .agg #[.slice A1_0 l1_0.length c1_0]] w fun e w' => e = .returned (.bool true) ∧ Below w.heap.size w w' := by
  have HR0_0 := Aside0.mk hr0_0
  have HC0_0 := Aside0.mk hc0_0
  clear hr0_0 hc0_0
  have HR1_0 := Aside0.mk hr1_0
  have HC1_0 := Aside0.mk hc1_0
  clear hr1_0 hc1_0
  have E_laws_szGame_14 := Aside0.mk E_laws_szGame_14_h
  clear E_laws_szGame_14_h
  have E_laws_szGame_17 := Aside0.mk E_laws_szGame_17_h
  clear E_laws_szGame_17_h
  have E_laws_toGame_22 := Aside0.mk E_laws_toGame_22_h
  clear E_laws_toGame_22_h
  have E_laws_toGame_30 := Aside0.mk E_laws_toGame_30_h
  clear E_laws_toGame_30_h
  have E_spec_SumOfGames_38 := Aside0.mk E_spec_SumOfGames_38_h
  clear E_spec_SumOfGames_38_h
  have E_impl_SumOfGames_138 := Aside0.mk E_impl_SumOfGames_138_h
  clear E_impl_SumOfGames_138_h
  have E_laws_eqGame_154 := Aside0.mk E_laws_eqGame_154_h
  clear E_laws_eqGame_154_h
  have E_laws_eqGame_166 := Aside0.mk E_laws_eqGame_166_h
  clear E_laws_eqGame_166_h
  have E_laws_eqGame_178 := Aside0.mk E_laws_eqGame_178_h
  clear E_laws_eqGame_178_h
  have HM1_F112 := Aside0.mk HM1_F112_h
  clear HM1_F112_h
  have HM2_F112 := Aside0.mk HM2_F112_h
  clear HM2_F112_h
  have tm0_eq := Aside0.mk tm0_eq_h
  clear tm0_eq_h
  have HM1_F127 := Aside0.mk HM1_F127_h
  clear HM1_F127_h
  have HM2_F127 := Aside0.mk HM2_F127_h
  clear HM2_F127_h
  have tm1_eq := Aside0.mk tm1_eq_h
  clear tm1_eq_h
  have HM1_F143 := Aside0.mk HM1_F143_h
  clear HM1_F143_h
  have HM2_F143 := Aside0.mk HM2_F143_h
  clear HM2_F143_h
  have tm2_eq := Aside0.mk tm2_eq_h
  clear tm2_eq_h
  have E_laws_heldGame_189 := Aside0.mk E_laws_heldGame_189_h
  clear E_laws_heldGame_189_h
  have hu24 := Try.underlying24
  have hu26 := Try.underlying26
  have HB := Aside0.mk (Below.refl w.heap.size w)
  go_enter Try.func3, Try.ntmps3
  go_wp2_with (first | ((with_reducible refine gate_dst (N := 2) rfl ?_); (try (refine gate_guard (by rfl) ?_; dsimp only)); refine box_event ?hg (N := 2) ?hd (cs := #[.slice A0_0 l0_0.length c0_0]) (t := 24) ?hr ?_; (case hd => rfl); (case hg => rfl); (case hr => first | (go_simp; done) | (go_simp; rfl)); intro gb1 hg w2 hbox hb; have Z5 : Aside0 (w.heap.size ≤ w2.heap.size) := Aside0.mk (hb.size); have BK3 := Aside0.mk hbox; have GP4 := Aside0.mk hg; have Z6 : Aside0 (gb1 < w2.heap.size) := Aside0.mk (blk_lt hbox); have n0_ := Aside0.mk (below_then HB.out HB.out.size hb); clear HB; have HB := n0_; clear n0_; clear hb hbox hg; (try clear hz_gb1_0); have hz_gb1_0 : w2.cell? ⟨gb1, 0, none⟩ = some (.slice A0_0 l0_0.length c0_0) := (blk_cell BK3.out 0).trans rfl; (try clear hf_gb1_0); have hf_gb1_0 := blk_frozen BK3.out 0) | ((with_reducible refine gate_dst (N := 3) rfl ?_); (try (refine gate_guard (by rfl) ?_; dsimp only)); refine box_event ?hg (N := 3) ?hd (cs := #[.slice A1_0 l1_0.length c1_0]) (t := 24) ?hr ?_; (case hd => rfl); (case hg => rfl); (case hr => first | (go_simp; done) | (go_simp; rfl)); intro gb7 hg w8 hbox hb; have Z11 : Aside0 (w2.heap.size ≤ w8.heap.size) := Aside0.mk (hb.size); have BK9 := Aside0.mk hbox; have GP10 := Aside0.mk hg; have Z12 : Aside0 (gb7 < w8.heap.size) := Aside0.mk (blk_lt hbox); have n0_ := Aside0.mk (below_then HB.out HB.out.size hb); have n1_ := Aside0.mk (blk_below (g := gb1) (o := .cells #[.slice A0_0 l0_0.length c0_0] 24 (0, 0)) BK3.out hb); clear HB BK3; have HB := n0_; have BK3 := n1_; clear n0_ n1_; clear hb hbox hg; (try clear hz_gb1_0); have hz_gb1_0 : w8.cell? ⟨gb1, 0, none⟩ = some (.slice A0_0 l0_0.length c0_0) := (blk_cell BK3.out 0).trans rfl; (try clear hf_gb1_0); have hf_gb1_0 := blk_frozen BK3.out 0; (try clear hz_gb7_0); have hz_gb7_0 : w8.cell? ⟨gb7, 0, none⟩ = some (.slice A1_0 l1_0.length c1_0) := (blk_cell BK9.out 0).trans rfl; (try clear hf_gb7_0); have hf_gb7_0 := blk_frozen BK9.out 0) | ((with_reducible refine gate_dst (N := 19) rfl ?_); (try (refine gate_guard (by rfl) ?_; dsimp only)); refine goesL_ (some 19) rfl rfl Try.func8 (by kernel_rfl) rfl #[.agg #[.slice A0_0 l0_0.length c0_0], .int .i64 1048576] rfl (by (try simp only [List.map_toArray, List.map_cons, List.map_nil]); first | done | rfl) ?_; (with_reducible refine (laws_szGame.calls k _ _ l0_0 1048576 tsz0 _ ?side1 ?side2 E_laws_szGame_14.out).mono ?_); (case side1 => exact Kd.C_below HR0_0.out HB.out); (case side2 => exact HC0_0.out); rintro e w13 ⟨rfl, hb⟩; refine ⟨_, rfl, ?_⟩; have Z15 : Aside0 (w8.heap.size ≤ w13.heap.size) := Aside0.mk (hb.size); have n0_ := Aside0.mk (below_then HB.out HB.out.size hb); have n1_ := Aside0.mk (blk_below (g := gb1) (o := .cells #[.slice A0_0 l0_0.length c0_0] 24 (0, 0)) BK3.out hb); have n2_ := Aside0.mk (blk_below (g := gb7) (o := .cells #[.slice A1_0 l1_0.length c1_0] 24 (0, 0)) BK9.out hb); clear HB BK3 BK9; have HB := n0_; have BK3 := n1_; have BK9 := n2_; clear n0_ n1_ n2_; (try clear hb); (try clear hz_gb1_0); have hz_gb1_0 : w13.cell? ⟨gb1, 0, none⟩ = some (.slice A0_0 l0_0.length c0_0) := (blk_cell BK3.out 0).trans rfl; (try clear hf_gb1_0); have hf_gb1_0 := blk_frozen BK3.out 0; (try clear hz_gb7_0); have hz_gb7_0 : w13.cell? ⟨gb7, 0, none⟩ = some (.slice A1_0 l1_0.length c1_0) := (blk_cell BK9.out 0).trans rfl; (try clear hf_gb7_0); have hf_gb7_0 := blk_frozen BK9.out 0) | ((with_reducible refine gate_dst (N := 24) rfl ?_); (try (refine gate_guard (by rfl) ?_; dsimp only)); refine goesL_ (some 24) rfl rfl Try.func8 (by kernel_rfl) rfl #[.agg #[.slice A1_0 l1_0.length c1_0], .int .i64 tsz0] rfl (by (try simp only [List.map_toArray, List.map_cons, List.map_nil]); first | done | rfl) ?_; (with_reducible refine (laws_szGame.calls k _ _ l1_0 tsz0 tsz1 _ ?side1 ?side2 E_laws_szGame_17.out).mono ?_); (case side1 => exact Kd.C_below HR1_0.out HB.out); (case side2 => exact HC1_0.out); rintro e w16 ⟨rfl, hb⟩; refine ⟨_, rfl, ?_⟩; have Z18 : Aside0 (w13.heap.size ≤ w16.heap.size) := Aside0.mk (hb.size); have n0_ := Aside0.mk (below_then HB.out HB.out.size hb); have n1_ := Aside0.mk (blk_below (g := gb1) (o := .cells #[.slice A0_0 l0_0.length c0_0] 24 (0, 0)) BK3.out hb); have n2_ := Aside0.mk (blk_below (g := gb7) (o := .cells #[.slice A1_0 l1_0.length c1_0] 24 (0, 0)) BK9.out hb); clear HB BK3 BK9; have HB := n0_; have BK3 := n1_; have BK9 := n2_; clear n0_ n1_ n2_; (try clear hb); (try clear hz_gb1_0); have hz_gb1_0 : w16.cell? ⟨gb1, 0, none⟩ = some (.slice A0_0 l0_0.length c0_0) := (blk_cell BK3.out 0).trans rfl; (try clear hf_gb1_0); have hf_gb1_0 := blk_frozen BK3.out 0; (try clear hz_gb7_0); have hz_gb7_0 : w16.cell? ⟨gb7, 0, none⟩ = some (.slice A1_0 l1_0.length c1_0) := (blk_cell BK9.out 0).trans rfl; (try clear hf_gb7_0); have hf_gb7_0 := blk_frozen BK9.out 0))
  refine start_ (n := 11) (S := fun w' => w'.cell? ⟨gb1, 0, none⟩ = some (.slice A0_0 l0_0.length c0_0) ∧ w'.cell? ⟨gb7, 0, none⟩ = some (.slice A1_0 l1_0.length c1_0)) (ds := []) #[false, false, false, false, false, false, false, false, false, false, false] (by kernel_rfl) rfl rfl ⟨(blk_cell BK3.out 0).trans rfl, (blk_cell BK9.out 0).trans rfl⟩ (fun hHeld => ?_)
  have Z20 : Aside0 (w16.heap.size ≤ w16.drew.heap.size) := Aside0.mk (Nat.le_refl _)
  have n0_ := Aside0.mk (below_drew HB.out)
  have n1_ := Aside0.mk (blk_drew BK3.out)
  have n2_ := Aside0.mk (blk_drew BK9.out)
  clear HB BK3 BK9
  have HB := n0_
  have BK3 := n1_
  have BK9 := n2_
  clear n0_ n1_ n2_
  generalize w16.drew = w19 at HB BK3 BK9 Z20 hHeld ⊢
  refine take_ (i := 0) (N := some 28) (v := ?_) (a' := ?_) #[true, false, false, false, false, false, false, false, false, false, false] rfl rfl (by kernel_rfl) (fun _ _ _ h => h) (Or.inl ⟨by rfl, ?_⟩) hHeld ?_ ?_
  rotate_left
  · rintro w' ⟨s0_, s1_⟩
    go_simp
    with_reducible rfl
  rotate_left
  · simp only [putAll, Act.put, List.setIfInBounds_toArray, List.set_cons_zero, List.set_cons_succ, i64_w, i32_w]
    rfl
  refine take_ (i := 2) (N := some 30) (v := ?_) (a' := ?_) #[true, false, true, false, false, false, false, false, false, false, false] rfl rfl (by kernel_rfl) (fun _ _ _ h => h) (Or.inl ⟨by rfl, ?_⟩) hHeld ?_ ?_
  rotate_left
  · rintro w' ⟨s0_, s1_⟩
    go_simp
    with_reducible rfl
  rotate_left
  · simp only [putAll, Act.put, List.setIfInBounds_toArray, List.set_cons_zero, List.set_cons_succ, i64_w, i32_w]
    rfl
  refine join_ (σ := Value × Value × Option Addr × Nat × Nat × Nat × Nat) 2 #[true, true, true, true, true, true, true, true, true, false, false] (fun s => match s with | (ju0, ju1, jA0, jc0, jgb, jlo, jhi) => [(29, ju0), (31, ju1), (32, .tuple #[.agg #[.slice jA0 r0.length jc0], .int .i64 r1]), (27, .tuple #[.agg #[.slice jA0 r0.length jc0], .int .i64 r1]), (33, .agg #[.slice jA0 r0.length jc0]), (34, .int .i64 r1), (6, .pointer (some ⟨jgb, 0, none⟩))]) (fun s w' => match s with | (ju0, ju1, jA0, jc0, jgb, jlo, jhi) => Below w19.heap.size w19 w' ∧ Kd.S (Kd.slice 2 (Kd.int .i64)) 36 w' w.heap.size (Ivl jlo jhi) (.slice jA0 r0.length jc0) r0 ∧ w'.heap[jgb]? = some (.cells #[.slice none 0 0] 26 (0, 0)) ∧ w19.heap.size ≤ jlo ∧ jlo ≤ jhi ∧ jhi ≤ w'.heap.size ∧ w19.heap.size ≤ jgb ∧ jgb < w'.heap.size ∧ (jgb < jlo ∨ jhi ≤ jgb)) ?_ ?_
  rotate_left
  · intro hcont
    have HBo := Aside0.mk (Below.refl w19.heap.size w19)
    refine two_ (i := 1) (j := 8) (Ni := some 29) (Nj := some 6) #[true, true, true, false, false, false, false, false, false, false, false] #[true, false, true, false, false, false, false, false, true, false, false] rfl rfl rfl rfl (by kernel_rfl) (by decide) (by decide) (fun K hK => ?_) (fun K hK => ?_)
    · refine goes_ Try.func10 (by kernel_rfl) rfl #[.agg #[.slice A0_0 l0_0.length c0_0]] (by rfl) rfl rfl (by (try simp only [List.map_toArray, List.map_cons, List.map_nil]); first | done | rfl) ?_
      with_reducible refine (laws_toGame.calls k _ _ l0_0 l0_0 _ ?side1 ?side2 E_laws_toGame_22.out).mono ?_
      (case side1 => exact Kd.C_below (Kd.C_below HR0_0.out HB.out) HBo.out)
      (case side2 => exact HC0_0.out)
      rintro e w21 ⟨v23, rfl, ho24, hb⟩
      refine ⟨_, rfl, ?_⟩
      obtain ⟨Ao26, co27, e_Ao26⟩ := Kd.S_slice ho24
      subst e_Ao26
      have F25 := Aside0.mk (S_ivl ho24 (Nat.le_trans HB.out.size HBo.out.size))
      have Z28 : Aside0 (w19.heap.size ≤ w21.heap.size) := Aside0.mk hb.size
      clear ho24
      have n0_ := Aside0.mk (HBo.out.trans (hb.mono HBo.out.size))
      clear HBo
      have HBo := n0_
      clear n0_
      clear hb
      refine hK.out _ _ ⟨(blk_cell (blk_below (g := gb1) (o := .cells #[.slice A0_0 l0_0.length c0_0] 24 (0, 0)) BK3.out HBo.out) 0).trans rfl, (blk_cell (blk_below (g := gb7) (o := .cells #[.slice A1_0 l1_0.length c1_0] 24 (0, 0)) BK9.out HBo.out) 0).trans rfl⟩ (fun hHeld => ?_)
      clear hK K
      refine norm_ (a' := ?_) ?_ ?_
      rotate_left
      · show Act.put _ (some 29) _ = _
        simp only [Act.put, List.setIfInBounds_toArray, List.set_cons_zero, List.set_cons_succ, i64_w, i32_w]
        rfl
      refine two_ (i := 3) (j := 8) (Ni := some 31) (Nj := some 6) #[true, true, true, true, false, false, false, false, false, false, false] #[true, true, true, false, false, false, false, false, true, false, false] rfl rfl rfl rfl (by kernel_rfl) (by decide) (by decide) (fun K hK => ?_) (fun K hK => ?_)
      · refine goes_ Try.func10 (by kernel_rfl) rfl #[.agg #[.slice A1_0 l1_0.length c1_0]] (by rfl) rfl rfl (by (try simp only [List.map_toArray, List.map_cons, List.map_nil]); first | done | rfl) ?_
        with_reducible refine (laws_toGame.calls k _ _ l1_0 l1_0 _ ?side1 ?side2 E_laws_toGame_30.out).mono ?_
        (case side1 => exact Kd.C_below (Kd.C_below HR1_0.out HB.out) HBo.out)
        (case side2 => exact HC1_0.out)
        rintro e w29 ⟨v31, rfl, ho32, hb⟩
        refine ⟨_, rfl, ?_⟩
        obtain ⟨Ao34, co35, e_Ao34⟩ := Kd.S_slice ho32
        subst e_Ao34
        have F33 := Aside0.mk (S_ivl ho32 (Nat.le_trans HB.out.size HBo.out.size))
        have Z36 : Aside0 (w21.heap.size ≤ w29.heap.size) := Aside0.mk hb.size
        clear ho32
        have n0_ := Aside0.mk (HBo.out.trans (hb.mono HBo.out.size))
        clear HBo
        have HBo := n0_
        clear n0_
        have n0_ := Aside0.mk (Kd.S_below F25.out hb)
        clear F25
        have F25 := n0_
        clear n0_
        clear hb
        refine hK.out _ _ ⟨(blk_cell (blk_below (g := gb1) (o := .cells #[.slice A0_0 l0_0.length c0_0] 24 (0, 0)) BK3.out HBo.out) 0).trans rfl, (blk_cell (blk_below (g := gb7) (o := .cells #[.slice A1_0 l1_0.length c1_0] 24 (0, 0)) BK9.out HBo.out) 0).trans rfl⟩ (fun hHeld => ?_)
        clear hK K
        refine norm_ (a' := ?_) ?_ ?_
        rotate_left
        · show Act.put _ (some 31) _ = _
          simp only [Act.put, List.setIfInBounds_toArray, List.set_cons_zero, List.set_cons_succ, i64_w, i32_w]
          rfl
        refine two_ (i := 4) (j := 8) (Ni := some 32) (Nj := some 6) #[true, true, true, true, true, false, false, false, false, false, false] #[true, true, true, true, false, false, false, false, true, false, false] rfl rfl rfl rfl (by kernel_rfl) (by decide) (by decide) (fun K hK => ?_) (fun K hK => ?_)
        · refine goes_ Try.func9 (by kernel_rfl) rfl #[.agg #[.slice Ao26 l0_0.length co27], .agg #[.slice Ao34 l1_0.length co35]] (by rfl) rfl rfl (by (try simp only [List.map_toArray, List.map_cons, List.map_nil]); first | done | rfl) ?_
          with_reducible refine (spec_SumOfGames.calls k _ _ l0_0 _ _ l1_0 r0 r1 _ ?side1 ?side2 ?side3 ?side4 E_spec_SumOfGames_38.out).mono ?_
          (case side1 => exact (Kd.S_reads' F25.out).2.2)
          (case side2 => exact (Kd.S_reads' F25.out).2.1)
          (case side3 => exact (Kd.S_reads' F33.out).2.2)
          (case side4 => exact (Kd.S_reads' F33.out).2.1)
          rintro e w37 ⟨v39, rfl, ho40, hb⟩
          refine ⟨_, rfl, ?_⟩
          obtain ⟨jA0, jc0, e_jA0⟩ := Kd.S_slice ho40
          subst e_jA0
          have F41 := Aside0.mk (S_ivl ho40 (Nat.le_trans HB.out.size HBo.out.size))
          have Z42 : Aside0 (w29.heap.size ≤ w37.heap.size) := Aside0.mk hb.size
          clear ho40
          have n0_ := Aside0.mk (HBo.out.trans (hb.mono HBo.out.size))
          clear HBo
          have HBo := n0_
          clear n0_
          have n0_ := Aside0.mk (Kd.S_below F25.out hb)
          clear F25
          have F25 := n0_
          clear n0_
          have n0_ := Aside0.mk (Kd.S_below F33.out hb)
          clear F33
          have F33 := n0_
          clear n0_
          clear hb
          refine hK.out _ _ ⟨(blk_cell (blk_below (g := gb1) (o := .cells #[.slice A0_0 l0_0.length c0_0] 24 (0, 0)) BK3.out HBo.out) 0).trans rfl, (blk_cell (blk_below (g := gb7) (o := .cells #[.slice A1_0 l1_0.length c1_0] 24 (0, 0)) BK9.out HBo.out) 0).trans rfl⟩ (fun hHeld => ?_)
          clear hK K
          refine norm_ (a' := ?_) ?_ ?_
          rotate_left
          · show Act.put _ (some 32) _ = _
            simp only [Act.put, List.setIfInBounds_toArray, List.set_cons_zero, List.set_cons_succ, i64_w, i32_w]
            rfl
          refine pure_ (i := 5) (N := some 27) (v := ?_) (a' := ?_) #[true, true, true, true, true, true, false, false, false, false, false] rfl rfl (by kernel_rfl) (fun _ _ _ h => h) (Or.inl ⟨by rfl, ?_⟩) ?_ ?_
          rotate_left
          · intro w'
            go_simp
            with_reducible rfl
          rotate_left
          · simp only [putAll, Act.put, List.setIfInBounds_toArray, List.set_cons_zero, List.set_cons_succ, i64_w, i32_w]
            rfl
          refine pure_ (i := 6) (N := some 33) (v := ?_) (a' := ?_) #[true, true, true, true, true, true, true, false, false, false, false] rfl rfl (by kernel_rfl) (fun _ _ _ h => h) (Or.inl ⟨by rfl, ?_⟩) ?_ ?_
          rotate_left
          · intro w'
            go_simp
            with_reducible rfl
          rotate_left
          · simp only [putAll, Act.put, List.setIfInBounds_toArray, List.set_cons_zero, List.set_cons_succ, i64_w, i32_w]
            rfl
          refine pure_ (i := 7) (N := some 34) (v := ?_) (a' := ?_) #[true, true, true, true, true, true, true, true, false, false, false] rfl rfl (by kernel_rfl) (fun _ _ _ h => h) (Or.inl ⟨by rfl, ?_⟩) ?_ ?_
          rotate_left
          · intro w'
            go_simp
            with_reducible rfl
          rotate_left
          · simp only [putAll, Act.put, List.setIfInBounds_toArray, List.set_cons_zero, List.set_cons_succ, i64_w, i32_w]
            rfl
          refine one_ (i := 8) (N := some 6) #[true, true, true, true, true, true, true, true, true, false, false] rfl rfl (by kernel_rfl) (by decide) (fun K hK => ?_)
          refine value_ (w1 := (w37.alloc (.cells #[.slice none 0 0] 26 (0, 0)))) (v := .pointer (some ⟨w37.heap.size, 0, none⟩)) (by rfl) rfl (by first | (go_simp; done) | (go_simp; rfl)) ?_
          have hbox := blk_new w37 (.cells #[.slice none 0 0] 26 (0, 0))
          have hb := below_alloc (Below.refl w37.heap.size w37) (.cells #[.slice none 0 0] 26 (0, 0))
          generalize w37.alloc (.cells #[.slice none 0 0] 26 (0, 0)) = w43 at hbox hb ⊢
          have Z44 : Aside0 (w37.heap.size < w43.heap.size) := Aside0.mk (blk_lt hbox)
          obtain ⟨jgb, hgb⟩ : ∃ gb, gb = w37.heap.size := ⟨_, rfl⟩
          rw [← hgb] at hbox ⊢
          have Z45 := Aside0.mk hgb
          have BKo := Aside0.mk hbox
          clear hgb hbox
          have n0_ := Aside0.mk (HBo.out.trans (hb.mono HBo.out.size))
          clear HBo
          have HBo := n0_
          clear n0_
          have n0_ := Aside0.mk (Kd.S_below F25.out hb)
          clear F25
          have F25 := n0_
          clear n0_
          have n0_ := Aside0.mk (Kd.S_below F33.out hb)
          clear F33
          have F33 := n0_
          clear n0_
          have n0_ := Aside0.mk (Kd.S_below F41.out hb)
          clear F41
          have F41 := n0_
          clear n0_
          clear hb
          refine hK.out _ _ ⟨(blk_cell (blk_below (g := gb1) (o := .cells #[.slice A0_0 l0_0.length c0_0] 24 (0, 0)) BK3.out HBo.out) 0).trans rfl, (blk_cell (blk_below (g := gb7) (o := .cells #[.slice A1_0 l1_0.length c1_0] 24 (0, 0)) BK9.out HBo.out) 0).trans rfl⟩ (fun hHeld => ?_)
          clear hK K
          refine norm_ (a' := ?_) ?_ ?_
          rotate_left
          · show Act.put _ (some 6) _ = _
            simp only [Act.put, List.setIfInBounds_toArray, List.set_cons_zero, List.set_cons_succ, i64_w, i32_w]
            rfl
          exact norm_ (by first | rfl | (simp only [putAll, Act.put, List.setIfInBounds_toArray, List.set_cons_zero, List.set_cons_succ, i64_w, i32_w]) <;> rfl) (hcont (.agg #[.slice Ao26 l0_0.length co27], .agg #[.slice Ao34 l1_0.length co35], jA0, jc0, jgb, w29.heap.size, w37.heap.size) w43 ⟨HBo.out, F41.out, BKo.out, by have z0_ := Z28.out; have z1_ := Z36.out; have z2_ := Z42.out; have z3_ := Z44.out; have z4_ := Z45.out; have zo_ := HBo.out.size; omega, by have z0_ := Z28.out; have z1_ := Z36.out; have z2_ := Z42.out; have z3_ := Z44.out; have z4_ := Z45.out; have zo_ := HBo.out.size; omega, by have z0_ := Z28.out; have z1_ := Z36.out; have z2_ := Z42.out; have z3_ := Z44.out; have z4_ := Z45.out; have zo_ := HBo.out.size; omega, by have z0_ := Z28.out; have z1_ := Z36.out; have z2_ := Z42.out; have z3_ := Z44.out; have z4_ := Z45.out; have zo_ := HBo.out.size; omega, by have z0_ := Z28.out; have z1_ := Z36.out; have z2_ := Z42.out; have z3_ := Z44.out; have z4_ := Z45.out; have zo_ := HBo.out.size; omega, by have z0_ := Z28.out; have z1_ := Z36.out; have z2_ := Z42.out; have z3_ := Z44.out; have z4_ := Z45.out; have zo_ := HBo.out.size; omega⟩)
        · refine value_ (w1 := (w29.alloc (.cells #[.slice none 0 0] 26 (0, 0)))) (v := .pointer (some ⟨w29.heap.size, 0, none⟩)) (by rfl) rfl (by first | (go_simp; done) | (go_simp; rfl)) ?_
          have hbox := blk_new w29 (.cells #[.slice none 0 0] 26 (0, 0))
          have hb := below_alloc (Below.refl w29.heap.size w29) (.cells #[.slice none 0 0] 26 (0, 0))
          generalize w29.alloc (.cells #[.slice none 0 0] 26 (0, 0)) = w46 at hbox hb ⊢
          have Z47 : Aside0 (w29.heap.size < w46.heap.size) := Aside0.mk (blk_lt hbox)
          obtain ⟨jgb, hgb⟩ : ∃ gb, gb = w29.heap.size := ⟨_, rfl⟩
          rw [← hgb] at hbox ⊢
          have Z48 := Aside0.mk hgb
          have BKo := Aside0.mk hbox
          clear hgb hbox
          have n0_ := Aside0.mk (HBo.out.trans (hb.mono HBo.out.size))
          clear HBo
          have HBo := n0_
          clear n0_
          have n0_ := Aside0.mk (Kd.S_below F25.out hb)
          clear F25
          have F25 := n0_
          clear n0_
          have n0_ := Aside0.mk (Kd.S_below F33.out hb)
          clear F33
          have F33 := n0_
          clear n0_
          clear hb
          refine hK.out _ _ ⟨(blk_cell (blk_below (g := gb1) (o := .cells #[.slice A0_0 l0_0.length c0_0] 24 (0, 0)) BK3.out HBo.out) 0).trans rfl, (blk_cell (blk_below (g := gb7) (o := .cells #[.slice A1_0 l1_0.length c1_0] 24 (0, 0)) BK9.out HBo.out) 0).trans rfl⟩ (fun hHeld => ?_)
          clear hK K
          refine norm_ (a' := ?_) ?_ ?_
          rotate_left
          · show Act.put _ (some 6) _ = _
            simp only [Act.put, List.setIfInBounds_toArray, List.set_cons_zero, List.set_cons_succ, i64_w, i32_w]
            rfl
          refine one_ (i := 4) (N := some 32) #[true, true, true, true, true, false, false, false, true, false, false] rfl rfl (by kernel_rfl) (by decide) (fun K hK => ?_)
          refine goes_ Try.func9 (by kernel_rfl) rfl #[.agg #[.slice Ao26 l0_0.length co27], .agg #[.slice Ao34 l1_0.length co35]] (by rfl) rfl rfl (by (try simp only [List.map_toArray, List.map_cons, List.map_nil]); first | done | rfl) ?_
          with_reducible refine (spec_SumOfGames.calls k _ _ l0_0 _ _ l1_0 r0 r1 _ ?side1 ?side2 ?side3 ?side4 E_spec_SumOfGames_38.out).mono ?_
          (case side1 => exact (Kd.S_reads' F25.out).2.2)
          (case side2 => exact (Kd.S_reads' F25.out).2.1)
          (case side3 => exact (Kd.S_reads' F33.out).2.2)
          (case side4 => exact (Kd.S_reads' F33.out).2.1)
          rintro e w49 ⟨v50, rfl, ho51, hb⟩
          refine ⟨_, rfl, ?_⟩
          obtain ⟨jA0, jc0, e_jA0⟩ := Kd.S_slice ho51
          subst e_jA0
          have F52 := Aside0.mk (S_ivl ho51 (Nat.le_trans HB.out.size HBo.out.size))
          have Z53 : Aside0 (w46.heap.size ≤ w49.heap.size) := Aside0.mk hb.size
          clear ho51
          have n0_ := Aside0.mk (HBo.out.trans (hb.mono HBo.out.size))
          clear HBo
          have HBo := n0_
          clear n0_
          have n0_ := Aside0.mk (Kd.S_below F25.out hb)
          clear F25
          have F25 := n0_
          clear n0_
          have n0_ := Aside0.mk (Kd.S_below F33.out hb)
          clear F33
          have F33 := n0_
          clear n0_
          have n0_ := Aside0.mk (blk_below (g := jgb) (o := .cells #[.slice none 0 0] 26 (0, 0)) BKo.out hb)
          clear BKo
          have BKo := n0_
          clear n0_
          clear hb
          refine hK.out _ _ ⟨(blk_cell (blk_below (g := gb1) (o := .cells #[.slice A0_0 l0_0.length c0_0] 24 (0, 0)) BK3.out HBo.out) 0).trans rfl, (blk_cell (blk_below (g := gb7) (o := .cells #[.slice A1_0 l1_0.length c1_0] 24 (0, 0)) BK9.out HBo.out) 0).trans rfl⟩ (fun hHeld => ?_)
          clear hK K
          refine norm_ (a' := ?_) ?_ ?_
          rotate_left
          · show Act.put _ (some 32) _ = _
            simp only [Act.put, List.setIfInBounds_toArray, List.set_cons_zero, List.set_cons_succ, i64_w, i32_w]
            rfl
          refine pure_ (i := 5) (N := some 27) (v := ?_) (a' := ?_) #[true, true, true, true, true, true, false, false, true, false, false] rfl rfl (by kernel_rfl) (fun _ _ _ h => h) (Or.inl ⟨by rfl, ?_⟩) ?_ ?_
          rotate_left
          · intro w'
            go_simp
            with_reducible rfl
          rotate_left
          · simp only [putAll, Act.put, List.setIfInBounds_toArray, List.set_cons_zero, List.set_cons_succ, i64_w, i32_w]
            rfl
          refine pure_ (i := 6) (N := some 33) (v := ?_) (a' := ?_) #[true, true, true, true, true, true, true, false, true, false, false] rfl rfl (by kernel_rfl) (fun _ _ _ h => h) (Or.inl ⟨by rfl, ?_⟩) ?_ ?_
          rotate_left
          · intro w'
            go_simp
            with_reducible rfl
          rotate_left
          · simp only [putAll, Act.put, List.setIfInBounds_toArray, List.set_cons_zero, List.set_cons_succ, i64_w, i32_w]
            rfl
          refine pure_ (i := 7) (N := some 34) (v := ?_) (a' := ?_) #[true, true, true, true, true, true, true, true, true, false, false] rfl rfl (by kernel_rfl) (fun _ _ _ h => h) (Or.inl ⟨by rfl, ?_⟩) ?_ ?_
          rotate_left
          · intro w'
            go_simp
            with_reducible rfl
          rotate_left
          · simp only [putAll, Act.put, List.setIfInBounds_toArray, List.set_cons_zero, List.set_cons_succ, i64_w, i32_w]
            rfl
          exact norm_ (by first | rfl | (simp only [putAll, Act.put, List.setIfInBounds_toArray, List.set_cons_zero, List.set_cons_succ, i64_w, i32_w]) <;> rfl) (hcont (.agg #[.slice Ao26 l0_0.length co27], .agg #[.slice Ao34 l1_0.length co35], jA0, jc0, jgb, w46.heap.size, w49.heap.size) w49 ⟨HBo.out, F52.out, BKo.out, by have z0_ := Z28.out; have z1_ := Z36.out; have z2_ := Z47.out; have z3_ := Z48.out; have z4_ := Z53.out; have zo_ := HBo.out.size; omega, by have z0_ := Z28.out; have z1_ := Z36.out; have z2_ := Z47.out; have z3_ := Z48.out; have z4_ := Z53.out; have zo_ := HBo.out.size; omega, by have z0_ := Z28.out; have z1_ := Z36.out; have z2_ := Z47.out; have z3_ := Z48.out; have z4_ := Z53.out; have zo_ := HBo.out.size; omega, by have z0_ := Z28.out; have z1_ := Z36.out; have z2_ := Z47.out; have z3_ := Z48.out; have z4_ := Z53.out; have zo_ := HBo.out.size; omega, by have z0_ := Z28.out; have z1_ := Z36.out; have z2_ := Z47.out; have z3_ := Z48.out; have z4_ := Z53.out; have zo_ := HBo.out.size; omega, by have z0_ := Z28.out; have z1_ := Z36.out; have z2_ := Z47.out; have z3_ := Z48.out; have z4_ := Z53.out; have zo_ := HBo.out.size; omega⟩)
      · refine value_ (w1 := (w21.alloc (.cells #[.slice none 0 0] 26 (0, 0)))) (v := .pointer (some ⟨w21.heap.size, 0, none⟩)) (by rfl) rfl (by first | (go_simp; done) | (go_simp; rfl)) ?_
        have hbox := blk_new w21 (.cells #[.slice none 0 0] 26 (0, 0))
        have hb := below_alloc (Below.refl w21.heap.size w21) (.cells #[.slice none 0 0] 26 (0, 0))
        generalize w21.alloc (.cells #[.slice none 0 0] 26 (0, 0)) = w54 at hbox hb ⊢
        have Z55 : Aside0 (w21.heap.size < w54.heap.size) := Aside0.mk (blk_lt hbox)
        obtain ⟨jgb, hgb⟩ : ∃ gb, gb = w21.heap.size := ⟨_, rfl⟩
        rw [← hgb] at hbox ⊢
        have Z56 := Aside0.mk hgb
        have BKo := Aside0.mk hbox
        clear hgb hbox
        have n0_ := Aside0.mk (HBo.out.trans (hb.mono HBo.out.size))
        clear HBo
        have HBo := n0_
        clear n0_
        have n0_ := Aside0.mk (Kd.S_below F25.out hb)
        clear F25
        have F25 := n0_
        clear n0_
        clear hb
        refine hK.out _ _ ⟨(blk_cell (blk_below (g := gb1) (o := .cells #[.slice A0_0 l0_0.length c0_0] 24 (0, 0)) BK3.out HBo.out) 0).trans rfl, (blk_cell (blk_below (g := gb7) (o := .cells #[.slice A1_0 l1_0.length c1_0] 24 (0, 0)) BK9.out HBo.out) 0).trans rfl⟩ (fun hHeld => ?_)
        clear hK K
        refine norm_ (a' := ?_) ?_ ?_
        rotate_left
        · show Act.put _ (some 6) _ = _
          simp only [Act.put, List.setIfInBounds_toArray, List.set_cons_zero, List.set_cons_succ, i64_w, i32_w]
          rfl
        refine one_ (i := 3) (N := some 31) #[true, true, true, true, false, false, false, false, true, false, false] rfl rfl (by kernel_rfl) (by decide) (fun K hK => ?_)
        refine goes_ Try.func10 (by kernel_rfl) rfl #[.agg #[.slice A1_0 l1_0.length c1_0]] (by rfl) rfl rfl (by (try simp only [List.map_toArray, List.map_cons, List.map_nil]); first | done | rfl) ?_
        with_reducible refine (laws_toGame.calls k _ _ l1_0 l1_0 _ ?side1 ?side2 E_laws_toGame_30.out).mono ?_
        (case side1 => exact Kd.C_below (Kd.C_below HR1_0.out HB.out) HBo.out)
        (case side2 => exact HC1_0.out)
        rintro e w57 ⟨v58, rfl, ho59, hb⟩
        refine ⟨_, rfl, ?_⟩
        obtain ⟨Ao61, co62, e_Ao61⟩ := Kd.S_slice ho59
        subst e_Ao61
        have F60 := Aside0.mk (S_ivl ho59 (Nat.le_trans HB.out.size HBo.out.size))
        have Z63 : Aside0 (w54.heap.size ≤ w57.heap.size) := Aside0.mk hb.size
        clear ho59
        have n0_ := Aside0.mk (HBo.out.trans (hb.mono HBo.out.size))
        clear HBo
        have HBo := n0_
        clear n0_
        have n0_ := Aside0.mk (Kd.S_below F25.out hb)
        clear F25
        have F25 := n0_
        clear n0_
        have n0_ := Aside0.mk (blk_below (g := jgb) (o := .cells #[.slice none 0 0] 26 (0, 0)) BKo.out hb)
        clear BKo
        have BKo := n0_
        clear n0_
        clear hb
        refine hK.out _ _ ⟨(blk_cell (blk_below (g := gb1) (o := .cells #[.slice A0_0 l0_0.length c0_0] 24 (0, 0)) BK3.out HBo.out) 0).trans rfl, (blk_cell (blk_below (g := gb7) (o := .cells #[.slice A1_0 l1_0.length c1_0] 24 (0, 0)) BK9.out HBo.out) 0).trans rfl⟩ (fun hHeld => ?_)
        clear hK K
        refine norm_ (a' := ?_) ?_ ?_
        rotate_left
        · show Act.put _ (some 31) _ = _
          simp only [Act.put, List.setIfInBounds_toArray, List.set_cons_zero, List.set_cons_succ, i64_w, i32_w]
          rfl
        refine one_ (i := 4) (N := some 32) #[true, true, true, true, true, false, false, false, true, false, false] rfl rfl (by kernel_rfl) (by decide) (fun K hK => ?_)
        refine goes_ Try.func9 (by kernel_rfl) rfl #[.agg #[.slice Ao26 l0_0.length co27], .agg #[.slice Ao61 l1_0.length co62]] (by rfl) rfl rfl (by (try simp only [List.map_toArray, List.map_cons, List.map_nil]); first | done | rfl) ?_
        with_reducible refine (spec_SumOfGames.calls k _ _ l0_0 _ _ l1_0 r0 r1 _ ?side1 ?side2 ?side3 ?side4 E_spec_SumOfGames_38.out).mono ?_
        (case side1 => exact (Kd.S_reads' F25.out).2.2)
        (case side2 => exact (Kd.S_reads' F25.out).2.1)
        (case side3 => exact (Kd.S_reads' F60.out).2.2)
        (case side4 => exact (Kd.S_reads' F60.out).2.1)
        rintro e w64 ⟨v65, rfl, ho66, hb⟩
        refine ⟨_, rfl, ?_⟩
        obtain ⟨jA0, jc0, e_jA0⟩ := Kd.S_slice ho66
        subst e_jA0
        have F67 := Aside0.mk (S_ivl ho66 (Nat.le_trans HB.out.size HBo.out.size))
        have Z68 : Aside0 (w57.heap.size ≤ w64.heap.size) := Aside0.mk hb.size
        clear ho66
        have n0_ := Aside0.mk (HBo.out.trans (hb.mono HBo.out.size))
        clear HBo
        have HBo := n0_
        clear n0_
        have n0_ := Aside0.mk (Kd.S_below F25.out hb)
        clear F25
        have F25 := n0_
        clear n0_
        have n0_ := Aside0.mk (Kd.S_below F60.out hb)
        clear F60
        have F60 := n0_
        clear n0_
        have n0_ := Aside0.mk (blk_below (g := jgb) (o := .cells #[.slice none 0 0] 26 (0, 0)) BKo.out hb)
        clear BKo
        have BKo := n0_
        clear n0_
        clear hb
        refine hK.out _ _ ⟨(blk_cell (blk_below (g := gb1) (o := .cells #[.slice A0_0 l0_0.length c0_0] 24 (0, 0)) BK3.out HBo.out) 0).trans rfl, (blk_cell (blk_below (g := gb7) (o := .cells #[.slice A1_0 l1_0.length c1_0] 24 (0, 0)) BK9.out HBo.out) 0).trans rfl⟩ (fun hHeld => ?_)
        clear hK K
        refine norm_ (a' := ?_) ?_ ?_
        rotate_left
        · show Act.put _ (some 32) _ = _
          simp only [Act.put, List.setIfInBounds_toArray, List.set_cons_zero, List.set_cons_succ, i64_w, i32_w]
          rfl
        refine pure_ (i := 5) (N := some 27) (v := ?_) (a' := ?_) #[true, true, true, true, true, true, false, false, true, false, false] rfl rfl (by kernel_rfl) (fun _ _ _ h => h) (Or.inl ⟨by rfl, ?_⟩) ?_ ?_
        rotate_left
        · intro w'
          go_simp
          with_reducible rfl
        rotate_left
        · simp only [putAll, Act.put, List.setIfInBounds_toArray, List.set_cons_zero, List.set_cons_succ, i64_w, i32_w]
          rfl
        refine pure_ (i := 6) (N := some 33) (v := ?_) (a' := ?_) #[true, true, true, true, true, true, true, false, true, false, false] rfl rfl (by kernel_rfl) (fun _ _ _ h => h) (Or.inl ⟨by rfl, ?_⟩) ?_ ?_
        rotate_left
        · intro w'
          go_simp
          with_reducible rfl
        rotate_left
        · simp only [putAll, Act.put, List.setIfInBounds_toArray, List.set_cons_zero, List.set_cons_succ, i64_w, i32_w]
          rfl
        refine pure_ (i := 7) (N := some 34) (v := ?_) (a' := ?_) #[true, true, true, true, true, true, true, true, true, false, false] rfl rfl (by kernel_rfl) (fun _ _ _ h => h) (Or.inl ⟨by rfl, ?_⟩) ?_ ?_
        rotate_left
        · intro w'
          go_simp
          with_reducible rfl
        rotate_left
        · simp only [putAll, Act.put, List.setIfInBounds_toArray, List.set_cons_zero, List.set_cons_succ, i64_w, i32_w]
          rfl
        exact norm_ (by first | rfl | (simp only [putAll, Act.put, List.setIfInBounds_toArray, List.set_cons_zero, List.set_cons_succ, i64_w, i32_w]) <;> rfl) (hcont (.agg #[.slice Ao26 l0_0.length co27], .agg #[.slice Ao61 l1_0.length co62], jA0, jc0, jgb, w57.heap.size, w64.heap.size) w64 ⟨HBo.out, F67.out, BKo.out, by have z0_ := Z28.out; have z1_ := Z55.out; have z2_ := Z56.out; have z3_ := Z63.out; have z4_ := Z68.out; have zo_ := HBo.out.size; omega, by have z0_ := Z28.out; have z1_ := Z55.out; have z2_ := Z56.out; have z3_ := Z63.out; have z4_ := Z68.out; have zo_ := HBo.out.size; omega, by have z0_ := Z28.out; have z1_ := Z55.out; have z2_ := Z56.out; have z3_ := Z63.out; have z4_ := Z68.out; have zo_ := HBo.out.size; omega, by have z0_ := Z28.out; have z1_ := Z55.out; have z2_ := Z56.out; have z3_ := Z63.out; have z4_ := Z68.out; have zo_ := HBo.out.size; omega, by have z0_ := Z28.out; have z1_ := Z55.out; have z2_ := Z56.out; have z3_ := Z63.out; have z4_ := Z68.out; have zo_ := HBo.out.size; omega, by have z0_ := Z28.out; have z1_ := Z55.out; have z2_ := Z56.out; have z3_ := Z63.out; have z4_ := Z68.out; have zo_ := HBo.out.size; omega⟩)
    · refine value_ (w1 := (w19.alloc (.cells #[.slice none 0 0] 26 (0, 0)))) (v := .pointer (some ⟨w19.heap.size, 0, none⟩)) (by rfl) rfl (by first | (go_simp; done) | (go_simp; rfl)) ?_
      have hbox := blk_new w19 (.cells #[.slice none 0 0] 26 (0, 0))
      have hb := below_alloc (Below.refl w19.heap.size w19) (.cells #[.slice none 0 0] 26 (0, 0))
      generalize w19.alloc (.cells #[.slice none 0 0] 26 (0, 0)) = w69 at hbox hb ⊢
      have Z70 : Aside0 (w19.heap.size < w69.heap.size) := Aside0.mk (blk_lt hbox)
      obtain ⟨jgb, hgb⟩ : ∃ gb, gb = w19.heap.size := ⟨_, rfl⟩
      rw [← hgb] at hbox ⊢
      have Z71 := Aside0.mk hgb
      have BKo := Aside0.mk hbox
      clear hgb hbox
      have n0_ := Aside0.mk (HBo.out.trans (hb.mono HBo.out.size))
      clear HBo
      have HBo := n0_
      clear n0_
      clear hb
      refine hK.out _ _ ⟨(blk_cell (blk_below (g := gb1) (o := .cells #[.slice A0_0 l0_0.length c0_0] 24 (0, 0)) BK3.out HBo.out) 0).trans rfl, (blk_cell (blk_below (g := gb7) (o := .cells #[.slice A1_0 l1_0.length c1_0] 24 (0, 0)) BK9.out HBo.out) 0).trans rfl⟩ (fun hHeld => ?_)
      clear hK K
      refine norm_ (a' := ?_) ?_ ?_
      rotate_left
      · show Act.put _ (some 6) _ = _
        simp only [Act.put, List.setIfInBounds_toArray, List.set_cons_zero, List.set_cons_succ, i64_w, i32_w]
        rfl
      refine one_ (i := 1) (N := some 29) #[true, true, true, false, false, false, false, false, true, false, false] rfl rfl (by kernel_rfl) (by decide) (fun K hK => ?_)
      refine goes_ Try.func10 (by kernel_rfl) rfl #[.agg #[.slice A0_0 l0_0.length c0_0]] (by rfl) rfl rfl (by (try simp only [List.map_toArray, List.map_cons, List.map_nil]); first | done | rfl) ?_
      with_reducible refine (laws_toGame.calls k _ _ l0_0 l0_0 _ ?side1 ?side2 E_laws_toGame_22.out).mono ?_
      (case side1 => exact Kd.C_below (Kd.C_below HR0_0.out HB.out) HBo.out)
      (case side2 => exact HC0_0.out)
      rintro e w72 ⟨v73, rfl, ho74, hb⟩
      refine ⟨_, rfl, ?_⟩
      obtain ⟨Ao76, co77, e_Ao76⟩ := Kd.S_slice ho74
      subst e_Ao76
      have F75 := Aside0.mk (S_ivl ho74 (Nat.le_trans HB.out.size HBo.out.size))
      have Z78 : Aside0 (w69.heap.size ≤ w72.heap.size) := Aside0.mk hb.size
      clear ho74
      have n0_ := Aside0.mk (HBo.out.trans (hb.mono HBo.out.size))
      clear HBo
      have HBo := n0_
      clear n0_
      have n0_ := Aside0.mk (blk_below (g := jgb) (o := .cells #[.slice none 0 0] 26 (0, 0)) BKo.out hb)
      clear BKo
      have BKo := n0_
      clear n0_
      clear hb
      refine hK.out _ _ ⟨(blk_cell (blk_below (g := gb1) (o := .cells #[.slice A0_0 l0_0.length c0_0] 24 (0, 0)) BK3.out HBo.out) 0).trans rfl, (blk_cell (blk_below (g := gb7) (o := .cells #[.slice A1_0 l1_0.length c1_0] 24 (0, 0)) BK9.out HBo.out) 0).trans rfl⟩ (fun hHeld => ?_)
      clear hK K
      refine norm_ (a' := ?_) ?_ ?_
      rotate_left
      · show Act.put _ (some 29) _ = _
        simp only [Act.put, List.setIfInBounds_toArray, List.set_cons_zero, List.set_cons_succ, i64_w, i32_w]
        rfl
      refine one_ (i := 3) (N := some 31) #[true, true, true, true, false, false, false, false, true, false, false] rfl rfl (by kernel_rfl) (by decide) (fun K hK => ?_)
      refine goes_ Try.func10 (by kernel_rfl) rfl #[.agg #[.slice A1_0 l1_0.length c1_0]] (by rfl) rfl rfl (by (try simp only [List.map_toArray, List.map_cons, List.map_nil]); first | done | rfl) ?_
      with_reducible refine (laws_toGame.calls k _ _ l1_0 l1_0 _ ?side1 ?side2 E_laws_toGame_30.out).mono ?_
      (case side1 => exact Kd.C_below (Kd.C_below HR1_0.out HB.out) HBo.out)
      (case side2 => exact HC1_0.out)
      rintro e w79 ⟨v80, rfl, ho81, hb⟩
      refine ⟨_, rfl, ?_⟩
      obtain ⟨Ao83, co84, e_Ao83⟩ := Kd.S_slice ho81
      subst e_Ao83
      have F82 := Aside0.mk (S_ivl ho81 (Nat.le_trans HB.out.size HBo.out.size))
      have Z85 : Aside0 (w72.heap.size ≤ w79.heap.size) := Aside0.mk hb.size
      clear ho81
      have n0_ := Aside0.mk (HBo.out.trans (hb.mono HBo.out.size))
      clear HBo
      have HBo := n0_
      clear n0_
      have n0_ := Aside0.mk (Kd.S_below F75.out hb)
      clear F75
      have F75 := n0_
      clear n0_
      have n0_ := Aside0.mk (blk_below (g := jgb) (o := .cells #[.slice none 0 0] 26 (0, 0)) BKo.out hb)
      clear BKo
      have BKo := n0_
      clear n0_
      clear hb
      refine hK.out _ _ ⟨(blk_cell (blk_below (g := gb1) (o := .cells #[.slice A0_0 l0_0.length c0_0] 24 (0, 0)) BK3.out HBo.out) 0).trans rfl, (blk_cell (blk_below (g := gb7) (o := .cells #[.slice A1_0 l1_0.length c1_0] 24 (0, 0)) BK9.out HBo.out) 0).trans rfl⟩ (fun hHeld => ?_)
      clear hK K
      refine norm_ (a' := ?_) ?_ ?_
      rotate_left
      · show Act.put _ (some 31) _ = _
        simp only [Act.put, List.setIfInBounds_toArray, List.set_cons_zero, List.set_cons_succ, i64_w, i32_w]
        rfl
      refine one_ (i := 4) (N := some 32) #[true, true, true, true, true, false, false, false, true, false, false] rfl rfl (by kernel_rfl) (by decide) (fun K hK => ?_)
      refine goes_ Try.func9 (by kernel_rfl) rfl #[.agg #[.slice Ao76 l0_0.length co77], .agg #[.slice Ao83 l1_0.length co84]] (by rfl) rfl rfl (by (try simp only [List.map_toArray, List.map_cons, List.map_nil]); first | done | rfl) ?_
      with_reducible refine (spec_SumOfGames.calls k _ _ l0_0 _ _ l1_0 r0 r1 _ ?side1 ?side2 ?side3 ?side4 E_spec_SumOfGames_38.out).mono ?_
      (case side1 => exact (Kd.S_reads' F75.out).2.2)
      (case side2 => exact (Kd.S_reads' F75.out).2.1)
      (case side3 => exact (Kd.S_reads' F82.out).2.2)
      (case side4 => exact (Kd.S_reads' F82.out).2.1)
      rintro e w86 ⟨v87, rfl, ho88, hb⟩
      refine ⟨_, rfl, ?_⟩
      obtain ⟨jA0, jc0, e_jA0⟩ := Kd.S_slice ho88
      subst e_jA0
      have F89 := Aside0.mk (S_ivl ho88 (Nat.le_trans HB.out.size HBo.out.size))
      have Z90 : Aside0 (w79.heap.size ≤ w86.heap.size) := Aside0.mk hb.size
      clear ho88
      have n0_ := Aside0.mk (HBo.out.trans (hb.mono HBo.out.size))
      clear HBo
      have HBo := n0_
      clear n0_
      have n0_ := Aside0.mk (Kd.S_below F75.out hb)
      clear F75
      have F75 := n0_
      clear n0_
      have n0_ := Aside0.mk (Kd.S_below F82.out hb)
      clear F82
      have F82 := n0_
      clear n0_
      have n0_ := Aside0.mk (blk_below (g := jgb) (o := .cells #[.slice none 0 0] 26 (0, 0)) BKo.out hb)
      clear BKo
      have BKo := n0_
      clear n0_
      clear hb
      refine hK.out _ _ ⟨(blk_cell (blk_below (g := gb1) (o := .cells #[.slice A0_0 l0_0.length c0_0] 24 (0, 0)) BK3.out HBo.out) 0).trans rfl, (blk_cell (blk_below (g := gb7) (o := .cells #[.slice A1_0 l1_0.length c1_0] 24 (0, 0)) BK9.out HBo.out) 0).trans rfl⟩ (fun hHeld => ?_)
      clear hK K
      refine norm_ (a' := ?_) ?_ ?_
      rotate_left
      · show Act.put _ (some 32) _ = _
        simp only [Act.put, List.setIfInBounds_toArray, List.set_cons_zero, List.set_cons_succ, i64_w, i32_w]
        rfl
      refine pure_ (i := 5) (N := some 27) (v := ?_) (a' := ?_) #[true, true, true, true, true, true, false, false, true, false, false] rfl rfl (by kernel_rfl) (fun _ _ _ h => h) (Or.inl ⟨by rfl, ?_⟩) ?_ ?_
      rotate_left
      · intro w'
        go_simp
        with_reducible rfl
      rotate_left
      · simp only [putAll, Act.put, List.setIfInBounds_toArray, List.set_cons_zero, List.set_cons_succ, i64_w, i32_w]
        rfl
      refine pure_ (i := 6) (N := some 33) (v := ?_) (a' := ?_) #[true, true, true, true, true, true, true, false, true, false, false] rfl rfl (by kernel_rfl) (fun _ _ _ h => h) (Or.inl ⟨by rfl, ?_⟩) ?_ ?_
      rotate_left
      · intro w'
        go_simp
        with_reducible rfl
      rotate_left
      · simp only [putAll, Act.put, List.setIfInBounds_toArray, List.set_cons_zero, List.set_cons_succ, i64_w, i32_w]
        rfl
      refine pure_ (i := 7) (N := some 34) (v := ?_) (a' := ?_) #[true, true, true, true, true, true, true, true, true, false, false] rfl rfl (by kernel_rfl) (fun _ _ _ h => h) (Or.inl ⟨by rfl, ?_⟩) ?_ ?_
      rotate_left
      · intro w'
        go_simp
        with_reducible rfl
      rotate_left
      · simp only [putAll, Act.put, List.setIfInBounds_toArray, List.set_cons_zero, List.set_cons_succ, i64_w, i32_w]
        rfl
      exact norm_ (by first | rfl | (simp only [putAll, Act.put, List.setIfInBounds_toArray, List.set_cons_zero, List.set_cons_succ, i64_w, i32_w]) <;> rfl) (hcont (.agg #[.slice Ao76 l0_0.length co77], .agg #[.slice Ao83 l1_0.length co84], jA0, jc0, jgb, w79.heap.size, w86.heap.size) w86 ⟨HBo.out, F89.out, BKo.out, by have z0_ := Z70.out; have z1_ := Z71.out; have z2_ := Z78.out; have z3_ := Z85.out; have z4_ := Z90.out; have zo_ := HBo.out.size; omega, by have z0_ := Z70.out; have z1_ := Z71.out; have z2_ := Z78.out; have z3_ := Z85.out; have z4_ := Z90.out; have zo_ := HBo.out.size; omega, by have z0_ := Z70.out; have z1_ := Z71.out; have z2_ := Z78.out; have z3_ := Z85.out; have z4_ := Z90.out; have zo_ := HBo.out.size; omega, by have z0_ := Z70.out; have z1_ := Z71.out; have z2_ := Z78.out; have z3_ := Z85.out; have z4_ := Z90.out; have zo_ := HBo.out.size; omega, by have z0_ := Z70.out; have z1_ := Z71.out; have z2_ := Z78.out; have z3_ := Z85.out; have z4_ := Z90.out; have zo_ := HBo.out.size; omega, by have z0_ := Z70.out; have z1_ := Z71.out; have z2_ := Z78.out; have z3_ := Z85.out; have z4_ := Z90.out; have zo_ := HBo.out.size; omega⟩)
  rintro ⟨ju0, ju1, Ao96, co97, gb95, lo98, hi99⟩ w91 hF
  obtain ⟨hb, hS_, hbox, h1_, h2_, h3_, h4_, h5_, h6_⟩ := hF
  have F92 := Aside0.mk hS_
  have BK93 := Aside0.mk hbox
  have GP94 := Aside0.mk (show w19.heap.size ≤ gb95 ∧ gb95 < w91.heap.size ∧ (gb95 < lo98 ∨ hi99 ≤ gb95) from ⟨h4_, h5_, h6_⟩)
  have Z100 : Aside0 (w19.heap.size ≤ w91.heap.size) := Aside0.mk (hb.size)
  have n0_ := Aside0.mk (below_then HB.out HB.out.size hb)
  have n1_ := Aside0.mk (blk_below (g := gb1) (o := .cells #[.slice A0_0 l0_0.length c0_0] 24 (0, 0)) BK3.out hb)
  have n2_ := Aside0.mk (blk_below (g := gb7) (o := .cells #[.slice A1_0 l1_0.length c1_0] 24 (0, 0)) BK9.out hb)
  clear HB BK3 BK9
  have HB := n0_
  have BK3 := n1_
  have BK9 := n2_
  clear n0_ n1_ n2_
  have Z101 : Aside0 (w19.heap.size ≤ lo98) := Aside0.mk (by omega)
  have Z102 : Aside0 (lo98 ≤ hi99) := Aside0.mk (by omega)
  have Z103 : Aside0 (hi99 ≤ w91.heap.size) := Aside0.mk (by omega)
  have Z104 : Aside0 (gb95 < w91.heap.size) := Aside0.mk (by omega)
  clear hb hS_ hbox h1_ h2_ h3_ h4_ h5_ h6_
  refine norm_ (a' := ?_) ?_ ?_
  rotate_left
  · simp only [putAll, Act.put, List.setIfInBounds_toArray, List.set_cons_zero, List.set_cons_succ, i64_w, i32_w]
    rfl
  (try clear hz_gb1_0)
  have hz_gb1_0 : w91.cell? ⟨gb1, 0, none⟩ = some (.slice A0_0 l0_0.length c0_0) := (blk_cell BK3.out 0).trans rfl
  (try clear hf_gb1_0)
  have hf_gb1_0 := blk_frozen BK3.out 0
  (try clear hz_gb7_0)
  have hz_gb7_0 : w91.cell? ⟨gb7, 0, none⟩ = some (.slice A1_0 l1_0.length c1_0) := (blk_cell BK9.out 0).trans rfl
  (try clear hf_gb7_0)
  have hf_gb7_0 := blk_frozen BK9.out 0
  (try clear hz_gb95_0)
  have hz_gb95_0 : w91.cell? ⟨gb95, 0, none⟩ = some (.slice none 0 0) := (blk_cell BK93.out 0).trans rfl
  (try clear hf_gb95_0)
  have hf_gb95_0 := blk_frozen BK93.out 0
  refine one_ (i := 9) (N := none) #[true, true, true, true, true, true, true, true, true, true, false] rfl rfl (by kernel_rfl) (by decide) (fun K hK => ?_)
  refine skip_ (w1 := (w91.setCell ⟨gb95, 0, none⟩ (.slice Ao96 r0.length co97))) (by rfl) rfl (by first | (go_simp; done) | (go_simp; rfl)) ?_
  obtain ⟨w105, hw⟩ : ∃ w_, w_ = (w91.setCell ⟨gb95, 0, none⟩ (.slice Ao96 r0.length co97)) := ⟨_, rfl⟩
  rw [← hw]
  have Z106 : Aside0 (w91.heap.size ≤ w105.heap.size) := Aside0.mk (by rw [hw]; simp [World.setCell])
  have n0_ := Aside0.mk ((by rw [hw]; exact below_set (HB.out) (by have z0_ := Z5.out; have z1_ := Z6.out; have z2_ := Z11.out; have z3_ := Z12.out; have z4_ := Z15.out; have z5_ := Z18.out; have z6_ := Z20.out; have z7_ := Z100.out; have z8_ := Z101.out; have z9_ := Z102.out; have z10_ := Z103.out; have z11_ := Z104.out; have g_ := GP94.out; have hb_ := HB.out.size; omega) : Below w.heap.size w w105))
  have n1_ := Aside0.mk ((by rw [hw]; exact blk_far (BK3.out) (by have z0_ := Z5.out; have z1_ := Z6.out; have z2_ := Z11.out; have z3_ := Z12.out; have z4_ := Z15.out; have z5_ := Z18.out; have z6_ := Z20.out; have z7_ := Z100.out; have z8_ := Z101.out; have z9_ := Z102.out; have z10_ := Z103.out; have z11_ := Z104.out; have g1_ := GP4.out; have g2_ := GP94.out; show gb1 ≠ gb95; omega) _ : w105.heap[gb1]? = some (.cells #[.slice A0_0 l0_0.length c0_0] 24 (0, 0))))
  have n2_ := Aside0.mk ((by rw [hw]; exact blk_far (BK9.out) (by have z0_ := Z5.out; have z1_ := Z6.out; have z2_ := Z11.out; have z3_ := Z12.out; have z4_ := Z15.out; have z5_ := Z18.out; have z6_ := Z20.out; have z7_ := Z100.out; have z8_ := Z101.out; have z9_ := Z102.out; have z10_ := Z103.out; have z11_ := Z104.out; have g1_ := GP10.out; have g2_ := GP94.out; show gb7 ≠ gb95; omega) _ : w105.heap[gb7]? = some (.cells #[.slice A1_0 l1_0.length c1_0] 24 (0, 0))))
  have n3_ := Aside0.mk (hw.symm ▸ (Kd.S_far (p := ⟨gb95, 0, none⟩) (F92.out) (fun k_ h_ => by have z0_ := Z5.out; have z1_ := Z6.out; have z2_ := Z11.out; have z3_ := Z12.out; have z4_ := Z15.out; have z5_ := Z18.out; have z6_ := Z20.out; have z7_ := Z100.out; have z8_ := Z101.out; have z9_ := Z102.out; have z10_ := Z103.out; have z11_ := Z104.out; have g_ := GP94.out; unfold Ivl at h_; show k_ ≠ gb95; omega) _))
  have n4_ := Aside0.mk ((by rw [hw]; exact blk_put (cs := #[.slice none 0 0]) (BK93.out) 0 _ rfl : w105.heap[gb95]? = some (.cells #[.slice Ao96 r0.length co97] 26 (0, 0))))
  clear HB BK3 BK9 F92 BK93
  have HB := n0_
  have BK3 := n1_
  have BK9 := n2_
  have F92 := n3_
  have BK93 := n4_
  clear n0_ n1_ n2_ n3_ n4_
  clear hw
  refine hK.out _ _ ⟨(blk_cell BK3.out 0).trans rfl, (blk_cell BK9.out 0).trans rfl⟩ (fun hHeld => ?_)
  clear hK K
  refine pure_ (i := 10) (N := some 7) (v := ?_) (a' := ?_) #[true, true, true, true, true, true, true, true, true, true, true] rfl rfl (by kernel_rfl) (fun _ _ _ h => h) (Or.inl ⟨by rfl, ?_⟩) ?_ ?_
  rotate_left
  · intro w'
    go_simp
    with_reducible rfl
  rotate_left
  · simp only [putAll, Act.put, List.setIfInBounds_toArray, List.set_cons_zero, List.set_cons_succ, i64_w, i32_w]
    rfl
  refine done_ (by kernel_rfl) ?_
  (try clear hz_gb1_0)
  have hz_gb1_0 : w105.cell? ⟨gb1, 0, none⟩ = some (.slice A0_0 l0_0.length c0_0) := (blk_cell BK3.out 0).trans rfl
  (try clear hf_gb1_0)
  have hf_gb1_0 := blk_frozen BK3.out 0
  (try clear hz_gb7_0)
  have hz_gb7_0 : w105.cell? ⟨gb7, 0, none⟩ = some (.slice A1_0 l1_0.length c1_0) := (blk_cell BK9.out 0).trans rfl
  (try clear hf_gb7_0)
  have hf_gb7_0 := blk_frozen BK9.out 0
  (try clear hz_gb95_0)
  have hz_gb95_0 : w105.cell? ⟨gb95, 0, none⟩ = some (.slice Ao96 r0.length co97) := (blk_cell BK93.out 0).trans rfl
  (try clear hf_gb95_0)
  have hf_gb95_0 := blk_frozen BK93.out 0
  go_wp2_with (first | ((with_reducible refine gate_dst (N := 36) rfl ?_); (try (refine gate_guard (by rfl) ?_; dsimp only)); refine goesL_ (some 36) rfl rfl Try.func10 (by kernel_rfl) rfl #[.agg #[.slice A0_0 l0_0.length c0_0]] rfl (by (try simp only [List.map_toArray, List.map_cons, List.map_nil]); first | done | rfl) ?_; (with_reducible refine (laws_toGame.calls k _ _ l0_0 l0_0 _ ?side1 ?side2 E_laws_toGame_22.out).mono ?_); (case side1 => exact Kd.C_below HR0_0.out HB.out); (case side2 => exact HC0_0.out); rintro e w107 ⟨v108, rfl, ho109, hb⟩; refine ⟨_, rfl, ?_⟩; obtain ⟨Ao110, co111, e_Ao110⟩ := Kd.S_slice ho109; subst e_Ao110; have F112 := Aside0.mk (S_ivl ho109 HB.out.size); have Z113 : Aside0 (w105.heap.size ≤ w107.heap.size) := Aside0.mk (hb.size); have n0_ := Aside0.mk (below_then HB.out HB.out.size hb); have n1_ := Aside0.mk (blk_below (g := gb1) (o := .cells #[.slice A0_0 l0_0.length c0_0] 24 (0, 0)) BK3.out hb); have n2_ := Aside0.mk (blk_below (g := gb7) (o := .cells #[.slice A1_0 l1_0.length c1_0] 24 (0, 0)) BK9.out hb); have n3_ := Aside0.mk (Kd.S_below F92.out hb); have n4_ := Aside0.mk (blk_below (g := gb95) (o := .cells #[.slice Ao96 r0.length co97] 26 (0, 0)) BK93.out hb); clear HB BK3 BK9 F92 BK93; have HB := n0_; have BK3 := n1_; have BK9 := n2_; have F92 := n3_; have BK93 := n4_; clear n0_ n1_ n2_ n3_ n4_; (try clear hb ho109); (try clear hz_gb1_0); have hz_gb1_0 : w107.cell? ⟨gb1, 0, none⟩ = some (.slice A0_0 l0_0.length c0_0) := (blk_cell BK3.out 0).trans rfl; (try clear hf_gb1_0); have hf_gb1_0 := blk_frozen BK3.out 0; (try clear hz_gb7_0); have hz_gb7_0 : w107.cell? ⟨gb7, 0, none⟩ = some (.slice A1_0 l1_0.length c1_0) := (blk_cell BK9.out 0).trans rfl; (try clear hf_gb7_0); have hf_gb7_0 := blk_frozen BK9.out 0; (try clear hz_gb95_0); have hz_gb95_0 : w107.cell? ⟨gb95, 0, none⟩ = some (.slice Ao96 r0.length co97) := (blk_cell BK93.out 0).trans rfl; (try clear hf_gb95_0); have hf_gb95_0 := blk_frozen BK93.out 0) | ((with_reducible refine gate_dst (N := 8) rfl ?_); (try (refine gate_guard (by rfl) ?_; dsimp only)); refine box_event ?hg (N := 8) ?hd (cs := #[.slice none 0 0]) (t := 26) ?hr ?_; (case hd => rfl); (case hg => rfl); (case hr => first | (go_simp; done) | (go_simp; rfl)); intro gb114 hg w115 hbox hb; have Z118 : Aside0 (w107.heap.size ≤ w115.heap.size) := Aside0.mk (hb.size); have BK116 := Aside0.mk hbox; have GP117 := Aside0.mk hg; have Z119 : Aside0 (gb114 < w115.heap.size) := Aside0.mk (blk_lt hbox); have n0_ := Aside0.mk (below_then HB.out HB.out.size hb); have n1_ := Aside0.mk (blk_below (g := gb1) (o := .cells #[.slice A0_0 l0_0.length c0_0] 24 (0, 0)) BK3.out hb); have n2_ := Aside0.mk (blk_below (g := gb7) (o := .cells #[.slice A1_0 l1_0.length c1_0] 24 (0, 0)) BK9.out hb); have n3_ := Aside0.mk (Kd.S_below F92.out hb); have n4_ := Aside0.mk (blk_below (g := gb95) (o := .cells #[.slice Ao96 r0.length co97] 26 (0, 0)) BK93.out hb); have n5_ := Aside0.mk (Kd.S_below F112.out hb); clear HB BK3 BK9 F92 BK93 F112; have HB := n0_; have BK3 := n1_; have BK9 := n2_; have F92 := n3_; have BK93 := n4_; have F112 := n5_; clear n0_ n1_ n2_ n3_ n4_ n5_; clear hb hbox hg; (try clear hz_gb1_0); have hz_gb1_0 : w115.cell? ⟨gb1, 0, none⟩ = some (.slice A0_0 l0_0.length c0_0) := (blk_cell BK3.out 0).trans rfl; (try clear hf_gb1_0); have hf_gb1_0 := blk_frozen BK3.out 0; (try clear hz_gb7_0); have hz_gb7_0 : w115.cell? ⟨gb7, 0, none⟩ = some (.slice A1_0 l1_0.length c1_0) := (blk_cell BK9.out 0).trans rfl; (try clear hf_gb7_0); have hf_gb7_0 := blk_frozen BK9.out 0; (try clear hz_gb95_0); have hz_gb95_0 : w115.cell? ⟨gb95, 0, none⟩ = some (.slice Ao96 r0.length co97) := (blk_cell BK93.out 0).trans rfl; (try clear hf_gb95_0); have hf_gb95_0 := blk_frozen BK93.out 0; (try clear hz_gb114_0); have hz_gb114_0 : w115.cell? ⟨gb114, 0, none⟩ = some (.slice none 0 0) := (blk_cell BK116.out 0).trans rfl; (try clear hf_gb114_0); have hf_gb114_0 := blk_frozen BK116.out 0) | ((with_reducible refine gate_store (t := 26) (p := 8) rfl ?_); (try (refine gate_guard (by rfl) ?_; dsimp only)); refine store_event (t := 26) (p := 8) (v := ?vo_w120) (w1 := (w115.setCell ⟨gb114, 0, none⟩ (.slice Ao110 l0_0.length co111))) ?hg ?ho ?hn ?hr ?_; (case ho => rfl); (case hg => rfl); (case hn => rfl); (case hr => first | (go_simp; done) | (go_simp; rfl)); intro w120 hw; have Z121 : Aside0 (w115.heap.size ≤ w120.heap.size) := Aside0.mk (by rw [hw]; simp [World.setCell]); have n0_ := Aside0.mk ((by rw [hw]; exact below_set (HB.out) (by have z0_ := Z5.out; have z1_ := Z6.out; have z2_ := Z11.out; have z3_ := Z12.out; have z4_ := Z15.out; have z5_ := Z18.out; have z6_ := Z20.out; have z7_ := Z100.out; have z8_ := Z101.out; have z9_ := Z102.out; have z10_ := Z103.out; have z11_ := Z104.out; have z12_ := Z106.out; have z13_ := Z113.out; have z14_ := Z118.out; have z15_ := Z119.out; have g_ := GP117.out; have hb_ := HB.out.size; omega) : Below w.heap.size w w120)); have n1_ := Aside0.mk ((by rw [hw]; exact blk_far (BK3.out) (by have z0_ := Z5.out; have z1_ := Z6.out; have z2_ := Z11.out; have z3_ := Z12.out; have z4_ := Z15.out; have z5_ := Z18.out; have z6_ := Z20.out; have z7_ := Z100.out; have z8_ := Z101.out; have z9_ := Z102.out; have z10_ := Z103.out; have z11_ := Z104.out; have z12_ := Z106.out; have z13_ := Z113.out; have z14_ := Z118.out; have z15_ := Z119.out; have g1_ := GP4.out; have g2_ := GP117.out; show gb1 ≠ gb114; omega) _ : w120.heap[gb1]? = some (.cells #[.slice A0_0 l0_0.length c0_0] 24 (0, 0)))); have n2_ := Aside0.mk ((by rw [hw]; exact blk_far (BK9.out) (by have z0_ := Z5.out; have z1_ := Z6.out; have z2_ := Z11.out; have z3_ := Z12.out; have z4_ := Z15.out; have z5_ := Z18.out; have z6_ := Z20.out; have z7_ := Z100.out; have z8_ := Z101.out; have z9_ := Z102.out; have z10_ := Z103.out; have z11_ := Z104.out; have z12_ := Z106.out; have z13_ := Z113.out; have z14_ := Z118.out; have z15_ := Z119.out; have g1_ := GP10.out; have g2_ := GP117.out; show gb7 ≠ gb114; omega) _ : w120.heap[gb7]? = some (.cells #[.slice A1_0 l1_0.length c1_0] 24 (0, 0)))); have n3_ := Aside0.mk (hw.symm ▸ (Kd.S_far (p := ⟨gb114, 0, none⟩) (F92.out) (fun k_ h_ => by have z0_ := Z5.out; have z1_ := Z6.out; have z2_ := Z11.out; have z3_ := Z12.out; have z4_ := Z15.out; have z5_ := Z18.out; have z6_ := Z20.out; have z7_ := Z100.out; have z8_ := Z101.out; have z9_ := Z102.out; have z10_ := Z103.out; have z11_ := Z104.out; have z12_ := Z106.out; have z13_ := Z113.out; have z14_ := Z118.out; have z15_ := Z119.out; have g_ := GP117.out; unfold Ivl at h_; show k_ ≠ gb114; omega) _)); have n4_ := Aside0.mk ((by rw [hw]; exact blk_far (BK93.out) (by have z0_ := Z5.out; have z1_ := Z6.out; have z2_ := Z11.out; have z3_ := Z12.out; have z4_ := Z15.out; have z5_ := Z18.out; have z6_ := Z20.out; have z7_ := Z100.out; have z8_ := Z101.out; have z9_ := Z102.out; have z10_ := Z103.out; have z11_ := Z104.out; have z12_ := Z106.out; have z13_ := Z113.out; have z14_ := Z118.out; have z15_ := Z119.out; have g1_ := GP94.out; have g2_ := GP117.out; show gb95 ≠ gb114; omega) _ : w120.heap[gb95]? = some (.cells #[.slice Ao96 r0.length co97] 26 (0, 0)))); have n5_ := Aside0.mk (hw.symm ▸ (Kd.S_far (p := ⟨gb114, 0, none⟩) (F112.out) (fun k_ h_ => by have z0_ := Z5.out; have z1_ := Z6.out; have z2_ := Z11.out; have z3_ := Z12.out; have z4_ := Z15.out; have z5_ := Z18.out; have z6_ := Z20.out; have z7_ := Z100.out; have z8_ := Z101.out; have z9_ := Z102.out; have z10_ := Z103.out; have z11_ := Z104.out; have z12_ := Z106.out; have z13_ := Z113.out; have z14_ := Z118.out; have z15_ := Z119.out; have g_ := GP117.out; unfold Ivl at h_; show k_ ≠ gb114; omega) _)); have n6_ := Aside0.mk ((by rw [hw]; exact blk_put (cs := #[.slice none 0 0]) (BK116.out) 0 _ rfl : w120.heap[gb114]? = some (.cells #[.slice Ao110 l0_0.length co111] 26 (0, 0)))); clear HB BK3 BK9 F92 BK93 F112 BK116; have HB := n0_; have BK3 := n1_; have BK9 := n2_; have F92 := n3_; have BK93 := n4_; have F112 := n5_; have BK116 := n6_; clear n0_ n1_ n2_ n3_ n4_ n5_ n6_; clear hw; (try clear hz_gb1_0); have hz_gb1_0 : w120.cell? ⟨gb1, 0, none⟩ = some (.slice A0_0 l0_0.length c0_0) := (blk_cell BK3.out 0).trans rfl; (try clear hf_gb1_0); have hf_gb1_0 := blk_frozen BK3.out 0; (try clear hz_gb7_0); have hz_gb7_0 : w120.cell? ⟨gb7, 0, none⟩ = some (.slice A1_0 l1_0.length c1_0) := (blk_cell BK9.out 0).trans rfl; (try clear hf_gb7_0); have hf_gb7_0 := blk_frozen BK9.out 0; (try clear hz_gb95_0); have hz_gb95_0 : w120.cell? ⟨gb95, 0, none⟩ = some (.slice Ao96 r0.length co97) := (blk_cell BK93.out 0).trans rfl; (try clear hf_gb95_0); have hf_gb95_0 := blk_frozen BK93.out 0; (try clear hz_gb114_0); have hz_gb114_0 : w120.cell? ⟨gb114, 0, none⟩ = some (.slice Ao110 l0_0.length co111) := (blk_cell BK116.out 0).trans rfl; (try clear hf_gb114_0); have hf_gb114_0 := blk_frozen BK116.out 0) | ((with_reducible refine gate_dst (N := 38) rfl ?_); (try (refine gate_guard (by rfl) ?_; dsimp only)); refine goesL_ (some 38) rfl rfl Try.func10 (by kernel_rfl) rfl #[.agg #[.slice A1_0 l1_0.length c1_0]] rfl (by (try simp only [List.map_toArray, List.map_cons, List.map_nil]); first | done | rfl) ?_; (with_reducible refine (laws_toGame.calls k _ _ l1_0 l1_0 _ ?side1 ?side2 E_laws_toGame_30.out).mono ?_); (case side1 => exact Kd.C_below HR1_0.out HB.out); (case side2 => exact HC1_0.out); rintro e w122 ⟨v123, rfl, ho124, hb⟩; refine ⟨_, rfl, ?_⟩; obtain ⟨Ao125, co126, e_Ao125⟩ := Kd.S_slice ho124; subst e_Ao125; have F127 := Aside0.mk (S_ivl ho124 HB.out.size); have Z128 : Aside0 (w120.heap.size ≤ w122.heap.size) := Aside0.mk (hb.size); have n0_ := Aside0.mk (below_then HB.out HB.out.size hb); have n1_ := Aside0.mk (blk_below (g := gb1) (o := .cells #[.slice A0_0 l0_0.length c0_0] 24 (0, 0)) BK3.out hb); have n2_ := Aside0.mk (blk_below (g := gb7) (o := .cells #[.slice A1_0 l1_0.length c1_0] 24 (0, 0)) BK9.out hb); have n3_ := Aside0.mk (Kd.S_below F92.out hb); have n4_ := Aside0.mk (blk_below (g := gb95) (o := .cells #[.slice Ao96 r0.length co97] 26 (0, 0)) BK93.out hb); have n5_ := Aside0.mk (Kd.S_below F112.out hb); have n6_ := Aside0.mk (blk_below (g := gb114) (o := .cells #[.slice Ao110 l0_0.length co111] 26 (0, 0)) BK116.out hb); clear HB BK3 BK9 F92 BK93 F112 BK116; have HB := n0_; have BK3 := n1_; have BK9 := n2_; have F92 := n3_; have BK93 := n4_; have F112 := n5_; have BK116 := n6_; clear n0_ n1_ n2_ n3_ n4_ n5_ n6_; (try clear hb ho124); (try clear hz_gb1_0); have hz_gb1_0 : w122.cell? ⟨gb1, 0, none⟩ = some (.slice A0_0 l0_0.length c0_0) := (blk_cell BK3.out 0).trans rfl; (try clear hf_gb1_0); have hf_gb1_0 := blk_frozen BK3.out 0; (try clear hz_gb7_0); have hz_gb7_0 : w122.cell? ⟨gb7, 0, none⟩ = some (.slice A1_0 l1_0.length c1_0) := (blk_cell BK9.out 0).trans rfl; (try clear hf_gb7_0); have hf_gb7_0 := blk_frozen BK9.out 0; (try clear hz_gb95_0); have hz_gb95_0 : w122.cell? ⟨gb95, 0, none⟩ = some (.slice Ao96 r0.length co97) := (blk_cell BK93.out 0).trans rfl; (try clear hf_gb95_0); have hf_gb95_0 := blk_frozen BK93.out 0; (try clear hz_gb114_0); have hz_gb114_0 : w122.cell? ⟨gb114, 0, none⟩ = some (.slice Ao110 l0_0.length co111) := (blk_cell BK116.out 0).trans rfl; (try clear hf_gb114_0); have hf_gb114_0 := blk_frozen BK116.out 0) | ((with_reducible refine gate_dst (N := 9) rfl ?_); (try (refine gate_guard (by rfl) ?_; dsimp only)); refine box_event ?hg (N := 9) ?hd (cs := #[.slice none 0 0]) (t := 26) ?hr ?_; (case hd => rfl); (case hg => rfl); (case hr => first | (go_simp; done) | (go_simp; rfl)); intro gb129 hg w130 hbox hb; have Z133 : Aside0 (w122.heap.size ≤ w130.heap.size) := Aside0.mk (hb.size); have BK131 := Aside0.mk hbox; have GP132 := Aside0.mk hg; have Z134 : Aside0 (gb129 < w130.heap.size) := Aside0.mk (blk_lt hbox); have n0_ := Aside0.mk (below_then HB.out HB.out.size hb); have n1_ := Aside0.mk (blk_below (g := gb1) (o := .cells #[.slice A0_0 l0_0.length c0_0] 24 (0, 0)) BK3.out hb); have n2_ := Aside0.mk (blk_below (g := gb7) (o := .cells #[.slice A1_0 l1_0.length c1_0] 24 (0, 0)) BK9.out hb); have n3_ := Aside0.mk (Kd.S_below F92.out hb); have n4_ := Aside0.mk (blk_below (g := gb95) (o := .cells #[.slice Ao96 r0.length co97] 26 (0, 0)) BK93.out hb); have n5_ := Aside0.mk (Kd.S_below F112.out hb); have n6_ := Aside0.mk (blk_below (g := gb114) (o := .cells #[.slice Ao110 l0_0.length co111] 26 (0, 0)) BK116.out hb); have n7_ := Aside0.mk (Kd.S_below F127.out hb); clear HB BK3 BK9 F92 BK93 F112 BK116 F127; have HB := n0_; have BK3 := n1_; have BK9 := n2_; have F92 := n3_; have BK93 := n4_; have F112 := n5_; have BK116 := n6_; have F127 := n7_; clear n0_ n1_ n2_ n3_ n4_ n5_ n6_ n7_; clear hb hbox hg; (try clear hz_gb1_0); have hz_gb1_0 : w130.cell? ⟨gb1, 0, none⟩ = some (.slice A0_0 l0_0.length c0_0) := (blk_cell BK3.out 0).trans rfl; (try clear hf_gb1_0); have hf_gb1_0 := blk_frozen BK3.out 0; (try clear hz_gb7_0); have hz_gb7_0 : w130.cell? ⟨gb7, 0, none⟩ = some (.slice A1_0 l1_0.length c1_0) := (blk_cell BK9.out 0).trans rfl; (try clear hf_gb7_0); have hf_gb7_0 := blk_frozen BK9.out 0; (try clear hz_gb95_0); have hz_gb95_0 : w130.cell? ⟨gb95, 0, none⟩ = some (.slice Ao96 r0.length co97) := (blk_cell BK93.out 0).trans rfl; (try clear hf_gb95_0); have hf_gb95_0 := blk_frozen BK93.out 0; (try clear hz_gb114_0); have hz_gb114_0 : w130.cell? ⟨gb114, 0, none⟩ = some (.slice Ao110 l0_0.length co111) := (blk_cell BK116.out 0).trans rfl; (try clear hf_gb114_0); have hf_gb114_0 := blk_frozen BK116.out 0; (try clear hz_gb129_0); have hz_gb129_0 : w130.cell? ⟨gb129, 0, none⟩ = some (.slice none 0 0) := (blk_cell BK131.out 0).trans rfl; (try clear hf_gb129_0); have hf_gb129_0 := blk_frozen BK131.out 0) | ((with_reducible refine gate_store (t := 26) (p := 9) rfl ?_); (try (refine gate_guard (by rfl) ?_; dsimp only)); refine store_event (t := 26) (p := 9) (v := ?vo_w135) (w1 := (w130.setCell ⟨gb129, 0, none⟩ (.slice Ao125 l1_0.length co126))) ?hg ?ho ?hn ?hr ?_; (case ho => rfl); (case hg => rfl); (case hn => rfl); (case hr => first | (go_simp; done) | (go_simp; rfl)); intro w135 hw; have Z136 : Aside0 (w130.heap.size ≤ w135.heap.size) := Aside0.mk (by rw [hw]; simp [World.setCell]); have n0_ := Aside0.mk ((by rw [hw]; exact below_set (HB.out) (by have z0_ := Z5.out; have z1_ := Z6.out; have z2_ := Z11.out; have z3_ := Z12.out; have z4_ := Z15.out; have z5_ := Z18.out; have z6_ := Z20.out; have z7_ := Z100.out; have z8_ := Z101.out; have z9_ := Z102.out; have z10_ := Z103.out; have z11_ := Z104.out; have z12_ := Z106.out; have z13_ := Z113.out; have z14_ := Z118.out; have z15_ := Z119.out; have z16_ := Z121.out; have z17_ := Z128.out; have z18_ := Z133.out; have z19_ := Z134.out; have g_ := GP132.out; have hb_ := HB.out.size; omega) : Below w.heap.size w w135)); have n1_ := Aside0.mk ((by rw [hw]; exact blk_far (BK3.out) (by have z0_ := Z5.out; have z1_ := Z6.out; have z2_ := Z11.out; have z3_ := Z12.out; have z4_ := Z15.out; have z5_ := Z18.out; have z6_ := Z20.out; have z7_ := Z100.out; have z8_ := Z101.out; have z9_ := Z102.out; have z10_ := Z103.out; have z11_ := Z104.out; have z12_ := Z106.out; have z13_ := Z113.out; have z14_ := Z118.out; have z15_ := Z119.out; have z16_ := Z121.out; have z17_ := Z128.out; have z18_ := Z133.out; have z19_ := Z134.out; have g1_ := GP4.out; have g2_ := GP132.out; show gb1 ≠ gb129; omega) _ : w135.heap[gb1]? = some (.cells #[.slice A0_0 l0_0.length c0_0] 24 (0, 0)))); have n2_ := Aside0.mk ((by rw [hw]; exact blk_far (BK9.out) (by have z0_ := Z5.out; have z1_ := Z6.out; have z2_ := Z11.out; have z3_ := Z12.out; have z4_ := Z15.out; have z5_ := Z18.out; have z6_ := Z20.out; have z7_ := Z100.out; have z8_ := Z101.out; have z9_ := Z102.out; have z10_ := Z103.out; have z11_ := Z104.out; have z12_ := Z106.out; have z13_ := Z113.out; have z14_ := Z118.out; have z15_ := Z119.out; have z16_ := Z121.out; have z17_ := Z128.out; have z18_ := Z133.out; have z19_ := Z134.out; have g1_ := GP10.out; have g2_ := GP132.out; show gb7 ≠ gb129; omega) _ : w135.heap[gb7]? = some (.cells #[.slice A1_0 l1_0.length c1_0] 24 (0, 0)))); have n3_ := Aside0.mk (hw.symm ▸ (Kd.S_far (p := ⟨gb129, 0, none⟩) (F92.out) (fun k_ h_ => by have z0_ := Z5.out; have z1_ := Z6.out; have z2_ := Z11.out; have z3_ := Z12.out; have z4_ := Z15.out; have z5_ := Z18.out; have z6_ := Z20.out; have z7_ := Z100.out; have z8_ := Z101.out; have z9_ := Z102.out; have z10_ := Z103.out; have z11_ := Z104.out; have z12_ := Z106.out; have z13_ := Z113.out; have z14_ := Z118.out; have z15_ := Z119.out; have z16_ := Z121.out; have z17_ := Z128.out; have z18_ := Z133.out; have z19_ := Z134.out; have g_ := GP132.out; unfold Ivl at h_; show k_ ≠ gb129; omega) _)); have n4_ := Aside0.mk ((by rw [hw]; exact blk_far (BK93.out) (by have z0_ := Z5.out; have z1_ := Z6.out; have z2_ := Z11.out; have z3_ := Z12.out; have z4_ := Z15.out; have z5_ := Z18.out; have z6_ := Z20.out; have z7_ := Z100.out; have z8_ := Z101.out; have z9_ := Z102.out; have z10_ := Z103.out; have z11_ := Z104.out; have z12_ := Z106.out; have z13_ := Z113.out; have z14_ := Z118.out; have z15_ := Z119.out; have z16_ := Z121.out; have z17_ := Z128.out; have z18_ := Z133.out; have z19_ := Z134.out; have g1_ := GP94.out; have g2_ := GP132.out; show gb95 ≠ gb129; omega) _ : w135.heap[gb95]? = some (.cells #[.slice Ao96 r0.length co97] 26 (0, 0)))); have n5_ := Aside0.mk (hw.symm ▸ (Kd.S_far (p := ⟨gb129, 0, none⟩) (F112.out) (fun k_ h_ => by have z0_ := Z5.out; have z1_ := Z6.out; have z2_ := Z11.out; have z3_ := Z12.out; have z4_ := Z15.out; have z5_ := Z18.out; have z6_ := Z20.out; have z7_ := Z100.out; have z8_ := Z101.out; have z9_ := Z102.out; have z10_ := Z103.out; have z11_ := Z104.out; have z12_ := Z106.out; have z13_ := Z113.out; have z14_ := Z118.out; have z15_ := Z119.out; have z16_ := Z121.out; have z17_ := Z128.out; have z18_ := Z133.out; have z19_ := Z134.out; have g_ := GP132.out; unfold Ivl at h_; show k_ ≠ gb129; omega) _)); have n6_ := Aside0.mk ((by rw [hw]; exact blk_far (BK116.out) (by have z0_ := Z5.out; have z1_ := Z6.out; have z2_ := Z11.out; have z3_ := Z12.out; have z4_ := Z15.out; have z5_ := Z18.out; have z6_ := Z20.out; have z7_ := Z100.out; have z8_ := Z101.out; have z9_ := Z102.out; have z10_ := Z103.out; have z11_ := Z104.out; have z12_ := Z106.out; have z13_ := Z113.out; have z14_ := Z118.out; have z15_ := Z119.out; have z16_ := Z121.out; have z17_ := Z128.out; have z18_ := Z133.out; have z19_ := Z134.out; have g1_ := GP117.out; have g2_ := GP132.out; show gb114 ≠ gb129; omega) _ : w135.heap[gb114]? = some (.cells #[.slice Ao110 l0_0.length co111] 26 (0, 0)))); have n7_ := Aside0.mk (hw.symm ▸ (Kd.S_far (p := ⟨gb129, 0, none⟩) (F127.out) (fun k_ h_ => by have z0_ := Z5.out; have z1_ := Z6.out; have z2_ := Z11.out; have z3_ := Z12.out; have z4_ := Z15.out; have z5_ := Z18.out; have z6_ := Z20.out; have z7_ := Z100.out; have z8_ := Z101.out; have z9_ := Z102.out; have z10_ := Z103.out; have z11_ := Z104.out; have z12_ := Z106.out; have z13_ := Z113.out; have z14_ := Z118.out; have z15_ := Z119.out; have z16_ := Z121.out; have z17_ := Z128.out; have z18_ := Z133.out; have z19_ := Z134.out; have g_ := GP132.out; unfold Ivl at h_; show k_ ≠ gb129; omega) _)); have n8_ := Aside0.mk ((by rw [hw]; exact blk_put (cs := #[.slice none 0 0]) (BK131.out) 0 _ rfl : w135.heap[gb129]? = some (.cells #[.slice Ao125 l1_0.length co126] 26 (0, 0)))); clear HB BK3 BK9 F92 BK93 F112 BK116 F127 BK131; have HB := n0_; have BK3 := n1_; have BK9 := n2_; have F92 := n3_; have BK93 := n4_; have F112 := n5_; have BK116 := n6_; have F127 := n7_; have BK131 := n8_; clear n0_ n1_ n2_ n3_ n4_ n5_ n6_ n7_ n8_; clear hw; (try clear hz_gb1_0); have hz_gb1_0 : w135.cell? ⟨gb1, 0, none⟩ = some (.slice A0_0 l0_0.length c0_0) := (blk_cell BK3.out 0).trans rfl; (try clear hf_gb1_0); have hf_gb1_0 := blk_frozen BK3.out 0; (try clear hz_gb7_0); have hz_gb7_0 : w135.cell? ⟨gb7, 0, none⟩ = some (.slice A1_0 l1_0.length c1_0) := (blk_cell BK9.out 0).trans rfl; (try clear hf_gb7_0); have hf_gb7_0 := blk_frozen BK9.out 0; (try clear hz_gb95_0); have hz_gb95_0 : w135.cell? ⟨gb95, 0, none⟩ = some (.slice Ao96 r0.length co97) := (blk_cell BK93.out 0).trans rfl; (try clear hf_gb95_0); have hf_gb95_0 := blk_frozen BK93.out 0; (try clear hz_gb114_0); have hz_gb114_0 : w135.cell? ⟨gb114, 0, none⟩ = some (.slice Ao110 l0_0.length co111) := (blk_cell BK116.out 0).trans rfl; (try clear hf_gb114_0); have hf_gb114_0 := blk_frozen BK116.out 0; (try clear hz_gb129_0); have hz_gb129_0 : w135.cell? ⟨gb129, 0, none⟩ = some (.slice Ao125 l1_0.length co126) := (blk_cell BK131.out 0).trans rfl; (try clear hf_gb129_0); have hf_gb129_0 := blk_frozen BK131.out 0) | ((with_reducible refine gate_dst (N := 42) rfl ?_); (try (refine gate_guard (by rfl) ?_; dsimp only)); refine goesL_ (some 42) rfl rfl Try.func11 (by kernel_rfl) rfl #[.agg #[.slice Ao110 l0_0.length co111], .agg #[.slice Ao125 l1_0.length co126]] rfl (by (try simp only [List.map_toArray, List.map_cons, List.map_nil]); first | done | rfl) ?_; (with_reducible refine (impl_SumOfGames.calls k _ _ l0_0 _ _ l1_0 r0 r1 _ ?side1 ?side2 ?side3 ?side4 E_impl_SumOfGames_138.out).mono ?_); (case side1 => exact (Kd.S_reads' F112.out).2.2); (case side2 => exact (Kd.S_reads' F112.out).2.1); (case side3 => exact (Kd.S_reads' F127.out).2.2); (case side4 => exact (Kd.S_reads' F127.out).2.1); rintro e w137 ⟨v139, rfl, ho140, hb⟩; refine ⟨_, rfl, ?_⟩; obtain ⟨Ao141, co142, e_Ao141⟩ := Kd.S_slice ho140; subst e_Ao141; have F143 := Aside0.mk (S_ivl ho140 HB.out.size); have Z144 : Aside0 (w135.heap.size ≤ w137.heap.size) := Aside0.mk (hb.size); have n0_ := Aside0.mk (below_then HB.out HB.out.size hb); have n1_ := Aside0.mk (blk_below (g := gb1) (o := .cells #[.slice A0_0 l0_0.length c0_0] 24 (0, 0)) BK3.out hb); have n2_ := Aside0.mk (blk_below (g := gb7) (o := .cells #[.slice A1_0 l1_0.length c1_0] 24 (0, 0)) BK9.out hb); have n3_ := Aside0.mk (Kd.S_below F92.out hb); have n4_ := Aside0.mk (blk_below (g := gb95) (o := .cells #[.slice Ao96 r0.length co97] 26 (0, 0)) BK93.out hb); have n5_ := Aside0.mk (Kd.S_below F112.out hb); have n6_ := Aside0.mk (blk_below (g := gb114) (o := .cells #[.slice Ao110 l0_0.length co111] 26 (0, 0)) BK116.out hb); have n7_ := Aside0.mk (Kd.S_below F127.out hb); have n8_ := Aside0.mk (blk_below (g := gb129) (o := .cells #[.slice Ao125 l1_0.length co126] 26 (0, 0)) BK131.out hb); clear HB BK3 BK9 F92 BK93 F112 BK116 F127 BK131; have HB := n0_; have BK3 := n1_; have BK9 := n2_; have F92 := n3_; have BK93 := n4_; have F112 := n5_; have BK116 := n6_; have F127 := n7_; have BK131 := n8_; clear n0_ n1_ n2_ n3_ n4_ n5_ n6_ n7_ n8_; (try clear hb ho140); (try clear hz_gb1_0); have hz_gb1_0 : w137.cell? ⟨gb1, 0, none⟩ = some (.slice A0_0 l0_0.length c0_0) := (blk_cell BK3.out 0).trans rfl; (try clear hf_gb1_0); have hf_gb1_0 := blk_frozen BK3.out 0; (try clear hz_gb7_0); have hz_gb7_0 : w137.cell? ⟨gb7, 0, none⟩ = some (.slice A1_0 l1_0.length c1_0) := (blk_cell BK9.out 0).trans rfl; (try clear hf_gb7_0); have hf_gb7_0 := blk_frozen BK9.out 0; (try clear hz_gb95_0); have hz_gb95_0 : w137.cell? ⟨gb95, 0, none⟩ = some (.slice Ao96 r0.length co97) := (blk_cell BK93.out 0).trans rfl; (try clear hf_gb95_0); have hf_gb95_0 := blk_frozen BK93.out 0; (try clear hz_gb114_0); have hz_gb114_0 : w137.cell? ⟨gb114, 0, none⟩ = some (.slice Ao110 l0_0.length co111) := (blk_cell BK116.out 0).trans rfl; (try clear hf_gb114_0); have hf_gb114_0 := blk_frozen BK116.out 0; (try clear hz_gb129_0); have hz_gb129_0 : w137.cell? ⟨gb129, 0, none⟩ = some (.slice Ao125 l1_0.length co126) := (blk_cell BK131.out 0).trans rfl; (try clear hf_gb129_0); have hf_gb129_0 := blk_frozen BK131.out 0) | ((with_reducible refine gate_dst (N := 10) rfl ?_); (try (refine gate_guard (by rfl) ?_; dsimp only)); refine box_event ?hg (N := 10) ?hd (cs := #[.slice none 0 0]) (t := 26) ?hr ?_; (case hd => rfl); (case hg => rfl); (case hr => first | (go_simp; done) | (go_simp; rfl)); intro gb145 hg w146 hbox hb; have Z149 : Aside0 (w137.heap.size ≤ w146.heap.size) := Aside0.mk (hb.size); have BK147 := Aside0.mk hbox; have GP148 := Aside0.mk hg; have Z150 : Aside0 (gb145 < w146.heap.size) := Aside0.mk (blk_lt hbox); have n0_ := Aside0.mk (below_then HB.out HB.out.size hb); have n1_ := Aside0.mk (blk_below (g := gb1) (o := .cells #[.slice A0_0 l0_0.length c0_0] 24 (0, 0)) BK3.out hb); have n2_ := Aside0.mk (blk_below (g := gb7) (o := .cells #[.slice A1_0 l1_0.length c1_0] 24 (0, 0)) BK9.out hb); have n3_ := Aside0.mk (Kd.S_below F92.out hb); have n4_ := Aside0.mk (blk_below (g := gb95) (o := .cells #[.slice Ao96 r0.length co97] 26 (0, 0)) BK93.out hb); have n5_ := Aside0.mk (Kd.S_below F112.out hb); have n6_ := Aside0.mk (blk_below (g := gb114) (o := .cells #[.slice Ao110 l0_0.length co111] 26 (0, 0)) BK116.out hb); have n7_ := Aside0.mk (Kd.S_below F127.out hb); have n8_ := Aside0.mk (blk_below (g := gb129) (o := .cells #[.slice Ao125 l1_0.length co126] 26 (0, 0)) BK131.out hb); have n9_ := Aside0.mk (Kd.S_below F143.out hb); clear HB BK3 BK9 F92 BK93 F112 BK116 F127 BK131 F143; have HB := n0_; have BK3 := n1_; have BK9 := n2_; have F92 := n3_; have BK93 := n4_; have F112 := n5_; have BK116 := n6_; have F127 := n7_; have BK131 := n8_; have F143 := n9_; clear n0_ n1_ n2_ n3_ n4_ n5_ n6_ n7_ n8_ n9_; clear hb hbox hg; (try clear hz_gb1_0); have hz_gb1_0 : w146.cell? ⟨gb1, 0, none⟩ = some (.slice A0_0 l0_0.length c0_0) := (blk_cell BK3.out 0).trans rfl; (try clear hf_gb1_0); have hf_gb1_0 := blk_frozen BK3.out 0; (try clear hz_gb7_0); have hz_gb7_0 : w146.cell? ⟨gb7, 0, none⟩ = some (.slice A1_0 l1_0.length c1_0) := (blk_cell BK9.out 0).trans rfl; (try clear hf_gb7_0); have hf_gb7_0 := blk_frozen BK9.out 0; (try clear hz_gb95_0); have hz_gb95_0 : w146.cell? ⟨gb95, 0, none⟩ = some (.slice Ao96 r0.length co97) := (blk_cell BK93.out 0).trans rfl; (try clear hf_gb95_0); have hf_gb95_0 := blk_frozen BK93.out 0; (try clear hz_gb114_0); have hz_gb114_0 : w146.cell? ⟨gb114, 0, none⟩ = some (.slice Ao110 l0_0.length co111) := (blk_cell BK116.out 0).trans rfl; (try clear hf_gb114_0); have hf_gb114_0 := blk_frozen BK116.out 0; (try clear hz_gb129_0); have hz_gb129_0 : w146.cell? ⟨gb129, 0, none⟩ = some (.slice Ao125 l1_0.length co126) := (blk_cell BK131.out 0).trans rfl; (try clear hf_gb129_0); have hf_gb129_0 := blk_frozen BK131.out 0; (try clear hz_gb145_0); have hz_gb145_0 : w146.cell? ⟨gb145, 0, none⟩ = some (.slice none 0 0) := (blk_cell BK147.out 0).trans rfl; (try clear hf_gb145_0); have hf_gb145_0 := blk_frozen BK147.out 0) | ((with_reducible refine gate_store (t := 26) (p := 10) rfl ?_); (try (refine gate_guard (by rfl) ?_; dsimp only)); refine store_event (t := 26) (p := 10) (v := ?vo_w151) (w1 := (w146.setCell ⟨gb145, 0, none⟩ (.slice Ao141 r0.length co142))) ?hg ?ho ?hn ?hr ?_; (case ho => rfl); (case hg => rfl); (case hn => rfl); (case hr => first | (go_simp; done) | (go_simp; rfl)); intro w151 hw; have Z152 : Aside0 (w146.heap.size ≤ w151.heap.size) := Aside0.mk (by rw [hw]; simp [World.setCell]); have n0_ := Aside0.mk ((by rw [hw]; exact below_set (HB.out) (by have z0_ := Z5.out; have z1_ := Z6.out; have z2_ := Z11.out; have z3_ := Z12.out; have z4_ := Z15.out; have z5_ := Z18.out; have z6_ := Z20.out; have z7_ := Z100.out; have z8_ := Z101.out; have z9_ := Z102.out; have z10_ := Z103.out; have z11_ := Z104.out; have z12_ := Z106.out; have z13_ := Z113.out; have z14_ := Z118.out; have z15_ := Z119.out; have z16_ := Z121.out; have z17_ := Z128.out; have z18_ := Z133.out; have z19_ := Z134.out; have z20_ := Z136.out; have z21_ := Z144.out; have z22_ := Z149.out; have z23_ := Z150.out; have g_ := GP148.out; have hb_ := HB.out.size; omega) : Below w.heap.size w w151)); have n1_ := Aside0.mk ((by rw [hw]; exact blk_far (BK3.out) (by have z0_ := Z5.out; have z1_ := Z6.out; have z2_ := Z11.out; have z3_ := Z12.out; have z4_ := Z15.out; have z5_ := Z18.out; have z6_ := Z20.out; have z7_ := Z100.out; have z8_ := Z101.out; have z9_ := Z102.out; have z10_ := Z103.out; have z11_ := Z104.out; have z12_ := Z106.out; have z13_ := Z113.out; have z14_ := Z118.out; have z15_ := Z119.out; have z16_ := Z121.out; have z17_ := Z128.out; have z18_ := Z133.out; have z19_ := Z134.out; have z20_ := Z136.out; have z21_ := Z144.out; have z22_ := Z149.out; have z23_ := Z150.out; have g1_ := GP4.out; have g2_ := GP148.out; show gb1 ≠ gb145; omega) _ : w151.heap[gb1]? = some (.cells #[.slice A0_0 l0_0.length c0_0] 24 (0, 0)))); have n2_ := Aside0.mk ((by rw [hw]; exact blk_far (BK9.out) (by have z0_ := Z5.out; have z1_ := Z6.out; have z2_ := Z11.out; have z3_ := Z12.out; have z4_ := Z15.out; have z5_ := Z18.out; have z6_ := Z20.out; have z7_ := Z100.out; have z8_ := Z101.out; have z9_ := Z102.out; have z10_ := Z103.out; have z11_ := Z104.out; have z12_ := Z106.out; have z13_ := Z113.out; have z14_ := Z118.out; have z15_ := Z119.out; have z16_ := Z121.out; have z17_ := Z128.out; have z18_ := Z133.out; have z19_ := Z134.out; have z20_ := Z136.out; have z21_ := Z144.out; have z22_ := Z149.out; have z23_ := Z150.out; have g1_ := GP10.out; have g2_ := GP148.out; show gb7 ≠ gb145; omega) _ : w151.heap[gb7]? = some (.cells #[.slice A1_0 l1_0.length c1_0] 24 (0, 0)))); have n3_ := Aside0.mk (hw.symm ▸ (Kd.S_far (p := ⟨gb145, 0, none⟩) (F92.out) (fun k_ h_ => by have z0_ := Z5.out; have z1_ := Z6.out; have z2_ := Z11.out; have z3_ := Z12.out; have z4_ := Z15.out; have z5_ := Z18.out; have z6_ := Z20.out; have z7_ := Z100.out; have z8_ := Z101.out; have z9_ := Z102.out; have z10_ := Z103.out; have z11_ := Z104.out; have z12_ := Z106.out; have z13_ := Z113.out; have z14_ := Z118.out; have z15_ := Z119.out; have z16_ := Z121.out; have z17_ := Z128.out; have z18_ := Z133.out; have z19_ := Z134.out; have z20_ := Z136.out; have z21_ := Z144.out; have z22_ := Z149.out; have z23_ := Z150.out; have g_ := GP148.out; unfold Ivl at h_; show k_ ≠ gb145; omega) _)); have n4_ := Aside0.mk ((by rw [hw]; exact blk_far (BK93.out) (by have z0_ := Z5.out; have z1_ := Z6.out; have z2_ := Z11.out; have z3_ := Z12.out; have z4_ := Z15.out; have z5_ := Z18.out; have z6_ := Z20.out; have z7_ := Z100.out; have z8_ := Z101.out; have z9_ := Z102.out; have z10_ := Z103.out; have z11_ := Z104.out; have z12_ := Z106.out; have z13_ := Z113.out; have z14_ := Z118.out; have z15_ := Z119.out; have z16_ := Z121.out; have z17_ := Z128.out; have z18_ := Z133.out; have z19_ := Z134.out; have z20_ := Z136.out; have z21_ := Z144.out; have z22_ := Z149.out; have z23_ := Z150.out; have g1_ := GP94.out; have g2_ := GP148.out; show gb95 ≠ gb145; omega) _ : w151.heap[gb95]? = some (.cells #[.slice Ao96 r0.length co97] 26 (0, 0)))); have n5_ := Aside0.mk (hw.symm ▸ (Kd.S_far (p := ⟨gb145, 0, none⟩) (F112.out) (fun k_ h_ => by have z0_ := Z5.out; have z1_ := Z6.out; have z2_ := Z11.out; have z3_ := Z12.out; have z4_ := Z15.out; have z5_ := Z18.out; have z6_ := Z20.out; have z7_ := Z100.out; have z8_ := Z101.out; have z9_ := Z102.out; have z10_ := Z103.out; have z11_ := Z104.out; have z12_ := Z106.out; have z13_ := Z113.out; have z14_ := Z118.out; have z15_ := Z119.out; have z16_ := Z121.out; have z17_ := Z128.out; have z18_ := Z133.out; have z19_ := Z134.out; have z20_ := Z136.out; have z21_ := Z144.out; have z22_ := Z149.out; have z23_ := Z150.out; have g_ := GP148.out; unfold Ivl at h_; show k_ ≠ gb145; omega) _)); have n6_ := Aside0.mk ((by rw [hw]; exact blk_far (BK116.out) (by have z0_ := Z5.out; have z1_ := Z6.out; have z2_ := Z11.out; have z3_ := Z12.out; have z4_ := Z15.out; have z5_ := Z18.out; have z6_ := Z20.out; have z7_ := Z100.out; have z8_ := Z101.out; have z9_ := Z102.out; have z10_ := Z103.out; have z11_ := Z104.out; have z12_ := Z106.out; have z13_ := Z113.out; have z14_ := Z118.out; have z15_ := Z119.out; have z16_ := Z121.out; have z17_ := Z128.out; have z18_ := Z133.out; have z19_ := Z134.out; have z20_ := Z136.out; have z21_ := Z144.out; have z22_ := Z149.out; have z23_ := Z150.out; have g1_ := GP117.out; have g2_ := GP148.out; show gb114 ≠ gb145; omega) _ : w151.heap[gb114]? = some (.cells #[.slice Ao110 l0_0.length co111] 26 (0, 0)))); have n7_ := Aside0.mk (hw.symm ▸ (Kd.S_far (p := ⟨gb145, 0, none⟩) (F127.out) (fun k_ h_ => by have z0_ := Z5.out; have z1_ := Z6.out; have z2_ := Z11.out; have z3_ := Z12.out; have z4_ := Z15.out; have z5_ := Z18.out; have z6_ := Z20.out; have z7_ := Z100.out; have z8_ := Z101.out; have z9_ := Z102.out; have z10_ := Z103.out; have z11_ := Z104.out; have z12_ := Z106.out; have z13_ := Z113.out; have z14_ := Z118.out; have z15_ := Z119.out; have z16_ := Z121.out; have z17_ := Z128.out; have z18_ := Z133.out; have z19_ := Z134.out; have z20_ := Z136.out; have z21_ := Z144.out; have z22_ := Z149.out; have z23_ := Z150.out; have g_ := GP148.out; unfold Ivl at h_; show k_ ≠ gb145; omega) _)); have n8_ := Aside0.mk ((by rw [hw]; exact blk_far (BK131.out) (by have z0_ := Z5.out; have z1_ := Z6.out; have z2_ := Z11.out; have z3_ := Z12.out; have z4_ := Z15.out; have z5_ := Z18.out; have z6_ := Z20.out; have z7_ := Z100.out; have z8_ := Z101.out; have z9_ := Z102.out; have z10_ := Z103.out; have z11_ := Z104.out; have z12_ := Z106.out; have z13_ := Z113.out; have z14_ := Z118.out; have z15_ := Z119.out; have z16_ := Z121.out; have z17_ := Z128.out; have z18_ := Z133.out; have z19_ := Z134.out; have z20_ := Z136.out; have z21_ := Z144.out; have z22_ := Z149.out; have z23_ := Z150.out; have g1_ := GP132.out; have g2_ := GP148.out; show gb129 ≠ gb145; omega) _ : w151.heap[gb129]? = some (.cells #[.slice Ao125 l1_0.length co126] 26 (0, 0)))); have n9_ := Aside0.mk (hw.symm ▸ (Kd.S_far (p := ⟨gb145, 0, none⟩) (F143.out) (fun k_ h_ => by have z0_ := Z5.out; have z1_ := Z6.out; have z2_ := Z11.out; have z3_ := Z12.out; have z4_ := Z15.out; have z5_ := Z18.out; have z6_ := Z20.out; have z7_ := Z100.out; have z8_ := Z101.out; have z9_ := Z102.out; have z10_ := Z103.out; have z11_ := Z104.out; have z12_ := Z106.out; have z13_ := Z113.out; have z14_ := Z118.out; have z15_ := Z119.out; have z16_ := Z121.out; have z17_ := Z128.out; have z18_ := Z133.out; have z19_ := Z134.out; have z20_ := Z136.out; have z21_ := Z144.out; have z22_ := Z149.out; have z23_ := Z150.out; have g_ := GP148.out; unfold Ivl at h_; show k_ ≠ gb145; omega) _)); have n10_ := Aside0.mk ((by rw [hw]; exact blk_put (cs := #[.slice none 0 0]) (BK147.out) 0 _ rfl : w151.heap[gb145]? = some (.cells #[.slice Ao141 r0.length co142] 26 (0, 0)))); clear HB BK3 BK9 F92 BK93 F112 BK116 F127 BK131 F143 BK147; have HB := n0_; have BK3 := n1_; have BK9 := n2_; have F92 := n3_; have BK93 := n4_; have F112 := n5_; have BK116 := n6_; have F127 := n7_; have BK131 := n8_; have F143 := n9_; have BK147 := n10_; clear n0_ n1_ n2_ n3_ n4_ n5_ n6_ n7_ n8_ n9_ n10_; clear hw; (try clear hz_gb1_0); have hz_gb1_0 : w151.cell? ⟨gb1, 0, none⟩ = some (.slice A0_0 l0_0.length c0_0) := (blk_cell BK3.out 0).trans rfl; (try clear hf_gb1_0); have hf_gb1_0 := blk_frozen BK3.out 0; (try clear hz_gb7_0); have hz_gb7_0 : w151.cell? ⟨gb7, 0, none⟩ = some (.slice A1_0 l1_0.length c1_0) := (blk_cell BK9.out 0).trans rfl; (try clear hf_gb7_0); have hf_gb7_0 := blk_frozen BK9.out 0; (try clear hz_gb95_0); have hz_gb95_0 : w151.cell? ⟨gb95, 0, none⟩ = some (.slice Ao96 r0.length co97) := (blk_cell BK93.out 0).trans rfl; (try clear hf_gb95_0); have hf_gb95_0 := blk_frozen BK93.out 0; (try clear hz_gb114_0); have hz_gb114_0 : w151.cell? ⟨gb114, 0, none⟩ = some (.slice Ao110 l0_0.length co111) := (blk_cell BK116.out 0).trans rfl; (try clear hf_gb114_0); have hf_gb114_0 := blk_frozen BK116.out 0; (try clear hz_gb129_0); have hz_gb129_0 : w151.cell? ⟨gb129, 0, none⟩ = some (.slice Ao125 l1_0.length co126) := (blk_cell BK131.out 0).trans rfl; (try clear hf_gb129_0); have hf_gb129_0 := blk_frozen BK131.out 0; (try clear hz_gb145_0); have hz_gb145_0 : w151.cell? ⟨gb145, 0, none⟩ = some (.slice Ao141 r0.length co142) := (blk_cell BK147.out 0).trans rfl; (try clear hf_gb145_0); have hf_gb145_0 := blk_frozen BK147.out 0) | ((with_reducible refine gate_dst (N := 47) rfl ?_); (try (refine gate_guard (by rfl) ?_; dsimp only)); refine goesL_ (some 47) rfl rfl Try.func12 (by kernel_rfl) rfl #[.agg #[.slice Ao141 r0.length co142], .agg #[.slice Ao96 r0.length co97]] rfl (by (try simp only [List.map_toArray, List.map_cons, List.map_nil]); first | done | rfl) ?_; (with_reducible refine (laws_eqGame.calls k _ _ r0 _ _ r0 true _ ?side1 ?side2 ?side3 ?side4 E_laws_eqGame_154.out).mono ?_); (case side1 => exact (Kd.S_reads' F143.out).2.2); (case side2 => exact (Kd.S_reads' F143.out).2.1); (case side3 => exact (Kd.S_reads' F92.out).2.2); (case side4 => exact (Kd.S_reads' F92.out).2.1); rintro e w153 ⟨rfl, hb⟩; refine ⟨_, rfl, ?_⟩; have Z155 : Aside0 (w151.heap.size ≤ w153.heap.size) := Aside0.mk (hb.size); have n0_ := Aside0.mk (below_then HB.out HB.out.size hb); have n1_ := Aside0.mk (blk_below (g := gb1) (o := .cells #[.slice A0_0 l0_0.length c0_0] 24 (0, 0)) BK3.out hb); have n2_ := Aside0.mk (blk_below (g := gb7) (o := .cells #[.slice A1_0 l1_0.length c1_0] 24 (0, 0)) BK9.out hb); have n3_ := Aside0.mk (Kd.S_below F92.out hb); have n4_ := Aside0.mk (blk_below (g := gb95) (o := .cells #[.slice Ao96 r0.length co97] 26 (0, 0)) BK93.out hb); have n5_ := Aside0.mk (Kd.S_below F112.out hb); have n6_ := Aside0.mk (blk_below (g := gb114) (o := .cells #[.slice Ao110 l0_0.length co111] 26 (0, 0)) BK116.out hb); have n7_ := Aside0.mk (Kd.S_below F127.out hb); have n8_ := Aside0.mk (blk_below (g := gb129) (o := .cells #[.slice Ao125 l1_0.length co126] 26 (0, 0)) BK131.out hb); have n9_ := Aside0.mk (Kd.S_below F143.out hb); have n10_ := Aside0.mk (blk_below (g := gb145) (o := .cells #[.slice Ao141 r0.length co142] 26 (0, 0)) BK147.out hb); clear HB BK3 BK9 F92 BK93 F112 BK116 F127 BK131 F143 BK147; have HB := n0_; have BK3 := n1_; have BK9 := n2_; have F92 := n3_; have BK93 := n4_; have F112 := n5_; have BK116 := n6_; have F127 := n7_; have BK131 := n8_; have F143 := n9_; have BK147 := n10_; clear n0_ n1_ n2_ n3_ n4_ n5_ n6_ n7_ n8_ n9_ n10_; (try clear hb); (try clear hz_gb1_0); have hz_gb1_0 : w153.cell? ⟨gb1, 0, none⟩ = some (.slice A0_0 l0_0.length c0_0) := (blk_cell BK3.out 0).trans rfl; (try clear hf_gb1_0); have hf_gb1_0 := blk_frozen BK3.out 0; (try clear hz_gb7_0); have hz_gb7_0 : w153.cell? ⟨gb7, 0, none⟩ = some (.slice A1_0 l1_0.length c1_0) := (blk_cell BK9.out 0).trans rfl; (try clear hf_gb7_0); have hf_gb7_0 := blk_frozen BK9.out 0; (try clear hz_gb95_0); have hz_gb95_0 : w153.cell? ⟨gb95, 0, none⟩ = some (.slice Ao96 r0.length co97) := (blk_cell BK93.out 0).trans rfl; (try clear hf_gb95_0); have hf_gb95_0 := blk_frozen BK93.out 0; (try clear hz_gb114_0); have hz_gb114_0 : w153.cell? ⟨gb114, 0, none⟩ = some (.slice Ao110 l0_0.length co111) := (blk_cell BK116.out 0).trans rfl; (try clear hf_gb114_0); have hf_gb114_0 := blk_frozen BK116.out 0; (try clear hz_gb129_0); have hz_gb129_0 : w153.cell? ⟨gb129, 0, none⟩ = some (.slice Ao125 l1_0.length co126) := (blk_cell BK131.out 0).trans rfl; (try clear hf_gb129_0); have hf_gb129_0 := blk_frozen BK131.out 0; (try clear hz_gb145_0); have hz_gb145_0 : w153.cell? ⟨gb145, 0, none⟩ = some (.slice Ao141 r0.length co142) := (blk_cell BK147.out 0).trans rfl; (try clear hf_gb145_0); have hf_gb145_0 := blk_frozen BK147.out 0))
  refine start_ (n := 5) (S := fun w' => w'.cell? ⟨gb1, 0, none⟩ = some (.slice A0_0 l0_0.length c0_0) ∧ w'.cell? ⟨gb7, 0, none⟩ = some (.slice A1_0 l1_0.length c1_0) ∧ w'.cell? ⟨gb95, 0, none⟩ = some (.slice Ao96 r0.length co97) ∧ w'.cell? ⟨gb114, 0, none⟩ = some (.slice Ao110 l0_0.length co111) ∧ w'.cell? ⟨gb129, 0, none⟩ = some (.slice Ao125 l1_0.length co126) ∧ w'.cell? ⟨gb145, 0, none⟩ = some (.slice Ao141 r0.length co142)) (ds := []) #[false, false, false, false, false] (by kernel_rfl) rfl rfl ⟨(blk_cell BK3.out 0).trans rfl, (blk_cell BK9.out 0).trans rfl, (blk_cell BK93.out 0).trans rfl, (blk_cell BK116.out 0).trans rfl, (blk_cell BK131.out 0).trans rfl, (blk_cell BK147.out 0).trans rfl⟩ (fun hHeld => ?_)
  have Z157 : Aside0 (w153.heap.size ≤ w153.drew.heap.size) := Aside0.mk (Nat.le_refl _)
  have n0_ := Aside0.mk (below_drew HB.out)
  have n1_ := Aside0.mk (blk_drew BK3.out)
  have n2_ := Aside0.mk (blk_drew BK9.out)
  have n3_ := Aside0.mk (Kd.S_drew F92.out)
  have n4_ := Aside0.mk (blk_drew BK93.out)
  have n5_ := Aside0.mk (Kd.S_drew F112.out)
  have n6_ := Aside0.mk (blk_drew BK116.out)
  have n7_ := Aside0.mk (Kd.S_drew F127.out)
  have n8_ := Aside0.mk (blk_drew BK131.out)
  have n9_ := Aside0.mk (Kd.S_drew F143.out)
  have n10_ := Aside0.mk (blk_drew BK147.out)
  clear HB BK3 BK9 F92 BK93 F112 BK116 F127 BK131 F143 BK147
  have HB := n0_
  have BK3 := n1_
  have BK9 := n2_
  have F92 := n3_
  have BK93 := n4_
  have F112 := n5_
  have BK116 := n6_
  have F127 := n7_
  have BK131 := n8_
  have F143 := n9_
  have BK147 := n10_
  clear n0_ n1_ n2_ n3_ n4_ n5_ n6_ n7_ n8_ n9_ n10_
  generalize w153.drew = w156 at HB BK3 BK9 F92 BK93 F112 BK116 F127 BK131 F143 BK147 Z157 hHeld ⊢
  refine take_ (i := 0) (N := some 54) (v := ?_) (a' := ?_) #[true, false, false, false, false] rfl rfl (by kernel_rfl) (fun _ _ _ h => h) (Or.inl ⟨by rfl, ?_⟩) hHeld ?_ ?_
  rotate_left
  · rintro w' ⟨s0_, s1_, s2_, s3_, s4_, s5_⟩
    go_simp
    with_reducible rfl
  rotate_left
  · simp only [Act.put, List.setIfInBounds_toArray, List.set_cons_zero, List.set_cons_succ, i64_w, i32_w]
    rfl
  refine take_ (i := 1) (N := some 55) (v := ?_) (a' := ?_) #[true, true, false, false, false] rfl rfl (by kernel_rfl) (fun _ _ _ h => h) (Or.inl ⟨by rfl, ?_⟩) hHeld ?_ ?_
  rotate_left
  · rintro w' ⟨s0_, s1_, s2_, s3_, s4_, s5_⟩
    go_simp
    with_reducible rfl
  rotate_left
  · simp only [Act.put, List.setIfInBounds_toArray, List.set_cons_zero, List.set_cons_succ, i64_w, i32_w]
    rfl
  refine one_ (i := 2) (N := some 56) #[true, true, true, false, false] rfl rfl (by kernel_rfl) (by decide) (fun K hK => ?_)
  refine goes_ Try.func10 (by kernel_rfl) rfl #[.agg #[.slice A0_0 l0_0.length c0_0]] (by rfl) rfl rfl (by (try simp only [List.map_toArray, List.map_cons, List.map_nil]); first | done | rfl) ?_
  with_reducible refine (laws_toGame.calls k _ _ l0_0 l0_0 _ ?side1 ?side2 E_laws_toGame_22.out).mono ?_
  (case side1 => exact Kd.C_below HR0_0.out HB.out)
  (case side2 => exact HC0_0.out)
  rintro e w158 ⟨v159, rfl, ho160, hb⟩
  refine ⟨_, rfl, ?_⟩
  obtain ⟨Ao161, co162, e_Ao161⟩ := Kd.S_slice ho160
  subst e_Ao161
  have F163 := Aside0.mk (S_ivl ho160 HB.out.size)
  have Z164 : Aside0 (w156.heap.size ≤ w158.heap.size) := Aside0.mk (hb.size)
  have n0_ := Aside0.mk (below_then HB.out HB.out.size hb)
  have n1_ := Aside0.mk (blk_below (g := gb1) (o := .cells #[.slice A0_0 l0_0.length c0_0] 24 (0, 0)) BK3.out hb)
  have n2_ := Aside0.mk (blk_below (g := gb7) (o := .cells #[.slice A1_0 l1_0.length c1_0] 24 (0, 0)) BK9.out hb)
  have n3_ := Aside0.mk (Kd.S_below F92.out hb)
  have n4_ := Aside0.mk (blk_below (g := gb95) (o := .cells #[.slice Ao96 r0.length co97] 26 (0, 0)) BK93.out hb)
  have n5_ := Aside0.mk (Kd.S_below F112.out hb)
  have n6_ := Aside0.mk (blk_below (g := gb114) (o := .cells #[.slice Ao110 l0_0.length co111] 26 (0, 0)) BK116.out hb)
  have n7_ := Aside0.mk (Kd.S_below F127.out hb)
  have n8_ := Aside0.mk (blk_below (g := gb129) (o := .cells #[.slice Ao125 l1_0.length co126] 26 (0, 0)) BK131.out hb)
  have n9_ := Aside0.mk (Kd.S_below F143.out hb)
  have n10_ := Aside0.mk (blk_below (g := gb145) (o := .cells #[.slice Ao141 r0.length co142] 26 (0, 0)) BK147.out hb)
  clear HB BK3 BK9 F92 BK93 F112 BK116 F127 BK131 F143 BK147
  have HB := n0_
  have BK3 := n1_
  have BK9 := n2_
  have F92 := n3_
  have BK93 := n4_
  have F112 := n5_
  have BK116 := n6_
  have F127 := n7_
  have BK131 := n8_
  have F143 := n9_
  have BK147 := n10_
  clear n0_ n1_ n2_ n3_ n4_ n5_ n6_ n7_ n8_ n9_ n10_
  (try clear hb ho160)
  refine hK.out _ _ ⟨(blk_cell BK3.out 0).trans rfl, (blk_cell BK9.out 0).trans rfl, (blk_cell BK93.out 0).trans rfl, (blk_cell BK116.out 0).trans rfl, (blk_cell BK131.out 0).trans rfl, (blk_cell BK147.out 0).trans rfl⟩ (fun hHeld => ?_)
  clear hK K
  refine norm_ (a' := ?_) ?_ ?_
  rotate_left
  · show Act.put _ (some 56) _ = _
    simp only [Act.put, List.setIfInBounds_toArray, List.set_cons_zero, List.set_cons_succ, i64_w, i32_w]
    rfl
  refine one_ (i := 3) (N := some 57) #[true, true, true, true, false] rfl rfl (by kernel_rfl) (by decide) (fun K hK => ?_)
  refine goes_ Try.func12 (by kernel_rfl) rfl #[.agg #[.slice Ao110 l0_0.length co111], .agg #[.slice Ao161 l0_0.length co162]] (by rfl) rfl rfl (by (try simp only [List.map_toArray, List.map_cons, List.map_nil]); first | done | rfl) ?_
  with_reducible refine (laws_eqGame.calls k _ _ l0_0 _ _ l0_0 true _ ?side1 ?side2 ?side3 ?side4 E_laws_eqGame_166.out).mono ?_
  (case side1 => exact (Kd.S_reads' F112.out).2.2)
  (case side2 => exact (Kd.S_reads' F112.out).2.1)
  (case side3 => exact (Kd.S_reads' F163.out).2.2)
  (case side4 => exact (Kd.S_reads' F163.out).2.1)
  rintro e w165 ⟨rfl, hb⟩
  refine ⟨_, rfl, ?_⟩
  have Z167 : Aside0 (w158.heap.size ≤ w165.heap.size) := Aside0.mk (hb.size)
  have n0_ := Aside0.mk (below_then HB.out HB.out.size hb)
  have n1_ := Aside0.mk (blk_below (g := gb1) (o := .cells #[.slice A0_0 l0_0.length c0_0] 24 (0, 0)) BK3.out hb)
  have n2_ := Aside0.mk (blk_below (g := gb7) (o := .cells #[.slice A1_0 l1_0.length c1_0] 24 (0, 0)) BK9.out hb)
  have n3_ := Aside0.mk (Kd.S_below F92.out hb)
  have n4_ := Aside0.mk (blk_below (g := gb95) (o := .cells #[.slice Ao96 r0.length co97] 26 (0, 0)) BK93.out hb)
  have n5_ := Aside0.mk (Kd.S_below F112.out hb)
  have n6_ := Aside0.mk (blk_below (g := gb114) (o := .cells #[.slice Ao110 l0_0.length co111] 26 (0, 0)) BK116.out hb)
  have n7_ := Aside0.mk (Kd.S_below F127.out hb)
  have n8_ := Aside0.mk (blk_below (g := gb129) (o := .cells #[.slice Ao125 l1_0.length co126] 26 (0, 0)) BK131.out hb)
  have n9_ := Aside0.mk (Kd.S_below F143.out hb)
  have n10_ := Aside0.mk (blk_below (g := gb145) (o := .cells #[.slice Ao141 r0.length co142] 26 (0, 0)) BK147.out hb)
  have n11_ := Aside0.mk (Kd.S_below F163.out hb)
  clear HB BK3 BK9 F92 BK93 F112 BK116 F127 BK131 F143 BK147 F163
  have HB := n0_
  have BK3 := n1_
  have BK9 := n2_
  have F92 := n3_
  have BK93 := n4_
  have F112 := n5_
  have BK116 := n6_
  have F127 := n7_
  have BK131 := n8_
  have F143 := n9_
  have BK147 := n10_
  have F163 := n11_
  clear n0_ n1_ n2_ n3_ n4_ n5_ n6_ n7_ n8_ n9_ n10_ n11_
  (try clear hb)
  refine hK.out _ _ ⟨(blk_cell BK3.out 0).trans rfl, (blk_cell BK9.out 0).trans rfl, (blk_cell BK93.out 0).trans rfl, (blk_cell BK116.out 0).trans rfl, (blk_cell BK131.out 0).trans rfl, (blk_cell BK147.out 0).trans rfl⟩ (fun hHeld => ?_)
  clear hK K
  refine norm_ (a' := ?_) ?_ ?_
  rotate_left
  · show Act.put _ (some 57) _ = _
    simp only [Act.put, List.setIfInBounds_toArray, List.set_cons_zero, List.set_cons_succ, i64_w, i32_w]
    rfl
  refine pure_ (i := 4) (N := some 58) (v := ?_) (a' := ?_) #[true, true, true, true, true] rfl rfl (by kernel_rfl) (fun _ _ _ h => h) (Or.inl ⟨by rfl, ?_⟩) ?_ ?_
  rotate_left
  · intro w'
    go_simp
    with_reducible rfl
  rotate_left
  · simp only [Act.put, List.setIfInBounds_toArray, List.set_cons_zero, List.set_cons_succ, i64_w, i32_w]
    rfl
  refine done_ (by kernel_rfl) ?_
  (try clear hz_gb1_0)
  have hz_gb1_0 : w165.cell? ⟨gb1, 0, none⟩ = some (.slice A0_0 l0_0.length c0_0) := (blk_cell BK3.out 0).trans rfl
  (try clear hf_gb1_0)
  have hf_gb1_0 := blk_frozen BK3.out 0
  (try clear hz_gb7_0)
  have hz_gb7_0 : w165.cell? ⟨gb7, 0, none⟩ = some (.slice A1_0 l1_0.length c1_0) := (blk_cell BK9.out 0).trans rfl
  (try clear hf_gb7_0)
  have hf_gb7_0 := blk_frozen BK9.out 0
  (try clear hz_gb95_0)
  have hz_gb95_0 : w165.cell? ⟨gb95, 0, none⟩ = some (.slice Ao96 r0.length co97) := (blk_cell BK93.out 0).trans rfl
  (try clear hf_gb95_0)
  have hf_gb95_0 := blk_frozen BK93.out 0
  (try clear hz_gb114_0)
  have hz_gb114_0 : w165.cell? ⟨gb114, 0, none⟩ = some (.slice Ao110 l0_0.length co111) := (blk_cell BK116.out 0).trans rfl
  (try clear hf_gb114_0)
  have hf_gb114_0 := blk_frozen BK116.out 0
  (try clear hz_gb129_0)
  have hz_gb129_0 : w165.cell? ⟨gb129, 0, none⟩ = some (.slice Ao125 l1_0.length co126) := (blk_cell BK131.out 0).trans rfl
  (try clear hf_gb129_0)
  have hf_gb129_0 := blk_frozen BK131.out 0
  (try clear hz_gb145_0)
  have hz_gb145_0 : w165.cell? ⟨gb145, 0, none⟩ = some (.slice Ao141 r0.length co142) := (blk_cell BK147.out 0).trans rfl
  (try clear hf_gb145_0)
  have hf_gb145_0 := blk_frozen BK147.out 0
  go_wp2
  refine start_ (n := 5) (S := fun w' => w'.cell? ⟨gb1, 0, none⟩ = some (.slice A0_0 l0_0.length c0_0) ∧ w'.cell? ⟨gb7, 0, none⟩ = some (.slice A1_0 l1_0.length c1_0) ∧ w'.cell? ⟨gb95, 0, none⟩ = some (.slice Ao96 r0.length co97) ∧ w'.cell? ⟨gb114, 0, none⟩ = some (.slice Ao110 l0_0.length co111) ∧ w'.cell? ⟨gb129, 0, none⟩ = some (.slice Ao125 l1_0.length co126) ∧ w'.cell? ⟨gb145, 0, none⟩ = some (.slice Ao141 r0.length co142)) (ds := []) #[false, false, false, false, false] (by kernel_rfl) rfl rfl ⟨(blk_cell BK3.out 0).trans rfl, (blk_cell BK9.out 0).trans rfl, (blk_cell BK93.out 0).trans rfl, (blk_cell BK116.out 0).trans rfl, (blk_cell BK131.out 0).trans rfl, (blk_cell BK147.out 0).trans rfl⟩ (fun hHeld => ?_)
  have Z169 : Aside0 (w165.heap.size ≤ w165.drew.heap.size) := Aside0.mk (Nat.le_refl _)
  have n0_ := Aside0.mk (below_drew HB.out)
  have n1_ := Aside0.mk (blk_drew BK3.out)
  have n2_ := Aside0.mk (blk_drew BK9.out)
  have n3_ := Aside0.mk (Kd.S_drew F92.out)
  have n4_ := Aside0.mk (blk_drew BK93.out)
  have n5_ := Aside0.mk (Kd.S_drew F112.out)
  have n6_ := Aside0.mk (blk_drew BK116.out)
  have n7_ := Aside0.mk (Kd.S_drew F127.out)
  have n8_ := Aside0.mk (blk_drew BK131.out)
  have n9_ := Aside0.mk (Kd.S_drew F143.out)
  have n10_ := Aside0.mk (blk_drew BK147.out)
  have n11_ := Aside0.mk (Kd.S_drew F163.out)
  clear HB BK3 BK9 F92 BK93 F112 BK116 F127 BK131 F143 BK147 F163
  have HB := n0_
  have BK3 := n1_
  have BK9 := n2_
  have F92 := n3_
  have BK93 := n4_
  have F112 := n5_
  have BK116 := n6_
  have F127 := n7_
  have BK131 := n8_
  have F143 := n9_
  have BK147 := n10_
  have F163 := n11_
  clear n0_ n1_ n2_ n3_ n4_ n5_ n6_ n7_ n8_ n9_ n10_ n11_
  generalize w165.drew = w168 at HB BK3 BK9 F92 BK93 F112 BK116 F127 BK131 F143 BK147 F163 Z169 hHeld ⊢
  refine take_ (i := 0) (N := some 59) (v := ?_) (a' := ?_) #[true, false, false, false, false] rfl rfl (by kernel_rfl) (fun _ _ _ h => h) (Or.inl ⟨by rfl, ?_⟩) hHeld ?_ ?_
  rotate_left
  · rintro w' ⟨s0_, s1_, s2_, s3_, s4_, s5_⟩
    go_simp
    with_reducible rfl
  rotate_left
  · simp only [Act.put, List.setIfInBounds_toArray, List.set_cons_zero, List.set_cons_succ, i64_w, i32_w]
    rfl
  refine take_ (i := 1) (N := some 60) (v := ?_) (a' := ?_) #[true, true, false, false, false] rfl rfl (by kernel_rfl) (fun _ _ _ h => h) (Or.inl ⟨by rfl, ?_⟩) hHeld ?_ ?_
  rotate_left
  · rintro w' ⟨s0_, s1_, s2_, s3_, s4_, s5_⟩
    go_simp
    with_reducible rfl
  rotate_left
  · simp only [Act.put, List.setIfInBounds_toArray, List.set_cons_zero, List.set_cons_succ, i64_w, i32_w]
    rfl
  refine one_ (i := 2) (N := some 61) #[true, true, true, false, false] rfl rfl (by kernel_rfl) (by decide) (fun K hK => ?_)
  refine goes_ Try.func10 (by kernel_rfl) rfl #[.agg #[.slice A1_0 l1_0.length c1_0]] (by rfl) rfl rfl (by (try simp only [List.map_toArray, List.map_cons, List.map_nil]); first | done | rfl) ?_
  with_reducible refine (laws_toGame.calls k _ _ l1_0 l1_0 _ ?side1 ?side2 E_laws_toGame_30.out).mono ?_
  (case side1 => exact Kd.C_below HR1_0.out HB.out)
  (case side2 => exact HC1_0.out)
  rintro e w170 ⟨v171, rfl, ho172, hb⟩
  refine ⟨_, rfl, ?_⟩
  obtain ⟨Ao173, co174, e_Ao173⟩ := Kd.S_slice ho172
  subst e_Ao173
  have F175 := Aside0.mk (S_ivl ho172 HB.out.size)
  have Z176 : Aside0 (w168.heap.size ≤ w170.heap.size) := Aside0.mk (hb.size)
  have n0_ := Aside0.mk (below_then HB.out HB.out.size hb)
  have n1_ := Aside0.mk (blk_below (g := gb1) (o := .cells #[.slice A0_0 l0_0.length c0_0] 24 (0, 0)) BK3.out hb)
  have n2_ := Aside0.mk (blk_below (g := gb7) (o := .cells #[.slice A1_0 l1_0.length c1_0] 24 (0, 0)) BK9.out hb)
  have n3_ := Aside0.mk (Kd.S_below F92.out hb)
  have n4_ := Aside0.mk (blk_below (g := gb95) (o := .cells #[.slice Ao96 r0.length co97] 26 (0, 0)) BK93.out hb)
  have n5_ := Aside0.mk (Kd.S_below F112.out hb)
  have n6_ := Aside0.mk (blk_below (g := gb114) (o := .cells #[.slice Ao110 l0_0.length co111] 26 (0, 0)) BK116.out hb)
  have n7_ := Aside0.mk (Kd.S_below F127.out hb)
  have n8_ := Aside0.mk (blk_below (g := gb129) (o := .cells #[.slice Ao125 l1_0.length co126] 26 (0, 0)) BK131.out hb)
  have n9_ := Aside0.mk (Kd.S_below F143.out hb)
  have n10_ := Aside0.mk (blk_below (g := gb145) (o := .cells #[.slice Ao141 r0.length co142] 26 (0, 0)) BK147.out hb)
  have n11_ := Aside0.mk (Kd.S_below F163.out hb)
  clear HB BK3 BK9 F92 BK93 F112 BK116 F127 BK131 F143 BK147 F163
  have HB := n0_
  have BK3 := n1_
  have BK9 := n2_
  have F92 := n3_
  have BK93 := n4_
  have F112 := n5_
  have BK116 := n6_
  have F127 := n7_
  have BK131 := n8_
  have F143 := n9_
  have BK147 := n10_
  have F163 := n11_
  clear n0_ n1_ n2_ n3_ n4_ n5_ n6_ n7_ n8_ n9_ n10_ n11_
  (try clear hb ho172)
  refine hK.out _ _ ⟨(blk_cell BK3.out 0).trans rfl, (blk_cell BK9.out 0).trans rfl, (blk_cell BK93.out 0).trans rfl, (blk_cell BK116.out 0).trans rfl, (blk_cell BK131.out 0).trans rfl, (blk_cell BK147.out 0).trans rfl⟩ (fun hHeld => ?_)
  clear hK K
  refine norm_ (a' := ?_) ?_ ?_
  rotate_left
  · show Act.put _ (some 61) _ = _
    simp only [Act.put, List.setIfInBounds_toArray, List.set_cons_zero, List.set_cons_succ, i64_w, i32_w]
    rfl
  refine one_ (i := 3) (N := some 62) #[true, true, true, true, false] rfl rfl (by kernel_rfl) (by decide) (fun K hK => ?_)
  refine goes_ Try.func12 (by kernel_rfl) rfl #[.agg #[.slice Ao125 l1_0.length co126], .agg #[.slice Ao173 l1_0.length co174]] (by rfl) rfl rfl (by (try simp only [List.map_toArray, List.map_cons, List.map_nil]); first | done | rfl) ?_
  with_reducible refine (laws_eqGame.calls k _ _ l1_0 _ _ l1_0 true _ ?side1 ?side2 ?side3 ?side4 E_laws_eqGame_178.out).mono ?_
  (case side1 => exact (Kd.S_reads' F127.out).2.2)
  (case side2 => exact (Kd.S_reads' F127.out).2.1)
  (case side3 => exact (Kd.S_reads' F175.out).2.2)
  (case side4 => exact (Kd.S_reads' F175.out).2.1)
  rintro e w177 ⟨rfl, hb⟩
  refine ⟨_, rfl, ?_⟩
  have Z179 : Aside0 (w170.heap.size ≤ w177.heap.size) := Aside0.mk (hb.size)
  have n0_ := Aside0.mk (below_then HB.out HB.out.size hb)
  have n1_ := Aside0.mk (blk_below (g := gb1) (o := .cells #[.slice A0_0 l0_0.length c0_0] 24 (0, 0)) BK3.out hb)
  have n2_ := Aside0.mk (blk_below (g := gb7) (o := .cells #[.slice A1_0 l1_0.length c1_0] 24 (0, 0)) BK9.out hb)
  have n3_ := Aside0.mk (Kd.S_below F92.out hb)
  have n4_ := Aside0.mk (blk_below (g := gb95) (o := .cells #[.slice Ao96 r0.length co97] 26 (0, 0)) BK93.out hb)
  have n5_ := Aside0.mk (Kd.S_below F112.out hb)
  have n6_ := Aside0.mk (blk_below (g := gb114) (o := .cells #[.slice Ao110 l0_0.length co111] 26 (0, 0)) BK116.out hb)
  have n7_ := Aside0.mk (Kd.S_below F127.out hb)
  have n8_ := Aside0.mk (blk_below (g := gb129) (o := .cells #[.slice Ao125 l1_0.length co126] 26 (0, 0)) BK131.out hb)
  have n9_ := Aside0.mk (Kd.S_below F143.out hb)
  have n10_ := Aside0.mk (blk_below (g := gb145) (o := .cells #[.slice Ao141 r0.length co142] 26 (0, 0)) BK147.out hb)
  have n11_ := Aside0.mk (Kd.S_below F163.out hb)
  have n12_ := Aside0.mk (Kd.S_below F175.out hb)
  clear HB BK3 BK9 F92 BK93 F112 BK116 F127 BK131 F143 BK147 F163 F175
  have HB := n0_
  have BK3 := n1_
  have BK9 := n2_
  have F92 := n3_
  have BK93 := n4_
  have F112 := n5_
  have BK116 := n6_
  have F127 := n7_
  have BK131 := n8_
  have F143 := n9_
  have BK147 := n10_
  have F163 := n11_
  have F175 := n12_
  clear n0_ n1_ n2_ n3_ n4_ n5_ n6_ n7_ n8_ n9_ n10_ n11_ n12_
  (try clear hb)
  refine hK.out _ _ ⟨(blk_cell BK3.out 0).trans rfl, (blk_cell BK9.out 0).trans rfl, (blk_cell BK93.out 0).trans rfl, (blk_cell BK116.out 0).trans rfl, (blk_cell BK131.out 0).trans rfl, (blk_cell BK147.out 0).trans rfl⟩ (fun hHeld => ?_)
  clear hK K
  refine norm_ (a' := ?_) ?_ ?_
  rotate_left
  · show Act.put _ (some 62) _ = _
    simp only [Act.put, List.setIfInBounds_toArray, List.set_cons_zero, List.set_cons_succ, i64_w, i32_w]
    rfl
  refine pure_ (i := 4) (N := some 63) (v := ?_) (a' := ?_) #[true, true, true, true, true] rfl rfl (by kernel_rfl) (fun _ _ _ h => h) (Or.inl ⟨by rfl, ?_⟩) ?_ ?_
  rotate_left
  · intro w'
    go_simp
    with_reducible rfl
  rotate_left
  · simp only [Act.put, List.setIfInBounds_toArray, List.set_cons_zero, List.set_cons_succ, i64_w, i32_w]
    rfl
  refine done_ (by kernel_rfl) ?_
  (try clear hz_gb1_0)
  have hz_gb1_0 : w177.cell? ⟨gb1, 0, none⟩ = some (.slice A0_0 l0_0.length c0_0) := (blk_cell BK3.out 0).trans rfl
  (try clear hf_gb1_0)
  have hf_gb1_0 := blk_frozen BK3.out 0
  (try clear hz_gb7_0)
  have hz_gb7_0 : w177.cell? ⟨gb7, 0, none⟩ = some (.slice A1_0 l1_0.length c1_0) := (blk_cell BK9.out 0).trans rfl
  (try clear hf_gb7_0)
  have hf_gb7_0 := blk_frozen BK9.out 0
  (try clear hz_gb95_0)
  have hz_gb95_0 : w177.cell? ⟨gb95, 0, none⟩ = some (.slice Ao96 r0.length co97) := (blk_cell BK93.out 0).trans rfl
  (try clear hf_gb95_0)
  have hf_gb95_0 := blk_frozen BK93.out 0
  (try clear hz_gb114_0)
  have hz_gb114_0 : w177.cell? ⟨gb114, 0, none⟩ = some (.slice Ao110 l0_0.length co111) := (blk_cell BK116.out 0).trans rfl
  (try clear hf_gb114_0)
  have hf_gb114_0 := blk_frozen BK116.out 0
  (try clear hz_gb129_0)
  have hz_gb129_0 : w177.cell? ⟨gb129, 0, none⟩ = some (.slice Ao125 l1_0.length co126) := (blk_cell BK131.out 0).trans rfl
  (try clear hf_gb129_0)
  have hf_gb129_0 := blk_frozen BK131.out 0
  (try clear hz_gb145_0)
  have hz_gb145_0 : w177.cell? ⟨gb145, 0, none⟩ = some (.slice Ao141 r0.length co142) := (blk_cell BK147.out 0).trans rfl
  (try clear hf_gb145_0)
  have hf_gb145_0 := blk_frozen BK147.out 0
  go_wp2_with (first | ((with_reducible refine gate_dst (N := 66) rfl ?_); (try (refine gate_guard (by rfl) ?_; dsimp only)); refine goesL_ (some 66) rfl rfl Try.func13 (by kernel_rfl) rfl #[.agg #[.slice Ao110 l0_0.length co111], .int .i64 1] rfl (by (try simp only [List.map_toArray, List.map_cons, List.map_nil]); first | done | rfl) ?_; (with_reducible refine (laws_markGame.calls (Ivl w105.heap.size w107.heap.size) _ _ _ l0_0 1 w _ HB.out F112.out (by decide) HM1_F112.out HM2_F112.out).mono ?_); rintro e w180 ⟨rfl, hs, hB, hk⟩; refine ⟨_, rfl, ?_⟩; rw [tm0_eq.out]; have Z181 : Aside0 (w177.heap.size ≤ w180.heap.size) := Aside0.mk (hk.1); have n0_ := Aside0.mk (hB); have n1_ := Aside0.mk (blk_kept BK3.out hk (fun h_ => by have z0_ := Z5.out; have z1_ := Z6.out; have z2_ := Z11.out; have z3_ := Z12.out; have z4_ := Z15.out; have z5_ := Z18.out; have z6_ := Z20.out; have z7_ := Z100.out; have z8_ := Z101.out; have z9_ := Z102.out; have z10_ := Z103.out; have z11_ := Z104.out; have z12_ := Z106.out; have z13_ := Z113.out; have z14_ := Z118.out; have z15_ := Z119.out; have z16_ := Z121.out; have z17_ := Z128.out; have z18_ := Z133.out; have z19_ := Z134.out; have z20_ := Z136.out; have z21_ := Z144.out; have z22_ := Z149.out; have z23_ := Z150.out; have z24_ := Z152.out; have z25_ := Z155.out; have z26_ := Z157.out; have z27_ := Z164.out; have z28_ := Z167.out; have z29_ := Z169.out; have z30_ := Z176.out; have z31_ := Z179.out; have g_ := GP4.out; unfold Ivl at h_; omega)); have n2_ := Aside0.mk (blk_kept BK9.out hk (fun h_ => by have z0_ := Z5.out; have z1_ := Z6.out; have z2_ := Z11.out; have z3_ := Z12.out; have z4_ := Z15.out; have z5_ := Z18.out; have z6_ := Z20.out; have z7_ := Z100.out; have z8_ := Z101.out; have z9_ := Z102.out; have z10_ := Z103.out; have z11_ := Z104.out; have z12_ := Z106.out; have z13_ := Z113.out; have z14_ := Z118.out; have z15_ := Z119.out; have z16_ := Z121.out; have z17_ := Z128.out; have z18_ := Z133.out; have z19_ := Z134.out; have z20_ := Z136.out; have z21_ := Z144.out; have z22_ := Z149.out; have z23_ := Z150.out; have z24_ := Z152.out; have z25_ := Z155.out; have z26_ := Z157.out; have z27_ := Z164.out; have z28_ := Z167.out; have z29_ := Z169.out; have z30_ := Z176.out; have z31_ := Z179.out; have g_ := GP10.out; unfold Ivl at h_; omega)); have n3_ := Aside0.mk (Kd.S_kept F92.out hk (fun k_ h1_ h2_ => by have z0_ := Z5.out; have z1_ := Z6.out; have z2_ := Z11.out; have z3_ := Z12.out; have z4_ := Z15.out; have z5_ := Z18.out; have z6_ := Z20.out; have z7_ := Z100.out; have z8_ := Z101.out; have z9_ := Z102.out; have z10_ := Z103.out; have z11_ := Z104.out; have z12_ := Z106.out; have z13_ := Z113.out; have z14_ := Z118.out; have z15_ := Z119.out; have z16_ := Z121.out; have z17_ := Z128.out; have z18_ := Z133.out; have z19_ := Z134.out; have z20_ := Z136.out; have z21_ := Z144.out; have z22_ := Z149.out; have z23_ := Z150.out; have z24_ := Z152.out; have z25_ := Z155.out; have z26_ := Z157.out; have z27_ := Z164.out; have z28_ := Z167.out; have z29_ := Z169.out; have z30_ := Z176.out; have z31_ := Z179.out; unfold Ivl at h1_ h2_; omega)); have n4_ := Aside0.mk (blk_kept BK93.out hk (fun h_ => by have z0_ := Z5.out; have z1_ := Z6.out; have z2_ := Z11.out; have z3_ := Z12.out; have z4_ := Z15.out; have z5_ := Z18.out; have z6_ := Z20.out; have z7_ := Z100.out; have z8_ := Z101.out; have z9_ := Z102.out; have z10_ := Z103.out; have z11_ := Z104.out; have z12_ := Z106.out; have z13_ := Z113.out; have z14_ := Z118.out; have z15_ := Z119.out; have z16_ := Z121.out; have z17_ := Z128.out; have z18_ := Z133.out; have z19_ := Z134.out; have z20_ := Z136.out; have z21_ := Z144.out; have z22_ := Z149.out; have z23_ := Z150.out; have z24_ := Z152.out; have z25_ := Z155.out; have z26_ := Z157.out; have z27_ := Z164.out; have z28_ := Z167.out; have z29_ := Z169.out; have z30_ := Z176.out; have z31_ := Z179.out; have g_ := GP94.out; unfold Ivl at h_; omega)); have n5_ := Aside0.mk (blk_kept BK116.out hk (fun h_ => by have z0_ := Z5.out; have z1_ := Z6.out; have z2_ := Z11.out; have z3_ := Z12.out; have z4_ := Z15.out; have z5_ := Z18.out; have z6_ := Z20.out; have z7_ := Z100.out; have z8_ := Z101.out; have z9_ := Z102.out; have z10_ := Z103.out; have z11_ := Z104.out; have z12_ := Z106.out; have z13_ := Z113.out; have z14_ := Z118.out; have z15_ := Z119.out; have z16_ := Z121.out; have z17_ := Z128.out; have z18_ := Z133.out; have z19_ := Z134.out; have z20_ := Z136.out; have z21_ := Z144.out; have z22_ := Z149.out; have z23_ := Z150.out; have z24_ := Z152.out; have z25_ := Z155.out; have z26_ := Z157.out; have z27_ := Z164.out; have z28_ := Z167.out; have z29_ := Z169.out; have z30_ := Z176.out; have z31_ := Z179.out; have g_ := GP117.out; unfold Ivl at h_; omega)); have n6_ := Aside0.mk (Kd.S_kept F127.out hk (fun k_ h1_ h2_ => by have z0_ := Z5.out; have z1_ := Z6.out; have z2_ := Z11.out; have z3_ := Z12.out; have z4_ := Z15.out; have z5_ := Z18.out; have z6_ := Z20.out; have z7_ := Z100.out; have z8_ := Z101.out; have z9_ := Z102.out; have z10_ := Z103.out; have z11_ := Z104.out; have z12_ := Z106.out; have z13_ := Z113.out; have z14_ := Z118.out; have z15_ := Z119.out; have z16_ := Z121.out; have z17_ := Z128.out; have z18_ := Z133.out; have z19_ := Z134.out; have z20_ := Z136.out; have z21_ := Z144.out; have z22_ := Z149.out; have z23_ := Z150.out; have z24_ := Z152.out; have z25_ := Z155.out; have z26_ := Z157.out; have z27_ := Z164.out; have z28_ := Z167.out; have z29_ := Z169.out; have z30_ := Z176.out; have z31_ := Z179.out; unfold Ivl at h1_ h2_; omega)); have n7_ := Aside0.mk (blk_kept BK131.out hk (fun h_ => by have z0_ := Z5.out; have z1_ := Z6.out; have z2_ := Z11.out; have z3_ := Z12.out; have z4_ := Z15.out; have z5_ := Z18.out; have z6_ := Z20.out; have z7_ := Z100.out; have z8_ := Z101.out; have z9_ := Z102.out; have z10_ := Z103.out; have z11_ := Z104.out; have z12_ := Z106.out; have z13_ := Z113.out; have z14_ := Z118.out; have z15_ := Z119.out; have z16_ := Z121.out; have z17_ := Z128.out; have z18_ := Z133.out; have z19_ := Z134.out; have z20_ := Z136.out; have z21_ := Z144.out; have z22_ := Z149.out; have z23_ := Z150.out; have z24_ := Z152.out; have z25_ := Z155.out; have z26_ := Z157.out; have z27_ := Z164.out; have z28_ := Z167.out; have z29_ := Z169.out; have z30_ := Z176.out; have z31_ := Z179.out; have g_ := GP132.out; unfold Ivl at h_; omega)); have n8_ := Aside0.mk (Kd.S_kept F143.out hk (fun k_ h1_ h2_ => by have z0_ := Z5.out; have z1_ := Z6.out; have z2_ := Z11.out; have z3_ := Z12.out; have z4_ := Z15.out; have z5_ := Z18.out; have z6_ := Z20.out; have z7_ := Z100.out; have z8_ := Z101.out; have z9_ := Z102.out; have z10_ := Z103.out; have z11_ := Z104.out; have z12_ := Z106.out; have z13_ := Z113.out; have z14_ := Z118.out; have z15_ := Z119.out; have z16_ := Z121.out; have z17_ := Z128.out; have z18_ := Z133.out; have z19_ := Z134.out; have z20_ := Z136.out; have z21_ := Z144.out; have z22_ := Z149.out; have z23_ := Z150.out; have z24_ := Z152.out; have z25_ := Z155.out; have z26_ := Z157.out; have z27_ := Z164.out; have z28_ := Z167.out; have z29_ := Z169.out; have z30_ := Z176.out; have z31_ := Z179.out; unfold Ivl at h1_ h2_; omega)); have n9_ := Aside0.mk (blk_kept BK147.out hk (fun h_ => by have z0_ := Z5.out; have z1_ := Z6.out; have z2_ := Z11.out; have z3_ := Z12.out; have z4_ := Z15.out; have z5_ := Z18.out; have z6_ := Z20.out; have z7_ := Z100.out; have z8_ := Z101.out; have z9_ := Z102.out; have z10_ := Z103.out; have z11_ := Z104.out; have z12_ := Z106.out; have z13_ := Z113.out; have z14_ := Z118.out; have z15_ := Z119.out; have z16_ := Z121.out; have z17_ := Z128.out; have z18_ := Z133.out; have z19_ := Z134.out; have z20_ := Z136.out; have z21_ := Z144.out; have z22_ := Z149.out; have z23_ := Z150.out; have z24_ := Z152.out; have z25_ := Z155.out; have z26_ := Z157.out; have z27_ := Z164.out; have z28_ := Z167.out; have z29_ := Z169.out; have z30_ := Z176.out; have z31_ := Z179.out; have g_ := GP148.out; unfold Ivl at h_; omega)); have n10_ := Aside0.mk (Kd.S_kept F163.out hk (fun k_ h1_ h2_ => by have z0_ := Z5.out; have z1_ := Z6.out; have z2_ := Z11.out; have z3_ := Z12.out; have z4_ := Z15.out; have z5_ := Z18.out; have z6_ := Z20.out; have z7_ := Z100.out; have z8_ := Z101.out; have z9_ := Z102.out; have z10_ := Z103.out; have z11_ := Z104.out; have z12_ := Z106.out; have z13_ := Z113.out; have z14_ := Z118.out; have z15_ := Z119.out; have z16_ := Z121.out; have z17_ := Z128.out; have z18_ := Z133.out; have z19_ := Z134.out; have z20_ := Z136.out; have z21_ := Z144.out; have z22_ := Z149.out; have z23_ := Z150.out; have z24_ := Z152.out; have z25_ := Z155.out; have z26_ := Z157.out; have z27_ := Z164.out; have z28_ := Z167.out; have z29_ := Z169.out; have z30_ := Z176.out; have z31_ := Z179.out; unfold Ivl at h1_ h2_; omega)); have n11_ := Aside0.mk (Kd.S_kept F175.out hk (fun k_ h1_ h2_ => by have z0_ := Z5.out; have z1_ := Z6.out; have z2_ := Z11.out; have z3_ := Z12.out; have z4_ := Z15.out; have z5_ := Z18.out; have z6_ := Z20.out; have z7_ := Z100.out; have z8_ := Z101.out; have z9_ := Z102.out; have z10_ := Z103.out; have z11_ := Z104.out; have z12_ := Z106.out; have z13_ := Z113.out; have z14_ := Z118.out; have z15_ := Z119.out; have z16_ := Z121.out; have z17_ := Z128.out; have z18_ := Z133.out; have z19_ := Z134.out; have z20_ := Z136.out; have z21_ := Z144.out; have z22_ := Z149.out; have z23_ := Z150.out; have z24_ := Z152.out; have z25_ := Z155.out; have z26_ := Z157.out; have z27_ := Z164.out; have z28_ := Z167.out; have z29_ := Z169.out; have z30_ := Z176.out; have z31_ := Z179.out; unfold Ivl at h1_ h2_; omega)); have n12_ := Aside0.mk (hs); clear HB BK3 BK9 F92 BK93 BK116 F127 BK131 F143 BK147 F163 F175 F112; have HB := n0_; have BK3 := n1_; have BK9 := n2_; have F92 := n3_; have BK93 := n4_; have BK116 := n5_; have F127 := n6_; have BK131 := n7_; have F143 := n8_; have BK147 := n9_; have F163 := n10_; have F175 := n11_; have F112 := n12_; clear n0_ n1_ n2_ n3_ n4_ n5_ n6_ n7_ n8_ n9_ n10_ n11_ n12_; (try clear hs hB hk); (try clear hz_gb1_0); have hz_gb1_0 : w180.cell? ⟨gb1, 0, none⟩ = some (.slice A0_0 l0_0.length c0_0) := (blk_cell BK3.out 0).trans rfl; (try clear hf_gb1_0); have hf_gb1_0 := blk_frozen BK3.out 0; (try clear hz_gb7_0); have hz_gb7_0 : w180.cell? ⟨gb7, 0, none⟩ = some (.slice A1_0 l1_0.length c1_0) := (blk_cell BK9.out 0).trans rfl; (try clear hf_gb7_0); have hf_gb7_0 := blk_frozen BK9.out 0; (try clear hz_gb95_0); have hz_gb95_0 : w180.cell? ⟨gb95, 0, none⟩ = some (.slice Ao96 r0.length co97) := (blk_cell BK93.out 0).trans rfl; (try clear hf_gb95_0); have hf_gb95_0 := blk_frozen BK93.out 0; (try clear hz_gb114_0); have hz_gb114_0 : w180.cell? ⟨gb114, 0, none⟩ = some (.slice Ao110 l0_0.length co111) := (blk_cell BK116.out 0).trans rfl; (try clear hf_gb114_0); have hf_gb114_0 := blk_frozen BK116.out 0; (try clear hz_gb129_0); have hz_gb129_0 : w180.cell? ⟨gb129, 0, none⟩ = some (.slice Ao125 l1_0.length co126) := (blk_cell BK131.out 0).trans rfl; (try clear hf_gb129_0); have hf_gb129_0 := blk_frozen BK131.out 0; (try clear hz_gb145_0); have hz_gb145_0 : w180.cell? ⟨gb145, 0, none⟩ = some (.slice Ao141 r0.length co142) := (blk_cell BK147.out 0).trans rfl; (try clear hf_gb145_0); have hf_gb145_0 := blk_frozen BK147.out 0) | ((with_reducible refine gate_dst (N := 69) rfl ?_); (try (refine gate_guard (by rfl) ?_; dsimp only)); refine goesL_ (some 69) rfl rfl Try.func13 (by kernel_rfl) rfl #[.agg #[.slice Ao125 l1_0.length co126], .int .i64 tm0] rfl (by (try simp only [List.map_toArray, List.map_cons, List.map_nil]); first | done | rfl) ?_; (with_reducible refine (laws_markGame.calls (Ivl w120.heap.size w122.heap.size) _ _ _ l1_0 tm0 w _ HB.out F127.out (by have q_ := of_decide_eq_false D_tm0; omega) HM1_F127.out HM2_F127.out).mono ?_); rintro e w182 ⟨rfl, hs, hB, hk⟩; refine ⟨_, rfl, ?_⟩; rw [tm1_eq.out]; have Z183 : Aside0 (w180.heap.size ≤ w182.heap.size) := Aside0.mk (hk.1); have n0_ := Aside0.mk (hB); have n1_ := Aside0.mk (blk_kept BK3.out hk (fun h_ => by have z0_ := Z5.out; have z1_ := Z6.out; have z2_ := Z11.out; have z3_ := Z12.out; have z4_ := Z15.out; have z5_ := Z18.out; have z6_ := Z20.out; have z7_ := Z100.out; have z8_ := Z101.out; have z9_ := Z102.out; have z10_ := Z103.out; have z11_ := Z104.out; have z12_ := Z106.out; have z13_ := Z113.out; have z14_ := Z118.out; have z15_ := Z119.out; have z16_ := Z121.out; have z17_ := Z128.out; have z18_ := Z133.out; have z19_ := Z134.out; have z20_ := Z136.out; have z21_ := Z144.out; have z22_ := Z149.out; have z23_ := Z150.out; have z24_ := Z152.out; have z25_ := Z155.out; have z26_ := Z157.out; have z27_ := Z164.out; have z28_ := Z167.out; have z29_ := Z169.out; have z30_ := Z176.out; have z31_ := Z179.out; have z32_ := Z181.out; have g_ := GP4.out; unfold Ivl at h_; omega)); have n2_ := Aside0.mk (blk_kept BK9.out hk (fun h_ => by have z0_ := Z5.out; have z1_ := Z6.out; have z2_ := Z11.out; have z3_ := Z12.out; have z4_ := Z15.out; have z5_ := Z18.out; have z6_ := Z20.out; have z7_ := Z100.out; have z8_ := Z101.out; have z9_ := Z102.out; have z10_ := Z103.out; have z11_ := Z104.out; have z12_ := Z106.out; have z13_ := Z113.out; have z14_ := Z118.out; have z15_ := Z119.out; have z16_ := Z121.out; have z17_ := Z128.out; have z18_ := Z133.out; have z19_ := Z134.out; have z20_ := Z136.out; have z21_ := Z144.out; have z22_ := Z149.out; have z23_ := Z150.out; have z24_ := Z152.out; have z25_ := Z155.out; have z26_ := Z157.out; have z27_ := Z164.out; have z28_ := Z167.out; have z29_ := Z169.out; have z30_ := Z176.out; have z31_ := Z179.out; have z32_ := Z181.out; have g_ := GP10.out; unfold Ivl at h_; omega)); have n3_ := Aside0.mk (Kd.S_kept F92.out hk (fun k_ h1_ h2_ => by have z0_ := Z5.out; have z1_ := Z6.out; have z2_ := Z11.out; have z3_ := Z12.out; have z4_ := Z15.out; have z5_ := Z18.out; have z6_ := Z20.out; have z7_ := Z100.out; have z8_ := Z101.out; have z9_ := Z102.out; have z10_ := Z103.out; have z11_ := Z104.out; have z12_ := Z106.out; have z13_ := Z113.out; have z14_ := Z118.out; have z15_ := Z119.out; have z16_ := Z121.out; have z17_ := Z128.out; have z18_ := Z133.out; have z19_ := Z134.out; have z20_ := Z136.out; have z21_ := Z144.out; have z22_ := Z149.out; have z23_ := Z150.out; have z24_ := Z152.out; have z25_ := Z155.out; have z26_ := Z157.out; have z27_ := Z164.out; have z28_ := Z167.out; have z29_ := Z169.out; have z30_ := Z176.out; have z31_ := Z179.out; have z32_ := Z181.out; unfold Ivl at h1_ h2_; omega)); have n4_ := Aside0.mk (blk_kept BK93.out hk (fun h_ => by have z0_ := Z5.out; have z1_ := Z6.out; have z2_ := Z11.out; have z3_ := Z12.out; have z4_ := Z15.out; have z5_ := Z18.out; have z6_ := Z20.out; have z7_ := Z100.out; have z8_ := Z101.out; have z9_ := Z102.out; have z10_ := Z103.out; have z11_ := Z104.out; have z12_ := Z106.out; have z13_ := Z113.out; have z14_ := Z118.out; have z15_ := Z119.out; have z16_ := Z121.out; have z17_ := Z128.out; have z18_ := Z133.out; have z19_ := Z134.out; have z20_ := Z136.out; have z21_ := Z144.out; have z22_ := Z149.out; have z23_ := Z150.out; have z24_ := Z152.out; have z25_ := Z155.out; have z26_ := Z157.out; have z27_ := Z164.out; have z28_ := Z167.out; have z29_ := Z169.out; have z30_ := Z176.out; have z31_ := Z179.out; have z32_ := Z181.out; have g_ := GP94.out; unfold Ivl at h_; omega)); have n5_ := Aside0.mk (Kd.S_kept F112.out hk (fun k_ h1_ h2_ => by have z0_ := Z5.out; have z1_ := Z6.out; have z2_ := Z11.out; have z3_ := Z12.out; have z4_ := Z15.out; have z5_ := Z18.out; have z6_ := Z20.out; have z7_ := Z100.out; have z8_ := Z101.out; have z9_ := Z102.out; have z10_ := Z103.out; have z11_ := Z104.out; have z12_ := Z106.out; have z13_ := Z113.out; have z14_ := Z118.out; have z15_ := Z119.out; have z16_ := Z121.out; have z17_ := Z128.out; have z18_ := Z133.out; have z19_ := Z134.out; have z20_ := Z136.out; have z21_ := Z144.out; have z22_ := Z149.out; have z23_ := Z150.out; have z24_ := Z152.out; have z25_ := Z155.out; have z26_ := Z157.out; have z27_ := Z164.out; have z28_ := Z167.out; have z29_ := Z169.out; have z30_ := Z176.out; have z31_ := Z179.out; have z32_ := Z181.out; unfold Ivl at h1_ h2_; omega)); have n6_ := Aside0.mk (blk_kept BK116.out hk (fun h_ => by have z0_ := Z5.out; have z1_ := Z6.out; have z2_ := Z11.out; have z3_ := Z12.out; have z4_ := Z15.out; have z5_ := Z18.out; have z6_ := Z20.out; have z7_ := Z100.out; have z8_ := Z101.out; have z9_ := Z102.out; have z10_ := Z103.out; have z11_ := Z104.out; have z12_ := Z106.out; have z13_ := Z113.out; have z14_ := Z118.out; have z15_ := Z119.out; have z16_ := Z121.out; have z17_ := Z128.out; have z18_ := Z133.out; have z19_ := Z134.out; have z20_ := Z136.out; have z21_ := Z144.out; have z22_ := Z149.out; have z23_ := Z150.out; have z24_ := Z152.out; have z25_ := Z155.out; have z26_ := Z157.out; have z27_ := Z164.out; have z28_ := Z167.out; have z29_ := Z169.out; have z30_ := Z176.out; have z31_ := Z179.out; have z32_ := Z181.out; have g_ := GP117.out; unfold Ivl at h_; omega)); have n7_ := Aside0.mk (blk_kept BK131.out hk (fun h_ => by have z0_ := Z5.out; have z1_ := Z6.out; have z2_ := Z11.out; have z3_ := Z12.out; have z4_ := Z15.out; have z5_ := Z18.out; have z6_ := Z20.out; have z7_ := Z100.out; have z8_ := Z101.out; have z9_ := Z102.out; have z10_ := Z103.out; have z11_ := Z104.out; have z12_ := Z106.out; have z13_ := Z113.out; have z14_ := Z118.out; have z15_ := Z119.out; have z16_ := Z121.out; have z17_ := Z128.out; have z18_ := Z133.out; have z19_ := Z134.out; have z20_ := Z136.out; have z21_ := Z144.out; have z22_ := Z149.out; have z23_ := Z150.out; have z24_ := Z152.out; have z25_ := Z155.out; have z26_ := Z157.out; have z27_ := Z164.out; have z28_ := Z167.out; have z29_ := Z169.out; have z30_ := Z176.out; have z31_ := Z179.out; have z32_ := Z181.out; have g_ := GP132.out; unfold Ivl at h_; omega)); have n8_ := Aside0.mk (Kd.S_kept F143.out hk (fun k_ h1_ h2_ => by have z0_ := Z5.out; have z1_ := Z6.out; have z2_ := Z11.out; have z3_ := Z12.out; have z4_ := Z15.out; have z5_ := Z18.out; have z6_ := Z20.out; have z7_ := Z100.out; have z8_ := Z101.out; have z9_ := Z102.out; have z10_ := Z103.out; have z11_ := Z104.out; have z12_ := Z106.out; have z13_ := Z113.out; have z14_ := Z118.out; have z15_ := Z119.out; have z16_ := Z121.out; have z17_ := Z128.out; have z18_ := Z133.out; have z19_ := Z134.out; have z20_ := Z136.out; have z21_ := Z144.out; have z22_ := Z149.out; have z23_ := Z150.out; have z24_ := Z152.out; have z25_ := Z155.out; have z26_ := Z157.out; have z27_ := Z164.out; have z28_ := Z167.out; have z29_ := Z169.out; have z30_ := Z176.out; have z31_ := Z179.out; have z32_ := Z181.out; unfold Ivl at h1_ h2_; omega)); have n9_ := Aside0.mk (blk_kept BK147.out hk (fun h_ => by have z0_ := Z5.out; have z1_ := Z6.out; have z2_ := Z11.out; have z3_ := Z12.out; have z4_ := Z15.out; have z5_ := Z18.out; have z6_ := Z20.out; have z7_ := Z100.out; have z8_ := Z101.out; have z9_ := Z102.out; have z10_ := Z103.out; have z11_ := Z104.out; have z12_ := Z106.out; have z13_ := Z113.out; have z14_ := Z118.out; have z15_ := Z119.out; have z16_ := Z121.out; have z17_ := Z128.out; have z18_ := Z133.out; have z19_ := Z134.out; have z20_ := Z136.out; have z21_ := Z144.out; have z22_ := Z149.out; have z23_ := Z150.out; have z24_ := Z152.out; have z25_ := Z155.out; have z26_ := Z157.out; have z27_ := Z164.out; have z28_ := Z167.out; have z29_ := Z169.out; have z30_ := Z176.out; have z31_ := Z179.out; have z32_ := Z181.out; have g_ := GP148.out; unfold Ivl at h_; omega)); have n10_ := Aside0.mk (Kd.S_kept F163.out hk (fun k_ h1_ h2_ => by have z0_ := Z5.out; have z1_ := Z6.out; have z2_ := Z11.out; have z3_ := Z12.out; have z4_ := Z15.out; have z5_ := Z18.out; have z6_ := Z20.out; have z7_ := Z100.out; have z8_ := Z101.out; have z9_ := Z102.out; have z10_ := Z103.out; have z11_ := Z104.out; have z12_ := Z106.out; have z13_ := Z113.out; have z14_ := Z118.out; have z15_ := Z119.out; have z16_ := Z121.out; have z17_ := Z128.out; have z18_ := Z133.out; have z19_ := Z134.out; have z20_ := Z136.out; have z21_ := Z144.out; have z22_ := Z149.out; have z23_ := Z150.out; have z24_ := Z152.out; have z25_ := Z155.out; have z26_ := Z157.out; have z27_ := Z164.out; have z28_ := Z167.out; have z29_ := Z169.out; have z30_ := Z176.out; have z31_ := Z179.out; have z32_ := Z181.out; unfold Ivl at h1_ h2_; omega)); have n11_ := Aside0.mk (Kd.S_kept F175.out hk (fun k_ h1_ h2_ => by have z0_ := Z5.out; have z1_ := Z6.out; have z2_ := Z11.out; have z3_ := Z12.out; have z4_ := Z15.out; have z5_ := Z18.out; have z6_ := Z20.out; have z7_ := Z100.out; have z8_ := Z101.out; have z9_ := Z102.out; have z10_ := Z103.out; have z11_ := Z104.out; have z12_ := Z106.out; have z13_ := Z113.out; have z14_ := Z118.out; have z15_ := Z119.out; have z16_ := Z121.out; have z17_ := Z128.out; have z18_ := Z133.out; have z19_ := Z134.out; have z20_ := Z136.out; have z21_ := Z144.out; have z22_ := Z149.out; have z23_ := Z150.out; have z24_ := Z152.out; have z25_ := Z155.out; have z26_ := Z157.out; have z27_ := Z164.out; have z28_ := Z167.out; have z29_ := Z169.out; have z30_ := Z176.out; have z31_ := Z179.out; have z32_ := Z181.out; unfold Ivl at h1_ h2_; omega)); have n12_ := Aside0.mk (hs); clear HB BK3 BK9 F92 BK93 F112 BK116 BK131 F143 BK147 F163 F175 F127; have HB := n0_; have BK3 := n1_; have BK9 := n2_; have F92 := n3_; have BK93 := n4_; have F112 := n5_; have BK116 := n6_; have BK131 := n7_; have F143 := n8_; have BK147 := n9_; have F163 := n10_; have F175 := n11_; have F127 := n12_; clear n0_ n1_ n2_ n3_ n4_ n5_ n6_ n7_ n8_ n9_ n10_ n11_ n12_; (try clear hs hB hk); (try clear hz_gb1_0); have hz_gb1_0 : w182.cell? ⟨gb1, 0, none⟩ = some (.slice A0_0 l0_0.length c0_0) := (blk_cell BK3.out 0).trans rfl; (try clear hf_gb1_0); have hf_gb1_0 := blk_frozen BK3.out 0; (try clear hz_gb7_0); have hz_gb7_0 : w182.cell? ⟨gb7, 0, none⟩ = some (.slice A1_0 l1_0.length c1_0) := (blk_cell BK9.out 0).trans rfl; (try clear hf_gb7_0); have hf_gb7_0 := blk_frozen BK9.out 0; (try clear hz_gb95_0); have hz_gb95_0 : w182.cell? ⟨gb95, 0, none⟩ = some (.slice Ao96 r0.length co97) := (blk_cell BK93.out 0).trans rfl; (try clear hf_gb95_0); have hf_gb95_0 := blk_frozen BK93.out 0; (try clear hz_gb114_0); have hz_gb114_0 : w182.cell? ⟨gb114, 0, none⟩ = some (.slice Ao110 l0_0.length co111) := (blk_cell BK116.out 0).trans rfl; (try clear hf_gb114_0); have hf_gb114_0 := blk_frozen BK116.out 0; (try clear hz_gb129_0); have hz_gb129_0 : w182.cell? ⟨gb129, 0, none⟩ = some (.slice Ao125 l1_0.length co126) := (blk_cell BK131.out 0).trans rfl; (try clear hf_gb129_0); have hf_gb129_0 := blk_frozen BK131.out 0; (try clear hz_gb145_0); have hz_gb145_0 : w182.cell? ⟨gb145, 0, none⟩ = some (.slice Ao141 r0.length co142) := (blk_cell BK147.out 0).trans rfl; (try clear hf_gb145_0); have hf_gb145_0 := blk_frozen BK147.out 0) | ((with_reducible refine gate_dst (N := 75) rfl ?_); (try (refine gate_guard (by rfl) ?_; dsimp only)); refine goesL_ (some 75) rfl rfl Try.func12 (by kernel_rfl) rfl #[.agg #[.slice Ao141 r0.length co142], .agg #[.slice Ao96 r0.length co97]] rfl (by (try simp only [List.map_toArray, List.map_cons, List.map_nil]); first | done | rfl) ?_; (with_reducible refine (laws_eqGame.calls k _ _ r0 _ _ r0 true _ ?side1 ?side2 ?side3 ?side4 E_laws_eqGame_154.out).mono ?_); (case side1 => exact (Kd.S_reads' F143.out).2.2); (case side2 => exact (Kd.S_reads' F143.out).2.1); (case side3 => exact (Kd.S_reads' F92.out).2.2); (case side4 => exact (Kd.S_reads' F92.out).2.1); rintro e w184 ⟨rfl, hb⟩; refine ⟨_, rfl, ?_⟩; have Z185 : Aside0 (w182.heap.size ≤ w184.heap.size) := Aside0.mk (hb.size); have n0_ := Aside0.mk (below_then HB.out HB.out.size hb); have n1_ := Aside0.mk (blk_below (g := gb1) (o := .cells #[.slice A0_0 l0_0.length c0_0] 24 (0, 0)) BK3.out hb); have n2_ := Aside0.mk (blk_below (g := gb7) (o := .cells #[.slice A1_0 l1_0.length c1_0] 24 (0, 0)) BK9.out hb); have n3_ := Aside0.mk (Kd.S_below F92.out hb); have n4_ := Aside0.mk (blk_below (g := gb95) (o := .cells #[.slice Ao96 r0.length co97] 26 (0, 0)) BK93.out hb); have n5_ := Aside0.mk (Kd.S_below F112.out hb); have n6_ := Aside0.mk (blk_below (g := gb114) (o := .cells #[.slice Ao110 l0_0.length co111] 26 (0, 0)) BK116.out hb); have n7_ := Aside0.mk (Kd.S_below F127.out hb); have n8_ := Aside0.mk (blk_below (g := gb129) (o := .cells #[.slice Ao125 l1_0.length co126] 26 (0, 0)) BK131.out hb); have n9_ := Aside0.mk (Kd.S_below F143.out hb); have n10_ := Aside0.mk (blk_below (g := gb145) (o := .cells #[.slice Ao141 r0.length co142] 26 (0, 0)) BK147.out hb); have n11_ := Aside0.mk (Kd.S_below F163.out hb); have n12_ := Aside0.mk (Kd.S_below F175.out hb); clear HB BK3 BK9 F92 BK93 F112 BK116 F127 BK131 F143 BK147 F163 F175; have HB := n0_; have BK3 := n1_; have BK9 := n2_; have F92 := n3_; have BK93 := n4_; have F112 := n5_; have BK116 := n6_; have F127 := n7_; have BK131 := n8_; have F143 := n9_; have BK147 := n10_; have F163 := n11_; have F175 := n12_; clear n0_ n1_ n2_ n3_ n4_ n5_ n6_ n7_ n8_ n9_ n10_ n11_ n12_; (try clear hb); (try clear hz_gb1_0); have hz_gb1_0 : w184.cell? ⟨gb1, 0, none⟩ = some (.slice A0_0 l0_0.length c0_0) := (blk_cell BK3.out 0).trans rfl; (try clear hf_gb1_0); have hf_gb1_0 := blk_frozen BK3.out 0; (try clear hz_gb7_0); have hz_gb7_0 : w184.cell? ⟨gb7, 0, none⟩ = some (.slice A1_0 l1_0.length c1_0) := (blk_cell BK9.out 0).trans rfl; (try clear hf_gb7_0); have hf_gb7_0 := blk_frozen BK9.out 0; (try clear hz_gb95_0); have hz_gb95_0 : w184.cell? ⟨gb95, 0, none⟩ = some (.slice Ao96 r0.length co97) := (blk_cell BK93.out 0).trans rfl; (try clear hf_gb95_0); have hf_gb95_0 := blk_frozen BK93.out 0; (try clear hz_gb114_0); have hz_gb114_0 : w184.cell? ⟨gb114, 0, none⟩ = some (.slice Ao110 l0_0.length co111) := (blk_cell BK116.out 0).trans rfl; (try clear hf_gb114_0); have hf_gb114_0 := blk_frozen BK116.out 0; (try clear hz_gb129_0); have hz_gb129_0 : w184.cell? ⟨gb129, 0, none⟩ = some (.slice Ao125 l1_0.length co126) := (blk_cell BK131.out 0).trans rfl; (try clear hf_gb129_0); have hf_gb129_0 := blk_frozen BK131.out 0; (try clear hz_gb145_0); have hz_gb145_0 : w184.cell? ⟨gb145, 0, none⟩ = some (.slice Ao141 r0.length co142) := (blk_cell BK147.out 0).trans rfl; (try clear hf_gb145_0); have hf_gb145_0 := blk_frozen BK147.out 0) | ((with_reducible refine gate_dst (N := 85) rfl ?_); (try (refine gate_guard (by rfl) ?_; dsimp only)); refine goesL_ (some 85) rfl rfl Try.func13 (by kernel_rfl) rfl #[.agg #[.slice Ao141 r0.length co142], .int .i64 1] rfl (by (try simp only [List.map_toArray, List.map_cons, List.map_nil]); first | done | rfl) ?_; (with_reducible refine (laws_markGame.calls (Ivl w135.heap.size w137.heap.size) _ _ _ r0 1 w _ HB.out F143.out (by decide) HM1_F143.out HM2_F143.out).mono ?_); rintro e w186 ⟨rfl, hs, hB, hk⟩; refine ⟨_, rfl, ?_⟩; rw [tm2_eq.out]; have Z187 : Aside0 (w184.heap.size ≤ w186.heap.size) := Aside0.mk (hk.1); have n0_ := Aside0.mk (hB); have n1_ := Aside0.mk (blk_kept BK3.out hk (fun h_ => by have z0_ := Z5.out; have z1_ := Z6.out; have z2_ := Z11.out; have z3_ := Z12.out; have z4_ := Z15.out; have z5_ := Z18.out; have z6_ := Z20.out; have z7_ := Z100.out; have z8_ := Z101.out; have z9_ := Z102.out; have z10_ := Z103.out; have z11_ := Z104.out; have z12_ := Z106.out; have z13_ := Z113.out; have z14_ := Z118.out; have z15_ := Z119.out; have z16_ := Z121.out; have z17_ := Z128.out; have z18_ := Z133.out; have z19_ := Z134.out; have z20_ := Z136.out; have z21_ := Z144.out; have z22_ := Z149.out; have z23_ := Z150.out; have z24_ := Z152.out; have z25_ := Z155.out; have z26_ := Z157.out; have z27_ := Z164.out; have z28_ := Z167.out; have z29_ := Z169.out; have z30_ := Z176.out; have z31_ := Z179.out; have z32_ := Z181.out; have z33_ := Z183.out; have z34_ := Z185.out; have g_ := GP4.out; unfold Ivl at h_; omega)); have n2_ := Aside0.mk (blk_kept BK9.out hk (fun h_ => by have z0_ := Z5.out; have z1_ := Z6.out; have z2_ := Z11.out; have z3_ := Z12.out; have z4_ := Z15.out; have z5_ := Z18.out; have z6_ := Z20.out; have z7_ := Z100.out; have z8_ := Z101.out; have z9_ := Z102.out; have z10_ := Z103.out; have z11_ := Z104.out; have z12_ := Z106.out; have z13_ := Z113.out; have z14_ := Z118.out; have z15_ := Z119.out; have z16_ := Z121.out; have z17_ := Z128.out; have z18_ := Z133.out; have z19_ := Z134.out; have z20_ := Z136.out; have z21_ := Z144.out; have z22_ := Z149.out; have z23_ := Z150.out; have z24_ := Z152.out; have z25_ := Z155.out; have z26_ := Z157.out; have z27_ := Z164.out; have z28_ := Z167.out; have z29_ := Z169.out; have z30_ := Z176.out; have z31_ := Z179.out; have z32_ := Z181.out; have z33_ := Z183.out; have z34_ := Z185.out; have g_ := GP10.out; unfold Ivl at h_; omega)); have n3_ := Aside0.mk (Kd.S_kept F92.out hk (fun k_ h1_ h2_ => by have z0_ := Z5.out; have z1_ := Z6.out; have z2_ := Z11.out; have z3_ := Z12.out; have z4_ := Z15.out; have z5_ := Z18.out; have z6_ := Z20.out; have z7_ := Z100.out; have z8_ := Z101.out; have z9_ := Z102.out; have z10_ := Z103.out; have z11_ := Z104.out; have z12_ := Z106.out; have z13_ := Z113.out; have z14_ := Z118.out; have z15_ := Z119.out; have z16_ := Z121.out; have z17_ := Z128.out; have z18_ := Z133.out; have z19_ := Z134.out; have z20_ := Z136.out; have z21_ := Z144.out; have z22_ := Z149.out; have z23_ := Z150.out; have z24_ := Z152.out; have z25_ := Z155.out; have z26_ := Z157.out; have z27_ := Z164.out; have z28_ := Z167.out; have z29_ := Z169.out; have z30_ := Z176.out; have z31_ := Z179.out; have z32_ := Z181.out; have z33_ := Z183.out; have z34_ := Z185.out; unfold Ivl at h1_ h2_; omega)); have n4_ := Aside0.mk (blk_kept BK93.out hk (fun h_ => by have z0_ := Z5.out; have z1_ := Z6.out; have z2_ := Z11.out; have z3_ := Z12.out; have z4_ := Z15.out; have z5_ := Z18.out; have z6_ := Z20.out; have z7_ := Z100.out; have z8_ := Z101.out; have z9_ := Z102.out; have z10_ := Z103.out; have z11_ := Z104.out; have z12_ := Z106.out; have z13_ := Z113.out; have z14_ := Z118.out; have z15_ := Z119.out; have z16_ := Z121.out; have z17_ := Z128.out; have z18_ := Z133.out; have z19_ := Z134.out; have z20_ := Z136.out; have z21_ := Z144.out; have z22_ := Z149.out; have z23_ := Z150.out; have z24_ := Z152.out; have z25_ := Z155.out; have z26_ := Z157.out; have z27_ := Z164.out; have z28_ := Z167.out; have z29_ := Z169.out; have z30_ := Z176.out; have z31_ := Z179.out; have z32_ := Z181.out; have z33_ := Z183.out; have z34_ := Z185.out; have g_ := GP94.out; unfold Ivl at h_; omega)); have n5_ := Aside0.mk (Kd.S_kept F112.out hk (fun k_ h1_ h2_ => by have z0_ := Z5.out; have z1_ := Z6.out; have z2_ := Z11.out; have z3_ := Z12.out; have z4_ := Z15.out; have z5_ := Z18.out; have z6_ := Z20.out; have z7_ := Z100.out; have z8_ := Z101.out; have z9_ := Z102.out; have z10_ := Z103.out; have z11_ := Z104.out; have z12_ := Z106.out; have z13_ := Z113.out; have z14_ := Z118.out; have z15_ := Z119.out; have z16_ := Z121.out; have z17_ := Z128.out; have z18_ := Z133.out; have z19_ := Z134.out; have z20_ := Z136.out; have z21_ := Z144.out; have z22_ := Z149.out; have z23_ := Z150.out; have z24_ := Z152.out; have z25_ := Z155.out; have z26_ := Z157.out; have z27_ := Z164.out; have z28_ := Z167.out; have z29_ := Z169.out; have z30_ := Z176.out; have z31_ := Z179.out; have z32_ := Z181.out; have z33_ := Z183.out; have z34_ := Z185.out; unfold Ivl at h1_ h2_; omega)); have n6_ := Aside0.mk (blk_kept BK116.out hk (fun h_ => by have z0_ := Z5.out; have z1_ := Z6.out; have z2_ := Z11.out; have z3_ := Z12.out; have z4_ := Z15.out; have z5_ := Z18.out; have z6_ := Z20.out; have z7_ := Z100.out; have z8_ := Z101.out; have z9_ := Z102.out; have z10_ := Z103.out; have z11_ := Z104.out; have z12_ := Z106.out; have z13_ := Z113.out; have z14_ := Z118.out; have z15_ := Z119.out; have z16_ := Z121.out; have z17_ := Z128.out; have z18_ := Z133.out; have z19_ := Z134.out; have z20_ := Z136.out; have z21_ := Z144.out; have z22_ := Z149.out; have z23_ := Z150.out; have z24_ := Z152.out; have z25_ := Z155.out; have z26_ := Z157.out; have z27_ := Z164.out; have z28_ := Z167.out; have z29_ := Z169.out; have z30_ := Z176.out; have z31_ := Z179.out; have z32_ := Z181.out; have z33_ := Z183.out; have z34_ := Z185.out; have g_ := GP117.out; unfold Ivl at h_; omega)); have n7_ := Aside0.mk (Kd.S_kept F127.out hk (fun k_ h1_ h2_ => by have z0_ := Z5.out; have z1_ := Z6.out; have z2_ := Z11.out; have z3_ := Z12.out; have z4_ := Z15.out; have z5_ := Z18.out; have z6_ := Z20.out; have z7_ := Z100.out; have z8_ := Z101.out; have z9_ := Z102.out; have z10_ := Z103.out; have z11_ := Z104.out; have z12_ := Z106.out; have z13_ := Z113.out; have z14_ := Z118.out; have z15_ := Z119.out; have z16_ := Z121.out; have z17_ := Z128.out; have z18_ := Z133.out; have z19_ := Z134.out; have z20_ := Z136.out; have z21_ := Z144.out; have z22_ := Z149.out; have z23_ := Z150.out; have z24_ := Z152.out; have z25_ := Z155.out; have z26_ := Z157.out; have z27_ := Z164.out; have z28_ := Z167.out; have z29_ := Z169.out; have z30_ := Z176.out; have z31_ := Z179.out; have z32_ := Z181.out; have z33_ := Z183.out; have z34_ := Z185.out; unfold Ivl at h1_ h2_; omega)); have n8_ := Aside0.mk (blk_kept BK131.out hk (fun h_ => by have z0_ := Z5.out; have z1_ := Z6.out; have z2_ := Z11.out; have z3_ := Z12.out; have z4_ := Z15.out; have z5_ := Z18.out; have z6_ := Z20.out; have z7_ := Z100.out; have z8_ := Z101.out; have z9_ := Z102.out; have z10_ := Z103.out; have z11_ := Z104.out; have z12_ := Z106.out; have z13_ := Z113.out; have z14_ := Z118.out; have z15_ := Z119.out; have z16_ := Z121.out; have z17_ := Z128.out; have z18_ := Z133.out; have z19_ := Z134.out; have z20_ := Z136.out; have z21_ := Z144.out; have z22_ := Z149.out; have z23_ := Z150.out; have z24_ := Z152.out; have z25_ := Z155.out; have z26_ := Z157.out; have z27_ := Z164.out; have z28_ := Z167.out; have z29_ := Z169.out; have z30_ := Z176.out; have z31_ := Z179.out; have z32_ := Z181.out; have z33_ := Z183.out; have z34_ := Z185.out; have g_ := GP132.out; unfold Ivl at h_; omega)); have n9_ := Aside0.mk (blk_kept BK147.out hk (fun h_ => by have z0_ := Z5.out; have z1_ := Z6.out; have z2_ := Z11.out; have z3_ := Z12.out; have z4_ := Z15.out; have z5_ := Z18.out; have z6_ := Z20.out; have z7_ := Z100.out; have z8_ := Z101.out; have z9_ := Z102.out; have z10_ := Z103.out; have z11_ := Z104.out; have z12_ := Z106.out; have z13_ := Z113.out; have z14_ := Z118.out; have z15_ := Z119.out; have z16_ := Z121.out; have z17_ := Z128.out; have z18_ := Z133.out; have z19_ := Z134.out; have z20_ := Z136.out; have z21_ := Z144.out; have z22_ := Z149.out; have z23_ := Z150.out; have z24_ := Z152.out; have z25_ := Z155.out; have z26_ := Z157.out; have z27_ := Z164.out; have z28_ := Z167.out; have z29_ := Z169.out; have z30_ := Z176.out; have z31_ := Z179.out; have z32_ := Z181.out; have z33_ := Z183.out; have z34_ := Z185.out; have g_ := GP148.out; unfold Ivl at h_; omega)); have n10_ := Aside0.mk (Kd.S_kept F163.out hk (fun k_ h1_ h2_ => by have z0_ := Z5.out; have z1_ := Z6.out; have z2_ := Z11.out; have z3_ := Z12.out; have z4_ := Z15.out; have z5_ := Z18.out; have z6_ := Z20.out; have z7_ := Z100.out; have z8_ := Z101.out; have z9_ := Z102.out; have z10_ := Z103.out; have z11_ := Z104.out; have z12_ := Z106.out; have z13_ := Z113.out; have z14_ := Z118.out; have z15_ := Z119.out; have z16_ := Z121.out; have z17_ := Z128.out; have z18_ := Z133.out; have z19_ := Z134.out; have z20_ := Z136.out; have z21_ := Z144.out; have z22_ := Z149.out; have z23_ := Z150.out; have z24_ := Z152.out; have z25_ := Z155.out; have z26_ := Z157.out; have z27_ := Z164.out; have z28_ := Z167.out; have z29_ := Z169.out; have z30_ := Z176.out; have z31_ := Z179.out; have z32_ := Z181.out; have z33_ := Z183.out; have z34_ := Z185.out; unfold Ivl at h1_ h2_; omega)); have n11_ := Aside0.mk (Kd.S_kept F175.out hk (fun k_ h1_ h2_ => by have z0_ := Z5.out; have z1_ := Z6.out; have z2_ := Z11.out; have z3_ := Z12.out; have z4_ := Z15.out; have z5_ := Z18.out; have z6_ := Z20.out; have z7_ := Z100.out; have z8_ := Z101.out; have z9_ := Z102.out; have z10_ := Z103.out; have z11_ := Z104.out; have z12_ := Z106.out; have z13_ := Z113.out; have z14_ := Z118.out; have z15_ := Z119.out; have z16_ := Z121.out; have z17_ := Z128.out; have z18_ := Z133.out; have z19_ := Z134.out; have z20_ := Z136.out; have z21_ := Z144.out; have z22_ := Z149.out; have z23_ := Z150.out; have z24_ := Z152.out; have z25_ := Z155.out; have z26_ := Z157.out; have z27_ := Z164.out; have z28_ := Z167.out; have z29_ := Z169.out; have z30_ := Z176.out; have z31_ := Z179.out; have z32_ := Z181.out; have z33_ := Z183.out; have z34_ := Z185.out; unfold Ivl at h1_ h2_; omega)); have n12_ := Aside0.mk (hs); clear HB BK3 BK9 F92 BK93 F112 BK116 F127 BK131 BK147 F163 F175 F143; have HB := n0_; have BK3 := n1_; have BK9 := n2_; have F92 := n3_; have BK93 := n4_; have F112 := n5_; have BK116 := n6_; have F127 := n7_; have BK131 := n8_; have BK147 := n9_; have F163 := n10_; have F175 := n11_; have F143 := n12_; clear n0_ n1_ n2_ n3_ n4_ n5_ n6_ n7_ n8_ n9_ n10_ n11_ n12_; (try clear hs hB hk); (try clear hz_gb1_0); have hz_gb1_0 : w186.cell? ⟨gb1, 0, none⟩ = some (.slice A0_0 l0_0.length c0_0) := (blk_cell BK3.out 0).trans rfl; (try clear hf_gb1_0); have hf_gb1_0 := blk_frozen BK3.out 0; (try clear hz_gb7_0); have hz_gb7_0 : w186.cell? ⟨gb7, 0, none⟩ = some (.slice A1_0 l1_0.length c1_0) := (blk_cell BK9.out 0).trans rfl; (try clear hf_gb7_0); have hf_gb7_0 := blk_frozen BK9.out 0; (try clear hz_gb95_0); have hz_gb95_0 : w186.cell? ⟨gb95, 0, none⟩ = some (.slice Ao96 r0.length co97) := (blk_cell BK93.out 0).trans rfl; (try clear hf_gb95_0); have hf_gb95_0 := blk_frozen BK93.out 0; (try clear hz_gb114_0); have hz_gb114_0 : w186.cell? ⟨gb114, 0, none⟩ = some (.slice Ao110 l0_0.length co111) := (blk_cell BK116.out 0).trans rfl; (try clear hf_gb114_0); have hf_gb114_0 := blk_frozen BK116.out 0; (try clear hz_gb129_0); have hz_gb129_0 : w186.cell? ⟨gb129, 0, none⟩ = some (.slice Ao125 l1_0.length co126) := (blk_cell BK131.out 0).trans rfl; (try clear hf_gb129_0); have hf_gb129_0 := blk_frozen BK131.out 0; (try clear hz_gb145_0); have hz_gb145_0 : w186.cell? ⟨gb145, 0, none⟩ = some (.slice Ao141 r0.length co142) := (blk_cell BK147.out 0).trans rfl; (try clear hf_gb145_0); have hf_gb145_0 := blk_frozen BK147.out 0) | ((with_reducible refine gate_dst (N := 88) rfl ?_); (try (refine gate_guard (by rfl) ?_; dsimp only)); refine goesL_ (some 88) rfl rfl Try.func14 (by kernel_rfl) rfl #[.agg #[.slice Ao141 (markL 1 r0).length co142], .int .i64 1] rfl (by (try simp only [List.map_toArray, List.map_cons, List.map_nil]); first | done | (rw [show (markL 1 r0).length = r0.length from markL_length _ _] <;> rfl) | rfl) ?_; (with_reducible refine (laws_heldGame.calls k _ _ (markL 1 r0) 1 tm2 _ ?side1 ?side2 E_laws_heldGame_189.out).mono ?_); (case side1 => first | (exact (Kd.S_reads' F143.out).2.2) | (rw [show (markL 1 r0).length = r0.length from markL_length _ _]; exact (Kd.S_reads' F143.out).2.2)); (case side2 => first | (exact (Kd.S_reads' F143.out).2.1) | (rw [show (markL 1 r0).length = r0.length from markL_length _ _]; exact (Kd.S_reads' F143.out).2.1)); rintro e w188 ⟨rfl, hb⟩; refine ⟨_, rfl, ?_⟩; have Z190 : Aside0 (w186.heap.size ≤ w188.heap.size) := Aside0.mk (hb.size); have n0_ := Aside0.mk (below_then HB.out HB.out.size hb); have n1_ := Aside0.mk (blk_below (g := gb1) (o := .cells #[.slice A0_0 l0_0.length c0_0] 24 (0, 0)) BK3.out hb); have n2_ := Aside0.mk (blk_below (g := gb7) (o := .cells #[.slice A1_0 l1_0.length c1_0] 24 (0, 0)) BK9.out hb); have n3_ := Aside0.mk (Kd.S_below F92.out hb); have n4_ := Aside0.mk (blk_below (g := gb95) (o := .cells #[.slice Ao96 r0.length co97] 26 (0, 0)) BK93.out hb); have n5_ := Aside0.mk (Kd.S_below F112.out hb); have n6_ := Aside0.mk (blk_below (g := gb114) (o := .cells #[.slice Ao110 l0_0.length co111] 26 (0, 0)) BK116.out hb); have n7_ := Aside0.mk (Kd.S_below F127.out hb); have n8_ := Aside0.mk (blk_below (g := gb129) (o := .cells #[.slice Ao125 l1_0.length co126] 26 (0, 0)) BK131.out hb); have n9_ := Aside0.mk (Kd.S_below F143.out hb); have n10_ := Aside0.mk (blk_below (g := gb145) (o := .cells #[.slice Ao141 r0.length co142] 26 (0, 0)) BK147.out hb); have n11_ := Aside0.mk (Kd.S_below F163.out hb); have n12_ := Aside0.mk (Kd.S_below F175.out hb); clear HB BK3 BK9 F92 BK93 F112 BK116 F127 BK131 F143 BK147 F163 F175; have HB := n0_; have BK3 := n1_; have BK9 := n2_; have F92 := n3_; have BK93 := n4_; have F112 := n5_; have BK116 := n6_; have F127 := n7_; have BK131 := n8_; have F143 := n9_; have BK147 := n10_; have F163 := n11_; have F175 := n12_; clear n0_ n1_ n2_ n3_ n4_ n5_ n6_ n7_ n8_ n9_ n10_ n11_ n12_; (try clear hb); (try clear hz_gb1_0); have hz_gb1_0 : w188.cell? ⟨gb1, 0, none⟩ = some (.slice A0_0 l0_0.length c0_0) := (blk_cell BK3.out 0).trans rfl; (try clear hf_gb1_0); have hf_gb1_0 := blk_frozen BK3.out 0; (try clear hz_gb7_0); have hz_gb7_0 : w188.cell? ⟨gb7, 0, none⟩ = some (.slice A1_0 l1_0.length c1_0) := (blk_cell BK9.out 0).trans rfl; (try clear hf_gb7_0); have hf_gb7_0 := blk_frozen BK9.out 0; (try clear hz_gb95_0); have hz_gb95_0 : w188.cell? ⟨gb95, 0, none⟩ = some (.slice Ao96 r0.length co97) := (blk_cell BK93.out 0).trans rfl; (try clear hf_gb95_0); have hf_gb95_0 := blk_frozen BK93.out 0; (try clear hz_gb114_0); have hz_gb114_0 : w188.cell? ⟨gb114, 0, none⟩ = some (.slice Ao110 l0_0.length co111) := (blk_cell BK116.out 0).trans rfl; (try clear hf_gb114_0); have hf_gb114_0 := blk_frozen BK116.out 0; (try clear hz_gb129_0); have hz_gb129_0 : w188.cell? ⟨gb129, 0, none⟩ = some (.slice Ao125 l1_0.length co126) := (blk_cell BK131.out 0).trans rfl; (try clear hf_gb129_0); have hf_gb129_0 := blk_frozen BK131.out 0; (try clear hz_gb145_0); have hz_gb145_0 : w188.cell? ⟨gb145, 0, none⟩ = some (.slice Ao141 r0.length co142) := (blk_cell BK147.out 0).trans rfl; (try clear hf_gb145_0); have hf_gb145_0 := blk_frozen BK147.out 0))
  refine start_ (n := 11) (S := fun w' => w'.cell? ⟨gb1, 0, none⟩ = some (.slice A0_0 l0_0.length c0_0) ∧ w'.cell? ⟨gb7, 0, none⟩ = some (.slice A1_0 l1_0.length c1_0) ∧ w'.cell? ⟨gb95, 0, none⟩ = some (.slice Ao96 r0.length co97) ∧ w'.cell? ⟨gb114, 0, none⟩ = some (.slice Ao110 l0_0.length co111) ∧ w'.cell? ⟨gb129, 0, none⟩ = some (.slice Ao125 l1_0.length co126) ∧ w'.cell? ⟨gb145, 0, none⟩ = some (.slice Ao141 r0.length co142)) (ds := []) #[false, false, false, false, false, false, false, false, false, false, false] (by kernel_rfl) rfl rfl ⟨(blk_cell BK3.out 0).trans rfl, (blk_cell BK9.out 0).trans rfl, (blk_cell BK93.out 0).trans rfl, (blk_cell BK116.out 0).trans rfl, (blk_cell BK131.out 0).trans rfl, (blk_cell BK147.out 0).trans rfl⟩ (fun hHeld => ?_)
  have Z192 : Aside0 (w188.heap.size ≤ w188.drew.heap.size) := Aside0.mk (Nat.le_refl _)
  have n0_ := Aside0.mk (below_drew HB.out)
  have n1_ := Aside0.mk (blk_drew BK3.out)
  have n2_ := Aside0.mk (blk_drew BK9.out)
  have n3_ := Aside0.mk (Kd.S_drew F92.out)
  have n4_ := Aside0.mk (blk_drew BK93.out)
  have n5_ := Aside0.mk (Kd.S_drew F112.out)
  have n6_ := Aside0.mk (blk_drew BK116.out)
  have n7_ := Aside0.mk (Kd.S_drew F127.out)
  have n8_ := Aside0.mk (blk_drew BK131.out)
  have n9_ := Aside0.mk (Kd.S_drew F143.out)
  have n10_ := Aside0.mk (blk_drew BK147.out)
  have n11_ := Aside0.mk (Kd.S_drew F163.out)
  have n12_ := Aside0.mk (Kd.S_drew F175.out)
  clear HB BK3 BK9 F92 BK93 F112 BK116 F127 BK131 F143 BK147 F163 F175
  have HB := n0_
  have BK3 := n1_
  have BK9 := n2_
  have F92 := n3_
  have BK93 := n4_
  have F112 := n5_
  have BK116 := n6_
  have F127 := n7_
  have BK131 := n8_
  have F143 := n9_
  have BK147 := n10_
  have F163 := n11_
  have F175 := n12_
  clear n0_ n1_ n2_ n3_ n4_ n5_ n6_ n7_ n8_ n9_ n10_ n11_ n12_
  generalize w188.drew = w191 at HB BK3 BK9 F92 BK93 F112 BK116 F127 BK131 F143 BK147 F163 F175 Z192 hHeld ⊢
  refine take_ (i := 0) (N := some 95) (v := ?_) (a' := ?_) #[true, false, false, false, false, false, false, false, false, false, false] rfl rfl (by kernel_rfl) (fun _ _ _ h => h) (Or.inl ⟨by rfl, ?_⟩) hHeld ?_ ?_
  rotate_left
  · rintro w' ⟨s0_, s1_, s2_, s3_, s4_, s5_⟩
    go_simp
    with_reducible rfl
  rotate_left
  · simp only [putAll, Act.put, List.setIfInBounds_toArray, List.set_cons_zero, List.set_cons_succ, i64_w, i32_w]
    rfl
  refine take_ (i := 2) (N := some 97) (v := ?_) (a' := ?_) #[true, false, true, false, false, false, false, false, false, false, false] rfl rfl (by kernel_rfl) (fun _ _ _ h => h) (Or.inl ⟨by rfl, ?_⟩) hHeld ?_ ?_
  rotate_left
  · rintro w' ⟨s0_, s1_, s2_, s3_, s4_, s5_⟩
    go_simp
    with_reducible rfl
  rotate_left
  · simp only [putAll, Act.put, List.setIfInBounds_toArray, List.set_cons_zero, List.set_cons_succ, i64_w, i32_w]
    rfl
  refine join_ (σ := Value × Value × Option Addr × Nat × Nat × Nat × Nat) 2 #[true, true, true, true, true, true, true, true, true, false, false] (fun s => match s with | (ju0, ju1, jA0, jc0, jgb, jlo, jhi) => [(96, ju0), (98, ju1), (99, .tuple #[.agg #[.slice jA0 r0.length jc0], .int .i64 r1]), (94, .tuple #[.agg #[.slice jA0 r0.length jc0], .int .i64 r1]), (100, .agg #[.slice jA0 r0.length jc0]), (101, .int .i64 r1), (15, .pointer (some ⟨jgb, 0, none⟩))]) (fun s w' => match s with | (ju0, ju1, jA0, jc0, jgb, jlo, jhi) => Below w191.heap.size w191 w' ∧ Kd.S (Kd.slice 2 (Kd.int .i64)) 36 w' w.heap.size (Ivl jlo jhi) (.slice jA0 r0.length jc0) r0 ∧ w'.heap[jgb]? = some (.cells #[.slice none 0 0] 26 (0, 0)) ∧ w191.heap.size ≤ jlo ∧ jlo ≤ jhi ∧ jhi ≤ w'.heap.size ∧ w191.heap.size ≤ jgb ∧ jgb < w'.heap.size ∧ (jgb < jlo ∨ jhi ≤ jgb)) ?_ ?_
  rotate_left
  · intro hcont
    have HBo := Aside0.mk (Below.refl w191.heap.size w191)
    refine two_ (i := 1) (j := 8) (Ni := some 96) (Nj := some 15) #[true, true, true, false, false, false, false, false, false, false, false] #[true, false, true, false, false, false, false, false, true, false, false] rfl rfl rfl rfl (by kernel_rfl) (by decide) (by decide) (fun K hK => ?_) (fun K hK => ?_)
    · refine goes_ Try.func10 (by kernel_rfl) rfl #[.agg #[.slice A0_0 l0_0.length c0_0]] (by rfl) rfl rfl (by (try simp only [List.map_toArray, List.map_cons, List.map_nil]); first | done | rfl) ?_
      with_reducible refine (laws_toGame.calls k _ _ l0_0 l0_0 _ ?side1 ?side2 E_laws_toGame_22.out).mono ?_
      (case side1 => exact Kd.C_below (Kd.C_below HR0_0.out HB.out) HBo.out)
      (case side2 => exact HC0_0.out)
      rintro e w193 ⟨v194, rfl, ho195, hb⟩
      refine ⟨_, rfl, ?_⟩
      obtain ⟨Ao197, co198, e_Ao197⟩ := Kd.S_slice ho195
      subst e_Ao197
      have F196 := Aside0.mk (S_ivl ho195 (Nat.le_trans HB.out.size HBo.out.size))
      have Z199 : Aside0 (w191.heap.size ≤ w193.heap.size) := Aside0.mk hb.size
      clear ho195
      have n0_ := Aside0.mk (HBo.out.trans (hb.mono HBo.out.size))
      clear HBo
      have HBo := n0_
      clear n0_
      clear hb
      refine hK.out _ _ ⟨(blk_cell (blk_below (g := gb1) (o := .cells #[.slice A0_0 l0_0.length c0_0] 24 (0, 0)) BK3.out HBo.out) 0).trans rfl, (blk_cell (blk_below (g := gb7) (o := .cells #[.slice A1_0 l1_0.length c1_0] 24 (0, 0)) BK9.out HBo.out) 0).trans rfl, (blk_cell (blk_below (g := gb95) (o := .cells #[.slice Ao96 r0.length co97] 26 (0, 0)) BK93.out HBo.out) 0).trans rfl, (blk_cell (blk_below (g := gb114) (o := .cells #[.slice Ao110 l0_0.length co111] 26 (0, 0)) BK116.out HBo.out) 0).trans rfl, (blk_cell (blk_below (g := gb129) (o := .cells #[.slice Ao125 l1_0.length co126] 26 (0, 0)) BK131.out HBo.out) 0).trans rfl, (blk_cell (blk_below (g := gb145) (o := .cells #[.slice Ao141 r0.length co142] 26 (0, 0)) BK147.out HBo.out) 0).trans rfl⟩ (fun hHeld => ?_)
      clear hK K
      refine norm_ (a' := ?_) ?_ ?_
      rotate_left
      · show Act.put _ (some 96) _ = _
        simp only [Act.put, List.setIfInBounds_toArray, List.set_cons_zero, List.set_cons_succ, i64_w, i32_w]
        rfl
      refine two_ (i := 3) (j := 8) (Ni := some 98) (Nj := some 15) #[true, true, true, true, false, false, false, false, false, false, false] #[true, true, true, false, false, false, false, false, true, false, false] rfl rfl rfl rfl (by kernel_rfl) (by decide) (by decide) (fun K hK => ?_) (fun K hK => ?_)
      · refine goes_ Try.func10 (by kernel_rfl) rfl #[.agg #[.slice A1_0 l1_0.length c1_0]] (by rfl) rfl rfl (by (try simp only [List.map_toArray, List.map_cons, List.map_nil]); first | done | rfl) ?_
        with_reducible refine (laws_toGame.calls k _ _ l1_0 l1_0 _ ?side1 ?side2 E_laws_toGame_30.out).mono ?_
        (case side1 => exact Kd.C_below (Kd.C_below HR1_0.out HB.out) HBo.out)
        (case side2 => exact HC1_0.out)
        rintro e w200 ⟨v201, rfl, ho202, hb⟩
        refine ⟨_, rfl, ?_⟩
        obtain ⟨Ao204, co205, e_Ao204⟩ := Kd.S_slice ho202
        subst e_Ao204
        have F203 := Aside0.mk (S_ivl ho202 (Nat.le_trans HB.out.size HBo.out.size))
        have Z206 : Aside0 (w193.heap.size ≤ w200.heap.size) := Aside0.mk hb.size
        clear ho202
        have n0_ := Aside0.mk (HBo.out.trans (hb.mono HBo.out.size))
        clear HBo
        have HBo := n0_
        clear n0_
        have n0_ := Aside0.mk (Kd.S_below F196.out hb)
        clear F196
        have F196 := n0_
        clear n0_
        clear hb
        refine hK.out _ _ ⟨(blk_cell (blk_below (g := gb1) (o := .cells #[.slice A0_0 l0_0.length c0_0] 24 (0, 0)) BK3.out HBo.out) 0).trans rfl, (blk_cell (blk_below (g := gb7) (o := .cells #[.slice A1_0 l1_0.length c1_0] 24 (0, 0)) BK9.out HBo.out) 0).trans rfl, (blk_cell (blk_below (g := gb95) (o := .cells #[.slice Ao96 r0.length co97] 26 (0, 0)) BK93.out HBo.out) 0).trans rfl, (blk_cell (blk_below (g := gb114) (o := .cells #[.slice Ao110 l0_0.length co111] 26 (0, 0)) BK116.out HBo.out) 0).trans rfl, (blk_cell (blk_below (g := gb129) (o := .cells #[.slice Ao125 l1_0.length co126] 26 (0, 0)) BK131.out HBo.out) 0).trans rfl, (blk_cell (blk_below (g := gb145) (o := .cells #[.slice Ao141 r0.length co142] 26 (0, 0)) BK147.out HBo.out) 0).trans rfl⟩ (fun hHeld => ?_)
        clear hK K
        refine norm_ (a' := ?_) ?_ ?_
        rotate_left
        · show Act.put _ (some 98) _ = _
          simp only [Act.put, List.setIfInBounds_toArray, List.set_cons_zero, List.set_cons_succ, i64_w, i32_w]
          rfl
        refine two_ (i := 4) (j := 8) (Ni := some 99) (Nj := some 15) #[true, true, true, true, true, false, false, false, false, false, false] #[true, true, true, true, false, false, false, false, true, false, false] rfl rfl rfl rfl (by kernel_rfl) (by decide) (by decide) (fun K hK => ?_) (fun K hK => ?_)
        · refine goes_ Try.func11 (by kernel_rfl) rfl #[.agg #[.slice Ao197 l0_0.length co198], .agg #[.slice Ao204 l1_0.length co205]] (by rfl) rfl rfl (by (try simp only [List.map_toArray, List.map_cons, List.map_nil]); first | done | rfl) ?_
          with_reducible refine (impl_SumOfGames.calls k _ _ l0_0 _ _ l1_0 r0 r1 _ ?side1 ?side2 ?side3 ?side4 E_impl_SumOfGames_138.out).mono ?_
          (case side1 => exact (Kd.S_reads' F196.out).2.2)
          (case side2 => exact (Kd.S_reads' F196.out).2.1)
          (case side3 => exact (Kd.S_reads' F203.out).2.2)
          (case side4 => exact (Kd.S_reads' F203.out).2.1)
          rintro e w207 ⟨v208, rfl, ho209, hb⟩
          refine ⟨_, rfl, ?_⟩
          obtain ⟨jA0, jc0, e_jA0⟩ := Kd.S_slice ho209
          subst e_jA0
          have F210 := Aside0.mk (S_ivl ho209 (Nat.le_trans HB.out.size HBo.out.size))
          have Z211 : Aside0 (w200.heap.size ≤ w207.heap.size) := Aside0.mk hb.size
          clear ho209
          have n0_ := Aside0.mk (HBo.out.trans (hb.mono HBo.out.size))
          clear HBo
          have HBo := n0_
          clear n0_
          have n0_ := Aside0.mk (Kd.S_below F196.out hb)
          clear F196
          have F196 := n0_
          clear n0_
          have n0_ := Aside0.mk (Kd.S_below F203.out hb)
          clear F203
          have F203 := n0_
          clear n0_
          clear hb
          refine hK.out _ _ ⟨(blk_cell (blk_below (g := gb1) (o := .cells #[.slice A0_0 l0_0.length c0_0] 24 (0, 0)) BK3.out HBo.out) 0).trans rfl, (blk_cell (blk_below (g := gb7) (o := .cells #[.slice A1_0 l1_0.length c1_0] 24 (0, 0)) BK9.out HBo.out) 0).trans rfl, (blk_cell (blk_below (g := gb95) (o := .cells #[.slice Ao96 r0.length co97] 26 (0, 0)) BK93.out HBo.out) 0).trans rfl, (blk_cell (blk_below (g := gb114) (o := .cells #[.slice Ao110 l0_0.length co111] 26 (0, 0)) BK116.out HBo.out) 0).trans rfl, (blk_cell (blk_below (g := gb129) (o := .cells #[.slice Ao125 l1_0.length co126] 26 (0, 0)) BK131.out HBo.out) 0).trans rfl, (blk_cell (blk_below (g := gb145) (o := .cells #[.slice Ao141 r0.length co142] 26 (0, 0)) BK147.out HBo.out) 0).trans rfl⟩ (fun hHeld => ?_)
          clear hK K
          refine norm_ (a' := ?_) ?_ ?_
          rotate_left
          · show Act.put _ (some 99) _ = _
            simp only [Act.put, List.setIfInBounds_toArray, List.set_cons_zero, List.set_cons_succ, i64_w, i32_w]
            rfl
          refine pure_ (i := 5) (N := some 94) (v := ?_) (a' := ?_) #[true, true, true, true, true, true, false, false, false, false, false] rfl rfl (by kernel_rfl) (fun _ _ _ h => h) (Or.inl ⟨by rfl, ?_⟩) ?_ ?_
          rotate_left
          · intro w'
            go_simp
            with_reducible rfl
          rotate_left
          · simp only [putAll, Act.put, List.setIfInBounds_toArray, List.set_cons_zero, List.set_cons_succ, i64_w, i32_w]
            rfl
          refine pure_ (i := 6) (N := some 100) (v := ?_) (a' := ?_) #[true, true, true, true, true, true, true, false, false, false, false] rfl rfl (by kernel_rfl) (fun _ _ _ h => h) (Or.inl ⟨by rfl, ?_⟩) ?_ ?_
          rotate_left
          · intro w'
            go_simp
            with_reducible rfl
          rotate_left
          · simp only [putAll, Act.put, List.setIfInBounds_toArray, List.set_cons_zero, List.set_cons_succ, i64_w, i32_w]
            rfl
          refine pure_ (i := 7) (N := some 101) (v := ?_) (a' := ?_) #[true, true, true, true, true, true, true, true, false, false, false] rfl rfl (by kernel_rfl) (fun _ _ _ h => h) (Or.inl ⟨by rfl, ?_⟩) ?_ ?_
          rotate_left
          · intro w'
            go_simp
            with_reducible rfl
          rotate_left
          · simp only [putAll, Act.put, List.setIfInBounds_toArray, List.set_cons_zero, List.set_cons_succ, i64_w, i32_w]
            rfl
          refine one_ (i := 8) (N := some 15) #[true, true, true, true, true, true, true, true, true, false, false] rfl rfl (by kernel_rfl) (by decide) (fun K hK => ?_)
          refine value_ (w1 := (w207.alloc (.cells #[.slice none 0 0] 26 (0, 0)))) (v := .pointer (some ⟨w207.heap.size, 0, none⟩)) (by rfl) rfl (by first | (go_simp; done) | (go_simp; rfl)) ?_
          have hbox := blk_new w207 (.cells #[.slice none 0 0] 26 (0, 0))
          have hb := below_alloc (Below.refl w207.heap.size w207) (.cells #[.slice none 0 0] 26 (0, 0))
          generalize w207.alloc (.cells #[.slice none 0 0] 26 (0, 0)) = w212 at hbox hb ⊢
          have Z213 : Aside0 (w207.heap.size < w212.heap.size) := Aside0.mk (blk_lt hbox)
          obtain ⟨jgb, hgb⟩ : ∃ gb, gb = w207.heap.size := ⟨_, rfl⟩
          rw [← hgb] at hbox ⊢
          have Z214 := Aside0.mk hgb
          have BKo := Aside0.mk hbox
          clear hgb hbox
          have n0_ := Aside0.mk (HBo.out.trans (hb.mono HBo.out.size))
          clear HBo
          have HBo := n0_
          clear n0_
          have n0_ := Aside0.mk (Kd.S_below F196.out hb)
          clear F196
          have F196 := n0_
          clear n0_
          have n0_ := Aside0.mk (Kd.S_below F203.out hb)
          clear F203
          have F203 := n0_
          clear n0_
          have n0_ := Aside0.mk (Kd.S_below F210.out hb)
          clear F210
          have F210 := n0_
          clear n0_
          clear hb
          refine hK.out _ _ ⟨(blk_cell (blk_below (g := gb1) (o := .cells #[.slice A0_0 l0_0.length c0_0] 24 (0, 0)) BK3.out HBo.out) 0).trans rfl, (blk_cell (blk_below (g := gb7) (o := .cells #[.slice A1_0 l1_0.length c1_0] 24 (0, 0)) BK9.out HBo.out) 0).trans rfl, (blk_cell (blk_below (g := gb95) (o := .cells #[.slice Ao96 r0.length co97] 26 (0, 0)) BK93.out HBo.out) 0).trans rfl, (blk_cell (blk_below (g := gb114) (o := .cells #[.slice Ao110 l0_0.length co111] 26 (0, 0)) BK116.out HBo.out) 0).trans rfl, (blk_cell (blk_below (g := gb129) (o := .cells #[.slice Ao125 l1_0.length co126] 26 (0, 0)) BK131.out HBo.out) 0).trans rfl, (blk_cell (blk_below (g := gb145) (o := .cells #[.slice Ao141 r0.length co142] 26 (0, 0)) BK147.out HBo.out) 0).trans rfl⟩ (fun hHeld => ?_)
          clear hK K
          refine norm_ (a' := ?_) ?_ ?_
          rotate_left
          · show Act.put _ (some 15) _ = _
            simp only [Act.put, List.setIfInBounds_toArray, List.set_cons_zero, List.set_cons_succ, i64_w, i32_w]
            rfl
          exact norm_ (by first | rfl | (simp only [putAll, Act.put, List.setIfInBounds_toArray, List.set_cons_zero, List.set_cons_succ, i64_w, i32_w]) <;> rfl) (hcont (.agg #[.slice Ao197 l0_0.length co198], .agg #[.slice Ao204 l1_0.length co205], jA0, jc0, jgb, w200.heap.size, w207.heap.size) w212 ⟨HBo.out, F210.out, BKo.out, by have z0_ := Z199.out; have z1_ := Z206.out; have z2_ := Z211.out; have z3_ := Z213.out; have z4_ := Z214.out; have zo_ := HBo.out.size; omega, by have z0_ := Z199.out; have z1_ := Z206.out; have z2_ := Z211.out; have z3_ := Z213.out; have z4_ := Z214.out; have zo_ := HBo.out.size; omega, by have z0_ := Z199.out; have z1_ := Z206.out; have z2_ := Z211.out; have z3_ := Z213.out; have z4_ := Z214.out; have zo_ := HBo.out.size; omega, by have z0_ := Z199.out; have z1_ := Z206.out; have z2_ := Z211.out; have z3_ := Z213.out; have z4_ := Z214.out; have zo_ := HBo.out.size; omega, by have z0_ := Z199.out; have z1_ := Z206.out; have z2_ := Z211.out; have z3_ := Z213.out; have z4_ := Z214.out; have zo_ := HBo.out.size; omega, by have z0_ := Z199.out; have z1_ := Z206.out; have z2_ := Z211.out; have z3_ := Z213.out; have z4_ := Z214.out; have zo_ := HBo.out.size; omega⟩)
        · refine value_ (w1 := (w200.alloc (.cells #[.slice none 0 0] 26 (0, 0)))) (v := .pointer (some ⟨w200.heap.size, 0, none⟩)) (by rfl) rfl (by first | (go_simp; done) | (go_simp; rfl)) ?_
          have hbox := blk_new w200 (.cells #[.slice none 0 0] 26 (0, 0))
          have hb := below_alloc (Below.refl w200.heap.size w200) (.cells #[.slice none 0 0] 26 (0, 0))
          generalize w200.alloc (.cells #[.slice none 0 0] 26 (0, 0)) = w215 at hbox hb ⊢
          have Z216 : Aside0 (w200.heap.size < w215.heap.size) := Aside0.mk (blk_lt hbox)
          obtain ⟨jgb, hgb⟩ : ∃ gb, gb = w200.heap.size := ⟨_, rfl⟩
          rw [← hgb] at hbox ⊢
          have Z217 := Aside0.mk hgb
          have BKo := Aside0.mk hbox
          clear hgb hbox
          have n0_ := Aside0.mk (HBo.out.trans (hb.mono HBo.out.size))
          clear HBo
          have HBo := n0_
          clear n0_
          have n0_ := Aside0.mk (Kd.S_below F196.out hb)
          clear F196
          have F196 := n0_
          clear n0_
          have n0_ := Aside0.mk (Kd.S_below F203.out hb)
          clear F203
          have F203 := n0_
          clear n0_
          clear hb
          refine hK.out _ _ ⟨(blk_cell (blk_below (g := gb1) (o := .cells #[.slice A0_0 l0_0.length c0_0] 24 (0, 0)) BK3.out HBo.out) 0).trans rfl, (blk_cell (blk_below (g := gb7) (o := .cells #[.slice A1_0 l1_0.length c1_0] 24 (0, 0)) BK9.out HBo.out) 0).trans rfl, (blk_cell (blk_below (g := gb95) (o := .cells #[.slice Ao96 r0.length co97] 26 (0, 0)) BK93.out HBo.out) 0).trans rfl, (blk_cell (blk_below (g := gb114) (o := .cells #[.slice Ao110 l0_0.length co111] 26 (0, 0)) BK116.out HBo.out) 0).trans rfl, (blk_cell (blk_below (g := gb129) (o := .cells #[.slice Ao125 l1_0.length co126] 26 (0, 0)) BK131.out HBo.out) 0).trans rfl, (blk_cell (blk_below (g := gb145) (o := .cells #[.slice Ao141 r0.length co142] 26 (0, 0)) BK147.out HBo.out) 0).trans rfl⟩ (fun hHeld => ?_)
          clear hK K
          refine norm_ (a' := ?_) ?_ ?_
          rotate_left
          · show Act.put _ (some 15) _ = _
            simp only [Act.put, List.setIfInBounds_toArray, List.set_cons_zero, List.set_cons_succ, i64_w, i32_w]
            rfl
          refine one_ (i := 4) (N := some 99) #[true, true, true, true, true, false, false, false, true, false, false] rfl rfl (by kernel_rfl) (by decide) (fun K hK => ?_)
          refine goes_ Try.func11 (by kernel_rfl) rfl #[.agg #[.slice Ao197 l0_0.length co198], .agg #[.slice Ao204 l1_0.length co205]] (by rfl) rfl rfl (by (try simp only [List.map_toArray, List.map_cons, List.map_nil]); first | done | rfl) ?_
          with_reducible refine (impl_SumOfGames.calls k _ _ l0_0 _ _ l1_0 r0 r1 _ ?side1 ?side2 ?side3 ?side4 E_impl_SumOfGames_138.out).mono ?_
          (case side1 => exact (Kd.S_reads' F196.out).2.2)
          (case side2 => exact (Kd.S_reads' F196.out).2.1)
          (case side3 => exact (Kd.S_reads' F203.out).2.2)
          (case side4 => exact (Kd.S_reads' F203.out).2.1)
          rintro e w218 ⟨v219, rfl, ho220, hb⟩
          refine ⟨_, rfl, ?_⟩
          obtain ⟨jA0, jc0, e_jA0⟩ := Kd.S_slice ho220
          subst e_jA0
          have F221 := Aside0.mk (S_ivl ho220 (Nat.le_trans HB.out.size HBo.out.size))
          have Z222 : Aside0 (w215.heap.size ≤ w218.heap.size) := Aside0.mk hb.size
          clear ho220
          have n0_ := Aside0.mk (HBo.out.trans (hb.mono HBo.out.size))
          clear HBo
          have HBo := n0_
          clear n0_
          have n0_ := Aside0.mk (Kd.S_below F196.out hb)
          clear F196
          have F196 := n0_
          clear n0_
          have n0_ := Aside0.mk (Kd.S_below F203.out hb)
          clear F203
          have F203 := n0_
          clear n0_
          have n0_ := Aside0.mk (blk_below (g := jgb) (o := .cells #[.slice none 0 0] 26 (0, 0)) BKo.out hb)
          clear BKo
          have BKo := n0_
          clear n0_
          clear hb
          refine hK.out _ _ ⟨(blk_cell (blk_below (g := gb1) (o := .cells #[.slice A0_0 l0_0.length c0_0] 24 (0, 0)) BK3.out HBo.out) 0).trans rfl, (blk_cell (blk_below (g := gb7) (o := .cells #[.slice A1_0 l1_0.length c1_0] 24 (0, 0)) BK9.out HBo.out) 0).trans rfl, (blk_cell (blk_below (g := gb95) (o := .cells #[.slice Ao96 r0.length co97] 26 (0, 0)) BK93.out HBo.out) 0).trans rfl, (blk_cell (blk_below (g := gb114) (o := .cells #[.slice Ao110 l0_0.length co111] 26 (0, 0)) BK116.out HBo.out) 0).trans rfl, (blk_cell (blk_below (g := gb129) (o := .cells #[.slice Ao125 l1_0.length co126] 26 (0, 0)) BK131.out HBo.out) 0).trans rfl, (blk_cell (blk_below (g := gb145) (o := .cells #[.slice Ao141 r0.length co142] 26 (0, 0)) BK147.out HBo.out) 0).trans rfl⟩ (fun hHeld => ?_)
          clear hK K
          refine norm_ (a' := ?_) ?_ ?_
          rotate_left
          · show Act.put _ (some 99) _ = _
            simp only [Act.put, List.setIfInBounds_toArray, List.set_cons_zero, List.set_cons_succ, i64_w, i32_w]
            rfl
          refine pure_ (i := 5) (N := some 94) (v := ?_) (a' := ?_) #[true, true, true, true, true, true, false, false, true, false, false] rfl rfl (by kernel_rfl) (fun _ _ _ h => h) (Or.inl ⟨by rfl, ?_⟩) ?_ ?_
          rotate_left
          · intro w'
            go_simp
            with_reducible rfl
          rotate_left
          · simp only [putAll, Act.put, List.setIfInBounds_toArray, List.set_cons_zero, List.set_cons_succ, i64_w, i32_w]
            rfl
          refine pure_ (i := 6) (N := some 100) (v := ?_) (a' := ?_) #[true, true, true, true, true, true, true, false, true, false, false] rfl rfl (by kernel_rfl) (fun _ _ _ h => h) (Or.inl ⟨by rfl, ?_⟩) ?_ ?_
          rotate_left
          · intro w'
            go_simp
            with_reducible rfl
          rotate_left
          · simp only [putAll, Act.put, List.setIfInBounds_toArray, List.set_cons_zero, List.set_cons_succ, i64_w, i32_w]
            rfl
          refine pure_ (i := 7) (N := some 101) (v := ?_) (a' := ?_) #[true, true, true, true, true, true, true, true, true, false, false] rfl rfl (by kernel_rfl) (fun _ _ _ h => h) (Or.inl ⟨by rfl, ?_⟩) ?_ ?_
          rotate_left
          · intro w'
            go_simp
            with_reducible rfl
          rotate_left
          · simp only [putAll, Act.put, List.setIfInBounds_toArray, List.set_cons_zero, List.set_cons_succ, i64_w, i32_w]
            rfl
          exact norm_ (by first | rfl | (simp only [putAll, Act.put, List.setIfInBounds_toArray, List.set_cons_zero, List.set_cons_succ, i64_w, i32_w]) <;> rfl) (hcont (.agg #[.slice Ao197 l0_0.length co198], .agg #[.slice Ao204 l1_0.length co205], jA0, jc0, jgb, w215.heap.size, w218.heap.size) w218 ⟨HBo.out, F221.out, BKo.out, by have z0_ := Z199.out; have z1_ := Z206.out; have z2_ := Z216.out; have z3_ := Z217.out; have z4_ := Z222.out; have zo_ := HBo.out.size; omega, by have z0_ := Z199.out; have z1_ := Z206.out; have z2_ := Z216.out; have z3_ := Z217.out; have z4_ := Z222.out; have zo_ := HBo.out.size; omega, by have z0_ := Z199.out; have z1_ := Z206.out; have z2_ := Z216.out; have z3_ := Z217.out; have z4_ := Z222.out; have zo_ := HBo.out.size; omega, by have z0_ := Z199.out; have z1_ := Z206.out; have z2_ := Z216.out; have z3_ := Z217.out; have z4_ := Z222.out; have zo_ := HBo.out.size; omega, by have z0_ := Z199.out; have z1_ := Z206.out; have z2_ := Z216.out; have z3_ := Z217.out; have z4_ := Z222.out; have zo_ := HBo.out.size; omega, by have z0_ := Z199.out; have z1_ := Z206.out; have z2_ := Z216.out; have z3_ := Z217.out; have z4_ := Z222.out; have zo_ := HBo.out.size; omega⟩)
      · refine value_ (w1 := (w193.alloc (.cells #[.slice none 0 0] 26 (0, 0)))) (v := .pointer (some ⟨w193.heap.size, 0, none⟩)) (by rfl) rfl (by first | (go_simp; done) | (go_simp; rfl)) ?_
        have hbox := blk_new w193 (.cells #[.slice none 0 0] 26 (0, 0))
        have hb := below_alloc (Below.refl w193.heap.size w193) (.cells #[.slice none 0 0] 26 (0, 0))
        generalize w193.alloc (.cells #[.slice none 0 0] 26 (0, 0)) = w223 at hbox hb ⊢
        have Z224 : Aside0 (w193.heap.size < w223.heap.size) := Aside0.mk (blk_lt hbox)
        obtain ⟨jgb, hgb⟩ : ∃ gb, gb = w193.heap.size := ⟨_, rfl⟩
        rw [← hgb] at hbox ⊢
        have Z225 := Aside0.mk hgb
        have BKo := Aside0.mk hbox
        clear hgb hbox
        have n0_ := Aside0.mk (HBo.out.trans (hb.mono HBo.out.size))
        clear HBo
        have HBo := n0_
        clear n0_
        have n0_ := Aside0.mk (Kd.S_below F196.out hb)
        clear F196
        have F196 := n0_
        clear n0_
        clear hb
        refine hK.out _ _ ⟨(blk_cell (blk_below (g := gb1) (o := .cells #[.slice A0_0 l0_0.length c0_0] 24 (0, 0)) BK3.out HBo.out) 0).trans rfl, (blk_cell (blk_below (g := gb7) (o := .cells #[.slice A1_0 l1_0.length c1_0] 24 (0, 0)) BK9.out HBo.out) 0).trans rfl, (blk_cell (blk_below (g := gb95) (o := .cells #[.slice Ao96 r0.length co97] 26 (0, 0)) BK93.out HBo.out) 0).trans rfl, (blk_cell (blk_below (g := gb114) (o := .cells #[.slice Ao110 l0_0.length co111] 26 (0, 0)) BK116.out HBo.out) 0).trans rfl, (blk_cell (blk_below (g := gb129) (o := .cells #[.slice Ao125 l1_0.length co126] 26 (0, 0)) BK131.out HBo.out) 0).trans rfl, (blk_cell (blk_below (g := gb145) (o := .cells #[.slice Ao141 r0.length co142] 26 (0, 0)) BK147.out HBo.out) 0).trans rfl⟩ (fun hHeld => ?_)
        clear hK K
        refine norm_ (a' := ?_) ?_ ?_
        rotate_left
        · show Act.put _ (some 15) _ = _
          simp only [Act.put, List.setIfInBounds_toArray, List.set_cons_zero, List.set_cons_succ, i64_w, i32_w]
          rfl
        refine one_ (i := 3) (N := some 98) #[true, true, true, true, false, false, false, false, true, false, false] rfl rfl (by kernel_rfl) (by decide) (fun K hK => ?_)
        refine goes_ Try.func10 (by kernel_rfl) rfl #[.agg #[.slice A1_0 l1_0.length c1_0]] (by rfl) rfl rfl (by (try simp only [List.map_toArray, List.map_cons, List.map_nil]); first | done | rfl) ?_
        with_reducible refine (laws_toGame.calls k _ _ l1_0 l1_0 _ ?side1 ?side2 E_laws_toGame_30.out).mono ?_
        (case side1 => exact Kd.C_below (Kd.C_below HR1_0.out HB.out) HBo.out)
        (case side2 => exact HC1_0.out)
        rintro e w226 ⟨v227, rfl, ho228, hb⟩
        refine ⟨_, rfl, ?_⟩
        obtain ⟨Ao230, co231, e_Ao230⟩ := Kd.S_slice ho228
        subst e_Ao230
        have F229 := Aside0.mk (S_ivl ho228 (Nat.le_trans HB.out.size HBo.out.size))
        have Z232 : Aside0 (w223.heap.size ≤ w226.heap.size) := Aside0.mk hb.size
        clear ho228
        have n0_ := Aside0.mk (HBo.out.trans (hb.mono HBo.out.size))
        clear HBo
        have HBo := n0_
        clear n0_
        have n0_ := Aside0.mk (Kd.S_below F196.out hb)
        clear F196
        have F196 := n0_
        clear n0_
        have n0_ := Aside0.mk (blk_below (g := jgb) (o := .cells #[.slice none 0 0] 26 (0, 0)) BKo.out hb)
        clear BKo
        have BKo := n0_
        clear n0_
        clear hb
        refine hK.out _ _ ⟨(blk_cell (blk_below (g := gb1) (o := .cells #[.slice A0_0 l0_0.length c0_0] 24 (0, 0)) BK3.out HBo.out) 0).trans rfl, (blk_cell (blk_below (g := gb7) (o := .cells #[.slice A1_0 l1_0.length c1_0] 24 (0, 0)) BK9.out HBo.out) 0).trans rfl, (blk_cell (blk_below (g := gb95) (o := .cells #[.slice Ao96 r0.length co97] 26 (0, 0)) BK93.out HBo.out) 0).trans rfl, (blk_cell (blk_below (g := gb114) (o := .cells #[.slice Ao110 l0_0.length co111] 26 (0, 0)) BK116.out HBo.out) 0).trans rfl, (blk_cell (blk_below (g := gb129) (o := .cells #[.slice Ao125 l1_0.length co126] 26 (0, 0)) BK131.out HBo.out) 0).trans rfl, (blk_cell (blk_below (g := gb145) (o := .cells #[.slice Ao141 r0.length co142] 26 (0, 0)) BK147.out HBo.out) 0).trans rfl⟩ (fun hHeld => ?_)
        clear hK K
        refine norm_ (a' := ?_) ?_ ?_
        rotate_left
        · show Act.put _ (some 98) _ = _
          simp only [Act.put, List.setIfInBounds_toArray, List.set_cons_zero, List.set_cons_succ, i64_w, i32_w]
          rfl
        refine one_ (i := 4) (N := some 99) #[true, true, true, true, true, false, false, false, true, false, false] rfl rfl (by kernel_rfl) (by decide) (fun K hK => ?_)
        refine goes_ Try.func11 (by kernel_rfl) rfl #[.agg #[.slice Ao197 l0_0.length co198], .agg #[.slice Ao230 l1_0.length co231]] (by rfl) rfl rfl (by (try simp only [List.map_toArray, List.map_cons, List.map_nil]); first | done | rfl) ?_
        with_reducible refine (impl_SumOfGames.calls k _ _ l0_0 _ _ l1_0 r0 r1 _ ?side1 ?side2 ?side3 ?side4 E_impl_SumOfGames_138.out).mono ?_
        (case side1 => exact (Kd.S_reads' F196.out).2.2)
        (case side2 => exact (Kd.S_reads' F196.out).2.1)
        (case side3 => exact (Kd.S_reads' F229.out).2.2)
        (case side4 => exact (Kd.S_reads' F229.out).2.1)
        rintro e w233 ⟨v234, rfl, ho235, hb⟩
        refine ⟨_, rfl, ?_⟩
        obtain ⟨jA0, jc0, e_jA0⟩ := Kd.S_slice ho235
        subst e_jA0
        have F236 := Aside0.mk (S_ivl ho235 (Nat.le_trans HB.out.size HBo.out.size))
        have Z237 : Aside0 (w226.heap.size ≤ w233.heap.size) := Aside0.mk hb.size
        clear ho235
        have n0_ := Aside0.mk (HBo.out.trans (hb.mono HBo.out.size))
        clear HBo
        have HBo := n0_
        clear n0_
        have n0_ := Aside0.mk (Kd.S_below F196.out hb)
        clear F196
        have F196 := n0_
        clear n0_
        have n0_ := Aside0.mk (Kd.S_below F229.out hb)
        clear F229
        have F229 := n0_
        clear n0_
        have n0_ := Aside0.mk (blk_below (g := jgb) (o := .cells #[.slice none 0 0] 26 (0, 0)) BKo.out hb)
        clear BKo
        have BKo := n0_
        clear n0_
        clear hb
        refine hK.out _ _ ⟨(blk_cell (blk_below (g := gb1) (o := .cells #[.slice A0_0 l0_0.length c0_0] 24 (0, 0)) BK3.out HBo.out) 0).trans rfl, (blk_cell (blk_below (g := gb7) (o := .cells #[.slice A1_0 l1_0.length c1_0] 24 (0, 0)) BK9.out HBo.out) 0).trans rfl, (blk_cell (blk_below (g := gb95) (o := .cells #[.slice Ao96 r0.length co97] 26 (0, 0)) BK93.out HBo.out) 0).trans rfl, (blk_cell (blk_below (g := gb114) (o := .cells #[.slice Ao110 l0_0.length co111] 26 (0, 0)) BK116.out HBo.out) 0).trans rfl, (blk_cell (blk_below (g := gb129) (o := .cells #[.slice Ao125 l1_0.length co126] 26 (0, 0)) BK131.out HBo.out) 0).trans rfl, (blk_cell (blk_below (g := gb145) (o := .cells #[.slice Ao141 r0.length co142] 26 (0, 0)) BK147.out HBo.out) 0).trans rfl⟩ (fun hHeld => ?_)
        clear hK K
        refine norm_ (a' := ?_) ?_ ?_
        rotate_left
        · show Act.put _ (some 99) _ = _
          simp only [Act.put, List.setIfInBounds_toArray, List.set_cons_zero, List.set_cons_succ, i64_w, i32_w]
          rfl
        refine pure_ (i := 5) (N := some 94) (v := ?_) (a' := ?_) #[true, true, true, true, true, true, false, false, true, false, false] rfl rfl (by kernel_rfl) (fun _ _ _ h => h) (Or.inl ⟨by rfl, ?_⟩) ?_ ?_
        rotate_left
        · intro w'
          go_simp
          with_reducible rfl
        rotate_left
        · simp only [putAll, Act.put, List.setIfInBounds_toArray, List.set_cons_zero, List.set_cons_succ, i64_w, i32_w]
          rfl
        refine pure_ (i := 6) (N := some 100) (v := ?_) (a' := ?_) #[true, true, true, true, true, true, true, false, true, false, false] rfl rfl (by kernel_rfl) (fun _ _ _ h => h) (Or.inl ⟨by rfl, ?_⟩) ?_ ?_
        rotate_left
        · intro w'
          go_simp
          with_reducible rfl
        rotate_left
        · simp only [putAll, Act.put, List.setIfInBounds_toArray, List.set_cons_zero, List.set_cons_succ, i64_w, i32_w]
          rfl
        refine pure_ (i := 7) (N := some 101) (v := ?_) (a' := ?_) #[true, true, true, true, true, true, true, true, true, false, false] rfl rfl (by kernel_rfl) (fun _ _ _ h => h) (Or.inl ⟨by rfl, ?_⟩) ?_ ?_
        rotate_left
        · intro w'
          go_simp
          with_reducible rfl
        rotate_left
        · simp only [putAll, Act.put, List.setIfInBounds_toArray, List.set_cons_zero, List.set_cons_succ, i64_w, i32_w]
          rfl
        exact norm_ (by first | rfl | (simp only [putAll, Act.put, List.setIfInBounds_toArray, List.set_cons_zero, List.set_cons_succ, i64_w, i32_w]) <;> rfl) (hcont (.agg #[.slice Ao197 l0_0.length co198], .agg #[.slice Ao230 l1_0.length co231], jA0, jc0, jgb, w226.heap.size, w233.heap.size) w233 ⟨HBo.out, F236.out, BKo.out, by have z0_ := Z199.out; have z1_ := Z224.out; have z2_ := Z225.out; have z3_ := Z232.out; have z4_ := Z237.out; have zo_ := HBo.out.size; omega, by have z0_ := Z199.out; have z1_ := Z224.out; have z2_ := Z225.out; have z3_ := Z232.out; have z4_ := Z237.out; have zo_ := HBo.out.size; omega, by have z0_ := Z199.out; have z1_ := Z224.out; have z2_ := Z225.out; have z3_ := Z232.out; have z4_ := Z237.out; have zo_ := HBo.out.size; omega, by have z0_ := Z199.out; have z1_ := Z224.out; have z2_ := Z225.out; have z3_ := Z232.out; have z4_ := Z237.out; have zo_ := HBo.out.size; omega, by have z0_ := Z199.out; have z1_ := Z224.out; have z2_ := Z225.out; have z3_ := Z232.out; have z4_ := Z237.out; have zo_ := HBo.out.size; omega, by have z0_ := Z199.out; have z1_ := Z224.out; have z2_ := Z225.out; have z3_ := Z232.out; have z4_ := Z237.out; have zo_ := HBo.out.size; omega⟩)
    · refine value_ (w1 := (w191.alloc (.cells #[.slice none 0 0] 26 (0, 0)))) (v := .pointer (some ⟨w191.heap.size, 0, none⟩)) (by rfl) rfl (by first | (go_simp; done) | (go_simp; rfl)) ?_
      have hbox := blk_new w191 (.cells #[.slice none 0 0] 26 (0, 0))
      have hb := below_alloc (Below.refl w191.heap.size w191) (.cells #[.slice none 0 0] 26 (0, 0))
      generalize w191.alloc (.cells #[.slice none 0 0] 26 (0, 0)) = w238 at hbox hb ⊢
      have Z239 : Aside0 (w191.heap.size < w238.heap.size) := Aside0.mk (blk_lt hbox)
      obtain ⟨jgb, hgb⟩ : ∃ gb, gb = w191.heap.size := ⟨_, rfl⟩
      rw [← hgb] at hbox ⊢
      have Z240 := Aside0.mk hgb
      have BKo := Aside0.mk hbox
      clear hgb hbox
      have n0_ := Aside0.mk (HBo.out.trans (hb.mono HBo.out.size))
      clear HBo
      have HBo := n0_
      clear n0_
      clear hb
      refine hK.out _ _ ⟨(blk_cell (blk_below (g := gb1) (o := .cells #[.slice A0_0 l0_0.length c0_0] 24 (0, 0)) BK3.out HBo.out) 0).trans rfl, (blk_cell (blk_below (g := gb7) (o := .cells #[.slice A1_0 l1_0.length c1_0] 24 (0, 0)) BK9.out HBo.out) 0).trans rfl, (blk_cell (blk_below (g := gb95) (o := .cells #[.slice Ao96 r0.length co97] 26 (0, 0)) BK93.out HBo.out) 0).trans rfl, (blk_cell (blk_below (g := gb114) (o := .cells #[.slice Ao110 l0_0.length co111] 26 (0, 0)) BK116.out HBo.out) 0).trans rfl, (blk_cell (blk_below (g := gb129) (o := .cells #[.slice Ao125 l1_0.length co126] 26 (0, 0)) BK131.out HBo.out) 0).trans rfl, (blk_cell (blk_below (g := gb145) (o := .cells #[.slice Ao141 r0.length co142] 26 (0, 0)) BK147.out HBo.out) 0).trans rfl⟩ (fun hHeld => ?_)
      clear hK K
      refine norm_ (a' := ?_) ?_ ?_
      rotate_left
      · show Act.put _ (some 15) _ = _
        simp only [Act.put, List.setIfInBounds_toArray, List.set_cons_zero, List.set_cons_succ, i64_w, i32_w]
        rfl
      refine one_ (i := 1) (N := some 96) #[true, true, true, false, false, false, false, false, true, false, false] rfl rfl (by kernel_rfl) (by decide) (fun K hK => ?_)
      refine goes_ Try.func10 (by kernel_rfl) rfl #[.agg #[.slice A0_0 l0_0.length c0_0]] (by rfl) rfl rfl (by (try simp only [List.map_toArray, List.map_cons, List.map_nil]); first | done | rfl) ?_
      with_reducible refine (laws_toGame.calls k _ _ l0_0 l0_0 _ ?side1 ?side2 E_laws_toGame_22.out).mono ?_
      (case side1 => exact Kd.C_below (Kd.C_below HR0_0.out HB.out) HBo.out)
      (case side2 => exact HC0_0.out)
      rintro e w241 ⟨v242, rfl, ho243, hb⟩
      refine ⟨_, rfl, ?_⟩
      obtain ⟨Ao245, co246, e_Ao245⟩ := Kd.S_slice ho243
      subst e_Ao245
      have F244 := Aside0.mk (S_ivl ho243 (Nat.le_trans HB.out.size HBo.out.size))
      have Z247 : Aside0 (w238.heap.size ≤ w241.heap.size) := Aside0.mk hb.size
      clear ho243
      have n0_ := Aside0.mk (HBo.out.trans (hb.mono HBo.out.size))
      clear HBo
      have HBo := n0_
      clear n0_
      have n0_ := Aside0.mk (blk_below (g := jgb) (o := .cells #[.slice none 0 0] 26 (0, 0)) BKo.out hb)
      clear BKo
      have BKo := n0_
      clear n0_
      clear hb
      refine hK.out _ _ ⟨(blk_cell (blk_below (g := gb1) (o := .cells #[.slice A0_0 l0_0.length c0_0] 24 (0, 0)) BK3.out HBo.out) 0).trans rfl, (blk_cell (blk_below (g := gb7) (o := .cells #[.slice A1_0 l1_0.length c1_0] 24 (0, 0)) BK9.out HBo.out) 0).trans rfl, (blk_cell (blk_below (g := gb95) (o := .cells #[.slice Ao96 r0.length co97] 26 (0, 0)) BK93.out HBo.out) 0).trans rfl, (blk_cell (blk_below (g := gb114) (o := .cells #[.slice Ao110 l0_0.length co111] 26 (0, 0)) BK116.out HBo.out) 0).trans rfl, (blk_cell (blk_below (g := gb129) (o := .cells #[.slice Ao125 l1_0.length co126] 26 (0, 0)) BK131.out HBo.out) 0).trans rfl, (blk_cell (blk_below (g := gb145) (o := .cells #[.slice Ao141 r0.length co142] 26 (0, 0)) BK147.out HBo.out) 0).trans rfl⟩ (fun hHeld => ?_)
      clear hK K
      refine norm_ (a' := ?_) ?_ ?_
      rotate_left
      · show Act.put _ (some 96) _ = _
        simp only [Act.put, List.setIfInBounds_toArray, List.set_cons_zero, List.set_cons_succ, i64_w, i32_w]
        rfl
      refine one_ (i := 3) (N := some 98) #[true, true, true, true, false, false, false, false, true, false, false] rfl rfl (by kernel_rfl) (by decide) (fun K hK => ?_)
      refine goes_ Try.func10 (by kernel_rfl) rfl #[.agg #[.slice A1_0 l1_0.length c1_0]] (by rfl) rfl rfl (by (try simp only [List.map_toArray, List.map_cons, List.map_nil]); first | done | rfl) ?_
      with_reducible refine (laws_toGame.calls k _ _ l1_0 l1_0 _ ?side1 ?side2 E_laws_toGame_30.out).mono ?_
      (case side1 => exact Kd.C_below (Kd.C_below HR1_0.out HB.out) HBo.out)
      (case side2 => exact HC1_0.out)
      rintro e w248 ⟨v249, rfl, ho250, hb⟩
      refine ⟨_, rfl, ?_⟩
      obtain ⟨Ao252, co253, e_Ao252⟩ := Kd.S_slice ho250
      subst e_Ao252
      have F251 := Aside0.mk (S_ivl ho250 (Nat.le_trans HB.out.size HBo.out.size))
      have Z254 : Aside0 (w241.heap.size ≤ w248.heap.size) := Aside0.mk hb.size
      clear ho250
      have n0_ := Aside0.mk (HBo.out.trans (hb.mono HBo.out.size))
      clear HBo
      have HBo := n0_
      clear n0_
      have n0_ := Aside0.mk (Kd.S_below F244.out hb)
      clear F244
      have F244 := n0_
      clear n0_
      have n0_ := Aside0.mk (blk_below (g := jgb) (o := .cells #[.slice none 0 0] 26 (0, 0)) BKo.out hb)
      clear BKo
      have BKo := n0_
      clear n0_
      clear hb
      refine hK.out _ _ ⟨(blk_cell (blk_below (g := gb1) (o := .cells #[.slice A0_0 l0_0.length c0_0] 24 (0, 0)) BK3.out HBo.out) 0).trans rfl, (blk_cell (blk_below (g := gb7) (o := .cells #[.slice A1_0 l1_0.length c1_0] 24 (0, 0)) BK9.out HBo.out) 0).trans rfl, (blk_cell (blk_below (g := gb95) (o := .cells #[.slice Ao96 r0.length co97] 26 (0, 0)) BK93.out HBo.out) 0).trans rfl, (blk_cell (blk_below (g := gb114) (o := .cells #[.slice Ao110 l0_0.length co111] 26 (0, 0)) BK116.out HBo.out) 0).trans rfl, (blk_cell (blk_below (g := gb129) (o := .cells #[.slice Ao125 l1_0.length co126] 26 (0, 0)) BK131.out HBo.out) 0).trans rfl, (blk_cell (blk_below (g := gb145) (o := .cells #[.slice Ao141 r0.length co142] 26 (0, 0)) BK147.out HBo.out) 0).trans rfl⟩ (fun hHeld => ?_)
      clear hK K
      refine norm_ (a' := ?_) ?_ ?_
      rotate_left
      · show Act.put _ (some 98) _ = _
        simp only [Act.put, List.setIfInBounds_toArray, List.set_cons_zero, List.set_cons_succ, i64_w, i32_w]
        rfl
      refine one_ (i := 4) (N := some 99) #[true, true, true, true, true, false, false, false, true, false, false] rfl rfl (by kernel_rfl) (by decide) (fun K hK => ?_)
      refine goes_ Try.func11 (by kernel_rfl) rfl #[.agg #[.slice Ao245 l0_0.length co246], .agg #[.slice Ao252 l1_0.length co253]] (by rfl) rfl rfl (by (try simp only [List.map_toArray, List.map_cons, List.map_nil]); first | done | rfl) ?_
      with_reducible refine (impl_SumOfGames.calls k _ _ l0_0 _ _ l1_0 r0 r1 _ ?side1 ?side2 ?side3 ?side4 E_impl_SumOfGames_138.out).mono ?_
      (case side1 => exact (Kd.S_reads' F244.out).2.2)
      (case side2 => exact (Kd.S_reads' F244.out).2.1)
      (case side3 => exact (Kd.S_reads' F251.out).2.2)
      (case side4 => exact (Kd.S_reads' F251.out).2.1)
      rintro e w255 ⟨v256, rfl, ho257, hb⟩
      refine ⟨_, rfl, ?_⟩
      obtain ⟨jA0, jc0, e_jA0⟩ := Kd.S_slice ho257
      subst e_jA0
      have F258 := Aside0.mk (S_ivl ho257 (Nat.le_trans HB.out.size HBo.out.size))
      have Z259 : Aside0 (w248.heap.size ≤ w255.heap.size) := Aside0.mk hb.size
      clear ho257
      have n0_ := Aside0.mk (HBo.out.trans (hb.mono HBo.out.size))
      clear HBo
      have HBo := n0_
      clear n0_
      have n0_ := Aside0.mk (Kd.S_below F244.out hb)
      clear F244
      have F244 := n0_
      clear n0_
      have n0_ := Aside0.mk (Kd.S_below F251.out hb)
      clear F251
      have F251 := n0_
      clear n0_
      have n0_ := Aside0.mk (blk_below (g := jgb) (o := .cells #[.slice none 0 0] 26 (0, 0)) BKo.out hb)
      clear BKo
      have BKo := n0_
      clear n0_
      clear hb
      refine hK.out _ _ ⟨(blk_cell (blk_below (g := gb1) (o := .cells #[.slice A0_0 l0_0.length c0_0] 24 (0, 0)) BK3.out HBo.out) 0).trans rfl, (blk_cell (blk_below (g := gb7) (o := .cells #[.slice A1_0 l1_0.length c1_0] 24 (0, 0)) BK9.out HBo.out) 0).trans rfl, (blk_cell (blk_below (g := gb95) (o := .cells #[.slice Ao96 r0.length co97] 26 (0, 0)) BK93.out HBo.out) 0).trans rfl, (blk_cell (blk_below (g := gb114) (o := .cells #[.slice Ao110 l0_0.length co111] 26 (0, 0)) BK116.out HBo.out) 0).trans rfl, (blk_cell (blk_below (g := gb129) (o := .cells #[.slice Ao125 l1_0.length co126] 26 (0, 0)) BK131.out HBo.out) 0).trans rfl, (blk_cell (blk_below (g := gb145) (o := .cells #[.slice Ao141 r0.length co142] 26 (0, 0)) BK147.out HBo.out) 0).trans rfl⟩ (fun hHeld => ?_)
      clear hK K
      refine norm_ (a' := ?_) ?_ ?_
      rotate_left
      · show Act.put _ (some 99) _ = _
        simp only [Act.put, List.setIfInBounds_toArray, List.set_cons_zero, List.set_cons_succ, i64_w, i32_w]
        rfl
      refine pure_ (i := 5) (N := some 94) (v := ?_) (a' := ?_) #[true, true, true, true, true, true, false, false, true, false, false] rfl rfl (by kernel_rfl) (fun _ _ _ h => h) (Or.inl ⟨by rfl, ?_⟩) ?_ ?_
      rotate_left
      · intro w'
        go_simp
        with_reducible rfl
      rotate_left
      · simp only [putAll, Act.put, List.setIfInBounds_toArray, List.set_cons_zero, List.set_cons_succ, i64_w, i32_w]
        rfl
      refine pure_ (i := 6) (N := some 100) (v := ?_) (a' := ?_) #[true, true, true, true, true, true, true, false, true, false, false] rfl rfl (by kernel_rfl) (fun _ _ _ h => h) (Or.inl ⟨by rfl, ?_⟩) ?_ ?_
      rotate_left
      · intro w'
        go_simp
        with_reducible rfl
      rotate_left
      · simp only [putAll, Act.put, List.setIfInBounds_toArray, List.set_cons_zero, List.set_cons_succ, i64_w, i32_w]
        rfl
      refine pure_ (i := 7) (N := some 101) (v := ?_) (a' := ?_) #[true, true, true, true, true, true, true, true, true, false, false] rfl rfl (by kernel_rfl) (fun _ _ _ h => h) (Or.inl ⟨by rfl, ?_⟩) ?_ ?_
      rotate_left
      · intro w'
        go_simp
        with_reducible rfl
      rotate_left
      · simp only [putAll, Act.put, List.setIfInBounds_toArray, List.set_cons_zero, List.set_cons_succ, i64_w, i32_w]
        rfl
      exact norm_ (by first | rfl | (simp only [putAll, Act.put, List.setIfInBounds_toArray, List.set_cons_zero, List.set_cons_succ, i64_w, i32_w]) <;> rfl) (hcont (.agg #[.slice Ao245 l0_0.length co246], .agg #[.slice Ao252 l1_0.length co253], jA0, jc0, jgb, w248.heap.size, w255.heap.size) w255 ⟨HBo.out, F258.out, BKo.out, by have z0_ := Z239.out; have z1_ := Z240.out; have z2_ := Z247.out; have z3_ := Z254.out; have z4_ := Z259.out; have zo_ := HBo.out.size; omega, by have z0_ := Z239.out; have z1_ := Z240.out; have z2_ := Z247.out; have z3_ := Z254.out; have z4_ := Z259.out; have zo_ := HBo.out.size; omega, by have z0_ := Z239.out; have z1_ := Z240.out; have z2_ := Z247.out; have z3_ := Z254.out; have z4_ := Z259.out; have zo_ := HBo.out.size; omega, by have z0_ := Z239.out; have z1_ := Z240.out; have z2_ := Z247.out; have z3_ := Z254.out; have z4_ := Z259.out; have zo_ := HBo.out.size; omega, by have z0_ := Z239.out; have z1_ := Z240.out; have z2_ := Z247.out; have z3_ := Z254.out; have z4_ := Z259.out; have zo_ := HBo.out.size; omega, by have z0_ := Z239.out; have z1_ := Z240.out; have z2_ := Z247.out; have z3_ := Z254.out; have z4_ := Z259.out; have zo_ := HBo.out.size; omega⟩)
  rintro ⟨ju0, ju1, Ao265, co266, gb264, lo267, hi268⟩ w260 hF
  obtain ⟨hb, hS_, hbox, h1_, h2_, h3_, h4_, h5_, h6_⟩ := hF
  have F261 := Aside0.mk hS_
  have BK262 := Aside0.mk hbox
  have GP263 := Aside0.mk (show w191.heap.size ≤ gb264 ∧ gb264 < w260.heap.size ∧ (gb264 < lo267 ∨ hi268 ≤ gb264) from ⟨h4_, h5_, h6_⟩)
  have Z269 : Aside0 (w191.heap.size ≤ w260.heap.size) := Aside0.mk (hb.size)
  have n0_ := Aside0.mk (below_then HB.out HB.out.size hb)
  have n1_ := Aside0.mk (blk_below (g := gb1) (o := .cells #[.slice A0_0 l0_0.length c0_0] 24 (0, 0)) BK3.out hb)
  have n2_ := Aside0.mk (blk_below (g := gb7) (o := .cells #[.slice A1_0 l1_0.length c1_0] 24 (0, 0)) BK9.out hb)
  have n3_ := Aside0.mk (Kd.S_below F92.out hb)
  have n4_ := Aside0.mk (blk_below (g := gb95) (o := .cells #[.slice Ao96 r0.length co97] 26 (0, 0)) BK93.out hb)
  have n5_ := Aside0.mk (Kd.S_below F112.out hb)
  have n6_ := Aside0.mk (blk_below (g := gb114) (o := .cells #[.slice Ao110 l0_0.length co111] 26 (0, 0)) BK116.out hb)
  have n7_ := Aside0.mk (Kd.S_below F127.out hb)
  have n8_ := Aside0.mk (blk_below (g := gb129) (o := .cells #[.slice Ao125 l1_0.length co126] 26 (0, 0)) BK131.out hb)
  have n9_ := Aside0.mk (Kd.S_below F143.out hb)
  have n10_ := Aside0.mk (blk_below (g := gb145) (o := .cells #[.slice Ao141 r0.length co142] 26 (0, 0)) BK147.out hb)
  have n11_ := Aside0.mk (Kd.S_below F163.out hb)
  have n12_ := Aside0.mk (Kd.S_below F175.out hb)
  clear HB BK3 BK9 F92 BK93 F112 BK116 F127 BK131 F143 BK147 F163 F175
  have HB := n0_
  have BK3 := n1_
  have BK9 := n2_
  have F92 := n3_
  have BK93 := n4_
  have F112 := n5_
  have BK116 := n6_
  have F127 := n7_
  have BK131 := n8_
  have F143 := n9_
  have BK147 := n10_
  have F163 := n11_
  have F175 := n12_
  clear n0_ n1_ n2_ n3_ n4_ n5_ n6_ n7_ n8_ n9_ n10_ n11_ n12_
  have Z270 : Aside0 (w191.heap.size ≤ lo267) := Aside0.mk (by omega)
  have Z271 : Aside0 (lo267 ≤ hi268) := Aside0.mk (by omega)
  have Z272 : Aside0 (hi268 ≤ w260.heap.size) := Aside0.mk (by omega)
  have Z273 : Aside0 (gb264 < w260.heap.size) := Aside0.mk (by omega)
  clear hb hS_ hbox h1_ h2_ h3_ h4_ h5_ h6_
  refine norm_ (a' := ?_) ?_ ?_
  rotate_left
  · simp only [putAll, Act.put, List.setIfInBounds_toArray, List.set_cons_zero, List.set_cons_succ, i64_w, i32_w]
    rfl
  (try clear hz_gb1_0)
  have hz_gb1_0 : w260.cell? ⟨gb1, 0, none⟩ = some (.slice A0_0 l0_0.length c0_0) := (blk_cell BK3.out 0).trans rfl
  (try clear hf_gb1_0)
  have hf_gb1_0 := blk_frozen BK3.out 0
  (try clear hz_gb7_0)
  have hz_gb7_0 : w260.cell? ⟨gb7, 0, none⟩ = some (.slice A1_0 l1_0.length c1_0) := (blk_cell BK9.out 0).trans rfl
  (try clear hf_gb7_0)
  have hf_gb7_0 := blk_frozen BK9.out 0
  (try clear hz_gb95_0)
  have hz_gb95_0 : w260.cell? ⟨gb95, 0, none⟩ = some (.slice Ao96 r0.length co97) := (blk_cell BK93.out 0).trans rfl
  (try clear hf_gb95_0)
  have hf_gb95_0 := blk_frozen BK93.out 0
  (try clear hz_gb114_0)
  have hz_gb114_0 : w260.cell? ⟨gb114, 0, none⟩ = some (.slice Ao110 l0_0.length co111) := (blk_cell BK116.out 0).trans rfl
  (try clear hf_gb114_0)
  have hf_gb114_0 := blk_frozen BK116.out 0
  (try clear hz_gb129_0)
  have hz_gb129_0 : w260.cell? ⟨gb129, 0, none⟩ = some (.slice Ao125 l1_0.length co126) := (blk_cell BK131.out 0).trans rfl
  (try clear hf_gb129_0)
  have hf_gb129_0 := blk_frozen BK131.out 0
  (try clear hz_gb145_0)
  have hz_gb145_0 : w260.cell? ⟨gb145, 0, none⟩ = some (.slice Ao141 r0.length co142) := (blk_cell BK147.out 0).trans rfl
  (try clear hf_gb145_0)
  have hf_gb145_0 := blk_frozen BK147.out 0
  (try clear hz_gb264_0)
  have hz_gb264_0 : w260.cell? ⟨gb264, 0, none⟩ = some (.slice none 0 0) := (blk_cell BK262.out 0).trans rfl
  (try clear hf_gb264_0)
  have hf_gb264_0 := blk_frozen BK262.out 0
  refine one_ (i := 9) (N := none) #[true, true, true, true, true, true, true, true, true, true, false] rfl rfl (by kernel_rfl) (by decide) (fun K hK => ?_)
  refine skip_ (w1 := (w260.setCell ⟨gb264, 0, none⟩ (.slice Ao265 r0.length co266))) (by rfl) rfl (by first | (go_simp; done) | (go_simp; rfl)) ?_
  obtain ⟨w274, hw⟩ : ∃ w_, w_ = (w260.setCell ⟨gb264, 0, none⟩ (.slice Ao265 r0.length co266)) := ⟨_, rfl⟩
  rw [← hw]
  have Z275 : Aside0 (w260.heap.size ≤ w274.heap.size) := Aside0.mk (by rw [hw]; simp [World.setCell])
  have n0_ := Aside0.mk ((by rw [hw]; exact below_set (HB.out) (by have z0_ := Z5.out; have z1_ := Z6.out; have z2_ := Z11.out; have z3_ := Z12.out; have z4_ := Z15.out; have z5_ := Z18.out; have z6_ := Z20.out; have z7_ := Z100.out; have z8_ := Z101.out; have z9_ := Z102.out; have z10_ := Z103.out; have z11_ := Z104.out; have z12_ := Z106.out; have z13_ := Z113.out; have z14_ := Z118.out; have z15_ := Z119.out; have z16_ := Z121.out; have z17_ := Z128.out; have z18_ := Z133.out; have z19_ := Z134.out; have z20_ := Z136.out; have z21_ := Z144.out; have z22_ := Z149.out; have z23_ := Z150.out; have z24_ := Z152.out; have z25_ := Z155.out; have z26_ := Z157.out; have z27_ := Z164.out; have z28_ := Z167.out; have z29_ := Z169.out; have z30_ := Z176.out; have z31_ := Z179.out; have z32_ := Z181.out; have z33_ := Z183.out; have z34_ := Z185.out; have z35_ := Z187.out; have z36_ := Z190.out; have z37_ := Z192.out; have z38_ := Z269.out; have z39_ := Z270.out; have z40_ := Z271.out; have z41_ := Z272.out; have z42_ := Z273.out; have g_ := GP263.out; have hb_ := HB.out.size; omega) : Below w.heap.size w w274))
  have n1_ := Aside0.mk ((by rw [hw]; exact blk_far (BK3.out) (by have z0_ := Z5.out; have z1_ := Z6.out; have z2_ := Z11.out; have z3_ := Z12.out; have z4_ := Z15.out; have z5_ := Z18.out; have z6_ := Z20.out; have z7_ := Z100.out; have z8_ := Z101.out; have z9_ := Z102.out; have z10_ := Z103.out; have z11_ := Z104.out; have z12_ := Z106.out; have z13_ := Z113.out; have z14_ := Z118.out; have z15_ := Z119.out; have z16_ := Z121.out; have z17_ := Z128.out; have z18_ := Z133.out; have z19_ := Z134.out; have z20_ := Z136.out; have z21_ := Z144.out; have z22_ := Z149.out; have z23_ := Z150.out; have z24_ := Z152.out; have z25_ := Z155.out; have z26_ := Z157.out; have z27_ := Z164.out; have z28_ := Z167.out; have z29_ := Z169.out; have z30_ := Z176.out; have z31_ := Z179.out; have z32_ := Z181.out; have z33_ := Z183.out; have z34_ := Z185.out; have z35_ := Z187.out; have z36_ := Z190.out; have z37_ := Z192.out; have z38_ := Z269.out; have z39_ := Z270.out; have z40_ := Z271.out; have z41_ := Z272.out; have z42_ := Z273.out; have g1_ := GP4.out; have g2_ := GP263.out; show gb1 ≠ gb264; omega) _ : w274.heap[gb1]? = some (.cells #[.slice A0_0 l0_0.length c0_0] 24 (0, 0))))
  have n2_ := Aside0.mk ((by rw [hw]; exact blk_far (BK9.out) (by have z0_ := Z5.out; have z1_ := Z6.out; have z2_ := Z11.out; have z3_ := Z12.out; have z4_ := Z15.out; have z5_ := Z18.out; have z6_ := Z20.out; have z7_ := Z100.out; have z8_ := Z101.out; have z9_ := Z102.out; have z10_ := Z103.out; have z11_ := Z104.out; have z12_ := Z106.out; have z13_ := Z113.out; have z14_ := Z118.out; have z15_ := Z119.out; have z16_ := Z121.out; have z17_ := Z128.out; have z18_ := Z133.out; have z19_ := Z134.out; have z20_ := Z136.out; have z21_ := Z144.out; have z22_ := Z149.out; have z23_ := Z150.out; have z24_ := Z152.out; have z25_ := Z155.out; have z26_ := Z157.out; have z27_ := Z164.out; have z28_ := Z167.out; have z29_ := Z169.out; have z30_ := Z176.out; have z31_ := Z179.out; have z32_ := Z181.out; have z33_ := Z183.out; have z34_ := Z185.out; have z35_ := Z187.out; have z36_ := Z190.out; have z37_ := Z192.out; have z38_ := Z269.out; have z39_ := Z270.out; have z40_ := Z271.out; have z41_ := Z272.out; have z42_ := Z273.out; have g1_ := GP10.out; have g2_ := GP263.out; show gb7 ≠ gb264; omega) _ : w274.heap[gb7]? = some (.cells #[.slice A1_0 l1_0.length c1_0] 24 (0, 0))))
  have n3_ := Aside0.mk (hw.symm ▸ (Kd.S_far (p := ⟨gb264, 0, none⟩) (F92.out) (fun k_ h_ => by have z0_ := Z5.out; have z1_ := Z6.out; have z2_ := Z11.out; have z3_ := Z12.out; have z4_ := Z15.out; have z5_ := Z18.out; have z6_ := Z20.out; have z7_ := Z100.out; have z8_ := Z101.out; have z9_ := Z102.out; have z10_ := Z103.out; have z11_ := Z104.out; have z12_ := Z106.out; have z13_ := Z113.out; have z14_ := Z118.out; have z15_ := Z119.out; have z16_ := Z121.out; have z17_ := Z128.out; have z18_ := Z133.out; have z19_ := Z134.out; have z20_ := Z136.out; have z21_ := Z144.out; have z22_ := Z149.out; have z23_ := Z150.out; have z24_ := Z152.out; have z25_ := Z155.out; have z26_ := Z157.out; have z27_ := Z164.out; have z28_ := Z167.out; have z29_ := Z169.out; have z30_ := Z176.out; have z31_ := Z179.out; have z32_ := Z181.out; have z33_ := Z183.out; have z34_ := Z185.out; have z35_ := Z187.out; have z36_ := Z190.out; have z37_ := Z192.out; have z38_ := Z269.out; have z39_ := Z270.out; have z40_ := Z271.out; have z41_ := Z272.out; have z42_ := Z273.out; have g_ := GP263.out; unfold Ivl at h_; show k_ ≠ gb264; omega) _))
  have n4_ := Aside0.mk ((by rw [hw]; exact blk_far (BK93.out) (by have z0_ := Z5.out; have z1_ := Z6.out; have z2_ := Z11.out; have z3_ := Z12.out; have z4_ := Z15.out; have z5_ := Z18.out; have z6_ := Z20.out; have z7_ := Z100.out; have z8_ := Z101.out; have z9_ := Z102.out; have z10_ := Z103.out; have z11_ := Z104.out; have z12_ := Z106.out; have z13_ := Z113.out; have z14_ := Z118.out; have z15_ := Z119.out; have z16_ := Z121.out; have z17_ := Z128.out; have z18_ := Z133.out; have z19_ := Z134.out; have z20_ := Z136.out; have z21_ := Z144.out; have z22_ := Z149.out; have z23_ := Z150.out; have z24_ := Z152.out; have z25_ := Z155.out; have z26_ := Z157.out; have z27_ := Z164.out; have z28_ := Z167.out; have z29_ := Z169.out; have z30_ := Z176.out; have z31_ := Z179.out; have z32_ := Z181.out; have z33_ := Z183.out; have z34_ := Z185.out; have z35_ := Z187.out; have z36_ := Z190.out; have z37_ := Z192.out; have z38_ := Z269.out; have z39_ := Z270.out; have z40_ := Z271.out; have z41_ := Z272.out; have z42_ := Z273.out; have g1_ := GP94.out; have g2_ := GP263.out; show gb95 ≠ gb264; omega) _ : w274.heap[gb95]? = some (.cells #[.slice Ao96 r0.length co97] 26 (0, 0))))
  have n5_ := Aside0.mk (hw.symm ▸ (Kd.S_far (p := ⟨gb264, 0, none⟩) (F112.out) (fun k_ h_ => by have z0_ := Z5.out; have z1_ := Z6.out; have z2_ := Z11.out; have z3_ := Z12.out; have z4_ := Z15.out; have z5_ := Z18.out; have z6_ := Z20.out; have z7_ := Z100.out; have z8_ := Z101.out; have z9_ := Z102.out; have z10_ := Z103.out; have z11_ := Z104.out; have z12_ := Z106.out; have z13_ := Z113.out; have z14_ := Z118.out; have z15_ := Z119.out; have z16_ := Z121.out; have z17_ := Z128.out; have z18_ := Z133.out; have z19_ := Z134.out; have z20_ := Z136.out; have z21_ := Z144.out; have z22_ := Z149.out; have z23_ := Z150.out; have z24_ := Z152.out; have z25_ := Z155.out; have z26_ := Z157.out; have z27_ := Z164.out; have z28_ := Z167.out; have z29_ := Z169.out; have z30_ := Z176.out; have z31_ := Z179.out; have z32_ := Z181.out; have z33_ := Z183.out; have z34_ := Z185.out; have z35_ := Z187.out; have z36_ := Z190.out; have z37_ := Z192.out; have z38_ := Z269.out; have z39_ := Z270.out; have z40_ := Z271.out; have z41_ := Z272.out; have z42_ := Z273.out; have g_ := GP263.out; unfold Ivl at h_; show k_ ≠ gb264; omega) _))
  have n6_ := Aside0.mk ((by rw [hw]; exact blk_far (BK116.out) (by have z0_ := Z5.out; have z1_ := Z6.out; have z2_ := Z11.out; have z3_ := Z12.out; have z4_ := Z15.out; have z5_ := Z18.out; have z6_ := Z20.out; have z7_ := Z100.out; have z8_ := Z101.out; have z9_ := Z102.out; have z10_ := Z103.out; have z11_ := Z104.out; have z12_ := Z106.out; have z13_ := Z113.out; have z14_ := Z118.out; have z15_ := Z119.out; have z16_ := Z121.out; have z17_ := Z128.out; have z18_ := Z133.out; have z19_ := Z134.out; have z20_ := Z136.out; have z21_ := Z144.out; have z22_ := Z149.out; have z23_ := Z150.out; have z24_ := Z152.out; have z25_ := Z155.out; have z26_ := Z157.out; have z27_ := Z164.out; have z28_ := Z167.out; have z29_ := Z169.out; have z30_ := Z176.out; have z31_ := Z179.out; have z32_ := Z181.out; have z33_ := Z183.out; have z34_ := Z185.out; have z35_ := Z187.out; have z36_ := Z190.out; have z37_ := Z192.out; have z38_ := Z269.out; have z39_ := Z270.out; have z40_ := Z271.out; have z41_ := Z272.out; have z42_ := Z273.out; have g1_ := GP117.out; have g2_ := GP263.out; show gb114 ≠ gb264; omega) _ : w274.heap[gb114]? = some (.cells #[.slice Ao110 l0_0.length co111] 26 (0, 0))))
  have n7_ := Aside0.mk (hw.symm ▸ (Kd.S_far (p := ⟨gb264, 0, none⟩) (F127.out) (fun k_ h_ => by have z0_ := Z5.out; have z1_ := Z6.out; have z2_ := Z11.out; have z3_ := Z12.out; have z4_ := Z15.out; have z5_ := Z18.out; have z6_ := Z20.out; have z7_ := Z100.out; have z8_ := Z101.out; have z9_ := Z102.out; have z10_ := Z103.out; have z11_ := Z104.out; have z12_ := Z106.out; have z13_ := Z113.out; have z14_ := Z118.out; have z15_ := Z119.out; have z16_ := Z121.out; have z17_ := Z128.out; have z18_ := Z133.out; have z19_ := Z134.out; have z20_ := Z136.out; have z21_ := Z144.out; have z22_ := Z149.out; have z23_ := Z150.out; have z24_ := Z152.out; have z25_ := Z155.out; have z26_ := Z157.out; have z27_ := Z164.out; have z28_ := Z167.out; have z29_ := Z169.out; have z30_ := Z176.out; have z31_ := Z179.out; have z32_ := Z181.out; have z33_ := Z183.out; have z34_ := Z185.out; have z35_ := Z187.out; have z36_ := Z190.out; have z37_ := Z192.out; have z38_ := Z269.out; have z39_ := Z270.out; have z40_ := Z271.out; have z41_ := Z272.out; have z42_ := Z273.out; have g_ := GP263.out; unfold Ivl at h_; show k_ ≠ gb264; omega) _))
  have n8_ := Aside0.mk ((by rw [hw]; exact blk_far (BK131.out) (by have z0_ := Z5.out; have z1_ := Z6.out; have z2_ := Z11.out; have z3_ := Z12.out; have z4_ := Z15.out; have z5_ := Z18.out; have z6_ := Z20.out; have z7_ := Z100.out; have z8_ := Z101.out; have z9_ := Z102.out; have z10_ := Z103.out; have z11_ := Z104.out; have z12_ := Z106.out; have z13_ := Z113.out; have z14_ := Z118.out; have z15_ := Z119.out; have z16_ := Z121.out; have z17_ := Z128.out; have z18_ := Z133.out; have z19_ := Z134.out; have z20_ := Z136.out; have z21_ := Z144.out; have z22_ := Z149.out; have z23_ := Z150.out; have z24_ := Z152.out; have z25_ := Z155.out; have z26_ := Z157.out; have z27_ := Z164.out; have z28_ := Z167.out; have z29_ := Z169.out; have z30_ := Z176.out; have z31_ := Z179.out; have z32_ := Z181.out; have z33_ := Z183.out; have z34_ := Z185.out; have z35_ := Z187.out; have z36_ := Z190.out; have z37_ := Z192.out; have z38_ := Z269.out; have z39_ := Z270.out; have z40_ := Z271.out; have z41_ := Z272.out; have z42_ := Z273.out; have g1_ := GP132.out; have g2_ := GP263.out; show gb129 ≠ gb264; omega) _ : w274.heap[gb129]? = some (.cells #[.slice Ao125 l1_0.length co126] 26 (0, 0))))
  have n9_ := Aside0.mk (hw.symm ▸ (Kd.S_far (p := ⟨gb264, 0, none⟩) (F143.out) (fun k_ h_ => by have z0_ := Z5.out; have z1_ := Z6.out; have z2_ := Z11.out; have z3_ := Z12.out; have z4_ := Z15.out; have z5_ := Z18.out; have z6_ := Z20.out; have z7_ := Z100.out; have z8_ := Z101.out; have z9_ := Z102.out; have z10_ := Z103.out; have z11_ := Z104.out; have z12_ := Z106.out; have z13_ := Z113.out; have z14_ := Z118.out; have z15_ := Z119.out; have z16_ := Z121.out; have z17_ := Z128.out; have z18_ := Z133.out; have z19_ := Z134.out; have z20_ := Z136.out; have z21_ := Z144.out; have z22_ := Z149.out; have z23_ := Z150.out; have z24_ := Z152.out; have z25_ := Z155.out; have z26_ := Z157.out; have z27_ := Z164.out; have z28_ := Z167.out; have z29_ := Z169.out; have z30_ := Z176.out; have z31_ := Z179.out; have z32_ := Z181.out; have z33_ := Z183.out; have z34_ := Z185.out; have z35_ := Z187.out; have z36_ := Z190.out; have z37_ := Z192.out; have z38_ := Z269.out; have z39_ := Z270.out; have z40_ := Z271.out; have z41_ := Z272.out; have z42_ := Z273.out; have g_ := GP263.out; unfold Ivl at h_; show k_ ≠ gb264; omega) _))
  have n10_ := Aside0.mk ((by rw [hw]; exact blk_far (BK147.out) (by have z0_ := Z5.out; have z1_ := Z6.out; have z2_ := Z11.out; have z3_ := Z12.out; have z4_ := Z15.out; have z5_ := Z18.out; have z6_ := Z20.out; have z7_ := Z100.out; have z8_ := Z101.out; have z9_ := Z102.out; have z10_ := Z103.out; have z11_ := Z104.out; have z12_ := Z106.out; have z13_ := Z113.out; have z14_ := Z118.out; have z15_ := Z119.out; have z16_ := Z121.out; have z17_ := Z128.out; have z18_ := Z133.out; have z19_ := Z134.out; have z20_ := Z136.out; have z21_ := Z144.out; have z22_ := Z149.out; have z23_ := Z150.out; have z24_ := Z152.out; have z25_ := Z155.out; have z26_ := Z157.out; have z27_ := Z164.out; have z28_ := Z167.out; have z29_ := Z169.out; have z30_ := Z176.out; have z31_ := Z179.out; have z32_ := Z181.out; have z33_ := Z183.out; have z34_ := Z185.out; have z35_ := Z187.out; have z36_ := Z190.out; have z37_ := Z192.out; have z38_ := Z269.out; have z39_ := Z270.out; have z40_ := Z271.out; have z41_ := Z272.out; have z42_ := Z273.out; have g1_ := GP148.out; have g2_ := GP263.out; show gb145 ≠ gb264; omega) _ : w274.heap[gb145]? = some (.cells #[.slice Ao141 r0.length co142] 26 (0, 0))))
  have n11_ := Aside0.mk (hw.symm ▸ (Kd.S_far (p := ⟨gb264, 0, none⟩) (F163.out) (fun k_ h_ => by have z0_ := Z5.out; have z1_ := Z6.out; have z2_ := Z11.out; have z3_ := Z12.out; have z4_ := Z15.out; have z5_ := Z18.out; have z6_ := Z20.out; have z7_ := Z100.out; have z8_ := Z101.out; have z9_ := Z102.out; have z10_ := Z103.out; have z11_ := Z104.out; have z12_ := Z106.out; have z13_ := Z113.out; have z14_ := Z118.out; have z15_ := Z119.out; have z16_ := Z121.out; have z17_ := Z128.out; have z18_ := Z133.out; have z19_ := Z134.out; have z20_ := Z136.out; have z21_ := Z144.out; have z22_ := Z149.out; have z23_ := Z150.out; have z24_ := Z152.out; have z25_ := Z155.out; have z26_ := Z157.out; have z27_ := Z164.out; have z28_ := Z167.out; have z29_ := Z169.out; have z30_ := Z176.out; have z31_ := Z179.out; have z32_ := Z181.out; have z33_ := Z183.out; have z34_ := Z185.out; have z35_ := Z187.out; have z36_ := Z190.out; have z37_ := Z192.out; have z38_ := Z269.out; have z39_ := Z270.out; have z40_ := Z271.out; have z41_ := Z272.out; have z42_ := Z273.out; have g_ := GP263.out; unfold Ivl at h_; show k_ ≠ gb264; omega) _))
  have n12_ := Aside0.mk (hw.symm ▸ (Kd.S_far (p := ⟨gb264, 0, none⟩) (F175.out) (fun k_ h_ => by have z0_ := Z5.out; have z1_ := Z6.out; have z2_ := Z11.out; have z3_ := Z12.out; have z4_ := Z15.out; have z5_ := Z18.out; have z6_ := Z20.out; have z7_ := Z100.out; have z8_ := Z101.out; have z9_ := Z102.out; have z10_ := Z103.out; have z11_ := Z104.out; have z12_ := Z106.out; have z13_ := Z113.out; have z14_ := Z118.out; have z15_ := Z119.out; have z16_ := Z121.out; have z17_ := Z128.out; have z18_ := Z133.out; have z19_ := Z134.out; have z20_ := Z136.out; have z21_ := Z144.out; have z22_ := Z149.out; have z23_ := Z150.out; have z24_ := Z152.out; have z25_ := Z155.out; have z26_ := Z157.out; have z27_ := Z164.out; have z28_ := Z167.out; have z29_ := Z169.out; have z30_ := Z176.out; have z31_ := Z179.out; have z32_ := Z181.out; have z33_ := Z183.out; have z34_ := Z185.out; have z35_ := Z187.out; have z36_ := Z190.out; have z37_ := Z192.out; have z38_ := Z269.out; have z39_ := Z270.out; have z40_ := Z271.out; have z41_ := Z272.out; have z42_ := Z273.out; have g_ := GP263.out; unfold Ivl at h_; show k_ ≠ gb264; omega) _))
  have n13_ := Aside0.mk (hw.symm ▸ (Kd.S_far (p := ⟨gb264, 0, none⟩) (F261.out) (fun k_ h_ => by have z0_ := Z5.out; have z1_ := Z6.out; have z2_ := Z11.out; have z3_ := Z12.out; have z4_ := Z15.out; have z5_ := Z18.out; have z6_ := Z20.out; have z7_ := Z100.out; have z8_ := Z101.out; have z9_ := Z102.out; have z10_ := Z103.out; have z11_ := Z104.out; have z12_ := Z106.out; have z13_ := Z113.out; have z14_ := Z118.out; have z15_ := Z119.out; have z16_ := Z121.out; have z17_ := Z128.out; have z18_ := Z133.out; have z19_ := Z134.out; have z20_ := Z136.out; have z21_ := Z144.out; have z22_ := Z149.out; have z23_ := Z150.out; have z24_ := Z152.out; have z25_ := Z155.out; have z26_ := Z157.out; have z27_ := Z164.out; have z28_ := Z167.out; have z29_ := Z169.out; have z30_ := Z176.out; have z31_ := Z179.out; have z32_ := Z181.out; have z33_ := Z183.out; have z34_ := Z185.out; have z35_ := Z187.out; have z36_ := Z190.out; have z37_ := Z192.out; have z38_ := Z269.out; have z39_ := Z270.out; have z40_ := Z271.out; have z41_ := Z272.out; have z42_ := Z273.out; have g_ := GP263.out; unfold Ivl at h_; show k_ ≠ gb264; omega) _))
  have n14_ := Aside0.mk ((by rw [hw]; exact blk_put (cs := #[.slice none 0 0]) (BK262.out) 0 _ rfl : w274.heap[gb264]? = some (.cells #[.slice Ao265 r0.length co266] 26 (0, 0))))
  clear HB BK3 BK9 F92 BK93 F112 BK116 F127 BK131 F143 BK147 F163 F175 F261 BK262
  have HB := n0_
  have BK3 := n1_
  have BK9 := n2_
  have F92 := n3_
  have BK93 := n4_
  have F112 := n5_
  have BK116 := n6_
  have F127 := n7_
  have BK131 := n8_
  have F143 := n9_
  have BK147 := n10_
  have F163 := n11_
  have F175 := n12_
  have F261 := n13_
  have BK262 := n14_
  clear n0_ n1_ n2_ n3_ n4_ n5_ n6_ n7_ n8_ n9_ n10_ n11_ n12_ n13_ n14_
  clear hw
  refine hK.out _ _ ⟨(blk_cell BK3.out 0).trans rfl, (blk_cell BK9.out 0).trans rfl, (blk_cell BK93.out 0).trans rfl, (blk_cell BK116.out 0).trans rfl, (blk_cell BK131.out 0).trans rfl, (blk_cell BK147.out 0).trans rfl⟩ (fun hHeld => ?_)
  clear hK K
  refine pure_ (i := 10) (N := some 16) (v := ?_) (a' := ?_) #[true, true, true, true, true, true, true, true, true, true, true] rfl rfl (by kernel_rfl) (fun _ _ _ h => h) (Or.inl ⟨by rfl, ?_⟩) ?_ ?_
  rotate_left
  · intro w'
    go_simp
    with_reducible rfl
  rotate_left
  · simp only [putAll, Act.put, List.setIfInBounds_toArray, List.set_cons_zero, List.set_cons_succ, i64_w, i32_w]
    rfl
  refine done_ (by kernel_rfl) ?_
  (try clear hz_gb1_0)
  have hz_gb1_0 : w274.cell? ⟨gb1, 0, none⟩ = some (.slice A0_0 l0_0.length c0_0) := (blk_cell BK3.out 0).trans rfl
  (try clear hf_gb1_0)
  have hf_gb1_0 := blk_frozen BK3.out 0
  (try clear hz_gb7_0)
  have hz_gb7_0 : w274.cell? ⟨gb7, 0, none⟩ = some (.slice A1_0 l1_0.length c1_0) := (blk_cell BK9.out 0).trans rfl
  (try clear hf_gb7_0)
  have hf_gb7_0 := blk_frozen BK9.out 0
  (try clear hz_gb95_0)
  have hz_gb95_0 : w274.cell? ⟨gb95, 0, none⟩ = some (.slice Ao96 r0.length co97) := (blk_cell BK93.out 0).trans rfl
  (try clear hf_gb95_0)
  have hf_gb95_0 := blk_frozen BK93.out 0
  (try clear hz_gb114_0)
  have hz_gb114_0 : w274.cell? ⟨gb114, 0, none⟩ = some (.slice Ao110 l0_0.length co111) := (blk_cell BK116.out 0).trans rfl
  (try clear hf_gb114_0)
  have hf_gb114_0 := blk_frozen BK116.out 0
  (try clear hz_gb129_0)
  have hz_gb129_0 : w274.cell? ⟨gb129, 0, none⟩ = some (.slice Ao125 l1_0.length co126) := (blk_cell BK131.out 0).trans rfl
  (try clear hf_gb129_0)
  have hf_gb129_0 := blk_frozen BK131.out 0
  (try clear hz_gb145_0)
  have hz_gb145_0 : w274.cell? ⟨gb145, 0, none⟩ = some (.slice Ao141 r0.length co142) := (blk_cell BK147.out 0).trans rfl
  (try clear hf_gb145_0)
  have hf_gb145_0 := blk_frozen BK147.out 0
  (try clear hz_gb264_0)
  have hz_gb264_0 : w274.cell? ⟨gb264, 0, none⟩ = some (.slice Ao265 r0.length co266) := (blk_cell BK262.out 0).trans rfl
  (try clear hf_gb264_0)
  have hf_gb264_0 := blk_frozen BK262.out 0
  go_wp2_with (first | ((with_reducible refine gate_dst (N := 104) rfl ?_); (try (refine gate_guard (by rfl) ?_; dsimp only)); refine goesL_ (some 104) rfl rfl Try.func12 (by kernel_rfl) rfl #[.agg #[.slice Ao265 r0.length co266], .agg #[.slice Ao96 r0.length co97]] rfl (by (try simp only [List.map_toArray, List.map_cons, List.map_nil]); first | done | rfl) ?_; (with_reducible refine (laws_eqGame.calls k _ _ r0 _ _ r0 true _ ?side1 ?side2 ?side3 ?side4 E_laws_eqGame_154.out).mono ?_); (case side1 => exact (Kd.S_reads' F261.out).2.2); (case side2 => exact (Kd.S_reads' F261.out).2.1); (case side3 => exact (Kd.S_reads' F92.out).2.2); (case side4 => exact (Kd.S_reads' F92.out).2.1); rintro e w276 ⟨rfl, hb⟩; refine ⟨_, rfl, ?_⟩; have Z277 : Aside0 (w274.heap.size ≤ w276.heap.size) := Aside0.mk (hb.size); have n0_ := Aside0.mk (below_then HB.out HB.out.size hb); have n1_ := Aside0.mk (blk_below (g := gb1) (o := .cells #[.slice A0_0 l0_0.length c0_0] 24 (0, 0)) BK3.out hb); have n2_ := Aside0.mk (blk_below (g := gb7) (o := .cells #[.slice A1_0 l1_0.length c1_0] 24 (0, 0)) BK9.out hb); have n3_ := Aside0.mk (Kd.S_below F92.out hb); have n4_ := Aside0.mk (blk_below (g := gb95) (o := .cells #[.slice Ao96 r0.length co97] 26 (0, 0)) BK93.out hb); have n5_ := Aside0.mk (Kd.S_below F112.out hb); have n6_ := Aside0.mk (blk_below (g := gb114) (o := .cells #[.slice Ao110 l0_0.length co111] 26 (0, 0)) BK116.out hb); have n7_ := Aside0.mk (Kd.S_below F127.out hb); have n8_ := Aside0.mk (blk_below (g := gb129) (o := .cells #[.slice Ao125 l1_0.length co126] 26 (0, 0)) BK131.out hb); have n9_ := Aside0.mk (Kd.S_below F143.out hb); have n10_ := Aside0.mk (blk_below (g := gb145) (o := .cells #[.slice Ao141 r0.length co142] 26 (0, 0)) BK147.out hb); have n11_ := Aside0.mk (Kd.S_below F163.out hb); have n12_ := Aside0.mk (Kd.S_below F175.out hb); have n13_ := Aside0.mk (Kd.S_below F261.out hb); have n14_ := Aside0.mk (blk_below (g := gb264) (o := .cells #[.slice Ao265 r0.length co266] 26 (0, 0)) BK262.out hb); clear HB BK3 BK9 F92 BK93 F112 BK116 F127 BK131 F143 BK147 F163 F175 F261 BK262; have HB := n0_; have BK3 := n1_; have BK9 := n2_; have F92 := n3_; have BK93 := n4_; have F112 := n5_; have BK116 := n6_; have F127 := n7_; have BK131 := n8_; have F143 := n9_; have BK147 := n10_; have F163 := n11_; have F175 := n12_; have F261 := n13_; have BK262 := n14_; clear n0_ n1_ n2_ n3_ n4_ n5_ n6_ n7_ n8_ n9_ n10_ n11_ n12_ n13_ n14_; (try clear hb); (try clear hz_gb1_0); have hz_gb1_0 : w276.cell? ⟨gb1, 0, none⟩ = some (.slice A0_0 l0_0.length c0_0) := (blk_cell BK3.out 0).trans rfl; (try clear hf_gb1_0); have hf_gb1_0 := blk_frozen BK3.out 0; (try clear hz_gb7_0); have hz_gb7_0 : w276.cell? ⟨gb7, 0, none⟩ = some (.slice A1_0 l1_0.length c1_0) := (blk_cell BK9.out 0).trans rfl; (try clear hf_gb7_0); have hf_gb7_0 := blk_frozen BK9.out 0; (try clear hz_gb95_0); have hz_gb95_0 : w276.cell? ⟨gb95, 0, none⟩ = some (.slice Ao96 r0.length co97) := (blk_cell BK93.out 0).trans rfl; (try clear hf_gb95_0); have hf_gb95_0 := blk_frozen BK93.out 0; (try clear hz_gb114_0); have hz_gb114_0 : w276.cell? ⟨gb114, 0, none⟩ = some (.slice Ao110 l0_0.length co111) := (blk_cell BK116.out 0).trans rfl; (try clear hf_gb114_0); have hf_gb114_0 := blk_frozen BK116.out 0; (try clear hz_gb129_0); have hz_gb129_0 : w276.cell? ⟨gb129, 0, none⟩ = some (.slice Ao125 l1_0.length co126) := (blk_cell BK131.out 0).trans rfl; (try clear hf_gb129_0); have hf_gb129_0 := blk_frozen BK131.out 0; (try clear hz_gb145_0); have hz_gb145_0 : w276.cell? ⟨gb145, 0, none⟩ = some (.slice Ao141 r0.length co142) := (blk_cell BK147.out 0).trans rfl; (try clear hf_gb145_0); have hf_gb145_0 := blk_frozen BK147.out 0; (try clear hz_gb264_0); have hz_gb264_0 : w276.cell? ⟨gb264, 0, none⟩ = some (.slice Ao265 r0.length co266) := (blk_cell BK262.out 0).trans rfl; (try clear hf_gb264_0); have hf_gb264_0 := blk_frozen BK262.out 0) | ((with_reducible refine gate_dst (N := 113) rfl ?_); (try (refine gate_guard (by rfl) ?_; dsimp only)); refine goesL_ (some 113) rfl rfl Try.func14 (by kernel_rfl) rfl #[.agg #[.slice Ao141 (markL 1 r0).length co142], .int .i64 1] rfl (by (try simp only [List.map_toArray, List.map_cons, List.map_nil]); first | done | (rw [show (markL 1 r0).length = r0.length from markL_length _ _] <;> rfl) | rfl) ?_; (with_reducible refine (laws_heldGame.calls k _ _ (markL 1 r0) 1 tm2 _ ?side1 ?side2 E_laws_heldGame_189.out).mono ?_); (case side1 => first | (exact (Kd.S_reads' F143.out).2.2) | (rw [show (markL 1 r0).length = r0.length from markL_length _ _]; exact (Kd.S_reads' F143.out).2.2)); (case side2 => first | (exact (Kd.S_reads' F143.out).2.1) | (rw [show (markL 1 r0).length = r0.length from markL_length _ _]; exact (Kd.S_reads' F143.out).2.1)); rintro e w278 ⟨rfl, hb⟩; refine ⟨_, rfl, ?_⟩; have Z279 : Aside0 (w276.heap.size ≤ w278.heap.size) := Aside0.mk (hb.size); have n0_ := Aside0.mk (below_then HB.out HB.out.size hb); have n1_ := Aside0.mk (blk_below (g := gb1) (o := .cells #[.slice A0_0 l0_0.length c0_0] 24 (0, 0)) BK3.out hb); have n2_ := Aside0.mk (blk_below (g := gb7) (o := .cells #[.slice A1_0 l1_0.length c1_0] 24 (0, 0)) BK9.out hb); have n3_ := Aside0.mk (Kd.S_below F92.out hb); have n4_ := Aside0.mk (blk_below (g := gb95) (o := .cells #[.slice Ao96 r0.length co97] 26 (0, 0)) BK93.out hb); have n5_ := Aside0.mk (Kd.S_below F112.out hb); have n6_ := Aside0.mk (blk_below (g := gb114) (o := .cells #[.slice Ao110 l0_0.length co111] 26 (0, 0)) BK116.out hb); have n7_ := Aside0.mk (Kd.S_below F127.out hb); have n8_ := Aside0.mk (blk_below (g := gb129) (o := .cells #[.slice Ao125 l1_0.length co126] 26 (0, 0)) BK131.out hb); have n9_ := Aside0.mk (Kd.S_below F143.out hb); have n10_ := Aside0.mk (blk_below (g := gb145) (o := .cells #[.slice Ao141 r0.length co142] 26 (0, 0)) BK147.out hb); have n11_ := Aside0.mk (Kd.S_below F163.out hb); have n12_ := Aside0.mk (Kd.S_below F175.out hb); have n13_ := Aside0.mk (Kd.S_below F261.out hb); have n14_ := Aside0.mk (blk_below (g := gb264) (o := .cells #[.slice Ao265 r0.length co266] 26 (0, 0)) BK262.out hb); clear HB BK3 BK9 F92 BK93 F112 BK116 F127 BK131 F143 BK147 F163 F175 F261 BK262; have HB := n0_; have BK3 := n1_; have BK9 := n2_; have F92 := n3_; have BK93 := n4_; have F112 := n5_; have BK116 := n6_; have F127 := n7_; have BK131 := n8_; have F143 := n9_; have BK147 := n10_; have F163 := n11_; have F175 := n12_; have F261 := n13_; have BK262 := n14_; clear n0_ n1_ n2_ n3_ n4_ n5_ n6_ n7_ n8_ n9_ n10_ n11_ n12_ n13_ n14_; (try clear hb); (try clear hz_gb1_0); have hz_gb1_0 : w278.cell? ⟨gb1, 0, none⟩ = some (.slice A0_0 l0_0.length c0_0) := (blk_cell BK3.out 0).trans rfl; (try clear hf_gb1_0); have hf_gb1_0 := blk_frozen BK3.out 0; (try clear hz_gb7_0); have hz_gb7_0 : w278.cell? ⟨gb7, 0, none⟩ = some (.slice A1_0 l1_0.length c1_0) := (blk_cell BK9.out 0).trans rfl; (try clear hf_gb7_0); have hf_gb7_0 := blk_frozen BK9.out 0; (try clear hz_gb95_0); have hz_gb95_0 : w278.cell? ⟨gb95, 0, none⟩ = some (.slice Ao96 r0.length co97) := (blk_cell BK93.out 0).trans rfl; (try clear hf_gb95_0); have hf_gb95_0 := blk_frozen BK93.out 0; (try clear hz_gb114_0); have hz_gb114_0 : w278.cell? ⟨gb114, 0, none⟩ = some (.slice Ao110 l0_0.length co111) := (blk_cell BK116.out 0).trans rfl; (try clear hf_gb114_0); have hf_gb114_0 := blk_frozen BK116.out 0; (try clear hz_gb129_0); have hz_gb129_0 : w278.cell? ⟨gb129, 0, none⟩ = some (.slice Ao125 l1_0.length co126) := (blk_cell BK131.out 0).trans rfl; (try clear hf_gb129_0); have hf_gb129_0 := blk_frozen BK131.out 0; (try clear hz_gb145_0); have hz_gb145_0 : w278.cell? ⟨gb145, 0, none⟩ = some (.slice Ao141 r0.length co142) := (blk_cell BK147.out 0).trans rfl; (try clear hf_gb145_0); have hf_gb145_0 := blk_frozen BK147.out 0; (try clear hz_gb264_0); have hz_gb264_0 : w278.cell? ⟨gb264, 0, none⟩ = some (.slice Ao265 r0.length co266) := (blk_cell BK262.out 0).trans rfl; (try clear hf_gb264_0); have hf_gb264_0 := blk_frozen BK262.out 0))
  go_ret
  exact ⟨rfl, HB.out⟩

theorem laws_FnExactSumOfGames.good_of (A0_0 : Option Addr) (c0_0 : Nat) (l0_0 : List (List Int)) (A1_0 : Option Addr) (c1_0 : Nat) (l1_0 : List (List Int)) (tsz0 : Int) (tsz1 : Int) (r0 : List (List Int)) (r1 : Int) (tm0 : Int) (tm1 : Int) (tm2 : Int) (w : World) (hr0_0 : Kd.C (Kd.slice 2 (Kd.int .i64)) w A0_0 l0_0.length l0_0) (hc0_0 : l0_0.length ≤ c0_0) (hr1_0 : Kd.C (Kd.slice 2 (Kd.int .i64)) w A1_0 l1_0.length l1_0) (hc1_0 : l1_0.length ≤ c1_0) (D_tsz0 : decide (tsz0 < 0) = false) (E_laws_szGame_14_h : Ev (fun k => laws_szGame.f k l0_0 1048576) (tsz0)) (D_tsz1 : decide (tsz1 < 0) = false) (E_laws_szGame_17_h : Ev (fun k => laws_szGame.f k l1_0 tsz0) (tsz1)) (E_laws_toGame_22_h : Ev (fun k => laws_toGame.f k l0_0) (l0_0)) (E_laws_toGame_30_h : Ev (fun k => laws_toGame.f k l1_0) (l1_0)) (E_spec_SumOfGames_38_h : Ev (fun k => spec_SumOfGames.f k l0_0 l1_0) ((r0, r1))) (E_impl_SumOfGames_138_h : Ev (fun k => impl_SumOfGames.f k l0_0 l1_0) ((r0, r1))) (E_laws_eqGame_154_h : Ev (fun k => laws_eqGame.f k r0 r0) (true)) (E_laws_eqGame_166_h : Ev (fun k => laws_eqGame.f k l0_0 l0_0) (true)) (E_laws_eqGame_178_h : Ev (fun k => laws_eqGame.f k l1_0 l1_0) (true)) (D_tm0 : decide (tm0 < 0) = false) (HM1_F112_h : 1 + total l0_0 < 4611686018427387904) (HM2_F112_h : l0_0.length < 4611686018427387904) (tm0_eq_h : 1 + total l0_0 = tm0) (D_tm1 : decide (tm1 < 0) = false) (HM1_F127_h : tm0 + total l1_0 < 4611686018427387904) (HM2_F127_h : l1_0.length < 4611686018427387904) (tm1_eq_h : tm0 + total l1_0 = tm1) (D_tm2 : decide (tm2 < 0) = false) (HM1_F143_h : 1 + total r0 < 4611686018427387904) (HM2_F143_h : r0.length < 4611686018427387904) (tm2_eq_h : 1 + total r0 = tm2) (E_laws_heldGame_189_h : Ev (fun k => laws_heldGame.f k (markL 1 r0) 1) (tm2)) :
    Calls Try.prog 3 #[.agg #[.slice A0_0 l0_0.length c0_0], .agg #[.slice A1_0 l1_0.length c1_0]] w fun e w' => e = .returned (.bool true) ∧ Below w.heap.size w w' := by
  obtain ⟨k0, e0⟩ := E_laws_szGame_14_h
  obtain ⟨k1, e1⟩ := E_laws_szGame_17_h
  obtain ⟨k2, e2⟩ := E_laws_toGame_22_h
  obtain ⟨k3, e3⟩ := E_laws_toGame_30_h
  obtain ⟨k4, e4⟩ := E_spec_SumOfGames_38_h
  obtain ⟨k5, e5⟩ := E_impl_SumOfGames_138_h
  obtain ⟨k6, e6⟩ := E_laws_eqGame_154_h
  obtain ⟨k7, e7⟩ := E_laws_eqGame_166_h
  obtain ⟨k8, e8⟩ := E_laws_eqGame_178_h
  obtain ⟨k9, e9⟩ := E_laws_heldGame_189_h
  exact laws_FnExactSumOfGames.good (k0 + k1 + k2 + k3 + k4 + k5 + k6 + k7 + k8 + k9) A0_0 c0_0 l0_0 A1_0 c1_0 l1_0 tsz0 tsz1 r0 r1 tm0 tm1 tm2 w hr0_0 hc0_0 hr1_0 hc1_0 D_tsz0 (e0 _ (by omega)) D_tsz1 (e1 _ (by omega)) (e2 _ (by omega)) (e3 _ (by omega)) (e4 _ (by omega)) (e5 _ (by omega)) (e6 _ (by omega)) (e7 _ (by omega)) (e8 _ (by omega)) D_tm0 HM1_F112_h HM2_F112_h tm0_eq_h D_tm1 HM1_F127_h HM2_F127_h tm1_eq_h D_tm2 HM1_F143_h HM2_F143_h tm2_eq_h (e9 _ (by omega))

set_option maxHeartbeats 16000000 in
set_option maxRecDepth 100000 in
theorem laws_FnExactSumOfGames.early0 (k : Nat) (A0_0 : Option Addr) (c0_0 : Nat) (l0_0 : List (List Int)) (A1_0 : Option Addr) (c1_0 : Nat) (l1_0 : List (List Int)) (tsz0 : Int) (w : World) (hr0_0 : Kd.C (Kd.slice 2 (Kd.int .i64)) w A0_0 l0_0.length l0_0) (hc0_0 : l0_0.length ≤ c0_0) (hr1_0 : Kd.C (Kd.slice 2 (Kd.int .i64)) w A1_0 l1_0.length l1_0) (hc1_0 : l1_0.length ≤ c1_0) (D_tsz0 : decide (tsz0 < 0) = true) (E_laws_szGame_14_h : laws_szGame.f k l0_0 1048576 = some tsz0) :
    Calls Try.prog 3 #[.agg #[.slice A0_0 l0_0.length c0_0], .agg #[.slice A1_0 l1_0.length c1_0]] w fun e w' => e = .returned (.bool true) ∧ Below w.heap.size w w' := by
  have HR0_0 := Aside0.mk hr0_0
  have HC0_0 := Aside0.mk hc0_0
  clear hr0_0 hc0_0
  have HR1_0 := Aside0.mk hr1_0
  have HC1_0 := Aside0.mk hc1_0
  clear hr1_0 hc1_0
  have E_laws_szGame_14 := Aside0.mk E_laws_szGame_14_h
  clear E_laws_szGame_14_h
  have hu24 := Try.underlying24
  have HB := Aside0.mk (Below.refl w.heap.size w)
  go_enter Try.func3, Try.ntmps3
  go_wp2_with (first | ((with_reducible refine gate_dst (N := 2) rfl ?_); (try (refine gate_guard (by rfl) ?_; dsimp only)); refine box_event ?hg (N := 2) ?hd (cs := #[.slice A0_0 l0_0.length c0_0]) (t := 24) ?hr ?_; (case hd => rfl); (case hg => rfl); (case hr => first | (go_simp; done) | (go_simp; rfl)); intro gb1 hg w2 hbox hb; have Z5 : Aside0 (w.heap.size ≤ w2.heap.size) := Aside0.mk (hb.size); have BK3 := Aside0.mk hbox; have GP4 := Aside0.mk hg; have Z6 : Aside0 (gb1 < w2.heap.size) := Aside0.mk (blk_lt hbox); have n0_ := Aside0.mk (below_then HB.out HB.out.size hb); clear HB; have HB := n0_; clear n0_; clear hb hbox hg; (try clear hz_gb1_0); have hz_gb1_0 : w2.cell? ⟨gb1, 0, none⟩ = some (.slice A0_0 l0_0.length c0_0) := (blk_cell BK3.out 0).trans rfl; (try clear hf_gb1_0); have hf_gb1_0 := blk_frozen BK3.out 0) | ((with_reducible refine gate_dst (N := 3) rfl ?_); (try (refine gate_guard (by rfl) ?_; dsimp only)); refine box_event ?hg (N := 3) ?hd (cs := #[.slice A1_0 l1_0.length c1_0]) (t := 24) ?hr ?_; (case hd => rfl); (case hg => rfl); (case hr => first | (go_simp; done) | (go_simp; rfl)); intro gb7 hg w8 hbox hb; have Z11 : Aside0 (w2.heap.size ≤ w8.heap.size) := Aside0.mk (hb.size); have BK9 := Aside0.mk hbox; have GP10 := Aside0.mk hg; have Z12 : Aside0 (gb7 < w8.heap.size) := Aside0.mk (blk_lt hbox); have n0_ := Aside0.mk (below_then HB.out HB.out.size hb); have n1_ := Aside0.mk (blk_below (g := gb1) (o := .cells #[.slice A0_0 l0_0.length c0_0] 24 (0, 0)) BK3.out hb); clear HB BK3; have HB := n0_; have BK3 := n1_; clear n0_ n1_; clear hb hbox hg; (try clear hz_gb1_0); have hz_gb1_0 : w8.cell? ⟨gb1, 0, none⟩ = some (.slice A0_0 l0_0.length c0_0) := (blk_cell BK3.out 0).trans rfl; (try clear hf_gb1_0); have hf_gb1_0 := blk_frozen BK3.out 0; (try clear hz_gb7_0); have hz_gb7_0 : w8.cell? ⟨gb7, 0, none⟩ = some (.slice A1_0 l1_0.length c1_0) := (blk_cell BK9.out 0).trans rfl; (try clear hf_gb7_0); have hf_gb7_0 := blk_frozen BK9.out 0) | ((with_reducible refine gate_dst (N := 19) rfl ?_); (try (refine gate_guard (by rfl) ?_; dsimp only)); refine goesL_ (some 19) rfl rfl Try.func8 (by kernel_rfl) rfl #[.agg #[.slice A0_0 l0_0.length c0_0], .int .i64 1048576] rfl (by (try simp only [List.map_toArray, List.map_cons, List.map_nil]); first | done | rfl) ?_; (with_reducible refine (laws_szGame.calls k _ _ l0_0 1048576 tsz0 _ ?side1 ?side2 E_laws_szGame_14.out).mono ?_); (case side1 => exact Kd.C_below HR0_0.out HB.out); (case side2 => exact HC0_0.out); rintro e w13 ⟨rfl, hb⟩; refine ⟨_, rfl, ?_⟩; have Z15 : Aside0 (w8.heap.size ≤ w13.heap.size) := Aside0.mk (hb.size); have n0_ := Aside0.mk (below_then HB.out HB.out.size hb); have n1_ := Aside0.mk (blk_below (g := gb1) (o := .cells #[.slice A0_0 l0_0.length c0_0] 24 (0, 0)) BK3.out hb); have n2_ := Aside0.mk (blk_below (g := gb7) (o := .cells #[.slice A1_0 l1_0.length c1_0] 24 (0, 0)) BK9.out hb); clear HB BK3 BK9; have HB := n0_; have BK3 := n1_; have BK9 := n2_; clear n0_ n1_ n2_; (try clear hb); (try clear hz_gb1_0); have hz_gb1_0 : w13.cell? ⟨gb1, 0, none⟩ = some (.slice A0_0 l0_0.length c0_0) := (blk_cell BK3.out 0).trans rfl; (try clear hf_gb1_0); have hf_gb1_0 := blk_frozen BK3.out 0; (try clear hz_gb7_0); have hz_gb7_0 : w13.cell? ⟨gb7, 0, none⟩ = some (.slice A1_0 l1_0.length c1_0) := (blk_cell BK9.out 0).trans rfl; (try clear hf_gb7_0); have hf_gb7_0 := blk_frozen BK9.out 0))
  go_ret
  exact ⟨rfl, HB.out⟩

theorem laws_FnExactSumOfGames.early0_of (A0_0 : Option Addr) (c0_0 : Nat) (l0_0 : List (List Int)) (A1_0 : Option Addr) (c1_0 : Nat) (l1_0 : List (List Int)) (tsz0 : Int) (w : World) (hr0_0 : Kd.C (Kd.slice 2 (Kd.int .i64)) w A0_0 l0_0.length l0_0) (hc0_0 : l0_0.length ≤ c0_0) (hr1_0 : Kd.C (Kd.slice 2 (Kd.int .i64)) w A1_0 l1_0.length l1_0) (hc1_0 : l1_0.length ≤ c1_0) (D_tsz0 : decide (tsz0 < 0) = true) (E_laws_szGame_14_h : Ev (fun k => laws_szGame.f k l0_0 1048576) (tsz0)) :
    Calls Try.prog 3 #[.agg #[.slice A0_0 l0_0.length c0_0], .agg #[.slice A1_0 l1_0.length c1_0]] w fun e w' => e = .returned (.bool true) ∧ Below w.heap.size w w' := by
  obtain ⟨k0, e0⟩ := E_laws_szGame_14_h
  exact laws_FnExactSumOfGames.early0 (k0) A0_0 c0_0 l0_0 A1_0 c1_0 l1_0 tsz0 w hr0_0 hc0_0 hr1_0 hc1_0 D_tsz0 (e0 _ (by omega))

set_option maxHeartbeats 16000000 in
set_option maxRecDepth 100000 in
theorem laws_FnExactSumOfGames.early1 (k : Nat) (A0_0 : Option Addr) (c0_0 : Nat) (l0_0 : List (List Int)) (A1_0 : Option Addr) (c1_0 : Nat) (l1_0 : List (List Int)) (tsz0 : Int) (tsz1 : Int) (w : World) (hr0_0 : Kd.C (Kd.slice 2 (Kd.int .i64)) w A0_0 l0_0.length l0_0) (hc0_0 : l0_0.length ≤ c0_0) (hr1_0 : Kd.C (Kd.slice 2 (Kd.int .i64)) w A1_0 l1_0.length l1_0) (hc1_0 : l1_0.length ≤ c1_0) (D_tsz0 : decide (tsz0 < 0) = false) (E_laws_szGame_14_h : laws_szGame.f k l0_0 1048576 = some tsz0) (D_tsz1 : decide (tsz1 < 0) = true) (E_laws_szGame_17_h : laws_szGame.f k l1_0 tsz0 = some tsz1) :
    Calls Try.prog 3 #[.agg #[.slice A0_0 l0_0.length c0_0], .agg #[.slice A1_0 l1_0.length c1_0]] w fun e w' => e = .returned (.bool true) ∧ Below w.heap.size w w' := by
  have HR0_0 := Aside0.mk hr0_0
  have HC0_0 := Aside0.mk hc0_0
  clear hr0_0 hc0_0
  have HR1_0 := Aside0.mk hr1_0
  have HC1_0 := Aside0.mk hc1_0
  clear hr1_0 hc1_0
  have E_laws_szGame_14 := Aside0.mk E_laws_szGame_14_h
  clear E_laws_szGame_14_h
  have E_laws_szGame_17 := Aside0.mk E_laws_szGame_17_h
  clear E_laws_szGame_17_h
  have hu24 := Try.underlying24
  have HB := Aside0.mk (Below.refl w.heap.size w)
  go_enter Try.func3, Try.ntmps3
  go_wp2_with (first | ((with_reducible refine gate_dst (N := 2) rfl ?_); (try (refine gate_guard (by rfl) ?_; dsimp only)); refine box_event ?hg (N := 2) ?hd (cs := #[.slice A0_0 l0_0.length c0_0]) (t := 24) ?hr ?_; (case hd => rfl); (case hg => rfl); (case hr => first | (go_simp; done) | (go_simp; rfl)); intro gb1 hg w2 hbox hb; have Z5 : Aside0 (w.heap.size ≤ w2.heap.size) := Aside0.mk (hb.size); have BK3 := Aside0.mk hbox; have GP4 := Aside0.mk hg; have Z6 : Aside0 (gb1 < w2.heap.size) := Aside0.mk (blk_lt hbox); have n0_ := Aside0.mk (below_then HB.out HB.out.size hb); clear HB; have HB := n0_; clear n0_; clear hb hbox hg; (try clear hz_gb1_0); have hz_gb1_0 : w2.cell? ⟨gb1, 0, none⟩ = some (.slice A0_0 l0_0.length c0_0) := (blk_cell BK3.out 0).trans rfl; (try clear hf_gb1_0); have hf_gb1_0 := blk_frozen BK3.out 0) | ((with_reducible refine gate_dst (N := 3) rfl ?_); (try (refine gate_guard (by rfl) ?_; dsimp only)); refine box_event ?hg (N := 3) ?hd (cs := #[.slice A1_0 l1_0.length c1_0]) (t := 24) ?hr ?_; (case hd => rfl); (case hg => rfl); (case hr => first | (go_simp; done) | (go_simp; rfl)); intro gb7 hg w8 hbox hb; have Z11 : Aside0 (w2.heap.size ≤ w8.heap.size) := Aside0.mk (hb.size); have BK9 := Aside0.mk hbox; have GP10 := Aside0.mk hg; have Z12 : Aside0 (gb7 < w8.heap.size) := Aside0.mk (blk_lt hbox); have n0_ := Aside0.mk (below_then HB.out HB.out.size hb); have n1_ := Aside0.mk (blk_below (g := gb1) (o := .cells #[.slice A0_0 l0_0.length c0_0] 24 (0, 0)) BK3.out hb); clear HB BK3; have HB := n0_; have BK3 := n1_; clear n0_ n1_; clear hb hbox hg; (try clear hz_gb1_0); have hz_gb1_0 : w8.cell? ⟨gb1, 0, none⟩ = some (.slice A0_0 l0_0.length c0_0) := (blk_cell BK3.out 0).trans rfl; (try clear hf_gb1_0); have hf_gb1_0 := blk_frozen BK3.out 0; (try clear hz_gb7_0); have hz_gb7_0 : w8.cell? ⟨gb7, 0, none⟩ = some (.slice A1_0 l1_0.length c1_0) := (blk_cell BK9.out 0).trans rfl; (try clear hf_gb7_0); have hf_gb7_0 := blk_frozen BK9.out 0) | ((with_reducible refine gate_dst (N := 19) rfl ?_); (try (refine gate_guard (by rfl) ?_; dsimp only)); refine goesL_ (some 19) rfl rfl Try.func8 (by kernel_rfl) rfl #[.agg #[.slice A0_0 l0_0.length c0_0], .int .i64 1048576] rfl (by (try simp only [List.map_toArray, List.map_cons, List.map_nil]); first | done | rfl) ?_; (with_reducible refine (laws_szGame.calls k _ _ l0_0 1048576 tsz0 _ ?side1 ?side2 E_laws_szGame_14.out).mono ?_); (case side1 => exact Kd.C_below HR0_0.out HB.out); (case side2 => exact HC0_0.out); rintro e w13 ⟨rfl, hb⟩; refine ⟨_, rfl, ?_⟩; have Z15 : Aside0 (w8.heap.size ≤ w13.heap.size) := Aside0.mk (hb.size); have n0_ := Aside0.mk (below_then HB.out HB.out.size hb); have n1_ := Aside0.mk (blk_below (g := gb1) (o := .cells #[.slice A0_0 l0_0.length c0_0] 24 (0, 0)) BK3.out hb); have n2_ := Aside0.mk (blk_below (g := gb7) (o := .cells #[.slice A1_0 l1_0.length c1_0] 24 (0, 0)) BK9.out hb); clear HB BK3 BK9; have HB := n0_; have BK3 := n1_; have BK9 := n2_; clear n0_ n1_ n2_; (try clear hb); (try clear hz_gb1_0); have hz_gb1_0 : w13.cell? ⟨gb1, 0, none⟩ = some (.slice A0_0 l0_0.length c0_0) := (blk_cell BK3.out 0).trans rfl; (try clear hf_gb1_0); have hf_gb1_0 := blk_frozen BK3.out 0; (try clear hz_gb7_0); have hz_gb7_0 : w13.cell? ⟨gb7, 0, none⟩ = some (.slice A1_0 l1_0.length c1_0) := (blk_cell BK9.out 0).trans rfl; (try clear hf_gb7_0); have hf_gb7_0 := blk_frozen BK9.out 0) | ((with_reducible refine gate_dst (N := 24) rfl ?_); (try (refine gate_guard (by rfl) ?_; dsimp only)); refine goesL_ (some 24) rfl rfl Try.func8 (by kernel_rfl) rfl #[.agg #[.slice A1_0 l1_0.length c1_0], .int .i64 tsz0] rfl (by (try simp only [List.map_toArray, List.map_cons, List.map_nil]); first | done | rfl) ?_; (with_reducible refine (laws_szGame.calls k _ _ l1_0 tsz0 tsz1 _ ?side1 ?side2 E_laws_szGame_17.out).mono ?_); (case side1 => exact Kd.C_below HR1_0.out HB.out); (case side2 => exact HC1_0.out); rintro e w16 ⟨rfl, hb⟩; refine ⟨_, rfl, ?_⟩; have Z18 : Aside0 (w13.heap.size ≤ w16.heap.size) := Aside0.mk (hb.size); have n0_ := Aside0.mk (below_then HB.out HB.out.size hb); have n1_ := Aside0.mk (blk_below (g := gb1) (o := .cells #[.slice A0_0 l0_0.length c0_0] 24 (0, 0)) BK3.out hb); have n2_ := Aside0.mk (blk_below (g := gb7) (o := .cells #[.slice A1_0 l1_0.length c1_0] 24 (0, 0)) BK9.out hb); clear HB BK3 BK9; have HB := n0_; have BK3 := n1_; have BK9 := n2_; clear n0_ n1_ n2_; (try clear hb); (try clear hz_gb1_0); have hz_gb1_0 : w16.cell? ⟨gb1, 0, none⟩ = some (.slice A0_0 l0_0.length c0_0) := (blk_cell BK3.out 0).trans rfl; (try clear hf_gb1_0); have hf_gb1_0 := blk_frozen BK3.out 0; (try clear hz_gb7_0); have hz_gb7_0 : w16.cell? ⟨gb7, 0, none⟩ = some (.slice A1_0 l1_0.length c1_0) := (blk_cell BK9.out 0).trans rfl; (try clear hf_gb7_0); have hf_gb7_0 := blk_frozen BK9.out 0))
  go_ret
  exact ⟨rfl, HB.out⟩

theorem laws_FnExactSumOfGames.early1_of (A0_0 : Option Addr) (c0_0 : Nat) (l0_0 : List (List Int)) (A1_0 : Option Addr) (c1_0 : Nat) (l1_0 : List (List Int)) (tsz0 : Int) (tsz1 : Int) (w : World) (hr0_0 : Kd.C (Kd.slice 2 (Kd.int .i64)) w A0_0 l0_0.length l0_0) (hc0_0 : l0_0.length ≤ c0_0) (hr1_0 : Kd.C (Kd.slice 2 (Kd.int .i64)) w A1_0 l1_0.length l1_0) (hc1_0 : l1_0.length ≤ c1_0) (D_tsz0 : decide (tsz0 < 0) = false) (E_laws_szGame_14_h : Ev (fun k => laws_szGame.f k l0_0 1048576) (tsz0)) (D_tsz1 : decide (tsz1 < 0) = true) (E_laws_szGame_17_h : Ev (fun k => laws_szGame.f k l1_0 tsz0) (tsz1)) :
    Calls Try.prog 3 #[.agg #[.slice A0_0 l0_0.length c0_0], .agg #[.slice A1_0 l1_0.length c1_0]] w fun e w' => e = .returned (.bool true) ∧ Below w.heap.size w w' := by
  obtain ⟨k0, e0⟩ := E_laws_szGame_14_h
  obtain ⟨k1, e1⟩ := E_laws_szGame_17_h
  exact laws_FnExactSumOfGames.early1 (k0 + k1) A0_0 c0_0 l0_0 A1_0 c1_0 l1_0 tsz0 tsz1 w hr0_0 hc0_0 hr1_0 hc1_0 D_tsz0 (e0 _ (by omega)) D_tsz1 (e1 _ (by omega))

end Go.Proofs.Ytbiemfbdobdecaa.PX

/- Marks laid into a game are found again (no condition but sizes that fit). -/
namespace Go.Proofs.Ytbiemfbdobdecaa.PX
open Go.RowKit Go.Proofs.YtbiemfbdobdecaaW.PrintWords Go.Proofs.YtbiemfbdobdecaaW.PrintLast Go.Proofs.YtbiemfbdobdecaaW.PrintMore
attribute [local go_sem] max2_int min2_int max_two min_two max_three min_three max_four min_four
set_option linter.unusedVariables false
set_option linter.unusedSimpArgs false
theorem heldSS_loop (g : List (List Int)) (a : Int) (ha : 0 ≤ a) (hn : a + total g < 4611686018427387904) (hg : g.length < 4611686018427387904) (d : Nat) : ∀ (i : Nat), i + d = g.length →
    Ev (fun k => laws_heldInt64SS.l0 k (markL a g) (a + total (g.take i)) i) (a + total g) := by
  induction d with
  | zero =>
    intro i hd
    have e : i = g.length := by omega
    subst e
    refine Ev.step (f := fun _ => some (a + total g)) (fun k => ?_) (Ev.now _)
    simp only [laws_heldInt64SS.l0]
    rw [if_neg (by rw [markL_length]; omega), List.take_length]
  | succ d ih =>
    intro i hd
    obtain ⟨row, hp⟩ := get_some (xs := g) (i := i) (by omega)
    have hx := ih (i + 1) (by omega)
    have et : total (g.take (i + 1)) = total (g.take i) + row.length := by
      rw [List.take_add_one, hp]
      have : ∀ (x y : List (List Int)), total (x ++ y) = total x + total y := fun x y => by
        induction x with
        | nil => simp [total]
        | cons z r ihx => simp only [List.cons_append, total, ihx]; omega
      rw [this]
      simp [total]
    have hb : total (g.take i) + row.length + total (g.drop (i + 1)) = total g := by
      have : ∀ (x y : List (List Int)), total (x ++ y) = total x + total y := fun x y => by
        induction x with
        | nil => simp [total]
        | cons z r ihx => simp only [List.cons_append, total, ihx]; omega
      have e := congrArg total (List.take_append_drop i g)
      rw [this, drop_of hp] at e
      simp only [total] at e
      omega
    have h0 := total_nonneg (g.take i)
    have h1 := total_nonneg (g.drop (i + 1))
    have hget : rd_L1 (markL a g) (i : Int) = marks (a + total (g.take i)) row.length := by
      rw [rdL1_nat]
      have e : markL a g = markL a (g.take i) ++ markL (a + total (g.take i)) (g.drop i) := by rw [← markL_append, List.take_append_drop]
      rw [e, drop_of hp, List.getD_eq_getElem?_getD, List.getElem?_append_right (by rw [markL_length, List.length_take]; omega), markL_length, List.length_take, show i - min i g.length = 0 by omega]
      rfl
    have hh := held_ev row.length (a + total (g.take i)) (by omega) (by omega)
    rw [et, ← Int.add_assoc] at hx
    refine Ev.step (fun k => by simp only [laws_heldInt64SS.l0]; rw [if_pos (by rw [markL_length]; omega), if_pos (by omega), hget]) (Ev.bind hh (Ev.congr (fun k => ?_) hx))
    rw [if_neg (by omega), wrapS (by omega) (by omega), cast_succ]
theorem heldG_ev (g : List (List Int)) (a : Int) (ha : 0 ≤ a) (hn : a + total g < 4611686018427387904) (hg : g.length < 4611686018427387904) : Ev (fun k => laws_heldGame.f k (markL a g) a) (a + total g) := by
  have h := heldSS_loop g a ha hn hg g.length 0 (by omega)
  have h0 := total_nonneg g
  have e : a + total (g.take 0) = a := by simp [total]
  rw [e] at h
  unfold laws_heldGame.f
  refine Ev.bind (g := fun k => laws_heldInt64SS.f k (markL a g) a) (Ev.congr (fun k => rfl) h) (Ev.congr (f := fun _ => some (a + total g)) (fun k => ?_) (Ev.now _))
  rw [if_neg (by omega)]
theorem total_le (n : Nat) : ∀ g : List (List Int), (∀ row ∈ g, row.length ≤ n) → total g ≤ (g.length : Int) * n
  | [], _ => by simp [total]
  | row :: rest, h => by
    have := total_le n rest (fun r hr => h r (by simp [hr]))
    have h1 := h row (by simp)
    simp only [total, List.length_cons]
    have e : (((rest.length + 1 : Nat) : Int)) * (n : Int) = (rest.length : Int) * n + n := by rw [Int.natCast_add, Int.add_mul]; simp
    omega

end Go.Proofs.Ytbiemfbdobdecaa.PX

/- The program's IsGame and the reference's l01Is tell the same, on every list of lists of sizes that fit in memory. -/
namespace Go.Proofs.Ytbiemfbdobdecaa.PX
open Go.RowKit Go.Proofs.YtbiemfbdobdecaaW.PrintWords Go.Proofs.YtbiemfbdobdecaaW.PrintLast Go.Proofs.YtbiemfbdobdecaaW.PrintMore
attribute [local go_sem] max2_int min2_int max_two min_two max_three min_three max_four min_four
set_option linter.unusedVariables false
set_option linter.unusedSimpArgs false
def okRow (last n : Int) : List Int → Bool
  | [] => true
  | x :: r => decide (last < x) && (decide (x < n) && okRow x n r)
def okRows (n : Int) : Int → List (List Int) → Bool
  | _, [] => true
  | p, row :: rest => okRow p n row && okRows n (p + 1) rest
def isGame (g : List (List Int)) : Bool := decide (1 ≤ g.length) && (decide (g.length ≤ 40) && okRows g.length 0 g)
theorem is_row (g : List (List Int)) (row : List Int) (p : Nat) (hp : g[p]? = some row) (hl : row.length < 4611686018427387904) (hg : g.length < 4611686018427387904) (v : Bool)
    (hv : Ev (fun k => spec_l01Is.l0 k (g.length : Int) ((p + 1 : Nat) : Int) g) v) (d : Nat) :
    ∀ (i : Nat) (last : Int), i + d = row.length → Ev (fun k => spec_l01Is.l1 k (g.length : Int) (p : Int) last (i : Int) g) (okRow last g.length (row.drop i) && v) := by
  have hpl : p < g.length := (List.getElem?_eq_some_iff.1 hp).1
  have hr : rd_L1 g (p : Int) = row := by rw [rdL1_nat]; exact getD_of hp
  induction d with
  | zero =>
    intro i last hd
    have e : row.drop i = [] := List.drop_eq_nil_of_le (by omega)
    rw [e]
    refine Ev.step (fun k => ?_) (r := v) (show Ev _ _ from hv)
    simp only [spec_l01Is.l1]
    rw [if_pos (by omega), if_pos (by omega), hr, if_neg (by omega), wrapS (by omega) (by omega), cast_succ]
  | succ d ih =>
    intro i last hd
    obtain ⟨x, hx⟩ := get_some (xs := row) (i := i) (by omega)
    have hrx : rd row (i : Int) = x := by rw [rd_nat]; exact getD_of hx
    have h1 : ∀ k, spec_l01Is.l1 (k + 1) (g.length : Int) (p : Int) last (i : Int) g = (if x ≤ last then (some false) else (if x ≥ (g.length : Int) then (some false) else (spec_l01Is.l1 k (g.length : Int) (p : Int) x ((i + 1 : Nat) : Int) g))) := fun k => by
      simp only [spec_l01Is.l1]
      rw [if_pos (by omega), if_pos (by omega), hr, if_pos (by omega), if_pos (by omega), hrx, wrapS (by omega) (by omega), cast_succ]
    rw [drop_of hx]
    simp only [okRow]
    by_cases c1 : x ≤ last
    · have : (decide (last < x)) = false := by simp; omega
      rw [this]
      exact Ev.step (fun k => by rw [h1, if_pos c1]) (Ev.now false)
    · have : (decide (last < x)) = true := by simp; omega
      rw [this]
      by_cases c2 : x ≥ (g.length : Int)
      · have : (decide (x < (g.length : Int))) = false := by simp; omega
        rw [this]
        exact Ev.step (fun k => by rw [h1, if_neg c1, if_pos c2]) (Ev.now false)
      · have : (decide (x < (g.length : Int))) = true := by simp; omega
        rw [this]
        simp only [Bool.true_and]
        exact Ev.step (fun k => by rw [h1, if_neg c1, if_neg c2]) (ih (i + 1) x (by omega))
theorem is_rows (g : List (List Int)) (hl : ∀ row ∈ g, row.length < 4611686018427387904) (hg : g.length < 4611686018427387904) (d : Nat) :
    ∀ p : Nat, p + d = g.length → Ev (fun k => spec_l01Is.l0 k (g.length : Int) (p : Int) g) (okRows g.length p (g.drop p)) := by
  induction d with
  | zero =>
    intro p hd
    rw [List.drop_eq_nil_of_le (by omega)]
    refine Ev.step (f := fun _ => some true) (fun k => ?_) (Ev.now true)
    simp only [spec_l01Is.l0]; rw [if_neg (by omega)]
  | succ d ih =>
    intro p hd
    obtain ⟨row, hp⟩ := get_some (xs := g) (i := p) (by omega)
    rw [drop_of hp]
    simp only [okRows, cast_succ]
    refine Ev.step (fun k => ?_) (is_row g row p hp (hl row (List.mem_of_getElem? hp)) hg _ (ih (p + 1) (by omega)) row.length 0 (p : Int) (by omega))
    simp only [spec_l01Is.l0]; rw [if_pos (by omega)]; rfl
theorem l01Is_ev (g : List (List Int)) (hl : ∀ row ∈ g, row.length < 4611686018427387904) (hg : g.length < 4611686018427387904) : Ev (fun k => spec_l01Is.f k g) (isGame g) := by
  have hin : spec_l01In.f (g.length : Int) 1 40 = some (decide (1 ≤ g.length) && decide (g.length ≤ 40)) := by
    unfold spec_l01In.f
    by_cases h : (g.length : Int) ≥ 1
    · rw [if_pos h]
      have : decide (1 ≤ g.length) = true := decide_eq_true (by omega)
      have e2 : decide ((g.length : Int) ≤ 40) = decide (g.length ≤ 40) := by rw [decide_eq_decide]; omega
      rw [this, Bool.true_and, e2]
    · rw [if_neg h]
      have : decide (1 ≤ g.length) = false := decide_eq_false (by omega)
      rw [this]; rfl
  unfold isGame
  by_cases h1 : (decide (1 ≤ g.length) && decide (g.length ≤ 40)) = true
  · have h2 : (decide (1 ≤ g.length) = true) ∧ (decide (g.length ≤ 40) = true) := by simpa using h1
    rw [h2.1, h2.2]
    simp only [Bool.true_and]
    refine Ev.congr (fun k => ?_) (is_rows g hl hg g.length 0 (by omega))
    unfold spec_l01Is.f spec_l01N.f
    simp only [Option.bind_some, hin]
    rw [if_pos h1]; rfl
  · have h2 : (decide (1 ≤ g.length) && (decide (g.length ≤ 40) && okRows (g.length : Int) 0 g)) = false := by
      cases a : decide (1 ≤ g.length) <;> cases b : decide (g.length ≤ 40) <;> simp_all
    rw [h2]
    refine Ev.congr (f := fun _ => some false) (fun k => ?_) (Ev.now false)
    unfold spec_l01Is.f spec_l01N.f
    simp only [Option.bind_some, hin]
    rw [if_neg h1]
theorem rising_loop (xs : List Int) (lo hi : Int) (hl : xs.length < 4611686018427387904) (d : Nat) :
    ∀ (i : Nat) (last : Int), i + d = xs.length → (if i = 0 then last = lo - 1 else xs[i - 1]? = some last) → lo - 1 ≤ last → Ev (fun k => impl_isRising.l0 k xs lo hi xs (xs.length : Int) (i : Int)) (okRow last (hi + 1) (xs.drop i)) := by
  have hw : ∀ a b c : Int, impl_within.f a b c = some (decide (b ≤ a) && decide (a ≤ c)) := by
    intro a b c
    unfold impl_within.f
    by_cases h : b ≤ a <;> simp [h]
  induction d with
  | zero =>
    intro i last hd _ _
    rw [List.drop_eq_nil_of_le (by omega)]
    refine Ev.step (f := fun _ => some true) (fun k => ?_) (Ev.now true)
    simp only [impl_isRising.l0]; rw [if_neg (by omega)]
  | succ d ih =>
    intro i last hd hlast hge
    obtain ⟨x, hx⟩ := get_some (xs := xs) (i := i) (by omega)
    have hrx : rd xs (i : Int) = x := by rw [rd_nat]; exact getD_of hx
    rw [drop_of hx]
    simp only [okRow]
    have hn := ih (i + 1) x (by omega) (by rw [if_neg (by omega)]; simpa using hx)
    by_cases h0 : i = 0
    · subst h0
      rw [if_pos rfl] at hlast
      subst hlast
      have h1 : ∀ k, impl_isRising.l0 (k + 1) xs lo hi xs (xs.length : Int) ((0 : Nat) : Int) = (if (decide (lo ≤ x) && decide (x ≤ hi)) = true then (impl_isRising.l0 k xs lo hi xs (xs.length : Int) ((0 + 1 : Nat) : Int)) else (some false)) := fun k => by
        simp only [impl_isRising.l0]
        rw [if_pos (by omega), if_pos (by omega), if_pos (by omega), hrx, hw]
        simp only [Option.bind_some]
        rw [if_neg (show ¬ (((0 : Nat) : Int) > 0) by omega), wrapS (by omega) (by omega), cast_succ]
      by_cases c : (decide (lo ≤ x) && decide (x ≤ hi)) = true
      · have c' : lo ≤ x ∧ x ≤ hi := by simpa using c
        have e1 : decide (lo - 1 < x) = true := by simp; omega
        have e2 : decide (x < hi + 1) = true := by simp; omega
        rw [e1, e2]
        simp only [Bool.true_and]
        exact Ev.step (fun k => by rw [h1, if_pos c]) (hn (by omega))
      · have e : (decide (lo - 1 < x) && (decide (x < hi + 1) && okRow x (hi + 1) (xs.drop (0 + 1)))) = false := by
          cases a : decide (lo - 1 < x) <;> cases b : decide (x < hi + 1) <;> simp_all <;> omega
        rw [e]
        exact Ev.step (fun k => by rw [h1, if_neg c]) (Ev.now false)
    · rw [if_neg h0] at hlast
      have hw1 : wrap64 ((i : Int) - 1) = ((i - 1 : Nat) : Int) := by rw [wrapS (by omega) (by omega)]; omega
      have hrl : rd xs ((i - 1 : Nat) : Int) = last := by
        rw [rd_nat]
        exact getD_of hlast
      have h1 : ∀ k, impl_isRising.l0 (k + 1) xs lo hi xs (xs.length : Int) (i : Int) = (if (decide (lo ≤ x) && decide (x ≤ hi)) = true then (if x ≤ last then (some false) else (impl_isRising.l0 k xs lo hi xs (xs.length : Int) ((i + 1 : Nat) : Int))) else (some false)) := fun k => by
        simp only [impl_isRising.l0]
        rw [if_pos (by omega), if_pos (by omega), if_pos (by omega), hrx, hw]
        simp only [Option.bind_some]
        rw [if_pos (show ((i : Int) > 0) by omega), hw1, if_pos (show (0 : Int) ≤ ((i - 1 : Nat) : Int) by omega), if_pos (show ((i - 1 : Nat) : Int) < (xs.length : Int) by omega), hrl, wrapS (by omega) (by omega), cast_succ]
      by_cases c1 : x ≤ last
      · have e : decide (last < x) = false := by simp; omega
        rw [e]
        refine Ev.step (f := fun _ => some false) (fun k => ?_) (Ev.now false)
        rw [h1, if_pos c1]; split <;> rfl
      · have e : decide (last < x) = true := by simp; omega
        rw [e]
        simp only [Bool.true_and]
        by_cases c2 : x ≤ hi
        · have e2 : decide (x < hi + 1) = true := by simp; omega
          rw [e2]
          simp only [Bool.true_and]
          exact Ev.step (fun k => by rw [h1, if_pos (by simp; omega), if_neg c1]) (hn (by omega))
        · have e2 : decide (x < hi + 1) = false := by simp; omega
          rw [e2]
          exact Ev.step (fun k => by rw [h1, if_neg (by simp; omega)]) (Ev.now false)
theorem rising_ev (xs : List Int) (lo hi : Int) (hl : xs.length < 4611686018427387904) : Ev (fun k => impl_isRising.f k xs lo hi) (okRow (lo - 1) (hi + 1) xs) := by
  have := rising_loop xs lo hi hl xs.length 0 (lo - 1) (by omega) (by simp) (by omega)
  exact this
theorem isg_loop (g : List (List Int)) (hl : ∀ row ∈ g, row.length < 4611686018427387904) (hg : g.length < 4611686018427387904) (d : Nat) :
    ∀ p : Nat, p + d = g.length → Ev (fun k => impl_IsGame.l0 k (g.length : Int) g (g.length : Int) (p : Int)) (okRows g.length p (g.drop p) && (decide (1 ≤ g.length) && decide (g.length ≤ 40))) := by
  induction d with
  | zero =>
    intro p hd
    rw [List.drop_eq_nil_of_le (by omega)]
    refine Ev.step (f := fun _ => some (decide (1 ≤ g.length) && decide (g.length ≤ 40))) (fun k => ?_) (by simp only [okRows, Bool.true_and]; exact Ev.now _)
    simp only [impl_IsGame.l0]; rw [if_neg (by omega)]
    unfold impl_within.f
    by_cases h : (1 : Int) ≤ (g.length : Int)
    · rw [if_pos h]
      have e : decide (1 ≤ g.length) = true := decide_eq_true (by omega)
      rw [e]; simp; omega
    · rw [if_neg h]
      have e : decide (1 ≤ g.length) = false := decide_eq_false (by omega)
      rw [e]; simp
  | succ d ih =>
    intro p hd
    obtain ⟨row, hp⟩ := get_some (xs := g) (i := p) (by omega)
    have hr : rd_L1 g (p : Int) = row := by rw [rdL1_nat]; exact getD_of hp
    rw [drop_of hp]
    simp only [okRows, cast_succ]
    have hrow := rising_ev row (wrap64 ((p : Int) + 1)) (wrap64 ((g.length : Int) - 1)) (hl row (List.mem_of_getElem? hp))
    rw [wrapS (by omega) (by omega), wrapS (by omega) (by omega), show (p : Int) + 1 - 1 = (p : Int) by omega, show (g.length : Int) - 1 + 1 = (g.length : Int) by omega] at hrow
    have hn := ih (p + 1) (by omega)
    refine Ev.step (f := fun k => (impl_isRising.f k row ((p : Int) + 1) ((g.length : Int) - 1)).bind fun t => if t = true then (impl_IsGame.l0 k (g.length : Int) g (g.length : Int) ((p + 1 : Nat) : Int)) else (some false)) (fun k => ?_) (Ev.bind hrow ?_)
    · simp only [impl_IsGame.l0]
      rw [if_pos (by omega), if_pos (by omega), if_pos (by omega), hr, wrapS (i := (p : Int) + 1) (by omega) (by omega), wrapS (i := (g.length : Int) - 1) (by omega) (by omega), cast_succ]
    · cases okRow (p : Int) (g.length : Int) row with
      | true => simp only [Bool.true_and]; exact Ev.congr (fun k => by simp) hn
      | false => exact Ev.congr (f := fun _ => some false) (fun k => by simp) (Ev.now false)
theorem IsGame_ev (g : List (List Int)) (hl : ∀ row ∈ g, row.length < 4611686018427387904) (hg : g.length < 4611686018427387904) : Ev (fun k => impl_IsGame.f k g) (isGame g) := by
  have := isg_loop g hl hg g.length 0 (by omega)
  have e : isGame g = (okRows (g.length : Int) ((0 : Nat) : Int) (g.drop 0) && (decide (1 ≤ g.length) && decide (g.length ≤ 40))) := by
    unfold isGame
    rw [List.drop_zero]
    cases decide (1 ≤ g.length) <;> cases decide (g.length ≤ 40) <;> simp
  rw [e]
  exact this

end Go.Proofs.Ytbiemfbdobdecaa.PX

/- Values of the places of a game, from the last place to the first; what a game that is told to be one gives (no condition). -/
namespace Go.Proofs.Ytbiemfbdobdecaa.PX
open Go.RowKit Go.Proofs.YtbiemfbdobdecaaW.PrintWords Go.Proofs.YtbiemfbdobdecaaW.PrintLast Go.Proofs.YtbiemfbdobdecaaW.PrintMore
attribute [local go_sem] max2_int min2_int max_two min_two max_three min_three max_four min_four
set_option linter.unusedVariables false
set_option linter.unusedSimpArgs false
theorem okRow_mem {n : Int} : ∀ {xs : List Int} {last : Int}, okRow last n xs = true → ∀ q ∈ xs, last < q ∧ q < n
  | [], _, _, q, h => by simp at h
  | x :: r, last, h, q, hq => by
    simp only [okRow, Bool.and_eq_true, decide_eq_true_eq] at h
    rcases List.mem_cons.1 hq with rfl | hq
    · exact ⟨h.1, h.2.1⟩
    · have := okRow_mem h.2.2 q hq
      exact ⟨by omega, this.2⟩
theorem okRow_len {n : Int} : ∀ {xs : List Int} {last : Int}, okRow last n xs = true → last < n → (xs.length : Int) ≤ n - 1 - last
  | [], last, _, h => by simp only [List.length_nil]; omega
  | x :: r, last, h, hl => by
    simp only [okRow, Bool.and_eq_true, decide_eq_true_eq] at h
    have := okRow_len h.2.2 h.2.1
    simp only [List.length_cons]
    omega
theorem okRows_get {n : Int} : ∀ {g : List (List Int)} {p : Int} {i : Nat} {row : List Int}, okRows n p g = true → g[i]? = some row → okRow (p + i) n row = true
  | [], _, _, _, _, h => by simp at h
  | x :: r, p, i, row, h, hi => by
    simp only [okRows, Bool.and_eq_true] at h
    cases i with
    | zero =>
      simp only [List.getElem?_cons_zero, Option.some.injEq] at hi
      subst hi
      simpa using h.1
    | succ i =>
      simp only [List.getElem?_cons_succ] at hi
      have := okRows_get h.2 hi
      rw [show p + ((i + 1 : Nat) : Int) = p + 1 + i by omega]
      exact this
theorem game_row {g : List (List Int)} (h : isGame g = true) {p : Nat} {row : List Int} (hp : g[p]? = some row) :
    (∀ q ∈ row, (p : Int) < q ∧ q < g.length) ∧ row.length ≤ 40 := by
  simp only [isGame, Bool.and_eq_true, decide_eq_true_eq] at h
  have hr := okRows_get h.2.2 hp
  have hl : p < g.length := (List.getElem?_eq_some_iff.1 hp).1
  have h1 := okRow_mem hr
  have h2 := okRow_len hr (by omega)
  exact ⟨fun q hq => ⟨by have := h1 q hq; omega, (h1 q hq).2⟩, by omega⟩
theorem game_len {g : List (List Int)} (h : isGame g = true) : 1 ≤ g.length ∧ g.length ≤ 40 := by
  simp only [isGame, Bool.and_eq_true, decide_eq_true_eq] at h
  exact ⟨h.1, h.2.1⟩
/-- The values of the last d places, the first of them first. -/
def backAt {α : Type} (sem : List α → α) (z : α) (g : List (List Int)) : Nat → List α
  | 0 => []
  | d + 1 => sem ((g.getD (g.length - (d + 1)) []).map fun q => (backAt sem z g d).getD (q.toNat - (g.length - d)) z) :: backAt sem z g d
theorem backAt_length {α : Type} (sem : List α → α) (z : α) (g : List (List Int)) : ∀ d, (backAt sem z g d).length = d
  | 0 => rfl
  | d + 1 => by simp only [backAt, List.length_cons, backAt_length sem z g d]
def backs {α : Type} (sem : List α → α) (z : α) (g : List (List Int)) : List α := backAt sem z g g.length
/-- What the places after p lead a row to. -/
def seen {α : Type} (sem : List α → α) (z : α) (g : List (List Int)) (p d : Nat) (row : List Int) : List α := row.map fun q => (backAt sem z g d).getD (q.toNat - (p + 1)) z
theorem backAt_succ {α : Type} (sem : List α → α) (z : α) (g : List (List Int)) (p d : Nat) (row : List Int) (hg : g.length = p + 1 + d) (hp : g[p]? = some row) :
    backAt sem z g (d + 1) = sem (seen sem z g p d row) :: backAt sem z g d := by
  simp only [backAt, seen]
  rw [show g.length - (d + 1) = p by omega, show g.length - d = p + 1 by omega, getD_of hp]
theorem arr_get {α : Type} (z : α) (m : Nat) (bs : List α) (q : Nat) (h : m ≤ q) : (List.replicate m z ++ bs).getD q z = bs.getD (q - m) z := by
  rw [List.getD_eq_getElem?_getD, List.getD_eq_getElem?_getD, List.getElem?_append_right (by simpa using h), List.length_replicate]
theorem arr_set {α : Type} (z v : α) (p : Nat) (bs : List α) : (List.replicate (p + 1) z ++ bs).set p v = List.replicate p z ++ v :: bs := by
  rw [List.replicate_succ', List.append_assoc, List.set_append_right _ _ (by simp)]
  simp
/-- What holds of every value of the later places holds of what a row is led to. -/
theorem seen_all {α : Type} (sem : List α → α) (z : α) (Q : α → Prop) (g : List (List Int)) (p d : Nat) (row : List Int) (hg : g.length = p + 1 + d)
    (hq : ∀ q ∈ row, (p : Int) < q ∧ q < g.length) (hb : ∀ x ∈ backAt sem z g d, Q x) : ∀ x ∈ seen sem z g p d row, Q x := by
  intro x hx
  obtain ⟨q, hm, rfl⟩ := List.mem_map.1 hx
  have h := hq q hm
  have hl : q.toNat - (p + 1) < (backAt sem z g d).length := by rw [backAt_length]; omega
  rw [List.getD_eq_getElem?_getD, List.getElem?_eq_getElem hl]
  exact hb _ (List.getElem_mem hl)
theorem backAt_all {α : Type} (sem : List α → α) (z : α) (Q : α → Prop) (g : List (List Int)) (h : isGame g = true) (hs : ∀ xs : List α, xs.length ≤ 40 → (∀ x ∈ xs, Q x) → Q (sem xs)) :
    ∀ d, d ≤ g.length → ∀ x ∈ backAt sem z g d, Q x
  | 0, _, x, hx => by simp [backAt] at hx
  | d + 1, hd, x, hx => by
    obtain ⟨p, hp⟩ : ∃ p, g.length = p + 1 + d := ⟨g.length - (d + 1), by omega⟩
    obtain ⟨row, hr⟩ := get_some (xs := g) (i := p) (by omega)
    have ih := backAt_all sem z Q g h hs d (by omega)
    have hw := game_row h hr
    rw [backAt_succ sem z g p d row hp hr] at hx
    rcases List.mem_cons.1 hx with rfl | hx
    · exact hs _ (by simp only [seen, List.length_map]; exact hw.2) (seen_all sem z Q g p d row hp hw.1 ih)
    · exact ih x hx

end Go.Proofs.Ytbiemfbdobdecaa.PX

/- Numbers within bounds, and the first of two checks that fails (no condition). -/
namespace Go.Proofs.Ytbiemfbdobdecaa.PX
open Go.RowKit Go.Proofs.YtbiemfbdobdecaaW.PrintWords Go.Proofs.YtbiemfbdobdecaaW.PrintLast Go.Proofs.YtbiemfbdobdecaaW.PrintMore
attribute [local go_sem] max2_int min2_int max_two min_two max_three min_three max_four min_four
set_option linter.unusedVariables false
set_option linter.unusedSimpArgs false
theorem l01In_eq (a b c : Int) : spec_l01In.f a b c = some (decide (b ≤ a) && decide (a ≤ c)) := by
  unfold spec_l01In.f
  by_cases h : b ≤ a <;> simp [h]
theorem within_eq (a b c : Int) : impl_within.f a b c = some (decide (b ≤ a) && decide (a ≤ c)) := by
  unfold impl_within.f
  by_cases h : b ≤ a <;> simp [h]
theorem ev_add {α : Type} {g f : Nat → Option α} {r : α} (n : Nat) (h : ∀ k, g (k + n) = f k) (k : Ev f r) : Ev g r := by
  obtain ⟨K, hK⟩ := k
  refine ⟨K + n, fun m hm => ?_⟩
  obtain ⟨d, rfl⟩ : ∃ d, m = d + n := ⟨m - n, by omega⟩
  rw [h]
  exact hK d (by omega)
def firstOf (a b : Bool) (x y : Int) : Int := if a = true then (if b = true then 0 else y) else x
theorem first2_ev (a b : Bool) (x y : Int) : Ev (fun k => impl_first.f k (([(⟨a, x⟩ : S50), (⟨b, y⟩ : S50)] : List (S50)))) (firstOf a b x y) := by
  cases a <;> cases b
  · exact ev_add (f := fun _ => some x) 3 (fun k => by kernel_rfl) (Ev.now _)
  · exact ev_add (f := fun _ => some x) 3 (fun k => by kernel_rfl) (Ev.now _)
  · exact ev_add (f := fun _ => some y) 3 (fun k => by kernel_rfl) (Ev.now _)
  · exact ev_add (f := fun _ => some 0) 3 (fun k => by kernel_rfl) (Ev.now _)

end Go.Proofs.Ytbiemfbdobdecaa.PX
