/- The walk of the program's BestMoves: the test of a place over a boxed list of truth values, and the moves that it leaves (conditions: the slices read as the lists; each call answers). -/
import Derived.Test.YtbiemfbdobdecaaPXx0
import Derived.Test.YtbiemfbdobdecaaPXx19
import Derived.Test.YtbiemfbdobdecaaPXx23
import Derived.Test.YtbiemfbdobdecaaDelFunc
import Derived.Test.YtbiemfbdobdecaaClone
import Derived.Test.YtbiemfbdobdecaaIvl
namespace Go.Proofs.Ytbiemfbdobdecaa.PX
open Go.RowKit Go.Proofs.YtbiemfbdobdecaaW.PrintWords Go.Proofs.YtbiemfbdobdecaaW.PrintLast Go.Proofs.YtbiemfbdobdecaaW.PrintMore
attribute [local go_sem] max2_int min2_int max_two min_two max_three min_three max_four min_four
set_option linter.unusedVariables false
set_option linter.unusedSimpArgs false
theorem below_down {b c : Nat} {w w1 : World} (h : Below c w w1) (hb : b ≤ c) : Below b w w1 := h.mono hb
theorem bestMoves1_has : HasFn 50 := ⟨_, Try.func50, by kernel_rfl, rfl⟩
set_option maxHeartbeats 8000000 in
set_option maxRecDepth 100000 in
theorem bestMoves1.calls (A1 : Option Addr) (c1 : Nat) (ws : List Bool) (gb : Nat) (x : Int) (w : World) (hB : w.heap[gb]? = some (.cells #[.slice A1 ws.length c1] 56 (0, 0)))
    (hr : Kd.C Kd.bool w A1 ws.length ws) (h0 : 0 ≤ x) (h1 : x < (ws.length : Int)) :
    Calls Try.prog 50 (#[.int .i64 x] ++ #[.pointer (some ⟨gb, 0, none⟩)]) w fun e w' => e = .returned (.bool (rdOf false ws x)) ∧ Drawn0 w w' := by
  show Calls Try.prog 50 #[.int .i64 x, .pointer (some ⟨gb, 0, none⟩)] w fun e w' => e = .returned (.bool (rdOf false ws x)) ∧ Drawn0 w w'
  have hz : w.cell? ⟨gb, 0, none⟩ = some (.slice A1 ws.length c1) := (blk_cell hB 0).trans rfl
  have hf := blk_frozen hB 0
  have c1b := decide_eq_true h0
  have c2b := decide_eq_true h1
  obtain ⟨ad, e1, hx⟩ := Kd.at_bool hr x h0 h1
  cases e1
  clear hr hB
  replace h0 := eq_true h0
  replace h1 := eq_true h1
  go_enter Try.func50, Try.ntmps50
  go_wp2
  go_ret
  exact ⟨rfl, Drawn0.refl _⟩
def impl_BestMoves.f (k : Nat) (g : List (List Int)) (p : Int) : Option (List Int × Int) := (impl_placeCode.f k g p).bind fun t => if t = 0 then (impl_WonPlaces.f k g).bind fun bt => (if 0 ≤ p then (if p < (g.length : Int) then (if (rd_L1 g p).length < 17592186044416 then (if (rd_L1 g p).all (fun q => decide (0 ≤ q) && decide (q < (bt.1.length : Int))) = true then some ((rd_L1 g p).filter (fun q => !(rdOf false bt.1 q)), 0) else none) else none) else none) else none) else some ([], t)
theorem impl_BestMoves.mono : ∀ a0 a1 k, LeO (impl_BestMoves.f k a0 a1) (impl_BestMoves.f (k + 1) a0 a1) := by
  intro a0 a1 k
  unfold impl_BestMoves.f
  refine LeO.bind (impl_placeCode.mono _ _ _) (fun _ => ?_)
  refine LeO.ite ?_ (LeO.refl _)
  exact LeO.bind (impl_WonPlaces.mono _ _) (fun _ => LeO.refl _)
set_option maxHeartbeats 16000000 in
set_option maxRecDepth 100000 in
theorem impl_BestMoves.calls (k : Nat) (A0_0 : Option Addr) (c0_0 : Nat) (l0_0 : List (List Int)) (a1 : Int) (r1 : List Int) (r2 : Int) (w : World) (hr0_0 : Kd.C (Kd.slice 2 (Kd.int .i64)) w A0_0 l0_0.length l0_0) (hc0_0 : l0_0.length ≤ c0_0) (h : impl_BestMoves.f k l0_0 a1 = some (r1, r2)) :
    Calls Try.prog 23 #[.agg #[.slice A0_0 l0_0.length c0_0], .int .i64 a1] w fun e w' => ∃ v0_ : Value, e = .returned (.tuple #[v0_, .int .i64 r2]) ∧ Kd.R (Kd.int .i64) 2 w' w.heap.size (fun _ => True) v0_ r1 ∧ Below w.heap.size w w' := by
  have hu26 := Try.underlying26
  have HR0_0 := Aside0.mk hr0_0
  have HC0_0 := Aside0.mk hc0_0
  clear hr0_0 hc0_0
  have HB := Aside0.mk (Below.refl w.heap.size w)
  unfold impl_BestMoves.f at h
  obtain ⟨t, A20, h⟩ := Option.bind_eq_some_iff.mp h
  have A2 := Aside0.mk A20
  clear A20
  by_cases c : t = 0
  · subst c
    rw [if_pos rfl] at h
    obtain ⟨⟨bt1, bt2⟩, A30, h⟩ := Option.bind_eq_some_iff.mp h
    have A3 := Aside0.mk A30
    clear A30
    by_cases c1 : 0 ≤ a1
    · rw [if_pos c1] at h
      by_cases c2 : a1 < (l0_0.length : Int)
      · rw [if_pos c2] at h
        by_cases c3 : (rd_L1 l0_0 a1).length < 17592186044416
        · rw [if_pos c3] at h
          by_cases c4 : (rd_L1 l0_0 a1).all (fun q => decide (0 ≤ q) && decide (q < (bt1.length : Int))) = true
          · have c4' : (rd_L1 l0_0 a1).all (fun q => decide (0 ≤ q) && decide (q < ((bt1, bt2).1.length : Int))) = true := c4
            rw [if_pos c4'] at h
            simp only [Option.some.injEq, Prod.mk.injEq] at h
            obtain ⟨rfl, rfl⟩ := h
            have hq : ∀ x ∈ rd_L1 l0_0 a1, 0 ≤ x ∧ x < (bt1.length : Int) := by
              intro x hx
              have := List.all_eq_true.1 c4 x hx
              simpa using this
            have HQ := Aside0.mk hq
            have HLr := Aside0.mk c3
            obtain ⟨ad, Ar, cr, e1, hx, hl, hi⟩ := at_L1 HR0_0.out a1 c1 c2
            cases e1
            have HRr := Aside0.mk hi
            have HCr := Aside0.mk hl
            have HXr := Aside0.mk hx
            clear hq c3 c4 c4' hi hl hx
            replace c1 := eq_true c1
            replace c2 := eq_true c2
            go_enter Try.func23, Try.ntmps23
            go_wp2_with (first | ((with_reducible refine gate_dst (N := 2) rfl ?_); refine box_event ?hg (N := 2) ?hd (cs := #[.slice (some ad) l0_0.length c0_0]) (t := 26) ?hr ?_; (case hd => rfl); (case hg => rfl); (case hr => first | (go_simp; done) | (go_simp; rfl)); intro gb1 hg w2 hbox hb; have GPgb1 := Aside0.mk hg; have BK := Aside0.mk hbox; clear hg hbox; have n0_ := Aside0.mk (below_then HB.out HB.out.size hb); clear HB hb; have HB := n0_; clear n0_; (try clear hz_gb1); have hz_gb1 : w2.cell? ⟨gb1, 0, none⟩ = some (.slice (some ad) l0_0.length c0_0) := (blk_cell BK.out 0).trans rfl; (try clear hf_gb1); have hf_gb1 := blk_frozen BK.out 0) | ((with_reducible refine gate_dst (N := 11) rfl ?_); refine goesL_ (some 11) rfl rfl Try.func42 (by kernel_rfl) rfl #[.agg #[.slice (some ad) l0_0.length c0_0], .int .i64 a1] rfl (by (try simp only [List.map_toArray, List.map_cons, List.map_nil]); first | done | rfl) ?_; (with_reducible refine (impl_placeCode.calls k _ _ l0_0 a1 0 _ ?side1 ?side2 A2.out).mono ?_); (case side1 => exact Kd.C_below HR0_0.out HB.out); (case side2 => exact HC0_0.out); rintro e w3 ⟨rfl, hb⟩; refine ⟨_, rfl, ?_⟩; have n0_ := Aside0.mk (below_then HB.out HB.out.size hb); have n1_ := Aside0.mk (blk_below (g := gb1) (o := .cells #[.slice (some ad) l0_0.length c0_0] 26 (0, 0)) BK.out hb); clear HB BK hb; have HB := n0_; have BK := n1_; clear n0_ n1_; (try clear hz_gb1); have hz_gb1 : w3.cell? ⟨gb1, 0, none⟩ = some (.slice (some ad) l0_0.length c0_0) := (blk_cell BK.out 0).trans rfl; (try clear hf_gb1); have hf_gb1 := blk_frozen BK.out 0) | ((with_reducible refine gate_dst (N := 17) rfl ?_); refine goesL_ (some 17) rfl rfl Try.func47 (by kernel_rfl) rfl #[.agg #[.slice (some ad) l0_0.length c0_0]] rfl (by (try simp only [List.map_toArray, List.map_cons, List.map_nil]); first | done | rfl) ?_; (with_reducible refine (impl_WonPlaces.calls k _ _ l0_0 bt1 bt2 _ ?side1 ?side2 A3.out).mono ?_); (case side1 => exact Kd.C_below HR0_0.out HB.out); (case side2 => exact HC0_0.out); rintro e w4 ⟨v4, rfl, ho, hb⟩; refine ⟨_, rfl, ?_⟩; obtain ⟨Aw, cw, e_Aw⟩ := Kd.R_slice ho; subst e_Aw; have HW := Aside0.mk (R_ivl ho HB.out.size); have Z3 : Aside0 (w3.heap.size ≤ w4.heap.size) := Aside0.mk hb.size; have n0_ := Aside0.mk (below_then HB.out HB.out.size hb); have n1_ := Aside0.mk (blk_below (g := gb1) (o := .cells #[.slice (some ad) l0_0.length c0_0] 26 (0, 0)) BK.out hb); clear HB BK hb; have HB := n0_; have BK := n1_; clear n0_ n1_; (try clear ho); (try clear hz_gb1); have hz_gb1 : w4.cell? ⟨gb1, 0, none⟩ = some (.slice (some ad) l0_0.length c0_0) := (blk_cell BK.out 0).trans rfl; (try clear hf_gb1); have hf_gb1 := blk_frozen BK.out 0) | ((with_reducible refine gate_dst (N := 7) rfl ?_); refine box_event ?hg (N := 7) ?hd (cs := #[.slice none 0 0]) (t := 56) ?hr ?_; (case hd => rfl); (case hg => rfl); (case hr => first | (go_simp; done) | (go_simp; rfl)); intro gb2 hg w5 hbox hb; have GPgb2 := Aside0.mk hg; have BK20 := Aside0.mk hbox; clear hg hbox; have L1 : Aside0 (gb1 < w4.heap.size) := Aside0.mk (blk_lt BK.out); have H4 : Aside0 (w.heap.size ≤ w4.heap.size) := Aside0.mk HB.out.size; have Z4 : Aside0 (gb2 < w5.heap.size) := Aside0.mk (blk_lt BK20.out); have n0_ := Aside0.mk (below_then HB.out HB.out.size hb); have n1_ := Aside0.mk (blk_below (g := gb1) (o := .cells #[.slice (some ad) l0_0.length c0_0] 26 (0, 0)) BK.out hb); have n2_ := Aside0.mk (Kd.R_below HW.out hb); clear HB BK HW hb; have HB := n0_; have BK := n1_; have HW := n2_; clear n0_ n1_ n2_; (try clear hz_gb1); have hz_gb1 : w5.cell? ⟨gb1, 0, none⟩ = some (.slice (some ad) l0_0.length c0_0) := (blk_cell BK.out 0).trans rfl; (try clear hf_gb1); have hf_gb1 := blk_frozen BK.out 0; (try clear hz_gb2); have hz_gb2 : w5.cell? ⟨gb2, 0, none⟩ = some (.slice none 0 0) := (blk_cell BK20.out 0).trans rfl; (try clear hf_gb2); have hf_gb2 := blk_frozen BK20.out 0) | ((with_reducible refine gate_store (t := 56) (p := 7) rfl ?_); refine store_event (t := 56) (p := 7) (v := ?vo_w6) (w1 := (w5.setCell ⟨gb2, 0, none⟩ (.slice Aw bt1.length cw))) ?hg ?ho ?hn ?hr ?_; (case ho => rfl); (case hg => rfl); (case hn => rfl); (case hr => first | (go_simp; done) | (go_simp; rfl)); intro w6 hw; have n0_ := Aside0.mk ((by rw [hw]; exact below_set (HB.out) (by have g_ := GPgb2.out; have hb_ := H4.out; omega) : Below w.heap.size w w6)); have n1_ := Aside0.mk ((by rw [hw]; exact blk_far (BK.out) (by have l1_ := L1.out; have g2_ := GPgb2.out; show gb1 ≠ gb2; omega) _ : w6.heap[gb1]? = some (.cells #[.slice (some ad) l0_0.length c0_0] 26 (0, 0)))); have n2_ := Aside0.mk (hw.symm ▸ (Kd.R_far (p := ⟨gb2, 0, none⟩) (HW.out) (fun k_ h_ => by have g_ := GPgb2.out; unfold Ivl at h_; show k_ ≠ gb2; omega) _)); have n3_ := Aside0.mk ((by rw [hw]; exact blk_put (cs := #[.slice none 0 0]) (BK20.out) 0 _ rfl : w6.heap[gb2]? = some (.cells #[.slice Aw bt1.length cw] 56 (0, 0)))); clear HB BK HW BK20 hw; have HB := n0_; have BK := n1_; have HW := n2_; have BK2 := n3_; clear n0_ n1_ n2_ n3_; (try clear hz_gb1); have hz_gb1 : w6.cell? ⟨gb1, 0, none⟩ = some (.slice (some ad) l0_0.length c0_0) := (blk_cell BK.out 0).trans rfl; (try clear hf_gb1); have hf_gb1 := blk_frozen BK.out 0; (try clear hz_gb2); have hz_gb2 : w6.cell? ⟨gb2, 0, none⟩ = some (.slice Aw bt1.length cw) := (blk_cell BK2.out 0).trans rfl; (try clear hf_gb2); have hf_gb2 := blk_frozen BK2.out 0; have hxr : w6.cell? (ad.add a1.toNat) = some (.slice Ar (rd_L1 l0_0 a1).length cr) := (HB.out.cell (World.block_lt_of_cell? w _ HXr.out)).trans HXr.out) | ((with_reducible refine gate_dst (N := 25) rfl ?_); refine goesL_ (some 25) rfl rfl Try.func49 (by kernel_rfl) rfl #[.slice Ar (rd_L1 l0_0 a1).length cr] rfl (by (try simp only [List.map_toArray, List.map_cons, List.map_nil]); first | done | rfl) ?_; (with_reducible refine (Clone.calls _ _ (rd_L1 l0_0 a1) _ ?side1 ?side2 HLr.out).mono ?_); (case side1 => exact Kd.C_below HRr.out HB.out); (case side2 => exact HCr.out); rintro e w7 ⟨v7, rfl, ho, hb⟩; refine ⟨_, rfl, ?_⟩; have HO := Aside0.mk ho; have H6 : Aside0 (w6.heap.size ≤ w7.heap.size) := Aside0.mk hb.size; have H6w : Aside0 (w.heap.size ≤ w6.heap.size) := Aside0.mk HB.out.size; have HB67 := Aside0.mk hb; have BK2o := BK2; have HWo := HW; have n0_ := Aside0.mk (below_then HB.out HB.out.size hb); have n1_ := Aside0.mk (blk_below (g := gb1) (o := .cells #[.slice (some ad) l0_0.length c0_0] 26 (0, 0)) BK.out hb); have n2_ := Aside0.mk (blk_below (g := gb2) (o := .cells #[.slice Aw bt1.length cw] 56 (0, 0)) BK2.out hb); have n3_ := Aside0.mk (Kd.R_below HW.out hb); clear HB BK BK2 HW hb; have HB := n0_; have BK := n1_; have BK2 := n2_; have HW := n3_; clear n0_ n1_ n2_ n3_; (try clear ho); (try clear hz_gb1); have hz_gb1 : w7.cell? ⟨gb1, 0, none⟩ = some (.slice (some ad) l0_0.length c0_0) := (blk_cell BK.out 0).trans rfl; (try clear hf_gb1); have hf_gb1 := blk_frozen BK.out 0; (try clear hz_gb2); have hz_gb2 : w7.cell? ⟨gb2, 0, none⟩ = some (.slice Aw bt1.length cw) := (blk_cell BK2.out 0).trans rfl; (try clear hf_gb2); have hf_gb2 := blk_frozen BK2.out 0) | ((with_reducible refine gate_dst (N := 27) rfl ?_); refine goesL_ (some 27) rfl rfl Try.func48 (by kernel_rfl) rfl #[v7, .func (.func 50) #[] #[.pointer (some ⟨gb2, 0, none⟩)]] rfl (by (try simp only [List.map_toArray, List.map_cons, List.map_nil]); first | done | rfl) ?_; refine (DeleteFunc.calls _ _ (fun q => rdOf false bt1 q) bestMoves1_has w6.heap.size (fun _ => True) v7 (rd_L1 l0_0 a1) _ H6.out HO.out (by have := HLr.out; omega) (fun x hx w9 hb9 => bestMoves1.calls Aw cw bt1 gb2 x w9 ((hb9.block gb2 (blk_lt BK2o.out)).trans BK2.out) (Kd.C_below (Kd.R_reads' HWo.out).2.2 (HB67.out.trans hb9)) (HQ.out x hx).1 (HQ.out x hx).2)).mono ?_; rintro e w8 ⟨v8, rfl, ho, hb⟩; refine ⟨_, rfl, ?_⟩; have HO8 := Aside0.mk (Kd.R_lower ho H6w.out); have n0_ := Aside0.mk (HB.out.trans (below_down hb H6w.out)); clear HB hb ho; have HB := n0_; clear n0_))
            go_ret2
            exact ⟨_, rfl, HO8.out, HB.out⟩
          · rw [if_neg c4] at h
            exact absurd h (by simp)
        · rw [if_neg c3] at h
          exact absurd h (by simp)
      · rw [if_neg c2] at h
        exact absurd h (by simp)
    · rw [if_neg c1] at h
      exact absurd h (by simp)
  · rw [if_neg c] at h
    simp only [Option.some.injEq, Prod.mk.injEq] at h
    obtain ⟨rfl, rfl⟩ := h
    have hne : (t != 0) = true := bne_iff_ne.mpr c
    have hne2 : (t == 0) = false := beq_eq_false_iff_ne.mpr c
    go_enter Try.func23, Try.ntmps23
    go_wp2_with (first | ((with_reducible refine gate_dst (N := 2) rfl ?_); refine box_event ?hg (N := 2) ?hd (cs := #[.slice A0_0 l0_0.length c0_0]) (t := 26) ?hr ?_; (case hd => rfl); (case hg => rfl); (case hr => first | (go_simp; done) | (go_simp; rfl)); intro gb1 hg w2 hbox hb; have GPgb1 := Aside0.mk hg; have BK := Aside0.mk hbox; clear hg hbox; have n0_ := Aside0.mk (below_then HB.out HB.out.size hb); clear HB hb; have HB := n0_; clear n0_; (try clear hz_gb1); have hz_gb1 : w2.cell? ⟨gb1, 0, none⟩ = some (.slice A0_0 l0_0.length c0_0) := (blk_cell BK.out 0).trans rfl; (try clear hf_gb1); have hf_gb1 := blk_frozen BK.out 0) | ((with_reducible refine gate_dst (N := 11) rfl ?_); refine goesL_ (some 11) rfl rfl Try.func42 (by kernel_rfl) rfl #[.agg #[.slice A0_0 l0_0.length c0_0], .int .i64 a1] rfl (by (try simp only [List.map_toArray, List.map_cons, List.map_nil]); first | done | rfl) ?_; (with_reducible refine (impl_placeCode.calls k _ _ l0_0 a1 t _ ?side1 ?side2 A2.out).mono ?_); (case side1 => exact Kd.C_below HR0_0.out HB.out); (case side2 => exact HC0_0.out); rintro e w3 ⟨rfl, hb⟩; refine ⟨_, rfl, ?_⟩; have n0_ := Aside0.mk (below_then HB.out HB.out.size hb); have n1_ := Aside0.mk (blk_below (g := gb1) (o := .cells #[.slice A0_0 l0_0.length c0_0] 26 (0, 0)) BK.out hb); clear HB BK hb; have HB := n0_; have BK := n1_; clear n0_ n1_; (try clear hz_gb1); have hz_gb1 : w3.cell? ⟨gb1, 0, none⟩ = some (.slice A0_0 l0_0.length c0_0) := (blk_cell BK.out 0).trans rfl; (try clear hf_gb1); have hf_gb1 := blk_frozen BK.out 0))
    go_ret2
    exact ⟨_, rfl, Kd.R_nil _ _ _ _ _, HB.out⟩

end Go.Proofs.Ytbiemfbdobdecaa.PX
