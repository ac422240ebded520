/- The row of FnExactBestParts, out of its plain law (no condition). -/
import Derived.Laws.EntriesVeiled
import Derived.Test.YtkbjoiebaphdoaaRows
import Derived.WalkKit
import Derived.ProofKit
import Derived.OpenShut
import Derived.ShutString
import Derived.ChangeOld
import Derived.Below
import Derived.Carry
import Derived.SizedLaws
import Derived.Lib.SmallJoins
import Derived.Test.YtkbjoiebaphdoaaPk5FnExactBestParts
/- A new function value that knows values of endings, and nothing yet; a call of a function value where the order is drawn (no condition). -/
namespace Go.Proofs.Ytkbjoiebaphdoaa.PX
open Go.RowKit Go.Proofs.YtkbjoiebaphdoaaW.PrintWords Go.Proofs.YtkbjoiebaphdoaaW.PrintLast Go.Proofs.YtkbjoiebaphdoaaW.PrintMore
attribute [local go_sem] max2_int min2_int max_two min_two max_three min_three max_four min_four
set_option linter.unusedVariables false
set_option linter.unusedSimpArgs false
theorem MemAt.set {w : World} {b : Nat} {M : List (List Int × List Int)} (h : MemAt w b M) {p : Addr} (hne : b ≠ p.block) (v : Value) : MemAt (w.setCell p v) b M := ⟨World.ownsMap.setCell h.1 hne v, h.2⟩
section
variable {ops : Array Oper} {Q : Exit → Act → World → Prop} {oi : Oper} {a : Act} {w : World} {K : Act → World → Prop}
/-- A call of a function value, in a region whose order is drawn. -/
theorem goesVd_ (N : Option Tmp) (hd : oi.dst = N) (hw : Region.wanted oi (yielded ops a.tmps) = true) {t : Tmp} {os_ : Array Operand} {ts : Array TypeId} (f : FuncId) (cap : Array Value) (hf : HasFn f) (args : Array Value)
    (hop : oi.op = .call { callee := .value (.tmp t), args := os_, argTypes := ts }) (ht : a.eval (.tmp t) = .func (.func f) #[] cap) (hargs : os_.map a.eval = args)
    (h : Calls Try.prog f (args ++ cap) w fun e w' => ∃ v, e = .returned v ∧ K (a.put N v) w') : if Region.wanted oi (yielded ops a.tmps) = true then Oper.wp Try.prog oi a w K Q else K (a.put N undef) w := by
  obtain ⟨fn, hf, hname, hb⟩ := hf
  have he := enters_ hf hname hb (args ++ cap) w
  have hrun : (execOp a.eval oi).run Try.prog w = .ok (.enter f (args ++ cap)) w := by
    unfold execOp
    simp only [hop, resolve, ht, hargs]
    simp [Deferred.ofValue, invoke, he]
  exact call_ f (args ++ cap) hw hd hrun h
end
set_option maxHeartbeats 16000000 in
set_option maxRecDepth 100000 in
theorem values.calls (w : World) : Calls Try.prog 76 #[] w fun e w' => ∃ bm b7 bf : Nat, e = .returned (.func (.func 104) #[] #[.pointer (some ⟨b7, 0, none⟩), .pointer (some ⟨bf, 0, none⟩)]) ∧ w.heap.size ≤ bm ∧ Known bm b7 bf 0 w' ∧ Below w.heap.size w w' := by
  have HB := Aside0.mk (Below.refl w.heap.size w)
  go_enter Try.func76, Try.ntmps76
  go_wp2_with (first | ((with_reducible refine gate_dst (N := 3) rfl ?_); (try (refine gate_guard (by rfl) ?_; dsimp only)); refine mem_event ?hg (N := 3) ?hd ?hr ?_; (case hd => rfl); (case hg => rfl); (case hr => first | (go_simp; done) | (go_simp; rfl)); intro bm hgm w2 hs hb; have KM := Aside0.mk hs; have GM := Aside0.mk hgm; clear hs hgm; have n0_ := Aside0.mk (below_step HB.out hb); clear HB; have HB := n0_; clear n0_ hb) | ((with_reducible refine gate_dst (N := 1) rfl ?_); (try (refine gate_guard (by rfl) ?_; dsimp only)); refine box_event ?hg (N := 1) ?hd (cs := #[.map none]) (t := 109) ?hr ?_; (case hd => rfl); (case hg => rfl); (case hr => first | (go_simp; done) | (go_simp; rfl)); intro b7 hg w3 hbox hb; have G7 := Aside0.mk hg; have B7 := Aside0.mk hbox; have L7 := Aside0.mk (show bm < b7 by rw [hg]; exact MemAt.lt KM.out); have n0_ := Aside0.mk (below_step HB.out hb); have n1_ := Aside0.mk (MemAt.below KM.out hb (MemAt.lt KM.out)); have P7 := Aside0.mk (show w.heap.size ≤ b7 by rw [hg]; exact HB.out.size); clear HB KM hg hbox hb; have HB := n0_; have KM := n1_; clear n0_ n1_; have hz7 : w3.cell? ⟨b7, 0, none⟩ = some (.map none) := (blk_cell B7.out 0).trans rfl; have hf7 := blk_frozen B7.out 0) | ((with_reducible refine gate_dst (N := 2) rfl ?_); (try (refine gate_guard (by rfl) ?_; dsimp only)); refine box_event ?hg (N := 2) ?hd (cs := #[Value.nilFunc]) (t := 82) ?hr ?_; (case hd => rfl); (case hg => rfl); (case hr => first | (go_simp; done) | (go_simp; rfl)); intro bf hg w5 hbox hb; have HBs : Below w.heap.size w (w3.setCell ⟨b7, 0, none⟩ (.map (some bm))) := below_set HB.out P7.out; have KMs := MemAt.set KM.out (show bm ≠ (⟨b7, 0, none⟩ : Addr).block from Nat.ne_of_lt L7.out) (.map (some bm)); have B7s := blk_put (cs := #[.map none]) B7.out 0 (.map (some bm)) rfl; have LF := Aside0.mk (show b7 < bf by rw [hg]; exact blk_lt B7s); have LM := Aside0.mk (show bm < bf by rw [hg]; exact MemAt.lt KMs); have PF := Aside0.mk (show w.heap.size ≤ bf by rw [hg]; exact HBs.size); have n0_ := Aside0.mk (below_step HBs hb); have n1_ := Aside0.mk (MemAt.below KMs hb (MemAt.lt KMs)); have n2_ := Aside0.mk (blk_below (g := b7) B7s hb); have BF := Aside0.mk hbox; clear HB KM B7 HBs KMs B7s hg hbox hb; have HB := n0_; have KM := n1_; have B7 := n2_; clear n0_ n1_ n2_; have hzf : w5.cell? ⟨bf, 0, none⟩ = some (Value.nilFunc) := (blk_cell BF.out 0).trans rfl; have hff := blk_frozen BF.out 0))
  go_ret
  refine ⟨bm, b7, bf, rfl, ?_, ⟨⟨[], Nat.le_refl _, ?_⟩, ?_, ?_⟩, ?_⟩
  · rw [GM.out]; exact Nat.le_refl _
  · exact MemAt.set KM.out (show bm ≠ (⟨bf, 0, none⟩ : Addr).block from Nat.ne_of_lt LM.out) _
  · exact blk_far B7.out (Nat.ne_of_lt LF.out) _
  · exact blk_put (cs := #[Value.nilFunc]) BF.out 0 _ rfl
  · exact below_set HB.out PF.out

end Go.Proofs.Ytkbjoiebaphdoaa.PX

/- impl.BestParts, a contract: its closure, the recursion over the parts, and itself (no condition). -/
namespace Go.Proofs.Ytkbjoiebaphdoaa.PX
open Go.RowKit Go.Proofs.YtkbjoiebaphdoaaW.PrintWords Go.Proofs.YtkbjoiebaphdoaaW.PrintLast Go.Proofs.YtkbjoiebaphdoaaW.PrintMore
attribute [local go_sem] max2_int min2_int max_two min_two max_three min_three max_four min_four
set_option linter.unusedVariables false
set_option linter.unusedSimpArgs false
theorem Known.apart {bm b7 bf n g : Nat} {w : World} {cs : Array Value} {t : TypeId} {fr : Nat × Nat} (h : Known bm b7 bf n w) (hg : w.heap[g]? = some (.cells cs t fr)) (h1 : t ≠ 109) (h2 : t ≠ 82) : g ≠ bm ∧ g ≠ b7 ∧ g ≠ bf := by
  refine ⟨fun e => Known.ne h hg (by rw [e]), fun e => ?_, fun e => ?_⟩
  · have := h.2.1
    rw [← e, hg] at this
    injection this with this
    injection this with _ this
    exact h1 this
  · have := h.2.2
    rw [← e, hg] at this
    injection this with this
    injection this with _ this
    exact h2 this
theorem Known.step {bm b7 bf n : Nat} {w w' : World} (h : Known bm b7 bf n w) (row : Option Nat) (hg : w.grownBy w' row) (h1 : some bm ≠ row) (h2 : some b7 ≠ row) (h3 : some bf ≠ row) : Known bm b7 bf n w' := by
  obtain ⟨⟨M, a, hM⟩, b, c⟩ := h
  exact ⟨⟨M, a, hM.kept hg h1⟩, blk_grown b hg h2, blk_grown c hg h3⟩
theorem grown_far (w : World) (p : Addr) (u : Value) : w.grownBy (w.setCell p u) (some p.block) :=
  ⟨rfl, rfl, rfl, by simp [World.setCell], fun k _ hk => Below.heap_setCell w p u k (fun e => hk (by rw [e]))⟩
theorem Known.far {bm b7 bf n : Nat} {w : World} {p : Addr} (h : Known bm b7 bf n w) (hp : p.block ≠ bm ∧ p.block ≠ b7 ∧ p.block ≠ bf) (u : Value) : Known bm b7 bf n (w.setCell p u) :=
  h.step (some p.block) (grown_far w p u) (fun e => hp.1 (Option.some.inj e).symm) (fun e => hp.2.1 (Option.some.inj e).symm) (fun e => hp.2.2 (Option.some.inj e).symm)
/-- What the closure keeps: the function value that knows values, the best list so far, its value. -/
structure PS (w0 : World) (bm b7 bf gf gb gm n : Nat) (B : List Int) (M : Int) (w : World) : Prop where
  known : Known bm b7 bf n w
  bel : Below w0.heap.size w0 w
  cf : w.heap[gf]? = some (.cells #[.func (.func 104) #[] #[.pointer (some ⟨b7, 0, none⟩), .pointer (some ⟨bf, 0, none⟩)]] 82 (0, 0))
  cm : w.heap[gm]? = some (.cells #[.int .i64 M] 2 (0, 0))
  cb : ∃ v, w.heap[gb]? = some (.cells #[v] 22 (0, 0)) ∧ Kd.R (Kd.int .i64) 2 w w0.heap.size (fun k => k ≠ gm) v B
  low : w0.heap.size ≤ bm ∧ w0.heap.size ≤ gb ∧ w0.heap.size ≤ gm
abbrev RL (w0 : World) (gm : Nat) (w : World) (v : Value) (xs : List Int) : Prop := Kd.R (Kd.int .i64) 2 w w0.heap.size (fun k => k ≠ gm) v xs
/-- What a call of the closure leaves: all blocks but three. -/
def Kp (bm gb gm : Nat) (w w' : World) : Prop := w.heap.size ≤ w'.heap.size ∧ ∀ i, i < w.heap.size → i ≠ bm → i ≠ gb → i ≠ gm → w'.heap[i]? = w.heap[i]?
theorem Kp.trans {bm gb gm : Nat} {a b c : World} (h : Kp bm gb gm a b) (k : Kp bm gb gm b c) : Kp bm gb gm a c :=
  ⟨Nat.le_trans h.1 k.1, fun i hi h1 h2 h3 => (k.2 i (Nat.lt_of_lt_of_le hi h.1) h1 h2 h3).trans (h.2 i hi h1 h2 h3)⟩
theorem Kp.refl (bm gb gm : Nat) (w : World) : Kp bm gb gm w w := ⟨Nat.le_refl _, fun _ _ _ _ _ => rfl⟩
theorem Kp.below {bm gb gm : Nat} {w w' : World} (h : Below w.heap.size w w') : Kp bm gb gm w w' := ⟨h.size, fun i hi _ _ _ => h.block i hi⟩
theorem Kp.grown {bm gb gm : Nat} {w w' : World} (h : w.grownBy w' (some bm)) : Kp bm gb gm w w' := ⟨h.size, fun i hi h1 _ _ => h.block i hi (fun e => h1 (Option.some.inj e))⟩
theorem PS.isMap {bm b7 bf gf gb gm n : Nat} {w0 w : World} {B : List Int} {M : Int} (h : PS w0 bm b7 bf gf gb gm n B M w) : ∃ es c, w.heap[bm]? = some (.map es c) := by
  obtain ⟨⟨M_, _, ⟨⟨es, clock, h1, _⟩, _⟩⟩, _⟩ := h.known
  exact ⟨_, _, h1⟩
theorem cell_ne {w : World} {a b : Nat} {cs ds : Array Value} {t u : TypeId} {x y : Nat × Nat} (h : w.heap[a]? = some (.cells cs t x)) (k : w.heap[b]? = some (.cells ds u y)) (hne : t ≠ u) : a ≠ b := by
  rintro rfl
  rw [h] at k
  injection k with k
  injection k with _ k
  exact hne k
theorem R_cells {w : World} {base gm : Nat} {v : Value} {xs : List Int} (h : Kd.R (Kd.int .i64) 2 w base (fun k => k ≠ gm) v xs) : Kd.R (Kd.int .i64) 2 w base (fun k => k ≠ gm ∧ ∃ cells, w.heap[k]? = some (.cells cells 2 (0, 0))) v xs :=
  Kd.R_mono (Kd.R_bound h) (fun k hk => ⟨hk.1, by
    obtain ⟨_, _, _, q, hq, cells, hc⟩ := hk
    rcases List.mem_cons.1 hq with e | e
    · subst e; exact ⟨cells, hc⟩
    · cases e⟩)
theorem R_kp {bm b7 bf gf gb gm n : Nat} {w0 w w' : World} {B : List Int} {M : Int} (hP : PS w0 bm b7 bf gf gb gm n B M w) {v : Value} {xs : List Int} (h : RL w0 gm w v xs) (hk : Kp bm gb gm w w') : RL w0 gm w' v xs := by
  obtain ⟨es, c, hm⟩ := hP.isMap
  obtain ⟨vb, hb, _⟩ := hP.cb
  refine Kd.R_mono (Kd.R_step (R_cells h) (fun k hk1 hlt => hk.2 k hlt ?_ ?_ hk1.1)) (fun k hk => hk.1)
  · rintro rfl
    obtain ⟨_, cells, hc⟩ := hk1
    rw [hc] at hm; cases hm
  · obtain ⟨_, cells, hc⟩ := hk1
    exact cell_ne hc hb (by decide)
theorem rdE_of {bm b7 bf gf gb gm n : Nat} {w0 w : World} {B : List Int} {M : Int} (hP : PS w0 bm b7 bf gf gb gm n B M w) {v : Value} {xs : List Int} (h : RL w0 gm w v xs) : RdE w bm v xs := by
  obtain ⟨es, c, hm⟩ := hP.isMap
  refine Kd.R_V (Kd.R_mono (R_cells h) (fun k hk => ?_))
  rintro rfl
  obtain ⟨_, cells, hc⟩ := hk
  rw [hc] at hm; cases hm
theorem PS.below {bm b7 bf gf gb gm n : Nat} {w0 w w' : World} {B : List Int} {M : Int} (h : PS w0 bm b7 bf gf gb gm n B M w) (hb : Below w.heap.size w w') : PS w0 bm b7 bf gf gb gm n B M w' := by
  obtain ⟨v, hv, hR⟩ := h.cb
  exact ⟨h.known.below hb, below_step h.bel hb, blk_below (g := gf) h.cf hb, blk_below (g := gm) h.cm hb, ⟨v, blk_below (g := gb) hv hb, Kd.R_below hR hb⟩, h.low⟩
theorem PS.call {bm b7 bf gf gb gm n n' : Nat} {w0 w w' : World} {B : List Int} {M : Int} (h : PS w0 bm b7 bf gf gb gm n B M w) (hK : Known bm b7 bf n' w') (hg : w.grownBy w' (some bm)) : PS w0 bm b7 bf gf gb gm n' B M w' := by
  obtain ⟨v, hv, hR⟩ := h.cb
  exact ⟨hK, Below.grown h.bel hg h.bel.size (fun k hk => by cases hk; exact h.low.1), blk_grown h.cf hg (h.known.ne h.cf), blk_grown h.cm hg (h.known.ne h.cm), ⟨v, blk_grown hv hg (h.known.ne hv), R_kp h hR (Kp.grown hg)⟩, h.low⟩
theorem PS.put {bm b7 bf gf gb gm n : Nat} {w0 w : World} {B : List Int} {M : Int} (h : PS w0 bm b7 bf gf gb gm n B M w) {v : Value} {xs : List Int} (hR : RL w0 gm w v xs) (m : Int) :
    PS w0 bm b7 bf gf gb gm n xs m ((w.setCell ⟨gb, 0, none⟩ v).setCell ⟨gm, 0, none⟩ (.int .i64 m)) ∧ Kp bm gb gm w ((w.setCell ⟨gb, 0, none⟩ v).setCell ⟨gm, 0, none⟩ (.int .i64 m)) := by
  obtain ⟨vb, hv, _⟩ := h.cb
  have n1 := h.known.apart hv (by decide) (by decide)
  have n2 := h.known.apart h.cm (by decide) (by decide)
  have hK := (h.known.far (p := ⟨gb, 0, none⟩) n1 v).far (p := ⟨gm, 0, none⟩) n2 (.int .i64 m)
  have hB : Below w0.heap.size w0 ((w.setCell ⟨gb, 0, none⟩ v).setCell ⟨gm, 0, none⟩ (.int .i64 m)) := below_set (below_set h.bel h.low.2.1) h.low.2.2
  have hkp : Kp bm gb gm w ((w.setCell ⟨gb, 0, none⟩ v).setCell ⟨gm, 0, none⟩ (.int .i64 m)) := ⟨by simp [World.setCell], fun i _ _ h1 h2 => (Below.heap_setCell _ _ _ _ h2).trans (Below.heap_setCell _ _ _ _ h1)⟩
  have hbm : gb ≠ gm := cell_ne hv h.cm (by decide)
  refine ⟨⟨hK, hB, ?_, ?_, ⟨v, ?_, R_kp h hR hkp⟩, h.low⟩, hkp⟩
  · exact blk_far (blk_far h.cf (cell_ne h.cf hv (by decide)) _) (cell_ne h.cf h.cm (by decide)) _
  · exact blk_put (cs := #[.int .i64 M]) (blk_far h.cm hbm.symm _) 0 _ rfl
  · exact blk_far (blk_put (cs := #[vb]) hv 0 _ rfl) hbm _
def stepP (s : List Int × Int) (l : List Int) : List Int × Int := if s.2 < val l [] then (l, val l []) else s
def C6 : Nat := costT 6
set_option maxHeartbeats 16000000 in
set_option maxRecDepth 100000 in
theorem closure.calls (w0 : World) (bm b7 bf gf gb gm n : Nat) (B : List Int) (M : Int) (vl : Value) (l : List Int) (w : World) (hP : PS w0 bm b7 bf gf gb gm n B M w) (hR : RL w0 gm w vl l) (hC : okC l) (h6 : l.length ≤ 6) (hn : n + C6 < 4294967296) :
    Calls Try.prog 88 (#[vl] ++ #[.pointer (some ⟨gf, 0, none⟩), .pointer (some ⟨gm, 0, none⟩), .pointer (some ⟨gb, 0, none⟩)]) w fun e w' => e = .returned (.tuple #[]) ∧ PS w0 bm b7 bf gf gb gm (n + C6) (stepP (B, M) l).1 (stepP (B, M) l).2 w' ∧ Kp bm gb gm w w' := by
  show Calls Try.prog 88 #[vl, .pointer (some ⟨gf, 0, none⟩), .pointer (some ⟨gm, 0, none⟩), .pointer (some ⟨gb, 0, none⟩)] w _
  have hu27 := Try.underlying27
  obtain ⟨A, c, rfl⟩ := Kd.R_slice hR
  have HP := Aside0.mk hP
  have HR := Aside0.mk hR
  have HC := Aside0.mk hC
  have H6 := Aside0.mk h6
  have HN := Aside0.mk hn
  have hzf : w.cell? ⟨gf, 0, none⟩ = some (.func (.func 104) #[] #[.pointer (some ⟨b7, 0, none⟩), .pointer (some ⟨bf, 0, none⟩)]) := (blk_cell hP.cf 0).trans rfl
  have hff := blk_frozen hP.cf 0
  clear hP hR hC h6 hn
  have FN := Aside0.mk (find_ok 6 (by decide) bm b7 bf l [] (.slice A l.length c) (.slice none 0 0) n w HC.out (fun x hx => by cases hx) (by simpa using H6.out) (rdE_of HP.out HR.out) (Kd.R_V (Kd.R_nil _ _ _ 0 _)) HP.out.known HN.out)
  by_cases hm : M < val l []
  · have e1 : stepP (B, M) l = (l, val l []) := by unfold stepP; rw [if_pos hm]
    rw [e1]
    have hd : decide (M < val l []) = true := decide_eq_true hm
    clear e1 hm
    go_enter Try.func88, Try.ntmps88
    go_wp2_with (first | ((with_reducible refine gate_dst (N := 9) rfl ?_); refine goesV_ (some 9) rfl rfl 104 #[.pointer (some ⟨b7, 0, none⟩), .pointer (some ⟨bf, 0, none⟩)] ⟨_, Try.func104, by kernel_rfl, rfl⟩ #[.agg #[.slice A l.length c, .slice none 0 0]] rfl rfl (by (try simp only [List.map_toArray, List.map_cons, List.map_nil]); first | done | rfl) ?_; refine FN.out.mono ?_; rintro e w1 ⟨rfl, hk, hg⟩; refine ⟨_, rfl, ?_⟩; have HP1 := Aside0.mk (PS.call HP.out hk hg); have HK1 := Aside0.mk (Kp.grown (gb := gb) (gm := gm) hg); have HR1 := Aside0.mk (R_kp HP.out HR.out HK1.out); clear FN HP HR hk hg hzf hff; obtain ⟨vb, hvb, -⟩ := HP1.out.cb; have hzm : w1.cell? ⟨gm, 0, none⟩ = some (.int .i64 M) := (blk_cell HP1.out.cm 0).trans rfl; have hfm := blk_frozen HP1.out.cm 0; have hzb : w1.cell? ⟨gb, 0, none⟩ = some vb := (blk_cell hvb 0).trans rfl; have hfb := blk_frozen hvb 0; have hne1 : gm ≠ gb := cell_ne HP1.out.cm hvb (by decide); have hne2 : gb ≠ gm := Ne.symm hne1; clear hvb))
    have hp := PS.put HP1.out HR1.out (val l [])
    go_end0
    exact ⟨rfl, hp.1, HK1.out.trans hp.2⟩
  · have e1 : stepP (B, M) l = (B, M) := by unfold stepP; rw [if_neg hm]
    rw [e1]
    have hd : decide (M < val l []) = false := decide_eq_false hm
    clear e1 hm
    go_enter Try.func88, Try.ntmps88
    go_wp2_with (first | ((with_reducible refine gate_dst (N := 9) rfl ?_); refine goesV_ (some 9) rfl rfl 104 #[.pointer (some ⟨b7, 0, none⟩), .pointer (some ⟨bf, 0, none⟩)] ⟨_, Try.func104, by kernel_rfl, rfl⟩ #[.agg #[.slice A l.length c, .slice none 0 0]] rfl rfl (by (try simp only [List.map_toArray, List.map_cons, List.map_nil]); first | done | rfl) ?_; refine FN.out.mono ?_; rintro e w1 ⟨rfl, hk, hg⟩; refine ⟨_, rfl, ?_⟩; have HP1 := Aside0.mk (PS.call HP.out hk hg); have HK1 := Aside0.mk (Kp.grown (gb := gb) (gm := gm) hg); have HR1 := Aside0.mk (R_kp HP.out HR.out HK1.out); clear FN HP HR hk hg hzf hff; obtain ⟨vb, hvb, -⟩ := HP1.out.cb; have hzm : w1.cell? ⟨gm, 0, none⟩ = some (.int .i64 M) := (blk_cell HP1.out.cm 0).trans rfl; have hfm := blk_frozen HP1.out.cm 0; have hzb : w1.cell? ⟨gb, 0, none⟩ = some vb := (blk_cell hvb 0).trans rfl; have hfb := blk_frozen hvb 0; have hne1 : gm ≠ gb := cell_ne HP1.out.cm hvb (by decide); have hne2 : gb ≠ gm := Ne.symm hne1; clear hvb))
    go_end0
    exact ⟨rfl, HP1.out, HK1.out⟩
abbrev capsP (gf gm gb : Nat) : Array Value := #[.pointer (some ⟨gf, 0, none⟩), .pointer (some ⟨gm, 0, none⟩), .pointer (some ⟨gb, 0, none⟩)]
theorem hasFn_PF : HasFn 88 := ⟨_, Try.func88, by kernel_rfl, rfl⟩
def EachOk (k : Nat) : Prop := ∀ (w0 : World) (bm b7 bf gf gb gm n : Nat) (B : List Int) (M s ki low : Int) (vl : Value) (b : List Int) (w : World), PS w0 bm b7 bf gf gb gm n B M w → RL w0 gm w vl b → okL20 b → ki = (k : Int) → 1 ≤ low → low ≤ 22 → 0 ≤ s → s ≤ 20 → b.length + k ≤ 6 →
  n + (parts k low s b).length * C6 < 4294967296 →
  Calls Try.prog 87 #[.int .i64 s, .int .i64 ki, .int .i64 low, vl, .func (.func 88) #[] (capsP gf gm gb)] w fun e w' => e = .returned (.tuple #[]) ∧ PS w0 bm b7 bf gf gb gm (n + (parts k low s b).length * C6) ((parts k low s b).foldl stepP (B, M)).1 ((parts k low s b).foldl stepP (B, M)).2 w' ∧ Kp bm gb gm w w'
theorem okC_20 {l : List Int} (h : okL20 l) : okC l := fun x hx => by have := h x hx; omega
set_option maxHeartbeats 16000000 in
set_option maxRecDepth 100000 in
theorem each_zero : EachOk 0 := by
  intro w0 bm b7 bf gf gb gm n B M s ki low vl b w hP hR hb hki h1 h2 h3 h4 h6 hn
  have hk0 : (ki == 0) = true := by subst hki; rfl
  have HP := Aside0.mk hP
  have HR := Aside0.mk hR
  have HO := Aside0.mk (okC_20 hb)
  have H6 := Aside0.mk (show b.length ≤ 6 by omega)
  by_cases hs : s = 0
  · have e1 : parts 0 low s b = [b] := by unfold parts; rw [if_pos hs]
    rw [e1] at hn ⊢
    have HN := Aside0.mk (show n + C6 < 4294967296 by simpa using hn)
    have hs0 : (s == 0) = true := beq_iff_eq.2 hs
    obtain ⟨A, c, rfl⟩ := Kd.R_slice hR
    clear hP hR hb hki h1 h2 h3 h4 h6 hn hs e1
    go_enter Try.func87, Try.ntmps87
    go_wp2_with (first | ((with_reducible refine gate_dst (N := 17) rfl ?_); refine goesV_ (some 17) rfl rfl 88 (capsP gf gm gb) hasFn_PF #[.slice A b.length c] rfl rfl (by (try simp only [List.map_toArray, List.map_cons, List.map_nil]); first | done | rfl) ?_; refine (closure.calls w0 bm b7 bf gf gb gm n B M _ b _ HP.out HR.out HO.out H6.out HN.out).mono ?_; rintro e w1 ⟨rfl, hp, hk⟩; refine ⟨_, rfl, ?_⟩; have HP1 := Aside0.mk hp; have HK1 := Aside0.mk hk; clear hp hk HP HR))
    first | go_end0 | refine bodyPost_ret (results_none rfl _ _ _) rfl ?_
    rw [Nat.one_mul]
    exact ⟨rfl, HP1.out, HK1.out⟩
  · have e1 : parts 0 low s b = [] := by unfold parts; rw [if_neg hs]
    rw [e1]
    have hs0 : (s == 0) = false := beq_eq_false_iff_ne.2 hs
    clear hP hR hb hki h1 h2 h3 h4 h6 hn hs e1
    go_enter Try.func87, Try.ntmps87
    go_wp2
    first | go_end0 | refine bodyPost_ret (results_none rfl _ _ _) rfl ?_
    exact ⟨rfl, by simpa using HP.out, Kp.refl _ _ _ _⟩
theorem loopP_stop {f : Int → List (List Int)} {K s x : Int} (h : ¬ x * K ≤ s) : ∀ d, loopP f K s d x = []
  | 0 => rfl
  | d + 1 => by unfold loopP; rw [if_neg h]
theorem cost_app {n N T C : Nat} {a b : List (List Int)} (h : n + (a ++ b).length * C = T) (hT : T < N) : n + a.length * C < N ∧ (n + a.length * C) + b.length * C = T := by
  rw [List.length_append, Nat.add_mul] at h
  omega
set_option maxHeartbeats 16000000 in
set_option maxRecDepth 100000 in
theorem each_step (k : Nat) (ih : EachOk k) : EachOk (k + 1) := by
  intro w0 bm b7 bf gf gb gm n B M s ki low vl b w hP hR hb hki h1 h2 h3 h4 h6 hn
  have hk0 : (ki == 0) = false := beq_eq_false_iff_ne.2 (by omega)
  have HP := Aside0.mk hP
  have HR := Aside0.mk hR
  have HO := Aside0.mk hb
  have HKI := Aside0.mk hki
  have H3 := Aside0.mk h3
  have H4 := Aside0.mk h4
  have H6 := Aside0.mk h6
  have HN := Aside0.mk hn
  have HL := Aside0.mk (show 1 ≤ low ∧ low ≤ 22 from ⟨h1, h2⟩)
  have HIH := Aside0.mk ih
  obtain ⟨A, c, rfl⟩ := Kd.R_slice hR
  obtain ⟨F, hF⟩ : ∃ F : Int → List (List Int), F = fun x => parts k x (s - x) (b ++ [x]) := ⟨_, rfl⟩
  have hp : parts (k + 1) low s b = loopP F ki s 21 low := by rw [hF, hki]; rfl
  rw [hp] at hn ⊢
  have HF := Aside0.mk hF
  have HCL := Aside0.mk (show slices_Clone_int64_int64.f b = some b by unfold slices_Clone_int64_int64.f; rw [if_pos (by omega)])
  have HN2 := Aside0.mk hn
  clear hP hR hb hki h1 h2 h3 h4 h6 hn ih hF hp HN
  go_enter Try.func87, Try.ntmps87
  go_wp2
  go_loopg [10] 21 (fun d v10 w' => ∃ (x : Int) (n' : Nat) (B' : List Int) (M' : Int), v10 = .int .i64 x ∧ Aside0 (1 ≤ x ∧ 22 ≤ x + (d : Int) ∧ x ≤ 22) ∧ Aside0 (n' + (loopP F ki s d x).length * C6 = n + (loopP F ki s 21 low).length * C6) ∧ Aside0 ((loopP F ki s d x).foldl stepP (B', M') = (loopP F ki s 21 low).foldl stepP (B, M)) ∧ Aside0 (PS w0 bm b7 bf gf gb gm n' B' M' w') ∧ Aside0 (RL w0 gm w' (.slice A b.length c) b) ∧ Aside0 (Kp bm gb gm w w'))
  case atStart => exact ⟨low, n, B, M, rfl, ⟨by have := HL.out; omega⟩, ⟨rfl⟩, ⟨rfl⟩, HP, HR, ⟨Kp.refl _ _ _ _⟩⟩
  case round =>
    clear HP HR
    obtain ⟨x, n', B', M', rfl, HX, HC, HF2, HP, HR, HK⟩ := hrel
    have hmul : wrap64 (x * ki) = x * ki := by
      have h5 := HX.out
      have h7 := H6.out
      have h8 := HKI.out
      have h9 : x * ki ≤ 22 * 6 := Int.mul_le_mul h5.2.2 (by omega) (by omega) (by omega)
      have h10 : 0 ≤ x * ki := Int.mul_nonneg (by omega) (by omega)
      unfold wrap64
      omega
    by_cases c1 : x * ki ≤ s
    · have hx20 : x ≤ 20 := by
        have h5 := HX.out
        have h8 := HKI.out
        have h9 : x * 1 ≤ x * ki := Int.mul_le_mul_of_nonneg_left (by omega) (by omega)
        have := H4.out
        omega
      have hsx : 0 ≤ s - x ∧ s - x ≤ 20 := by
        have h5 := HX.out
        have h8 := HKI.out
        have h9 : x * 1 ≤ x * ki := Int.mul_le_mul_of_nonneg_left (by omega) (by omega)
        have := H4.out
        omega
      obtain ⟨d, rfl⟩ : ∃ d, gk = d + 1 := ⟨gk - 1, by have := HX.out; omega⟩
      have hlp : loopP F ki s (d + 1) x = F x ++ loopP F ki s d (x + 1) := by rw [loopP, if_pos c1]
      rw [hlp] at HC HF2
      have hca := cost_app HC.out HN2.out
      have HCA := Aside0.mk hca
      have hfx : F x = parts k x (s - x) (b ++ [x]) := by rw [HF.out]
      have HFX := Aside0.mk hfx
      have HX20 := Aside0.mk hx20
      have HSX := Aside0.mk hsx
      have HO2 := Aside0.mk (show okL20 (b ++ [x]) from fun y hy => by
        rcases List.mem_append.1 hy with h | h
        · exact HO.out y h
        · rw [List.mem_singleton.1 h]; exact ⟨HX.out.1, HX20.out⟩)
      obtain ⟨s2, hs2⟩ : ∃ s2 : Int, s2 = s - x := ⟨_, rfl⟩
      obtain ⟨k2, hk2⟩ : ∃ k2 : Int, k2 = ki - 1 := ⟨_, rfl⟩
      obtain ⟨x2, hx2⟩ : ∃ x2 : Int, x2 = x + 1 := ⟨_, rfl⟩
      have e1 : wrap64 (s - x) = s2 := by have := HSX.out; rw [hs2]; unfold wrap64; omega
      have e2 : wrap64 (ki - 1) = k2 := by have h7 := H6.out; have h8 := HKI.out; rw [hk2]; unfold wrap64; omega
      have e3 : wrap64 (x + 1) = x2 := by have := HX.out; rw [hx2]; unfold wrap64; omega
      have HS2 := Aside0.mk hs2
      have HK2 := Aside0.mk hk2
      have HX2 := Aside0.mk hx2
      have HC1 := Aside0.mk c1
      have hd1 : decide (wrap64 (x * ki) ≤ s) = true := by rw [hmul]; exact decide_eq_true c1
      have hd2 : decide (x * ki ≤ s) = true := decide_eq_true c1
      clear hmul c1 hx20 hsx hlp hca hfx hs2 hk2 hx2
      go_wp2_with (first | ((with_reducible refine gate_callee (f := 68) rfl ?_); refine goesL_ (some 33) rfl rfl Try.func68 (by kernel_rfl) rfl #[.slice A b.length c] rfl (by (try simp only [List.map_toArray, List.map_cons, List.map_nil]); first | done | rfl) ?_; (with_reducible refine (slices_Clone_int64_int64.calls A c b b _ ?side1 ?side2 HCL.out).mono ?_); (case side1 => exact (Kd.R_reads' HR.out).2.2); (case side2 => exact (Kd.R_reads' HR.out).2.1); rintro e w1 ⟨v1, rfl, ho, hb⟩; refine ⟨_, rfl, ?_⟩; have HO1 := Aside0.mk ho; have HB1 := Aside0.mk hb; clear ho hb) | ((with_reducible refine gate_builtin (b := .append) (xs := #[.tmp 33, .tmp 35]) rfl ?_); at_builtin; refine Kd.R_append (Kd.int .i64) (w0 := wr) wr.heap.size rfl (.tmp 33) (.tmp 35) 22 2 (.int .i64 0) 8 rfl Try.underlying22 info2 rfl (by decide) (by omega) v1 b x [.int .i64 x] (fun _ => True) (fun _ => False) rfl rfl ?aP (fun _ hk => hk.elim) ?aF ?aO ?aB ?aS ?aL ?_; (case aP => exact rfl); (case aB => exact HB1.out); (case aF => exact (fun _ _ => trivial)); (case aO => exact HO1.out); (case aS => exact HB1.out.size); (case aL => have := H6.out; omega); intro v2 w2 ho hb hg hat; have HB2 := Aside0.mk hb; have HP2 := Aside0.mk (PS.below HP.out hb); have HR2 := Aside0.mk (Kd.R_below HR.out hb); have HV2 := Aside0.mk (show RL w0 gm w2 v2 (b ++ [x]) from Kd.R_lower (Kd.R_mono (Kd.R_bound ho) (fun k_ hk e_ => by have h_ := blk_lt HP.out.cm; have := hk.2.1; omega)) HP.out.bel.size); clear ho hb hg hat) | ((with_reducible refine gate_callee (f := 87) rfl ?_); refine goesL_ (some 38) rfl rfl Try.func87 (by kernel_rfl) rfl #[.int .i64 s2, .int .i64 k2, .int .i64 x, v2, .func (.func 88) #[] (capsP gf gm gb)] rfl (by (try simp only [List.map_toArray, List.map_cons, List.map_nil]); first | done | rfl) ?_; refine (HIH.out w0 bm b7 bf gf gb gm n' B' M' s2 k2 x v2 (b ++ [x]) w2 HP2.out HV2.out HO2.out (by have h_ := HK2.out; have := HKI.out; omega) HX.out.1 HX.out.2.2 (by have h_ := HS2.out; have := HSX.out; omega) (by have h_ := HS2.out; have := HSX.out; omega) (by have := H6.out; rw [List.length_append]; simp; omega) (by rw [HS2.out, ← HFX.out]; exact HCA.out.1)).mono ?_; rintro e w3 ⟨rfl, hp, hk⟩; refine ⟨_, rfl, ?_⟩; have HP3 := Aside0.mk hp; have HK3 := Aside0.mk hk; have HR3 := Aside0.mk (R_kp HP2.out HR2.out hk); clear hp hk))
      go_roundg d
      case measure => omega
      case rel =>
        rw [HS2.out, ← HFX.out] at HP3
        refine ⟨x2, n' + (F x).length * C6, ((F x).foldl stepP (B', M')).1, ((F x).foldl stepP (B', M')).2, congrArg (Value.int .i64) e3, ⟨by have h_ := HX2.out; have := HX.out; have := HX20.out; omega⟩, ⟨?_⟩, ⟨?_⟩, HP3, HR3, ⟨(HK.out.trans (Kp.below HB2.out)).trans HK3.out⟩⟩
        · rw [HX2.out]; exact HCA.out.2
        · rw [HX2.out, ← HF2.out, List.foldl_append]
    · have hst := loopP_stop (f := F) c1 gk
      rw [hst] at HC HF2
      have e0 : n' = n + (loopP F ki s 21 low).length * C6 := by have := HC.out; simpa using this
      have e1 : (B', M') = (loopP F ki s 21 low).foldl stepP (B, M) := HF2.out
      have hd1 : decide (wrap64 (x * ki) ≤ s) = false := by rw [hmul]; exact decide_eq_false c1
      have hd2 : decide (x * ki ≤ s) = false := decide_eq_false c1
      have E0 := Aside0.mk e0
      have E1 := Aside0.mk e1
      clear hst e0 e1 c1 hmul
      go_wp2
      first | go_end0 | refine bodyPost_ret (results_none rfl _ _ _) rfl ?_
      rw [← E0.out, ← E1.out]
      exact ⟨rfl, HP.out, HK.out⟩
theorem each_ok : ∀ k, EachOk k
  | 0 => each_zero
  | k + 1 => each_step k (each_ok k)
def bestP (n k : Int) : List Int × Int := if (1 ≤ n ∧ n ≤ 20) ∧ (1 ≤ k ∧ k ≤ 6 ∧ k ≤ n) then (((parts k.toNat 1 n []).foldl stepP ([], -1000)).1, 0) else ([], 2)
def impl_BestParts.f (_k : Nat) (a0 : Int) (a1 : Int) : Option (List Int × Int) := some (bestP a0 a1)
theorem impl_BestParts.mono : ∀ a0 a1 k, LeO (impl_BestParts.f k a0 a1) (impl_BestParts.f (k + 1) a0 a1) := fun _ _ _ => LeO.refl _
theorem within_is (a b c : Int) : impl_within.f a b c = some (decide (b ≤ a) && decide (a ≤ c)) := by
  unfold impl_within.f
  by_cases h : b ≤ a <;> simp [h]
theorem start_PS {w w7 : World} {bm b7 bf gf gb gm : Nat} {v4 : Value} (hbm : w.heap.size ≤ bm) (hK : Known bm b7 bf 0 w7) (hB : Below w.heap.size w w7) (h1 : w.heap.size ≤ gf) (h2 : w.heap.size ≤ gb) (h3 : w.heap.size ≤ gm)
    (kf : w7.heap[gf]? = some (.cells #[Value.nilFunc] 82 (0, 0))) (kb : w7.heap[gb]? = some (.cells #[.slice none 0 0] 22 (0, 0))) (km : w7.heap[gm]? = some (.cells #[.int .i64 0] 2 (0, 0)))
    (hne : gf ≠ b7 ∧ gf ≠ bf) (hV : Kd.R (Kd.int .i64) 2 w7 w.heap.size (fun k => k ≠ gm) v4 []) : PS w bm b7 bf gf gb gm 0 [] (-1000) (((w7.setCell ⟨gf, 0, none⟩ (.func (.func 104) #[] #[.pointer (some ⟨b7, 0, none⟩), .pointer (some ⟨bf, 0, none⟩)])).setCell ⟨gb, 0, none⟩ v4).setCell ⟨gm, 0, none⟩ (.int .i64 (-1000))) := by
  have n1 : gf ≠ gb := cell_ne kf kb (by decide)
  have n2 : gf ≠ gm := cell_ne kf km (by decide)
  have n3 : gb ≠ gm := cell_ne kb km (by decide)
  have q2 := hK.apart kb (by decide) (by decide)
  have q3 := hK.apart km (by decide) (by decide)
  have q1 : gf ≠ bm := fun e => hK.ne kf (by rw [e])
  have hk1 := hK.far (p := ⟨gf, 0, none⟩) ⟨q1, hne.1, hne.2⟩ (.func (.func 104) #[] #[.pointer (some ⟨b7, 0, none⟩), .pointer (some ⟨bf, 0, none⟩)])
  have hk2 := hk1.far (p := ⟨gb, 0, none⟩) q2 v4
  have hk3 := hk2.far (p := ⟨gm, 0, none⟩) q3 (.int .i64 (-1000))
  refine ⟨hk3, below_set (below_set (below_set hB h1) h2) h3, ?_, ?_, ⟨v4, ?_, ?_⟩, ⟨hbm, h2, h3⟩⟩
  · exact blk_far (blk_far (blk_put (cs := #[Value.nilFunc]) kf 0 _ rfl) n1 _) n2 _
  · exact blk_put (cs := #[.int .i64 0]) (blk_far (blk_far km n2.symm _) n3.symm _) 0 _ rfl
  · exact blk_far (blk_put (cs := #[.slice none 0 0]) (blk_far kb n1.symm _) 0 _ rfl) n3 _
  · refine Kd.R_far (p := ⟨gm, 0, none⟩) (Kd.R_mono (ok' := fun k => k ≠ gm) (Kd.R_far (p := ⟨gb, 0, none⟩) (Kd.R_mono (ok' := fun k => k ≠ gm ∧ k ≠ gb) (Kd.R_far (p := ⟨gf, 0, none⟩) (Kd.R_mono (ok' := fun k => (k ≠ gm ∧ k ≠ gb) ∧ k ≠ gf) (R_cells hV) (fun k hk => ?_)) (fun k hk => hk.2) _) (fun k hk => hk.1)) (fun k hk => hk.2) _) (fun k hk => hk.1)) (fun k hk => hk) _
    obtain ⟨hm, cells, hc⟩ := hk
    exact ⟨⟨hm, cell_ne hc kb (by decide)⟩, cell_ne hc kf (by decide)⟩
set_option maxHeartbeats 16000000 in
set_option maxRecDepth 100000 in
theorem impl_BestParts.calls (k : Nat) (a0 : Int) (a1 : Int) (r1 : List Int) (r2 : Int) (w : World) (h : impl_BestParts.f k a0 a1 = some (r1, r2)) :
    Calls Try.prog 42 #[.int .i64 a0, .int .i64 a1] w fun e w' => ∃ v0_ : Value, e = .returned (.tuple #[v0_, .int .i64 r2]) ∧ Kd.R (Kd.int .i64) 2 w' w.heap.size (fun _ => True) v0_ r1 ∧ Below w.heap.size w w' := by
  have h := Option.some.inj h
  by_cases c1 : 1 ≤ a0 ∧ a0 ≤ 20
  rotate_left
  · have e1 : bestP a0 a1 = ([], 2) := by unfold bestP; rw [if_neg (fun q => c1 q.1)]
    rw [e1] at h
    obtain ⟨rfl, rfl⟩ := Prod.mk.inj h
    have A1 := Aside0.mk (show impl_within.f a0 1 20 = some false by
      rw [within_is]
      congr 1
      refine Bool.eq_false_iff.2 (fun e => c1 ?_)
      simpa using e)
    clear h e1 c1
    go_enter Try.func42, Try.ntmps42
    go_wp2_with (first | ((with_reducible refine gate_dst (N := 10) rfl ?_); (try (refine gate_guard (by rfl) ?_; dsimp only)); refine goesL_ (some 10) rfl rfl Try.func86 (by kernel_rfl) rfl #[.int .i64 a0, .int .i64 1, .int .i64 20] rfl (by (try simp only [List.map_toArray, List.map_cons, List.map_nil]); first | done | rfl) ?_; (with_reducible refine (impl_within.calls a0 1 20 false _ A1.out).mono ?_); rintro e w1_10 ⟨rfl, ⟨nd10, rfl⟩⟩; refine ⟨_, rfl, ?_⟩))
    go_ret2
    exact ⟨_, rfl, Kd.R_nil _ _ _ _ _, by repeat (first | exact Below.refl _ _ | apply pw_below_drewN)⟩
  have A1 := Aside0.mk (show impl_within.f a0 1 20 = some true by
    rw [within_is, decide_eq_true c1.1, decide_eq_true c1.2]; rfl)
  obtain ⟨m, hm⟩ : ∃ m : Int, m = if a0 < 6 then a0 else 6 := ⟨_, rfl⟩
  have hms : (if a0 < 6 then a0 else 6) = m := hm.symm
  by_cases c2 : 1 ≤ a1 ∧ a1 ≤ 6 ∧ a1 ≤ a0
  rotate_left
  · have e1 : bestP a0 a1 = ([], 2) := by unfold bestP; rw [if_neg (fun q => c2 q.2)]
    rw [e1] at h
    obtain ⟨rfl, rfl⟩ := Prod.mk.inj h
    have A2 := Aside0.mk (show impl_within.f a1 1 m = some false by
      rw [within_is]
      congr 1
      refine Bool.eq_false_iff.2 (fun e => c2 ?_)
      have e' : 1 ≤ a1 ∧ a1 ≤ m := by simpa using e
      rw [hm] at e'
      split at e' <;> omega)
    clear h e1 c1 c2 hm
    go_enter Try.func42, Try.ntmps42
    go_wp2_with (first | ((with_reducible refine gate_dst (N := 10) rfl ?_); (try (refine gate_guard (by rfl) ?_; dsimp only)); refine goesL_ (some 10) rfl rfl Try.func86 (by kernel_rfl) rfl #[.int .i64 a0, .int .i64 1, .int .i64 20] rfl (by (try simp only [List.map_toArray, List.map_cons, List.map_nil]); first | done | rfl) ?_; (with_reducible refine (impl_within.calls a0 1 20 true _ A1.out).mono ?_); rintro e w1_10 ⟨rfl, ⟨nd10, rfl⟩⟩; refine ⟨_, rfl, ?_⟩) | ((with_reducible refine gate_dst (N := 16) rfl ?_); (try (refine gate_guard (by rfl) ?_; dsimp only)); refine goesL_ (some 16) rfl rfl Try.func86 (by kernel_rfl) rfl #[.int .i64 a1, .int .i64 1, .int .i64 m] rfl (by (try simp only [List.map_toArray, List.map_cons, List.map_nil]); first | done | rfl) ?_; (with_reducible refine (impl_within.calls a1 1 m false _ A2.out).mono ?_); rintro e w1_16 ⟨rfl, ⟨nd16, rfl⟩⟩; refine ⟨_, rfl, ?_⟩))
    go_ret2
    exact ⟨_, rfl, Kd.R_nil _ _ _ _ _, by repeat (first | exact Below.refl _ _ | apply pw_below_drewN)⟩
  have e1 : bestP a0 a1 = (((parts a1.toNat 1 a0 []).foldl stepP ([], -1000)).1, 0) := by unfold bestP; rw [if_pos ⟨c1, c2⟩]
  rw [e1] at h
  obtain ⟨rfl, rfl⟩ := Prod.mk.inj h
  have A2 := Aside0.mk (show impl_within.f a1 1 m = some true by
    rw [within_is, decide_eq_true c2.1, decide_eq_true (show a1 ≤ m by rw [hm]; split <;> omega)]; rfl)
  have HKA := Aside0.mk (show a1 = ((a1.toNat : Nat) : Int) by omega)
  have HA0 := Aside0.mk (show 0 ≤ a0 ∧ a0 ≤ 20 by omega)
  have HA1 := Aside0.mk (show ([] : List Int).length + a1.toNat ≤ 6 by simp; omega)
  have HCO := Aside0.mk (show 0 + (parts a1.toNat 1 a0 []).length * C6 < 4294967296 by
    have hl := parts_len ⟨a0.toNat, by omega⟩ ⟨a1.toNat, by omega⟩
    simp only at hl
    rw [show ((a0.toNat : Nat) : Int) = a0 by omega] at hl
    have hc : C6 = 1957 := by decide
    rw [hc]
    omega)
  clear h e1 c1 c2 hm
  go_enter Try.func42, Try.ntmps42
  go_wp2_with (first | ((with_reducible refine gate_dst (N := 10) rfl ?_); (try (refine gate_guard (by rfl) ?_; dsimp only)); refine goesL_ (some 10) rfl rfl Try.func86 (by kernel_rfl) rfl #[.int .i64 a0, .int .i64 1, .int .i64 20] rfl (by (try simp only [List.map_toArray, List.map_cons, List.map_nil]); first | done | rfl) ?_; (with_reducible refine (impl_within.calls a0 1 20 true _ A1.out).mono ?_); rintro e w1_10 ⟨rfl, ⟨nd10, rfl⟩⟩; refine ⟨_, rfl, ?_⟩) | ((with_reducible refine gate_dst (N := 16) rfl ?_); (try (refine gate_guard (by rfl) ?_; dsimp only)); refine goesL_ (some 16) rfl rfl Try.func86 (by kernel_rfl) rfl #[.int .i64 a1, .int .i64 1, .int .i64 m] rfl (by (try simp only [List.map_toArray, List.map_cons, List.map_nil]); first | done | rfl) ?_; (with_reducible refine (impl_within.calls a1 1 m true _ A2.out).mono ?_); rintro e w1_16 ⟨rfl, ⟨nd16, rfl⟩⟩; refine ⟨_, rfl, ?_⟩) | ((with_reducible refine gate_callee (f := 76) rfl ?_); refine goesL_ (some 19) rfl rfl Try.func76 (by kernel_rfl) rfl #[] rfl (by (try simp only [List.map_toArray, List.map_cons, List.map_nil]); first | done | rfl) ?_; refine (values.calls _).mono ?_; rintro e w3 ⟨bm, b7, bf, rfl, hbm, hK, hb⟩; refine ⟨_, rfl, ?_⟩; have HBM := Aside0.mk (show w.heap.size ≤ bm from hbm); have HK := Aside0.mk hK; have HB := Aside0.mk (show Below w.heap.size w w3 from below_step (by repeat (first | exact Below.refl _ _ | apply pw_below_drewN)) hb); clear hbm hK hb) | ((with_reducible refine gate_dst (N := 20) rfl ?_); refine Kd.R_lit (Kd.int .i64) _ 2 ?hg (N := 20) ?hd (xs := ([] : List Int)) (inner := []) (ok := fun _ => True) (okp := fun _ => True) ?hr ?hp (fun _ hk => hk) trivial (Below.refl _ _) (Nat.le_refl _) (by simp) ?_; (case hd => rfl); (case hg => rfl); (case hr => first | (go_simp; done) | (go_simp; rfl)); (case hp => exact (Reps.none _ _)); intro v4 w4 ho hb hg_ hnew_; clear hg_ hnew_; have HV := Aside0.mk (Kd.R_lower ho HB.out.size); have n0_ := Aside0.mk (HK.out.below hb); have n1_ := Aside0.mk (below_step HB.out hb); clear HK HB ho hb; have HK := n0_; have HB := n1_; clear n0_ n1_; obtain ⟨A4, c4, e4⟩ := Kd.R_slice HV.out; subst e4) | ((with_reducible refine gate_dst (N := 6) rfl ?_); refine box_event ?hg (N := 6) ?hd (cs := #[Value.nilFunc]) (t := 82) ?hr ?_; (case hd => rfl); (case hg => rfl); (case hr => first | (go_simp; done) | (go_simp; rfl)); intro gf hg w5 hbox hb; have HNE := Aside0.mk (show gf ≠ b7 ∧ gf ≠ bf from by have h1_ := blk_lt HK.out.2.1; have h2_ := blk_lt HK.out.2.2; omega); have Ggf := Aside0.mk (show w.heap.size ≤ gf from hg ▸ HB.out.size); have n0_ := Aside0.mk (HK.out.below hb); have n1_ := Aside0.mk (below_step HB.out hb); have n2_ := Aside0.mk (Kd.R_below HV.out hb); have Kgf := Aside0.mk hbox; clear HK HB HV hg hbox hb; have HK := n0_; have HB := n1_; have HV := n2_; clear n0_ n1_ n2_) | ((with_reducible refine gate_dst (N := 7) rfl ?_); refine box_event ?hg (N := 7) ?hd (cs := #[.slice none 0 0]) (t := 22) ?hr ?_; (case hd => rfl); (case hg => rfl); (case hr => first | (go_simp; done) | (go_simp; rfl)); intro gb hg w6 hbox hb; have Ggb := Aside0.mk (show w.heap.size ≤ gb from hg ▸ HB.out.size); have n0_ := Aside0.mk (HK.out.below hb); have n1_ := Aside0.mk (below_step HB.out hb); have n2_ := Aside0.mk (Kd.R_below HV.out hb); have mgf_ := Aside0.mk (blk_below (g := gf) Kgf.out hb); have Kgb := Aside0.mk hbox; clear HK HB HV hg hbox hb; have HK := n0_; have HB := n1_; have HV := n2_; clear n0_ n1_ n2_; clear Kgf; have Kgf := mgf_; clear mgf_) | ((with_reducible refine gate_dst (N := 8) rfl ?_); refine box_event ?hg (N := 8) ?hd (cs := #[.int .i64 0]) (t := 2) ?hr ?_; (case hd => rfl); (case hg => rfl); (case hr => first | (go_simp; done) | (go_simp; rfl)); intro gm hg w7 hbox hb; have Ggm := Aside0.mk (show w.heap.size ≤ gm from hg ▸ HB.out.size); have n0_ := Aside0.mk (HK.out.below hb); have n1_ := Aside0.mk (below_step HB.out hb); have n2_ := Aside0.mk (Kd.R_below (Kd.R_mono (ok' := fun k => k ≠ gm) (Kd.R_bound HV.out) (fun k_ hk_ e_ => by have h_ := hk_.2.2.1; omega)) hb); have mgf_ := Aside0.mk (blk_below (g := gf) Kgf.out hb); have mgb_ := Aside0.mk (blk_below (g := gb) Kgb.out hb); have Kgm := Aside0.mk hbox; clear HK HB HV hg hbox hb; have HK := n0_; have HB := n1_; have HV := n2_; clear n0_ n1_ n2_; clear Kgf; have Kgf := mgf_; clear mgf_; clear Kgb; have Kgb := mgb_; clear mgb_; have hzf : w7.cell? ⟨gf, 0, none⟩ = some Value.nilFunc := (blk_cell Kgf.out 0).trans rfl; have hff := blk_frozen Kgf.out 0; have hzb : w7.cell? ⟨gb, 0, none⟩ = some (.slice none 0 0) := (blk_cell Kgb.out 0).trans rfl; have hfb := blk_frozen Kgb.out 0; have hzm : w7.cell? ⟨gm, 0, none⟩ = some (.int .i64 0) := (blk_cell Kgm.out 0).trans rfl; have hfm := blk_frozen Kgm.out 0; have ne1 : gf ≠ gb := cell_ne Kgf.out Kgb.out (by decide); have ne2 : gf ≠ gm := cell_ne Kgf.out Kgm.out (by decide); have ne3 : gb ≠ gm := cell_ne Kgb.out Kgm.out (by decide); have ne4 : gb ≠ gf := Ne.symm ne1; have ne5 : gm ≠ gf := Ne.symm ne2; have ne6 : gm ≠ gb := Ne.symm ne3) | ((with_reducible refine gate_callee (f := 87) rfl ?_); have hps : PS w bm b7 bf gf gb gm 0 [] (-1000) (((w7.setCell ⟨gf, 0, none⟩ (.func (.func 104) #[] #[.pointer (some ⟨b7, 0, none⟩), .pointer (some ⟨bf, 0, none⟩)])).setCell ⟨gb, 0, none⟩ (.slice A4 0 c4)).setCell ⟨gm, 0, none⟩ (.int .i64 (-1000))) := start_PS HBM.out HK.out HB.out Ggf.out Ggb.out Ggm.out Kgf.out Kgb.out Kgm.out HNE.out HV.out; refine goesL_ (some 24) rfl rfl Try.func87 (by kernel_rfl) rfl #[.int .i64 a0, .int .i64 a1, .int .i64 1, .slice none 0 0, .func (.func 88) #[] (capsP gf gm gb)] rfl (by (try simp only [List.map_toArray, List.map_cons, List.map_nil]); first | done | rfl) ?_; refine (each_ok a1.toNat w bm b7 bf gf gb gm 0 [] (-1000) a0 a1 1 (.slice none 0 0) [] _ hps (Kd.R_nil _ _ _ _ _) (fun x hx => by cases hx) HKA.out (by decide) (by decide) HA0.out.1 HA0.out.2 HA1.out HCO.out).mono ?_; rintro e w8 ⟨rfl, hp, hk⟩; refine ⟨_, rfl, ?_⟩; have HP := Aside0.mk hp; clear hps hp hk hzf hzb hzm hff hfb hfm ne1 ne2 ne3 ne4 ne5 ne6; obtain ⟨vb, hvb, hRb⟩ := HP.out.cb; have HRB := Aside0.mk hRb; clear hRb; have hzb : w8.cell? ⟨gb, 0, none⟩ = some vb := (blk_cell hvb 0).trans rfl; have hfb := blk_frozen hvb 0; clear hvb))
  go_ret2
  exact ⟨_, rfl, Kd.R_mono HRB.out (fun _ _ => trivial), HP.out.bel⟩

end Go.Proofs.Ytkbjoiebaphdoaa.PX

/- The law FnExactBestParts along its good road: where the callees answer alike, it returns true and leaves all old memory as it was. -/
namespace Go.Proofs.Ytkbjoiebaphdoaa.PX
open Go.RowKit Go.Proofs.YtkbjoiebaphdoaaW.PrintWords Go.Proofs.YtkbjoiebaphdoaaW.PrintLast Go.Proofs.YtkbjoiebaphdoaaW.PrintMore
attribute [local go_sem] max2_int min2_int max_two min_two max_three min_three max_four min_four
set_option linter.unusedVariables false
set_option linter.unusedSimpArgs false

set_option maxHeartbeats 16000000 in
set_option maxRecDepth 100000 in
theorem laws_FnExactBestParts.good (k : Nat) (a0 : Int) (a1 : Int) (r0 : List Int) (r1 : Int) (tm0 : Int) (w : World)  (E_spec_BestParts_2_h : spec_BestParts.f k a0 a1 = some (r0, r1)) (E_impl_BestParts_10_h : impl_BestParts.f k a0 a1 = some (r0, r1)) (E_laws_eqInt64S_18_h : laws_eqInt64S.f k r0 r0 = some true) (D_tm0 : decide (tm0 < 0) = false) (E_laws_markInt64S_21_h : laws_markInt64S.f k r0 1 = some (tm0, marks 1 r0.length)) (E_laws_heldInt64S_24_h : laws_heldInt64S.f k (marks 1 r0.length) 1 = some tm0) :
    Calls Try.prog 12 #[.int .i64 a0, .int .i64 a1] w fun e w' => e = .returned (.bool true) ∧ Below w.heap.size w w' := by
  have E_spec_BestParts_2 := Aside0.mk E_spec_BestParts_2_h
  clear E_spec_BestParts_2_h
  have E_impl_BestParts_10 := Aside0.mk E_impl_BestParts_10_h
  clear E_impl_BestParts_10_h
  have E_laws_eqInt64S_18 := Aside0.mk E_laws_eqInt64S_18_h
  clear E_laws_eqInt64S_18_h
  have E_laws_markInt64S_21 := Aside0.mk E_laws_markInt64S_21_h
  clear E_laws_markInt64S_21_h
  have E_laws_heldInt64S_24 := Aside0.mk E_laws_heldInt64S_24_h
  clear E_laws_heldInt64S_24_h
  have HB := Aside0.mk (Below.refl w.heap.size w)
  go_enter Try.func12, Try.ntmps12
  go_wp2_with (first | ((with_reducible refine gate_dst (N := 16) rfl ?_); (try (refine gate_guard (by rfl) ?_; dsimp only)); refine goesL_ (some 16) rfl rfl Try.func41 (by kernel_rfl) rfl #[.int .i64 a0, .int .i64 a1] rfl (by (try simp only [List.map_toArray, List.map_cons, List.map_nil]); first | done | rfl) ?_; (with_reducible refine (spec_BestParts.calls k a0 a1 r0 r1 _ E_spec_BestParts_2.out).mono ?_); rintro e w1 ⟨v3, rfl, ho4, hb⟩; refine ⟨_, rfl, ?_⟩; obtain ⟨Ao5, co6, e_Ao5⟩ := Kd.V_slice ho4; subst e_Ao5; have F7 := Aside0.mk (V_ivl ho4 HB.out.size); have Z8 : Aside0 (w.heap.size ≤ w1.heap.size) := Aside0.mk (hb.size); have n0_ := Aside0.mk (below_then HB.out HB.out.size hb); clear HB; have HB := n0_; clear n0_; (try clear hb ho4)) | ((with_reducible refine gate_dst (N := 22) rfl ?_); (try (refine gate_guard (by rfl) ?_; dsimp only)); refine goesL_ (some 22) rfl rfl Try.func42 (by kernel_rfl) rfl #[.int .i64 a0, .int .i64 a1] rfl (by (try simp only [List.map_toArray, List.map_cons, List.map_nil]); first | done | rfl) ?_; (with_reducible refine (impl_BestParts.calls k a0 a1 r0 r1 _ E_impl_BestParts_10.out).mono ?_); rintro e w9 ⟨v11, rfl, ho12, hb⟩; refine ⟨_, rfl, ?_⟩; obtain ⟨Ao13, co14, e_Ao13⟩ := Kd.R_slice ho12; subst e_Ao13; have F15 := Aside0.mk (R_ivl ho12 HB.out.size); have Z16 : Aside0 (w1.heap.size ≤ w9.heap.size) := Aside0.mk (hb.size); have n0_ := Aside0.mk (below_then HB.out HB.out.size hb); have n1_ := Aside0.mk (Kd.V_below F7.out hb); clear HB F7; have HB := n0_; have F7 := n1_; clear n0_ n1_; (try clear hb ho12)) | ((with_reducible refine gate_dst (N := 27) rfl ?_); (try (refine gate_guard (by rfl) ?_; dsimp only)); refine goesL_ (some 27) rfl rfl Try.func43 (by kernel_rfl) rfl #[.slice Ao13 r0.length co14, .slice Ao5 r0.length co6] rfl (by (try simp only [List.map_toArray, List.map_cons, List.map_nil]); first | done | rfl) ?_; (with_reducible refine (calls_below (laws_eqInt64S.calls k _ _ r0 _ _ r0 true _ ?side1 ?side2 ?side3 ?side4 E_laws_eqInt64S_18.out)).mono ?_); (case side1 => exact (Kd.R_reads' F15.out).2.2); (case side2 => exact (Kd.R_reads' F15.out).2.1); (case side3 => exact (Kd.V_reads' F7.out).2.2); (case side4 => exact (Kd.V_reads' F7.out).2.1); rintro e w17 ⟨rfl, hb⟩; refine ⟨_, rfl, ?_⟩; have Z19 : Aside0 (w9.heap.size ≤ w17.heap.size) := Aside0.mk (hb.size); have n0_ := Aside0.mk (below_then HB.out HB.out.size hb); have n1_ := Aside0.mk (Kd.V_below F7.out hb); have n2_ := Aside0.mk (Kd.R_below F15.out hb); clear HB F7 F15; have HB := n0_; have F7 := n1_; have F15 := n2_; clear n0_ n1_ n2_; (try clear hb)) | ((with_reducible refine gate_dst (N := 36) rfl ?_); (try (refine gate_guard (by rfl) ?_; dsimp only)); refine goesL_ (some 36) rfl rfl Try.func44 (by kernel_rfl) rfl #[.slice Ao13 r0.length co14, .int .i64 1] rfl (by (try simp only [List.map_toArray, List.map_cons, List.map_nil]); first | done | rfl) ?_; (with_reducible refine (laws_markInt64S.calls k (Ivl w1.heap.size w9.heap.size) _ r0 1 tm0 _ w _ HB.out F15.out E_laws_markInt64S_21.out).mono ?_); rintro e w20 ⟨rfl, hs, hB, hk⟩; refine ⟨_, rfl, ?_⟩; have Z22 : Aside0 (w17.heap.size ≤ w20.heap.size) := Aside0.mk (hk.1); have n0_ := Aside0.mk (hB); have n1_ := Aside0.mk (Kd.V_kept F7.out hk (fun k_ h1_ h2_ => by have z0_ := Z8.out; have z1_ := Z16.out; have z2_ := Z19.out; unfold Ivl at h1_ h2_; omega)); have n2_ := Aside0.mk (Kd.R_reok rfl hs (fun k_ e_ => F15.out.1 k_ e_)); clear HB F7 F15; have HB := n0_; have F7 := n1_; have F15 := n2_; clear n0_ n1_ n2_; (try clear hs hB hk)) | ((with_reducible refine gate_dst (N := 39) rfl ?_); (try (refine gate_guard (by rfl) ?_; dsimp only)); refine goesL_ (some 39) rfl rfl Try.func45 (by kernel_rfl) rfl #[.slice Ao13 (marks 1 r0.length).length co14, .int .i64 1] rfl (by (try simp only [List.map_toArray, List.map_cons, List.map_nil]); first | done | (rw [show (marks 1 r0.length).length = r0.length from marks_length _ _] <;> rfl) | rfl) ?_; (with_reducible refine (calls_below (laws_heldInt64S.calls k _ _ (marks 1 r0.length) 1 tm0 _ ?side1 ?side2 E_laws_heldInt64S_24.out)).mono ?_); (case side1 => first | (exact (Kd.R_reads' F15.out).2.2) | (rw [show (marks 1 r0.length).length = r0.length from marks_length _ _]; exact (Kd.R_reads' F15.out).2.2)); (case side2 => first | (exact (Kd.R_reads' F15.out).2.1) | (rw [show (marks 1 r0.length).length = r0.length from marks_length _ _]; exact (Kd.R_reads' F15.out).2.1)); rintro e w23 ⟨rfl, hb⟩; refine ⟨_, rfl, ?_⟩; have Z25 : Aside0 (w20.heap.size ≤ w23.heap.size) := Aside0.mk (hb.size); have n0_ := Aside0.mk (below_then HB.out HB.out.size hb); have n1_ := Aside0.mk (Kd.V_below F7.out hb); have n2_ := Aside0.mk (Kd.R_below F15.out hb); clear HB F7 F15; have HB := n0_; have F7 := n1_; have F15 := n2_; clear n0_ n1_ n2_; (try clear hb)) | ((with_reducible refine gate_dst (N := 48) rfl ?_); (try (refine gate_guard (by rfl) ?_; dsimp only)); refine goesL_ (some 48) rfl rfl Try.func42 (by kernel_rfl) rfl #[.int .i64 a0, .int .i64 a1] rfl (by (try simp only [List.map_toArray, List.map_cons, List.map_nil]); first | done | rfl) ?_; (with_reducible refine (impl_BestParts.calls k a0 a1 r0 r1 _ E_impl_BestParts_10.out).mono ?_); rintro e w26 ⟨v27, rfl, ho28, hb⟩; refine ⟨_, rfl, ?_⟩; obtain ⟨Ao29, co30, e_Ao29⟩ := Kd.R_slice ho28; subst e_Ao29; have F31 := Aside0.mk (R_ivl ho28 HB.out.size); have Z32 : Aside0 (w23.heap.size ≤ w26.heap.size) := Aside0.mk (hb.size); have n0_ := Aside0.mk (below_then HB.out HB.out.size hb); have n1_ := Aside0.mk (Kd.V_below F7.out hb); have n2_ := Aside0.mk (Kd.R_below F15.out hb); clear HB F7 F15; have HB := n0_; have F7 := n1_; have F15 := n2_; clear n0_ n1_ n2_; (try clear hb ho28)) | ((with_reducible refine gate_dst (N := 53) rfl ?_); (try (refine gate_guard (by rfl) ?_; dsimp only)); refine goesL_ (some 53) rfl rfl Try.func43 (by kernel_rfl) rfl #[.slice Ao29 r0.length co30, .slice Ao5 r0.length co6] rfl (by (try simp only [List.map_toArray, List.map_cons, List.map_nil]); first | done | rfl) ?_; (with_reducible refine (calls_below (laws_eqInt64S.calls k _ _ r0 _ _ r0 true _ ?side1 ?side2 ?side3 ?side4 E_laws_eqInt64S_18.out)).mono ?_); (case side1 => exact (Kd.R_reads' F31.out).2.2); (case side2 => exact (Kd.R_reads' F31.out).2.1); (case side3 => exact (Kd.V_reads' F7.out).2.2); (case side4 => exact (Kd.V_reads' F7.out).2.1); rintro e w33 ⟨rfl, hb⟩; refine ⟨_, rfl, ?_⟩; have Z34 : Aside0 (w26.heap.size ≤ w33.heap.size) := Aside0.mk (hb.size); have n0_ := Aside0.mk (below_then HB.out HB.out.size hb); have n1_ := Aside0.mk (Kd.V_below F7.out hb); have n2_ := Aside0.mk (Kd.R_below F15.out hb); have n3_ := Aside0.mk (Kd.R_below F31.out hb); clear HB F7 F15 F31; have HB := n0_; have F7 := n1_; have F15 := n2_; have F31 := n3_; clear n0_ n1_ n2_ n3_; (try clear hb)) | ((with_reducible refine gate_dst (N := 62) rfl ?_); (try (refine gate_guard (by rfl) ?_; dsimp only)); refine goesL_ (some 62) rfl rfl Try.func45 (by kernel_rfl) rfl #[.slice Ao13 (marks 1 r0.length).length co14, .int .i64 1] rfl (by (try simp only [List.map_toArray, List.map_cons, List.map_nil]); first | done | (rw [show (marks 1 r0.length).length = r0.length from marks_length _ _] <;> rfl) | rfl) ?_; (with_reducible refine (calls_below (laws_heldInt64S.calls k _ _ (marks 1 r0.length) 1 tm0 _ ?side1 ?side2 E_laws_heldInt64S_24.out)).mono ?_); (case side1 => first | (exact (Kd.R_reads' F15.out).2.2) | (rw [show (marks 1 r0.length).length = r0.length from marks_length _ _]; exact (Kd.R_reads' F15.out).2.2)); (case side2 => first | (exact (Kd.R_reads' F15.out).2.1) | (rw [show (marks 1 r0.length).length = r0.length from marks_length _ _]; exact (Kd.R_reads' F15.out).2.1)); rintro e w35 ⟨rfl, hb⟩; refine ⟨_, rfl, ?_⟩; have Z36 : Aside0 (w33.heap.size ≤ w35.heap.size) := Aside0.mk (hb.size); have n0_ := Aside0.mk (below_then HB.out HB.out.size hb); have n1_ := Aside0.mk (Kd.V_below F7.out hb); have n2_ := Aside0.mk (Kd.R_below F15.out hb); have n3_ := Aside0.mk (Kd.R_below F31.out hb); clear HB F7 F15 F31; have HB := n0_; have F7 := n1_; have F15 := n2_; have F31 := n3_; clear n0_ n1_ n2_ n3_; (try clear hb)))
  go_ret
  exact ⟨rfl, HB.out⟩

theorem laws_FnExactBestParts.good_of (a0 : Int) (a1 : Int) (r0 : List Int) (r1 : Int) (tm0 : Int) (w : World)  (E_spec_BestParts_2_h : Ev (fun k => spec_BestParts.f k a0 a1) ((r0, r1))) (E_impl_BestParts_10_h : Ev (fun k => impl_BestParts.f k a0 a1) ((r0, r1))) (E_laws_eqInt64S_18_h : Ev (fun k => laws_eqInt64S.f k r0 r0) (true)) (D_tm0 : decide (tm0 < 0) = false) (E_laws_markInt64S_21_h : Ev (fun k => laws_markInt64S.f k r0 1) ((tm0, marks 1 r0.length))) (E_laws_heldInt64S_24_h : Ev (fun k => laws_heldInt64S.f k (marks 1 r0.length) 1) (tm0)) :
    Calls Try.prog 12 #[.int .i64 a0, .int .i64 a1] w fun e w' => e = .returned (.bool true) ∧ Below w.heap.size w w' := by
  obtain ⟨k0, e0⟩ := E_spec_BestParts_2_h
  obtain ⟨k1, e1⟩ := E_impl_BestParts_10_h
  obtain ⟨k2, e2⟩ := E_laws_eqInt64S_18_h
  obtain ⟨k3, e3⟩ := E_laws_markInt64S_21_h
  obtain ⟨k4, e4⟩ := E_laws_heldInt64S_24_h
  exact laws_FnExactBestParts.good (k0 + k1 + k2 + k3 + k4) a0 a1 r0 r1 tm0 w  (e0 (k0 + k1 + k2 + k3 + k4) (by omega)) (e1 (k0 + k1 + k2 + k3 + k4) (by omega)) (e2 (k0 + k1 + k2 + k3 + k4) (by omega)) D_tm0 (e3 (k0 + k1 + k2 + k3 + k4) (by omega)) (e4 (k0 + k1 + k2 + k3 + k4) (by omega))

end Go.Proofs.Ytkbjoiebaphdoaa.PX

/- BestParts: the reference answers as the program does (no condition). -/
namespace Go.Proofs.Ytkbjoiebaphdoaa.PX
open Go.RowKit Go.Proofs.YtkbjoiebaphdoaaW.PrintWords Go.Proofs.YtkbjoiebaphdoaaW.PrintLast Go.Proofs.YtkbjoiebaphdoaaW.PrintMore
attribute [local go_sem] max2_int min2_int max_two min_two max_three min_three max_four min_four
set_option linter.unusedVariables false
set_option linter.unusedSimpArgs false
theorem loopP_len {f : Int → List (List Int)} {K s : Int} {c : Nat} (hf : ∀ x, (f x).length ≤ c) : ∀ (d : Nat) (x : Int), (loopP f K s d x).length ≤ d * c
  | 0, x => by simp [loopP]
  | d + 1, x => by
    unfold loopP
    have e : (d + 1) * c = d * c + c := Nat.succ_mul d c
    split
    · have h1 := loopP_len (K := K) (s := s) hf d (x + 1)
      have h2 := hf x
      rw [List.length_append]; omega
    · simp
theorem parts_le : ∀ (k : Nat) (low s : Int) (b : List Int), (parts k low s b).length ≤ 21 ^ k
  | 0, low, s, b => by unfold parts; split <;> simp
  | k + 1, low, s, b => by
    unfold parts
    have h := loopP_len (K := (k : Int) + 1) (s := s) (fun x => parts_le k x (s - x) (b ++ [x])) 21 low
    have e : 21 ^ (k + 1) = 21 * 21 ^ k := by rw [Nat.pow_succ, Nat.mul_comm]
    rw [e]; exact h
theorem own_val (l : List Int) (h : l.length < 17592186044416) : spec_l01Own.f l = some l := by
  unfold spec_l01Own.f
  rw [Option.bind_some, if_pos (by simpa using h), List.nil_append]
theorem lists_ev : ∀ (k : Nat) (b : List Int) (ki low s : Int), ki = (k : Int) → 1 ≤ low → low ≤ 22 → 0 ≤ s → s ≤ 20 → b.length + k ≤ 6 → Ev (fun q => spec_l04Lists.f q b ki low s) (parts k low s b)
  | 0, b, ki, low, s, hk, h1, h2, h3, h4, h6 => by
    have hk0 : ki = 0 := hk
    unfold parts
    by_cases h : s = 0
    · rw [if_pos h]
      exact Ev.step (f := fun _ => some [b]) (fun q => by rw [spec_l04Lists.f, if_pos hk0, if_pos h]) (Ev.now _)
    · rw [if_neg h]
      exact Ev.step (f := fun _ => some []) (fun q => by rw [spec_l04Lists.f, if_pos hk0, if_neg h]) (Ev.now _)
  | k + 1, b, ki, low, s, hk, h1, h2, h3, h4, h6 => by
    have ihk := lists_ev k
    obtain ⟨F, hF⟩ : ∃ F : Int → List (List Int), F = fun x => parts k x (s - x) (b ++ [x]) := ⟨_, rfl⟩
    have hp : parts (k + 1) low s b = loopP F ki s 21 low := by rw [hF, hk]; rfl
    have hc : (21 : Nat) ^ k ≤ 21 ^ 5 := Nat.pow_le_pow_right (by decide) (by omega)
    have hc5 : (21 : Nat) ^ 5 = 4084101 := by decide
    have hFl : ∀ x, (F x).length ≤ 4084101 := fun x => by rw [hF]; have := parts_le k x (s - x) (b ++ [x]); show (parts k x (s - x) (b ++ [x])).length ≤ _; omega
    have loop : ∀ (d : Nat) (x : Int) (acc : List (List Int)), 1 ≤ x → 22 ≤ x + (d : Int) → x ≤ 22 → acc.length + d * 4084101 ≤ 1000000000 → Ev (fun q => spec_l04Lists.l0 q b ki s acc x) (acc ++ loopP F ki s d x) := by
      intro d
      induction d with
      | zero =>
        intro x acc hx1 hx2 hx3 ha
        have h9 : x * ki ≤ 22 * 6 := Int.mul_le_mul hx3 (by omega) (by omega) (by omega)
        have h10 : x * 1 ≤ x * ki := Int.mul_le_mul_of_nonneg_left (by omega) (by omega)
        have hw : wrap64 (x * ki) = x * ki := by unfold wrap64; omega
        have hgt : ¬ x * ki ≤ s := by omega
        refine Ev.step (f := fun _ => some (acc ++ loopP F ki s 0 x)) (fun q => ?_) (Ev.now _)
        rw [spec_l04Lists.l0, hw, if_neg hgt]
        simp [loopP]
      | succ d ih =>
        intro x acc hx1 hx2 hx3 ha
        have h9 : x * ki ≤ 22 * 6 := Int.mul_le_mul hx3 (by omega) (by omega) (by omega)
        have h10 : x * 1 ≤ x * ki := Int.mul_le_mul_of_nonneg_left (by omega) (by omega)
        have hw : wrap64 (x * ki) = x * ki := by unfold wrap64; omega
        by_cases c : x * ki ≤ s
        · have e1 : wrap64 (ki - 1) = (k : Int) := by unfold wrap64; omega
          have e2 : wrap64 (s - x) = s - x := by unfold wrap64; omega
          have e3 : wrap64 (x + 1) = x + 1 := by unfold wrap64; omega
          have hlp : loopP F ki s (d + 1) x = F x ++ loopP F ki s d (x + 1) := by rw [loopP, if_pos c]
          have hfx := hFl x
          have hm : (d + 1) * 4084101 = d * 4084101 + 4084101 := Nat.succ_mul d _
          have hl := ihk (b ++ [x]) (k : Int) x (s - x) rfl hx1 hx3 (by omega) (by omega) (by rw [List.length_append]; simp; omega)
          have hn := ih (x + 1) (acc ++ F x) (by omega) (by omega) (by omega) (by rw [List.length_append]; omega)
          rw [List.append_assoc] at hn
          rw [hlp]
          have hb6 : b.length < 17592186044416 := by omega
          have hx20 : acc.length + (F x).length < 5864062014805 := by omega
          refine Ev.step (fun q => by rw [spec_l04Lists.l0, hw, if_pos c, own_val b hb6, Option.bind_some, if_pos hb6, e1, e2, e3]) (Ev.bind hl ?_)
          refine Ev.congr (fun q => ?_) hn
          have efx : parts k x (s - x) (b ++ [x]) = F x := by rw [hF]
          rw [efx, if_pos hx20]
        · refine Ev.step (f := fun _ => some (acc ++ loopP F ki s (d + 1) x)) (fun q => ?_) (Ev.now _)
          rw [spec_l04Lists.l0, hw, if_neg c, loopP_stop c]
          simp
    rw [hp]
    have hl := loop 21 low [] h1 (by omega) h2 (by decide)
    rw [List.nil_append] at hl
    refine Ev.step (fun q => ?_) hl
    rw [spec_l04Lists.f, if_neg (by omega)]
theorem rd5 (xs : List (List Int)) (i : Nat) : rd_L5 xs (i : Int) = xs.getD i [] := by unfold rd_L5; rfl
theorem foldl_take_succ {L : List (List Int)} {i : Nat} {l : List Int} (h : L[i]? = some l) (z : List Int × Int) : (L.take (i + 1)).foldl stepP z = stepP ((L.take i).foldl stepP z) l := by
  rw [List.take_add_one, h, List.foldl_append]; rfl
theorem best_loop (L : List (List Int)) (hL : ∀ l ∈ L, okC l ∧ l.length ≤ 8) (hne : L ≠ []) (hlen : L.length ≤ 1000000) : ∀ (d i : Nat) (bv at_ : Int), i + d = L.length → (i = 0 ∧ at_ = -1 ∨ ∃ a : Nat, at_ = (a : Int) ∧ a < i ∧ (L.take i).foldl stepP ([], -1000) = (L.getD a [], bv)) →
    Ev (fun q => spec_BestParts.l0 q L bv at_ (i : Int)) ((L.foldl stepP ([], -1000)).1, 0)
  | 0, i, bv, at_, hd, hI => by
    have hpos := List.length_pos_iff.2 hne
    rcases hI with ⟨h0, _⟩ | ⟨a, rfl, ha, hf⟩
    · omega
    · rw [List.take_of_length_le (by omega)] at hf
      rw [hf]
      have ha2 : a < L.length := by omega
      refine Ev.step (f := fun _ => some (L.getD a [], 0)) (fun q => ?_) (Ev.now _)
      rw [spec_BestParts.l0, if_neg (by omega), if_pos (by omega), if_pos (by omega), rd5]
  | d + 1, i, bv, at_, hd, hI => by
    obtain ⟨l, hl⟩ := get_some (xs := L) (i := i) (by omega)
    have hm := hL l (List.mem_of_getElem? hl)
    have hv : spec_l04Value.f l [] = some (val l []) := fV_of hm.1 (fun x hx => by cases hx) (by simpa using hm.2)
    have hx : wrap64 ((i : Int) + 1) = ((i + 1 : Nat) : Int) := by rw [wrapS (by omega) (by omega)]; rfl
    have hr : rd_L5 L (i : Int) = l := by rw [rd5, getD_of hl]
    have hgl : L.getD i [] = l := getD_of hl
    have hlo := (val_le hm.1 (L := []) (fun x hx => by cases hx) l.length (by simp)).1
    have hlow : -1000 < val l [] := by have := hm.2; omega
    have ft := foldl_take_succ hl ([], -1000)
    have c0 : (i : Int) < (L.length : Int) := by omega
    have c1 : (0 : Int) ≤ (i : Int) := by omega
    rcases hI with ⟨h0, rfl⟩ | ⟨a, rfl, ha, hf⟩
    · have hfold : (L.take (i + 1)).foldl stepP ([], -1000) = (L.getD i [], val l []) := by
        rw [ft, h0, List.take_zero, ← h0, hgl]
        show stepP ([], -1000) l = _
        unfold stepP
        rw [if_pos hlow]
      have ih := best_loop L hL hne hlen d (i + 1) (val l []) (i : Int) (by omega) (.inr ⟨i, rfl, by omega, hfold⟩)
      refine Ev.step (fun q => ?_) ih
      rw [spec_BestParts.l0, if_pos c0, if_pos c1, hr, hv, Option.bind_some, if_pos (by decide), hx]
    · by_cases hg : val l [] > bv
      · have hfold : (L.take (i + 1)).foldl stepP ([], -1000) = (L.getD i [], val l []) := by
          rw [ft, hf, hgl]
          unfold stepP
          rw [if_pos hg]
        have ih := best_loop L hL hne hlen d (i + 1) (val l []) (i : Int) (by omega) (.inr ⟨i, rfl, by omega, hfold⟩)
        refine Ev.step (fun q => ?_) ih
        rw [spec_BestParts.l0, if_pos c0, if_pos c1, hr, hv, Option.bind_some, if_neg (by omega), if_pos hg, hx]
      · have hfold : (L.take (i + 1)).foldl stepP ([], -1000) = (L.getD a [], bv) := by
          rw [ft, hf]
          unfold stepP
          rw [if_neg hg]
        have ih := best_loop L hL hne hlen d (i + 1) bv (a : Int) (by omega) (.inr ⟨a, rfl, by omega, hfold⟩)
        refine Ev.step (fun q => ?_) ih
        rw [spec_BestParts.l0, if_pos c0, if_pos c1, hr, hv, Option.bind_some, if_neg (by omega), if_neg hg, hx]
theorem in_is (a b c : Int) : spec_l01In.f a b c = some (decide (b ≤ a) && decide (a ≤ c)) := by
  unfold spec_l01In.f
  by_cases h : b ≤ a
  · rw [if_pos (show a ≥ b from h), decide_eq_true h, Bool.true_and]
  · rw [if_neg (show ¬ a ≥ b from h), decide_eq_false h, Bool.false_and]
theorem specParts_ev (n k : Int) : Ev (fun q => spec_BestParts.f q n k) (bestP n k) := by
  have bad : bestP n k = ([], 2) → ∀ b, b = true → Ev (fun q => spec_BestParts.j0 q n k b) (bestP n k) := fun e b hb => by
    rw [e, hb]
    exact Ev.step (f := fun _ => some ([], 2)) (fun q => by rw [spec_BestParts.j0, if_pos rfl]) (Ev.now _)
  unfold spec_BestParts.f
  by_cases c1 : 1 ≤ n ∧ n ≤ 20
  · have b1 : (decide (1 ≤ n) && decide (n ≤ 20)) = true := by rw [decide_eq_true c1.1, decide_eq_true c1.2]; rfl
    by_cases c2 : 1 ≤ k ∧ k ≤ 6
    · have b2 : (decide (1 ≤ k) && decide (k ≤ 6)) = true := by rw [decide_eq_true c2.1, decide_eq_true c2.2]; rfl
      refine Ev.congr (fun q => by rw [in_is, Option.bind_some, if_pos b1, in_is, Option.bind_some, if_pos b2]) ?_
      by_cases c3 : k ≤ n
      · have e : bestP n k = (((parts k.toNat 1 n []).foldl stepP ([], -1000)).1, 0) := by unfold bestP; rw [if_pos ⟨c1, c2.1, c2.2, c3⟩]
        rw [e, decide_eq_false (show ¬ k > n by omega)]
        have hl := lists_ev k.toNat [] k 1 n (by omega) (by decide) (by decide) (by omega) c1.2 (by simp; omega)
        have hlen := parts_len ⟨n.toNat, by omega⟩ ⟨k.toNat, by omega⟩
        have hsome := parts_some ⟨n.toNat, by omega⟩ ⟨k.toNat, by omega⟩ (by simp; omega) (by simp; omega)
        simp only at hlen hsome
        rw [show ((n.toNat : Nat) : Int) = n by omega] at hlen hsome
        have hok : ∀ l ∈ parts k.toNat 1 n [], okC l ∧ l.length ≤ 8 := fun l hm => by
          have h := parts_ok k.toNat 1 n [] (by decide) c1.2 (fun x hx => by cases hx) l hm
          refine ⟨okC_20 h.2, ?_⟩
          have := h.1
          simp at this
          omega
        refine Ev.step (fun q => by rw [spec_BestParts.j0, if_neg (fun e => Bool.noConfusion e)]) (Ev.bind hl ?_)
        exact best_loop _ hok (List.length_pos_iff.1 hsome) (by omega) _ 0 0 (-1) (Nat.zero_add _) (.inl ⟨rfl, rfl⟩)
      · have e : bestP n k = ([], 2) := by unfold bestP; rw [if_neg (fun q => c3 q.2.2.2)]
        rw [decide_eq_true (show k > n by omega)]
        exact bad e true rfl
    · have e : bestP n k = ([], 2) := by unfold bestP; rw [if_neg (fun q => c2 ⟨q.2.1, q.2.2.1⟩)]
      have b2 : ¬ (decide (1 ≤ k) && decide (k ≤ 6)) = true := fun q => c2 (by simpa using q)
      exact Ev.congr (fun q => by rw [in_is, Option.bind_some, if_pos b1, in_is, Option.bind_some, if_neg b2]) (bad e true rfl)
  · have e : bestP n k = ([], 2) := by unfold bestP; rw [if_neg (fun q => c1 q.1)]
    have b1 : ¬ (decide (1 ≤ n) && decide (n ≤ 20)) = true := fun q => c1 (by simpa using q)
    exact Ev.congr (fun q => by rw [in_is, Option.bind_some, if_neg b1]) (bad e true rfl)
theorem bestP_len (n k : Int) : (bestP n k).1.length ≤ 6 := by
  unfold bestP
  split
  · rename_i h
    have key : ∀ (L : List (List Int)) (z : List Int × Int), (∀ l ∈ L, l.length ≤ 6) → z.1.length ≤ 6 → (L.foldl stepP z).1.length ≤ 6 := by
      intro L
      induction L with
      | nil => intro z _ h; exact h
      | cons l t ih =>
        intro z hl hz
        refine ih _ (fun x hx => hl x (List.mem_cons_of_mem _ hx)) ?_
        unfold stepP
        split
        · exact hl l (by simp)
        · exact hz
    refine key _ _ (fun l hm => ?_) (by simp)
    have h1 := (parts_ok k.toNat 1 n [] (by decide) h.1.2 (fun x hx => by cases hx) l hm).1
    simp at h1
    omega
  · simp

end Go.Proofs.Ytkbjoiebaphdoaa.PX

/- The law FnExactBestParts holds of every two numbers: both sides tell the same. -/
namespace Go.Proofs.Ytkbjoiebaphdoaa.PX
open Go.RowKit Go.Proofs.YtkbjoiebaphdoaaW.PrintWords Go.Proofs.YtkbjoiebaphdoaaW.PrintLast Go.Proofs.YtkbjoiebaphdoaaW.PrintMore
theorem laws_FnExactBestParts.done (a0 : Int) (a1 : Int) (w : World) (_h0 : (Lit.int .i64 a0).wf = true) (_h1 : (Lit.int .i64 a1).wf = true) :
    Calls Try.prog 12 #[.int .i64 a0, .int .i64 a1] w fun e w' => e = .returned (.bool true) ∧ Below w.heap.size w w' := by
  have hl := bestP_len a0 a1
  have hm := mark_ev (bestP a0 a1).1 1 (by omega) (by omega)
  have hh := held_ev (bestP a0 a1).1.length 1 (by omega) (by omega)
  exact laws_FnExactBestParts.good_of a0 a1 (bestP a0 a1).1 (bestP a0 a1).2 (1 + ((bestP a0 a1).1.length : Int)) w (specParts_ev a0 a1) (Ev.now _) (eqI_ev _ (by omega)) (decide_eq_false (by omega)) hm hh

end Go.Proofs.Ytkbjoiebaphdoaa.PX

/- The row of FnExactBestParts, out of its plain law (no condition). -/
namespace Go.Proofs.Ytkbjoiebaphdoaa.fnExactBestParts
open Go.ChangeShapes Go.WideShapes Go.ChangeAt Go.RowKit
open Go.ChangeMaps (open_string shut_string)
set_option linter.unusedVariables false
theorem own : ownKnob Try.prog.godebug = none := by kernel_rfl
theorem laid : laidOutB Try.prog = true := by kernel_rfl
set_option maxRecDepth 100000 in
theorem lifted (os : Os) (started : os.Started) (H : Type) (enc : TypeId × Value → H) :
    ReturnsInHanded {} Try.checked os 12 .any (Rows.fnExactBestPartsSpec.pre6 enc Try.prog Try.f12 Rows.fnExactBestPartsRow.domain false) (Rows.fnExactBestPartsSpec.post enc Try.prog Try.f12 false true false false) := by
  refine returnsInHanded_of_change_sized (C := Try.checked) own started (by kernel_rfl) Try.func12
    (ChangeSpec.witness6 (enc := enc) (C := Try.checked) false ⟨#[], #[.int .i64 0, .int .i64 0], []⟩ 8 (by kernel_rfl) (by kernel_rfl) (by kernel_rfl) (by kernel_rfl)) ?_
  intro W base args ds gs before hval0 hW hcnd hsz0 _
  have hsz : (DataW.weightsEach Try.prog (Try.f12.params.toList ++ Rows.fnExactBestPartsSpec.plain.varTypes Try.prog) (ds ++ gs)).all (· ≤ reachBytes) = true := hsz0
  have hval : ∀ (j : Nat) t v, Try.f12.params[j]? = some t → args[j]? = some v → Value.okWide Try.prog W .any base t v := hval0
  have hW' := hW
  obtain ⟨p, q, hA0, hV, rfl, hfz, hnd⟩ := hW
  have hA : DataW.TrodAll enc Try.prog W 0 (fun _ => true) true Try.f12.params.toList args.toList ds p := hA0
  rw [Try.params12] at hA hval hsz
  obtain ⟨v0, vs0, d0, ds0, p0, q0, hargs, rfl, rfl, h0, r0⟩ := trodAll_cons hA
  obtain ⟨v1, vs1, d1, ds1, p1, q1, rfl, rfl, rfl, h1, r1⟩ := trodAll_cons r0
  obtain ⟨rfl, rfl, rfl⟩ := trodAll_nil r1
  obtain rfl : args = #[v0, v1] := by cases args; simp_all
  obtain ⟨rfl, rfl⟩ := trodVars_none hV
  obtain ⟨a0, rfl, rfl, rfl, w0⟩ := open_int Try.underlying2 (hval 0 2 v0 rfl rfl) h0
  obtain ⟨a1, rfl, rfl, rfl, w1⟩ := open_int Try.underlying2 (hval 1 2 v1 rfl rfl) h1
  clear hA0 hval0 hsz0 hsz
  refine (PX.laws_FnExactBestParts.done a0 a1 W w0 w1).mono fun e W' ⟨he, bel0⟩ => ?_
  have bel : Below W.heap.size W W' := bel0
  subst he
  exact ⟨_, rfl, _, _, _, [], _, [], hW', trodAll_mk1 (shut_bool Try.underlying4 _), (trodAll_cons_mk (shut_int Try.underlying2 w0) (trodAll_cons_mk (shut_int Try.underlying2 w1) trodAll_mk0)), rfl, bel.frame _, fun h => by cases h⟩
theorem over : Rows.fnExactBestPartsRow.holds Try.pinned (OpenSpec.ofChange Rows.fnExactBestPartsSpec) :=
  OpenClaim.holds_of_wide 12 Try.f12 rfl rfl rfl rfl rfl rfl rfl ⟨rfl, rfl, rfl, rfl, rfl⟩ rfl rfl rfl rfl rfl (by kernel_rfl) Try.func12 (by kernel_rfl)
    (of_decide_eq_true (by kernel_rfl)) (by unfold Func.isWrapper; first | (rw [if_pos (by decide +kernel)]; kernel_rfl) | (rw [if_neg (by decide +kernel)]; exact ⟨rfl, rfl⟩))
    (fun os started H enc _ => lifted os started H enc)
theorem proved : Rows.FnExactBestPartsSaid := over
#print axioms proved
end Go.Proofs.Ytkbjoiebaphdoaa.fnExactBestParts
namespace Go.Proofs.Ytkbjoiebaphdoaa
/-- The row, under a short name, for the claim. -/
theorem fnExactBestParts_holds : Rows.FnExactBestPartsSaid := fnExactBestParts.proved
end Go.Proofs.Ytkbjoiebaphdoaa
