/- The row of FnExactEndingValue, out of its plain law (no condition). -/
import Derived.Laws.EntriesVeiled
import Derived.Test.YtkbjoiebaphdoaaRows
import Derived.WalkKit
import Derived.ProofKit
import Derived.OpenShut
import Derived.ShutString
import Derived.ChangeOld
import Derived.Below
import Derived.Carry
import Derived.SizedLaws
import Derived.Lib.SmallJoins
import Derived.Test.YtkbjoiebaphdoaaPk8FnExactEndingValue
/- A new function value that knows values of endings, and nothing yet; a call of a function value where the order is drawn (no condition). -/
namespace Go.Proofs.Ytkbjoiebaphdoaa.PX
open Go.RowKit Go.Proofs.YtkbjoiebaphdoaaW.PrintWords Go.Proofs.YtkbjoiebaphdoaaW.PrintLast Go.Proofs.YtkbjoiebaphdoaaW.PrintMore
attribute [local go_sem] max2_int min2_int max_two min_two max_three min_three max_four min_four
set_option linter.unusedVariables false
set_option linter.unusedSimpArgs false
theorem MemAt.set {w : World} {b : Nat} {M : List (List Int × List Int)} (h : MemAt w b M) {p : Addr} (hne : b ≠ p.block) (v : Value) : MemAt (w.setCell p v) b M := ⟨World.ownsMap.setCell h.1 hne v, h.2⟩
section
variable {ops : Array Oper} {Q : Exit → Act → World → Prop} {oi : Oper} {a : Act} {w : World} {K : Act → World → Prop}
/-- A call of a function value, in a region whose order is drawn. -/
theorem goesVd_ (N : Option Tmp) (hd : oi.dst = N) (hw : Region.wanted oi (yielded ops a.tmps) = true) {t : Tmp} {os_ : Array Operand} {ts : Array TypeId} (f : FuncId) (cap : Array Value) (hf : HasFn f) (args : Array Value)
    (hop : oi.op = .call { callee := .value (.tmp t), args := os_, argTypes := ts }) (ht : a.eval (.tmp t) = .func (.func f) #[] cap) (hargs : os_.map a.eval = args)
    (h : Calls Try.prog f (args ++ cap) w fun e w' => ∃ v, e = .returned v ∧ K (a.put N v) w') : if Region.wanted oi (yielded ops a.tmps) = true then Oper.wp Try.prog oi a w K Q else K (a.put N undef) w := by
  obtain ⟨fn, hf, hname, hb⟩ := hf
  have he := enters_ hf hname hb (args ++ cap) w
  have hrun : (execOp a.eval oi).run Try.prog w = .ok (.enter f (args ++ cap)) w := by
    unfold execOp
    simp only [hop, resolve, ht, hargs]
    simp [Deferred.ofValue, invoke, he]
  exact call_ f (args ++ cap) hw hd hrun h
end
set_option maxHeartbeats 16000000 in
set_option maxRecDepth 100000 in
theorem values.calls (w : World) : Calls Try.prog 76 #[] w fun e w' => ∃ bm b7 bf : Nat, e = .returned (.func (.func 104) #[] #[.pointer (some ⟨b7, 0, none⟩), .pointer (some ⟨bf, 0, none⟩)]) ∧ w.heap.size ≤ bm ∧ Known bm b7 bf 0 w' ∧ Below w.heap.size w w' := by
  have HB := Aside0.mk (Below.refl w.heap.size w)
  go_enter Try.func76, Try.ntmps76
  go_wp2_with (first | ((with_reducible refine gate_dst (N := 3) rfl ?_); (try (refine gate_guard (by rfl) ?_; dsimp only)); refine mem_event ?hg (N := 3) ?hd ?hr ?_; (case hd => rfl); (case hg => rfl); (case hr => first | (go_simp; done) | (go_simp; rfl)); intro bm hgm w2 hs hb; have KM := Aside0.mk hs; have GM := Aside0.mk hgm; clear hs hgm; have n0_ := Aside0.mk (below_step HB.out hb); clear HB; have HB := n0_; clear n0_ hb) | ((with_reducible refine gate_dst (N := 1) rfl ?_); (try (refine gate_guard (by rfl) ?_; dsimp only)); refine box_event ?hg (N := 1) ?hd (cs := #[.map none]) (t := 109) ?hr ?_; (case hd => rfl); (case hg => rfl); (case hr => first | (go_simp; done) | (go_simp; rfl)); intro b7 hg w3 hbox hb; have G7 := Aside0.mk hg; have B7 := Aside0.mk hbox; have L7 := Aside0.mk (show bm < b7 by rw [hg]; exact MemAt.lt KM.out); have n0_ := Aside0.mk (below_step HB.out hb); have n1_ := Aside0.mk (MemAt.below KM.out hb (MemAt.lt KM.out)); have P7 := Aside0.mk (show w.heap.size ≤ b7 by rw [hg]; exact HB.out.size); clear HB KM hg hbox hb; have HB := n0_; have KM := n1_; clear n0_ n1_; have hz7 : w3.cell? ⟨b7, 0, none⟩ = some (.map none) := (blk_cell B7.out 0).trans rfl; have hf7 := blk_frozen B7.out 0) | ((with_reducible refine gate_dst (N := 2) rfl ?_); (try (refine gate_guard (by rfl) ?_; dsimp only)); refine box_event ?hg (N := 2) ?hd (cs := #[Value.nilFunc]) (t := 82) ?hr ?_; (case hd => rfl); (case hg => rfl); (case hr => first | (go_simp; done) | (go_simp; rfl)); intro bf hg w5 hbox hb; have HBs : Below w.heap.size w (w3.setCell ⟨b7, 0, none⟩ (.map (some bm))) := below_set HB.out P7.out; have KMs := MemAt.set KM.out (show bm ≠ (⟨b7, 0, none⟩ : Addr).block from Nat.ne_of_lt L7.out) (.map (some bm)); have B7s := blk_put (cs := #[.map none]) B7.out 0 (.map (some bm)) rfl; have LF := Aside0.mk (show b7 < bf by rw [hg]; exact blk_lt B7s); have LM := Aside0.mk (show bm < bf by rw [hg]; exact MemAt.lt KMs); have PF := Aside0.mk (show w.heap.size ≤ bf by rw [hg]; exact HBs.size); have n0_ := Aside0.mk (below_step HBs hb); have n1_ := Aside0.mk (MemAt.below KMs hb (MemAt.lt KMs)); have n2_ := Aside0.mk (blk_below (g := b7) B7s hb); have BF := Aside0.mk hbox; clear HB KM B7 HBs KMs B7s hg hbox hb; have HB := n0_; have KM := n1_; have B7 := n2_; clear n0_ n1_ n2_; have hzf : w5.cell? ⟨bf, 0, none⟩ = some (Value.nilFunc) := (blk_cell BF.out 0).trans rfl; have hff := blk_frozen BF.out 0))
  go_ret
  refine ⟨bm, b7, bf, rfl, ?_, ⟨⟨[], Nat.le_refl _, ?_⟩, ?_, ?_⟩, ?_⟩
  · rw [GM.out]; exact Nat.le_refl _
  · exact MemAt.set KM.out (show bm ≠ (⟨bf, 0, none⟩ : Addr).block from Nat.ne_of_lt LM.out) _
  · exact blk_far B7.out (Nat.ne_of_lt LF.out) _
  · exact blk_put (cs := #[Value.nilFunc]) BF.out 0 _ rfl
  · exact below_set HB.out PF.out

end Go.Proofs.Ytkbjoiebaphdoaa.PX

/- The walk of the program's EndingValue (conditions: the slices read as the lists; they fit in memory). -/
namespace Go.Proofs.Ytkbjoiebaphdoaa.PX
open Go.RowKit Go.Proofs.YtkbjoiebaphdoaaW.PrintWords Go.Proofs.YtkbjoiebaphdoaaW.PrintLast Go.Proofs.YtkbjoiebaphdoaaW.PrintMore
attribute [local go_sem] max2_int min2_int max_two min_two max_three min_three max_four min_four
set_option linter.unusedVariables false
set_option linter.unusedSimpArgs false
theorem RdE.came {w W : World} {bm c : Nat} {A : Option Addr} {xs : List Int} (h : Kd.C (Kd.int .i64) w A xs.length xs) (hc : xs.length ≤ c) (hb : Below w.heap.size w W) (hm : w.heap.size ≤ bm) : RdE W bm (.slice A xs.length c) xs :=
  Kd.V_mk hc (Kd.F_mono (Kd.F_below (Kd.C_F (Kd.heap_int .i64) h) hb) (fun k hk e => by subst e; omega))
theorem cost8 : 0 + costT 8 < 4294967296 := by decide
theorem isEnd_ok {C L : List Int} (h : isEnd C L = true) : okC C ∧ okL L ∧ C.length + L.length ≤ 8 := by
  have h8 := isEnd_len h
  unfold isEnd at h
  simp only [Bool.and_eq_true] at h
  obtain ⟨⟨_, h1⟩, h2⟩ := h
  rw [asc_eq, Bool.and_eq_true] at h1 h2
  refine ⟨fun x hx => ?_, fun x hx => ?_, h8⟩
  · exact sizeOk_lo (List.all_eq_true.1 h1.2 x hx)
  · exact sizeOk_lo (List.all_eq_true.1 h2.2 x hx)
def endVal (C L : List Int) : Int × Int := if isEnd C L = true then (val C L, 0) else (0, 1)
def impl_EndingValue.f (_k : Nat) (C L : List Int) : Option (Int × Int) := if C.length ≤ 1048576 ∧ L.length ≤ 1048576 then some (endVal C L) else none
theorem impl_EndingValue.mono : ∀ a0 a1 k, LeO (impl_EndingValue.f k a0 a1) (impl_EndingValue.f (k + 1) a0 a1) := fun _ _ _ => LeO.refl _
set_option maxHeartbeats 16000000 in
set_option maxRecDepth 100000 in
theorem impl_EndingValue.calls (k : Nat) (A0 : Option Addr) (c0 : Nat) (C : List Int) (A1 : Option Addr) (c1 : Nat) (L : List Int) (r1 : Int) (r2 : Int) (w : World) (hr0 : Kd.C (Kd.int .i64) w A0 C.length C) (hc0 : C.length ≤ c0) (hr1 : Kd.C (Kd.int .i64) w A1 L.length L) (hc1 : L.length ≤ c1) (h : impl_EndingValue.f k C L = some (r1, r2)) :
    Calls Try.prog 31 #[.agg #[.slice A0 C.length c0, .slice A1 L.length c1]] w fun e w' => e = .returned (.tuple #[.int .i64 r1, .int .i64 r2]) ∧ Below w.heap.size w w' := by
  have hu27 := Try.underlying27
  have HR0 := Aside0.mk hr0
  have HC0 := Aside0.mk hc0
  have HR1 := Aside0.mk hr1
  have HC1 := Aside0.mk hc1
  have HB := Aside0.mk (Below.refl w.heap.size w)
  clear hr0 hc0 hr1 hc1
  unfold impl_EndingValue.f at h
  split at h
  rotate_left
  · cases h
  rename_i hsz
  obtain ⟨ki, hki⟩ := Ev.rounds (IsEnding_ev C L hsz.1 hsz.2)
  have HIE := Aside0.mk hki
  unfold endVal at h
  clear hsz hki
  cases hE : isEnd C L with
  | false =>
    rw [hE] at h HIE
    rw [if_neg Bool.false_ne_true] at h
    simp only [Option.some.injEq, Prod.mk.injEq] at h
    obtain ⟨rfl, rfl⟩ := h
    clear hE
    go_enter Try.func31, Try.ntmps31
    go_wp2_with (first | ((with_reducible refine gate_dst (N := 1) rfl ?_); (try (refine gate_guard (by rfl) ?_; dsimp only)); refine box_event ?hg (N := 1) ?hd (cs := #[.slice A0 C.length c0, .slice A1 L.length c1]) (t := 27) ?hr ?_; (case hd => rfl); (case hg => rfl); (case hr => first | (go_simp; done) | (go_simp; rfl)); intro gbx hg w2 hbox hb; have BX := Aside0.mk hbox; clear hg hbox; have n0_ := Aside0.mk (below_step HB.out hb); clear HB; have HB := n0_; clear n0_; clear hb; (try clear hz_gbx_0); have hz_gbx_0 : w2.cell? ⟨gbx, 0, none⟩ = some (.slice A0 C.length c0) := (blk_cell BX.out 0).trans rfl; (try clear hf_gbx_0); have hf_gbx_0 := blk_frozen BX.out 0; (try clear hz_gbx_1); have hz_gbx_1 : w2.cell? ⟨gbx, 1, none⟩ = some (.slice A1 L.length c1) := (blk_cell BX.out 1).trans rfl; (try clear hf_gbx_1); have hf_gbx_1 := blk_frozen BX.out 1) | ((with_reducible refine gate_dst (N := 5) rfl ?_); (try (refine gate_guard (by rfl) ?_; dsimp only)); refine goesL_ (some 5) rfl rfl Try.func18 (by kernel_rfl) rfl #[.agg #[.slice A0 C.length c0, .slice A1 L.length c1]] rfl (by (try simp only [List.map_toArray, List.map_cons, List.map_nil]); first | done | rfl) ?_; (with_reducible refine (impl_IsEnding.calls ki A0 c0 C A1 c1 L false _ ?side1 HC0.out ?side2 HC1.out HIE.out).mono ?_); (case side1 => exact Kd.C_below HR0.out HB.out); (case side2 => exact Kd.C_below HR1.out HB.out); rintro e w3 ⟨rfl, hb⟩; refine ⟨_, rfl, ?_⟩; have n0_ := Aside0.mk (blk_below (g := gbx) (o := .cells #[.slice A0 C.length c0, .slice A1 L.length c1] 27 (0, 0)) BX.out hb); have n1_ := Aside0.mk (below_step HB.out hb); clear BX HB; have BX := n0_; have HB := n1_; clear n0_ n1_; clear hb; (try clear hz_gbx_0); have hz_gbx_0 : w3.cell? ⟨gbx, 0, none⟩ = some (.slice A0 C.length c0) := (blk_cell BX.out 0).trans rfl; (try clear hf_gbx_0); have hf_gbx_0 := blk_frozen BX.out 0; (try clear hz_gbx_1); have hz_gbx_1 : w3.cell? ⟨gbx, 1, none⟩ = some (.slice A1 L.length c1) := (blk_cell BX.out 1).trans rfl; (try clear hf_gbx_1); have hf_gbx_1 := blk_frozen BX.out 1))
    go_ret2
    exact ⟨rfl, HB.out⟩
  | true =>
    have HO := Aside0.mk (isEnd_ok hE)
    rw [hE] at h HIE
    rw [if_pos rfl] at h
    simp only [Option.some.injEq, Prod.mk.injEq] at h
    obtain ⟨rfl, rfl⟩ := h
    clear hE
    go_enter Try.func31, Try.ntmps31
    go_wp2_with (first | ((with_reducible refine gate_dst (N := 1) rfl ?_); (try (refine gate_guard (by rfl) ?_; dsimp only)); refine box_event ?hg (N := 1) ?hd (cs := #[.slice A0 C.length c0, .slice A1 L.length c1]) (t := 27) ?hr ?_; (case hd => rfl); (case hg => rfl); (case hr => first | (go_simp; done) | (go_simp; rfl)); intro gbx hg w2 hbox hb; have BX := Aside0.mk hbox; clear hg hbox; have n0_ := Aside0.mk (below_step HB.out hb); clear HB; have HB := n0_; clear n0_; clear hb; (try clear hz_gbx_0); have hz_gbx_0 : w2.cell? ⟨gbx, 0, none⟩ = some (.slice A0 C.length c0) := (blk_cell BX.out 0).trans rfl; (try clear hf_gbx_0); have hf_gbx_0 := blk_frozen BX.out 0; (try clear hz_gbx_1); have hz_gbx_1 : w2.cell? ⟨gbx, 1, none⟩ = some (.slice A1 L.length c1) := (blk_cell BX.out 1).trans rfl; (try clear hf_gbx_1); have hf_gbx_1 := blk_frozen BX.out 1) | ((with_reducible refine gate_dst (N := 5) rfl ?_); (try (refine gate_guard (by rfl) ?_; dsimp only)); refine goesL_ (some 5) rfl rfl Try.func18 (by kernel_rfl) rfl #[.agg #[.slice A0 C.length c0, .slice A1 L.length c1]] rfl (by (try simp only [List.map_toArray, List.map_cons, List.map_nil]); first | done | rfl) ?_; (with_reducible refine (impl_IsEnding.calls ki A0 c0 C A1 c1 L true _ ?side1 HC0.out ?side2 HC1.out HIE.out).mono ?_); (case side1 => exact Kd.C_below HR0.out HB.out); (case side2 => exact Kd.C_below HR1.out HB.out); rintro e w3 ⟨rfl, hb⟩; refine ⟨_, rfl, ?_⟩; have n0_ := Aside0.mk (blk_below (g := gbx) (o := .cells #[.slice A0 C.length c0, .slice A1 L.length c1] 27 (0, 0)) BX.out hb); have n1_ := Aside0.mk (below_step HB.out hb); clear BX HB; have BX := n0_; have HB := n1_; clear n0_ n1_; clear hb; (try clear hz_gbx_0); have hz_gbx_0 : w3.cell? ⟨gbx, 0, none⟩ = some (.slice A0 C.length c0) := (blk_cell BX.out 0).trans rfl; (try clear hf_gbx_0); have hf_gbx_0 := blk_frozen BX.out 0; (try clear hz_gbx_1); have hz_gbx_1 : w3.cell? ⟨gbx, 1, none⟩ = some (.slice A1 L.length c1) := (blk_cell BX.out 1).trans rfl; (try clear hf_gbx_1); have hf_gbx_1 := blk_frozen BX.out 1))
    refine start_ (n := 5) (S := fun w' => w'.cell? ⟨gbx, 0, none⟩ = some (.slice A0 C.length c0) ∧ w'.cell? ⟨gbx, 1, none⟩ = some (.slice A1 L.length c1)) (ds := []) #[false, false, false, false, false] (by kernel_rfl) rfl rfl ⟨(blk_cell BX.out 0).trans rfl, (blk_cell BX.out 1).trans rfl⟩ (fun hHeld => ?_)
    have n0_ := Aside0.mk (blk_drew BX.out)
    have n1_ := Aside0.mk (below_drew1 HB.out)
    clear BX HB
    have BX := n0_
    have HB := n1_
    clear n0_ n1_
    generalize w3.drew = w4 at BX HB hHeld ⊢
    refine take_ (i := 1) (N := some 8) (v := ?_) (a' := ?_) #[false, true, false, false, false] rfl rfl (by kernel_rfl) (fun _ _ _ h => h) (Or.inl ⟨by rfl, ?_⟩) hHeld ?_ ?_
    rotate_left
    · rintro w' ⟨s0_, s1_⟩
      go_simp
      with_reducible rfl
    rotate_left
    · simp only [putAll, Act.put, List.setIfInBounds_toArray, List.set_cons_zero, List.set_cons_succ, i64_w, i32_w]
      rfl
    refine one_ (i := 0) (N := some 7) #[true, true, false, false, false] rfl rfl (by kernel_rfl) (by decide) (fun K hK => ?_)
    refine goes_ Try.func76 (by kernel_rfl) rfl #[] (by rfl) rfl rfl (by (try simp only [List.map_toArray, List.map_cons, List.map_nil]); first | done | rfl) ?_
    (with_reducible refine (values.calls _).mono ?_)
    rintro e w5 ⟨bm, b7, bf, rfl, hbm, hkn, hb⟩
    refine ⟨_, rfl, ?_⟩
    have HBM := Aside0.mk (Nat.le_trans HB.out.size hbm)
    have KN := Aside0.mk hkn
    clear hbm hkn
    have n0_ := Aside0.mk (blk_below (g := gbx) (o := .cells #[.slice A0 C.length c0, .slice A1 L.length c1] 27 (0, 0)) BX.out hb)
    have n1_ := Aside0.mk (below_step HB.out hb)
    clear BX HB
    have BX := n0_
    have HB := n1_
    clear n0_ n1_
    clear hb
    refine hK.out _ _ ⟨(blk_cell BX.out 0).trans rfl, (blk_cell BX.out 1).trans rfl⟩ (fun hHeld => ?_)
    clear hK K
    refine norm_ (a' := ?_) ?_ ?_
    rotate_left
    · show Act.put _ (some 7) _ = _
      simp only [putAll, Act.put, List.setIfInBounds_toArray, List.set_cons_zero, List.set_cons_succ, i64_w, i32_w]
      rfl
    refine one_ (i := 2) (N := some 9) #[true, true, true, false, false] rfl rfl (by kernel_rfl) (by decide) (fun K hK => ?_)
    refine goesVd_ (some 9) rfl (by rfl) 104 #[.pointer (some ⟨b7, 0, none⟩), .pointer (some ⟨bf, 0, none⟩)] find_has #[.agg #[.slice A0 C.length c0, .slice A1 L.length c1]] rfl rfl (by (try simp only [List.map_toArray, List.map_cons, List.map_nil]); first | done | rfl) ?_
    refine (find_ok 8 (Nat.le_refl _) bm b7 bf C L _ _ 0 _ HO.out.1 HO.out.2.1 HO.out.2.2 (RdE.came HR0.out HC0.out HB.out HBM.out) (RdE.came HR1.out HC1.out HB.out HBM.out) KN.out cost8).mono ?_
    rintro e w6 ⟨rfl, hkn2, hg⟩
    refine ⟨_, rfl, ?_⟩
    have n0_ := Aside0.mk (blk_grown (g := gbx) (o := .cells #[.slice A0 C.length c0, .slice A1 L.length c1] 27 (0, 0)) BX.out hg (Known.ne KN.out BX.out))
    have n1_ := Aside0.mk (Below.grown HB.out hg HB.out.size (fun k hk => by cases hk; exact HBM.out))
    clear BX HB
    have BX := n0_
    have HB := n1_
    clear n0_ n1_
    clear hg hkn2
    refine hK.out _ _ ⟨(blk_cell BX.out 0).trans rfl, (blk_cell BX.out 1).trans rfl⟩ (fun hHeld => ?_)
    clear hK K
    refine norm_ (a' := ?_) ?_ ?_
    rotate_left
    · show Act.put _ (some 9) _ = _
      simp only [putAll, Act.put, List.setIfInBounds_toArray, List.set_cons_zero, List.set_cons_succ, i64_w, i32_w]
      rfl
    refine pure_ (i := 3) (N := some 2) (v := ?_) (a' := ?_) #[true, true, true, true, false] rfl rfl (by kernel_rfl) (fun _ _ _ h => h) (Or.inl ⟨by rfl, ?_⟩) ?_ ?_
    rotate_left
    · intro w'
      go_simp
      with_reducible rfl
    rotate_left
    · simp only [putAll, Act.put, List.setIfInBounds_toArray, List.set_cons_zero, List.set_cons_succ, i64_w, i32_w]
      rfl
    refine pure_ (i := 4) (N := some 3) (v := ?_) (a' := ?_) #[true, true, true, true, true] rfl rfl (by kernel_rfl) (fun _ _ _ h => h) (Or.inl ⟨by rfl, ?_⟩) ?_ ?_
    rotate_left
    · intro w'
      go_simp
      with_reducible rfl
    rotate_left
    · simp only [putAll, Act.put, List.setIfInBounds_toArray, List.set_cons_zero, List.set_cons_succ, i64_w, i32_w]
      rfl
    refine done_ (by kernel_rfl) ?_
    try go_wp2
    go_ret2
    exact ⟨rfl, HB.out⟩

end Go.Proofs.Ytkbjoiebaphdoaa.PX

namespace Go.Proofs.Ytkbjoiebaphdoaa.PX
open Go.RowKit Go.Proofs.YtkbjoiebaphdoaaW.PrintWords Go.Proofs.YtkbjoiebaphdoaaW.PrintLast Go.Proofs.YtkbjoiebaphdoaaW.PrintMore
attribute [local go_sem] max2_int min2_int max_two min_two max_three min_three max_four min_four   -- for this text's walks alone
set_option linter.unusedVariables false
set_option linter.unusedSimpArgs false

/-! ### laws_FnExactEndingValue: function 8 -/
def laws_FnExactEndingValue.j0 : Nat → Bool → List Int → List Int → List Int → List Int → Option (Bool)
 | 0, _, _, _, _, _ => none
 | k + 1, x34, x597000, x597001, x613000, x613001 => if x34 = true then (some false) else ((laws_toEnding.f k x597000 x597001).bind fun bt615 => ((laws_eqEnding.f k x613000 x613001 bt615.1 bt615.2).bind fun t621 => (if t621 = true then (some true) else (some false))))
def laws_FnExactEndingValue.f (k : Nat) (l0_0 : List Int) (l0_1 : List Int) : Option (Bool) := (laws_szEnding.f l0_0 l0_1 1048576).bind fun t597 => (if t597 < 0 then (some true) else ((laws_toEnding.f k l0_0 l0_1).bind fun bt598 => ((spec_EndingValue.f k bt598.1 bt598.2).bind fun bt604 => ((laws_toEnding.f k l0_0 l0_1).bind fun bt606 => ((impl_EndingValue.f k bt606.1 bt606.2).bind fun bt613 => (if bt613.1 = bt604.1 then (laws_FnExactEndingValue.j0 k (bt613.2 != bt604.2) l0_0 l0_1 bt606.1 bt606.2) else (laws_FnExactEndingValue.j0 k true l0_0 l0_1 bt606.1 bt606.2)))))))
theorem laws_FnExactEndingValue.mono_l : ∀ k, (∀ y0 y1 y2 y3 y4, LeO (laws_FnExactEndingValue.j0 k y0 y1 y2 y3 y4) (laws_FnExactEndingValue.j0 (k + 1) y0 y1 y2 y3 y4))
 | 0 => fun _ _ _ _ _ r h => by simp [laws_FnExactEndingValue.j0] at h
 | k + 1 => by
  have ih0 := laws_FnExactEndingValue.mono_l k
  ·intro y0 y1 y2 y3 y4
   unfold laws_FnExactEndingValue.j0
   repeat' first
   | (with_reducible exact ih0 _ _ _ _ _)
   | (with_reducible exact impl_EndingValue.mono _ _ _)
   | (with_reducible exact laws_eqEnding.mono _ _ _ _ _)
   | (with_reducible exact laws_toEnding.mono _ _ _)
   | (with_reducible exact spec_EndingValue.mono _ _ _)
   | (with_reducible exact LeO.refl _)
   | (with_reducible exact LeO.none _)
   | (with_reducible refine LeO.ite ?_ ?_)
   | (with_reducible refine LeO.bind ?_ (fun _ => ?_))
   | exact ih0 _ _ _ _ _
   | exact impl_EndingValue.mono _ _ _
   | exact laws_eqEnding.mono _ _ _ _ _
   | exact laws_toEnding.mono _ _ _
   | exact spec_EndingValue.mono _ _ _
   | exact LeO.none _
   | refine LeO.ite ?_ ?_
   | refine LeO.bind ?_ (fun _ => ?_)
theorem laws_FnExactEndingValue.mono : ∀ a0 a1 k, LeO (laws_FnExactEndingValue.f k a0 a1) (laws_FnExactEndingValue.f (k + 1) a0 a1) := by
 intro a0 a1 k
 have ih0 := laws_FnExactEndingValue.mono_l k
 unfold laws_FnExactEndingValue.f
 repeat' first
   | (with_reducible exact ih0 _ _ _ _ _)
   | (with_reducible exact impl_EndingValue.mono _ _ _)
   | (with_reducible exact laws_eqEnding.mono _ _ _ _ _)
   | (with_reducible exact laws_toEnding.mono _ _ _)
   | (with_reducible exact spec_EndingValue.mono _ _ _)
   | (with_reducible exact LeO.refl _)
   | (with_reducible exact LeO.none _)
   | (with_reducible refine LeO.ite ?_ ?_)
   | (with_reducible refine LeO.bind ?_ (fun _ => ?_))
   | exact ih0 _ _ _ _ _
   | exact impl_EndingValue.mono _ _ _
   | exact laws_eqEnding.mono _ _ _ _ _
   | exact laws_toEnding.mono _ _ _
   | exact spec_EndingValue.mono _ _ _
   | exact LeO.none _
   | refine LeO.ite ?_ ?_
   | refine LeO.bind ?_ (fun _ => ?_)
set_option maxHeartbeats 8000000 in
set_option maxRecDepth 100000 in
theorem laws_FnExactEndingValue.calls (k : Nat) (A0_0 : Option Addr) (c0_0 : Nat) (l0_0 : List Int) (A0_1 : Option Addr) (c0_1 : Nat) (l0_1 : List Int) (r : Bool) (w : World) (hr0_0 : Kd.C (Kd.int .i64) w A0_0 l0_0.length l0_0) (hc0_0 : l0_0.length ≤ c0_0) (hr0_1 : Kd.C (Kd.int .i64) w A0_1 l0_1.length l0_1) (hc0_1 : l0_1.length ≤ c0_1) (h : laws_FnExactEndingValue.f k l0_0 l0_1 = some r) :
  Calls Try.prog 8 #[.agg #[.slice A0_0 l0_0.length c0_0, .slice A0_1 l0_1.length c0_1]] w fun e w' => e = .returned (.bool r) ∧ Below w.heap.size w w' := by
 have hu24 := Try.underlying24
 have hu27 := Try.underlying27
 have HR0_0 := Aside0.mk hr0_0
 have HC0_0 := Aside0.mk hc0_0
 clear hr0_0 hc0_0
 have HR0_1 := Aside0.mk hr0_1
 have HC0_1 := Aside0.mk hc0_1
 clear hr0_1 hc0_1
 have HB := Aside0.mk (Below.refl w.heap.size w)
 have H : ((laws_szEnding.f l0_0 l0_1 1048576).bind fun t597 => (if t597 < 0 then (some true) else ((laws_toEnding.f k l0_0 l0_1).bind fun bt598 => ((spec_EndingValue.f k bt598.1 bt598.2).bind fun bt604 => ((laws_toEnding.f k l0_0 l0_1).bind fun bt606 => ((impl_EndingValue.f k bt606.1 bt606.2).bind fun bt613 => (if bt613.1 = bt604.1 then (laws_FnExactEndingValue.j0 k (bt613.2 != bt604.2) l0_0 l0_1 bt606.1 bt606.2) else (laws_FnExactEndingValue.j0 k true l0_0 l0_1 bt606.1 bt606.2)))))))) = some r := h
 clear h
 replace H := Option.bind_eq_some_iff.mp H
 obtain ⟨t597, A20, H⟩ := H
 replace H : (if t597 < 0 then (some true) else ((laws_toEnding.f k l0_0 l0_1).bind fun bt598 => ((spec_EndingValue.f k bt598.1 bt598.2).bind fun bt604 => ((laws_toEnding.f k l0_0 l0_1).bind fun bt606 => ((impl_EndingValue.f k bt606.1 bt606.2).bind fun bt613 => (if bt613.1 = bt604.1 then (laws_FnExactEndingValue.j0 k (bt613.2 != bt604.2) l0_0 l0_1 bt606.1 bt606.2) else (laws_FnExactEndingValue.j0 k true l0_0 l0_1 bt606.1 bt606.2))))))) = some r := H
 have A2 := Aside0.mk A20
 clear A20
 by_cases c3 : t597 < 0
 ·rw [if_pos c3] at H
  have c3b0 : decide (t597 < 0) = true := decide_eq_true c3
  clear c3
  obtain rfl := Option.some.inj H
  go_enter Try.func8, Try.ntmps8
  go_wp2_with (first | ((with_reducible refine gate_dst (N := 1) rfl ?_); refine box_event ?hg (N := 1) ?hd (cs := #[.slice A0_0 l0_0.length c0_0, .slice A0_1 l0_1.length c0_1]) (t := 24) ?hr ?_; (case hd => rfl); (case hg => rfl); (case hr => first | (go_simp; done) | (go_simp; rfl)); intro gb596 hg w4 hbox hb; have n0_ := Aside0.mk (below_step (by repeat (first | (with_reducible first | exact HB.out | apply below_alloc | apply pw_below_drewN | apply below_drew1) | exact HB.out)) hb); have n1_ := Aside0.mk (hbox); have n2_ := Aside0.mk ((by rw [hg]; exact (below_size (by repeat (first | (with_reducible first | exact HB.out | apply below_alloc | apply pw_below_drewN | apply below_drew1) | exact HB.out))) : w.heap.size ≤ gb596)); have n3_ := Aside0.mk ((by rw [hg]; exact (below_size (by repeat (first | (with_reducible first | exact HB.out | apply below_alloc | apply pw_below_drewN | apply below_drew1) | exact HB.out))) : w.heap.size ≤ gb596)); clear HB; have HB := n0_; have BK596 := n1_; have GW596 := n2_; have GE596 := n3_; clear n0_ n1_ n2_ n3_; clear hb hbox hg; have hcz5_0 : w4.cell? ⟨gb596, 0, none⟩ = some (.slice A0_0 l0_0.length c0_0) := (blk_cell BK596.out 0).trans rfl; have hcz5_1 : w4.cell? ⟨gb596, 1, none⟩ = some (.slice A0_1 l0_1.length c0_1) := (blk_cell BK596.out 1).trans rfl; have hfz5_0 := blk_frozen BK596.out 0; have hfz5_1 := blk_frozen BK596.out 1) | ((with_reducible refine gate_callee (f := 15) rfl ?_); refine goesL_ (some 11) rfl rfl Try.func15 (by kernel_rfl) rfl #[.agg #[.slice A0_0 l0_0.length c0_0, .slice A0_1 l0_1.length c0_1], .int .i64 1048576] rfl (by (try simp only [List.map_toArray, List.map_cons, List.map_nil]); first | done | rfl | (simp only [List.length_drop, List.length_take]; rfl)) ?_; (with_reducible refine (laws_szEnding.calls _ _ l0_0 _ _ l0_1 1048576 t597 _ ?side1 ?side2 ?side3 ?side4 A2.out).mono ?_); (case side1 => repeat (first | exact (Kd.C_below HR0_0.out HB.out) | (with_reducible refine Kd.C_alloc ?_ _) | (with_reducible refine Kd.C_drewN ?_ _) | (with_reducible refine Kd.C_drew ?_))); (case side2 => exact HC0_0.out); (case side3 => repeat (first | exact (Kd.C_below HR0_1.out HB.out) | (with_reducible refine Kd.C_alloc ?_ _) | (with_reducible refine Kd.C_drewN ?_ _) | (with_reducible refine Kd.C_drew ?_))); (case side4 => exact HC0_1.out); rintro e w6 ⟨rfl, hb⟩; refine ⟨_, rfl, ?_⟩; have n0_ := Aside0.mk (blk_below (g := gb596) (o := .cells #[.slice A0_0 l0_0.length c0_0, .slice A0_1 l0_1.length c0_1] 24 (0, 0)) (by (with_reducible repeat (first | refine blk_drewN ?_ _ | refine blk_drew ?_ | refine blk_alloc ?_ _)); exact BK596.out) hb); have n1_ := Aside0.mk (below_step (by repeat (first | (with_reducible first | exact HB.out | apply below_alloc | apply pw_below_drewN | apply below_drew1 | refine below_set ?_ GE596.out) | exact HB.out)) hb); clear BK596; clear HB; have BK596 := n0_; have HB := n1_; clear n0_ n1_; (try clear hb); (try clear hb2); (try clear hk); (try clear hi)))
  go_ret
  exact ⟨rfl, by repeat (first | (with_reducible first | exact HB.out | apply below_alloc | apply pw_below_drewN | apply below_drew1 | refine below_set ?_ GE596.out) | exact HB.out)⟩
 ·rw [if_neg c3] at H
  have c3b0 : decide (t597 < 0) = false := decide_eq_false c3
  clear c3
  replace H := Option.bind_eq_some_iff.mp H
  obtain ⟨⟨t598, t601⟩, A70, H⟩ := H
  replace H : ((spec_EndingValue.f k t598 t601).bind fun bt604 => ((laws_toEnding.f k l0_0 l0_1).bind fun bt606 => ((impl_EndingValue.f k bt606.1 bt606.2).bind fun bt613 => (if bt613.1 = bt604.1 then (laws_FnExactEndingValue.j0 k (bt613.2 != bt604.2) l0_0 l0_1 bt606.1 bt606.2) else (laws_FnExactEndingValue.j0 k true l0_0 l0_1 bt606.1 bt606.2))))) = some r := H
  have A7 := Aside0.mk A70
  clear A70
  replace H := Option.bind_eq_some_iff.mp H
  obtain ⟨⟨t604, t605⟩, A80, H⟩ := H
  replace H : ((laws_toEnding.f k l0_0 l0_1).bind fun bt606 => ((impl_EndingValue.f k bt606.1 bt606.2).bind fun bt613 => (if bt613.1 = t604 then (laws_FnExactEndingValue.j0 k (bt613.2 != t605) l0_0 l0_1 bt606.1 bt606.2) else (laws_FnExactEndingValue.j0 k true l0_0 l0_1 bt606.1 bt606.2)))) = some r := H
  have A8 := Aside0.mk A80
  clear A80
  replace H := Option.bind_eq_some_iff.mp H
  obtain ⟨⟨t606, t609⟩, A90, H⟩ := H
  replace H : ((impl_EndingValue.f k t606 t609).bind fun bt613 => (if bt613.1 = t604 then (laws_FnExactEndingValue.j0 k (bt613.2 != t605) l0_0 l0_1 t606 t609) else (laws_FnExactEndingValue.j0 k true l0_0 l0_1 t606 t609))) = some r := H
  have A9 := Aside0.mk A90
  clear A90
  replace H := Option.bind_eq_some_iff.mp H
  obtain ⟨⟨t613, t614⟩, A100, H⟩ := H
  replace H : (if t613 = t604 then (laws_FnExactEndingValue.j0 k (t614 != t605) l0_0 l0_1 t606 t609) else (laws_FnExactEndingValue.j0 k true l0_0 l0_1 t606 t609)) = some r := H
  have A10 := Aside0.mk A100
  clear A100
  have HC11 := Aside0.mk H
  clear H
  go_enter Try.func8, Try.ntmps8
  go_upto_region 8 with (first | ((with_reducible refine gate_dst (N := 1) rfl ?_); refine box_event ?hg (N := 1) ?hd (cs := #[.slice A0_0 l0_0.length c0_0, .slice A0_1 l0_1.length c0_1]) (t := 24) ?hr ?_; (case hd => rfl); (case hg => rfl); (case hr => first | (go_simp; done) | (go_simp; rfl)); intro gb596 hg w12 hbox hb; have n0_ := Aside0.mk (below_step (by repeat (first | (with_reducible first | exact HB.out | apply below_alloc | apply pw_below_drewN | apply below_drew1) | exact HB.out)) hb); have n1_ := Aside0.mk (hbox); have n2_ := Aside0.mk ((by rw [hg]; exact (below_size (by repeat (first | (with_reducible first | exact HB.out | apply below_alloc | apply pw_below_drewN | apply below_drew1) | exact HB.out))) : w.heap.size ≤ gb596)); have n3_ := Aside0.mk ((by rw [hg]; exact (below_size (by repeat (first | (with_reducible first | exact HB.out | apply below_alloc | apply pw_below_drewN | apply below_drew1) | exact HB.out))) : w.heap.size ≤ gb596)); clear HB; have HB := n0_; have BK596 := n1_; have GW596 := n2_; have GE596 := n3_; clear n0_ n1_ n2_ n3_; clear hb hbox hg; have hcz13_0 : w12.cell? ⟨gb596, 0, none⟩ = some (.slice A0_0 l0_0.length c0_0) := (blk_cell BK596.out 0).trans rfl; have hcz13_1 : w12.cell? ⟨gb596, 1, none⟩ = some (.slice A0_1 l0_1.length c0_1) := (blk_cell BK596.out 1).trans rfl; have hfz13_0 := blk_frozen BK596.out 0; have hfz13_1 := blk_frozen BK596.out 1) | ((with_reducible refine gate_callee (f := 15) rfl ?_); refine goesL_ (some 11) rfl rfl Try.func15 (by kernel_rfl) rfl #[.agg #[.slice A0_0 l0_0.length c0_0, .slice A0_1 l0_1.length c0_1], .int .i64 1048576] rfl (by (try simp only [List.map_toArray, List.map_cons, List.map_nil]); first | done | rfl | (simp only [List.length_drop, List.length_take]; rfl)) ?_; (with_reducible refine (laws_szEnding.calls _ _ l0_0 _ _ l0_1 1048576 t597 _ ?side1 ?side2 ?side3 ?side4 A2.out).mono ?_); (case side1 => repeat (first | exact (Kd.C_below HR0_0.out HB.out) | (with_reducible refine Kd.C_alloc ?_ _) | (with_reducible refine Kd.C_drewN ?_ _) | (with_reducible refine Kd.C_drew ?_))); (case side2 => exact HC0_0.out); (case side3 => repeat (first | exact (Kd.C_below HR0_1.out HB.out) | (with_reducible refine Kd.C_alloc ?_ _) | (with_reducible refine Kd.C_drewN ?_ _) | (with_reducible refine Kd.C_drew ?_))); (case side4 => exact HC0_1.out); rintro e w14 ⟨rfl, hb⟩; refine ⟨_, rfl, ?_⟩; have n0_ := Aside0.mk (blk_below (g := gb596) (o := .cells #[.slice A0_0 l0_0.length c0_0, .slice A0_1 l0_1.length c0_1] 24 (0, 0)) (by (with_reducible repeat (first | refine blk_drewN ?_ _ | refine blk_drew ?_ | refine blk_alloc ?_ _)); exact BK596.out) hb); have n1_ := Aside0.mk (below_step (by repeat (first | (with_reducible first | exact HB.out | apply below_alloc | apply pw_below_drewN | apply below_drew1 | refine below_set ?_ GE596.out) | exact HB.out)) hb); clear BK596; clear HB; have BK596 := n0_; have HB := n1_; clear n0_ n1_; (try clear hb); (try clear hb2); (try clear hk); (try clear hi); have hcz15_0 : w14.cell? ⟨gb596, 0, none⟩ = some (.slice A0_0 l0_0.length c0_0) := (blk_cell BK596.out 0).trans rfl; have hcz15_1 : w14.cell? ⟨gb596, 1, none⟩ = some (.slice A0_1 l0_1.length c0_1) := (blk_cell BK596.out 1).trans rfl; have hfz15_0 := blk_frozen BK596.out 0; have hfz15_1 := blk_frozen BK596.out 1) | ((with_reducible refine gate_callee (f := 17) rfl ?_); refine goesL_ (some 16) rfl rfl Try.func17 (by kernel_rfl) rfl #[.agg #[.slice A0_0 l0_0.length c0_0, .slice A0_1 l0_1.length c0_1]] rfl (by (try simp only [List.map_toArray, List.map_cons, List.map_nil]); first | done | rfl | (simp only [List.length_drop, List.length_take]; rfl)) ?_; (with_reducible refine (laws_toEnding.calls k _ _ l0_0 _ _ l0_1 t598 t601 _ ?side1 ?side2 ?side3 ?side4 A7.out).mono ?_); (case side1 => repeat (first | exact (Kd.C_below HR0_0.out HB.out) | (with_reducible refine Kd.C_alloc ?_ _) | (with_reducible refine Kd.C_drewN ?_ _) | (with_reducible refine Kd.C_drew ?_))); (case side2 => exact HC0_0.out); (case side3 => repeat (first | exact (Kd.C_below HR0_1.out HB.out) | (with_reducible refine Kd.C_alloc ?_ _) | (with_reducible refine Kd.C_drewN ?_ _) | (with_reducible refine Kd.C_drew ?_))); (case side4 => exact HC0_1.out); rintro e w16 ⟨v599, v602, rfl, ho0, ho1, hb⟩; refine ⟨_, rfl, ?_⟩; have n0_ := Aside0.mk (Kd.R_lower ho0 (below_size (by repeat (first | (with_reducible first | exact HB.out | apply below_alloc | apply pw_below_drewN | apply below_drew1 | refine below_set ?_ GE596.out) | exact HB.out)))); have n1_ := Aside0.mk (Kd.R_lower ho1 (below_size (by repeat (first | (with_reducible first | exact HB.out | apply below_alloc | apply pw_below_drewN | apply below_drew1 | refine below_set ?_ GE596.out) | exact HB.out)))); have n2_ := Aside0.mk (blk_below (g := gb596) (o := .cells #[.slice A0_0 l0_0.length c0_0, .slice A0_1 l0_1.length c0_1] 24 (0, 0)) (by (with_reducible repeat (first | refine blk_drewN ?_ _ | refine blk_drew ?_ | refine blk_alloc ?_ _)); exact BK596.out) hb); have n3_ := Aside0.mk (below_step (by repeat (first | (with_reducible first | exact HB.out | apply below_alloc | apply pw_below_drewN | apply below_drew1 | refine below_set ?_ GE596.out) | exact HB.out)) hb); clear BK596; clear HB; have HO600 := n0_; have HO603 := n1_; have BK596 := n2_; have HB := n3_; clear n0_ n1_ n2_ n3_; (try clear hb); (try clear hb2); (try clear hk); (try clear hi); (try clear ho0); (try clear ho1); obtain ⟨Ao17, co17, eo17⟩ := Kd.R_slice HO600.out; subst eo17; obtain ⟨Ao18, co18, eo18⟩ := Kd.R_slice HO603.out; subst eo18) | ((with_reducible refine gate_callee (f := 30) rfl ?_); refine goesL_ (some 17) rfl rfl Try.func30 (by kernel_rfl) rfl #[.agg #[.slice Ao17 t598.length co17, .slice Ao18 t601.length co18]] rfl (by (try simp only [List.map_toArray, List.map_cons, List.map_nil]); first | done | rfl | (simp only [List.length_drop, List.length_take]; rfl)) ?_; (with_reducible refine (spec_EndingValue.calls k _ _ t598 _ _ t601 t604 t605 _ ?side1 ?side2 ?side3 ?side4 A8.out).mono ?_); (case side1 => repeat (first | exact (Kd.R_reads' HO600.out).2.2 | (with_reducible refine Kd.C_alloc ?_ _) | (with_reducible refine Kd.C_drewN ?_ _) | (with_reducible refine Kd.C_drew ?_))); (case side2 => exact (Kd.R_reads' HO600.out).2.1); (case side3 => repeat (first | exact (Kd.R_reads' HO603.out).2.2 | (with_reducible refine Kd.C_alloc ?_ _) | (with_reducible refine Kd.C_drewN ?_ _) | (with_reducible refine Kd.C_drew ?_))); (case side4 => exact (Kd.R_reads' HO603.out).2.1); rintro e w19 ⟨rfl, hb⟩; refine ⟨_, rfl, ?_⟩; have n0_ := Aside0.mk (Kd.R_below (by (with_reducible repeat (first | apply Kd.R_alloc | apply Kd.R_drewN | apply Kd.R_drew)); exact HO600.out) hb); have n1_ := Aside0.mk (Kd.R_below (by (with_reducible repeat (first | apply Kd.R_alloc | apply Kd.R_drewN | apply Kd.R_drew)); exact HO603.out) hb); have n2_ := Aside0.mk (blk_below (g := gb596) (o := .cells #[.slice A0_0 l0_0.length c0_0, .slice A0_1 l0_1.length c0_1] 24 (0, 0)) (by (with_reducible repeat (first | refine blk_drewN ?_ _ | refine blk_drew ?_ | refine blk_alloc ?_ _)); exact BK596.out) hb); have n3_ := Aside0.mk (below_step (by repeat (first | (with_reducible first | exact HB.out | apply below_alloc | apply pw_below_drewN | apply below_drew1 | refine below_set ?_ GE596.out) | exact HB.out)) hb); clear HO600; clear HO603; clear BK596; clear HB; have HO600 := n0_; have HO603 := n1_; have BK596 := n2_; have HB := n3_; clear n0_ n1_ n2_ n3_; (try clear hb); (try clear hb2); (try clear hk); (try clear hi); have hcz20_0 : w19.cell? ⟨gb596, 0, none⟩ = some (.slice A0_0 l0_0.length c0_0) := (blk_cell BK596.out 0).trans rfl; have hcz20_1 : w19.cell? ⟨gb596, 1, none⟩ = some (.slice A0_1 l0_1.length c0_1) := (blk_cell BK596.out 1).trans rfl; have hfz20_0 := blk_frozen BK596.out 0; have hfz20_1 := blk_frozen BK596.out 1) | ((with_reducible refine gate_callee (f := 17) rfl ?_); refine goesL_ (some 21) rfl rfl Try.func17 (by kernel_rfl) rfl #[.agg #[.slice A0_0 l0_0.length c0_0, .slice A0_1 l0_1.length c0_1]] rfl (by (try simp only [List.map_toArray, List.map_cons, List.map_nil]); first | done | rfl | (simp only [List.length_drop, List.length_take]; rfl)) ?_; (with_reducible refine (laws_toEnding.calls k _ _ l0_0 _ _ l0_1 t606 t609 _ ?side1 ?side2 ?side3 ?side4 A9.out).mono ?_); (case side1 => repeat (first | exact (Kd.C_below HR0_0.out HB.out) | (with_reducible refine Kd.C_alloc ?_ _) | (with_reducible refine Kd.C_drewN ?_ _) | (with_reducible refine Kd.C_drew ?_))); (case side2 => exact HC0_0.out); (case side3 => repeat (first | exact (Kd.C_below HR0_1.out HB.out) | (with_reducible refine Kd.C_alloc ?_ _) | (with_reducible refine Kd.C_drewN ?_ _) | (with_reducible refine Kd.C_drew ?_))); (case side4 => exact HC0_1.out); rintro e w21 ⟨v607, v610, rfl, ho0, ho1, hb⟩; refine ⟨_, rfl, ?_⟩; have n0_ := Aside0.mk (Kd.R_mono (Kd.R_told (Kd.R_told (Kd.R_old (by (with_reducible repeat (first | apply Kd.R_alloc | apply Kd.R_drewN | apply Kd.R_drew)); exact HO600.out) hb) (Kd.R_base ho0)) (Kd.R_base ho1)) (fun _ h_ => h_.1)); have n1_ := Aside0.mk (Kd.R_mono (Kd.R_told (Kd.R_told (Kd.R_old (by (with_reducible repeat (first | apply Kd.R_alloc | apply Kd.R_drewN | apply Kd.R_drew)); exact HO603.out) hb) (Kd.R_base ho0)) (Kd.R_base ho1)) (fun _ h_ => h_.1)); have n2_ := Aside0.mk (Kd.R_lower (Kd.R_new' (Kd.R_new' ho0 (Kd.R_lt (by (with_reducible repeat (first | apply Kd.R_alloc | apply Kd.R_drewN | apply Kd.R_drew)); exact HO600.out))) (Kd.R_lt (by (with_reducible repeat (first | apply Kd.R_alloc | apply Kd.R_drewN | apply Kd.R_drew)); exact HO603.out))) (below_size (by repeat (first | (with_reducible first | exact HB.out | apply below_alloc | apply pw_below_drewN | apply below_drew1 | refine below_set ?_ GE596.out) | exact HB.out)))); have n3_ := Aside0.mk (Kd.R_lower (Kd.R_new' (Kd.R_new' ho1 (Kd.R_lt (by (with_reducible repeat (first | apply Kd.R_alloc | apply Kd.R_drewN | apply Kd.R_drew)); exact HO600.out))) (Kd.R_lt (by (with_reducible repeat (first | apply Kd.R_alloc | apply Kd.R_drewN | apply Kd.R_drew)); exact HO603.out))) (below_size (by repeat (first | (with_reducible first | exact HB.out | apply below_alloc | apply pw_below_drewN | apply below_drew1 | refine below_set ?_ GE596.out) | exact HB.out)))); have n4_ := Aside0.mk (blk_below (g := gb596) (o := .cells #[.slice A0_0 l0_0.length c0_0, .slice A0_1 l0_1.length c0_1] 24 (0, 0)) (by (with_reducible repeat (first | refine blk_drewN ?_ _ | refine blk_drew ?_ | refine blk_alloc ?_ _)); exact BK596.out) hb); have n5_ := Aside0.mk (below_step (by repeat (first | (with_reducible first | exact HB.out | apply below_alloc | apply pw_below_drewN | apply below_drew1 | refine below_set ?_ GE596.out) | exact HB.out)) hb); clear HO600; clear HO603; clear BK596; clear HB; have HO600 := n0_; have HO603 := n1_; have HO608 := n2_; have HO611 := n3_; have BK596 := n4_; have HB := n5_; clear n0_ n1_ n2_ n3_ n4_ n5_; (try clear hb); (try clear hb2); (try clear hk); (try clear hi); (try clear ho0); (try clear ho1)) | ((with_reducible refine gate_dst (N := 6) rfl ?_); refine box_event ?hg (N := 6) ?hd (cs := #[.slice none 0 0, .slice none 0 0]) (t := 27) ?hr ?_; (case hd => rfl); (case hg => rfl); (case hr => first | (go_simp; done) | (go_simp; rfl)); intro gb612 hg w22 hbox hb; have n0_ := Aside0.mk (Kd.R_below (by (with_reducible repeat (first | apply Kd.R_alloc | apply Kd.R_drewN | apply Kd.R_drew)); exact HO600.out) hb); have n1_ := Aside0.mk (Kd.R_below (by (with_reducible repeat (first | apply Kd.R_alloc | apply Kd.R_drewN | apply Kd.R_drew)); exact HO603.out) hb); have n2_ := Aside0.mk (Kd.R_below (by (with_reducible repeat (first | apply Kd.R_alloc | apply Kd.R_drewN | apply Kd.R_drew)); exact HO608.out) hb); have n3_ := Aside0.mk (Kd.R_below (by (with_reducible repeat (first | apply Kd.R_alloc | apply Kd.R_drewN | apply Kd.R_drew)); exact HO611.out) hb); have n4_ := Aside0.mk (blk_below (g := gb596) (o := .cells #[.slice A0_0 l0_0.length c0_0, .slice A0_1 l0_1.length c0_1] 24 (0, 0)) (by (with_reducible repeat (first | refine blk_drewN ?_ _ | refine blk_drew ?_ | refine blk_alloc ?_ _)); exact BK596.out) hb); have n5_ := Aside0.mk (below_step (by repeat (first | (with_reducible first | exact HB.out | apply below_alloc | apply pw_below_drewN | apply below_drew1 | refine below_set ?_ GE596.out) | exact HB.out)) hb); have n6_ := Aside0.mk (hbox); have n7_ := Aside0.mk ((by rw [hg]; exact (below_size (by repeat (first | (with_reducible first | exact HB.out | apply below_alloc | apply pw_below_drewN | apply below_drew1 | refine below_set ?_ GE596.out) | exact HB.out))) : w.heap.size ≤ gb612)); have n8_ := Aside0.mk ((by rw [hg]; exact (below_size (by repeat (first | (with_reducible first | exact HB.out | apply below_alloc | apply pw_below_drewN | apply below_drew1 | refine below_set ?_ GE596.out) | exact HB.out))) : w.heap.size ≤ gb612)); have n9_ := Aside0.mk ((by rw [hg]; exact Nat.ne_of_lt (blk_lt (g := gb596) (o := .cells #[.slice A0_0 l0_0.length c0_0, .slice A0_1 l0_1.length c0_1] 24 (0, 0)) (by (with_reducible repeat (first | refine blk_drewN ?_ _ | refine blk_drew ?_ | refine blk_alloc ?_ _)); exact BK596.out)) : gb596 ≠ gb612)); have n10_ := Aside0.mk ((by rw [hg]; exact Nat.ne_of_gt (blk_lt (g := gb596) (o := .cells #[.slice A0_0 l0_0.length c0_0, .slice A0_1 l0_1.length c0_1] 24 (0, 0)) (by (with_reducible repeat (first | refine blk_drewN ?_ _ | refine blk_drew ?_ | refine blk_alloc ?_ _)); exact BK596.out)) : gb612 ≠ gb596)); clear HO600; clear HO603; clear HO608; clear HO611; clear BK596; clear HB; have HO600 := n0_; have HO603 := n1_; have HO608 := n2_; have HO611 := n3_; have BK596 := n4_; have HB := n5_; have BK612 := n6_; have GW612 := n7_; have GE612 := n8_; have NB596_612 := n9_; have NB612_596 := n10_; clear n0_ n1_ n2_ n3_ n4_ n5_ n6_ n7_ n8_ n9_ n10_; clear hb hbox hg; obtain ⟨Ao23, co23, eo23⟩ := Kd.R_slice HO608.out; subst eo23; have hnb24 := NB612_596.out; have hnc24 := NB596_612.out; have hcz25_0 : w22.cell? ⟨gb612, 0, none⟩ = some (.slice none 0 0) := (blk_cell BK612.out 0).trans rfl; have hcz25_1 : w22.cell? ⟨gb612, 1, none⟩ = some (.slice none 0 0) := (blk_cell BK612.out 1).trans rfl; have hfz25_0 := blk_frozen BK612.out 0; have hfz25_1 := blk_frozen BK612.out 1; obtain ⟨Ao26, co26, eo26⟩ := Kd.R_slice HO611.out; subst eo26) | ((with_reducible refine gate_callee (f := 31) rfl ?_); refine goesL_ (some 24) rfl rfl Try.func31 (by kernel_rfl) rfl #[.agg #[.slice Ao23 t606.length co23, .slice Ao26 t609.length co26]] rfl (by (try simp only [List.map_toArray, List.map_cons, List.map_nil]); first | done | rfl | (simp only [List.length_drop, List.length_take]; rfl)) ?_; (with_reducible refine (impl_EndingValue.calls k _ _ t606 _ _ t609 t613 t614 _ ?side1 ?side2 ?side3 ?side4 A10.out).mono ?_); (case side1 => refine (Kd.R_reads' (e := 2) (base := w.heap.size) (ok := fun k_ => ((some k_ ≠ (.slice Ao26 t609.length co26 : Value).ownBlock ∧ some k_ ≠ (.slice Ao17 t598.length co17 : Value).ownBlock) ∧ some k_ ≠ (.slice Ao18 t601.length co18 : Value).ownBlock)) (n := t606.length) (c := co23) ?_).2.2; exact (by (with_reducible repeat (first | apply Kd.R_alloc | apply Kd.R_drewN | apply Kd.R_drew)); exact (Kd.R_mono (Kd.R_far (p := ⟨gb612, 1, none⟩) (Kd.R_far (p := ⟨gb612, 0, none⟩) (Kd.R_types HO608.out BK612.out (by decide)) (fun _ hk => hk.2) (.slice Ao23 t606.length co23)) (fun _ hk => hk.2) (.slice Ao26 t609.length co26)) (fun _ h_ => h_.1)))); (case side2 => exact (Kd.R_reads' HO608.out).2.1); (case side3 => refine (Kd.R_reads' (e := 2) (base := w.heap.size) (ok := fun k_ => ((some k_ ≠ (.slice Ao23 t606.length co23 : Value).ownBlock ∧ some k_ ≠ (.slice Ao17 t598.length co17 : Value).ownBlock) ∧ some k_ ≠ (.slice Ao18 t601.length co18 : Value).ownBlock)) (n := t609.length) (c := co26) ?_).2.2; exact (by (with_reducible repeat (first | apply Kd.R_alloc | apply Kd.R_drewN | apply Kd.R_drew)); exact (Kd.R_mono (Kd.R_far (p := ⟨gb612, 1, none⟩) (Kd.R_far (p := ⟨gb612, 0, none⟩) (Kd.R_types HO611.out BK612.out (by decide)) (fun _ hk => hk.2) (.slice Ao23 t606.length co23)) (fun _ hk => hk.2) (.slice Ao26 t609.length co26)) (fun _ h_ => h_.1)))); (case side4 => exact (Kd.R_reads' HO611.out).2.1); rintro e w27 ⟨rfl, hb⟩; refine ⟨_, rfl, ?_⟩; have n0_ := Aside0.mk (Kd.R_below (by (with_reducible repeat (first | apply Kd.R_alloc | apply Kd.R_drewN | apply Kd.R_drew)); exact (Kd.R_mono (Kd.R_far (p := ⟨gb612, 1, none⟩) (Kd.R_far (p := ⟨gb612, 0, none⟩) (Kd.R_types HO600.out BK612.out (by decide)) (fun _ hk => hk.2) (.slice Ao23 t606.length co23)) (fun _ hk => hk.2) (.slice Ao26 t609.length co26)) (fun _ h_ => h_.1))) hb); have n1_ := Aside0.mk (Kd.R_below (by (with_reducible repeat (first | apply Kd.R_alloc | apply Kd.R_drewN | apply Kd.R_drew)); exact (Kd.R_mono (Kd.R_far (p := ⟨gb612, 1, none⟩) (Kd.R_far (p := ⟨gb612, 0, none⟩) (Kd.R_types HO603.out BK612.out (by decide)) (fun _ hk => hk.2) (.slice Ao23 t606.length co23)) (fun _ hk => hk.2) (.slice Ao26 t609.length co26)) (fun _ h_ => h_.1))) hb); have n2_ := Aside0.mk (Kd.R_below (by (with_reducible repeat (first | apply Kd.R_alloc | apply Kd.R_drewN | apply Kd.R_drew)); exact (Kd.R_mono (Kd.R_far (p := ⟨gb612, 1, none⟩) (Kd.R_far (p := ⟨gb612, 0, none⟩) (Kd.R_types HO608.out BK612.out (by decide)) (fun _ hk => hk.2) (.slice Ao23 t606.length co23)) (fun _ hk => hk.2) (.slice Ao26 t609.length co26)) (fun _ h_ => h_.1))) hb); have n3_ := Aside0.mk (Kd.R_below (by (with_reducible repeat (first | apply Kd.R_alloc | apply Kd.R_drewN | apply Kd.R_drew)); exact (Kd.R_mono (Kd.R_far (p := ⟨gb612, 1, none⟩) (Kd.R_far (p := ⟨gb612, 0, none⟩) (Kd.R_types HO611.out BK612.out (by decide)) (fun _ hk => hk.2) (.slice Ao23 t606.length co23)) (fun _ hk => hk.2) (.slice Ao26 t609.length co26)) (fun _ h_ => h_.1))) hb); have n4_ := Aside0.mk (blk_below (g := gb596) (o := .cells #[.slice A0_0 l0_0.length c0_0, .slice A0_1 l0_1.length c0_1] 24 (0, 0)) (by (with_reducible repeat (first | refine blk_drewN ?_ _ | refine blk_drew ?_ | refine blk_alloc ?_ _)); refine blk_far ?_ NB596_612.out _; (with_reducible repeat (first | refine blk_drewN ?_ _ | refine blk_drew ?_ | refine blk_alloc ?_ _)); refine blk_far ?_ NB596_612.out _; (with_reducible repeat (first | refine blk_drewN ?_ _ | refine blk_drew ?_ | refine blk_alloc ?_ _)); exact BK596.out) hb); have n5_ := Aside0.mk (blk_below (g := gb612) (o := .cells #[.slice Ao23 t606.length co23, .slice Ao26 t609.length co26] 27 (0, 0)) (by (with_reducible repeat (first | refine blk_drewN ?_ _ | refine blk_drew ?_ | refine blk_alloc ?_ _)); refine blk_put (cs := #[.slice Ao23 t606.length co23, .slice none 0 0]) ?_ 1 _ rfl; (with_reducible repeat (first | refine blk_drewN ?_ _ | refine blk_drew ?_ | refine blk_alloc ?_ _)); refine blk_put (cs := #[.slice none 0 0, .slice none 0 0]) ?_ 0 _ rfl; (with_reducible repeat (first | refine blk_drewN ?_ _ | refine blk_drew ?_ | refine blk_alloc ?_ _)); exact BK612.out) hb); have n6_ := Aside0.mk (below_step (by repeat (first | (with_reducible first | exact HB.out | apply below_alloc | apply pw_below_drewN | apply below_drew1 | refine below_set ?_ GE596.out | refine below_set ?_ GE612.out) | exact HB.out)) hb); clear HO600; clear HO603; clear HO608; clear HO611; clear BK596; clear BK612; clear HB; have HO600 := n0_; have HO603 := n1_; have HO608 := n2_; have HO611 := n3_; have BK596 := n4_; have BK612 := n5_; have HB := n6_; clear n0_ n1_ n2_ n3_ n4_ n5_ n6_; (try clear hb); (try clear hb2); (try clear hk); (try clear hi)))
  (try simp only [Act.put, List.setIfInBounds_toArray, List.set_cons_zero, List.set_cons_succ])
  go_cut [34] (fun v34 wc => ∃ (kq : Nat) (x34_10 : Bool), v34 = .bool x34_10 ∧ Aside0 (laws_FnExactEndingValue.j0 kq x34_10 l0_0 l0_1 t606 t609 = some r) ∧ Aside0 (kq ≤ k) ∧ Aside0 (Kd.R (Kd.int .i64) 2 wc w.heap.size (fun k_ => some k_ ≠ ((.slice Ao26 t609.length co26) : Value).ownBlock) (.slice Ao23 t606.length co23) t606) ∧ Aside0 (Kd.R (Kd.int .i64) 2 wc w.heap.size (fun k_ => some k_ ≠ ((.slice Ao23 t606.length co23) : Value).ownBlock) (.slice Ao26 t609.length co26) t609) ∧ Aside0 (wc.heap[gb596]? = some (.cells #[(.slice A0_0 l0_0.length c0_0), (.slice A0_1 l0_1.length c0_1)] 24 (0, 0))) ∧ Aside0 (wc.heap[gb612]? = some (.cells #[(.slice Ao23 t606.length co23), (.slice Ao26 t609.length co26)] 27 (0, 0))) ∧ Aside0 (Below w.heap.size w wc))
  case first =>
   have H := HC11.out
   clear HC11
   by_cases c28 : t613 = t604
   ·rw [if_pos c28] at H
    have c28b0 : (t613 == t604) = true := beq_iff_eq.mpr c28
    have c28b1 : (t613 != t604) = false := bne_eq_false_iff_eq.mpr c28
    clear c28
    (first | rw [c28b0] | (simp only [i64_w, i32_w]; rw [c28b0]) | skip)
    have H' := Aside0.mk H
    clear H
    go_wp2
    go_meet
    case rel => exact ⟨_, ((t614 != t605)), rfl, H', ⟨by first | omega | exact Nat.le_refl _⟩, ⟨by exact Kd.R_mono HO608.out (fun _ hk => hk.1.1)⟩, ⟨by exact Kd.R_mono HO611.out (fun _ hk => hk.1.1)⟩, ⟨by exact BK596.out⟩, ⟨by exact BK612.out⟩, ⟨by repeat (first | (with_reducible first | exact HB.out | apply below_alloc | apply pw_below_drewN | apply below_drew1 | refine below_set ?_ GE596.out | refine below_set ?_ GE612.out) | exact HB.out)⟩⟩
   ·rw [if_neg c28] at H
    have c28b0 : (t613 == t604) = false := beq_eq_false_iff_ne.mpr c28
    have c28b1 : (t613 != t604) = true := bne_iff_ne.mpr c28
    (first | rw [c28b0] | (simp only [i64_w, i32_w]; rw [c28b0]) | skip)
    have H' := Aside0.mk H
    clear H
    go_wp2
    go_meet
    case rel => exact ⟨_, (true), rfl, H', ⟨by first | omega | exact Nat.le_refl _⟩, ⟨by exact Kd.R_mono HO608.out (fun _ hk => hk.1.1)⟩, ⟨by exact Kd.R_mono HO611.out (fun _ hk => hk.1.1)⟩, ⟨by exact BK596.out⟩, ⟨by exact BK612.out⟩, ⟨by repeat (first | (with_reducible first | exact HB.out | apply below_alloc | apply pw_below_drewN | apply below_drew1 | refine below_set ?_ GE596.out | refine below_set ?_ GE612.out) | exact HB.out)⟩⟩
  case rest =>
   clear HC11
   try clear c1
   try clear c2
   try clear p2
   try clear c3
   try clear c3b0
   try clear c8
   try clear c15
   try clear c17
   try clear c24
   try clear c28
   try clear c28b0
   try clear c28b1
   try clear hcz13_0
   try clear hcz13_1
   try clear hcz15_0
   try clear hcz15_1
   try clear hcz20_0
   try clear hcz20_1
   try clear hcz25_0
   try clear hcz25_1
   try clear hcz5_0
   try clear hcz5_1
   try clear hfz13_0
   try clear hfz13_1
   try clear hfz15_0
   try clear hfz15_1
   try clear hfz20_0
   try clear hfz20_1
   try clear hfz25_0
   try clear hfz25_1
   try clear hfz5_0
   try clear hfz5_1
   obtain ⟨kq, x34_10, rfl, HA, HJ10, HO_613000, HO_613001, BK596, BK612, HB⟩ := hcut
   cases kq with
   | zero => exact absurd HA.out (by simp [laws_FnExactEndingValue.j0])
   | succ kj10 =>
    have H := HA.out
    clear HA
    simp only [laws_FnExactEndingValue.j0] at H
    by_cases c29 : x34_10 = true
    ·subst c29
     have H1 : (some false) = some r := by rw [if_pos rfl] at H; exact H
     clear H
     have H := H1
     clear H1
     obtain rfl := Option.some.inj H
     go_wp2
     go_ret
     exact ⟨rfl, by repeat (first | (with_reducible first | exact HB.out | apply below_alloc | apply pw_below_drewN | apply below_drew1 | refine below_set ?_ GE596.out | refine below_set ?_ GE612.out) | exact HB.out)⟩
    ·replace c29 := Bool.eq_false_iff.mpr c29
     subst c29
     have H1 : ((laws_toEnding.f kj10 l0_0 l0_1).bind fun bt615 => ((laws_eqEnding.f kj10 t606 t609 bt615.1 bt615.2).bind fun t621 => (if t621 = true then (some true) else (some false)))) = some r := by rw [if_neg (show ¬ (false = true) by decide)] at H; exact H
     clear H
     have H := H1
     clear H1
     replace H := Option.bind_eq_some_iff.mp H
     obtain ⟨⟨t615, t618⟩, A300, H⟩ := H
     replace H : ((laws_eqEnding.f kj10 t606 t609 t615 t618).bind fun t621 => (if t621 = true then (some true) else (some false))) = some r := H
     have A30 := Aside0.mk A300
     clear A300
     replace H := Option.bind_eq_some_iff.mp H
     obtain ⟨t621, A310, H⟩ := H
     replace H : (if t621 = true then (some true) else (some false)) = some r := H
     have A31 := Aside0.mk A310
     clear A310
     by_cases c32 : t621 = true
     ·subst c32
      have H1 : (some true) = some r := by rw [if_pos rfl] at H; exact H
      clear H
      have H := H1
      clear H1
      obtain rfl := Option.some.inj H
      try go_wp2
      have n0_ := Aside0.mk (Kd.R_drew HO_613000.out)
      have n1_ := Aside0.mk (Kd.R_drew HO_613001.out)
      have n2_ := Aside0.mk (blk_drew BK596.out)
      have n3_ := Aside0.mk (blk_drew BK612.out)
      have n4_ := Aside0.mk (below_drew1 HB.out)
      clear HO_613000
      clear HO_613001
      clear BK596
      clear BK612
      clear HB
      have HO_613000 := n0_
      have HO_613001 := n1_
      have BK596 := n2_
      have BK612 := n3_
      have HB := n4_
      clear n0_ n1_ n2_ n3_ n4_
      refine start_ (n := 5) (S := fun w' => w'.cell? ⟨gb612, 0, none⟩ = some (.slice Ao23 t606.length co23) ∧ w'.cell? ⟨gb612, 1, none⟩ = some (.slice Ao26 t609.length co26) ∧ w'.cell? ⟨gb596, 0, none⟩ = some (.slice A0_0 l0_0.length c0_0) ∧ w'.cell? ⟨gb596, 1, none⟩ = some (.slice A0_1 l0_1.length c0_1)) (ds := []) #[false, false, false, false, false] (by kernel_rfl) rfl rfl ⟨(blk_cell BK612.out 0).trans rfl, (blk_cell BK612.out 1).trans rfl, (blk_cell BK596.out 0).trans rfl, (blk_cell BK596.out 1).trans rfl⟩ (fun hHeld => ?_)
      generalize wc.drew = w33 at HO_613000 HO_613001 BK596 BK612 HB hHeld ⊢
      refine take_ (i := 0) (N := some 35) (v := ?_) (a' := ?_) #[true, false, false, false, false] rfl rfl (by kernel_rfl) (fun _ _ _ h => h) (Or.inl ⟨by rfl, ?_⟩) hHeld ?_ ?_
      rotate_left
      ·rintro w' ⟨s0, s1, s2, s3⟩
       go_simp
       with_reducible rfl
      rotate_left
      ·simp only [Act.put, List.setIfInBounds_toArray, List.set_cons_zero, List.set_cons_succ, i64_w, i32_w]
       rfl
      refine take_ (i := 1) (N := some 36) (v := ?_) (a' := ?_) #[true, true, false, false, false] rfl rfl (by kernel_rfl) (fun _ _ _ h => h) (Or.inl ⟨by rfl, ?_⟩) hHeld ?_ ?_
      rotate_left
      ·rintro w' ⟨s0, s1, s2, s3⟩
       go_simp
       with_reducible rfl
      rotate_left
      ·simp only [Act.put, List.setIfInBounds_toArray, List.set_cons_zero, List.set_cons_succ, i64_w, i32_w]
       rfl
      refine one_ (i := 2) (N := some 37) #[true, true, true, false, false] rfl rfl (by kernel_rfl) (by decide) (fun K hK => ?_)
      refine goes_ Try.func17 (by kernel_rfl) rfl #[.agg #[.slice A0_0 l0_0.length c0_0, .slice A0_1 l0_1.length c0_1]] (by rfl) rfl rfl (by (try simp only [List.map_toArray, List.map_cons, List.map_nil]); first | done | rfl | (simp only [List.length_drop, List.length_take]; rfl)) ?_
      with_reducible refine (laws_toEnding.calls kj10 _ _ l0_0 _ _ l0_1 t615 t618 _ ?side1 ?side2 ?side3 ?side4 A30.out).mono ?_
      (case side1 => exact (Kd.C_below HR0_0.out HB.out))
      (case side2 => exact HC0_0.out)
      (case side3 => exact (Kd.C_below HR0_1.out HB.out))
      (case side4 => exact HC0_1.out)
      rintro e w34 ⟨v616, v619, rfl, ho0, ho1, hb⟩
      refine ⟨_, rfl, ?_⟩
      have n0_ := Aside0.mk (Kd.R_mono (Kd.R_told (Kd.R_told (Kd.R_old HO_613000.out hb) (Kd.R_base ho0)) (Kd.R_base ho1)) (fun _ h_ => h_.1))
      have n1_ := Aside0.mk (Kd.R_mono (Kd.R_told (Kd.R_told (Kd.R_old HO_613001.out hb) (Kd.R_base ho0)) (Kd.R_base ho1)) (fun _ h_ => h_.1))
      have n2_ := Aside0.mk (Kd.R_lower (Kd.R_new' (Kd.R_new' ho0 (Kd.R_lt HO_613000.out)) (Kd.R_lt HO_613001.out)) (below_size HB.out))
      have n3_ := Aside0.mk (Kd.R_lower (Kd.R_new' (Kd.R_new' ho1 (Kd.R_lt HO_613000.out)) (Kd.R_lt HO_613001.out)) (below_size HB.out))
      have n4_ := Aside0.mk (blk_below (g := gb596) (o := .cells #[.slice A0_0 l0_0.length c0_0, .slice A0_1 l0_1.length c0_1] 24 (0, 0)) BK596.out hb)
      have n5_ := Aside0.mk (blk_below (g := gb612) (o := .cells #[.slice Ao23 t606.length co23, .slice Ao26 t609.length co26] 27 (0, 0)) BK612.out hb)
      have n6_ := Aside0.mk (below_step HB.out hb)
      clear HO_613000
      clear HO_613001
      clear BK596
      clear BK612
      clear HB
      have HO_613000 := n0_
      have HO_613001 := n1_
      have HO617 := n2_
      have HO620 := n3_
      have BK596 := n4_
      have BK612 := n5_
      have HB := n6_
      clear n0_ n1_ n2_ n3_ n4_ n5_ n6_
      (try clear hb)
      (try clear hb2)
      (try clear hk)
      (try clear hi)
      (try clear ho0)
      (try clear ho1)
      obtain ⟨Ao35, co35, eo35⟩ := Kd.R_slice HO617.out
      (first | subst eo35 | (injection eo35 with f1_ f2_ f3_; have f4_ := f1_.symm; have f5_ := f3_.symm; clear f1_ f2_ f3_; subst f4_; subst f5_))
      obtain ⟨Ao36, co36, eo36⟩ := Kd.R_slice HO620.out
      (first | subst eo36 | (injection eo36 with f1_ f2_ f3_; have f4_ := f1_.symm; have f5_ := f3_.symm; clear f1_ f2_ f3_; subst f4_; subst f5_))
      refine hK.out _ _ ⟨(blk_cell BK612.out 0).trans rfl, (blk_cell BK612.out 1).trans rfl, (blk_cell BK596.out 0).trans rfl, (blk_cell BK596.out 1).trans rfl⟩ (fun hHeld => ?_)
      clear hK K
      refine norm_ (a' := ?_) ?_ ?_
      rotate_left
      ·show Act.put _ (some 37) _ = _
       simp only [Act.put, List.setIfInBounds_toArray, List.set_cons_zero, List.set_cons_succ, i64_w, i32_w]
       rfl
      refine one_ (i := 3) (N := some 38) #[true, true, true, true, false] rfl rfl (by kernel_rfl) (by decide) (fun K hK => ?_)
      refine goes_ Try.func19 (by kernel_rfl) rfl #[.agg #[.slice Ao23 t606.length co23, .slice Ao26 t609.length co26], .agg #[.slice Ao35 t615.length co35, .slice Ao36 t618.length co36]] (by rfl) rfl rfl (by (try simp only [List.map_toArray, List.map_cons, List.map_nil]); first | done | rfl | (simp only [List.length_drop, List.length_take]; rfl)) ?_
      with_reducible refine (laws_eqEnding.calls kj10 _ _ t606 _ _ t609 _ _ t615 _ _ t618 true _ ?side1 ?side2 ?side3 ?side4 ?side5 ?side6 ?side7 ?side8 A31.out).mono ?_
      (case side1 => exact (Kd.R_reads' HO_613000.out).2.2)
      (case side2 => exact (Kd.R_reads' HO_613000.out).2.1)
      (case side3 => exact (Kd.R_reads' HO_613001.out).2.2)
      (case side4 => exact (Kd.R_reads' HO_613001.out).2.1)
      (case side5 => exact (Kd.R_reads' HO617.out).2.2)
      (case side6 => exact (Kd.R_reads' HO617.out).2.1)
      (case side7 => exact (Kd.R_reads' HO620.out).2.2)
      (case side8 => exact (Kd.R_reads' HO620.out).2.1)
      rintro e w37 ⟨rfl, hb⟩
      refine ⟨_, rfl, ?_⟩
      have n0_ := Aside0.mk (Kd.R_below HO_613000.out hb)
      have n1_ := Aside0.mk (Kd.R_below HO_613001.out hb)
      have n2_ := Aside0.mk (Kd.R_below HO617.out hb)
      have n3_ := Aside0.mk (Kd.R_below HO620.out hb)
      have n4_ := Aside0.mk (blk_below (g := gb596) (o := .cells #[.slice A0_0 l0_0.length c0_0, .slice A0_1 l0_1.length c0_1] 24 (0, 0)) BK596.out hb)
      have n5_ := Aside0.mk (blk_below (g := gb612) (o := .cells #[.slice Ao23 t606.length co23, .slice Ao26 t609.length co26] 27 (0, 0)) BK612.out hb)
      have n6_ := Aside0.mk (below_step HB.out hb)
      clear HO_613000
      clear HO_613001
      clear HO617
      clear HO620
      clear BK596
      clear BK612
      clear HB
      have HO_613000 := n0_
      have HO_613001 := n1_
      have HO617 := n2_
      have HO620 := n3_
      have BK596 := n4_
      have BK612 := n5_
      have HB := n6_
      clear n0_ n1_ n2_ n3_ n4_ n5_ n6_
      (try clear hb)
      (try clear hb2)
      (try clear hk)
      (try clear hi)
      refine hK.out _ _ ⟨(blk_cell BK612.out 0).trans rfl, (blk_cell BK612.out 1).trans rfl, (blk_cell BK596.out 0).trans rfl, (blk_cell BK596.out 1).trans rfl⟩ (fun hHeld => ?_)
      clear hK K
      refine norm_ (a' := ?_) ?_ ?_
      rotate_left
      ·show Act.put _ (some 38) _ = _
       simp only [Act.put, List.setIfInBounds_toArray, List.set_cons_zero, List.set_cons_succ, i64_w, i32_w]
       rfl
      refine pure_ (i := 4) (N := some 39) (v := ?_) (a' := ?_) #[true, true, true, true, true] rfl rfl (by kernel_rfl) (fun _ _ _ h => h) (Or.inl ⟨by rfl, ?_⟩) ?_ ?_
      rotate_left
      ·intro w'
       go_simp
       with_reducible rfl
      rotate_left
      ·simp only [Act.put, List.setIfInBounds_toArray, List.set_cons_zero, List.set_cons_succ, i64_w, i32_w]
       rfl
      refine done_ (by kernel_rfl) ?_
      try go_wp2
      go_ret
      exact ⟨rfl, by repeat (first | (with_reducible first | exact HB.out | apply below_alloc | apply pw_below_drewN | apply below_drew1 | refine below_set ?_ GE596.out | refine below_set ?_ GE612.out) | exact HB.out)⟩
     ·replace c32 := Bool.eq_false_iff.mpr c32
      subst c32
      have H1 : (some false) = some r := by rw [if_neg (show ¬ (false = true) by decide)] at H; exact H
      clear H
      have H := H1
      clear H1
      obtain rfl := Option.some.inj H
      try go_wp2
      have n0_ := Aside0.mk (Kd.R_drew HO_613000.out)
      have n1_ := Aside0.mk (Kd.R_drew HO_613001.out)
      have n2_ := Aside0.mk (blk_drew BK596.out)
      have n3_ := Aside0.mk (blk_drew BK612.out)
      have n4_ := Aside0.mk (below_drew1 HB.out)
      clear HO_613000
      clear HO_613001
      clear BK596
      clear BK612
      clear HB
      have HO_613000 := n0_
      have HO_613001 := n1_
      have BK596 := n2_
      have BK612 := n3_
      have HB := n4_
      clear n0_ n1_ n2_ n3_ n4_
      refine start_ (n := 5) (S := fun w' => w'.cell? ⟨gb612, 0, none⟩ = some (.slice Ao23 t606.length co23) ∧ w'.cell? ⟨gb612, 1, none⟩ = some (.slice Ao26 t609.length co26) ∧ w'.cell? ⟨gb596, 0, none⟩ = some (.slice A0_0 l0_0.length c0_0) ∧ w'.cell? ⟨gb596, 1, none⟩ = some (.slice A0_1 l0_1.length c0_1)) (ds := []) #[false, false, false, false, false] (by kernel_rfl) rfl rfl ⟨(blk_cell BK612.out 0).trans rfl, (blk_cell BK612.out 1).trans rfl, (blk_cell BK596.out 0).trans rfl, (blk_cell BK596.out 1).trans rfl⟩ (fun hHeld => ?_)
      generalize wc.drew = w38 at HO_613000 HO_613001 BK596 BK612 HB hHeld ⊢
      refine take_ (i := 0) (N := some 35) (v := ?_) (a' := ?_) #[true, false, false, false, false] rfl rfl (by kernel_rfl) (fun _ _ _ h => h) (Or.inl ⟨by rfl, ?_⟩) hHeld ?_ ?_
      rotate_left
      ·rintro w' ⟨s0, s1, s2, s3⟩
       go_simp
       with_reducible rfl
      rotate_left
      ·simp only [Act.put, List.setIfInBounds_toArray, List.set_cons_zero, List.set_cons_succ, i64_w, i32_w]
       rfl
      refine take_ (i := 1) (N := some 36) (v := ?_) (a' := ?_) #[true, true, false, false, false] rfl rfl (by kernel_rfl) (fun _ _ _ h => h) (Or.inl ⟨by rfl, ?_⟩) hHeld ?_ ?_
      rotate_left
      ·rintro w' ⟨s0, s1, s2, s3⟩
       go_simp
       with_reducible rfl
      rotate_left
      ·simp only [Act.put, List.setIfInBounds_toArray, List.set_cons_zero, List.set_cons_succ, i64_w, i32_w]
       rfl
      refine one_ (i := 2) (N := some 37) #[true, true, true, false, false] rfl rfl (by kernel_rfl) (by decide) (fun K hK => ?_)
      refine goes_ Try.func17 (by kernel_rfl) rfl #[.agg #[.slice A0_0 l0_0.length c0_0, .slice A0_1 l0_1.length c0_1]] (by rfl) rfl rfl (by (try simp only [List.map_toArray, List.map_cons, List.map_nil]); first | done | rfl | (simp only [List.length_drop, List.length_take]; rfl)) ?_
      with_reducible refine (laws_toEnding.calls kj10 _ _ l0_0 _ _ l0_1 t615 t618 _ ?side1 ?side2 ?side3 ?side4 A30.out).mono ?_
      (case side1 => exact (Kd.C_below HR0_0.out HB.out))
      (case side2 => exact HC0_0.out)
      (case side3 => exact (Kd.C_below HR0_1.out HB.out))
      (case side4 => exact HC0_1.out)
      rintro e w39 ⟨v616, v619, rfl, ho0, ho1, hb⟩
      refine ⟨_, rfl, ?_⟩
      have n0_ := Aside0.mk (Kd.R_mono (Kd.R_told (Kd.R_told (Kd.R_old HO_613000.out hb) (Kd.R_base ho0)) (Kd.R_base ho1)) (fun _ h_ => h_.1))
      have n1_ := Aside0.mk (Kd.R_mono (Kd.R_told (Kd.R_told (Kd.R_old HO_613001.out hb) (Kd.R_base ho0)) (Kd.R_base ho1)) (fun _ h_ => h_.1))
      have n2_ := Aside0.mk (Kd.R_lower (Kd.R_new' (Kd.R_new' ho0 (Kd.R_lt HO_613000.out)) (Kd.R_lt HO_613001.out)) (below_size HB.out))
      have n3_ := Aside0.mk (Kd.R_lower (Kd.R_new' (Kd.R_new' ho1 (Kd.R_lt HO_613000.out)) (Kd.R_lt HO_613001.out)) (below_size HB.out))
      have n4_ := Aside0.mk (blk_below (g := gb596) (o := .cells #[.slice A0_0 l0_0.length c0_0, .slice A0_1 l0_1.length c0_1] 24 (0, 0)) BK596.out hb)
      have n5_ := Aside0.mk (blk_below (g := gb612) (o := .cells #[.slice Ao23 t606.length co23, .slice Ao26 t609.length co26] 27 (0, 0)) BK612.out hb)
      have n6_ := Aside0.mk (below_step HB.out hb)
      clear HO_613000
      clear HO_613001
      clear BK596
      clear BK612
      clear HB
      have HO_613000 := n0_
      have HO_613001 := n1_
      have HO617 := n2_
      have HO620 := n3_
      have BK596 := n4_
      have BK612 := n5_
      have HB := n6_
      clear n0_ n1_ n2_ n3_ n4_ n5_ n6_
      (try clear hb)
      (try clear hb2)
      (try clear hk)
      (try clear hi)
      (try clear ho0)
      (try clear ho1)
      obtain ⟨Ao40, co40, eo40⟩ := Kd.R_slice HO617.out
      (first | subst eo40 | (injection eo40 with f1_ f2_ f3_; have f4_ := f1_.symm; have f5_ := f3_.symm; clear f1_ f2_ f3_; subst f4_; subst f5_))
      obtain ⟨Ao41, co41, eo41⟩ := Kd.R_slice HO620.out
      (first | subst eo41 | (injection eo41 with f1_ f2_ f3_; have f4_ := f1_.symm; have f5_ := f3_.symm; clear f1_ f2_ f3_; subst f4_; subst f5_))
      refine hK.out _ _ ⟨(blk_cell BK612.out 0).trans rfl, (blk_cell BK612.out 1).trans rfl, (blk_cell BK596.out 0).trans rfl, (blk_cell BK596.out 1).trans rfl⟩ (fun hHeld => ?_)
      clear hK K
      refine norm_ (a' := ?_) ?_ ?_
      rotate_left
      ·show Act.put _ (some 37) _ = _
       simp only [Act.put, List.setIfInBounds_toArray, List.set_cons_zero, List.set_cons_succ, i64_w, i32_w]
       rfl
      refine one_ (i := 3) (N := some 38) #[true, true, true, true, false] rfl rfl (by kernel_rfl) (by decide) (fun K hK => ?_)
      refine goes_ Try.func19 (by kernel_rfl) rfl #[.agg #[.slice Ao23 t606.length co23, .slice Ao26 t609.length co26], .agg #[.slice Ao40 t615.length co40, .slice Ao41 t618.length co41]] (by rfl) rfl rfl (by (try simp only [List.map_toArray, List.map_cons, List.map_nil]); first | done | rfl | (simp only [List.length_drop, List.length_take]; rfl)) ?_
      with_reducible refine (laws_eqEnding.calls kj10 _ _ t606 _ _ t609 _ _ t615 _ _ t618 false _ ?side1 ?side2 ?side3 ?side4 ?side5 ?side6 ?side7 ?side8 A31.out).mono ?_
      (case side1 => exact (Kd.R_reads' HO_613000.out).2.2)
      (case side2 => exact (Kd.R_reads' HO_613000.out).2.1)
      (case side3 => exact (Kd.R_reads' HO_613001.out).2.2)
      (case side4 => exact (Kd.R_reads' HO_613001.out).2.1)
      (case side5 => exact (Kd.R_reads' HO617.out).2.2)
      (case side6 => exact (Kd.R_reads' HO617.out).2.1)
      (case side7 => exact (Kd.R_reads' HO620.out).2.2)
      (case side8 => exact (Kd.R_reads' HO620.out).2.1)
      rintro e w42 ⟨rfl, hb⟩
      refine ⟨_, rfl, ?_⟩
      have n0_ := Aside0.mk (Kd.R_below HO_613000.out hb)
      have n1_ := Aside0.mk (Kd.R_below HO_613001.out hb)
      have n2_ := Aside0.mk (Kd.R_below HO617.out hb)
      have n3_ := Aside0.mk (Kd.R_below HO620.out hb)
      have n4_ := Aside0.mk (blk_below (g := gb596) (o := .cells #[.slice A0_0 l0_0.length c0_0, .slice A0_1 l0_1.length c0_1] 24 (0, 0)) BK596.out hb)
      have n5_ := Aside0.mk (blk_below (g := gb612) (o := .cells #[.slice Ao23 t606.length co23, .slice Ao26 t609.length co26] 27 (0, 0)) BK612.out hb)
      have n6_ := Aside0.mk (below_step HB.out hb)
      clear HO_613000
      clear HO_613001
      clear HO617
      clear HO620
      clear BK596
      clear BK612
      clear HB
      have HO_613000 := n0_
      have HO_613001 := n1_
      have HO617 := n2_
      have HO620 := n3_
      have BK596 := n4_
      have BK612 := n5_
      have HB := n6_
      clear n0_ n1_ n2_ n3_ n4_ n5_ n6_
      (try clear hb)
      (try clear hb2)
      (try clear hk)
      (try clear hi)
      refine hK.out _ _ ⟨(blk_cell BK612.out 0).trans rfl, (blk_cell BK612.out 1).trans rfl, (blk_cell BK596.out 0).trans rfl, (blk_cell BK596.out 1).trans rfl⟩ (fun hHeld => ?_)
      clear hK K
      refine norm_ (a' := ?_) ?_ ?_
      rotate_left
      ·show Act.put _ (some 38) _ = _
       simp only [Act.put, List.setIfInBounds_toArray, List.set_cons_zero, List.set_cons_succ, i64_w, i32_w]
       rfl
      refine pure_ (i := 4) (N := some 39) (v := ?_) (a' := ?_) #[true, true, true, true, true] rfl rfl (by kernel_rfl) (fun _ _ _ h => h) (Or.inl ⟨by rfl, ?_⟩) ?_ ?_
      rotate_left
      ·intro w'
       go_simp
       with_reducible rfl
      rotate_left
      ·simp only [Act.put, List.setIfInBounds_toArray, List.set_cons_zero, List.set_cons_succ, i64_w, i32_w]
       rfl
      refine done_ (by kernel_rfl) ?_
      try go_wp2
      go_ret
      exact ⟨rfl, by repeat (first | (with_reducible first | exact HB.out | apply below_alloc | apply pw_below_drewN | apply below_drew1 | refine below_set ?_ GE596.out | refine below_set ?_ GE612.out) | exact HB.out)⟩

end Go.Proofs.Ytkbjoiebaphdoaa.PX

/- The reference's value of an ending: as the program's (condition: lists that fit). -/
namespace Go.Proofs.Ytkbjoiebaphdoaa.PX
open Go.RowKit Go.Proofs.YtkbjoiebaphdoaaW.PrintWords Go.Proofs.YtkbjoiebaphdoaaW.PrintLast Go.Proofs.YtkbjoiebaphdoaaW.PrintMore
attribute [local go_sem] max2_int min2_int max_two min_two max_three min_three max_four min_four
set_option linter.unusedVariables false
set_option linter.unusedSimpArgs false
theorem specEnd_ev (a b : List Int) (ha : a.length ≤ 1048576) (hb : b.length ≤ 1048576) : Ev (fun k => spec_EndingValue.f k a b) (endVal a b) := by
  unfold spec_EndingValue.f endVal
  refine Ev.bind (l04Is_ev a b ha hb) ?_
  cases hE : isEnd a b with
  | false => exact Ev.congr (f := fun _ => some (0, 1)) (fun k => rfl) (Ev.now _)
  | true =>
    have hO := isEnd_ok hE
    refine Ev.congr (f := fun _ => some (val a b, 0)) (fun k => ?_) (Ev.now _)
    rw [if_pos rfl]
    unfold spec_l04Value.f
    rw [fV_of hO.1 hO.2.1 hO.2.2]
    rfl
theorem implEnd_ev (a b : List Int) (ha : a.length ≤ 1048576) (hb : b.length ≤ 1048576) : Ev (fun k => impl_EndingValue.f k a b) (endVal a b) :=
  Ev.congr (f := fun _ => some (endVal a b)) (fun k => if_pos ⟨ha, hb⟩) (Ev.now _)

end Go.Proofs.Ytkbjoiebaphdoaa.PX

/- EndingValue: both sides answer alike (condition: sizes that fit). -/
namespace Go.Proofs.Ytkbjoiebaphdoaa.Pure
open Go.RowKit Go.Proofs.Ytkbjoiebaphdoaa.PX Go.Proofs.YtkbjoiebaphdoaaW.PrintWords Go.Proofs.YtkbjoiebaphdoaaW.PrintLast Go.Proofs.YtkbjoiebaphdoaaW.PrintMore
set_option linter.unusedSimpArgs false
set_option linter.unusedVariables false

theorem FnExactEndingValue : ∀ (l0_0 : List Int) (l0_1 : List Int), (l0_0.length ≤ 9223372036854775807 ∧ ∀ x0 ∈ l0_0, (Lit.int .i64 x0).wf = true) → (l0_1.length ≤ 9223372036854775807 ∧ ∀ x0 ∈ l0_1, (Lit.int .i64 x0).wf = true) → ∃ k, laws_FnExactEndingValue.f k l0_0 l0_1 = some true := by
  intro a b ha hb
  obtain ⟨t, hs, ht⟩ := szE_eq a b ha.1 hb.1
  refine Ev.rounds (r := true) ?_
  unfold laws_FnExactEndingValue.f
  rw [hs]
  rcases ht with ht | ⟨h0, h1⟩
  · exact Ev.congr (f := fun _ => some true) (fun k => by rw [Option.bind_some, if_pos ht]) (Ev.now true)
  · have hT := toE_ev a b h1
    refine Ev.congr (fun k => by rw [Option.bind_some, if_neg (by omega)]) (Ev.bind hT ?_)
    refine Ev.bind (specEnd_ev a b (by omega) (by omega)) ?_
    refine Ev.bind hT ?_
    refine Ev.bind (implEnd_ev a b (by omega) (by omega)) ?_
    refine Ev.congr (fun k => by rw [if_pos rfl, bne_self_eq_false]) ?_
    refine Ev.step (f := fun k => (laws_toEnding.f k a b).bind fun bt => (laws_eqEnding.f k a b bt.1 bt.2).bind fun t => if t = true then some true else some false) (fun k => ?_) ?_
    · simp only [laws_FnExactEndingValue.j0]
      rw [if_neg (by decide)]
    · refine Ev.bind hT (Ev.bind (eqE_ev a b h1) ?_)
      exact Ev.congr (f := fun _ => some true) (fun k => by rw [if_pos rfl]) (Ev.now true)

end Go.Proofs.Ytkbjoiebaphdoaa.Pure

/- The row of FnExactEndingValue, out of its plain law (no condition). -/
namespace Go.Proofs.Ytkbjoiebaphdoaa.fnExactEndingValue
open Go.ChangeShapes Go.WideShapes Go.ChangeAt Go.RowKit
open Go.ChangeMaps (open_string shut_string)
set_option linter.unusedVariables false
theorem own : ownKnob Try.prog.godebug = none := by kernel_rfl
theorem laid : laidOutB Try.prog = true := by kernel_rfl
set_option maxRecDepth 100000 in
theorem lifted (os : Os) (started : os.Started) (H : Type) (enc : TypeId × Value → H) :
    ReturnsInHanded {} Try.checked os 8 .any (Rows.fnExactEndingValueSpec.pre6 enc Try.prog Try.f8 Rows.fnExactEndingValueRow.domain false) (Rows.fnExactEndingValueSpec.post enc Try.prog Try.f8 false true false false) := by
  refine returnsInHanded_of_change_sized (C := Try.checked) own started (by kernel_rfl) Try.func8
    (ChangeSpec.witness6 (enc := enc) (C := Try.checked) false ⟨#[], #[.agg #[.slice none 0 0, .slice none 0 0]], []⟩ 8 (by kernel_rfl) (by kernel_rfl) (by kernel_rfl) (by kernel_rfl)) ?_
  intro W base args ds gs before hval0 hW hcnd hsz0 _
  have hsz : (DataW.weightsEach Try.prog (Try.f8.params.toList ++ Rows.fnExactEndingValueSpec.plain.varTypes Try.prog) (ds ++ gs)).all (· ≤ reachBytes) = true := hsz0
  have hval : ∀ (j : Nat) t v, Try.f8.params[j]? = some t → args[j]? = some v → Value.okWide Try.prog W .any base t v := hval0
  have hW' := hW
  obtain ⟨p, q, hA0, hV, rfl, hfz, hnd⟩ := hW
  have hA : DataW.TrodAll enc Try.prog W 0 (fun _ => true) true Try.f8.params.toList args.toList ds p := hA0
  rw [Try.params8] at hA hval hsz
  obtain ⟨v0, vs0, d0, ds0, p0, q0, hargs, rfl, rfl, h0, r0⟩ := trodAll_cons hA
  obtain ⟨rfl, rfl, rfl⟩ := trodAll_nil r0
  obtain rfl : args = #[v0] := by cases args; simp_all
  obtain ⟨rfl, rfl⟩ := trodVars_none hV
  have hk0 := h0
  have hlt0 : ∀ x ∈ p0, x.block < W.heap.size := fun x hx => hW'.lt x (by simp [hx])
  obtain ⟨c0_0, c0_1, y0_0, y0_1, m0, rfl, rfl, rfl, g0_0, g0_1⟩ := Go.Joins.open_agg2 Try.underlying24 (by kernel_rfl) (by kernel_rfl) (hval 0 24 v0 rfl rfl) h0
  obtain ⟨A0_0, n0_0, l0_0, rfl, hc0_0, hr0_0, w0_0⟩ := Go.Proofs.Ytkbjoiebaphdoaa.Opens.opened_slice Try.underlying22 (by kernel_rfl) (Go.Proofs.Ytkbjoiebaphdoaa.Opens.opens_int Try.underlying2) g0_0
  obtain ⟨A0_1, n0_1, l0_1, rfl, hc0_1, hr0_1, w0_1⟩ := Go.Proofs.Ytkbjoiebaphdoaa.Opens.opened_slice Try.underlying22 (by kernel_rfl) (Go.Proofs.Ytkbjoiebaphdoaa.Opens.opens_int Try.underlying2) g0_1
  clear hA0 hval0 hsz0 hsz
  obtain ⟨k, hk⟩ := Pure.FnExactEndingValue l0_0 l0_1 w0_0 w0_1
  refine (PX.laws_FnExactEndingValue.calls k _ _ l0_0 _ _ l0_1 true W hr0_0 hc0_0 hr0_1 hc0_1 hk).mono fun e W' ⟨he, bel0⟩ => ?_
  have bel : Below W.heap.size W W' := bel0
  subst he
  exact ⟨_, rfl, _, _, _, [], _, [], hW', trodAll_mk1 (shut_bool Try.underlying4 _), (trodAll_cons_mk (Below.trod laid (by kernel_rfl) (of_decide_eq_true (by kernel_rfl)) hk0 bel hlt0) trodAll_mk0), rfl, bel.frame _, fun h => by cases h⟩
theorem over : Rows.fnExactEndingValueRow.holds Try.pinned (OpenSpec.ofChange Rows.fnExactEndingValueSpec) :=
  OpenClaim.holds_of_wide 8 Try.f8 rfl rfl rfl rfl rfl rfl rfl ⟨rfl, rfl, rfl, rfl, rfl⟩ rfl rfl rfl rfl rfl (by kernel_rfl) Try.func8 (by kernel_rfl)
    (of_decide_eq_true (by kernel_rfl)) (by unfold Func.isWrapper; first | (rw [if_pos (by decide +kernel)]; kernel_rfl) | (rw [if_neg (by decide +kernel)]; exact ⟨rfl, rfl⟩))
    (fun os started H enc _ => lifted os started H enc)
theorem proved : Rows.FnExactEndingValueSaid := over
#print axioms proved
end Go.Proofs.Ytkbjoiebaphdoaa.fnExactEndingValue
namespace Go.Proofs.Ytkbjoiebaphdoaa
/-- The row, under a short name, for the claim. -/
theorem fnExactEndingValue_holds : Rows.FnExactEndingValueSaid := fnExactEndingValue.proved
end Go.Proofs.Ytkbjoiebaphdoaa
