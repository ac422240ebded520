/- Part 7 of the texts under the row of FnAnswers (no condition). -/
import Derived.Laws.EntriesVeiled
import Derived.Test.YtkbjoiebaphdoaaPk6FnAnswers
namespace Go.Proofs.Ytkbjoiebaphdoaa.PA
open Go.RowKit Go.Proofs.YtkbjoiebaphdoaaW.PrintWords Go.Proofs.YtkbjoiebaphdoaaW.PrintLast Go.Proofs.YtkbjoiebaphdoaaW.PrintMore
attribute [local go_sem] max2_int min2_int max_two min_two max_three min_three max_four min_four
set_option linter.unusedVariables false
set_option linter.unusedSimpArgs false
theorem MemAt.set {w : World} {b : Nat} {M : List (List Int × List Int)} (h : MemAt w b M) {p : Addr} (hne : b ≠ p.block) (v : Value) : MemAt (w.setCell p v) b M := ⟨World.ownsMap.setCell h.1 hne v, h.2⟩
section
variable {ops : Array Oper} {Q : Exit → Act → World → Prop} {oi : Oper} {a : Act} {w : World} {K : Act → World → Prop}
/-- A call of a function value, in a region whose order is drawn. -/
theorem goesVd_ (N : Option Tmp) (hd : oi.dst = N) (hw : Region.wanted oi (yielded ops a.tmps) = true) {t : Tmp} {os_ : Array Operand} {ts : Array TypeId} (f : FuncId) (cap : Array Value) (hf : HasFn f) (args : Array Value)
 (hop : oi.op = .call { callee := .value (.tmp t),args := os_,argTypes := ts }) (ht : a.eval (.tmp t) = .func (.func f) #[] cap) (hargs : os_.map a.eval = args)
 (h : Calls Try.prog f (args ++ cap) w fun e w' => ∃ v,e = .returned v ∧ K (a.put N v) w') : if Region.wanted oi (yielded ops a.tmps) = true then Oper.wp Try.prog oi a w K Q else K (a.put N undef) w := by
 obtain ⟨fn,hf,hname,hb⟩ := hf;have he := enters_ hf hname hb (args ++ cap) w;have hrun : (execOp a.eval oi).run Try.prog w = .ok (.enter f (args ++ cap)) w := by
  unfold execOp;simp only [hop,resolve,ht,hargs]
  simp [Deferred.ofValue,invoke,he]
 exact call_ f (args ++ cap) hw hd hrun h
end
set_option maxHeartbeats 16000000 in
set_option maxRecDepth 100000 in
theorem values.calls (w : World) : Calls Try.prog 76 #[] w fun e w' => ∃ bm b7 bf : Nat, e = .returned (.func (.func 104) #[] #[.pointer (some ⟨b7, 0, none⟩), .pointer (some ⟨bf, 0, none⟩)]) ∧ w.heap.size ≤ bm ∧ Known bm b7 bf 0 w' ∧ Below w.heap.size w w' := by
 have HB := aK (Below.refl w.heap.size w);go_enter Try.func76,Try.ntmps76
 go_wp2_with (first | ((with_reducible refine gate_dst (N := 3) rfl ?_);(try (refine gate_guard (by rfl) ?_;dsimp only));refine mem_event ?hg (N := 3) ?hd ?hr ?_;(case hd => rfl);(case hg => rfl);(case hr => first | (go_simp;done) | (go_simp;rfl));intro bm hgm w2 hs hb;have KM := aK hs;have GM := aK hgm;clear hs hgm;have n0_ := aK (below_step HB.out hb);replace HB := n0_;clear n0_ hb) | ((with_reducible refine gate_dst (N := 1) rfl ?_);(try (refine gate_guard (by rfl) ?_;dsimp only));refine boxE 1 #[.map none] 109 ?_;intro b7 hg w3 hbox hb;have G7 := aK hg;have B7 := aK hbox;have L7 := aK (show bm < b7 by rw [hg];exact MemAt.lt KM.out);have n0_ := aK (below_step HB.out hb);have n1_ := aK (MemAt.below KM.out hb (MemAt.lt KM.out));have P7 := aK (show w.heap.size ≤ b7 by rw [hg];exact HB.out.size);clear HB KM hg hbox hb;have HB := n0_;have KM := n1_;clear n0_ n1_;have hz7 : w3.cell? ⟨b7,0,none⟩ = some (.map none) := (blk_cell B7.out 0).trans rfl;have hf7 := blk_frozen B7.out 0) | ((with_reducible refine gate_dst (N := 2) rfl ?_);(try (refine gate_guard (by rfl) ?_;dsimp only));refine boxE 2 #[Value.nilFunc] 82 ?_;intro bf hg w5 hbox hb;have HBs : Below w.heap.size w (w3.setCell ⟨b7,0,none⟩ (.map (some bm))) := below_set HB.out P7.out;have KMs := MemAt.set KM.out (show bm ≠ (⟨b7,0,none⟩ : Addr).block from Nat.ne_of_lt L7.out) (.map (some bm));have B7s := blk_put (cs := #[.map none]) B7.out 0 (.map (some bm)) rfl;have LF := aK (show b7 < bf by rw [hg];exact blk_lt B7s);have LM := aK (show bm < bf by rw [hg];exact MemAt.lt KMs);have PF := aK (show w.heap.size ≤ bf by rw [hg];exact HBs.size);have n0_ := aK (below_step HBs hb);have n1_ := aK (MemAt.below KMs hb (MemAt.lt KMs));have n2_ := aK (blk_below (g := b7) B7s hb);have BF := aK hbox;clear HB KM B7 HBs KMs B7s hg hbox hb;have HB := n0_;have KM := n1_;have B7 := n2_;clear n0_ n1_ n2_;have hzf : w5.cell? ⟨bf,0,none⟩ = some (Value.nilFunc) := (blk_cell BF.out 0).trans rfl;have hff := blk_frozen BF.out 0))
 go_ret;refine ⟨bm,b7,bf,rfl,?_,⟨⟨[],Nat.le_refl _,?_⟩,?_,?_⟩,?_⟩
 ·rw [GM.out];exact Nat.le_refl _
 ·exact MemAt.set KM.out (show bm ≠ (⟨bf,0,none⟩ : Addr).block from Nat.ne_of_lt LM.out) _
 ·exact blk_far B7.out (Nat.ne_of_lt LF.out) _
 ·exact blk_put (cs := #[Value.nilFunc]) BF.out 0 _ rfl
 ·exact below_set HB.out PF.out
theorem RdE.came {w W : World} {bm c : Nat} {A : Option Addr} {xs : List Int} (h : Kd.C (Kd.int .i64) w A xs.length xs) (hc : xs.length ≤ c) (hb : Below w.heap.size w W) (hm : w.heap.size ≤ bm) : RdE W bm (.slice A xs.length c) xs :=
 Kd.V_mk hc (Kd.F_mono (Kd.F_below (Kd.C_F (Kd.heap_int .i64) h) hb) (fun k hk e => by subst e;omega))
theorem cost8 : 0 + costT 8 < 4294967296 := by decide
def endVal (C L : List Int) : Int × Int := if isEnd C L = true then (val C L, 0) else (0, 1)
def impl_EndingValue.f (_k : Nat) (C L : List Int) : Option (Int × Int) := if C.length ≤ 1048576 ∧ L.length ≤ 1048576 then some (endVal C L) else none
theorem impl_EndingValue.mono : ∀ a0 a1 k, LeO (impl_EndingValue.f k a0 a1) (impl_EndingValue.f (k + 1) a0 a1) := fun _ _ _ => LeO.refl _
set_option maxHeartbeats 16000000 in
set_option maxRecDepth 100000 in
theorem impl_EndingValue.calls (k : Nat) (A0 : Option Addr) (c0 : Nat) (C : List Int) (A1 : Option Addr) (c1 : Nat) (L : List Int) (r1 : Int) (r2 : Int) (w : World) (hr0 : Kd.C (Kd.int .i64) w A0 C.length C) (hc0 : C.length ≤ c0) (hr1 : Kd.C (Kd.int .i64) w A1 L.length L) (hc1 : L.length ≤ c1) (h : impl_EndingValue.f k C L = some (r1, r2)) :
 Calls Try.prog 31 #[.agg #[.slice A0 C.length c0,.slice A1 L.length c1]] w fun e w' => e = .returned (.tuple #[.int .i64 r1,.int .i64 r2]) ∧ Below w.heap.size w w' := by
 have hu27 := Try.underlying27;have HR0 := aK hr0;have HC0 := aK hc0;have HR1 := aK hr1;have HC1 := aK hc1;have HB := aK (Below.refl w.heap.size w);clear hr0 hc0 hr1 hc1;unfold impl_EndingValue.f at h
 split at h
 rotate_left
 ·cases h
 rename_i hsz;obtain ⟨ki,hki⟩ := Ev.rounds (IsEnding_ev C L hsz.1 hsz.2);have HIE := aK hki;unfold endVal at h;clear hsz hki
 cases hE : isEnd C L with
 | false =>
  rw [hE] at h HIE;rw [if_neg Bool.false_ne_true] at h;simp only [Option.some.injEq,Prod.mk.injEq] at h;obtain ⟨rfl,rfl⟩ := h;clear hE;go_enter Try.func31,Try.ntmps31
  go_wp2_with (first | ((with_reducible refine gate_dst (N := 1) rfl ?_);(try (refine gate_guard (by rfl) ?_;dsimp only));refine boxE 1 #[.slice A0 C.length c0,.slice A1 L.length c1] 27 ?_;intro gbx hg w2 hbox hb;have BX := aK hbox;clear hg hbox;replace HB := aK (below_step HB.out hb);clear hb;have hz_gbx_0 := y0 BX;have hf_gbx_0 := blk_frozen BX.out 0;have hz_gbx_1 := y1 BX;have hf_gbx_1 := blk_frozen BX.out 1) | ((with_reducible refine gate_dst (N := 5) rfl ?_);(try (refine gate_guard (by rfl) ?_;dsimp only));refine goesE (some 5) Try.func18 #[.agg #[.slice A0 C.length c0,.slice A1 L.length c1]] ?_;(with_reducible refine (impl_IsEnding.calls ki A0 c0 C A1 c1 L false _ ?side1 HC0.out ?side2 HC1.out HIE.out).mono ?_);(case side1 => exact Kd.C_below HR0.out HB.out);(case side2 => exact Kd.C_below HR1.out HB.out);rintro e w3 ⟨rfl,hb⟩;refine ⟨_,rfl,?_⟩;replace BX := aK (blk_below (g := gbx) (o := .cells #[.slice A0 C.length c0,.slice A1 L.length c1] 27 (0,0)) BX.out hb);replace HB := aK (below_step HB.out hb);clear hb;replace hz_gbx_0 := y0 BX;replace hf_gbx_0 := blk_frozen BX.out 0;replace hz_gbx_1 := y1 BX;replace hf_gbx_1 := blk_frozen BX.out 1))
  go_ret2;exact ⟨rfl,HB.out⟩
 | true =>
  have HO := aK (isEnd_ok hE);rw [hE] at h HIE;rw [if_pos rfl] at h;simp only [Option.some.injEq,Prod.mk.injEq] at h;obtain ⟨rfl,rfl⟩ := h;clear hE;go_enter Try.func31,Try.ntmps31
  go_wp2_with (first | ((with_reducible refine gate_dst (N := 1) rfl ?_);(try (refine gate_guard (by rfl) ?_;dsimp only));refine boxE 1 #[.slice A0 C.length c0,.slice A1 L.length c1] 27 ?_;intro gbx hg w2 hbox hb;have BX := aK hbox;clear hg hbox;replace HB := aK (below_step HB.out hb);clear hb;have hz_gbx_0 := y0 BX;have hf_gbx_0 := blk_frozen BX.out 0;have hz_gbx_1 := y1 BX;have hf_gbx_1 := blk_frozen BX.out 1) | ((with_reducible refine gate_dst (N := 5) rfl ?_);(try (refine gate_guard (by rfl) ?_;dsimp only));refine goesE (some 5) Try.func18 #[.agg #[.slice A0 C.length c0,.slice A1 L.length c1]] ?_;(with_reducible refine (impl_IsEnding.calls ki A0 c0 C A1 c1 L true _ ?side1 HC0.out ?side2 HC1.out HIE.out).mono ?_);(case side1 => exact Kd.C_below HR0.out HB.out);(case side2 => exact Kd.C_below HR1.out HB.out);rintro e w3 ⟨rfl,hb⟩;refine ⟨_,rfl,?_⟩;replace BX := aK (blk_below (g := gbx) (o := .cells #[.slice A0 C.length c0,.slice A1 L.length c1] 27 (0,0)) BX.out hb);replace HB := aK (below_step HB.out hb);clear hb;replace hz_gbx_0 := y0 BX;replace hf_gbx_0 := blk_frozen BX.out 0;replace hz_gbx_1 := y1 BX;replace hf_gbx_1 := blk_frozen BX.out 1))
  refine start_ (n := 5) (S := fun w' => w'.cell? ⟨gbx,0,none⟩ = some (.slice A0 C.length c0) ∧ w'.cell? ⟨gbx,1,none⟩ = some (.slice A1 L.length c1)) (ds := []) #[false,false,false,false,false] (by kernel_rfl) rfl rfl ⟨(blk_cell BX.out 0).trans rfl,(blk_cell BX.out 1).trans rfl⟩ (fun hHeld => ?_);have n0_ := aK (blk_drew BX.out);have n1_ := aK (below_drew1 HB.out);clear BX HB;have BX := n0_;have HB := n1_;clear n0_ n1_
  generalize w3.drew = w4 at BX HB hHeld ⊢
  refine take_ (i := 1) (N := some 8) (v := ?_) (a' := ?_) #[false,true,false,false,false] rfl rfl (by kernel_rfl) (fun _ _ _ h => h) (Or.inl ⟨by rfl,?_⟩) hHeld ?_ ?_;rotate_left
  ·rintro w' ⟨s0_,s1_⟩
   go_simp
   with_reducible rfl
  rotate_left
  ·simp only [putAll,Act.put,List.setIfInBounds_toArray,List.set_cons_zero,List.set_cons_succ,i64_w,i32_w]
   rfl
  refine one_ (i := 0) (N := some 7) #[true,true,false,false,false] rfl rfl (by kernel_rfl) (by decide) (fun K hK => ?_);refine goes_ Try.func76 (by kernel_rfl) rfl #[] (by rfl) rfl rfl (by (try simp only [List.map_toArray,List.map_cons,List.map_nil]);first | done | rfl) ?_
  (with_reducible refine (values.calls _).mono ?_)
  rintro e w5 ⟨bm,b7,bf,rfl,hbm,hkn,hb⟩;refine ⟨_,rfl,?_⟩;have HBM := aK (Nat.le_trans HB.out.size hbm);have KN := aK hkn;clear hbm hkn;have n0_ := aK (blk_below (g := gbx) (o := .cells #[.slice A0 C.length c0,.slice A1 L.length c1] 27 (0,0)) BX.out hb);have n1_ := aK (below_step HB.out hb);clear BX HB;have BX := n0_;have HB := n1_;clear n0_ n1_;clear hb;refine hK.out _ _ ⟨(blk_cell BX.out 0).trans rfl,(blk_cell BX.out 1).trans rfl⟩ (fun hHeld => ?_);clear hK K;refine norm_ (a' := ?_) ?_ ?_;rotate_left
  ·show Act.put _ (some 7) _ = _;simp only [putAll,Act.put,List.setIfInBounds_toArray,List.set_cons_zero,List.set_cons_succ,i64_w,i32_w]
   rfl
  refine one_ (i := 2) (N := some 9) #[true,true,true,false,false] rfl rfl (by kernel_rfl) (by decide) (fun K hK => ?_);refine goesVd_ (some 9) rfl (by rfl) 104 #[.pointer (some ⟨b7,0,none⟩),.pointer (some ⟨bf,0,none⟩)] find_has #[.agg #[.slice A0 C.length c0,.slice A1 L.length c1]] rfl rfl (by (try simp only [List.map_toArray,List.map_cons,List.map_nil]);first | done | rfl) ?_;refine (find_ok 8 (Nat.le_refl _) bm b7 bf C L _ _ 0 _ HO.out.1 HO.out.2.1 HO.out.2.2 (RdE.came HR0.out HC0.out HB.out HBM.out) (RdE.came HR1.out HC1.out HB.out HBM.out) KN.out cost8).mono ?_;rintro e w6 ⟨rfl,hkn2,hg⟩;refine ⟨_,rfl,?_⟩;have n0_ := aK (blk_grown (g := gbx) (o := .cells #[.slice A0 C.length c0,.slice A1 L.length c1] 27 (0,0)) BX.out hg (Known.ne KN.out BX.out));have n1_ := aK (Below.grown HB.out hg HB.out.size (fun k hk => by cases hk;exact HBM.out));clear BX HB;have BX := n0_;have HB := n1_;clear n0_ n1_;clear hg hkn2;refine hK.out _ _ ⟨(blk_cell BX.out 0).trans rfl,(blk_cell BX.out 1).trans rfl⟩ (fun hHeld => ?_);clear hK K;refine norm_ (a' := ?_) ?_ ?_;rotate_left
  ·show Act.put _ (some 9) _ = _;simp only [putAll,Act.put,List.setIfInBounds_toArray,List.set_cons_zero,List.set_cons_succ,i64_w,i32_w]
   rfl
  refine pure_ (i := 3) (N := some 2) (v := ?_) (a' := ?_) #[true,true,true,true,false] rfl rfl (by kernel_rfl) (fun _ _ _ h => h) (Or.inl ⟨by rfl,?_⟩) ?_ ?_;rotate_left
  ·intro w'
   go_simp
   with_reducible rfl
  rotate_left
  ·simp only [putAll,Act.put,List.setIfInBounds_toArray,List.set_cons_zero,List.set_cons_succ,i64_w,i32_w]
   rfl
  refine pure_ (i := 4) (N := some 3) (v := ?_) (a' := ?_) #[true,true,true,true,true] rfl rfl (by kernel_rfl) (fun _ _ _ h => h) (Or.inl ⟨by rfl,?_⟩) ?_ ?_;rotate_left
  ·intro w'
   go_simp
   with_reducible rfl
  rotate_left
  ·simp only [putAll,Act.put,List.setIfInBounds_toArray,List.set_cons_zero,List.set_cons_succ,i64_w,i32_w]
   rfl
  refine done_ (by kernel_rfl) ?_
  try go_wp2
  go_ret2;exact ⟨rfl,HB.out⟩
def ansVal (C L : List Int) (o : Bool × Int) : Bool × Int := if isEnd C L = true then (if isIn C L o = true then ((worth C L o).2, 0) else (false, 5)) else (false, 1)
def impl_BestAnswer.f (_k : Nat) (C L : List Int) (ol : Bool) (ob : Int) : Option (Bool × Int) := if C.length ≤ 1048576 ∧ L.length ≤ 1048576 ∧ C.length + L.length ≤ 1048576 then some (ansVal C L (ol, ob)) else none
theorem impl_BestAnswer.mono : ∀ a0 a1 a2 a3 k, LeO (impl_BestAnswer.f k a0 a1 a2 a3) (impl_BestAnswer.f (k + 1) a0 a1 a2 a3) := fun _ _ _ _ _ => LeO.refl _
set_option maxHeartbeats 16000000 in
set_option maxRecDepth 100000 in
theorem impl_BestAnswer.calls (k : Nat) (A0 : Option Addr) (c0 : Nat) (C : List Int) (A1 : Option Addr) (c1 : Nat) (L : List Int) (ol : Bool) (ob : Int) (r1 : Bool) (r2 : Int) (w : World) (hr0 : Kd.C (Kd.int .i64) w A0 C.length C) (hc0 : C.length ≤ c0) (hr1 : Kd.C (Kd.int .i64) w A1 L.length L) (hc1 : L.length ≤ c1) (h : impl_BestAnswer.f k C L ol ob = some (r1, r2)) :
 Calls Try.prog 35 #[.agg #[.slice A0 C.length c0,.slice A1 L.length c1],.bool ol,.int .i64 ob] w fun e w' => e = .returned (.tuple #[.bool r1,.int .i64 r2]) ∧ Below w.heap.size w w' := by
 have hu27 := Try.underlying27;have hu75 := Try.underlying75;have HR0 := aK hr0;have HC0 := aK hc0;have HR1 := aK hr1;have HC1 := aK hc1;have HB := aK (Below.refl w.heap.size w);clear hr0 hc0 hr1 hc1;unfold impl_BestAnswer.f at h
 split at h
 rotate_left
 ·cases h
 rename_i hsz;obtain ⟨kc,hkc⟩ := Ev.rounds (code_ev C L (ol,ob) hsz.1 hsz.2.1);have HCO := aK hkc;clear hsz hkc;unfold ansVal at h;unfold codeOf at HCO
 cases hE : isEnd C L with
 | false =>
  rw [hE] at h HCO;rw [if_neg Bool.false_ne_true] at h HCO;simp only [Option.some.injEq,Prod.mk.injEq] at h;obtain ⟨rfl,rfl⟩ := h;clear hE;go_enter Try.func35,Try.ntmps35
  go_wp2_with (first | ((with_reducible refine gate_dst (N := 3) rfl ?_);(try (refine gate_guard (by rfl) ?_;dsimp only));refine boxE 3 #[.slice A0 C.length c0,.slice A1 L.length c1] 27 ?_;intro gbx hg w2 hbox hb;have BX := aK hbox;clear hg hbox;replace HB := aK (below_step HB.out hb);clear hb;have hz_gbx_0 := y0 BX;have hf_gbx_0 := blk_frozen BX.out 0;have hz_gbx_1 := y1 BX;have hf_gbx_1 := blk_frozen BX.out 1) | ((with_reducible refine gate_dst (N := 8) rfl ?_);(try (refine gate_guard (by rfl) ?_;dsimp only));refine boxE 8 #[.bool false,.int .i64 0] 75 ?_;intro gbo hg w3 hbox hb;have HBB := aK hb;have HGO := aK hg;have BX2 := aK (blk_below (g := gbx) (o := .cells #[.slice A0 C.length c0,.slice A1 L.length c1] 27 (0,0)) BX.out hb);have BO2 := aK hbox;have ne1 : gbx ≠ gbo := (by rw [hg];exact Nat.ne_of_lt (blk_lt BX.out));have ne2 : gbo ≠ gbx := Ne.symm ne1;clear hb hg hbox;replace hz_gbx_0 := y0 BX2;replace hf_gbx_0 := blk_frozen BX2.out 0;replace hz_gbx_1 := y1 BX2;replace hf_gbx_1 := blk_frozen BX2.out 1;have hz_gbo_0 := y0 BO2;have hf_gbo_0 := blk_frozen BO2.out 0;have hz_gbo_1 := y1 BO2;have hf_gbo_1 := blk_frozen BO2.out 1) | ((with_reducible refine gate_dst (N := 17) rfl ?_);(try (refine gate_guard (by rfl) ?_;dsimp only));refine goesE (some 17) Try.func73 #[.agg #[.slice A0 C.length c0,.slice A1 L.length c1],.agg #[.bool ol,.int .i64 ob]] ?_;have hBs : Below w.heap.size w ((w3.setCell ⟨gbo,0,none⟩ (.bool ol)).setCell ⟨gbo,1,none⟩ (.int .i64 ob)) := below_set (below_set (below_step HB.out HBB.out) (by rw [HGO.out];exact HB.out.size)) (by rw [HGO.out];exact HB.out.size);have hXs := blk_far (p := ⟨gbo,1,none⟩) (blk_far (p := ⟨gbo,0,none⟩) BX2.out ne1 (.bool ol)) ne1 (.int .i64 ob);have hOs := blk_put (cs := #[.bool ol,.int .i64 0]) (blk_put (cs := #[.bool false,.int .i64 0]) BO2.out 0 (.bool ol) rfl) 1 (.int .i64 ob) rfl;(with_reducible refine (impl_openingCode.calls kc A0 c0 C A1 c1 L ol ob 1 _ ?side1 HC0.out ?side2 HC1.out HCO.out).mono ?_);(case side1 => exact Kd.C_below HR0.out hBs);(case side2 => exact Kd.C_below HR1.out hBs);rintro e w4 ⟨rfl,hb⟩;refine ⟨_,rfl,?_⟩;replace BX := aK (blk_below (g := gbx) (o := .cells #[.slice A0 C.length c0,.slice A1 L.length c1] 27 (0,0)) hXs hb);have BO := aK (blk_below (g := gbo) (o := .cells #[.bool ol,.int .i64 ob] 75 (0,0)) hOs hb);replace HB := aK (below_step hBs hb);clear BX2 BO2 HBB HGO hBs hXs hOs hb;(try clear hz_gbx_0 hz_gbx_1 hf_gbx_0 hf_gbx_1 hz_gbo_0 hz_gbo_1 hf_gbo_0 hf_gbo_1);have hz_gbx_0 := y0 BX;have hf_gbx_0 := blk_frozen BX.out 0;have hz_gbx_1 := y1 BX;have hf_gbx_1 := blk_frozen BX.out 1;have hz_gbo_0 := y0 BO;have hf_gbo_0 := blk_frozen BO.out 0;have hz_gbo_1 := y1 BO;have hf_gbo_1 := blk_frozen BO.out 1))
  go_ret2;exact ⟨rfl,HB.out⟩
 | true =>
  have HO := aK (isEnd_ok hE);rw [hE] at h HCO;rw [if_pos rfl] at h HCO;clear hE
  cases hI : isIn C L (ol,ob) with
  | false =>
   rw [hI] at h HCO;rw [if_neg Bool.false_ne_true] at h HCO;simp only [Option.some.injEq,Prod.mk.injEq] at h;obtain ⟨rfl,rfl⟩ := h;clear hI;go_enter Try.func35,Try.ntmps35
   go_wp2_with (first | ((with_reducible refine gate_dst (N := 3) rfl ?_);(try (refine gate_guard (by rfl) ?_;dsimp only));refine boxE 3 #[.slice A0 C.length c0,.slice A1 L.length c1] 27 ?_;intro gbx hg w2 hbox hb;have BX := aK hbox;clear hg hbox;replace HB := aK (below_step HB.out hb);clear hb;have hz_gbx_0 := y0 BX;have hf_gbx_0 := blk_frozen BX.out 0;have hz_gbx_1 := y1 BX;have hf_gbx_1 := blk_frozen BX.out 1) | ((with_reducible refine gate_dst (N := 8) rfl ?_);(try (refine gate_guard (by rfl) ?_;dsimp only));refine boxE 8 #[.bool false,.int .i64 0] 75 ?_;intro gbo hg w3 hbox hb;have HBB := aK hb;have HGO := aK hg;have BX2 := aK (blk_below (g := gbx) (o := .cells #[.slice A0 C.length c0,.slice A1 L.length c1] 27 (0,0)) BX.out hb);have BO2 := aK hbox;have ne1 : gbx ≠ gbo := (by rw [hg];exact Nat.ne_of_lt (blk_lt BX.out));have ne2 : gbo ≠ gbx := Ne.symm ne1;clear hb hg hbox;replace hz_gbx_0 := y0 BX2;replace hf_gbx_0 := blk_frozen BX2.out 0;replace hz_gbx_1 := y1 BX2;replace hf_gbx_1 := blk_frozen BX2.out 1;have hz_gbo_0 := y0 BO2;have hf_gbo_0 := blk_frozen BO2.out 0;have hz_gbo_1 := y1 BO2;have hf_gbo_1 := blk_frozen BO2.out 1) | ((with_reducible refine gate_dst (N := 17) rfl ?_);(try (refine gate_guard (by rfl) ?_;dsimp only));refine goesE (some 17) Try.func73 #[.agg #[.slice A0 C.length c0,.slice A1 L.length c1],.agg #[.bool ol,.int .i64 ob]] ?_;have hBs : Below w.heap.size w ((w3.setCell ⟨gbo,0,none⟩ (.bool ol)).setCell ⟨gbo,1,none⟩ (.int .i64 ob)) := below_set (below_set (below_step HB.out HBB.out) (by rw [HGO.out];exact HB.out.size)) (by rw [HGO.out];exact HB.out.size);have hXs := blk_far (p := ⟨gbo,1,none⟩) (blk_far (p := ⟨gbo,0,none⟩) BX2.out ne1 (.bool ol)) ne1 (.int .i64 ob);have hOs := blk_put (cs := #[.bool ol,.int .i64 0]) (blk_put (cs := #[.bool false,.int .i64 0]) BO2.out 0 (.bool ol) rfl) 1 (.int .i64 ob) rfl;(with_reducible refine (impl_openingCode.calls kc A0 c0 C A1 c1 L ol ob 5 _ ?side1 HC0.out ?side2 HC1.out HCO.out).mono ?_);(case side1 => exact Kd.C_below HR0.out hBs);(case side2 => exact Kd.C_below HR1.out hBs);rintro e w4 ⟨rfl,hb⟩;refine ⟨_,rfl,?_⟩;replace BX := aK (blk_below (g := gbx) (o := .cells #[.slice A0 C.length c0,.slice A1 L.length c1] 27 (0,0)) hXs hb);have BO := aK (blk_below (g := gbo) (o := .cells #[.bool ol,.int .i64 ob] 75 (0,0)) hOs hb);replace HB := aK (below_step hBs hb);clear BX2 BO2 HBB HGO hBs hXs hOs hb;(try clear hz_gbx_0 hz_gbx_1 hf_gbx_0 hf_gbx_1 hz_gbo_0 hz_gbo_1 hf_gbo_0 hf_gbo_1);have hz_gbx_0 := y0 BX;have hf_gbx_0 := blk_frozen BX.out 0;have hz_gbx_1 := y1 BX;have hf_gbx_1 := blk_frozen BX.out 1;have hz_gbo_0 := y0 BO;have hf_gbo_0 := blk_frozen BO.out 0;have hz_gbo_1 := y1 BO;have hf_gbo_1 := blk_frozen BO.out 1))
   go_ret2;exact ⟨rfl,HB.out⟩
  | true =>
   have HIN := aK (isIn_opens.1 hI);rw [hI] at h HCO;rw [if_pos rfl] at h HCO;simp only [Option.some.injEq,Prod.mk.injEq] at h;obtain ⟨rfl,rfl⟩ := h;clear hI;go_enter Try.func35,Try.ntmps35
   go_wp2_with (first | ((with_reducible refine gate_dst (N := 3) rfl ?_);(try (refine gate_guard (by rfl) ?_;dsimp only));refine boxE 3 #[.slice A0 C.length c0,.slice A1 L.length c1] 27 ?_;intro gbx hg w2 hbox hb;have BX := aK hbox;clear hg hbox;replace HB := aK (below_step HB.out hb);clear hb;have hz_gbx_0 := y0 BX;have hf_gbx_0 := blk_frozen BX.out 0;have hz_gbx_1 := y1 BX;have hf_gbx_1 := blk_frozen BX.out 1) | ((with_reducible refine gate_dst (N := 8) rfl ?_);(try (refine gate_guard (by rfl) ?_;dsimp only));refine boxE 8 #[.bool false,.int .i64 0] 75 ?_;intro gbo hg w3 hbox hb;have HBB := aK hb;have HGO := aK hg;have BX2 := aK (blk_below (g := gbx) (o := .cells #[.slice A0 C.length c0,.slice A1 L.length c1] 27 (0,0)) BX.out hb);have BO2 := aK hbox;have ne1 : gbx ≠ gbo := (by rw [hg];exact Nat.ne_of_lt (blk_lt BX.out));have ne2 : gbo ≠ gbx := Ne.symm ne1;clear hb hg hbox;replace hz_gbx_0 := y0 BX2;replace hf_gbx_0 := blk_frozen BX2.out 0;replace hz_gbx_1 := y1 BX2;replace hf_gbx_1 := blk_frozen BX2.out 1;have hz_gbo_0 := y0 BO2;have hf_gbo_0 := blk_frozen BO2.out 0;have hz_gbo_1 := y1 BO2;have hf_gbo_1 := blk_frozen BO2.out 1) | ((with_reducible refine gate_dst (N := 17) rfl ?_);(try (refine gate_guard (by rfl) ?_;dsimp only));refine goesE (some 17) Try.func73 #[.agg #[.slice A0 C.length c0,.slice A1 L.length c1],.agg #[.bool ol,.int .i64 ob]] ?_;have hBs : Below w.heap.size w ((w3.setCell ⟨gbo,0,none⟩ (.bool ol)).setCell ⟨gbo,1,none⟩ (.int .i64 ob)) := below_set (below_set (below_step HB.out HBB.out) (by rw [HGO.out];exact HB.out.size)) (by rw [HGO.out];exact HB.out.size);have hXs := blk_far (p := ⟨gbo,1,none⟩) (blk_far (p := ⟨gbo,0,none⟩) BX2.out ne1 (.bool ol)) ne1 (.int .i64 ob);have hOs := blk_put (cs := #[.bool ol,.int .i64 0]) (blk_put (cs := #[.bool false,.int .i64 0]) BO2.out 0 (.bool ol) rfl) 1 (.int .i64 ob) rfl;(with_reducible refine (impl_openingCode.calls kc A0 c0 C A1 c1 L ol ob 0 _ ?side1 HC0.out ?side2 HC1.out HCO.out).mono ?_);(case side1 => exact Kd.C_below HR0.out hBs);(case side2 => exact Kd.C_below HR1.out hBs);rintro e w4 ⟨rfl,hb⟩;refine ⟨_,rfl,?_⟩;replace BX := aK (blk_below (g := gbx) (o := .cells #[.slice A0 C.length c0,.slice A1 L.length c1] 27 (0,0)) hXs hb);have BO := aK (blk_below (g := gbo) (o := .cells #[.bool ol,.int .i64 ob] 75 (0,0)) hOs hb);replace HB := aK (below_step hBs hb);clear BX2 BO2 HBB HGO hBs hXs hOs hb;(try clear hz_gbx_0 hz_gbx_1 hf_gbx_0 hf_gbx_1 hz_gbo_0 hz_gbo_1 hf_gbo_0 hf_gbo_1);have hz_gbx_0 := y0 BX;have hf_gbx_0 := blk_frozen BX.out 0;have hz_gbx_1 := y1 BX;have hf_gbx_1 := blk_frozen BX.out 1;have hz_gbo_0 := y0 BO;have hf_gbo_0 := blk_frozen BO.out 0;have hz_gbo_1 := y1 BO;have hf_gbo_1 := blk_frozen BO.out 1))
   refine start_ (n := 9) (S := fun w' => w'.cell? ⟨gbx,0,none⟩ = some (.slice A0 C.length c0) ∧ w'.cell? ⟨gbx,1,none⟩ = some (.slice A1 L.length c1) ∧ w'.cell? ⟨gbo,0,none⟩ = some (.bool ol) ∧ w'.cell? ⟨gbo,1,none⟩ = some (.int .i64 ob)) (ds := []) #[false,false,false,false,false,false,false,false,false] (by kernel_rfl) rfl rfl ⟨(blk_cell BX.out 0).trans rfl,(blk_cell BX.out 1).trans rfl,(blk_cell BO.out 0).trans rfl,(blk_cell BO.out 1).trans rfl⟩ (fun hHeld => ?_);have n0_ := aK (blk_drew BX.out);have n1_ := aK (blk_drew BO.out);have n2_ := aK (below_drew1 HB.out);clear BX BO HB;have BX := n0_;have BO := n1_;have HB := n2_;clear n0_ n1_ n2_
   generalize w4.drew = w5 at BX BO HB hHeld ⊢
   refine take_ (i := 0) (N := some 22) (v := ?_) (a' := ?_) #[true,false,false,false,false,false,false,false,false] rfl rfl (by kernel_rfl) (fun _ _ _ h => h) (Or.inl ⟨by rfl,?_⟩) hHeld ?_ ?_;rotate_left
   ·rintro w' ⟨s0_,s1_,s2_,s3_⟩
    go_simp
    with_reducible rfl
   rotate_left
   ·simp only [putAll,Act.put,List.setIfInBounds_toArray,List.set_cons_zero,List.set_cons_succ,i64_w,i32_w]
    rfl
   refine take_ (i := 1) (N := some 23) (v := ?_) (a' := ?_) #[true,true,false,false,false,false,false,false,false] rfl rfl (by kernel_rfl) (fun _ _ _ h => h) (Or.inl ⟨by rfl,?_⟩) hHeld ?_ ?_;rotate_left
   ·rintro w' ⟨s0_,s1_,s2_,s3_⟩
    go_simp
    with_reducible rfl
   rotate_left
   ·simp only [putAll,Act.put,List.setIfInBounds_toArray,List.set_cons_zero,List.set_cons_succ,i64_w,i32_w]
    rfl
   refine one_ (i := 2) (N := some 24) #[true,true,true,false,false,false,false,false,false] rfl rfl (by kernel_rfl) (by decide) (fun K hK => ?_);refine goes_ Try.func76 (by kernel_rfl) rfl #[] (by rfl) rfl rfl (by (try simp only [List.map_toArray,List.map_cons,List.map_nil]);first | done | rfl) ?_
   (with_reducible refine (values.calls _).mono ?_)
   rintro e w6 ⟨bm,b7,bf,rfl,hbm,hkn,hb⟩;refine ⟨_,rfl,?_⟩;have HBM := aK (Nat.le_trans HB.out.size hbm);have KN := aK hkn;clear hbm hkn;have n0_ := aK (blk_below (g := gbx) (o := .cells #[.slice A0 C.length c0,.slice A1 L.length c1] 27 (0,0)) BX.out hb);have n1_ := aK (blk_below (g := gbo) (o := .cells #[.bool ol,.int .i64 ob] 75 (0,0)) BO.out hb);have n2_ := aK (below_step HB.out hb);clear BX BO HB;have BX := n0_;have BO := n1_;have HB := n2_;clear n0_ n1_ n2_;clear hb;refine hK.out _ _ ⟨(blk_cell BX.out 0).trans rfl,(blk_cell BX.out 1).trans rfl,(blk_cell BO.out 0).trans rfl,(blk_cell BO.out 1).trans rfl⟩ (fun hHeld => ?_);clear hK K;refine norm_ (a' := ?_) ?_ ?_;rotate_left
   ·show Act.put _ (some 24) _ = _;simp only [putAll,Act.put,List.setIfInBounds_toArray,List.set_cons_zero,List.set_cons_succ,i64_w,i32_w]
    rfl
   refine one_ (i := 3) (N := some 25) #[true,true,true,true,false,false,false,false,false] rfl rfl (by kernel_rfl) (by decide) (fun K hK => ?_);refine goes_ Try.func82 (by kernel_rfl) rfl #[.agg #[.slice A0 C.length c0,.slice A1 L.length c1],.agg #[.bool ol,.int .i64 ob],.func (.func 104) #[] #[.pointer (some ⟨b7,0,none⟩),.pointer (some ⟨bf,0,none⟩)]] (by rfl) rfl rfl (by (try simp only [List.map_toArray,List.map_cons,List.map_nil]);first | done | rfl) ?_
   (with_reducible refine (answered.calls 8 (find_ok 8 (Nat.le_refl _)) bm b7 bf C L (ol,ob) _ _ 0 _ HO.out.1 HO.out.2.1 HIN.out (Nat.le_trans HO.out.2.2 (by omega)) HO.out.2.2 (RdE.came HR0.out HC0.out HB.out HBM.out) (RdE.came HR1.out HC1.out HB.out HBM.out) KN.out cost8).mono ?_)
   rintro e w7 ⟨rfl,hkn2,hg⟩;refine ⟨_,rfl,?_⟩;have n0_ := aK (blk_grown (g := gbx) (o := .cells #[.slice A0 C.length c0,.slice A1 L.length c1] 27 (0,0)) BX.out hg (Known.ne KN.out BX.out));have n1_ := aK (blk_grown (g := gbo) (o := .cells #[.bool ol,.int .i64 ob] 75 (0,0)) BO.out hg (Known.ne KN.out BO.out));have n2_ := aK (Below.grown HB.out hg HB.out.size (fun k hk => by cases hk;exact HBM.out));clear BX BO HB;have BX := n0_;have BO := n1_;have HB := n2_;clear n0_ n1_ n2_;clear hg hkn2;refine hK.out _ _ ⟨(blk_cell BX.out 0).trans rfl,(blk_cell BX.out 1).trans rfl,(blk_cell BO.out 0).trans rfl,(blk_cell BO.out 1).trans rfl⟩ (fun hHeld => ?_);clear hK K;refine norm_ (a' := ?_) ?_ ?_;rotate_left
   ·show Act.put _ (some 25) _ = _;simp only [putAll,Act.put,List.setIfInBounds_toArray,List.set_cons_zero,List.set_cons_succ,i64_w,i32_w]
    rfl
   refine pure_ (i := 4) (N := some 21) (v := ?_) (a' := ?_) #[true,true,true,true,true,false,false,false,false] rfl rfl (by kernel_rfl) (fun _ _ _ h => h) (Or.inl ⟨by rfl,?_⟩) ?_ ?_;rotate_left
   ·intro w'
    go_simp
    with_reducible rfl
   rotate_left
   ·simp only [putAll,Act.put,List.setIfInBounds_toArray,List.set_cons_zero,List.set_cons_succ,i64_w,i32_w]
    rfl
   refine pure_ (i := 5) (N := some 26) (v := ?_) (a' := ?_) #[true,true,true,true,true,true,false,false,false] rfl rfl (by kernel_rfl) (fun _ _ _ h => h) (Or.inl ⟨by rfl,?_⟩) ?_ ?_;rotate_left
   ·intro w'
    go_simp
    with_reducible rfl
   rotate_left
   ·simp only [putAll,Act.put,List.setIfInBounds_toArray,List.set_cons_zero,List.set_cons_succ,i64_w,i32_w]
    rfl
   refine pure_ (i := 6) (N := some 27) (v := ?_) (a' := ?_) #[true,true,true,true,true,true,true,false,false] rfl rfl (by kernel_rfl) (fun _ _ _ h => h) (Or.inl ⟨by rfl,?_⟩) ?_ ?_;rotate_left
   ·intro w'
    go_simp
    with_reducible rfl
   rotate_left
   ·simp only [putAll,Act.put,List.setIfInBounds_toArray,List.set_cons_zero,List.set_cons_succ,i64_w,i32_w]
    rfl
   refine pure_ (i := 7) (N := some 10) (v := ?_) (a' := ?_) #[true,true,true,true,true,true,true,true,false] rfl rfl (by kernel_rfl) (fun _ _ _ h => h) (Or.inl ⟨by rfl,?_⟩) ?_ ?_;rotate_left
   ·intro w'
    go_simp
    with_reducible rfl
   rotate_left
   ·simp only [putAll,Act.put,List.setIfInBounds_toArray,List.set_cons_zero,List.set_cons_succ,i64_w,i32_w]
    rfl
   refine pure_ (i := 8) (N := some 11) (v := ?_) (a' := ?_) #[true,true,true,true,true,true,true,true,true] rfl rfl (by kernel_rfl) (fun _ _ _ h => h) (Or.inl ⟨by rfl,?_⟩) ?_ ?_;rotate_left
   ·intro w'
    go_simp
    with_reducible rfl
   rotate_left
   ·simp only [putAll,Act.put,List.setIfInBounds_toArray,List.set_cons_zero,List.set_cons_succ,i64_w,i32_w]
    rfl
   refine done_ (by kernel_rfl) ?_
   try go_wp2
   go_ret2;exact ⟨rfl,HB.out⟩
theorem Known.apart {bm b7 bf n g : Nat} {w : World} {cs : Array Value} {t : TypeId} {fr : Nat × Nat} (h : Known bm b7 bf n w) (hg : w.heap[g]? = some (.cells cs t fr)) (h1 : t ≠ 109) (h2 : t ≠ 82) : g ≠ bm ∧ g ≠ b7 ∧ g ≠ bf := by
 refine ⟨fun e => Known.ne h hg (by rw [e]),fun e => ?_,fun e => ?_⟩
 ·have := h.2.1;rw [← e,hg] at this;injection this with this
  injection this with _ this
  exact h1 this
 ·have := h.2.2;rw [← e,hg] at this;injection this with this
  injection this with _ this
  exact h2 this
theorem Known.step {bm b7 bf n : Nat} {w w' : World} (h : Known bm b7 bf n w) (row : Option Nat) (hg : w.grownBy w' row) (h1 : some bm ≠ row) (h2 : some b7 ≠ row) (h3 : some bf ≠ row) : Known bm b7 bf n w' := by
 obtain ⟨⟨M,a,hM⟩,b,c⟩ := h;exact ⟨⟨M,a,hM.kept hg h1⟩,blk_grown b hg h2,blk_grown c hg h3⟩
theorem grown_far (w : World) (p : Addr) (u : Value) : w.grownBy (w.setCell p u) (some p.block) :=
 ⟨rfl,rfl,rfl,by simp [World.setCell],fun k _ hk => Below.heap_setCell w p u k (fun e => hk (by rw [e]))⟩
theorem Known.far {bm b7 bf n : Nat} {w : World} {p : Addr} (h : Known bm b7 bf n w) (hp : p.block ≠ bm ∧ p.block ≠ b7 ∧ p.block ≠ bf) (u : Value) : Known bm b7 bf n (w.setCell p u) :=
 h.step (some p.block) (grown_far w p u) (fun e => hp.1 (Option.some.inj e).symm) (fun e => hp.2.1 (Option.some.inj e).symm) (fun e => hp.2.2 (Option.some.inj e).symm)
/-- What the closure keeps: the function value that knows values, the best list so far, its value. -/
structure PS (w0 : World) (bm b7 bf gf gb gm n : Nat) (B : List Int) (M : Int) (w : World) : Prop where
 known : Known bm b7 bf n w
 bel : Below w0.heap.size w0 w
 cf : w.heap[gf]? = some (.cells #[.func (.func 104) #[] #[.pointer (some ⟨b7,0,none⟩),.pointer (some ⟨bf,0,none⟩)]] 82 (0,0))
 cm : w.heap[gm]? = some (.cells #[.int .i64 M] 2 (0,0))
 cb : ∃ v,w.heap[gb]? = some (.cells #[v] 22 (0,0)) ∧ Kd.R (Kd.int .i64) 2 w w0.heap.size (fun k => k ≠ gm) v B
 low : w0.heap.size ≤ bm ∧ w0.heap.size ≤ gb ∧ w0.heap.size ≤ gm
abbrev RL (w0 : World) (gm : Nat) (w : World) (v : Value) (xs : List Int) : Prop := Kd.R (Kd.int .i64) 2 w w0.heap.size (fun k => k ≠ gm) v xs
/-- What a call of the closure leaves: all blocks but three. -/
def Kp (bm gb gm : Nat) (w w' : World) : Prop := w.heap.size ≤ w'.heap.size ∧ ∀ i, i < w.heap.size → i ≠ bm → i ≠ gb → i ≠ gm → w'.heap[i]? = w.heap[i]?
theorem Kp.trans {bm gb gm : Nat} {a b c : World} (h : Kp bm gb gm a b) (k : Kp bm gb gm b c) : Kp bm gb gm a c :=
 ⟨Nat.le_trans h.1 k.1,fun i hi h1 h2 h3 => (k.2 i (Nat.lt_of_lt_of_le hi h.1) h1 h2 h3).trans (h.2 i hi h1 h2 h3)⟩
theorem Kp.refl (bm gb gm : Nat) (w : World) : Kp bm gb gm w w := ⟨Nat.le_refl _, fun _ _ _ _ _ => rfl⟩
theorem Kp.below {bm gb gm : Nat} {w w' : World} (h : Below w.heap.size w w') : Kp bm gb gm w w' := ⟨h.size, fun i hi _ _ _ => h.block i hi⟩
theorem Kp.grown {bm gb gm : Nat} {w w' : World} (h : w.grownBy w' (some bm)) : Kp bm gb gm w w' := ⟨h.size, fun i hi h1 _ _ => h.block i hi (fun e => h1 (Option.some.inj e))⟩
theorem PS.isMap {bm b7 bf gf gb gm n : Nat} {w0 w : World} {B : List Int} {M : Int} (h : PS w0 bm b7 bf gf gb gm n B M w) : ∃ es c, w.heap[bm]? = some (.map es c) := by
 obtain ⟨⟨M_,_,⟨⟨es,clock,h1,_⟩,_⟩⟩,_⟩ := h.known;exact ⟨_,_,h1⟩
theorem cell_ne {w : World} {a b : Nat} {cs ds : Array Value} {t u : TypeId} {x y : Nat × Nat} (h : w.heap[a]? = some (.cells cs t x)) (k : w.heap[b]? = some (.cells ds u y)) (hne : t ≠ u) : a ≠ b := by
 rintro rfl;rw [h] at k;injection k with k
 injection k with _ k
 exact hne k
theorem R_cells {w : World} {base gm : Nat} {v : Value} {xs : List Int} (h : Kd.R (Kd.int .i64) 2 w base (fun k => k ≠ gm) v xs) : Kd.R (Kd.int .i64) 2 w base (fun k => k ≠ gm ∧ ∃ cells, w.heap[k]? = some (.cells cells 2 (0, 0))) v xs :=
 Kd.R_mono (Kd.R_bound h) (fun k hk => ⟨hk.1,by
  obtain ⟨_,_,_,q,hq,cells,hc⟩ := hk;rcases List.mem_cons.1 hq with e | e
  ·subst e;exact ⟨cells,hc⟩
  ·cases e⟩)
theorem R_kp {bm b7 bf gf gb gm n : Nat} {w0 w w' : World} {B : List Int} {M : Int} (hP : PS w0 bm b7 bf gf gb gm n B M w) {v : Value} {xs : List Int} (h : RL w0 gm w v xs) (hk : Kp bm gb gm w w') : RL w0 gm w' v xs := by
 obtain ⟨es,c,hm⟩ := hP.isMap;obtain ⟨vb,hb,_⟩ := hP.cb;refine Kd.R_mono (Kd.R_step (R_cells h) (fun k hk1 hlt => hk.2 k hlt ?_ ?_ hk1.1)) (fun k hk => hk.1)
 ·rintro rfl;obtain ⟨_,cells,hc⟩ := hk1;rw [hc] at hm;cases hm
 ·obtain ⟨_,cells,hc⟩ := hk1;exact cell_ne hc hb (by decide)
theorem rdE_of {bm b7 bf gf gb gm n : Nat} {w0 w : World} {B : List Int} {M : Int} (hP : PS w0 bm b7 bf gf gb gm n B M w) {v : Value} {xs : List Int} (h : RL w0 gm w v xs) : RdE w bm v xs := by
 obtain ⟨es,c,hm⟩ := hP.isMap;refine Kd.R_V (Kd.R_mono (R_cells h) (fun k hk => ?_));rintro rfl;obtain ⟨_,cells,hc⟩ := hk;rw [hc] at hm;cases hm
theorem PS.below {bm b7 bf gf gb gm n : Nat} {w0 w w' : World} {B : List Int} {M : Int} (h : PS w0 bm b7 bf gf gb gm n B M w) (hb : Below w.heap.size w w') : PS w0 bm b7 bf gf gb gm n B M w' := by
 obtain ⟨v,hv,hR⟩ := h.cb;exact ⟨h.known.below hb,below_step h.bel hb,blk_below (g := gf) h.cf hb,blk_below (g := gm) h.cm hb,⟨v,blk_below (g := gb) hv hb,Kd.R_below hR hb⟩,h.low⟩
theorem PS.call {bm b7 bf gf gb gm n n' : Nat} {w0 w w' : World} {B : List Int} {M : Int} (h : PS w0 bm b7 bf gf gb gm n B M w) (hK : Known bm b7 bf n' w') (hg : w.grownBy w' (some bm)) : PS w0 bm b7 bf gf gb gm n' B M w' := by
 obtain ⟨v,hv,hR⟩ := h.cb;exact ⟨hK,Below.grown h.bel hg h.bel.size (fun k hk => by cases hk;exact h.low.1),blk_grown h.cf hg (h.known.ne h.cf),blk_grown h.cm hg (h.known.ne h.cm),⟨v,blk_grown hv hg (h.known.ne hv),R_kp h hR (Kp.grown hg)⟩,h.low⟩
theorem PS.put {bm b7 bf gf gb gm n : Nat} {w0 w : World} {B : List Int} {M : Int} (h : PS w0 bm b7 bf gf gb gm n B M w) {v : Value} {xs : List Int} (hR : RL w0 gm w v xs) (m : Int) :
 PS w0 bm b7 bf gf gb gm n xs m ((w.setCell ⟨gb,0,none⟩ v).setCell ⟨gm,0,none⟩ (.int .i64 m)) ∧ Kp bm gb gm w ((w.setCell ⟨gb,0,none⟩ v).setCell ⟨gm,0,none⟩ (.int .i64 m)) := by
 obtain ⟨vb,hv,_⟩ := h.cb;have n1 := h.known.apart hv (by decide) (by decide);have n2 := h.known.apart h.cm (by decide) (by decide);have hK := (h.known.far (p := ⟨gb,0,none⟩) n1 v).far (p := ⟨gm,0,none⟩) n2 (.int .i64 m);have hB : Below w0.heap.size w0 ((w.setCell ⟨gb,0,none⟩ v).setCell ⟨gm,0,none⟩ (.int .i64 m)) := below_set (below_set h.bel h.low.2.1) h.low.2.2;have hkp : Kp bm gb gm w ((w.setCell ⟨gb,0,none⟩ v).setCell ⟨gm,0,none⟩ (.int .i64 m)) := ⟨by simp [World.setCell],fun i _ _ h1 h2 => (Below.heap_setCell _ _ _ _ h2).trans (Below.heap_setCell _ _ _ _ h1)⟩;have hbm : gb ≠ gm := cell_ne hv h.cm (by decide);refine ⟨⟨hK,hB,?_,?_,⟨v,?_,R_kp h hR hkp⟩,h.low⟩,hkp⟩
 ·exact blk_far (blk_far h.cf (cell_ne h.cf hv (by decide)) _) (cell_ne h.cf h.cm (by decide)) _
 ·exact blk_put (cs := #[.int .i64 M]) (blk_far h.cm hbm.symm _) 0 _ rfl
 ·exact blk_far (blk_put (cs := #[vb]) hv 0 _ rfl) hbm _
def stepP (s : List Int × Int) (l : List Int) : List Int × Int := if s.2 < val l [] then (l, val l []) else s
def C6 : Nat := costT 6
set_option maxHeartbeats 16000000 in
set_option maxRecDepth 100000 in
theorem closure.calls (w0 : World) (bm b7 bf gf gb gm n : Nat) (B : List Int) (M : Int) (vl : Value) (l : List Int) (w : World) (hP : PS w0 bm b7 bf gf gb gm n B M w) (hR : RL w0 gm w vl l) (hC : okC l) (h6 : l.length ≤ 6) (hn : n + C6 < 4294967296) :
 Calls Try.prog 88 (#[vl] ++ #[.pointer (some ⟨gf,0,none⟩),.pointer (some ⟨gm,0,none⟩),.pointer (some ⟨gb,0,none⟩)]) w fun e w' => e = .returned (.tuple #[]) ∧ PS w0 bm b7 bf gf gb gm (n + C6) (stepP (B,M) l).1 (stepP (B,M) l).2 w' ∧ Kp bm gb gm w w' := by
 show Calls Try.prog 88 #[vl,.pointer (some ⟨gf,0,none⟩),.pointer (some ⟨gm,0,none⟩),.pointer (some ⟨gb,0,none⟩)] w _;have hu27 := Try.underlying27;obtain ⟨A,c,rfl⟩ := Kd.R_slice hR;have HP := aK hP;have HR := aK hR;have HC := aK hC;have H6 := aK h6;have HN := aK hn;have hzf : w.cell? ⟨gf,0,none⟩ = some (.func (.func 104) #[] #[.pointer (some ⟨b7,0,none⟩),.pointer (some ⟨bf,0,none⟩)]) := (blk_cell hP.cf 0).trans rfl;have hff := blk_frozen hP.cf 0;clear hP hR hC h6 hn;have FN := aK (find_ok 6 (by decide) bm b7 bf l [] (.slice A l.length c) (.slice none 0 0) n w HC.out (fun x hx => by cases hx) (by simpa using H6.out) (rdE_of HP.out HR.out) (Kd.R_V (Kd.R_nil _ _ _ 0 _)) HP.out.known HN.out)
 by_cases hm : M < val l []
 ·have e1 : stepP (B,M) l = (l,val l []) := by unfold stepP;rw [if_pos hm]
  rw [e1];have hd := decide_eq_true hm;clear e1 hm;go_enter Try.func88,Try.ntmps88
  go_wp2_with (first | ((with_reducible refine gate_dst (N := 9) rfl ?_);refine goesV_ (some 9) rfl rfl 104 #[.pointer (some ⟨b7,0,none⟩),.pointer (some ⟨bf,0,none⟩)] ⟨_,Try.func104,by kernel_rfl,rfl⟩ #[.agg #[.slice A l.length c,.slice none 0 0]] rfl rfl (by (try simp only [List.map_toArray,List.map_cons,List.map_nil]);first | done | rfl) ?_;refine FN.out.mono ?_;rintro e w1 ⟨rfl,hk,hg⟩;refine ⟨_,rfl,?_⟩;have HP1 := aK (PS.call HP.out hk hg);have HK1 := aK (Kp.grown (gb := gb) (gm := gm) hg);have HR1 := aK (R_kp HP.out HR.out HK1.out);clear FN HP HR hk hg hzf hff;obtain ⟨vb,hvb,-⟩ := HP1.out.cb;have hzm : w1.cell? ⟨gm,0,none⟩ = some (.int .i64 M) := (blk_cell HP1.out.cm 0).trans rfl;have hfm := blk_frozen HP1.out.cm 0;have hzb : w1.cell? ⟨gb,0,none⟩ = some vb := (blk_cell hvb 0).trans rfl;have hfb := blk_frozen hvb 0;have hne1 : gm ≠ gb := cell_ne HP1.out.cm hvb (by decide);have hne2 : gb ≠ gm := Ne.symm hne1;clear hvb))
  have hp := PS.put HP1.out HR1.out (val l [])
  go_end0
  exact ⟨rfl,hp.1,HK1.out.trans hp.2⟩
 ·have e1 : stepP (B,M) l = (B,M) := by unfold stepP;rw [if_neg hm]
  rw [e1];have hd := decide_eq_false hm;clear e1 hm;go_enter Try.func88,Try.ntmps88
  go_wp2_with (first | ((with_reducible refine gate_dst (N := 9) rfl ?_);refine goesV_ (some 9) rfl rfl 104 #[.pointer (some ⟨b7,0,none⟩),.pointer (some ⟨bf,0,none⟩)] ⟨_,Try.func104,by kernel_rfl,rfl⟩ #[.agg #[.slice A l.length c,.slice none 0 0]] rfl rfl (by (try simp only [List.map_toArray,List.map_cons,List.map_nil]);first | done | rfl) ?_;refine FN.out.mono ?_;rintro e w1 ⟨rfl,hk,hg⟩;refine ⟨_,rfl,?_⟩;have HP1 := aK (PS.call HP.out hk hg);have HK1 := aK (Kp.grown (gb := gb) (gm := gm) hg);have HR1 := aK (R_kp HP.out HR.out HK1.out);clear FN HP HR hk hg hzf hff;obtain ⟨vb,hvb,-⟩ := HP1.out.cb;have hzm : w1.cell? ⟨gm,0,none⟩ = some (.int .i64 M) := (blk_cell HP1.out.cm 0).trans rfl;have hfm := blk_frozen HP1.out.cm 0;have hzb : w1.cell? ⟨gb,0,none⟩ = some vb := (blk_cell hvb 0).trans rfl;have hfb := blk_frozen hvb 0;have hne1 : gm ≠ gb := cell_ne HP1.out.cm hvb (by decide);have hne2 : gb ≠ gm := Ne.symm hne1;clear hvb))
  go_end0
  exact ⟨rfl,HP1.out,HK1.out⟩
abbrev capsP (gf gm gb : Nat) : Array Value := #[.pointer (some ⟨gf, 0, none⟩), .pointer (some ⟨gm, 0, none⟩), .pointer (some ⟨gb, 0, none⟩)]
theorem hasFn_PF : HasFn 88 := ⟨_, Try.func88, by kernel_rfl, rfl⟩
def EachOk (k : Nat) : Prop := ∀ (w0 : World) (bm b7 bf gf gb gm n : Nat) (B : List Int) (M s ki low : Int) (vl : Value) (b : List Int) (w : World), PS w0 bm b7 bf gf gb gm n B M w → RL w0 gm w vl b → okL20 b → ki = (k : Int) → 1 ≤ low → low ≤ 22 → 0 ≤ s → s ≤ 20 → b.length + k ≤ 6 →
 n + (parts k low s b).length * C6 < 4294967296 →
 Calls Try.prog 87 #[.int .i64 s,.int .i64 ki,.int .i64 low,vl,.func (.func 88) #[] (capsP gf gm gb)] w fun e w' => e = .returned (.tuple #[]) ∧ PS w0 bm b7 bf gf gb gm (n + (parts k low s b).length * C6) ((parts k low s b).foldl stepP (B,M)).1 ((parts k low s b).foldl stepP (B,M)).2 w' ∧ Kp bm gb gm w w'
theorem okC_20 {l : List Int} (h : okL20 l) : okC l := fun x hx => by have := h x hx; omega
set_option maxHeartbeats 16000000 in
set_option maxRecDepth 100000 in
theorem each_zero : EachOk 0 := by
 intro w0 bm b7 bf gf gb gm n B M s ki low vl b w hP hR hb hki h1 h2 h3 h4 h6 hn;have hk0 : (ki == 0) = true := by subst hki;rfl
 have HP := aK hP;have HR := aK hR;have HO := aK (okC_20 hb);have H6 := aK (show b.length ≤ 6 by omega)
 by_cases hs : s = 0
 ·have e1 : parts 0 low s b = [b] := by unfold parts;rw [if_pos hs]
  rw [e1] at hn ⊢;have HN := aK (show n + C6 < 4294967296 by simpa using hn);have hs0 : (s == 0) = true := beq_iff_eq.2 hs;obtain ⟨A,c,rfl⟩ := Kd.R_slice hR;clear hP hR hb hki h1 h2 h3 h4 h6 hn hs e1;go_enter Try.func87,Try.ntmps87
  go_wp2_with (first | ((with_reducible refine gate_dst (N := 17) rfl ?_);refine goesV_ (some 17) rfl rfl 88 (capsP gf gm gb) hasFn_PF #[.slice A b.length c] rfl rfl (by (try simp only [List.map_toArray,List.map_cons,List.map_nil]);first | done | rfl) ?_;refine (closure.calls w0 bm b7 bf gf gb gm n B M _ b _ HP.out HR.out HO.out H6.out HN.out).mono ?_;rintro e w1 ⟨rfl,hp,hk⟩;refine ⟨_,rfl,?_⟩;have HP1 := aK hp;have HK1 := aK hk;clear hp hk HP HR))
  first | go_end0 | refine bodyPost_ret (results_none rfl _ _ _) rfl ?_
  rw [Nat.one_mul];exact ⟨rfl,HP1.out,HK1.out⟩
 ·have e1 : parts 0 low s b = [] := by unfold parts;rw [if_neg hs]
  rw [e1];have hs0 : (s == 0) = false := beq_eq_false_iff_ne.2 hs;clear hP hR hb hki h1 h2 h3 h4 h6 hn hs e1;go_enter Try.func87,Try.ntmps87;go_wp2
  first | go_end0 | refine bodyPost_ret (results_none rfl _ _ _) rfl ?_
  exact ⟨rfl,by simpa using HP.out,Kp.refl _ _ _ _⟩
theorem loopP_stop {f : Int → List (List Int)} {K s x : Int} (h : ¬ x * K ≤ s) : ∀ d, loopP f K s d x = []
 | 0 => rfl
 | d + 1 => by unfold loopP;rw [if_neg h]
theorem cost_app {n N T C : Nat} {a b : List (List Int)} (h : n + (a ++ b).length * C = T) (hT : T < N) : n + a.length * C < N ∧ (n + a.length * C) + b.length * C = T := by
 rw [List.length_append,Nat.add_mul] at h;omega
set_option maxHeartbeats 16000000 in
set_option maxRecDepth 100000 in
theorem each_step (k : Nat) (ih : EachOk k) : EachOk (k + 1) := by
 intro w0 bm b7 bf gf gb gm n B M s ki low vl b w hP hR hb hki h1 h2 h3 h4 h6 hn;have hk0 : (ki == 0) = false := beq_eq_false_iff_ne.2 (by omega);have HP := aK hP;have HR := aK hR;have HO := aK hb;have HKI := aK hki;have H3 := aK h3;have H4 := aK h4;have H6 := aK h6;have HN := aK hn;have HL := aK (show 1 ≤ low ∧ low ≤ 22 from ⟨h1,h2⟩);have HIH := aK ih;obtain ⟨A,c,rfl⟩ := Kd.R_slice hR;obtain ⟨F,hF⟩ : ∃ F : Int → List (List Int),F = fun x => parts k x (s - x) (b ++ [x]) := ⟨_,rfl⟩
 have hp : parts (k + 1) low s b = loopP F ki s 21 low := by rw [hF,hki];rfl
 rw [hp] at hn ⊢;have HF := aK hF;have HCL := aK (show slices_Clone_int64_int64.f b = some b by unfold slices_Clone_int64_int64.f;rw [if_pos (by omega)]);have HN2 := aK hn;clear hP hR hb hki h1 h2 h3 h4 h6 hn ih hF hp HN;go_enter Try.func87,Try.ntmps87;go_wp2
 go_loopg [10] 21 (fun d v10 w' => ∃ (x : Int) (n' : Nat) (B' : List Int) (M' : Int),v10 = .int .i64 x ∧ Aside0 (1 ≤ x ∧ 22 ≤ x + (d : Int) ∧ x ≤ 22) ∧ Aside0 (n' + (loopP F ki s d x).length * C6 = n + (loopP F ki s 21 low).length * C6) ∧ Aside0 ((loopP F ki s d x).foldl stepP (B',M') = (loopP F ki s 21 low).foldl stepP (B,M)) ∧ Aside0 (PS w0 bm b7 bf gf gb gm n' B' M' w') ∧ Aside0 (RL w0 gm w' (.slice A b.length c) b) ∧ Aside0 (Kp bm gb gm w w'))
 case atStart => exact ⟨low,n,B,M,rfl,⟨by have := HL.out;omega⟩,⟨rfl⟩,⟨rfl⟩,HP,HR,⟨Kp.refl _ _ _ _⟩⟩
 case round =>
  clear HP HR;obtain ⟨x,n',B',M',rfl,HX,HC,HF2,HP,HR,HK⟩ := hrel;have hmul : wrap64 (x * ki) = x * ki := by
   have h5 := HX.out;have h7 := H6.out;have h8 := HKI.out;have h9 : x * ki ≤ 22 * 6 := Int.mul_le_mul h5.2.2 (by omega) (by omega) (by omega);have h10 : 0 ≤ x * ki := Int.mul_nonneg (by omega) (by omega);unfold wrap64;omega
  by_cases c1 : x * ki ≤ s
  ·have hx20 : x ≤ 20 := by
    have h5 := HX.out;have h8 := HKI.out;have h9 : x * 1 ≤ x * ki := Int.mul_le_mul_of_nonneg_left (by omega) (by omega);have := H4.out;omega
   have hsx : 0 ≤ s - x ∧ s - x ≤ 20 := by
    have h5 := HX.out;have h8 := HKI.out;have h9 : x * 1 ≤ x * ki := Int.mul_le_mul_of_nonneg_left (by omega) (by omega);have := H4.out;omega
   obtain ⟨d,rfl⟩ : ∃ d,gk = d + 1 := ⟨gk - 1,by have := HX.out;omega⟩;have hlp : loopP F ki s (d + 1) x = F x ++ loopP F ki s d (x + 1) := by rw [loopP,if_pos c1]
   rw [hlp] at HC HF2;have hca := cost_app HC.out HN2.out;have HCA := aK hca;have hfx : F x = parts k x (s - x) (b ++ [x]) := by rw [HF.out]
   have HFX := aK hfx;have HX20 := aK hx20;have HSX := aK hsx;have HO2 := aK (show okL20 (b ++ [x]) from fun y hy => by
    rcases List.mem_append.1 hy with h | h
    ·exact HO.out y h
    ·rw [List.mem_singleton.1 h];exact ⟨HX.out.1,HX20.out⟩)
   obtain ⟨s2,hs2⟩ : ∃ s2 : Int,s2 = s - x := ⟨_,rfl⟩;obtain ⟨k2,hk2⟩ : ∃ k2 : Int,k2 = ki - 1 := ⟨_,rfl⟩;obtain ⟨x2,hx2⟩ : ∃ x2 : Int,x2 = x + 1 := ⟨_,rfl⟩;have e1 : wrap64 (s - x) = s2 := by have := HSX.out;rw [hs2];unfold wrap64;omega
   have e2 : wrap64 (ki - 1) = k2 := by have h7 := H6.out;have h8 := HKI.out;rw [hk2];unfold wrap64;omega
   have e3 : wrap64 (x + 1) = x2 := by have := HX.out;rw [hx2];unfold wrap64;omega
   have HS2 := aK hs2;have HK2 := aK hk2;have HX2 := aK hx2;have HC1 := aK c1;have hd1 : decide (wrap64 (x * ki) ≤ s) = true := by rw [hmul];exact decide_eq_true c1
   have hd2 := decide_eq_true c1;clear hmul c1 hx20 hsx hlp hca hfx hs2 hk2 hx2
   go_wp2_with (first | ((with_reducible refine gate_callee (f := 68) rfl ?_);refine goesE (some 33) Try.func68 #[.slice A b.length c] ?_;(with_reducible refine (slices_Clone_int64_int64.calls A c b b _ ?side1 ?side2 HCL.out).mono ?_);(case side1 => exact (Kd.R_reads' HR.out).2.2);(case side2 => exact (Kd.R_reads' HR.out).2.1);rintro e w1 ⟨v1,rfl,ho,hb⟩;refine ⟨_,rfl,?_⟩;have HO1 := aK ho;have HB1 := aK hb;clear ho hb) | ((with_reducible refine gate_builtin (b := .append) (xs := #[.tmp 33,.tmp 35]) rfl ?_);at_builtin;refine Kd.R_append (Kd.int .i64) (w0 := wr) wr.heap.size rfl (.tmp 33) (.tmp 35) 22 2 (.int .i64 0) 8 rfl Try.underlying22 info2 rfl (by decide) (by omega) v1 b x [.int .i64 x] (fun _ => True) (fun _ => False) rfl rfl ?aP (fun _ hk => hk.elim) ?aF ?aO ?aB ?aS ?aL ?_;(case aP => exact rfl);(case aB => exact HB1.out);(case aF => exact (fun _ _ => trivial));(case aO => exact HO1.out);(case aS => exact HB1.out.size);(case aL => have := H6.out;omega);intro v2 w2 ho hb hg hat;have HB2 := aK hb;have HP2 := aK (PS.below HP.out hb);have HR2 := aK (Kd.R_below HR.out hb);have HV2 := aK (show RL w0 gm w2 v2 (b ++ [x]) from Kd.R_lower (Kd.R_mono (Kd.R_bound ho) (fun k_ hk e_ => by have h_ := blk_lt HP.out.cm;have := hk.2.1;omega)) HP.out.bel.size);clear ho hb hg hat) | ((with_reducible refine gate_callee (f := 87) rfl ?_);refine goesE (some 38) Try.func87 #[.int .i64 s2,.int .i64 k2,.int .i64 x,v2,.func (.func 88) #[] (capsP gf gm gb)] ?_;refine (HIH.out w0 bm b7 bf gf gb gm n' B' M' s2 k2 x v2 (b ++ [x]) w2 HP2.out HV2.out HO2.out (by have h_ := HK2.out;have := HKI.out;omega) HX.out.1 HX.out.2.2 (by have h_ := HS2.out;have := HSX.out;omega) (by have h_ := HS2.out;have := HSX.out;omega) (by have := H6.out;rw [List.length_append];simp;omega) (by rw [HS2.out,← HFX.out];exact HCA.out.1)).mono ?_;rintro e w3 ⟨rfl,hp,hk⟩;refine ⟨_,rfl,?_⟩;have HP3 := aK hp;have HK3 := aK hk;have HR3 := aK (R_kp HP2.out HR2.out hk);clear hp hk))
   go_roundg d
   case measure => omega
   case rel =>
    rw [HS2.out,← HFX.out] at HP3;refine ⟨x2,n' + (F x).length * C6,((F x).foldl stepP (B',M')).1,((F x).foldl stepP (B',M')).2,congrArg (Value.int .i64) e3,⟨by have h_ := HX2.out;have := HX.out;have := HX20.out;omega⟩,⟨?_⟩,⟨?_⟩,HP3,HR3,⟨(HK.out.trans (Kp.below HB2.out)).trans HK3.out⟩⟩
    ·rw [HX2.out];exact HCA.out.2
    ·rw [HX2.out,← HF2.out,List.foldl_append]
  ·have hst := loopP_stop (f := F) c1 gk;rw [hst] at HC HF2;have e0 : n' = n + (loopP F ki s 21 low).length * C6 := by have := HC.out;simpa using this
   have e1 : (B',M') = (loopP F ki s 21 low).foldl stepP (B,M) := HF2.out;have hd1 : decide (wrap64 (x * ki) ≤ s) = false := by rw [hmul];exact decide_eq_false c1
   have hd2 := decide_eq_false c1;have E0 := aK e0;have E1 := aK e1;clear hst e0 e1 c1 hmul;go_wp2
   first | go_end0 | refine bodyPost_ret (results_none rfl _ _ _) rfl ?_
   rw [← E0.out,← E1.out];exact ⟨rfl,HP.out,HK.out⟩
theorem each_ok : ∀ k, EachOk k
 | 0 => each_zero
 | k + 1 => each_step k (each_ok k)
def bestP (n k : Int) : List Int × Int := if (1 ≤ n ∧ n ≤ 20) ∧ (1 ≤ k ∧ k ≤ 6 ∧ k ≤ n) then (((parts k.toNat 1 n []).foldl stepP ([], -1000)).1, 0) else ([], 2)
def impl_BestParts.f (_k : Nat) (a0 : Int) (a1 : Int) : Option (List Int × Int) := some (bestP a0 a1)
theorem impl_BestParts.mono : ∀ a0 a1 k, LeO (impl_BestParts.f k a0 a1) (impl_BestParts.f (k + 1) a0 a1) := fun _ _ _ => LeO.refl _
theorem within_is (a b c : Int) : impl_within.f a b c = some (decide (b ≤ a) && decide (a ≤ c)) := by
 unfold impl_within.f
 by_cases h : b ≤ a <;> simp [h]
theorem start_PS {w w7 : World} {bm b7 bf gf gb gm : Nat} {v4 : Value} (hbm : w.heap.size ≤ bm) (hK : Known bm b7 bf 0 w7) (hB : Below w.heap.size w w7) (h1 : w.heap.size ≤ gf) (h2 : w.heap.size ≤ gb) (h3 : w.heap.size ≤ gm)
 (kf : w7.heap[gf]? = some (.cells #[Value.nilFunc] 82 (0,0))) (kb : w7.heap[gb]? = some (.cells #[.slice none 0 0] 22 (0,0))) (km : w7.heap[gm]? = some (.cells #[.int .i64 0] 2 (0,0)))
 (hne : gf ≠ b7 ∧ gf ≠ bf) (hV : Kd.R (Kd.int .i64) 2 w7 w.heap.size (fun k => k ≠ gm) v4 []) : PS w bm b7 bf gf gb gm 0 [] (-1000) (((w7.setCell ⟨gf,0,none⟩ (.func (.func 104) #[] #[.pointer (some ⟨b7,0,none⟩),.pointer (some ⟨bf,0,none⟩)])).setCell ⟨gb,0,none⟩ v4).setCell ⟨gm,0,none⟩ (.int .i64 (-1000))) := by
 have n1 : gf ≠ gb := cell_ne kf kb (by decide);have n2 : gf ≠ gm := cell_ne kf km (by decide);have n3 : gb ≠ gm := cell_ne kb km (by decide);have q2 := hK.apart kb (by decide) (by decide);have q3 := hK.apart km (by decide) (by decide);have q1 : gf ≠ bm := fun e => hK.ne kf (by rw [e])
 have hk1 := hK.far (p := ⟨gf,0,none⟩) ⟨q1,hne.1,hne.2⟩ (.func (.func 104) #[] #[.pointer (some ⟨b7,0,none⟩),.pointer (some ⟨bf,0,none⟩)]);have hk2 := hk1.far (p := ⟨gb,0,none⟩) q2 v4;have hk3 := hk2.far (p := ⟨gm,0,none⟩) q3 (.int .i64 (-1000));refine ⟨hk3,below_set (below_set (below_set hB h1) h2) h3,?_,?_,⟨v4,?_,?_⟩,⟨hbm,h2,h3⟩⟩
 ·exact blk_far (blk_far (blk_put (cs := #[Value.nilFunc]) kf 0 _ rfl) n1 _) n2 _
 ·exact blk_put (cs := #[.int .i64 0]) (blk_far (blk_far km n2.symm _) n3.symm _) 0 _ rfl
 ·exact blk_far (blk_put (cs := #[.slice none 0 0]) (blk_far kb n1.symm _) 0 _ rfl) n3 _
 ·refine Kd.R_far (p := ⟨gm,0,none⟩) (Kd.R_mono (ok' := fun k => k ≠ gm) (Kd.R_far (p := ⟨gb,0,none⟩) (Kd.R_mono (ok' := fun k => k ≠ gm ∧ k ≠ gb) (Kd.R_far (p := ⟨gf,0,none⟩) (Kd.R_mono (ok' := fun k => (k ≠ gm ∧ k ≠ gb) ∧ k ≠ gf) (R_cells hV) (fun k hk => ?_)) (fun k hk => hk.2) _) (fun k hk => hk.1)) (fun k hk => hk.2) _) (fun k hk => hk.1)) (fun k hk => hk) _;obtain ⟨hm,cells,hc⟩ := hk;exact ⟨⟨hm,cell_ne hc kb (by decide)⟩,cell_ne hc kf (by decide)⟩
set_option maxHeartbeats 16000000 in
set_option maxRecDepth 100000 in
theorem impl_BestParts.calls (k : Nat) (a0 : Int) (a1 : Int) (r1 : List Int) (r2 : Int) (w : World) (h : impl_BestParts.f k a0 a1 = some (r1, r2)) :
 Calls Try.prog 42 #[.int .i64 a0,.int .i64 a1] w fun e w' => ∃ v0_ : Value,e = .returned (.tuple #[v0_,.int .i64 r2]) ∧ Kd.R (Kd.int .i64) 2 w' w.heap.size (fun _ => True) v0_ r1 ∧ Below w.heap.size w w' := by
 have h := Option.some.inj h
 by_cases c1 : 1 ≤ a0 ∧ a0 ≤ 20
 rotate_left
 ·have e1 : bestP a0 a1 = ([],2) := by unfold bestP;rw [if_neg (fun q => c1 q.1)]
  rw [e1] at h;obtain ⟨rfl,rfl⟩ := Prod.mk.inj h;have A1 := aK (show impl_within.f a0 1 20 = some false by
   rw [within_is]
   congr 1
   refine Bool.eq_false_iff.2 (fun e => c1 ?_)
   simpa using e)
  clear h e1 c1;go_enter Try.func42,Try.ntmps42
  go_wp2_with (first | ((with_reducible refine gate_dst (N := 10) rfl ?_);(try (refine gate_guard (by rfl) ?_;dsimp only));refine goesE (some 10) Try.func86 #[.int .i64 a0,.int .i64 1,.int .i64 20] ?_;(with_reducible refine (impl_within.calls a0 1 20 false _ A1.out).mono ?_);rintro e w1_10 ⟨rfl,⟨nd10,rfl⟩⟩;refine ⟨_,rfl,?_⟩))
  go_ret2;exact ⟨_,rfl,Kd.R_nil _ _ _ _ _,by repeat (first | exact Below.refl _ _ | apply pw_below_drewN)⟩
 have A1 := aK (show impl_within.f a0 1 20 = some true by
  rw [within_is,decide_eq_true c1.1,decide_eq_true c1.2];rfl)
 obtain ⟨m,hm⟩ : ∃ m : Int,m = if a0 < 6 then a0 else 6 := ⟨_,rfl⟩;have hms : (if a0 < 6 then a0 else 6) = m := hm.symm
 by_cases c2 : 1 ≤ a1 ∧ a1 ≤ 6 ∧ a1 ≤ a0
 rotate_left
 ·have e1 : bestP a0 a1 = ([],2) := by unfold bestP;rw [if_neg (fun q => c2 q.2)]
  rw [e1] at h;obtain ⟨rfl,rfl⟩ := Prod.mk.inj h;have A2 := aK (show impl_within.f a1 1 m = some false by
   rw [within_is]
   congr 1
   refine Bool.eq_false_iff.2 (fun e => c2 ?_);have e' : 1 ≤ a1 ∧ a1 ≤ m := by simpa using e
   rw [hm] at e'
   split at e' <;> omega)
  clear h e1 c1 c2 hm;go_enter Try.func42,Try.ntmps42
  go_wp2_with (first | ((with_reducible refine gate_dst (N := 10) rfl ?_);(try (refine gate_guard (by rfl) ?_;dsimp only));refine goesE (some 10) Try.func86 #[.int .i64 a0,.int .i64 1,.int .i64 20] ?_;(with_reducible refine (impl_within.calls a0 1 20 true _ A1.out).mono ?_);rintro e w1_10 ⟨rfl,⟨nd10,rfl⟩⟩;refine ⟨_,rfl,?_⟩) | ((with_reducible refine gate_dst (N := 16) rfl ?_);(try (refine gate_guard (by rfl) ?_;dsimp only));refine goesE (some 16) Try.func86 #[.int .i64 a1,.int .i64 1,.int .i64 m] ?_;(with_reducible refine (impl_within.calls a1 1 m false _ A2.out).mono ?_);rintro e w1_16 ⟨rfl,⟨nd16,rfl⟩⟩;refine ⟨_,rfl,?_⟩))
  go_ret2;exact ⟨_,rfl,Kd.R_nil _ _ _ _ _,by repeat (first | exact Below.refl _ _ | apply pw_below_drewN)⟩
 have e1 : bestP a0 a1 = (((parts a1.toNat 1 a0 []).foldl stepP ([],-1000)).1,0) := by unfold bestP;rw [if_pos ⟨c1,c2⟩]
 rw [e1] at h;obtain ⟨rfl,rfl⟩ := Prod.mk.inj h;have A2 := aK (show impl_within.f a1 1 m = some true by
  rw [within_is,decide_eq_true c2.1,decide_eq_true (show a1 ≤ m by rw [hm];split <;> omega)];rfl)
 have HKA := aK (show a1 = ((a1.toNat : Nat) : Int) by omega);have HA0 := aK (show 0 ≤ a0 ∧ a0 ≤ 20 by omega);have HA1 := aK (show ([] : List Int).length + a1.toNat ≤ 6 by simp;omega);have HCO := aK (show 0 + (parts a1.toNat 1 a0 []).length * C6 < 4294967296 by
  have hl := parts_len ⟨a0.toNat,by omega⟩ ⟨a1.toNat,by omega⟩;simp only at hl;rw [show ((a0.toNat : Nat) : Int) = a0 by omega] at hl;have hc : C6 = 1957 := by decide
  rw [hc]
  omega)
 clear h e1 c1 c2 hm;go_enter Try.func42,Try.ntmps42
 go_wp2_with (first | ((with_reducible refine gate_dst (N := 10) rfl ?_);(try (refine gate_guard (by rfl) ?_;dsimp only));refine goesE (some 10) Try.func86 #[.int .i64 a0,.int .i64 1,.int .i64 20] ?_;(with_reducible refine (impl_within.calls a0 1 20 true _ A1.out).mono ?_);rintro e w1_10 ⟨rfl,⟨nd10,rfl⟩⟩;refine ⟨_,rfl,?_⟩) | ((with_reducible refine gate_dst (N := 16) rfl ?_);(try (refine gate_guard (by rfl) ?_;dsimp only));refine goesE (some 16) Try.func86 #[.int .i64 a1,.int .i64 1,.int .i64 m] ?_;(with_reducible refine (impl_within.calls a1 1 m true _ A2.out).mono ?_);rintro e w1_16 ⟨rfl,⟨nd16,rfl⟩⟩;refine ⟨_,rfl,?_⟩) | ((with_reducible refine gate_callee (f := 76) rfl ?_);refine goesE (some 19) Try.func76 #[] ?_;refine (values.calls _).mono ?_;rintro e w3 ⟨bm,b7,bf,rfl,hbm,hK,hb⟩;refine ⟨_,rfl,?_⟩;have HBM := aK (show w.heap.size ≤ bm from hbm);have HK := aK hK;have HB := aK (show Below w.heap.size w w3 from below_step (by repeat (first | exact Below.refl _ _ | apply pw_below_drewN)) hb);clear hbm hK hb) | ((with_reducible refine gate_dst (N := 20) rfl ?_);refine Kd.R_lit (Kd.int .i64) _ 2 ?hg (N := 20) ?hd (xs := ([] : List Int)) (inner := []) (ok := fun _ => True) (okp := fun _ => True) ?hr ?hp (fun _ hk => hk) trivial (Below.refl _ _) (Nat.le_refl _) (by simp) ?_;(case hd => rfl);(case hg => rfl);(case hr => first | (go_simp;done) | (go_simp;rfl));(case hp => exact (Reps.none _ _));intro v4 w4 ho hb hg_ hnew_;clear hg_ hnew_;have HV := aK (Kd.R_lower ho HB.out.size);replace HK := aK (HK.out.below hb);replace HB := aK (below_step HB.out hb);clear ho hb;obtain ⟨A4,c4,e4⟩ := Kd.R_slice HV.out;subst e4) | ((with_reducible refine gate_dst (N := 6) rfl ?_);refine boxE 6 #[Value.nilFunc] 82 ?_;intro gf hg w5 hbox hb;have HNE := aK (show gf ≠ b7 ∧ gf ≠ bf from by have h1_ := blk_lt HK.out.2.1;have h2_ := blk_lt HK.out.2.2;omega);have Ggf := aK (show w.heap.size ≤ gf from hg ▸ HB.out.size);have n0_ := aK (HK.out.below hb);have n1_ := aK (below_step HB.out hb);have n2_ := aK (Kd.R_below HV.out hb);have Kgf := aK hbox;clear HK HB HV hg hbox hb;have HK := n0_;have HB := n1_;have HV := n2_;clear n0_ n1_ n2_) | ((with_reducible refine gate_dst (N := 7) rfl ?_);refine boxE 7 #[.slice none 0 0] 22 ?_;intro gb hg w6 hbox hb;have Ggb := aK (show w.heap.size ≤ gb from hg ▸ HB.out.size);have n0_ := aK (HK.out.below hb);have n1_ := aK (below_step HB.out hb);have n2_ := aK (Kd.R_below HV.out hb);have mgf_ := aK (blk_below (g := gf) Kgf.out hb);have Kgb := aK hbox;clear HK HB HV hg hbox hb;have HK := n0_;have HB := n1_;have HV := n2_;clear n0_ n1_ n2_;replace Kgf := mgf_;clear mgf_) | ((with_reducible refine gate_dst (N := 8) rfl ?_);refine boxE 8 #[.int .i64 0] 2 ?_;intro gm hg w7 hbox hb;have Ggm := aK (show w.heap.size ≤ gm from hg ▸ HB.out.size);have n0_ := aK (HK.out.below hb);have n1_ := aK (below_step HB.out hb);have n2_ := aK (Kd.R_below (Kd.R_mono (ok' := fun k => k ≠ gm) (Kd.R_bound HV.out) (fun k_ hk_ e_ => by have h_ := hk_.2.2.1;omega)) hb);have mgf_ := aK (blk_below (g := gf) Kgf.out hb);have mgb_ := aK (blk_below (g := gb) Kgb.out hb);have Kgm := aK hbox;clear HK HB HV hg hbox hb;have HK := n0_;have HB := n1_;have HV := n2_;clear n0_ n1_ n2_;replace Kgf := mgf_;clear mgf_;replace Kgb := mgb_;clear mgb_;have hzf : w7.cell? ⟨gf,0,none⟩ = some Value.nilFunc := (blk_cell Kgf.out 0).trans rfl;have hff := blk_frozen Kgf.out 0;have hzb : w7.cell? ⟨gb,0,none⟩ = some (.slice none 0 0) := (blk_cell Kgb.out 0).trans rfl;have hfb := blk_frozen Kgb.out 0;have hzm : w7.cell? ⟨gm,0,none⟩ = some (.int .i64 0) := (blk_cell Kgm.out 0).trans rfl;have hfm := blk_frozen Kgm.out 0;have ne1 : gf ≠ gb := cell_ne Kgf.out Kgb.out (by decide);have ne2 : gf ≠ gm := cell_ne Kgf.out Kgm.out (by decide);have ne3 : gb ≠ gm := cell_ne Kgb.out Kgm.out (by decide);have ne4 : gb ≠ gf := Ne.symm ne1;have ne5 : gm ≠ gf := Ne.symm ne2;have ne6 : gm ≠ gb := Ne.symm ne3) | ((with_reducible refine gate_callee (f := 87) rfl ?_);have hps : PS w bm b7 bf gf gb gm 0 [] (-1000) (((w7.setCell ⟨gf,0,none⟩ (.func (.func 104) #[] #[.pointer (some ⟨b7,0,none⟩),.pointer (some ⟨bf,0,none⟩)])).setCell ⟨gb,0,none⟩ (.slice A4 0 c4)).setCell ⟨gm,0,none⟩ (.int .i64 (-1000))) := start_PS HBM.out HK.out HB.out Ggf.out Ggb.out Ggm.out Kgf.out Kgb.out Kgm.out HNE.out HV.out;refine goesE (some 24) Try.func87 #[.int .i64 a0,.int .i64 a1,.int .i64 1,.slice none 0 0,.func (.func 88) #[] (capsP gf gm gb)] ?_;refine (each_ok a1.toNat w bm b7 bf gf gb gm 0 [] (-1000) a0 a1 1 (.slice none 0 0) [] _ hps (Kd.R_nil _ _ _ _ _) (fun x hx => by cases hx) HKA.out (by decide) (by decide) HA0.out.1 HA0.out.2 HA1.out HCO.out).mono ?_;rintro e w8 ⟨rfl,hp,hk⟩;refine ⟨_,rfl,?_⟩;have HP := aK hp;clear hps hp hk hzf hzb hzm hff hfb hfm ne1 ne2 ne3 ne4 ne5 ne6;obtain ⟨vb,hvb,hRb⟩ := HP.out.cb;have HRB := aK hRb;clear hRb;have hzb : w8.cell? ⟨gb,0,none⟩ = some vb := (blk_cell hvb 0).trans rfl;have hfb := blk_frozen hvb 0;clear hvb))
 go_ret2;exact ⟨_,rfl,Kd.R_mono HRB.out (fun _ _ => trivial),HP.out.bel⟩
end Go.Proofs.Ytkbjoiebaphdoaa.PA
namespace Go.Proofs.Ytkbjoiebaphdoaa.PA
open Go.RowKit Go.Proofs.YtkbjoiebaphdoaaW.PrintWords Go.Proofs.YtkbjoiebaphdoaaW.PrintLast Go.Proofs.YtkbjoiebaphdoaaW.PrintMore
attribute [local go_sem] max2_int min2_int max_two min_two max_three min_three max_four min_four   -- for this text's walks alone
set_option linter.unusedVariables false
set_option linter.unusedSimpArgs false
theorem impl_BestParts.callsV (k : Nat) (a0 : Int) (a1 : Int) (r1 : List Int) (r2 : Int) (w : World) (h : impl_BestParts.f k a0 a1 = some (r1, r2)) :
 Calls Try.prog 42 #[.int .i64 a0,.int .i64 a1] w fun e w' => ∃ v0_ : Value,e = .returned (.tuple #[v0_,.int .i64 r2]) ∧ Kd.V (Kd.int .i64) 2 w' w.heap.size (fun k_ => (w.heap.size ≤ k_)) v0_ r1 ∧ Below w.heap.size w w' := by
 refine (impl_BestParts.calls k a0 a1 r1 r2 w h).mono ?_;rintro e w' ⟨v,rfl,hv,hb⟩;exact ⟨v,rfl,Kd.R_V (Kd.R_mono (Kd.R_bound hv) (fun _ hk => hk.2.1)),hb⟩
/-! ### laws_FnAnswers: function 13 -/
mutual
def laws_FnAnswers.j0 : Nat → List Int → Bool → Int → Bool → Int → Bool → List Int → List Int → Option (Bool)
 | 0,_,_,_,_,_,_,_,_ => none
 | k + 1,x0,x4,x5,x6,x7,x74,x584000,x584001 => if x74 = true then (some false) else ((impl_AfterOpening.f k x584000 x584001 x4 x5).bind fun bt588 => ((spec_AfterOpening.f k x584000 x584001 x4 x5).bind fun bt596 => (if bt588.2.2 = bt596.2.2 then ((laws_ending9.f k bt588.1 bt588.2.1 bt596.1 bt596.2.1).bind fun t604 => (laws_FnAnswers.j1 k x0 x4 x5 x6 x7 bt588.2.2 (!t604) x584000 x584001 bt588.1 bt588.2.1)) else (laws_FnAnswers.j1 k x0 x4 x5 x6 x7 bt588.2.2 true x584000 x584001 bt588.1 bt588.2.1))))
def laws_FnAnswers.j1 : Nat → List Int → Bool → Int → Bool → Int → Int → Bool → List Int → List Int → List Int → List Int → Option (Bool)
 | 0,_,_,_,_,_,_,_,_,_,_,_ => none
 | k + 1,x0,x4,x5,x6,x7,x11,x97,x584000,x584001,x596000,x596001 => if x97 = true then (some false) else ((impl_SparingNumber.f k x584000 x584001).bind fun bt605 => ((spec_SparingNumber.f k x584000 x584001).bind fun bt607 => (if bt605.2 = bt607.2 then (laws_FnAnswers.j2 k x0 x4 x5 x6 x7 x11 (bt605.1 != bt607.1) x584000 x584001 x596000 x596001) else (laws_FnAnswers.j2 k x0 x4 x5 x6 x7 x11 true x584000 x584001 x596000 x596001))))
def laws_FnAnswers.j2 : Nat → List Int → Bool → Int → Bool → Int → Int → Bool → List Int → List Int → List Int → List Int → Option (Bool)
 | 0,_,_,_,_,_,_,_,_,_,_,_ => none
 | k + 1,x0,x4,x5,x6,x7,x11,x115,x584000,x584001,x596000,x596001 => if x115 = true then (some false) else ((impl_CountLong.f k x584000 x584001).bind fun bt609 => ((spec_CountLong.f k x584000 x584001).bind fun bt611 => (if bt609.2 = bt611.2 then (laws_FnAnswers.j3 k x0 x4 x5 x6 x7 x11 (bt609.1 != bt611.1) x584000 x584001 x596000 x596001) else (laws_FnAnswers.j3 k x0 x4 x5 x6 x7 x11 true x584000 x584001 x596000 x596001))))
def laws_FnAnswers.j3 : Nat → List Int → Bool → Int → Bool → Int → Int → Bool → List Int → List Int → List Int → List Int → Option (Bool)
 | 0,_,_,_,_,_,_,_,_,_,_,_ => none
 | k + 1,x0,x4,x5,x6,x7,x11,x133,x584000,x584001,x596000,x596001 => if x133 = true then (some false) else ((spec_DrawTurnsOf.f k x0).bind fun bt613 => ((impl_TurnsOf.f bt613.1 bt613.2.1 bt613.2.2).bind fun bt616 => ((spec_TurnsOf.f bt613.1 bt613.2.1 bt613.2.2).bind fun bt618 => (if bt616.2 = bt618.2 then (laws_FnAnswers.j4 k x0 x4 x5 x6 x7 x11 (bt616.1 != bt618.1) x584000 x584001 x596000 x596001) else (laws_FnAnswers.j4 k x0 x4 x5 x6 x7 x11 true x584000 x584001 x596000 x596001)))))
def laws_FnAnswers.j4 : Nat → List Int → Bool → Int → Bool → Int → Int → Bool → List Int → List Int → List Int → List Int → Option (Bool)
 | 0,_,_,_,_,_,_,_,_,_,_,_ => none
 | k + 1,x0,x4,x5,x6,x7,x11,x161,x584000,x584001,x596000,x596001 => if x161 = true then (some false) else ((spec_DrawBestParts.f k x0).bind fun bt620 => ((impl_BestParts.f k bt620.1 bt620.2).bind fun bt622 => ((spec_BestParts.f k bt620.1 bt620.2).bind fun bt626 => (if bt622.2 = bt626.2 then ((laws_likeInts.f k bt622.1 bt626.1).bind fun t630 => (laws_FnAnswers.j5 k x4 x5 x6 x7 x11 bt620.1 bt620.2 bt622.1 bt622.2 (!t630) x584000 x584001 x596000 x596001)) else (laws_FnAnswers.j5 k x4 x5 x6 x7 x11 bt620.1 bt620.2 bt622.1 bt622.2 true x584000 x584001 x596000 x596001)))))
def laws_FnAnswers.j5 : Nat → Bool → Int → Bool → Int → Int → Int → Int → List Int → Int → Bool → List Int → List Int → List Int → List Int → Option (Bool)
 | 0,_,_,_,_,_,_,_,_,_,_,_,_,_,_ => none
 | k + 1,x4,x5,x6,x7,x11,x29,x30,x31,x32,x187,x584000,x584001,x596000,x596001 => if x187 = true then (some false) else (if x32 = 0 then ((laws_sum.f k x31).bind fun t631 => (if t631 = x29 then (laws_FnAnswers.j6 k x4 x5 x6 x7 x11 ((x31.length : Int) != x30) x584000 x584001 x596000 x596001) else (laws_FnAnswers.j6 k x4 x5 x6 x7 x11 true x584000 x584001 x596000 x596001))) else (laws_FnAnswers.j6 k x4 x5 x6 x7 x11 false x584000 x584001 x596000 x596001))
def laws_FnAnswers.j6 : Nat → Bool → Int → Bool → Int → Int → Bool → List Int → List Int → List Int → List Int → Option (Bool)
 | 0,_,_,_,_,_,_,_,_,_,_ => none
 | k + 1,x4,x5,x6,x7,x11,x201,x584000,x584001,x596000,x596001 => if x201 = true then (some false) else (if x7 = 0 then ((impl_EndingValue.f k x584000 x584001).bind fun bt632 => ((impl_EndingValue.f k x596000 x596001).bind fun bt634 => ((impl_BoxesOf.f k x584000 x584001).bind fun bt636 => ((impl_BoxesOf.f k x596000 x596001).bind fun bt638 => (if x11 = 0 then (if bt632.2 = 0 then (if bt634.2 = 0 then (if bt636.2 = 0 then (if bt638.2 = 0 then (laws_FnAnswers.j7 k x4 x5 x6 bt632.1 bt634.1 (bt636.1 != (wrap64 (bt638.1 + x5)))) else (laws_FnAnswers.j7 k x4 x5 x6 bt632.1 bt634.1 true)) else (laws_FnAnswers.j7 k x4 x5 x6 bt632.1 bt634.1 true)) else (laws_FnAnswers.j7 k x4 x5 x6 bt632.1 bt634.1 true)) else (laws_FnAnswers.j7 k x4 x5 x6 bt632.1 bt634.1 true)) else (laws_FnAnswers.j7 k x4 x5 x6 bt632.1 bt634.1 true)))))) else (if x6 = true then (some false) else (some (x11 == x7))))
def laws_FnAnswers.j7 : Nat → Bool → Int → Bool → Int → Int → Bool → Option (Bool)
 | 0,_,_,_,_,_,_ => none
 | k + 1,x4,x5,x6,x35,x37,x255 => if x255 = true then (some false) else (if x4 = true then (if x6 = true then (if (wrap64 ((wrap64 (x5 - 8)) - x37)) > (wrap64 (x5 + x37)) then (some (decide (x35 ≥ (wrap64 (-(wrap64 ((wrap64 (x5 - 8)) - x37))))))) else (some false)) else (if (wrap64 (x5 + x37)) ≥ (wrap64 ((wrap64 (x5 - 8)) - x37)) then (some (decide (x35 ≥ (wrap64 (-(wrap64 (x5 + x37))))))) else (some false))) else (if x6 = true then (if x5 > 2 then (if (wrap64 ((wrap64 (x5 - 4)) - x37)) > (wrap64 (x5 + x37)) then (some (decide (x35 ≥ (wrap64 (-(wrap64 ((wrap64 (x5 - 4)) - x37))))))) else (some false)) else (some false)) else (if x5 < 3 then (some (decide (x35 ≥ (wrap64 (-(wrap64 (x5 + x37))))))) else (if (wrap64 (x5 + x37)) ≥ (wrap64 ((wrap64 (x5 - 4)) - x37)) then (some (decide (x35 ≥ (wrap64 (-(wrap64 (x5 + x37))))))) else (some false)))))
end
def laws_FnAnswers.f (k : Nat) (l0 : List Int) : Option (Bool) := (laws_big.f l0).bind fun t574 => (if t574 = true then (some true) else ((spec_DrawBestAnswer.f k l0).bind fun bt575 => ((impl_BestAnswer.f k bt575.1 bt575.2.1 bt575.2.2.1 bt575.2.2.2).bind fun bt584 => ((spec_BestAnswer.f k bt575.1 bt575.2.1 bt575.2.2.1 bt575.2.2.2).bind fun bt586 => (if bt584.2 = bt586.2 then (laws_FnAnswers.j0 k l0 bt575.2.2.1 bt575.2.2.2 bt584.1 bt584.2 (bt584.1 != bt586.1) bt575.1 bt575.2.1) else (laws_FnAnswers.j0 k l0 bt575.2.2.1 bt575.2.2.2 bt584.1 bt584.2 true bt575.1 bt575.2.1))))))
theorem laws_FnAnswers.mono_l : ∀ k, (∀ y0 y1 y2 y3 y4 y5 y6 y7, LeO (laws_FnAnswers.j0 k y0 y1 y2 y3 y4 y5 y6 y7) (laws_FnAnswers.j0 (k + 1) y0 y1 y2 y3 y4 y5 y6 y7)) ∧ (∀ y0 y1 y2 y3 y4 y5 y6 y7 y8 y9 y10, LeO (laws_FnAnswers.j1 k y0 y1 y2 y3 y4 y5 y6 y7 y8 y9 y10) (laws_FnAnswers.j1 (k + 1) y0 y1 y2 y3 y4 y5 y6 y7 y8 y9 y10)) ∧ (∀ y0 y1 y2 y3 y4 y5 y6 y7 y8 y9 y10, LeO (laws_FnAnswers.j2 k y0 y1 y2 y3 y4 y5 y6 y7 y8 y9 y10) (laws_FnAnswers.j2 (k + 1) y0 y1 y2 y3 y4 y5 y6 y7 y8 y9 y10)) ∧ (∀ y0 y1 y2 y3 y4 y5 y6 y7 y8 y9 y10, LeO (laws_FnAnswers.j3 k y0 y1 y2 y3 y4 y5 y6 y7 y8 y9 y10) (laws_FnAnswers.j3 (k + 1) y0 y1 y2 y3 y4 y5 y6 y7 y8 y9 y10)) ∧ (∀ y0 y1 y2 y3 y4 y5 y6 y7 y8 y9 y10, LeO (laws_FnAnswers.j4 k y0 y1 y2 y3 y4 y5 y6 y7 y8 y9 y10) (laws_FnAnswers.j4 (k + 1) y0 y1 y2 y3 y4 y5 y6 y7 y8 y9 y10)) ∧ (∀ y0 y1 y2 y3 y4 y5 y6 y7 y8 y9 y10 y11 y12 y13, LeO (laws_FnAnswers.j5 k y0 y1 y2 y3 y4 y5 y6 y7 y8 y9 y10 y11 y12 y13) (laws_FnAnswers.j5 (k + 1) y0 y1 y2 y3 y4 y5 y6 y7 y8 y9 y10 y11 y12 y13)) ∧ (∀ y0 y1 y2 y3 y4 y5 y6 y7 y8 y9, LeO (laws_FnAnswers.j6 k y0 y1 y2 y3 y4 y5 y6 y7 y8 y9) (laws_FnAnswers.j6 (k + 1) y0 y1 y2 y3 y4 y5 y6 y7 y8 y9)) ∧ (∀ y0 y1 y2 y3 y4 y5, LeO (laws_FnAnswers.j7 k y0 y1 y2 y3 y4 y5) (laws_FnAnswers.j7 (k + 1) y0 y1 y2 y3 y4 y5))
 | 0 => ⟨fun _ _ _ _ _ _ _ _ r h => by simp [laws_FnAnswers.j0] at h,fun _ _ _ _ _ _ _ _ _ _ _ r h => by simp [laws_FnAnswers.j1] at h,fun _ _ _ _ _ _ _ _ _ _ _ r h => by simp [laws_FnAnswers.j2] at h,fun _ _ _ _ _ _ _ _ _ _ _ r h => by simp [laws_FnAnswers.j3] at h,fun _ _ _ _ _ _ _ _ _ _ _ r h => by simp [laws_FnAnswers.j4] at h,fun _ _ _ _ _ _ _ _ _ _ _ _ _ _ r h => by simp [laws_FnAnswers.j5] at h,fun _ _ _ _ _ _ _ _ _ _ r h => by simp [laws_FnAnswers.j6] at h,fun _ _ _ _ _ _ r h => by simp [laws_FnAnswers.j7] at h⟩
 | k + 1 => by
  obtain ⟨ih0,ih1,ih2,ih3,ih4,ih5,ih6,ih7⟩ := laws_FnAnswers.mono_l k;refine ⟨?_,?_,?_,?_,?_,?_,?_,?_⟩
  ·intro y0 y1 y2 y3 y4 y5 y6 y7;unfold laws_FnAnswers.j0
   repeat' first
   | (with_reducible exact ih0 _ _ _ _ _ _ _ _)
   | (with_reducible exact ih1 _ _ _ _ _ _ _ _ _ _ _)
   | (with_reducible exact ih2 _ _ _ _ _ _ _ _ _ _ _)
   | (with_reducible exact ih3 _ _ _ _ _ _ _ _ _ _ _)
   | (with_reducible exact ih4 _ _ _ _ _ _ _ _ _ _ _)
   | (with_reducible exact ih5 _ _ _ _ _ _ _ _ _ _ _ _ _ _)
   | (with_reducible exact ih6 _ _ _ _ _ _ _ _ _ _)
   | (with_reducible exact ih7 _ _ _ _ _ _)
   | (with_reducible exact impl_AfterOpening.mono _ _ _ _ _)
   | (with_reducible exact impl_BestAnswer.mono _ _ _ _ _)
   | (with_reducible exact impl_BestParts.mono _ _ _)
   | (with_reducible exact impl_BoxesOf.mono _ _ _)
   | (with_reducible exact impl_CountLong.mono _ _ _)
   | (with_reducible exact impl_EndingValue.mono _ _ _)
   | (with_reducible exact impl_SparingNumber.mono _ _ _)
   | (with_reducible exact laws_ending9.mono _ _ _ _ _)
   | (with_reducible exact laws_likeInts.mono _ _ _)
   | (with_reducible exact laws_sum.mono _ _)
   | (with_reducible exact spec_AfterOpening.mono _ _ _ _ _)
   | (with_reducible exact spec_BestAnswer.mono _ _ _ _ _)
   | (with_reducible exact spec_BestParts.mono _ _ _)
   | (with_reducible exact spec_CountLong.mono _ _ _)
   | (with_reducible exact spec_DrawBestAnswer.mono _ _)
   | (with_reducible exact spec_DrawBestParts.mono _ _)
   | (with_reducible exact spec_DrawTurnsOf.mono _ _)
   | (with_reducible exact spec_SparingNumber.mono _ _ _)
   | (with_reducible exact LeO.refl _)
   | (with_reducible exact LeO.none _)
   | (with_reducible refine LeO.ite ?_ ?_)
   | (with_reducible refine LeO.bind ?_ (fun _ => ?_))
   | exact ih0 _ _ _ _ _ _ _ _
   | exact ih1 _ _ _ _ _ _ _ _ _ _ _
   | exact ih2 _ _ _ _ _ _ _ _ _ _ _
   | exact ih3 _ _ _ _ _ _ _ _ _ _ _
   | exact ih4 _ _ _ _ _ _ _ _ _ _ _
   | exact ih5 _ _ _ _ _ _ _ _ _ _ _ _ _ _
   | exact ih6 _ _ _ _ _ _ _ _ _ _
   | exact ih7 _ _ _ _ _ _
   | exact impl_AfterOpening.mono _ _ _ _ _
   | exact impl_BestAnswer.mono _ _ _ _ _
   | exact impl_BestParts.mono _ _ _
   | exact impl_BoxesOf.mono _ _ _
   | exact impl_CountLong.mono _ _ _
   | exact impl_EndingValue.mono _ _ _
   | exact impl_SparingNumber.mono _ _ _
   | exact laws_ending9.mono _ _ _ _ _
   | exact laws_likeInts.mono _ _ _
   | exact laws_sum.mono _ _
   | exact spec_AfterOpening.mono _ _ _ _ _
   | exact spec_BestAnswer.mono _ _ _ _ _
   | exact spec_BestParts.mono _ _ _
   | exact spec_CountLong.mono _ _ _
   | exact spec_DrawBestAnswer.mono _ _
   | exact spec_DrawBestParts.mono _ _
   | exact spec_DrawTurnsOf.mono _ _
   | exact spec_SparingNumber.mono _ _ _
   | exact LeO.none _
   | refine LeO.ite ?_ ?_
   | refine LeO.bind ?_ (fun _ => ?_)
  ·intro y0 y1 y2 y3 y4 y5 y6 y7 y8 y9 y10;unfold laws_FnAnswers.j1
   repeat' first
   | (with_reducible exact ih0 _ _ _ _ _ _ _ _)
   | (with_reducible exact ih1 _ _ _ _ _ _ _ _ _ _ _)
   | (with_reducible exact ih2 _ _ _ _ _ _ _ _ _ _ _)
   | (with_reducible exact ih3 _ _ _ _ _ _ _ _ _ _ _)
   | (with_reducible exact ih4 _ _ _ _ _ _ _ _ _ _ _)
   | (with_reducible exact ih5 _ _ _ _ _ _ _ _ _ _ _ _ _ _)
   | (with_reducible exact ih6 _ _ _ _ _ _ _ _ _ _)
   | (with_reducible exact ih7 _ _ _ _ _ _)
   | (with_reducible exact impl_AfterOpening.mono _ _ _ _ _)
   | (with_reducible exact impl_BestAnswer.mono _ _ _ _ _)
   | (with_reducible exact impl_BestParts.mono _ _ _)
   | (with_reducible exact impl_BoxesOf.mono _ _ _)
   | (with_reducible exact impl_CountLong.mono _ _ _)
   | (with_reducible exact impl_EndingValue.mono _ _ _)
   | (with_reducible exact impl_SparingNumber.mono _ _ _)
   | (with_reducible exact laws_ending9.mono _ _ _ _ _)
   | (with_reducible exact laws_likeInts.mono _ _ _)
   | (with_reducible exact laws_sum.mono _ _)
   | (with_reducible exact spec_AfterOpening.mono _ _ _ _ _)
   | (with_reducible exact spec_BestAnswer.mono _ _ _ _ _)
   | (with_reducible exact spec_BestParts.mono _ _ _)
   | (with_reducible exact spec_CountLong.mono _ _ _)
   | (with_reducible exact spec_DrawBestAnswer.mono _ _)
   | (with_reducible exact spec_DrawBestParts.mono _ _)
   | (with_reducible exact spec_DrawTurnsOf.mono _ _)
   | (with_reducible exact spec_SparingNumber.mono _ _ _)
   | (with_reducible exact LeO.refl _)
   | (with_reducible exact LeO.none _)
   | (with_reducible refine LeO.ite ?_ ?_)
   | (with_reducible refine LeO.bind ?_ (fun _ => ?_))
   | exact ih0 _ _ _ _ _ _ _ _
   | exact ih1 _ _ _ _ _ _ _ _ _ _ _
   | exact ih2 _ _ _ _ _ _ _ _ _ _ _
   | exact ih3 _ _ _ _ _ _ _ _ _ _ _
   | exact ih4 _ _ _ _ _ _ _ _ _ _ _
   | exact ih5 _ _ _ _ _ _ _ _ _ _ _ _ _ _
   | exact ih6 _ _ _ _ _ _ _ _ _ _
   | exact ih7 _ _ _ _ _ _
   | exact impl_AfterOpening.mono _ _ _ _ _
   | exact impl_BestAnswer.mono _ _ _ _ _
   | exact impl_BestParts.mono _ _ _
   | exact impl_BoxesOf.mono _ _ _
   | exact impl_CountLong.mono _ _ _
   | exact impl_EndingValue.mono _ _ _
   | exact impl_SparingNumber.mono _ _ _
   | exact laws_ending9.mono _ _ _ _ _
   | exact laws_likeInts.mono _ _ _
   | exact laws_sum.mono _ _
   | exact spec_AfterOpening.mono _ _ _ _ _
   | exact spec_BestAnswer.mono _ _ _ _ _
   | exact spec_BestParts.mono _ _ _
   | exact spec_CountLong.mono _ _ _
   | exact spec_DrawBestAnswer.mono _ _
   | exact spec_DrawBestParts.mono _ _
   | exact spec_DrawTurnsOf.mono _ _
   | exact spec_SparingNumber.mono _ _ _
   | exact LeO.none _
   | refine LeO.ite ?_ ?_
   | refine LeO.bind ?_ (fun _ => ?_)
  ·intro y0 y1 y2 y3 y4 y5 y6 y7 y8 y9 y10;unfold laws_FnAnswers.j2
   repeat' first
   | (with_reducible exact ih0 _ _ _ _ _ _ _ _)
   | (with_reducible exact ih1 _ _ _ _ _ _ _ _ _ _ _)
   | (with_reducible exact ih2 _ _ _ _ _ _ _ _ _ _ _)
   | (with_reducible exact ih3 _ _ _ _ _ _ _ _ _ _ _)
   | (with_reducible exact ih4 _ _ _ _ _ _ _ _ _ _ _)
   | (with_reducible exact ih5 _ _ _ _ _ _ _ _ _ _ _ _ _ _)
   | (with_reducible exact ih6 _ _ _ _ _ _ _ _ _ _)
   | (with_reducible exact ih7 _ _ _ _ _ _)
   | (with_reducible exact impl_AfterOpening.mono _ _ _ _ _)
   | (with_reducible exact impl_BestAnswer.mono _ _ _ _ _)
   | (with_reducible exact impl_BestParts.mono _ _ _)
   | (with_reducible exact impl_BoxesOf.mono _ _ _)
   | (with_reducible exact impl_CountLong.mono _ _ _)
   | (with_reducible exact impl_EndingValue.mono _ _ _)
   | (with_reducible exact impl_SparingNumber.mono _ _ _)
   | (with_reducible exact laws_ending9.mono _ _ _ _ _)
   | (with_reducible exact laws_likeInts.mono _ _ _)
   | (with_reducible exact laws_sum.mono _ _)
   | (with_reducible exact spec_AfterOpening.mono _ _ _ _ _)
   | (with_reducible exact spec_BestAnswer.mono _ _ _ _ _)
   | (with_reducible exact spec_BestParts.mono _ _ _)
   | (with_reducible exact spec_CountLong.mono _ _ _)
   | (with_reducible exact spec_DrawBestAnswer.mono _ _)
   | (with_reducible exact spec_DrawBestParts.mono _ _)
   | (with_reducible exact spec_DrawTurnsOf.mono _ _)
   | (with_reducible exact spec_SparingNumber.mono _ _ _)
   | (with_reducible exact LeO.refl _)
   | (with_reducible exact LeO.none _)
   | (with_reducible refine LeO.ite ?_ ?_)
   | (with_reducible refine LeO.bind ?_ (fun _ => ?_))
   | exact ih0 _ _ _ _ _ _ _ _
   | exact ih1 _ _ _ _ _ _ _ _ _ _ _
   | exact ih2 _ _ _ _ _ _ _ _ _ _ _
   | exact ih3 _ _ _ _ _ _ _ _ _ _ _
   | exact ih4 _ _ _ _ _ _ _ _ _ _ _
   | exact ih5 _ _ _ _ _ _ _ _ _ _ _ _ _ _
   | exact ih6 _ _ _ _ _ _ _ _ _ _
   | exact ih7 _ _ _ _ _ _
   | exact impl_AfterOpening.mono _ _ _ _ _
   | exact impl_BestAnswer.mono _ _ _ _ _
   | exact impl_BestParts.mono _ _ _
   | exact impl_BoxesOf.mono _ _ _
   | exact impl_CountLong.mono _ _ _
   | exact impl_EndingValue.mono _ _ _
   | exact impl_SparingNumber.mono _ _ _
   | exact laws_ending9.mono _ _ _ _ _
   | exact laws_likeInts.mono _ _ _
   | exact laws_sum.mono _ _
   | exact spec_AfterOpening.mono _ _ _ _ _
   | exact spec_BestAnswer.mono _ _ _ _ _
   | exact spec_BestParts.mono _ _ _
   | exact spec_CountLong.mono _ _ _
   | exact spec_DrawBestAnswer.mono _ _
   | exact spec_DrawBestParts.mono _ _
   | exact spec_DrawTurnsOf.mono _ _
   | exact spec_SparingNumber.mono _ _ _
   | exact LeO.none _
   | refine LeO.ite ?_ ?_
   | refine LeO.bind ?_ (fun _ => ?_)
  ·intro y0 y1 y2 y3 y4 y5 y6 y7 y8 y9 y10;unfold laws_FnAnswers.j3
   repeat' first
   | (with_reducible exact ih0 _ _ _ _ _ _ _ _)
   | (with_reducible exact ih1 _ _ _ _ _ _ _ _ _ _ _)
   | (with_reducible exact ih2 _ _ _ _ _ _ _ _ _ _ _)
   | (with_reducible exact ih3 _ _ _ _ _ _ _ _ _ _ _)
   | (with_reducible exact ih4 _ _ _ _ _ _ _ _ _ _ _)
   | (with_reducible exact ih5 _ _ _ _ _ _ _ _ _ _ _ _ _ _)
   | (with_reducible exact ih6 _ _ _ _ _ _ _ _ _ _)
   | (with_reducible exact ih7 _ _ _ _ _ _)
   | (with_reducible exact impl_AfterOpening.mono _ _ _ _ _)
   | (with_reducible exact impl_BestAnswer.mono _ _ _ _ _)
   | (with_reducible exact impl_BestParts.mono _ _ _)
   | (with_reducible exact impl_BoxesOf.mono _ _ _)
   | (with_reducible exact impl_CountLong.mono _ _ _)
   | (with_reducible exact impl_EndingValue.mono _ _ _)
   | (with_reducible exact impl_SparingNumber.mono _ _ _)
   | (with_reducible exact laws_ending9.mono _ _ _ _ _)
   | (with_reducible exact laws_likeInts.mono _ _ _)
   | (with_reducible exact laws_sum.mono _ _)
   | (with_reducible exact spec_AfterOpening.mono _ _ _ _ _)
   | (with_reducible exact spec_BestAnswer.mono _ _ _ _ _)
   | (with_reducible exact spec_BestParts.mono _ _ _)
   | (with_reducible exact spec_CountLong.mono _ _ _)
   | (with_reducible exact spec_DrawBestAnswer.mono _ _)
   | (with_reducible exact spec_DrawBestParts.mono _ _)
   | (with_reducible exact spec_DrawTurnsOf.mono _ _)
   | (with_reducible exact spec_SparingNumber.mono _ _ _)
   | (with_reducible exact LeO.refl _)
   | (with_reducible exact LeO.none _)
   | (with_reducible refine LeO.ite ?_ ?_)
   | (with_reducible refine LeO.bind ?_ (fun _ => ?_))
   | exact ih0 _ _ _ _ _ _ _ _
   | exact ih1 _ _ _ _ _ _ _ _ _ _ _
   | exact ih2 _ _ _ _ _ _ _ _ _ _ _
   | exact ih3 _ _ _ _ _ _ _ _ _ _ _
   | exact ih4 _ _ _ _ _ _ _ _ _ _ _
   | exact ih5 _ _ _ _ _ _ _ _ _ _ _ _ _ _
   | exact ih6 _ _ _ _ _ _ _ _ _ _
   | exact ih7 _ _ _ _ _ _
   | exact impl_AfterOpening.mono _ _ _ _ _
   | exact impl_BestAnswer.mono _ _ _ _ _
   | exact impl_BestParts.mono _ _ _
   | exact impl_BoxesOf.mono _ _ _
   | exact impl_CountLong.mono _ _ _
   | exact impl_EndingValue.mono _ _ _
   | exact impl_SparingNumber.mono _ _ _
   | exact laws_ending9.mono _ _ _ _ _
   | exact laws_likeInts.mono _ _ _
   | exact laws_sum.mono _ _
   | exact spec_AfterOpening.mono _ _ _ _ _
   | exact spec_BestAnswer.mono _ _ _ _ _
   | exact spec_BestParts.mono _ _ _
   | exact spec_CountLong.mono _ _ _
   | exact spec_DrawBestAnswer.mono _ _
   | exact spec_DrawBestParts.mono _ _
   | exact spec_DrawTurnsOf.mono _ _
   | exact spec_SparingNumber.mono _ _ _
   | exact LeO.none _
   | refine LeO.ite ?_ ?_
   | refine LeO.bind ?_ (fun _ => ?_)
  ·intro y0 y1 y2 y3 y4 y5 y6 y7 y8 y9 y10;unfold laws_FnAnswers.j4
   repeat' first
   | (with_reducible exact ih0 _ _ _ _ _ _ _ _)
   | (with_reducible exact ih1 _ _ _ _ _ _ _ _ _ _ _)
   | (with_reducible exact ih2 _ _ _ _ _ _ _ _ _ _ _)
   | (with_reducible exact ih3 _ _ _ _ _ _ _ _ _ _ _)
   | (with_reducible exact ih4 _ _ _ _ _ _ _ _ _ _ _)
   | (with_reducible exact ih5 _ _ _ _ _ _ _ _ _ _ _ _ _ _)
   | (with_reducible exact ih6 _ _ _ _ _ _ _ _ _ _)
   | (with_reducible exact ih7 _ _ _ _ _ _)
   | (with_reducible exact impl_AfterOpening.mono _ _ _ _ _)
   | (with_reducible exact impl_BestAnswer.mono _ _ _ _ _)
   | (with_reducible exact impl_BestParts.mono _ _ _)
   | (with_reducible exact impl_BoxesOf.mono _ _ _)
   | (with_reducible exact impl_CountLong.mono _ _ _)
   | (with_reducible exact impl_EndingValue.mono _ _ _)
   | (with_reducible exact impl_SparingNumber.mono _ _ _)
   | (with_reducible exact laws_ending9.mono _ _ _ _ _)
   | (with_reducible exact laws_likeInts.mono _ _ _)
   | (with_reducible exact laws_sum.mono _ _)
   | (with_reducible exact spec_AfterOpening.mono _ _ _ _ _)
   | (with_reducible exact spec_BestAnswer.mono _ _ _ _ _)
   | (with_reducible exact spec_BestParts.mono _ _ _)
   | (with_reducible exact spec_CountLong.mono _ _ _)
   | (with_reducible exact spec_DrawBestAnswer.mono _ _)
   | (with_reducible exact spec_DrawBestParts.mono _ _)
   | (with_reducible exact spec_DrawTurnsOf.mono _ _)
   | (with_reducible exact spec_SparingNumber.mono _ _ _)
   | (with_reducible exact LeO.refl _)
   | (with_reducible exact LeO.none _)
   | (with_reducible refine LeO.ite ?_ ?_)
   | (with_reducible refine LeO.bind ?_ (fun _ => ?_))
   | exact ih0 _ _ _ _ _ _ _ _
   | exact ih1 _ _ _ _ _ _ _ _ _ _ _
   | exact ih2 _ _ _ _ _ _ _ _ _ _ _
   | exact ih3 _ _ _ _ _ _ _ _ _ _ _
   | exact ih4 _ _ _ _ _ _ _ _ _ _ _
   | exact ih5 _ _ _ _ _ _ _ _ _ _ _ _ _ _
   | exact ih6 _ _ _ _ _ _ _ _ _ _
   | exact ih7 _ _ _ _ _ _
   | exact impl_AfterOpening.mono _ _ _ _ _
   | exact impl_BestAnswer.mono _ _ _ _ _
   | exact impl_BestParts.mono _ _ _
   | exact impl_BoxesOf.mono _ _ _
   | exact impl_CountLong.mono _ _ _
   | exact impl_EndingValue.mono _ _ _
   | exact impl_SparingNumber.mono _ _ _
   | exact laws_ending9.mono _ _ _ _ _
   | exact laws_likeInts.mono _ _ _
   | exact laws_sum.mono _ _
   | exact spec_AfterOpening.mono _ _ _ _ _
   | exact spec_BestAnswer.mono _ _ _ _ _
   | exact spec_BestParts.mono _ _ _
   | exact spec_CountLong.mono _ _ _
   | exact spec_DrawBestAnswer.mono _ _
   | exact spec_DrawBestParts.mono _ _
   | exact spec_DrawTurnsOf.mono _ _
   | exact spec_SparingNumber.mono _ _ _
   | exact LeO.none _
   | refine LeO.ite ?_ ?_
   | refine LeO.bind ?_ (fun _ => ?_)
  ·intro y0 y1 y2 y3 y4 y5 y6 y7 y8 y9 y10 y11 y12 y13;unfold laws_FnAnswers.j5
   repeat' first
   | (with_reducible exact ih0 _ _ _ _ _ _ _ _)
   | (with_reducible exact ih1 _ _ _ _ _ _ _ _ _ _ _)
   | (with_reducible exact ih2 _ _ _ _ _ _ _ _ _ _ _)
   | (with_reducible exact ih3 _ _ _ _ _ _ _ _ _ _ _)
   | (with_reducible exact ih4 _ _ _ _ _ _ _ _ _ _ _)
   | (with_reducible exact ih5 _ _ _ _ _ _ _ _ _ _ _ _ _ _)
   | (with_reducible exact ih6 _ _ _ _ _ _ _ _ _ _)
   | (with_reducible exact ih7 _ _ _ _ _ _)
   | (with_reducible exact impl_AfterOpening.mono _ _ _ _ _)
   | (with_reducible exact impl_BestAnswer.mono _ _ _ _ _)
   | (with_reducible exact impl_BestParts.mono _ _ _)
   | (with_reducible exact impl_BoxesOf.mono _ _ _)
   | (with_reducible exact impl_CountLong.mono _ _ _)
   | (with_reducible exact impl_EndingValue.mono _ _ _)
   | (with_reducible exact impl_SparingNumber.mono _ _ _)
   | (with_reducible exact laws_ending9.mono _ _ _ _ _)
   | (with_reducible exact laws_likeInts.mono _ _ _)
   | (with_reducible exact laws_sum.mono _ _)
   | (with_reducible exact spec_AfterOpening.mono _ _ _ _ _)
   | (with_reducible exact spec_BestAnswer.mono _ _ _ _ _)
   | (with_reducible exact spec_BestParts.mono _ _ _)
   | (with_reducible exact spec_CountLong.mono _ _ _)
   | (with_reducible exact spec_DrawBestAnswer.mono _ _)
   | (with_reducible exact spec_DrawBestParts.mono _ _)
   | (with_reducible exact spec_DrawTurnsOf.mono _ _)
   | (with_reducible exact spec_SparingNumber.mono _ _ _)
   | (with_reducible exact LeO.refl _)
   | (with_reducible exact LeO.none _)
   | (with_reducible refine LeO.ite ?_ ?_)
   | (with_reducible refine LeO.bind ?_ (fun _ => ?_))
   | exact ih0 _ _ _ _ _ _ _ _
   | exact ih1 _ _ _ _ _ _ _ _ _ _ _
   | exact ih2 _ _ _ _ _ _ _ _ _ _ _
   | exact ih3 _ _ _ _ _ _ _ _ _ _ _
   | exact ih4 _ _ _ _ _ _ _ _ _ _ _
   | exact ih5 _ _ _ _ _ _ _ _ _ _ _ _ _ _
   | exact ih6 _ _ _ _ _ _ _ _ _ _
   | exact ih7 _ _ _ _ _ _
   | exact impl_AfterOpening.mono _ _ _ _ _
   | exact impl_BestAnswer.mono _ _ _ _ _
   | exact impl_BestParts.mono _ _ _
   | exact impl_BoxesOf.mono _ _ _
   | exact impl_CountLong.mono _ _ _
   | exact impl_EndingValue.mono _ _ _
   | exact impl_SparingNumber.mono _ _ _
   | exact laws_ending9.mono _ _ _ _ _
   | exact laws_likeInts.mono _ _ _
   | exact laws_sum.mono _ _
   | exact spec_AfterOpening.mono _ _ _ _ _
   | exact spec_BestAnswer.mono _ _ _ _ _
   | exact spec_BestParts.mono _ _ _
   | exact spec_CountLong.mono _ _ _
   | exact spec_DrawBestAnswer.mono _ _
   | exact spec_DrawBestParts.mono _ _
   | exact spec_DrawTurnsOf.mono _ _
   | exact spec_SparingNumber.mono _ _ _
   | exact LeO.none _
   | refine LeO.ite ?_ ?_
   | refine LeO.bind ?_ (fun _ => ?_)
  ·intro y0 y1 y2 y3 y4 y5 y6 y7 y8 y9;unfold laws_FnAnswers.j6
   repeat' first
   | (with_reducible exact ih0 _ _ _ _ _ _ _ _)
   | (with_reducible exact ih1 _ _ _ _ _ _ _ _ _ _ _)
   | (with_reducible exact ih2 _ _ _ _ _ _ _ _ _ _ _)
   | (with_reducible exact ih3 _ _ _ _ _ _ _ _ _ _ _)
   | (with_reducible exact ih4 _ _ _ _ _ _ _ _ _ _ _)
   | (with_reducible exact ih5 _ _ _ _ _ _ _ _ _ _ _ _ _ _)
   | (with_reducible exact ih6 _ _ _ _ _ _ _ _ _ _)
   | (with_reducible exact ih7 _ _ _ _ _ _)
   | (with_reducible exact impl_AfterOpening.mono _ _ _ _ _)
   | (with_reducible exact impl_BestAnswer.mono _ _ _ _ _)
   | (with_reducible exact impl_BestParts.mono _ _ _)
   | (with_reducible exact impl_BoxesOf.mono _ _ _)
   | (with_reducible exact impl_CountLong.mono _ _ _)
   | (with_reducible exact impl_EndingValue.mono _ _ _)
   | (with_reducible exact impl_SparingNumber.mono _ _ _)
   | (with_reducible exact laws_ending9.mono _ _ _ _ _)
   | (with_reducible exact laws_likeInts.mono _ _ _)
   | (with_reducible exact laws_sum.mono _ _)
   | (with_reducible exact spec_AfterOpening.mono _ _ _ _ _)
   | (with_reducible exact spec_BestAnswer.mono _ _ _ _ _)
   | (with_reducible exact spec_BestParts.mono _ _ _)
   | (with_reducible exact spec_CountLong.mono _ _ _)
   | (with_reducible exact spec_DrawBestAnswer.mono _ _)
   | (with_reducible exact spec_DrawBestParts.mono _ _)
   | (with_reducible exact spec_DrawTurnsOf.mono _ _)
   | (with_reducible exact spec_SparingNumber.mono _ _ _)
   | (with_reducible exact LeO.refl _)
   | (with_reducible exact LeO.none _)
   | (with_reducible refine LeO.ite ?_ ?_)
   | (with_reducible refine LeO.bind ?_ (fun _ => ?_))
   | exact ih0 _ _ _ _ _ _ _ _
   | exact ih1 _ _ _ _ _ _ _ _ _ _ _
   | exact ih2 _ _ _ _ _ _ _ _ _ _ _
   | exact ih3 _ _ _ _ _ _ _ _ _ _ _
   | exact ih4 _ _ _ _ _ _ _ _ _ _ _
   | exact ih5 _ _ _ _ _ _ _ _ _ _ _ _ _ _
   | exact ih6 _ _ _ _ _ _ _ _ _ _
   | exact ih7 _ _ _ _ _ _
   | exact impl_AfterOpening.mono _ _ _ _ _
   | exact impl_BestAnswer.mono _ _ _ _ _
   | exact impl_BestParts.mono _ _ _
   | exact impl_BoxesOf.mono _ _ _
   | exact impl_CountLong.mono _ _ _
   | exact impl_EndingValue.mono _ _ _
   | exact impl_SparingNumber.mono _ _ _
   | exact laws_ending9.mono _ _ _ _ _
   | exact laws_likeInts.mono _ _ _
   | exact laws_sum.mono _ _
   | exact spec_AfterOpening.mono _ _ _ _ _
   | exact spec_BestAnswer.mono _ _ _ _ _
   | exact spec_BestParts.mono _ _ _
   | exact spec_CountLong.mono _ _ _
   | exact spec_DrawBestAnswer.mono _ _
   | exact spec_DrawBestParts.mono _ _
   | exact spec_DrawTurnsOf.mono _ _
   | exact spec_SparingNumber.mono _ _ _
   | exact LeO.none _
   | refine LeO.ite ?_ ?_
   | refine LeO.bind ?_ (fun _ => ?_)
  ·intro y0 y1 y2 y3 y4 y5;unfold laws_FnAnswers.j7
   repeat' first
   | (with_reducible exact ih0 _ _ _ _ _ _ _ _)
   | (with_reducible exact ih1 _ _ _ _ _ _ _ _ _ _ _)
   | (with_reducible exact ih2 _ _ _ _ _ _ _ _ _ _ _)
   | (with_reducible exact ih3 _ _ _ _ _ _ _ _ _ _ _)
   | (with_reducible exact ih4 _ _ _ _ _ _ _ _ _ _ _)
   | (with_reducible exact ih5 _ _ _ _ _ _ _ _ _ _ _ _ _ _)
   | (with_reducible exact ih6 _ _ _ _ _ _ _ _ _ _)
   | (with_reducible exact ih7 _ _ _ _ _ _)
   | (with_reducible exact impl_AfterOpening.mono _ _ _ _ _)
   | (with_reducible exact impl_BestAnswer.mono _ _ _ _ _)
   | (with_reducible exact impl_BestParts.mono _ _ _)
   | (with_reducible exact impl_BoxesOf.mono _ _ _)
   | (with_reducible exact impl_CountLong.mono _ _ _)
   | (with_reducible exact impl_EndingValue.mono _ _ _)
   | (with_reducible exact impl_SparingNumber.mono _ _ _)
   | (with_reducible exact laws_ending9.mono _ _ _ _ _)
   | (with_reducible exact laws_likeInts.mono _ _ _)
   | (with_reducible exact laws_sum.mono _ _)
   | (with_reducible exact spec_AfterOpening.mono _ _ _ _ _)
   | (with_reducible exact spec_BestAnswer.mono _ _ _ _ _)
   | (with_reducible exact spec_BestParts.mono _ _ _)
   | (with_reducible exact spec_CountLong.mono _ _ _)
   | (with_reducible exact spec_DrawBestAnswer.mono _ _)
   | (with_reducible exact spec_DrawBestParts.mono _ _)
   | (with_reducible exact spec_DrawTurnsOf.mono _ _)
   | (with_reducible exact spec_SparingNumber.mono _ _ _)
   | (with_reducible exact LeO.refl _)
   | (with_reducible exact LeO.none _)
   | (with_reducible refine LeO.ite ?_ ?_)
   | (with_reducible refine LeO.bind ?_ (fun _ => ?_))
   | exact ih0 _ _ _ _ _ _ _ _
   | exact ih1 _ _ _ _ _ _ _ _ _ _ _
   | exact ih2 _ _ _ _ _ _ _ _ _ _ _
   | exact ih3 _ _ _ _ _ _ _ _ _ _ _
   | exact ih4 _ _ _ _ _ _ _ _ _ _ _
   | exact ih5 _ _ _ _ _ _ _ _ _ _ _ _ _ _
   | exact ih6 _ _ _ _ _ _ _ _ _ _
   | exact ih7 _ _ _ _ _ _
   | exact impl_AfterOpening.mono _ _ _ _ _
   | exact impl_BestAnswer.mono _ _ _ _ _
   | exact impl_BestParts.mono _ _ _
   | exact impl_BoxesOf.mono _ _ _
   | exact impl_CountLong.mono _ _ _
   | exact impl_EndingValue.mono _ _ _
   | exact impl_SparingNumber.mono _ _ _
   | exact laws_ending9.mono _ _ _ _ _
   | exact laws_likeInts.mono _ _ _
   | exact laws_sum.mono _ _
   | exact spec_AfterOpening.mono _ _ _ _ _
   | exact spec_BestAnswer.mono _ _ _ _ _
   | exact spec_BestParts.mono _ _ _
   | exact spec_CountLong.mono _ _ _
   | exact spec_DrawBestAnswer.mono _ _
   | exact spec_DrawBestParts.mono _ _
   | exact spec_DrawTurnsOf.mono _ _
   | exact spec_SparingNumber.mono _ _ _
   | exact LeO.none _
   | refine LeO.ite ?_ ?_
   | refine LeO.bind ?_ (fun _ => ?_)
theorem laws_FnAnswers.mono : ∀ a0 k, LeO (laws_FnAnswers.f k a0) (laws_FnAnswers.f (k + 1) a0) := by
 intro a0 k;obtain ⟨ih0,ih1,ih2,ih3,ih4,ih5,ih6,ih7⟩ := laws_FnAnswers.mono_l k;unfold laws_FnAnswers.f
 repeat' first
  | (with_reducible exact ih0 _ _ _ _ _ _ _ _)
  | (with_reducible exact ih1 _ _ _ _ _ _ _ _ _ _ _)
  | (with_reducible exact ih2 _ _ _ _ _ _ _ _ _ _ _)
  | (with_reducible exact ih3 _ _ _ _ _ _ _ _ _ _ _)
  | (with_reducible exact ih4 _ _ _ _ _ _ _ _ _ _ _)
  | (with_reducible exact ih5 _ _ _ _ _ _ _ _ _ _ _ _ _ _)
  | (with_reducible exact ih6 _ _ _ _ _ _ _ _ _ _)
  | (with_reducible exact ih7 _ _ _ _ _ _)
  | (with_reducible exact impl_AfterOpening.mono _ _ _ _ _)
  | (with_reducible exact impl_BestAnswer.mono _ _ _ _ _)
  | (with_reducible exact impl_BestParts.mono _ _ _)
  | (with_reducible exact impl_BoxesOf.mono _ _ _)
  | (with_reducible exact impl_CountLong.mono _ _ _)
  | (with_reducible exact impl_EndingValue.mono _ _ _)
  | (with_reducible exact impl_SparingNumber.mono _ _ _)
  | (with_reducible exact laws_ending9.mono _ _ _ _ _)
  | (with_reducible exact laws_likeInts.mono _ _ _)
  | (with_reducible exact laws_sum.mono _ _)
  | (with_reducible exact spec_AfterOpening.mono _ _ _ _ _)
  | (with_reducible exact spec_BestAnswer.mono _ _ _ _ _)
  | (with_reducible exact spec_BestParts.mono _ _ _)
  | (with_reducible exact spec_CountLong.mono _ _ _)
  | (with_reducible exact spec_DrawBestAnswer.mono _ _)
  | (with_reducible exact spec_DrawBestParts.mono _ _)
  | (with_reducible exact spec_DrawTurnsOf.mono _ _)
  | (with_reducible exact spec_SparingNumber.mono _ _ _)
  | (with_reducible exact LeO.refl _)
  | (with_reducible exact LeO.none _)
  | (with_reducible refine LeO.ite ?_ ?_)
  | (with_reducible refine LeO.bind ?_ (fun _ => ?_))
  | exact ih0 _ _ _ _ _ _ _ _
  | exact ih1 _ _ _ _ _ _ _ _ _ _ _
  | exact ih2 _ _ _ _ _ _ _ _ _ _ _
  | exact ih3 _ _ _ _ _ _ _ _ _ _ _
  | exact ih4 _ _ _ _ _ _ _ _ _ _ _
  | exact ih5 _ _ _ _ _ _ _ _ _ _ _ _ _ _
  | exact ih6 _ _ _ _ _ _ _ _ _ _
  | exact ih7 _ _ _ _ _ _
  | exact impl_AfterOpening.mono _ _ _ _ _
  | exact impl_BestAnswer.mono _ _ _ _ _
  | exact impl_BestParts.mono _ _ _
  | exact impl_BoxesOf.mono _ _ _
  | exact impl_CountLong.mono _ _ _
  | exact impl_EndingValue.mono _ _ _
  | exact impl_SparingNumber.mono _ _ _
  | exact laws_ending9.mono _ _ _ _ _
  | exact laws_likeInts.mono _ _ _
  | exact laws_sum.mono _ _
  | exact spec_AfterOpening.mono _ _ _ _ _
  | exact spec_BestAnswer.mono _ _ _ _ _
  | exact spec_BestParts.mono _ _ _
  | exact spec_CountLong.mono _ _ _
  | exact spec_DrawBestAnswer.mono _ _
  | exact spec_DrawBestParts.mono _ _
  | exact spec_DrawTurnsOf.mono _ _
  | exact spec_SparingNumber.mono _ _ _
  | exact LeO.none _
  | refine LeO.ite ?_ ?_
  | refine LeO.bind ?_ (fun _ => ?_)
namespace Sect
/-- A piece of a function's text, by its place. -/
def at_ : List Bool → Code → Code
  | [],c => c
  | false :: p,.seq a _ => at_ p a
  | true :: p,.seq _ b => at_ p b
  | false :: p,.cond _ a _ => at_ p a
  | true :: p,.cond _ _ b => at_ p b
  | _ :: p,.block _ c => at_ p c
  | _ :: p,.loop c => at_ p c
  | _ :: p,.scope c => at_ p c
  | _,c => c
end Sect
/-- THE ONE PURE STATEMENT of laws_FnAnswers: yours. -/
def laws_FnAnswers.Pure : Prop := ∀ (l0 : List Int), l0.length ≤ maxLen → l0.length * 1 ≤ 140737488351232 → (∀ x ∈ l0, (Lit.int .u8 x).wf = true) → ∃ k, laws_FnAnswers.f k l0 = some true
end Go.Proofs.Ytkbjoiebaphdoaa.PA
namespace Go.Proofs.Ytkbjoiebaphdoaa.PA
open Go.RowKit Go.Proofs.YtkbjoiebaphdoaaW.PrintWords Go.Proofs.YtkbjoiebaphdoaaW.PrintLast Go.Proofs.YtkbjoiebaphdoaaW.PrintMore
attribute [local go_sem] max2_int min2_int max_two min_two max_three min_three max_four min_four
set_option linter.unusedVariables false
set_option linter.unusedSimpArgs false
def laws_FnAnswers.R1 (k : Nat) (l0 : List Int) (r : Bool) (w : World) (t575 t578 : List Int) (t581 : Bool) (t582 : Int) (t584 : Bool) (t585 : Int) (gb583 : Nat) (Ao10 : Option Addr) (co10 : Nat) (Ao12 : Option Addr) (co12 : Nat) (v74 : Value) (wc : World) : Prop := ∃ (kq : Nat) (x74_6 : Bool), v74 = .bool x74_6 ∧ Aside0 (laws_FnAnswers.j0 kq l0 t581 t582 t584 t585 x74_6 t575 t578 = some r) ∧ Aside0 (kq ≤ k) ∧ Aside0 (Kd.R (Kd.int .i64) 2 wc w.heap.size (fun k_ => some k_ ≠ ((.slice Ao12 t578.length co12) : Value).ownBlock) (.slice Ao10 t575.length co10) t575) ∧ Aside0 (Kd.R (Kd.int .i64) 2 wc w.heap.size (fun k_ => some k_ ≠ ((.slice Ao10 t575.length co10) : Value).ownBlock) (.slice Ao12 t578.length co12) t578) ∧ Aside0 (wc.heap[gb583]? = some (.cells #[(.slice Ao10 t575.length co10), (.slice Ao12 t578.length co12)] 27 (0, 0))) ∧ Aside0 (Below w.heap.size w wc)
set_option maxRecDepth 100000 in
def laws_FnAnswers.S1 : Prop := ∀ {aa ab ac ad ae af ag ah ai aj al am an ao ap aq ar au av ax ay az aA aB aC aD aE aF aG aH aI aJ aL aM aN aO aP aQ aR aS aT aU aV aX aY aZ a2 a3 a4 a5 a6 a7 a8 a9 ba bb bc bd be bf bg bh bi bj bl bm bn bo bp bq br bs bt bu bv bx bz bA bB bC bD bE bF bG bH bI bJ bL bM bN bO bP bQ bR bS bT bU bV bX bY bZ b2 b3 b4 b5 b6 b7 b8 b9 ca cb cc cd ce cf cg ch ci cj cl cm cn co cp cq cr cs ct cu cv cx cy cz cA cB cC cD cE cF cG cH cI cJ cL cM cN cO cP cQ cR cS cT cU cV cX cY cZ c2 c3 c4 c5 c6 c7 c8 c9 da db dc dd de df dg dh di dj dl dm dn dp dq dr ds dt du dv dx dy dz dA dB dC dD dE dF dG dH dI dJ dL dM dN dO dP dQ dR dS dT dU dV dX dY dZ d2 d3 d4 d5 d6 d7 d8 d9 ea eb ec ed ee ef eg eh ei ej el em en eo ep eq er es et eu ev ex ey ez eA eB eC eD eE eF eG eH eI eJ eL eM eN eO : Value} {k : Nat} {A0 : Option Addr} {c0 : Nat} {l0 : List Int} {r : Bool} {w : World} (hu27 : Try.prog.underlying 27 = some (TypeDesc.struct #[Field.mk "Chains" 22 0 false "" "" 0, Field.mk "Loops" 22 1 false "" "" 24])) (HR0 : Aside0 ((Kd.int IntKind.u8).C w A0 l0.length l0)) (HC0 : Aside0 (l0.length ≤ c0)) {t575 t578 : List Int} {t581 : Bool} {t582 : Int} {t584 : Bool} {t585 : Int} {gb583 : Nat} {Ao10 : Option Addr} {co10 : Nat} {Ao12 : Option Addr} {co12 : Nat} {z1_96 : Act → World → Prop} (z1_97 : ∀ (a_ : Act) (w_ : World), Code.wp Try.prog (Sect.at_ [true,true,true,true,true] (Try.f13.body.getD .skip)) ((bodyPost Try.prog Try.f13 fun e w' => e = Ending.returned (Value.bool r) ∧ Below w.heap.size w w')) a_ w_ → z1_96 a_ w_) {wc : World} {u74 : Value} (hcut : laws_FnAnswers.R1 k l0 r w t575 t578 t581 t582 t584 t585 gb583 Ao10 co10 Ao12 co12 u74 wc), Code.wp Try.prog (Sect.at_ [true,true,true,true,false,true,true] (Try.f13.body.getD .skip)) (Exit.then z1_96 (bodyPost Try.prog Try.f13 fun e w' => e = Ending.returned (Value.bool r) ∧ Below w.heap.size w w')) (Act.mk #[.slice A0 l0.length c0,undef,.bool false,.pointer (some (Addr.mk gb583 0 none)),.bool t581,.int .i64 t582,.bool t584,.int .i64 t585,ab,aa,undef,undef,undef,undef,undef,undef,undef,undef,undef,undef,undef,undef,undef,undef,undef,undef,undef,undef,undef,undef,undef,undef,undef,undef,undef,undef,undef,undef,undef,undef,undef,undef,undef,undef,undef,ac,ad,ae,af,ag,ah,ai,aj,al,am,an,ao,ap,aq,ar,au,av,ax,ay,az,aA,aB,aC,aD,aE,aF,aG,aH,aI,u74,aJ,aL,aM,aN,aO,aP,aQ,aR,aS,aT,aU,aV,aX,aY,aZ,a2,a3,a4,a5,a6,a7,a8,a9,ba,bb,bc,bd,be,bf,bg,bh,bi,bj,bl,bm,bn,bo,bp,bq,br,bs,bt,bu,bv,bx,bz,bA,bB,bC,bD,bE,bF,bG,bH,bI,bJ,bL,bM,bN,bO,bP,bQ,bR,bS,bT,bU,bV,bX,bY,bZ,b2,b3,b4,b5,b6,b7,b8,b9,ca,cb,cc,cd,ce,cf,cg,ch,ci,cj,cl,cm,cn,co,cp,cq,cr,cs,ct,cu,cv,cx,cy,cz,cA,cB,cC,cD,cE,cF,cG,cH,cI,cJ,cL,cM,cN,cO,cP,cQ,cR,cS,cT,cU,cV,cX,cY,cZ,c2,c3,c4,c5,c6,c7,c8,c9,da,db,dc,dd,de,df,dg,dh,di,dj,dl,dm,dn,dp,dq,dr,ds,dt,du,dv,dx,dy,dz,dA,dB,dC,dD,dE,dF,dG,dH,dI,dJ,dL,dM,dN,dO,dP,dQ,dR,dS,dT,dU,dV,dX,dY,dZ,d2,d3,d4,d5,d6,d7,d8,d9,ea,eb,ec,ed,ee,ef,eg,eh,ei,ej,el,em,en,eo,ep,eq,er,es,et,eu,ev,ex,ey,ez,eA,eB,eC,eD,eE,eF,eG,eH,eI,eJ,eL,eM,eN,eO] []) wc
def laws_FnAnswers.R2 (l0 : List Int) (r : Bool) (w : World) (t575 t578 : List Int) (t581 : Bool) (t582 : Int) (t584 : Bool) (t585 : Int) (gb583 : Nat) (Ao10 : Option Addr) (co10 : Nat) (Ao12 : Option Addr) (co12 kj6 : Nat) (t588 t591 : List Int) (t594 : Int) (t596 t599 : List Int) (gb595 : Nat) (Ao24 : Option Addr) (co24 : Nat) (Ao27 : Option Addr) (co27 gb603 : Nat) (Ao31 : Option Addr) (co31 : Nat) (Ao35 : Option Addr) (co35 : Nat) (v97 : Value) (wc : World) : Prop := ∃ (kq : Nat) (x97_19 : Bool), v97 = .bool x97_19 ∧ Aside0 (laws_FnAnswers.j1 kq l0 t581 t582 t584 t585 t594 x97_19 t575 t578 t588 t591 = some r) ∧ Aside0 (kq ≤ kj6) ∧ Aside0 (Kd.R (Kd.int .i64) 2 wc w.heap.size (fun k_ => some k_ ≠ ((.slice Ao12 t578.length co12) : Value).ownBlock ∧ some k_ ≠ ((.slice Ao24 t588.length co24) : Value).ownBlock ∧ some k_ ≠ ((.slice Ao27 t591.length co27) : Value).ownBlock ∧ some k_ ≠ ((.slice Ao31 t596.length co31) : Value).ownBlock ∧ some k_ ≠ ((.slice Ao35 t599.length co35) : Value).ownBlock) (.slice Ao10 t575.length co10) t575) ∧ Aside0 (Kd.R (Kd.int .i64) 2 wc w.heap.size (fun k_ => some k_ ≠ ((.slice Ao10 t575.length co10) : Value).ownBlock ∧ some k_ ≠ ((.slice Ao24 t588.length co24) : Value).ownBlock ∧ some k_ ≠ ((.slice Ao27 t591.length co27) : Value).ownBlock ∧ some k_ ≠ ((.slice Ao31 t596.length co31) : Value).ownBlock ∧ some k_ ≠ ((.slice Ao35 t599.length co35) : Value).ownBlock) (.slice Ao12 t578.length co12) t578) ∧ Aside0 (Kd.R (Kd.int .i64) 2 wc w.heap.size (fun k_ => some k_ ≠ ((.slice Ao10 t575.length co10) : Value).ownBlock ∧ some k_ ≠ ((.slice Ao12 t578.length co12) : Value).ownBlock ∧ some k_ ≠ ((.slice Ao27 t591.length co27) : Value).ownBlock ∧ some k_ ≠ ((.slice Ao31 t596.length co31) : Value).ownBlock ∧ some k_ ≠ ((.slice Ao35 t599.length co35) : Value).ownBlock) (.slice Ao24 t588.length co24) t588) ∧ Aside0 (Kd.R (Kd.int .i64) 2 wc w.heap.size (fun k_ => some k_ ≠ ((.slice Ao10 t575.length co10) : Value).ownBlock ∧ some k_ ≠ ((.slice Ao12 t578.length co12) : Value).ownBlock ∧ some k_ ≠ ((.slice Ao24 t588.length co24) : Value).ownBlock ∧ some k_ ≠ ((.slice Ao31 t596.length co31) : Value).ownBlock ∧ some k_ ≠ ((.slice Ao35 t599.length co35) : Value).ownBlock) (.slice Ao27 t591.length co27) t591) ∧ Aside0 (Kd.R (Kd.int .i64) 2 wc w.heap.size (fun k_ => some k_ ≠ ((.slice Ao10 t575.length co10) : Value).ownBlock ∧ some k_ ≠ ((.slice Ao12 t578.length co12) : Value).ownBlock ∧ some k_ ≠ ((.slice Ao24 t588.length co24) : Value).ownBlock ∧ some k_ ≠ ((.slice Ao27 t591.length co27) : Value).ownBlock ∧ some k_ ≠ ((.slice Ao35 t599.length co35) : Value).ownBlock) (.slice Ao31 t596.length co31) t596) ∧ Aside0 (Kd.R (Kd.int .i64) 2 wc w.heap.size (fun k_ => some k_ ≠ ((.slice Ao10 t575.length co10) : Value).ownBlock ∧ some k_ ≠ ((.slice Ao12 t578.length co12) : Value).ownBlock ∧ some k_ ≠ ((.slice Ao24 t588.length co24) : Value).ownBlock ∧ some k_ ≠ ((.slice Ao27 t591.length co27) : Value).ownBlock ∧ some k_ ≠ ((.slice Ao31 t596.length co31) : Value).ownBlock) (.slice Ao35 t599.length co35) t599) ∧ Aside0 (wc.heap[gb583]? = some (.cells #[(.slice Ao10 t575.length co10), (.slice Ao12 t578.length co12)] 27 (0, 0))) ∧ Aside0 (wc.heap[gb595]? = some (.cells #[(.slice Ao24 t588.length co24), (.slice Ao27 t591.length co27)] 27 (0, 0))) ∧ Aside0 (wc.heap[gb603]? = some (.cells #[(.slice Ao31 t596.length co31), (.slice Ao35 t599.length co35)] 27 (0, 0))) ∧ Aside0 (Below w.heap.size w wc)
set_option maxRecDepth 100000 in
def laws_FnAnswers.S2 : Prop := ∀ {aa ab ac ad ae af ag ah ai aj al am an ao ap aq ar au av ax ay az aA aB aC aD aE aF aG aH aI aJ aL aM aN aO aP aQ aR aS aT aU aV aX aY aZ a2 a3 a4 a5 a6 a7 a8 a9 ba bb bc bd be bf bg bh bi bj bl bm bn bo bp bq br bs bt bu bv bx bz bA bB bC bD bE bF bG bH bI bJ bL bM bN bO bP bQ bR bS bT bU bV bX bY bZ b2 b3 b4 b5 b6 b7 b8 b9 ca cb cc cd ce cf cg ch ci cj cl cm cn co cp cq cr cs ct cu cv cx cy cz cA cB cC cD cE cF cG cH cI cJ cL cM cN cO cP cQ cR cS cT cU cV cX cY cZ c2 c3 c4 c5 c6 c7 c8 c9 da db dc dd de df dg dh di dj dl dm dn dp dq dr ds dt du dv dx dy dz dA dB dC dD dE dF dG dH dI dJ dL dM dN dO dP dQ dR dS dT dU dV dX dY dZ d2 d3 d4 d5 d6 d7 d8 d9 ea eb ec ed ee ef eg eh ei ej el em en eo ep eq er es et eu ev ex ey ez eA eB eC eD eE eF eG eH eI eJ eL eM eN eO eP : Value} {k : Nat} {A0 : Option Addr} {c0 : Nat} {l0 : List Int} {r : Bool} {w : World} (hu27 : Try.prog.underlying 27 = some (TypeDesc.struct #[Field.mk "Chains" 22 0 false "" "" 0, Field.mk "Loops" 22 1 false "" "" 24])) (HR0 : Aside0 ((Kd.int IntKind.u8).C w A0 l0.length l0)) (HC0 : Aside0 (l0.length ≤ c0)) {t575 t578 : List Int} {t581 : Bool} {t582 : Int} {t584 : Bool} {t585 : Int} {gb583 : Nat} {Ao10 : Option Addr} {co10 : Nat} {Ao12 : Option Addr} {co12 kj6 : Nat} (HJ6 : Aside0 (kj6 + 1 ≤ k)) {t588 t591 : List Int} {t594 : Int} {t596 t599 : List Int} {gb595 : Nat} (NB583_595 : Aside0 (gb583 ≠ gb595)) (NB595_583 : Aside0 (gb595 ≠ gb583)) {Ao24 : Option Addr} {co24 : Nat} (hnb25 : gb595 ≠ gb583) (hnc25 : gb583 ≠ gb595) {Ao27 : Option Addr} {co27 : Nat} {z2_371 : Act → World → Prop} (z2_372 : ∀ (a_ : Act) (w_ : World), Code.wp Try.prog (Sect.at_ [true,true,true,true,true,true,true] (Try.f13.body.getD .skip)) ((bodyPost Try.prog Try.f13 fun e w' => e = Ending.returned (Value.bool r) ∧ Below w.heap.size w w')) a_ w_ → z2_371 a_ w_) {gb603 : Nat} (NB583_603 : Aside0 (gb583 ≠ gb603)) (NB603_583 : Aside0 (gb603 ≠ gb583)) (NB595_603 : Aside0 (gb595 ≠ gb603)) (NB603_595 : Aside0 (gb603 ≠ gb595)) {Ao31 : Option Addr} {co31 : Nat} (hnb32 : gb603 ≠ gb583) (hnc32 : gb583 ≠ gb603) (hnb33 : gb603 ≠ gb595) (hnc33 : gb595 ≠ gb603) {Ao35 : Option Addr} {co35 : Nat} {wc : World} {u97 : Value} (hcut : laws_FnAnswers.R2 l0 r w t575 t578 t581 t582 t584 t585 gb583 Ao10 co10 Ao12 co12 kj6 t588 t591 t594 t596 t599 gb595 Ao24 co24 Ao27 co27 gb603 Ao31 co31 Ao35 co35 u97 wc), Code.wp Try.prog (Sect.at_ [true,true,true,true,true,true,false,true,true] (Try.f13.body.getD .skip)) (Exit.then z2_371 (bodyPost Try.prog Try.f13 fun e w' => e = Ending.returned (Value.bool r) ∧ Below w.heap.size w w')) (Act.mk #[.slice A0 l0.length c0,undef,.bool false,.pointer (some (Addr.mk gb583 0 none)),.bool t581,.int .i64 t582,.bool t584,.int .i64 t585,ac,ab,.pointer (some (Addr.mk gb595 0 none)),.int .i64 t594,.pointer (some (Addr.mk gb603 0 none)),aa,undef,undef,undef,undef,undef,undef,undef,undef,undef,undef,undef,undef,undef,undef,undef,undef,undef,undef,undef,undef,undef,undef,undef,undef,undef,undef,undef,undef,undef,undef,undef,ad,ae,af,ag,ah,ai,aj,al,am,an,ao,ap,aq,ar,au,av,ax,ay,az,aA,aB,aC,aD,aE,aF,aG,aH,aI,aJ,aL,aM,aN,aO,aP,aQ,aR,aS,aT,aU,aV,aX,aY,aZ,a2,a3,a4,a5,a6,a7,a8,a9,ba,u97,bb,bc,bd,be,bf,bg,bh,bi,bj,bl,bm,bn,bo,bp,bq,br,bs,bt,bu,bv,bx,bz,bA,bB,bC,bD,bE,bF,bG,bH,bI,bJ,bL,bM,bN,bO,bP,bQ,bR,bS,bT,bU,bV,bX,bY,bZ,b2,b3,b4,b5,b6,b7,b8,b9,ca,cb,cc,cd,ce,cf,cg,ch,ci,cj,cl,cm,cn,co,cp,cq,cr,cs,ct,cu,cv,cx,cy,cz,cA,cB,cC,cD,cE,cF,cG,cH,cI,cJ,cL,cM,cN,cO,cP,cQ,cR,cS,cT,cU,cV,cX,cY,cZ,c2,c3,c4,c5,c6,c7,c8,c9,da,db,dc,dd,de,df,dg,dh,di,dj,dl,dm,dn,dp,dq,dr,ds,dt,du,dv,dx,dy,dz,dA,dB,dC,dD,dE,dF,dG,dH,dI,dJ,dL,dM,dN,dO,dP,dQ,dR,dS,dT,dU,dV,dX,dY,dZ,d2,d3,d4,d5,d6,d7,d8,d9,ea,eb,ec,ed,ee,ef,eg,eh,ei,ej,el,em,en,eo,ep,eq,er,es,et,eu,ev,ex,ey,ez,eA,eB,eC,eD,eE,eF,eG,eH,eI,eJ,eL,eM,eN,eO,eP] []) wc
def laws_FnAnswers.R3 (l0 : List Int) (r : Bool) (w : World) (t575 t578 : List Int) (t581 : Bool) (t582 : Int) (t584 : Bool) (t585 : Int) (gb583 : Nat) (Ao10 : Option Addr) (co10 : Nat) (Ao12 : Option Addr) (co12 : Nat) (t588 t591 : List Int) (t594 : Int) (t596 t599 : List Int) (gb595 : Nat) (Ao24 : Option Addr) (co24 : Nat) (Ao27 : Option Addr) (co27 gb603 : Nat) (Ao31 : Option Addr) (co31 : Nat) (Ao35 : Option Addr) (co35 kj19 : Nat) (v115 : Value) (wc : World) : Prop := ∃ (kq : Nat) (x115_46 : Bool), v115 = .bool x115_46 ∧ Aside0 (laws_FnAnswers.j2 kq l0 t581 t582 t584 t585 t594 x115_46 t575 t578 t588 t591 = some r) ∧ Aside0 (kq ≤ kj19) ∧ Aside0 (Kd.R (Kd.int .i64) 2 wc w.heap.size (fun k_ => some k_ ≠ ((.slice Ao12 t578.length co12) : Value).ownBlock ∧ some k_ ≠ ((.slice Ao24 t588.length co24) : Value).ownBlock ∧ some k_ ≠ ((.slice Ao27 t591.length co27) : Value).ownBlock ∧ some k_ ≠ ((.slice Ao31 t596.length co31) : Value).ownBlock ∧ some k_ ≠ ((.slice Ao35 t599.length co35) : Value).ownBlock) (.slice Ao10 t575.length co10) t575) ∧ Aside0 (Kd.R (Kd.int .i64) 2 wc w.heap.size (fun k_ => some k_ ≠ ((.slice Ao10 t575.length co10) : Value).ownBlock ∧ some k_ ≠ ((.slice Ao24 t588.length co24) : Value).ownBlock ∧ some k_ ≠ ((.slice Ao27 t591.length co27) : Value).ownBlock ∧ some k_ ≠ ((.slice Ao31 t596.length co31) : Value).ownBlock ∧ some k_ ≠ ((.slice Ao35 t599.length co35) : Value).ownBlock) (.slice Ao12 t578.length co12) t578) ∧ Aside0 (Kd.R (Kd.int .i64) 2 wc w.heap.size (fun k_ => some k_ ≠ ((.slice Ao10 t575.length co10) : Value).ownBlock ∧ some k_ ≠ ((.slice Ao12 t578.length co12) : Value).ownBlock ∧ some k_ ≠ ((.slice Ao27 t591.length co27) : Value).ownBlock ∧ some k_ ≠ ((.slice Ao31 t596.length co31) : Value).ownBlock ∧ some k_ ≠ ((.slice Ao35 t599.length co35) : Value).ownBlock) (.slice Ao24 t588.length co24) t588) ∧ Aside0 (Kd.R (Kd.int .i64) 2 wc w.heap.size (fun k_ => some k_ ≠ ((.slice Ao10 t575.length co10) : Value).ownBlock ∧ some k_ ≠ ((.slice Ao12 t578.length co12) : Value).ownBlock ∧ some k_ ≠ ((.slice Ao24 t588.length co24) : Value).ownBlock ∧ some k_ ≠ ((.slice Ao31 t596.length co31) : Value).ownBlock ∧ some k_ ≠ ((.slice Ao35 t599.length co35) : Value).ownBlock) (.slice Ao27 t591.length co27) t591) ∧ Aside0 (Kd.R (Kd.int .i64) 2 wc w.heap.size (fun k_ => some k_ ≠ ((.slice Ao10 t575.length co10) : Value).ownBlock ∧ some k_ ≠ ((.slice Ao12 t578.length co12) : Value).ownBlock ∧ some k_ ≠ ((.slice Ao24 t588.length co24) : Value).ownBlock ∧ some k_ ≠ ((.slice Ao27 t591.length co27) : Value).ownBlock ∧ some k_ ≠ ((.slice Ao35 t599.length co35) : Value).ownBlock) (.slice Ao31 t596.length co31) t596) ∧ Aside0 (Kd.R (Kd.int .i64) 2 wc w.heap.size (fun k_ => some k_ ≠ ((.slice Ao10 t575.length co10) : Value).ownBlock ∧ some k_ ≠ ((.slice Ao12 t578.length co12) : Value).ownBlock ∧ some k_ ≠ ((.slice Ao24 t588.length co24) : Value).ownBlock ∧ some k_ ≠ ((.slice Ao27 t591.length co27) : Value).ownBlock ∧ some k_ ≠ ((.slice Ao31 t596.length co31) : Value).ownBlock) (.slice Ao35 t599.length co35) t599) ∧ Aside0 (wc.heap[gb583]? = some (.cells #[(.slice Ao10 t575.length co10), (.slice Ao12 t578.length co12)] 27 (0, 0))) ∧ Aside0 (wc.heap[gb595]? = some (.cells #[(.slice Ao24 t588.length co24), (.slice Ao27 t591.length co27)] 27 (0, 0))) ∧ Aside0 (wc.heap[gb603]? = some (.cells #[(.slice Ao31 t596.length co31), (.slice Ao35 t599.length co35)] 27 (0, 0))) ∧ Aside0 (Below w.heap.size w wc)
set_option maxRecDepth 100000 in
def laws_FnAnswers.S3 : Prop := ∀ {aa ab ac ad ae af ag ah ai aj al am an ao ap aq ar au av ax ay az aA aB aC aD aE aF aG aH aI aJ aL aM aN aO aP aQ aR aS aT aU aV aX aY aZ a2 a3 a4 a5 a6 a7 a8 a9 ba bb bc bd be bf bg bh bi bj bl bm bn bo bp bq br bs bt bu bv bx bz bA bB bC bD bE bF bG bH bI bJ bL bM bN bO bP bQ bR bS bT bU bV bX bY bZ b2 b3 b4 b5 b6 b7 b8 b9 ca cb cc cd ce cf cg ch ci cj cl cm cn co cp cq cr cs ct cu cv cx cy cz cA cB cC cD cE cF cG cH cI cJ cL cM cN cO cP cQ cR cS cT cU cV cX cY cZ c2 c3 c4 c5 c6 c7 c8 c9 da db dc dd de df dg dh di dj dl dm dn dp dq dr ds dt du dv dx dy dz dA dB dC dD dE dF dG dH dI dJ dL dM dN dO dP dQ dR dS dT dU dV dX dY dZ d2 d3 d4 d5 d6 d7 d8 d9 ea eb ec ed ee ef eg eh ei ej el em en eo ep eq er es et eu ev ex ey ez eA eB eC eD eE eF eG eH eI eJ eL eM eN eO eP eQ eR eS eT : Value} {k : Nat} {A0 : Option Addr} {c0 : Nat} {l0 : List Int} {r : Bool} {w : World} (hu27 : Try.prog.underlying 27 = some (TypeDesc.struct #[Field.mk "Chains" 22 0 false "" "" 0, Field.mk "Loops" 22 1 false "" "" 24])) (HR0 : Aside0 ((Kd.int IntKind.u8).C w A0 l0.length l0)) (HC0 : Aside0 (l0.length ≤ c0)) {t575 t578 : List Int} {t581 : Bool} {t582 : Int} {t584 : Bool} {t585 : Int} {gb583 : Nat} {Ao10 : Option Addr} {co10 : Nat} {Ao12 : Option Addr} {co12 kj6 : Nat} (HJ6 : Aside0 (kj6 + 1 ≤ k)) {t588 t591 : List Int} {t594 : Int} {t596 t599 : List Int} {gb595 : Nat} (NB583_595 : Aside0 (gb583 ≠ gb595)) (NB595_583 : Aside0 (gb595 ≠ gb583)) {Ao24 : Option Addr} {co24 : Nat} (hnb25 : gb595 ≠ gb583) (hnc25 : gb583 ≠ gb595) {Ao27 : Option Addr} {co27 gb603 : Nat} (NB583_603 : Aside0 (gb583 ≠ gb603)) (NB603_583 : Aside0 (gb603 ≠ gb583)) (NB595_603 : Aside0 (gb595 ≠ gb603)) (NB603_595 : Aside0 (gb603 ≠ gb595)) {Ao31 : Option Addr} {co31 : Nat} (hnb32 : gb603 ≠ gb583) (hnc32 : gb583 ≠ gb603) (hnb33 : gb603 ≠ gb595) (hnc33 : gb595 ≠ gb603) {Ao35 : Option Addr} {co35 kj19 : Nat} (HJ19 : Aside0 (kj19 + 1 ≤ kj6)) {z3_376 : Act → World → Prop} (z3_377 : ∀ (a_ : Act) (w_ : World), Code.wp Try.prog (Sect.at_ [true,true,true,true,true,true,true,true,true] (Try.f13.body.getD .skip)) ((bodyPost Try.prog Try.f13 fun e w' => e = Ending.returned (Value.bool r) ∧ Below w.heap.size w w')) a_ w_ → z3_376 a_ w_) {wc : World} {u115 : Value} (hcut : laws_FnAnswers.R3 l0 r w t575 t578 t581 t582 t584 t585 gb583 Ao10 co10 Ao12 co12 t588 t591 t594 t596 t599 gb595 Ao24 co24 Ao27 co27 gb603 Ao31 co31 Ao35 co35 kj19 u115 wc), Code.wp Try.prog (Sect.at_ [true,true,true,true,true,true,true,true,false,true,true] (Try.f13.body.getD .skip)) (Exit.then z3_376 (bodyPost Try.prog Try.f13 fun e w' => e = Ending.returned (Value.bool r) ∧ Below w.heap.size w w')) (Act.mk #[.slice A0 l0.length c0,undef,.bool false,.pointer (some (Addr.mk gb583 0 none)),.bool t581,.int .i64 t582,.bool t584,.int .i64 t585,ag,af,.pointer (some (Addr.mk gb595 0 none)),.int .i64 t594,.pointer (some (Addr.mk gb603 0 none)),ae,ad,ac,ab,aa,undef,undef,undef,undef,undef,undef,undef,undef,undef,undef,undef,undef,undef,undef,undef,undef,undef,undef,undef,undef,undef,undef,undef,undef,undef,undef,undef,ah,ai,aj,al,am,an,ao,ap,aq,ar,au,av,ax,ay,az,aA,aB,aC,aD,aE,aF,aG,aH,aI,aJ,aL,aM,aN,aO,aP,aQ,aR,aS,aT,aU,aV,aX,aY,aZ,a2,a3,a4,a5,a6,a7,a8,a9,ba,bb,bc,bd,be,bf,bg,bh,bi,bj,bl,bm,bn,bo,bp,bq,br,bs,bt,bu,bv,bx,bz,u115,bA,bB,bC,bD,bE,bF,bG,bH,bI,bJ,bL,bM,bN,bO,bP,bQ,bR,bS,bT,bU,bV,bX,bY,bZ,b2,b3,b4,b5,b6,b7,b8,b9,ca,cb,cc,cd,ce,cf,cg,ch,ci,cj,cl,cm,cn,co,cp,cq,cr,cs,ct,cu,cv,cx,cy,cz,cA,cB,cC,cD,cE,cF,cG,cH,cI,cJ,cL,cM,cN,cO,cP,cQ,cR,cS,cT,cU,cV,cX,cY,cZ,c2,c3,c4,c5,c6,c7,c8,c9,da,db,dc,dd,de,df,dg,dh,di,dj,dl,dm,dn,dp,dq,dr,ds,dt,du,dv,dx,dy,dz,dA,dB,dC,dD,dE,dF,dG,dH,dI,dJ,dL,dM,dN,dO,dP,dQ,dR,dS,dT,dU,dV,dX,dY,dZ,d2,d3,d4,d5,d6,d7,d8,d9,ea,eb,ec,ed,ee,ef,eg,eh,ei,ej,el,em,en,eo,ep,eq,er,es,et,eu,ev,ex,ey,ez,eA,eB,eC,eD,eE,eF,eG,eH,eI,eJ,eL,eM,eN,eO,eP,eQ,eR,eS,eT] []) wc
def laws_FnAnswers.R4 (l0 : List Int) (r : Bool) (w : World) (t575 t578 : List Int) (t581 : Bool) (t582 : Int) (t584 : Bool) (t585 : Int) (gb583 : Nat) (Ao10 : Option Addr) (co10 : Nat) (Ao12 : Option Addr) (co12 : Nat) (t588 t591 : List Int) (t594 : Int) (t596 t599 : List Int) (gb595 : Nat) (Ao24 : Option Addr) (co24 : Nat) (Ao27 : Option Addr) (co27 gb603 : Nat) (Ao31 : Option Addr) (co31 : Nat) (Ao35 : Option Addr) (co35 kj46 : Nat) (v133 : Value) (wc : World) : Prop := ∃ (kq : Nat) (x133_57 : Bool), v133 = .bool x133_57 ∧ Aside0 (laws_FnAnswers.j3 kq l0 t581 t582 t584 t585 t594 x133_57 t575 t578 t588 t591 = some r) ∧ Aside0 (kq ≤ kj46) ∧ Aside0 (Kd.R (Kd.int .i64) 2 wc w.heap.size (fun k_ => some k_ ≠ ((.slice Ao12 t578.length co12) : Value).ownBlock ∧ some k_ ≠ ((.slice Ao24 t588.length co24) : Value).ownBlock ∧ some k_ ≠ ((.slice Ao27 t591.length co27) : Value).ownBlock ∧ some k_ ≠ ((.slice Ao31 t596.length co31) : Value).ownBlock ∧ some k_ ≠ ((.slice Ao35 t599.length co35) : Value).ownBlock) (.slice Ao10 t575.length co10) t575) ∧ Aside0 (Kd.R (Kd.int .i64) 2 wc w.heap.size (fun k_ => some k_ ≠ ((.slice Ao10 t575.length co10) : Value).ownBlock ∧ some k_ ≠ ((.slice Ao24 t588.length co24) : Value).ownBlock ∧ some k_ ≠ ((.slice Ao27 t591.length co27) : Value).ownBlock ∧ some k_ ≠ ((.slice Ao31 t596.length co31) : Value).ownBlock ∧ some k_ ≠ ((.slice Ao35 t599.length co35) : Value).ownBlock) (.slice Ao12 t578.length co12) t578) ∧ Aside0 (Kd.R (Kd.int .i64) 2 wc w.heap.size (fun k_ => some k_ ≠ ((.slice Ao10 t575.length co10) : Value).ownBlock ∧ some k_ ≠ ((.slice Ao12 t578.length co12) : Value).ownBlock ∧ some k_ ≠ ((.slice Ao27 t591.length co27) : Value).ownBlock ∧ some k_ ≠ ((.slice Ao31 t596.length co31) : Value).ownBlock ∧ some k_ ≠ ((.slice Ao35 t599.length co35) : Value).ownBlock) (.slice Ao24 t588.length co24) t588) ∧ Aside0 (Kd.R (Kd.int .i64) 2 wc w.heap.size (fun k_ => some k_ ≠ ((.slice Ao10 t575.length co10) : Value).ownBlock ∧ some k_ ≠ ((.slice Ao12 t578.length co12) : Value).ownBlock ∧ some k_ ≠ ((.slice Ao24 t588.length co24) : Value).ownBlock ∧ some k_ ≠ ((.slice Ao31 t596.length co31) : Value).ownBlock ∧ some k_ ≠ ((.slice Ao35 t599.length co35) : Value).ownBlock) (.slice Ao27 t591.length co27) t591) ∧ Aside0 (Kd.R (Kd.int .i64) 2 wc w.heap.size (fun k_ => some k_ ≠ ((.slice Ao10 t575.length co10) : Value).ownBlock ∧ some k_ ≠ ((.slice Ao12 t578.length co12) : Value).ownBlock ∧ some k_ ≠ ((.slice Ao24 t588.length co24) : Value).ownBlock ∧ some k_ ≠ ((.slice Ao27 t591.length co27) : Value).ownBlock ∧ some k_ ≠ ((.slice Ao35 t599.length co35) : Value).ownBlock) (.slice Ao31 t596.length co31) t596) ∧ Aside0 (Kd.R (Kd.int .i64) 2 wc w.heap.size (fun k_ => some k_ ≠ ((.slice Ao10 t575.length co10) : Value).ownBlock ∧ some k_ ≠ ((.slice Ao12 t578.length co12) : Value).ownBlock ∧ some k_ ≠ ((.slice Ao24 t588.length co24) : Value).ownBlock ∧ some k_ ≠ ((.slice Ao27 t591.length co27) : Value).ownBlock ∧ some k_ ≠ ((.slice Ao31 t596.length co31) : Value).ownBlock) (.slice Ao35 t599.length co35) t599) ∧ Aside0 (wc.heap[gb583]? = some (.cells #[(.slice Ao10 t575.length co10), (.slice Ao12 t578.length co12)] 27 (0, 0))) ∧ Aside0 (wc.heap[gb595]? = some (.cells #[(.slice Ao24 t588.length co24), (.slice Ao27 t591.length co27)] 27 (0, 0))) ∧ Aside0 (wc.heap[gb603]? = some (.cells #[(.slice Ao31 t596.length co31), (.slice Ao35 t599.length co35)] 27 (0, 0))) ∧ Aside0 (Below w.heap.size w wc)
set_option maxRecDepth 100000 in
def laws_FnAnswers.S4 : Prop := ∀ {aa ab ac ad ae af ag ah ai aj al am an ao ap aq ar au av ax ay az aA aB aC aD aE aF aG aH aI aJ aL aM aN aO aP aQ aR aS aT aU aV aX aY aZ a2 a3 a4 a5 a6 a7 a8 a9 ba bb bc bd be bf bg bh bi bj bl bm bn bo bp bq br bs bt bu bv bx bz bA bB bC bD bE bF bG bH bI bJ bL bM bN bO bP bQ bR bS bT bU bV bX bY bZ b2 b3 b4 b5 b6 b7 b8 b9 ca cb cc cd ce cf cg ch ci cj cl cm cn co cp cq cr cs ct cu cv cx cy cz cA cB cC cD cE cF cG cH cI cJ cL cM cN cO cP cQ cR cS cT cU cV cX cY cZ c2 c3 c4 c5 c6 c7 c8 c9 da db dc dd de df dg dh di dj dl dm dn dp dq dr ds dt du dv dx dy dz dA dB dC dD dE dF dG dH dI dJ dL dM dN dO dP dQ dR dS dT dU dV dX dY dZ d2 d3 d4 d5 d6 d7 d8 d9 ea eb ec ed ee ef eg eh ei ej el em en eo ep eq er es et eu ev ex ey ez eA eB eC eD eE eF eG eH eI eJ eL eM eN eO eP eQ eR eS eT eU eV eX eY : Value} {k : Nat} {A0 : Option Addr} {c0 : Nat} {l0 : List Int} {r : Bool} {w : World} (hu27 : Try.prog.underlying 27 = some (TypeDesc.struct #[Field.mk "Chains" 22 0 false "" "" 0, Field.mk "Loops" 22 1 false "" "" 24])) (HR0 : Aside0 ((Kd.int IntKind.u8).C w A0 l0.length l0)) (HC0 : Aside0 (l0.length ≤ c0)) {t575 t578 : List Int} {t581 : Bool} {t582 : Int} {t584 : Bool} {t585 : Int} {gb583 : Nat} {Ao10 : Option Addr} {co10 : Nat} {Ao12 : Option Addr} {co12 kj6 : Nat} (HJ6 : Aside0 (kj6 + 1 ≤ k)) {t588 t591 : List Int} {t594 : Int} {t596 t599 : List Int} {gb595 : Nat} (NB583_595 : Aside0 (gb583 ≠ gb595)) (NB595_583 : Aside0 (gb595 ≠ gb583)) {Ao24 : Option Addr} {co24 : Nat} (hnb25 : gb595 ≠ gb583) (hnc25 : gb583 ≠ gb595) {Ao27 : Option Addr} {co27 gb603 : Nat} (NB583_603 : Aside0 (gb583 ≠ gb603)) (NB603_583 : Aside0 (gb603 ≠ gb583)) (NB595_603 : Aside0 (gb595 ≠ gb603)) (NB603_595 : Aside0 (gb603 ≠ gb595)) {Ao31 : Option Addr} {co31 : Nat} (hnb32 : gb603 ≠ gb583) (hnc32 : gb583 ≠ gb603) (hnb33 : gb603 ≠ gb595) (hnc33 : gb595 ≠ gb603) {Ao35 : Option Addr} {co35 kj19 : Nat} (HJ19 : Aside0 (kj19 + 1 ≤ kj6)) {kj46 : Nat} (HJ46 : Aside0 (kj46 + 1 ≤ kj19)) {z4_382 : Act → World → Prop} (z4_383 : ∀ (a_ : Act) (w_ : World), Code.wp Try.prog (Sect.at_ [true,true,true,true,true,true,true,true,true,true,true] (Try.f13.body.getD .skip)) ((bodyPost Try.prog Try.f13 fun e w' => e = Ending.returned (Value.bool r) ∧ Below w.heap.size w w')) a_ w_ → z4_382 a_ w_) {wc : World} {u133 : Value} (hcut : laws_FnAnswers.R4 l0 r w t575 t578 t581 t582 t584 t585 gb583 Ao10 co10 Ao12 co12 t588 t591 t594 t596 t599 gb595 Ao24 co24 Ao27 co27 gb603 Ao31 co31 Ao35 co35 kj46 u133 wc), Code.wp Try.prog (Sect.at_ [true,true,true,true,true,true,true,true,true,true,false,true,true] (Try.f13.body.getD .skip)) (Exit.then z4_382 (bodyPost Try.prog Try.f13 fun e w' => e = Ending.returned (Value.bool r) ∧ Below w.heap.size w w')) (Act.mk #[.slice A0 l0.length c0,undef,.bool false,.pointer (some (Addr.mk gb583 0 none)),.bool t581,.int .i64 t582,.bool t584,.int .i64 t585,al,aj,.pointer (some (Addr.mk gb595 0 none)),.int .i64 t594,.pointer (some (Addr.mk gb603 0 none)),ai,ah,ag,af,ae,ad,ac,ab,aa,undef,undef,undef,undef,undef,undef,undef,undef,undef,undef,undef,undef,undef,undef,undef,undef,undef,undef,undef,undef,undef,undef,undef,am,an,ao,ap,aq,ar,au,av,ax,ay,az,aA,aB,aC,aD,aE,aF,aG,aH,aI,aJ,aL,aM,aN,aO,aP,aQ,aR,aS,aT,aU,aV,aX,aY,aZ,a2,a3,a4,a5,a6,a7,a8,a9,ba,bb,bc,bd,be,bf,bg,bh,bi,bj,bl,bm,bn,bo,bp,bq,br,bs,bt,bu,bv,bx,bz,bA,bB,bC,bD,bE,bF,bG,bH,bI,bJ,bL,bM,bN,bO,bP,bQ,bR,bS,bT,bU,bV,bX,u133,bY,bZ,b2,b3,b4,b5,b6,b7,b8,b9,ca,cb,cc,cd,ce,cf,cg,ch,ci,cj,cl,cm,cn,co,cp,cq,cr,cs,ct,cu,cv,cx,cy,cz,cA,cB,cC,cD,cE,cF,cG,cH,cI,cJ,cL,cM,cN,cO,cP,cQ,cR,cS,cT,cU,cV,cX,cY,cZ,c2,c3,c4,c5,c6,c7,c8,c9,da,db,dc,dd,de,df,dg,dh,di,dj,dl,dm,dn,dp,dq,dr,ds,dt,du,dv,dx,dy,dz,dA,dB,dC,dD,dE,dF,dG,dH,dI,dJ,dL,dM,dN,dO,dP,dQ,dR,dS,dT,dU,dV,dX,dY,dZ,d2,d3,d4,d5,d6,d7,d8,d9,ea,eb,ec,ed,ee,ef,eg,eh,ei,ej,el,em,en,eo,ep,eq,er,es,et,eu,ev,ex,ey,ez,eA,eB,eC,eD,eE,eF,eG,eH,eI,eJ,eL,eM,eN,eO,eP,eQ,eR,eS,eT,eU,eV,eX,eY] []) wc
def laws_FnAnswers.R5 (l0 : List Int) (r : Bool) (w : World) (t575 t578 : List Int) (t581 : Bool) (t582 : Int) (t584 : Bool) (t585 : Int) (gb583 : Nat) (Ao10 : Option Addr) (co10 : Nat) (Ao12 : Option Addr) (co12 : Nat) (t588 t591 : List Int) (t594 : Int) (t596 t599 : List Int) (gb595 : Nat) (Ao24 : Option Addr) (co24 : Nat) (Ao27 : Option Addr) (co27 gb603 : Nat) (Ao31 : Option Addr) (co31 : Nat) (Ao35 : Option Addr) (co35 kj57 : Nat) (v161 : Value) (wc : World) : Prop := ∃ (kq : Nat) (x161_69 : Bool), v161 = .bool x161_69 ∧ Aside0 (laws_FnAnswers.j4 kq l0 t581 t582 t584 t585 t594 x161_69 t575 t578 t588 t591 = some r) ∧ Aside0 (kq ≤ kj57) ∧ Aside0 (Kd.R (Kd.int .i64) 2 wc w.heap.size (fun k_ => some k_ ≠ ((.slice Ao12 t578.length co12) : Value).ownBlock ∧ some k_ ≠ ((.slice Ao24 t588.length co24) : Value).ownBlock ∧ some k_ ≠ ((.slice Ao27 t591.length co27) : Value).ownBlock ∧ some k_ ≠ ((.slice Ao31 t596.length co31) : Value).ownBlock ∧ some k_ ≠ ((.slice Ao35 t599.length co35) : Value).ownBlock) (.slice Ao10 t575.length co10) t575) ∧ Aside0 (Kd.R (Kd.int .i64) 2 wc w.heap.size (fun k_ => some k_ ≠ ((.slice Ao10 t575.length co10) : Value).ownBlock ∧ some k_ ≠ ((.slice Ao24 t588.length co24) : Value).ownBlock ∧ some k_ ≠ ((.slice Ao27 t591.length co27) : Value).ownBlock ∧ some k_ ≠ ((.slice Ao31 t596.length co31) : Value).ownBlock ∧ some k_ ≠ ((.slice Ao35 t599.length co35) : Value).ownBlock) (.slice Ao12 t578.length co12) t578) ∧ Aside0 (Kd.R (Kd.int .i64) 2 wc w.heap.size (fun k_ => some k_ ≠ ((.slice Ao10 t575.length co10) : Value).ownBlock ∧ some k_ ≠ ((.slice Ao12 t578.length co12) : Value).ownBlock ∧ some k_ ≠ ((.slice Ao27 t591.length co27) : Value).ownBlock ∧ some k_ ≠ ((.slice Ao31 t596.length co31) : Value).ownBlock ∧ some k_ ≠ ((.slice Ao35 t599.length co35) : Value).ownBlock) (.slice Ao24 t588.length co24) t588) ∧ Aside0 (Kd.R (Kd.int .i64) 2 wc w.heap.size (fun k_ => some k_ ≠ ((.slice Ao10 t575.length co10) : Value).ownBlock ∧ some k_ ≠ ((.slice Ao12 t578.length co12) : Value).ownBlock ∧ some k_ ≠ ((.slice Ao24 t588.length co24) : Value).ownBlock ∧ some k_ ≠ ((.slice Ao31 t596.length co31) : Value).ownBlock ∧ some k_ ≠ ((.slice Ao35 t599.length co35) : Value).ownBlock) (.slice Ao27 t591.length co27) t591) ∧ Aside0 (Kd.R (Kd.int .i64) 2 wc w.heap.size (fun k_ => some k_ ≠ ((.slice Ao10 t575.length co10) : Value).ownBlock ∧ some k_ ≠ ((.slice Ao12 t578.length co12) : Value).ownBlock ∧ some k_ ≠ ((.slice Ao24 t588.length co24) : Value).ownBlock ∧ some k_ ≠ ((.slice Ao27 t591.length co27) : Value).ownBlock ∧ some k_ ≠ ((.slice Ao35 t599.length co35) : Value).ownBlock) (.slice Ao31 t596.length co31) t596) ∧ Aside0 (Kd.R (Kd.int .i64) 2 wc w.heap.size (fun k_ => some k_ ≠ ((.slice Ao10 t575.length co10) : Value).ownBlock ∧ some k_ ≠ ((.slice Ao12 t578.length co12) : Value).ownBlock ∧ some k_ ≠ ((.slice Ao24 t588.length co24) : Value).ownBlock ∧ some k_ ≠ ((.slice Ao27 t591.length co27) : Value).ownBlock ∧ some k_ ≠ ((.slice Ao31 t596.length co31) : Value).ownBlock) (.slice Ao35 t599.length co35) t599) ∧ Aside0 (wc.heap[gb583]? = some (.cells #[(.slice Ao10 t575.length co10), (.slice Ao12 t578.length co12)] 27 (0, 0))) ∧ Aside0 (wc.heap[gb595]? = some (.cells #[(.slice Ao24 t588.length co24), (.slice Ao27 t591.length co27)] 27 (0, 0))) ∧ Aside0 (wc.heap[gb603]? = some (.cells #[(.slice Ao31 t596.length co31), (.slice Ao35 t599.length co35)] 27 (0, 0))) ∧ Aside0 (Below w.heap.size w wc)
set_option maxRecDepth 100000 in
def laws_FnAnswers.S5 : Prop := ∀ {aa ab ac ad ae af ag ah ai aj al am an ao ap aq ar au av ax ay az aA aB aC aD aE aF aG aH aI aJ aL aM aN aO aP aQ aR aS aT aU aV aX aY aZ a2 a3 a4 a5 a6 a7 a8 a9 ba bb bc bd be bf bg bh bi bj bl bm bn bo bp bq br bs bt bu bv bx bz bA bB bC bD bE bF bG bH bI bJ bL bM bN bO bP bQ bR bS bT bU bV bX bY bZ b2 b3 b4 b5 b6 b7 b8 b9 ca cb cc cd ce cf cg ch ci cj cl cm cn co cp cq cr cs ct cu cv cx cy cz cA cB cC cD cE cF cG cH cI cJ cL cM cN cO cP cQ cR cS cT cU cV cX cY cZ c2 c3 c4 c5 c6 c7 c8 c9 da db dc dd de df dg dh di dj dl dm dn dp dq dr ds dt du dv dx dy dz dA dB dC dD dE dF dG dH dI dJ dL dM dN dO dP dQ dR dS dT dU dV dX dY dZ d2 d3 d4 d5 d6 d7 d8 d9 ea eb ec ed ee ef eg eh ei ej el em en eo ep eq er es et eu ev ex ey ez eA eB eC eD eE eF eG eH eI eJ eL eM eN eO eP eQ eR eS eT eU eV eX eY eZ e2 e3 e4 e5 e6 e7 : Value} {k : Nat} {A0 : Option Addr} {c0 : Nat} {l0 : List Int} {r : Bool} {w : World} (hu27 : Try.prog.underlying 27 = some (TypeDesc.struct #[Field.mk "Chains" 22 0 false "" "" 0, Field.mk "Loops" 22 1 false "" "" 24])) (HR0 : Aside0 ((Kd.int IntKind.u8).C w A0 l0.length l0)) (HC0 : Aside0 (l0.length ≤ c0)) {t575 t578 : List Int} {t581 : Bool} {t582 : Int} {t584 : Bool} {t585 : Int} {gb583 : Nat} {Ao10 : Option Addr} {co10 : Nat} {Ao12 : Option Addr} {co12 kj6 : Nat} (HJ6 : Aside0 (kj6 + 1 ≤ k)) {t588 t591 : List Int} {t594 : Int} {t596 t599 : List Int} {gb595 : Nat} (NB583_595 : Aside0 (gb583 ≠ gb595)) (NB595_583 : Aside0 (gb595 ≠ gb583)) {Ao24 : Option Addr} {co24 : Nat} (hnb25 : gb595 ≠ gb583) (hnc25 : gb583 ≠ gb595) {Ao27 : Option Addr} {co27 gb603 : Nat} (NB583_603 : Aside0 (gb583 ≠ gb603)) (NB603_583 : Aside0 (gb603 ≠ gb583)) (NB595_603 : Aside0 (gb595 ≠ gb603)) (NB603_595 : Aside0 (gb603 ≠ gb595)) {Ao31 : Option Addr} {co31 : Nat} (hnb32 : gb603 ≠ gb583) (hnc32 : gb583 ≠ gb603) (hnb33 : gb603 ≠ gb595) (hnc33 : gb595 ≠ gb603) {Ao35 : Option Addr} {co35 kj19 : Nat} (HJ19 : Aside0 (kj19 + 1 ≤ kj6)) {kj46 : Nat} (HJ46 : Aside0 (kj46 + 1 ≤ kj19)) {kj57 : Nat} (HJ57 : Aside0 (kj57 + 1 ≤ kj46)) {z5_388 : Act → World → Prop} (z5_389 : ∀ (a_ : Act) (w_ : World), Code.wp Try.prog (Sect.at_ [true,true,true,true,true,true,true,true,true,true,true,true,true,true] (Try.f13.body.getD .skip)) ((bodyPost Try.prog Try.f13 fun e w' => e = Ending.returned (Value.bool r) ∧ Below w.heap.size w w')) a_ w_ → z5_388 a_ w_) {wc : World} {u161 : Value} (hcut : laws_FnAnswers.R5 l0 r w t575 t578 t581 t582 t584 t585 gb583 Ao10 co10 Ao12 co12 t588 t591 t594 t596 t599 gb595 Ao24 co24 Ao27 co27 gb603 Ao31 co31 Ao35 co35 kj57 u161 wc), Code.wp Try.prog (Sect.at_ [true,true,true,true,true,true,true,true,true,true,true,true,true,false,true,true] (Try.f13.body.getD .skip)) (Exit.then z5_388 (bodyPost Try.prog Try.f13 fun e w' => e = Ending.returned (Value.bool r) ∧ Below w.heap.size w w')) (Act.mk #[.slice A0 l0.length c0,undef,.bool false,.pointer (some (Addr.mk gb583 0 none)),.bool t581,.int .i64 t582,.bool t584,.int .i64 t585,au,ar,.pointer (some (Addr.mk gb595 0 none)),.int .i64 t594,.pointer (some (Addr.mk gb603 0 none)),aq,ap,ao,an,am,al,aj,ai,ah,ag,af,ae,ad,ac,ab,aa,undef,undef,undef,undef,undef,undef,undef,undef,undef,undef,undef,undef,undef,undef,undef,undef,av,ax,ay,az,aA,aB,aC,aD,aE,aF,aG,aH,aI,aJ,aL,aM,aN,aO,aP,aQ,aR,aS,aT,aU,aV,aX,aY,aZ,a2,a3,a4,a5,a6,a7,a8,a9,ba,bb,bc,bd,be,bf,bg,bh,bi,bj,bl,bm,bn,bo,bp,bq,br,bs,bt,bu,bv,bx,bz,bA,bB,bC,bD,bE,bF,bG,bH,bI,bJ,bL,bM,bN,bO,bP,bQ,bR,bS,bT,bU,bV,bX,bY,bZ,b2,b3,b4,b5,b6,b7,b8,b9,ca,cb,cc,cd,ce,cf,cg,ch,ci,cj,cl,cm,cn,co,cp,cq,cr,cs,ct,cu,cv,cx,cy,cz,cA,u161,cB,cC,cD,cE,cF,cG,cH,cI,cJ,cL,cM,cN,cO,cP,cQ,cR,cS,cT,cU,cV,cX,cY,cZ,c2,c3,c4,c5,c6,c7,c8,c9,da,db,dc,dd,de,df,dg,dh,di,dj,dl,dm,dn,dp,dq,dr,ds,dt,du,dv,dx,dy,dz,dA,dB,dC,dD,dE,dF,dG,dH,dI,dJ,dL,dM,dN,dO,dP,dQ,dR,dS,dT,dU,dV,dX,dY,dZ,d2,d3,d4,d5,d6,d7,d8,d9,ea,eb,ec,ed,ee,ef,eg,eh,ei,ej,el,em,en,eo,ep,eq,er,es,et,eu,ev,ex,ey,ez,eA,eB,eC,eD,eE,eF,eG,eH,eI,eJ,eL,eM,eN,eO,eP,eQ,eR,eS,eT,eU,eV,eX,eY,eZ,e2,e3,e4,e5,e6,e7] []) wc
def laws_FnAnswers.R6 (r : Bool) (w : World) (t575 t578 : List Int) (t581 : Bool) (t582 : Int) (t584 : Bool) (t585 : Int) (gb583 : Nat) (Ao10 : Option Addr) (co10 : Nat) (Ao12 : Option Addr) (co12 : Nat) (t588 t591 : List Int) (t594 : Int) (t596 t599 : List Int) (gb595 : Nat) (Ao24 : Option Addr) (co24 : Nat) (Ao27 : Option Addr) (co27 gb603 : Nat) (Ao31 : Option Addr) (co31 : Nat) (Ao35 : Option Addr) (co35 kj69 : Nat) (t620 t621 : Int) (t622 : List Int) (t625 : Int) (v623 : Value) (v187 : Value) (wc : World) : Prop := ∃ (kq : Nat) (x187_76 : Bool), v187 = .bool x187_76 ∧ Aside0 (laws_FnAnswers.j5 kq t581 t582 t584 t585 t594 t620 t621 t622 t625 x187_76 t575 t578 t588 t591 = some r) ∧ Aside0 (kq ≤ kj69) ∧ Aside0 (Kd.V (Kd.int .i64) 2 wc w.heap.size (fun k_ => some k_ ≠ ((.slice Ao10 t575.length co10) : Value).ownBlock ∧ some k_ ≠ ((.slice Ao12 t578.length co12) : Value).ownBlock ∧ some k_ ≠ ((.slice Ao24 t588.length co24) : Value).ownBlock ∧ some k_ ≠ ((.slice Ao27 t591.length co27) : Value).ownBlock ∧ some k_ ≠ ((.slice Ao31 t596.length co31) : Value).ownBlock ∧ some k_ ≠ ((.slice Ao35 t599.length co35) : Value).ownBlock ∧ k_ ≠ gb583 ∧ k_ ≠ gb595 ∧ k_ ≠ gb603) v623 t622) ∧ Aside0 (Kd.R (Kd.int .i64) 2 wc w.heap.size (fun k_ => some k_ ≠ ((.slice Ao12 t578.length co12) : Value).ownBlock ∧ some k_ ≠ ((.slice Ao24 t588.length co24) : Value).ownBlock ∧ some k_ ≠ ((.slice Ao27 t591.length co27) : Value).ownBlock ∧ some k_ ≠ ((.slice Ao31 t596.length co31) : Value).ownBlock ∧ some k_ ≠ ((.slice Ao35 t599.length co35) : Value).ownBlock) (.slice Ao10 t575.length co10) t575) ∧ Aside0 (Kd.R (Kd.int .i64) 2 wc w.heap.size (fun k_ => some k_ ≠ ((.slice Ao10 t575.length co10) : Value).ownBlock ∧ some k_ ≠ ((.slice Ao24 t588.length co24) : Value).ownBlock ∧ some k_ ≠ ((.slice Ao27 t591.length co27) : Value).ownBlock ∧ some k_ ≠ ((.slice Ao31 t596.length co31) : Value).ownBlock ∧ some k_ ≠ ((.slice Ao35 t599.length co35) : Value).ownBlock) (.slice Ao12 t578.length co12) t578) ∧ Aside0 (Kd.R (Kd.int .i64) 2 wc w.heap.size (fun k_ => some k_ ≠ ((.slice Ao10 t575.length co10) : Value).ownBlock ∧ some k_ ≠ ((.slice Ao12 t578.length co12) : Value).ownBlock ∧ some k_ ≠ ((.slice Ao27 t591.length co27) : Value).ownBlock ∧ some k_ ≠ ((.slice Ao31 t596.length co31) : Value).ownBlock ∧ some k_ ≠ ((.slice Ao35 t599.length co35) : Value).ownBlock) (.slice Ao24 t588.length co24) t588) ∧ Aside0 (Kd.R (Kd.int .i64) 2 wc w.heap.size (fun k_ => some k_ ≠ ((.slice Ao10 t575.length co10) : Value).ownBlock ∧ some k_ ≠ ((.slice Ao12 t578.length co12) : Value).ownBlock ∧ some k_ ≠ ((.slice Ao24 t588.length co24) : Value).ownBlock ∧ some k_ ≠ ((.slice Ao31 t596.length co31) : Value).ownBlock ∧ some k_ ≠ ((.slice Ao35 t599.length co35) : Value).ownBlock) (.slice Ao27 t591.length co27) t591) ∧ Aside0 (Kd.R (Kd.int .i64) 2 wc w.heap.size (fun k_ => some k_ ≠ ((.slice Ao10 t575.length co10) : Value).ownBlock ∧ some k_ ≠ ((.slice Ao12 t578.length co12) : Value).ownBlock ∧ some k_ ≠ ((.slice Ao24 t588.length co24) : Value).ownBlock ∧ some k_ ≠ ((.slice Ao27 t591.length co27) : Value).ownBlock ∧ some k_ ≠ ((.slice Ao35 t599.length co35) : Value).ownBlock) (.slice Ao31 t596.length co31) t596) ∧ Aside0 (Kd.R (Kd.int .i64) 2 wc w.heap.size (fun k_ => some k_ ≠ ((.slice Ao10 t575.length co10) : Value).ownBlock ∧ some k_ ≠ ((.slice Ao12 t578.length co12) : Value).ownBlock ∧ some k_ ≠ ((.slice Ao24 t588.length co24) : Value).ownBlock ∧ some k_ ≠ ((.slice Ao27 t591.length co27) : Value).ownBlock ∧ some k_ ≠ ((.slice Ao31 t596.length co31) : Value).ownBlock) (.slice Ao35 t599.length co35) t599) ∧ Aside0 (wc.heap[gb583]? = some (.cells #[(.slice Ao10 t575.length co10), (.slice Ao12 t578.length co12)] 27 (0, 0))) ∧ Aside0 (wc.heap[gb595]? = some (.cells #[(.slice Ao24 t588.length co24), (.slice Ao27 t591.length co27)] 27 (0, 0))) ∧ Aside0 (wc.heap[gb603]? = some (.cells #[(.slice Ao31 t596.length co31), (.slice Ao35 t599.length co35)] 27 (0, 0))) ∧ Aside0 (Below w.heap.size w wc)
set_option maxRecDepth 100000 in
def laws_FnAnswers.S6 : Prop := ∀ {aa ab ac ad ae af ag ah ai aj al am an ao ap aq ar au av ax ay az aA aB aC aD aE aF aG aH aI aJ aL aM aN aO aP aQ aR aS aT aU aV aX aY aZ a2 a3 a4 a5 a6 a7 a8 a9 ba bb bc bd be bf bg bh bi bj bl bm bn bo bp bq br bs bt bu bv bx bz bA bB bC bD bE bF bG bH bI bJ bL bM bN bO bP bQ bR bS bT bU bV bX bY bZ b2 b3 b4 b5 b6 b7 b8 b9 ca cb cc cd ce cf cg ch ci cj cl cm cn co cp cq cr cs ct cu cv cx cy cz cA cB cC cD cE cF cG cH cI cJ cL cM cN cO cP cQ cR cS cT cU cV cX cY cZ c2 c3 c4 c5 c6 c7 c8 c9 da db dc dd de df dg dh di dj dl dm dn dp dq dr ds dt du dv dx dy dz dA dB dC dD dE dF dG dH dI dJ dL dM dN dO dP dQ dR dS dT dU dV dX dY dZ d2 d3 d4 d5 d6 d7 d8 d9 ea eb ec ed ee ef eg eh ei ej el em en eo ep eq er es et eu ev ex ey ez eA eB eC eD eE eF eG eH eI eJ eL eM eN eO eP eQ eR eS eT eU eV eX eY eZ e2 e3 e4 e5 e6 e7 e8 e9 : Value} {k : Nat} {r : Bool} {w : World} (hu27 : Try.prog.underlying 27 = some (TypeDesc.struct #[Field.mk "Chains" 22 0 false "" "" 0, Field.mk "Loops" 22 1 false "" "" 24])) {t575 t578 : List Int} {t581 : Bool} {t582 : Int} {t584 : Bool} {t585 : Int} {gb583 : Nat} {Ao10 : Option Addr} {co10 : Nat} {Ao12 : Option Addr} {co12 kj6 : Nat} (HJ6 : Aside0 (kj6 + 1 ≤ k)) {t588 t591 : List Int} {t594 : Int} {t596 t599 : List Int} {gb595 : Nat} (NB583_595 : Aside0 (gb583 ≠ gb595)) (NB595_583 : Aside0 (gb595 ≠ gb583)) {Ao24 : Option Addr} {co24 : Nat} (hnb25 : gb595 ≠ gb583) (hnc25 : gb583 ≠ gb595) {Ao27 : Option Addr} {co27 gb603 : Nat} (NB583_603 : Aside0 (gb583 ≠ gb603)) (NB603_583 : Aside0 (gb603 ≠ gb583)) (NB595_603 : Aside0 (gb595 ≠ gb603)) (NB603_595 : Aside0 (gb603 ≠ gb595)) {Ao31 : Option Addr} {co31 : Nat} (hnb32 : gb603 ≠ gb583) (hnc32 : gb583 ≠ gb603) (hnb33 : gb603 ≠ gb595) (hnc33 : gb595 ≠ gb603) {Ao35 : Option Addr} {co35 kj19 : Nat} (HJ19 : Aside0 (kj19 + 1 ≤ kj6)) {kj46 : Nat} (HJ46 : Aside0 (kj46 + 1 ≤ kj19)) {kj57 : Nat} (HJ57 : Aside0 (kj57 + 1 ≤ kj46)) {kj69 : Nat} (HJ69 : Aside0 (kj69 + 1 ≤ kj57)) {t620 t621 : Int} {t622 : List Int} {t625 : Int} {v623 : Value} {z6_409 : Act → World → Prop} (z6_410 : ∀ (a_ : Act) (w_ : World), Code.wp Try.prog (Sect.at_ [true,true,true,true,true,true,true,true,true,true,true,true,true,true,true,true,true] (Try.f13.body.getD .skip)) ((bodyPost Try.prog Try.f13 fun e w' => e = Ending.returned (Value.bool r) ∧ Below w.heap.size w w')) a_ w_ → z6_409 a_ w_) {v627 : Value} {wc : World} {u187 : Value} (hcut : laws_FnAnswers.R6 r w t575 t578 t581 t582 t584 t585 gb583 Ao10 co10 Ao12 co12 t588 t591 t594 t596 t599 gb595 Ao24 co24 Ao27 co27 gb603 Ao31 co31 Ao35 co35 kj69 t620 t621 t622 t625 v623 u187 wc), Code.wp Try.prog (Sect.at_ [true,true,true,true,true,true,true,true,true,true,true,true,true,true,true,true,false,true,true] (Try.f13.body.getD .skip)) (Exit.then z6_409 (bodyPost Try.prog Try.f13 fun e w' => e = Ending.returned (Value.bool r) ∧ Below w.heap.size w w')) (Act.mk #[ab,undef,.bool false,.pointer (some (Addr.mk gb583 0 none)),.bool t581,.int .i64 t582,.bool t584,.int .i64 t585,ax,av,.pointer (some (Addr.mk gb595 0 none)),.int .i64 t594,.pointer (some (Addr.mk gb603 0 none)),au,ar,aq,ap,ao,an,am,al,aj,ai,ah,ag,af,ae,ad,ac,.int .i64 t620,.int .i64 t621,v623,.int .i64 t625,v627,aa,undef,undef,undef,undef,undef,undef,undef,undef,undef,undef,ay,az,aA,aB,aC,aD,aE,aF,aG,aH,aI,aJ,aL,aM,aN,aO,aP,aQ,aR,aS,aT,aU,aV,aX,aY,aZ,a2,a3,a4,a5,a6,a7,a8,a9,ba,bb,bc,bd,be,bf,bg,bh,bi,bj,bl,bm,bn,bo,bp,bq,br,bs,bt,bu,bv,bx,bz,bA,bB,bC,bD,bE,bF,bG,bH,bI,bJ,bL,bM,bN,bO,bP,bQ,bR,bS,bT,bU,bV,bX,bY,bZ,b2,b3,b4,b5,b6,b7,b8,b9,ca,cb,cc,cd,ce,cf,cg,ch,ci,cj,cl,cm,cn,co,cp,cq,cr,cs,ct,cu,cv,cx,cy,cz,cA,cB,cC,cD,cE,cF,cG,cH,cI,cJ,cL,cM,cN,cO,cP,cQ,cR,cS,cT,cU,cV,cX,cY,cZ,c2,c3,c4,c5,c6,u187,c7,c8,c9,da,db,dc,dd,de,df,dg,dh,di,dj,dl,dm,dn,dp,dq,dr,ds,dt,du,dv,dx,dy,dz,dA,dB,dC,dD,dE,dF,dG,dH,dI,dJ,dL,dM,dN,dO,dP,dQ,dR,dS,dT,dU,dV,dX,dY,dZ,d2,d3,d4,d5,d6,d7,d8,d9,ea,eb,ec,ed,ee,ef,eg,eh,ei,ej,el,em,en,eo,ep,eq,er,es,et,eu,ev,ex,ey,ez,eA,eB,eC,eD,eE,eF,eG,eH,eI,eJ,eL,eM,eN,eO,eP,eQ,eR,eS,eT,eU,eV,eX,eY,eZ,e2,e3,e4,e5,e6,e7,e8,e9] []) wc
def laws_FnAnswers.R7 (r : Bool) (w : World) (t575 t578 : List Int) (t581 : Bool) (t582 : Int) (t584 : Bool) (t585 : Int) (gb583 : Nat) (Ao10 : Option Addr) (co10 : Nat) (Ao12 : Option Addr) (co12 : Nat) (t588 t591 : List Int) (t594 : Int) (t596 t599 : List Int) (gb595 : Nat) (Ao24 : Option Addr) (co24 : Nat) (Ao27 : Option Addr) (co27 gb603 : Nat) (Ao31 : Option Addr) (co31 : Nat) (Ao35 : Option Addr) (co35 kj76 : Nat) (v201 : Value) (wc : World) : Prop := ∃ (kq : Nat) (x201_85 : Bool), v201 = .bool x201_85 ∧ Aside0 (laws_FnAnswers.j6 kq t581 t582 t584 t585 t594 x201_85 t575 t578 t588 t591 = some r) ∧ Aside0 (kq ≤ kj76) ∧ Aside0 (Kd.R (Kd.int .i64) 2 wc w.heap.size (fun k_ => some k_ ≠ ((.slice Ao12 t578.length co12) : Value).ownBlock ∧ some k_ ≠ ((.slice Ao24 t588.length co24) : Value).ownBlock ∧ some k_ ≠ ((.slice Ao27 t591.length co27) : Value).ownBlock ∧ some k_ ≠ ((.slice Ao31 t596.length co31) : Value).ownBlock ∧ some k_ ≠ ((.slice Ao35 t599.length co35) : Value).ownBlock) (.slice Ao10 t575.length co10) t575) ∧ Aside0 (Kd.R (Kd.int .i64) 2 wc w.heap.size (fun k_ => some k_ ≠ ((.slice Ao10 t575.length co10) : Value).ownBlock ∧ some k_ ≠ ((.slice Ao24 t588.length co24) : Value).ownBlock ∧ some k_ ≠ ((.slice Ao27 t591.length co27) : Value).ownBlock ∧ some k_ ≠ ((.slice Ao31 t596.length co31) : Value).ownBlock ∧ some k_ ≠ ((.slice Ao35 t599.length co35) : Value).ownBlock) (.slice Ao12 t578.length co12) t578) ∧ Aside0 (Kd.R (Kd.int .i64) 2 wc w.heap.size (fun k_ => some k_ ≠ ((.slice Ao10 t575.length co10) : Value).ownBlock ∧ some k_ ≠ ((.slice Ao12 t578.length co12) : Value).ownBlock ∧ some k_ ≠ ((.slice Ao27 t591.length co27) : Value).ownBlock ∧ some k_ ≠ ((.slice Ao31 t596.length co31) : Value).ownBlock ∧ some k_ ≠ ((.slice Ao35 t599.length co35) : Value).ownBlock) (.slice Ao24 t588.length co24) t588) ∧ Aside0 (Kd.R (Kd.int .i64) 2 wc w.heap.size (fun k_ => some k_ ≠ ((.slice Ao10 t575.length co10) : Value).ownBlock ∧ some k_ ≠ ((.slice Ao12 t578.length co12) : Value).ownBlock ∧ some k_ ≠ ((.slice Ao24 t588.length co24) : Value).ownBlock ∧ some k_ ≠ ((.slice Ao31 t596.length co31) : Value).ownBlock ∧ some k_ ≠ ((.slice Ao35 t599.length co35) : Value).ownBlock) (.slice Ao27 t591.length co27) t591) ∧ Aside0 (Kd.R (Kd.int .i64) 2 wc w.heap.size (fun k_ => some k_ ≠ ((.slice Ao10 t575.length co10) : Value).ownBlock ∧ some k_ ≠ ((.slice Ao12 t578.length co12) : Value).ownBlock ∧ some k_ ≠ ((.slice Ao24 t588.length co24) : Value).ownBlock ∧ some k_ ≠ ((.slice Ao27 t591.length co27) : Value).ownBlock ∧ some k_ ≠ ((.slice Ao35 t599.length co35) : Value).ownBlock) (.slice Ao31 t596.length co31) t596) ∧ Aside0 (Kd.R (Kd.int .i64) 2 wc w.heap.size (fun k_ => some k_ ≠ ((.slice Ao10 t575.length co10) : Value).ownBlock ∧ some k_ ≠ ((.slice Ao12 t578.length co12) : Value).ownBlock ∧ some k_ ≠ ((.slice Ao24 t588.length co24) : Value).ownBlock ∧ some k_ ≠ ((.slice Ao27 t591.length co27) : Value).ownBlock ∧ some k_ ≠ ((.slice Ao31 t596.length co31) : Value).ownBlock) (.slice Ao35 t599.length co35) t599) ∧ Aside0 (wc.heap[gb583]? = some (.cells #[(.slice Ao10 t575.length co10), (.slice Ao12 t578.length co12)] 27 (0, 0))) ∧ Aside0 (wc.heap[gb595]? = some (.cells #[(.slice Ao24 t588.length co24), (.slice Ao27 t591.length co27)] 27 (0, 0))) ∧ Aside0 (wc.heap[gb603]? = some (.cells #[(.slice Ao31 t596.length co31), (.slice Ao35 t599.length co35)] 27 (0, 0))) ∧ Aside0 (Below w.heap.size w wc)
set_option maxRecDepth 100000 in
def laws_FnAnswers.S7 : Prop := ∀ {aa ab ac ad ae af ag ah ai aj al am an ao ap aq ar au av ax ay az aA aB aC aD aE aF aG aH aI aJ aL aM aN aO aP aQ aR aS aT aU aV aX aY aZ a2 a3 a4 a5 a6 a7 a8 a9 ba bb bc bd be bf bg bh bi bj bl bm bn bo bp bq br bs bt bu bv bx bz bA bB bC bD bE bF bG bH bI bJ bL bM bN bO bP bQ bR bS bT bU bV bX bY bZ b2 b3 b4 b5 b6 b7 b8 b9 ca cb cc cd ce cf cg ch ci cj cl cm cn co cp cq cr cs ct cu cv cx cy cz cA cB cC cD cE cF cG cH cI cJ cL cM cN cO cP cQ cR cS cT cU cV cX cY cZ c2 c3 c4 c5 c6 c7 c8 c9 da db dc dd de df dg dh di dj dl dm dn dp dq dr ds dt du dv dx dy dz dA dB dC dD dE dF dG dH dI dJ dL dM dN dO dP dQ dR dS dT dU dV dX dY dZ d2 d3 d4 d5 d6 d7 d8 d9 ea eb ec ed ee ef eg eh ei ej el em en eo ep eq er es et eu ev ex ey ez eA eB eC eD eE eF eG eH eI eJ eL eM eN eO eP eQ eR eS eT eU eV eX eY eZ e2 e3 e4 e5 e6 e7 e8 e9 fa fb fc : Value} {k : Nat} {r : Bool} {w : World} (hu27 : Try.prog.underlying 27 = some (TypeDesc.struct #[Field.mk "Chains" 22 0 false "" "" 0, Field.mk "Loops" 22 1 false "" "" 24])) {t575 t578 : List Int} {t581 : Bool} {t582 : Int} {t584 : Bool} {t585 : Int} {gb583 : Nat} {Ao10 : Option Addr} {co10 : Nat} {Ao12 : Option Addr} {co12 kj6 : Nat} (HJ6 : Aside0 (kj6 + 1 ≤ k)) {t588 t591 : List Int} {t594 : Int} {t596 t599 : List Int} {gb595 : Nat} (NB583_595 : Aside0 (gb583 ≠ gb595)) (NB595_583 : Aside0 (gb595 ≠ gb583)) {Ao24 : Option Addr} {co24 : Nat} (hnb25 : gb595 ≠ gb583) (hnc25 : gb583 ≠ gb595) {Ao27 : Option Addr} {co27 gb603 : Nat} (NB583_603 : Aside0 (gb583 ≠ gb603)) (NB603_583 : Aside0 (gb603 ≠ gb583)) (NB595_603 : Aside0 (gb595 ≠ gb603)) (NB603_595 : Aside0 (gb603 ≠ gb595)) {Ao31 : Option Addr} {co31 : Nat} (hnb32 : gb603 ≠ gb583) (hnc32 : gb583 ≠ gb603) (hnb33 : gb603 ≠ gb595) (hnc33 : gb595 ≠ gb603) {Ao35 : Option Addr} {co35 kj19 : Nat} (HJ19 : Aside0 (kj19 + 1 ≤ kj6)) {kj46 : Nat} (HJ46 : Aside0 (kj46 + 1 ≤ kj19)) {kj57 : Nat} (HJ57 : Aside0 (kj57 + 1 ≤ kj46)) {kj69 : Nat} (HJ69 : Aside0 (kj69 + 1 ≤ kj57)) {v623 v627 : Value} {kj76 : Nat} (HJ76 : Aside0 (kj76 + 1 ≤ kj69)) {z7_366 : Act → World → Prop} (z7_367 : ∀ (a_ : Act) (w_ : World), Code.wp Try.prog (Sect.at_ [true,true,true,true,true,true,true,true,true,true,true,true,true,true,true,true,true,true] (Try.f13.body.getD .skip)) ((bodyPost Try.prog Try.f13 fun e w' => e = Ending.returned (Value.bool r) ∧ Below w.heap.size w w')) a_ w_ → z7_366 a_ w_) {wc : World} {u201 : Value} (hcut : laws_FnAnswers.R7 r w t575 t578 t581 t582 t584 t585 gb583 Ao10 co10 Ao12 co12 t588 t591 t594 t596 t599 gb595 Ao24 co24 Ao27 co27 gb603 Ao31 co31 Ao35 co35 kj76 u201 wc), Code.wp Try.prog (Sect.at_ [true,true,true,true,true,true,true,true,true,true,true,true,true,true,true,true,true,false,true] (Try.f13.body.getD .skip)) (Exit.then z7_366 (bodyPost Try.prog Try.f13 fun e w' => e = Ending.returned (Value.bool r) ∧ Below w.heap.size w w')) (Act.mk #[ae,undef,.bool false,.pointer (some (Addr.mk gb583 0 none)),.bool t581,.int .i64 t582,.bool t584,.int .i64 t585,aA,az,.pointer (some (Addr.mk gb595 0 none)),.int .i64 t594,.pointer (some (Addr.mk gb603 0 none)),ay,ax,av,au,ar,aq,ap,ao,an,am,al,aj,ai,ah,ag,af,ac,ab,v623,aa,v627,ad,undef,undef,undef,undef,undef,undef,undef,undef,undef,undef,aB,aC,aD,aE,aF,aG,aH,aI,aJ,aL,aM,aN,aO,aP,aQ,aR,aS,aT,aU,aV,aX,aY,aZ,a2,a3,a4,a5,a6,a7,a8,a9,ba,bb,bc,bd,be,bf,bg,bh,bi,bj,bl,bm,bn,bo,bp,bq,br,bs,bt,bu,bv,bx,bz,bA,bB,bC,bD,bE,bF,bG,bH,bI,bJ,bL,bM,bN,bO,bP,bQ,bR,bS,bT,bU,bV,bX,bY,bZ,b2,b3,b4,b5,b6,b7,b8,b9,ca,cb,cc,cd,ce,cf,cg,ch,ci,cj,cl,cm,cn,co,cp,cq,cr,cs,ct,cu,cv,cx,cy,cz,cA,cB,cC,cD,cE,cF,cG,cH,cI,cJ,cL,cM,cN,cO,cP,cQ,cR,cS,cT,cU,cV,cX,cY,cZ,c2,c3,c4,c5,c6,c7,c8,c9,da,db,dc,dd,de,df,dg,dh,di,dj,dl,dm,dn,dp,u201,dq,dr,ds,dt,du,dv,dx,dy,dz,dA,dB,dC,dD,dE,dF,dG,dH,dI,dJ,dL,dM,dN,dO,dP,dQ,dR,dS,dT,dU,dV,dX,dY,dZ,d2,d3,d4,d5,d6,d7,d8,d9,ea,eb,ec,ed,ee,ef,eg,eh,ei,ej,el,em,en,eo,ep,eq,er,es,et,eu,ev,ex,ey,ez,eA,eB,eC,eD,eE,eF,eG,eH,eI,eJ,eL,eM,eN,eO,eP,eQ,eR,eS,eT,eU,eV,eX,eY,eZ,e2,e3,e4,e5,e6,e7,e8,e9,fa,fb,fc] []) wc
def laws_FnAnswers.R8 (r : Bool) (w : World) (t575 t578 : List Int) (t581 : Bool) (t582 : Int) (t584 : Bool) (gb583 : Nat) (Ao10 : Option Addr) (co10 : Nat) (Ao12 : Option Addr) (co12 : Nat) (t588 t591 t596 t599 : List Int) (gb595 : Nat) (Ao24 : Option Addr) (co24 : Nat) (Ao27 : Option Addr) (co27 gb603 : Nat) (Ao31 : Option Addr) (co31 : Nat) (Ao35 : Option Addr) (co35 kj85 : Nat) (t632 t634 : Int) (v255 : Value) (wc : World) : Prop := ∃ (kq : Nat) (x255_97 : Bool), v255 = .bool x255_97 ∧ Aside0 (laws_FnAnswers.j7 kq t581 t582 t584 t632 t634 x255_97 = some r) ∧ Aside0 (kq ≤ kj85) ∧ Aside0 (Kd.R (Kd.int .i64) 2 wc w.heap.size (fun k_ => some k_ ≠ ((.slice Ao12 t578.length co12) : Value).ownBlock ∧ some k_ ≠ ((.slice Ao24 t588.length co24) : Value).ownBlock ∧ some k_ ≠ ((.slice Ao27 t591.length co27) : Value).ownBlock ∧ some k_ ≠ ((.slice Ao31 t596.length co31) : Value).ownBlock ∧ some k_ ≠ ((.slice Ao35 t599.length co35) : Value).ownBlock) (.slice Ao10 t575.length co10) t575) ∧ Aside0 (Kd.R (Kd.int .i64) 2 wc w.heap.size (fun k_ => some k_ ≠ ((.slice Ao10 t575.length co10) : Value).ownBlock ∧ some k_ ≠ ((.slice Ao24 t588.length co24) : Value).ownBlock ∧ some k_ ≠ ((.slice Ao27 t591.length co27) : Value).ownBlock ∧ some k_ ≠ ((.slice Ao31 t596.length co31) : Value).ownBlock ∧ some k_ ≠ ((.slice Ao35 t599.length co35) : Value).ownBlock) (.slice Ao12 t578.length co12) t578) ∧ Aside0 (Kd.R (Kd.int .i64) 2 wc w.heap.size (fun k_ => some k_ ≠ ((.slice Ao10 t575.length co10) : Value).ownBlock ∧ some k_ ≠ ((.slice Ao12 t578.length co12) : Value).ownBlock ∧ some k_ ≠ ((.slice Ao27 t591.length co27) : Value).ownBlock ∧ some k_ ≠ ((.slice Ao31 t596.length co31) : Value).ownBlock ∧ some k_ ≠ ((.slice Ao35 t599.length co35) : Value).ownBlock) (.slice Ao24 t588.length co24) t588) ∧ Aside0 (Kd.R (Kd.int .i64) 2 wc w.heap.size (fun k_ => some k_ ≠ ((.slice Ao10 t575.length co10) : Value).ownBlock ∧ some k_ ≠ ((.slice Ao12 t578.length co12) : Value).ownBlock ∧ some k_ ≠ ((.slice Ao24 t588.length co24) : Value).ownBlock ∧ some k_ ≠ ((.slice Ao31 t596.length co31) : Value).ownBlock ∧ some k_ ≠ ((.slice Ao35 t599.length co35) : Value).ownBlock) (.slice Ao27 t591.length co27) t591) ∧ Aside0 (Kd.R (Kd.int .i64) 2 wc w.heap.size (fun k_ => some k_ ≠ ((.slice Ao10 t575.length co10) : Value).ownBlock ∧ some k_ ≠ ((.slice Ao12 t578.length co12) : Value).ownBlock ∧ some k_ ≠ ((.slice Ao24 t588.length co24) : Value).ownBlock ∧ some k_ ≠ ((.slice Ao27 t591.length co27) : Value).ownBlock ∧ some k_ ≠ ((.slice Ao35 t599.length co35) : Value).ownBlock) (.slice Ao31 t596.length co31) t596) ∧ Aside0 (Kd.R (Kd.int .i64) 2 wc w.heap.size (fun k_ => some k_ ≠ ((.slice Ao10 t575.length co10) : Value).ownBlock ∧ some k_ ≠ ((.slice Ao12 t578.length co12) : Value).ownBlock ∧ some k_ ≠ ((.slice Ao24 t588.length co24) : Value).ownBlock ∧ some k_ ≠ ((.slice Ao27 t591.length co27) : Value).ownBlock ∧ some k_ ≠ ((.slice Ao31 t596.length co31) : Value).ownBlock) (.slice Ao35 t599.length co35) t599) ∧ Aside0 (wc.heap[gb583]? = some (.cells #[(.slice Ao10 t575.length co10), (.slice Ao12 t578.length co12)] 27 (0, 0))) ∧ Aside0 (wc.heap[gb595]? = some (.cells #[(.slice Ao24 t588.length co24), (.slice Ao27 t591.length co27)] 27 (0, 0))) ∧ Aside0 (wc.heap[gb603]? = some (.cells #[(.slice Ao31 t596.length co31), (.slice Ao35 t599.length co35)] 27 (0, 0))) ∧ Aside0 (Below w.heap.size w wc)
set_option maxRecDepth 100000 in
def laws_FnAnswers.S8 : Prop := ∀ {aa ab ac ad ae af ag ah ai aj al am an ao ap aq ar au av ax ay az aA aB aC aD aE aF aG aH aI aJ aL aM aN aO aP aQ aR aS aT aU aV aX aY aZ a2 a3 a4 a5 a6 a7 a8 a9 ba bb bc bd be bf bg bh bi bj bl bm bn bo bp bq br bs bt bu bv bx bz bA bB bC bD bE bF bG bH bI bJ bL bM bN bO bP bQ bR bS bT bU bV bX bY bZ b2 b3 b4 b5 b6 b7 b8 b9 ca cb cc cd ce cf cg ch ci cj cl cm cn co cp cq cr cs ct cu cv cx cy cz cA cB cC cD cE cF cG cH cI cJ cL cM cN cO cP cQ cR cS cT cU cV cX cY cZ c2 c3 c4 c5 c6 c7 c8 c9 da db dc dd de df dg dh di dj dl dm dn dp dq dr ds dt du dv dx dy dz dA dB dC dD dE dF dG dH dI dJ dL dM dN dO dP dQ dR dS dT dU dV dX dY dZ d2 d3 d4 d5 d6 d7 d8 d9 ea eb ec ed ee ef eg eh ei ej el em en eo ep eq er es et eu ev ex ey ez eA eB eC eD eE eF eG eH eI eJ eL eM eN eO eP eQ eR eS eT eU eV eX eY eZ e2 e3 e4 e5 e6 e7 e8 e9 fa fb fc fd fe ff fg fh fi fj fl : Value} {r : Bool} {w : World} (hu27 : Try.prog.underlying 27 = some (TypeDesc.struct #[Field.mk "Chains" 22 0 false "" "" 0, Field.mk "Loops" 22 1 false "" "" 24])) {t575 t578 : List Int} {t581 : Bool} {t582 : Int} {t584 : Bool} {gb583 : Nat} {Ao10 : Option Addr} {co10 : Nat} {Ao12 : Option Addr} {co12 : Nat} {t588 t591 t596 t599 : List Int} {gb595 : Nat} {Ao24 : Option Addr} {co24 : Nat} (hnb25 : gb595 ≠ gb583) (hnc25 : gb583 ≠ gb595) {Ao27 : Option Addr} {co27 gb603 : Nat} {Ao31 : Option Addr} {co31 : Nat} (hnb32 : gb603 ≠ gb583) (hnc32 : gb583 ≠ gb603) (hnb33 : gb603 ≠ gb595) (hnc33 : gb595 ≠ gb603) {Ao35 : Option Addr} {co35 : Nat} {v623 v627 : Value} {kj85 : Nat} {t632 t634 : Int} {z8_480 : Act → World → Prop} (z8_481 : ∀ (a_ : Act) (w_ : World), Code.wp Try.prog (Sect.at_ [true,true,true,true,true,true,true,true,true,true,true,true,true,true,true,true,true,true,true,true,true,true,true,true] (Try.f13.body.getD .skip)) ((bodyPost Try.prog Try.f13 fun e w' => e = Ending.returned (Value.bool r) ∧ Below w.heap.size w w')) a_ w_ → z8_480 a_ w_) {wc : World} {u255 : Value} (hcut : laws_FnAnswers.R8 r w t575 t578 t581 t582 t584 gb583 Ao10 co10 Ao12 co12 t588 t591 t596 t599 gb595 Ao24 co24 Ao27 co27 gb603 Ao31 co31 Ao35 co35 kj85 t632 t634 u255 wc), Code.wp Try.prog (Sect.at_ [true,true,true,true,true,true,true,true,true,true,true,true,true,true,true,true,true,true,true,true,true,true,true,false,true] (Try.f13.body.getD .skip)) (Exit.then z8_480 (bodyPost Try.prog Try.f13 fun e w' => e = Ending.returned (Value.bool r) ∧ Below w.heap.size w w')) (Act.mk #[an,undef,.bool false,.pointer (some (Addr.mk gb583 0 none)),.bool t581,.int .i64 t582,.bool t584,ah,aI,aH,.pointer (some (Addr.mk gb595 0 none)),ag,.pointer (some (Addr.mk gb603 0 none)),aG,aF,aE,aD,aC,aB,aA,az,ay,ax,av,au,ar,aq,ap,ao,al,aj,v623,ai,v627,am,.int .i64 t632,af,.int .i64 t634,ae,ad,ac,ab,aa,undef,undef,aJ,aL,aM,aN,aO,aP,aQ,aR,aS,aT,aU,aV,aX,aY,aZ,a2,a3,a4,a5,a6,a7,a8,a9,ba,bb,bc,bd,be,bf,bg,bh,bi,bj,bl,bm,bn,bo,bp,bq,br,bs,bt,bu,bv,bx,bz,bA,bB,bC,bD,bE,bF,bG,bH,bI,bJ,bL,bM,bN,bO,bP,bQ,bR,bS,bT,bU,bV,bX,bY,bZ,b2,b3,b4,b5,b6,b7,b8,b9,ca,cb,cc,cd,ce,cf,cg,ch,ci,cj,cl,cm,cn,co,cp,cq,cr,cs,ct,cu,cv,cx,cy,cz,cA,cB,cC,cD,cE,cF,cG,cH,cI,cJ,cL,cM,cN,cO,cP,cQ,cR,cS,cT,cU,cV,cX,cY,cZ,c2,c3,c4,c5,c6,c7,c8,c9,da,db,dc,dd,de,df,dg,dh,di,dj,dl,dm,dn,dp,dq,dr,ds,dt,du,dv,dx,dy,dz,dA,dB,dC,dD,dE,dF,dG,dH,dI,dJ,dL,dM,dN,dO,dP,dQ,dR,dS,dT,dU,dV,dX,dY,dZ,d2,d3,d4,d5,d6,d7,d8,d9,ea,eb,ec,ed,ee,ef,eg,eh,ei,ej,el,em,en,eo,ep,eq,er,es,et,eu,ev,u255,ex,ey,ez,eA,eB,eC,eD,eE,eF,eG,eH,eI,eJ,eL,eM,eN,eO,eP,eQ,eR,eS,eT,eU,eV,eX,eY,eZ,e2,e3,e4,e5,e6,e7,e8,e9,fa,fb,fc,fd,fe,ff,fg,fh,fi,fj,fl] []) wc
set_option maxHeartbeats 8000000 in
set_option maxRecDepth 100000 in
theorem laws_FnAnswers.sec0 (HS1 : laws_FnAnswers.S1) (k : Nat) (A0 : Option Addr) (c0 : Nat) (l0 : List Int) (r : Bool) (w : World) (hr0 : Kd.C (Kd.int .u8) w A0 l0.length l0) (hc0 : l0.length ≤ c0) (h : laws_FnAnswers.f k l0 = some r) :
 Calls Try.prog 13 #[.slice A0 l0.length c0] w fun e w' => e = .returned (.bool r) ∧ Below w.heap.size w w' := by
 have hu27 := Try.underlying27;have HR0 := aK hr0;have HC0 := aK hc0;clear hr0 hc0;have HB := aK (Below.refl w.heap.size w);have H := h;clear h;unfold laws_FnAnswers.f at H;replace H := bE H;obtain ⟨t574,A2,H⟩ := H
 by_cases c3 : t574 = true
 ·subst c3;rw [if_pos rfl] at H;obtain rfl := Option.some.inj H;go_enter Try.func13,Try.ntmps13
  go_wp2_with (first | ((with_reducible refine gate_callee (f := 46) rfl ?_);refine goesE (some 46) Try.func46 #[.slice A0 l0.length c0] ?_;(with_reducible refine (laws_big.calls _ _ l0 true _ ?side1 ?side2 A2.out).mono ?_);(case side1 => exact cM (HR0.out));(case side2 => exact HC0.out);rintro e w' ⟨rfl,⟨nd,rfl⟩⟩;refine ⟨_,rfl,?_⟩))
  go_ret;exact eR (bN HB)
 ·replace c3 := Bool.eq_false_iff.mpr c3;subst c3;rw [if_neg (show ¬ (false = true) by decide)] at H;replace H := bE H;obtain ⟨⟨t575,t578,t581,t582⟩,A4,H⟩ := H;dsimp only at H;replace H := bE H;obtain ⟨⟨t584,t585⟩,A5,H⟩ := H;dsimp only at H;replace H := bE H;obtain ⟨⟨t586,t587⟩,A6,H⟩ := H;dsimp only at H;have HC7 := aK H;clear H;go_enter Try.func13,Try.ntmps13
  go_upto_region 6 with (first | ((with_reducible refine gate_callee (f := 46) rfl ?_);refine goesE (some 46) Try.func46 #[.slice A0 l0.length c0] ?_;(with_reducible refine (laws_big.calls _ _ l0 false _ ?side1 ?side2 A2.out).mono ?_);(case side1 => exact cM (HR0.out));(case side2 => exact HC0.out);rintro e w' ⟨rfl,⟨nd,rfl⟩⟩;refine ⟨_,rfl,?_⟩) | ((with_reducible refine gate_callee (f := 47) rfl ?_);refine goesE (some 49) Try.func47 #[.slice A0 l0.length c0] ?_;(with_reducible refine (spec_DrawBestAnswer.calls k _ _ l0 t575 t578 t581 t582 _ ?side1 ?side2 A4.out).mono ?_);(case side1 => exact cM (HR0.out));(case side2 => exact HC0.out);rintro e w8 ⟨v576,v579,rfl,ho0,ho1,hb⟩;refine ⟨_,rfl,?_⟩;have HO577 := aK (Kd.R_lower ho0 (below_size (bN HB)));have HO580 := aK (Kd.R_lower ho1 (below_size (bN HB)));replace HB := hB HB hb;clear hb ho0 ho1) | ((with_reducible refine gate_dst (N := 3) rfl ?_);(try (refine gate_guard (by rfl) ?_;dsimp only));refine boxE 3 #[.slice none 0 0,.slice none 0 0] 27 ?_;intro gb583 hg w9 hbox hb;replace HO577 := rB HO577 hb;replace HO580 := rB HO580 hb;have BK583 := aK (hbox);have GW583 := aK (zG HB hg);have GE583 := aK (zG HB hg);replace HB := hB HB hb;clear hb hbox hg;obtain ⟨Ao10,co10,eo10⟩ := Kd.R_slice HO577.out;subst eo10;have hcz11_0 := y0 BK583;have hcz11_1 := y1 BK583;have hfz11_0 := blk_frozen BK583.out 0;have hfz11_1 := blk_frozen BK583.out 1;obtain ⟨Ao12,co12,eo12⟩ := Kd.R_slice HO580.out;subst eo12) | ((with_reducible refine gate_callee (f := 35) rfl ?_);refine goesE (some 57) Try.func35 #[.agg #[.slice Ao10 t575.length co10,.slice Ao12 t578.length co12],.bool t581,.int .i64 t582] ?_;(with_reducible refine (impl_BestAnswer.calls k _ _ t575 _ _ t578 t581 t582 t584 t585 _ ?side1 ?side2 ?side3 ?side4 A5.out).mono ?_);(case side1 => refine (Kd.R_reads' (e := 2) (base := w.heap.size) (ok := fun k_ => some k_ ≠ (.slice Ao12 t578.length co12 : Value).ownBlock) (n := t575.length) (c := co10) ?_).2.2;exact (rM ((Kd.R_mono (Kd.R_far (p := ⟨gb583,1,none⟩) (Kd.R_far (p := ⟨gb583,0,none⟩) (Kd.R_types HO577.out BK583.out (by decide)) (fun _ hk => hk.2) (.slice Ao10 t575.length co10)) (fun _ hk => hk.2) (.slice Ao12 t578.length co12)) (fun _ h_ => h_.1)))));(case side2 => exact (Kd.R_reads' HO577.out).2.1);(case side3 => refine (Kd.R_reads' (e := 2) (base := w.heap.size) (ok := fun k_ => some k_ ≠ (.slice Ao10 t575.length co10 : Value).ownBlock) (n := t578.length) (c := co12) ?_).2.2;exact (rM ((Kd.R_mono (Kd.R_far (p := ⟨gb583,1,none⟩) (Kd.R_far (p := ⟨gb583,0,none⟩) (Kd.R_types HO580.out BK583.out (by decide)) (fun _ hk => hk.2) (.slice Ao10 t575.length co10)) (fun _ hk => hk.2) (.slice Ao12 t578.length co12)) (fun _ h_ => h_.1)))));(case side4 => exact (Kd.R_reads' HO580.out).2.1);rintro e w13 ⟨rfl,hb⟩;refine ⟨_,rfl,?_⟩;replace HO577 := aK (Kd.R_below (rM ((Kd.R_mono (Kd.R_far (p := ⟨gb583,1,none⟩) (Kd.R_far (p := ⟨gb583,0,none⟩) (Kd.R_types HO577.out BK583.out (by decide)) (fun _ hk => hk.2) (.slice Ao10 t575.length co10)) (fun _ hk => hk.2) (.slice Ao12 t578.length co12)) (fun _ h_ => h_.1)))) hb);replace HO580 := aK (Kd.R_below (rM ((Kd.R_mono (Kd.R_far (p := ⟨gb583,1,none⟩) (Kd.R_far (p := ⟨gb583,0,none⟩) (Kd.R_types HO580.out BK583.out (by decide)) (fun _ hk => hk.2) (.slice Ao10 t575.length co10)) (fun _ hk => hk.2) (.slice Ao12 t578.length co12)) (fun _ h_ => h_.1)))) hb);replace BK583 := aK (blk_below (g := gb583) (o := .cells #[.slice Ao10 t575.length co10,.slice Ao12 t578.length co12] 27 (0,0)) (by (with_reducible repeat (first | refine blk_drewN ?_ _ | refine blk_drew ?_ | refine blk_alloc ?_ _));refine blk_put (cs := #[.slice Ao10 t575.length co10,.slice none 0 0]) ?_ 1 _ rfl;(with_reducible repeat (first | refine blk_drewN ?_ _ | refine blk_drew ?_ | refine blk_alloc ?_ _));refine blk_put (cs := #[.slice none 0 0,.slice none 0 0]) ?_ 0 _ rfl;(with_reducible repeat (first | refine blk_drewN ?_ _ | refine blk_drew ?_ | refine blk_alloc ?_ _));exact BK583.out) hb);replace HB := hB HB hb;clear hb;have hcz14_0 := y0 BK583;have hcz14_1 := y1 BK583;have hfz14_0 := blk_frozen BK583.out 0;have hfz14_1 := blk_frozen BK583.out 1) | ((with_reducible refine gate_callee (f := 34) rfl ?_);refine goesE (some 64) Try.func34 #[.agg #[.slice Ao10 t575.length co10,.slice Ao12 t578.length co12],.bool t581,.int .i64 t582] ?_;(with_reducible refine (spec_BestAnswer.calls k _ _ t575 _ _ t578 t581 t582 t586 t587 _ ?side1 ?side2 ?side3 ?side4 A6.out).mono ?_);(case side1 => exact cR HO577);(case side2 => exact (Kd.R_reads' HO577.out).2.1);(case side3 => exact cR HO580);(case side4 => exact (Kd.R_reads' HO580.out).2.1);rintro e w15 ⟨rfl,hb⟩;refine ⟨_,rfl,?_⟩;replace HO577 := rB HO577 hb;replace HO580 := rB HO580 hb;replace BK583 := kB BK583 hb;replace HB := hB HB hb;clear hb))
  (try simp only [Act.put,List.setIfInBounds_toArray,List.set_cons_zero,List.set_cons_succ])
  go_cut [74] (laws_FnAnswers.R1 k l0 r w t575 t578 t581 t582 t584 t585 gb583 Ao10 co10 Ao12 co12)
  case first =>
   have H := HC7.out;clear HC7
   by_cases c16 : t585 = t587
   ·rw [if_pos c16] at H;have c16b0 := beq_iff_eq.mpr c16;have c16b1 := bne_eq_false_iff_eq.mpr c16;clear c16;(first | rw [c16b0] | (simp only [i64_w,i32_w];rw [c16b0]) | skip);have H' := aK H;clear H;go_wp2;go_meet
    case rel => exact ⟨_,((t584 != t586)),rD,H',⟨by first | omega | exact Nat.le_refl _⟩,⟨rN HO577⟩,⟨rN HO580⟩,⟨kN BK583⟩,⟨bN HB⟩⟩
   ·rw [if_neg c16] at H;have c16b0 := beq_eq_false_iff_ne.mpr c16;have c16b1 := bne_iff_ne.mpr c16;(first | rw [c16b0] | (simp only [i64_w,i32_w];rw [c16b0]) | skip);have H' := aK H;clear H;go_wp2;go_meet
    case rel => exact ⟨_,(true),rD,H',⟨by first | omega | exact Nat.le_refl _⟩,⟨rN HO577⟩,⟨rN HO580⟩,⟨kN BK583⟩,⟨bN HB⟩⟩
  case rest =>
   clear HC7;clear hcz11_0 hcz11_1 hcz14_0 hcz14_1 hfz11_0 hfz11_1 hfz14_0 hfz14_1;go_step;rename_i z1_97;exact HS1 hu27 HR0 HC0 z1_97 hcut
set_option maxHeartbeats 8000000 in
set_option maxRecDepth 100000 in
theorem laws_FnAnswers.sec1 (HS2 : laws_FnAnswers.S2) : laws_FnAnswers.S1 := by
 unfold laws_FnAnswers.S1;intros;rename_i k A0 c0 l0 r w hu27 HR0 HC0 t575 t578 t581 t582 t584 t585 gb583 Ao10 co10 Ao12 co12 z1_96 z1_97 wc u74 hcut
 conv => arg 2;whnf
 conv at z1_97 => enter [a,w];arg 1;arg 2;whnf
 obtain ⟨kq,x74_6,rfl,HA,HJ6,HO_584000,HO_584001,BK583,HB⟩ := hcut
 cases kq with
 | zero => exact absurd HA.out (by simp [laws_FnAnswers.j0])
 | succ kj6 =>
  have H := HA.out;clear HA;simp only [laws_FnAnswers.j0] at H
  by_cases c17 : x74_6 = true
  ·subst c17;rw [if_pos rfl] at H;obtain rfl := Option.some.inj H;go_wp2;go_ret;exact eR (bN HB)
  ·replace c17 := Bool.eq_false_iff.mpr c17;subst c17;rw [if_neg (show ¬ (false = true) by decide)] at H;replace H := bE H;obtain ⟨⟨t588,t591,t594⟩,A18,H⟩ := H;dsimp only at H;replace H := bE H;obtain ⟨⟨t596,t599,t602⟩,A19,H⟩ := H;dsimp only at H;have HC20 := aK H;clear H;have hcz21_0 := y0 BK583;have hcz21_1 := y1 BK583;have hfz21_0 := blk_frozen BK583.out 0;have hfz21_1 := blk_frozen BK583.out 1
   go_upto_region 10 with (first | ((with_reducible refine gate_callee (f := 27) rfl ?_);refine goesE (some 79) Try.func27 #[.agg #[.slice Ao10 t575.length co10,.slice Ao12 t578.length co12],.bool t581,.int .i64 t582] ?_;(with_reducible refine (impl_AfterOpening.calls kj6 _ _ t575 _ _ t578 t581 t582 t588 t591 t594 _ ?side1 ?side2 ?side3 ?side4 A18.out).mono ?_);(case side1 => exact cR HO_584000);(case side2 => exact (Kd.R_reads' HO_584000.out).2.1);(case side3 => exact cR HO_584001);(case side4 => exact (Kd.R_reads' HO_584001.out).2.1);rintro e w22 ⟨v589,v592,rfl,ho0,ho1,hb⟩;refine ⟨_,rfl,?_⟩;have HO590 := aK (Kd.R_lower (Kd.R_new' (Kd.R_new' ho0 (Kd.R_lt (rN HO_584000))) (Kd.R_lt (rN HO_584001))) (below_size (bN HB)));have HO593 := aK (Kd.R_lower (Kd.R_new' (Kd.R_new' ho1 (Kd.R_lt (rN HO_584000))) (Kd.R_lt (rN HO_584001))) (below_size (bN HB)));replace HO_584000 := aK (Kd.R_mono (Kd.R_told (Kd.R_told (Kd.R_old (rN HO_584000) hb) (Kd.R_base ho0)) (Kd.R_base ho1)) (fun _ h_ => h_.1));replace HO_584001 := aK (Kd.R_mono (Kd.R_told (Kd.R_told (Kd.R_old (rN HO_584001) hb) (Kd.R_base ho0)) (Kd.R_base ho1)) (fun _ h_ => h_.1));replace BK583 := kB BK583 hb;replace HB := hB HB hb;clear hb ho0 ho1) | ((with_reducible refine gate_dst (N := 10) rfl ?_);(try (refine gate_guard (by rfl) ?_;dsimp only));refine boxE 10 #[.slice none 0 0,.slice none 0 0] 27 ?_;intro gb595 hg w23 hbox hb;replace HO_584000 := rB HO_584000 hb;replace HO_584001 := rB HO_584001 hb;replace HO590 := rB HO590 hb;replace HO593 := rB HO593 hb;have BK595 := aK (hbox);have GW595 := aK (zG HB hg);have GE595 := aK (zG HB hg);replace HB := hB HB hb;have NB583_595 := aK ((by rw [hg];exact Nat.ne_of_lt (blk_lt (g := gb583) (o := .cells #[.slice Ao10 t575.length co10,.slice Ao12 t578.length co12] 27 (0,0)) (kN BK583)) : gb583 ≠ gb595));have NB595_583 := aK ((by rw [hg];exact Nat.ne_of_gt (blk_lt (g := gb583) (o := .cells #[.slice Ao10 t575.length co10,.slice Ao12 t578.length co12] 27 (0,0)) (kN BK583)) : gb595 ≠ gb583));replace BK583 := kB BK583 hb;clear hb hbox hg;obtain ⟨Ao24,co24,eo24⟩ := Kd.R_slice HO590.out;subst eo24;have hnb25 := NB595_583.out;have hnc25 := NB583_595.out;have hcz26_0 := y0 BK595;have hcz26_1 := y1 BK595;have hfz26_0 := blk_frozen BK595.out 0;have hfz26_1 := blk_frozen BK595.out 1;obtain ⟨Ao27,co27,eo27⟩ := Kd.R_slice HO593.out;subst eo27;have hcz28_0 := y0 BK583;have hcz28_1 := y1 BK583;have hfz28_0 := blk_frozen BK583.out 0;have hfz28_1 := blk_frozen BK583.out 1) | ((with_reducible refine gate_callee (f := 26) rfl ?_);refine goesE (some 86) Try.func26 #[.agg #[.slice Ao10 t575.length co10,.slice Ao12 t578.length co12],.bool t581,.int .i64 t582] ?_;(with_reducible refine (spec_AfterOpening.calls kj6 _ _ t575 _ _ t578 t581 t582 t596 t599 t602 _ ?side1 ?side2 ?side3 ?side4 A19.out).mono ?_);(case side1 => refine (Kd.R_reads' (e := 2) (base := w.heap.size) (ok := fun k_ => ((some k_ ≠ (.slice Ao12 t578.length co12 : Value).ownBlock ∧ some k_ ≠ (.slice Ao24 t588.length co24 : Value).ownBlock) ∧ some k_ ≠ (.slice Ao27 t591.length co27 : Value).ownBlock)) (n := t575.length) (c := co10) ?_).2.2;exact (rM ((Kd.R_mono (Kd.R_far (p := ⟨gb595,1,none⟩) (Kd.R_far (p := ⟨gb595,0,none⟩) (Kd.R_types HO_584000.out BK595.out (by decide)) (fun _ hk => hk.2) (.slice Ao24 t588.length co24)) (fun _ hk => hk.2) (.slice Ao27 t591.length co27)) (fun _ h_ => h_.1)))));(case side2 => exact (Kd.R_reads' HO_584000.out).2.1);(case side3 => refine (Kd.R_reads' (e := 2) (base := w.heap.size) (ok := fun k_ => ((some k_ ≠ (.slice Ao10 t575.length co10 : Value).ownBlock ∧ some k_ ≠ (.slice Ao24 t588.length co24 : Value).ownBlock) ∧ some k_ ≠ (.slice Ao27 t591.length co27 : Value).ownBlock)) (n := t578.length) (c := co12) ?_).2.2;exact (rM ((Kd.R_mono (Kd.R_far (p := ⟨gb595,1,none⟩) (Kd.R_far (p := ⟨gb595,0,none⟩) (Kd.R_types HO_584001.out BK595.out (by decide)) (fun _ hk => hk.2) (.slice Ao24 t588.length co24)) (fun _ hk => hk.2) (.slice Ao27 t591.length co27)) (fun _ h_ => h_.1)))));(case side4 => exact (Kd.R_reads' HO_584001.out).2.1);rintro e w29 ⟨v597,v600,rfl,ho0,ho1,hb⟩;refine ⟨_,rfl,?_⟩;have HO598 := aK (Kd.R_lower (Kd.R_new' (Kd.R_new' (Kd.R_new' (Kd.R_new' ho0 (Kd.R_lt (rM ((Kd.R_mono (Kd.R_far (p := ⟨gb595,1,none⟩) (Kd.R_far (p := ⟨gb595,0,none⟩) (Kd.R_types HO_584000.out BK595.out (by decide)) (fun _ hk => hk.2) (.slice Ao24 t588.length co24)) (fun _ hk => hk.2) (.slice Ao27 t591.length co27)) (fun _ h_ => h_.1)))))) (Kd.R_lt (rM ((Kd.R_mono (Kd.R_far (p := ⟨gb595,1,none⟩) (Kd.R_far (p := ⟨gb595,0,none⟩) (Kd.R_types HO_584001.out BK595.out (by decide)) (fun _ hk => hk.2) (.slice Ao24 t588.length co24)) (fun _ hk => hk.2) (.slice Ao27 t591.length co27)) (fun _ h_ => h_.1)))))) (Kd.R_lt (rM ((Kd.R_mono (Kd.R_far (p := ⟨gb595,1,none⟩) (Kd.R_far (p := ⟨gb595,0,none⟩) (Kd.R_types HO590.out BK595.out (by decide)) (fun _ hk => hk.2) (.slice Ao24 t588.length co24)) (fun _ hk => hk.2) (.slice Ao27 t591.length co27)) (fun _ h_ => h_.1)))))) (Kd.R_lt (rM ((Kd.R_mono (Kd.R_far (p := ⟨gb595,1,none⟩) (Kd.R_far (p := ⟨gb595,0,none⟩) (Kd.R_types HO593.out BK595.out (by decide)) (fun _ hk => hk.2) (.slice Ao24 t588.length co24)) (fun _ hk => hk.2) (.slice Ao27 t591.length co27)) (fun _ h_ => h_.1)))))) (below_size (bN HB)));have HO601 := aK (Kd.R_lower (Kd.R_new' (Kd.R_new' (Kd.R_new' (Kd.R_new' ho1 (Kd.R_lt (rM ((Kd.R_mono (Kd.R_far (p := ⟨gb595,1,none⟩) (Kd.R_far (p := ⟨gb595,0,none⟩) (Kd.R_types HO_584000.out BK595.out (by decide)) (fun _ hk => hk.2) (.slice Ao24 t588.length co24)) (fun _ hk => hk.2) (.slice Ao27 t591.length co27)) (fun _ h_ => h_.1)))))) (Kd.R_lt (rM ((Kd.R_mono (Kd.R_far (p := ⟨gb595,1,none⟩) (Kd.R_far (p := ⟨gb595,0,none⟩) (Kd.R_types HO_584001.out BK595.out (by decide)) (fun _ hk => hk.2) (.slice Ao24 t588.length co24)) (fun _ hk => hk.2) (.slice Ao27 t591.length co27)) (fun _ h_ => h_.1)))))) (Kd.R_lt (rM ((Kd.R_mono (Kd.R_far (p := ⟨gb595,1,none⟩) (Kd.R_far (p := ⟨gb595,0,none⟩) (Kd.R_types HO590.out BK595.out (by decide)) (fun _ hk => hk.2) (.slice Ao24 t588.length co24)) (fun _ hk => hk.2) (.slice Ao27 t591.length co27)) (fun _ h_ => h_.1)))))) (Kd.R_lt (rM ((Kd.R_mono (Kd.R_far (p := ⟨gb595,1,none⟩) (Kd.R_far (p := ⟨gb595,0,none⟩) (Kd.R_types HO593.out BK595.out (by decide)) (fun _ hk => hk.2) (.slice Ao24 t588.length co24)) (fun _ hk => hk.2) (.slice Ao27 t591.length co27)) (fun _ h_ => h_.1)))))) (below_size (bN HB)));replace HO_584000 := aK (Kd.R_mono (Kd.R_told (Kd.R_told (Kd.R_old (rM ((Kd.R_mono (Kd.R_far (p := ⟨gb595,1,none⟩) (Kd.R_far (p := ⟨gb595,0,none⟩) (Kd.R_types HO_584000.out BK595.out (by decide)) (fun _ hk => hk.2) (.slice Ao24 t588.length co24)) (fun _ hk => hk.2) (.slice Ao27 t591.length co27)) (fun _ h_ => h_.1)))) hb) (Kd.R_base ho0)) (Kd.R_base ho1)) (fun _ h_ => h_.1));replace HO_584001 := aK (Kd.R_mono (Kd.R_told (Kd.R_told (Kd.R_old (rM ((Kd.R_mono (Kd.R_far (p := ⟨gb595,1,none⟩) (Kd.R_far (p := ⟨gb595,0,none⟩) (Kd.R_types HO_584001.out BK595.out (by decide)) (fun _ hk => hk.2) (.slice Ao24 t588.length co24)) (fun _ hk => hk.2) (.slice Ao27 t591.length co27)) (fun _ h_ => h_.1)))) hb) (Kd.R_base ho0)) (Kd.R_base ho1)) (fun _ h_ => h_.1));replace HO590 := aK (Kd.R_mono (Kd.R_told (Kd.R_told (Kd.R_old (rM ((Kd.R_mono (Kd.R_far (p := ⟨gb595,1,none⟩) (Kd.R_far (p := ⟨gb595,0,none⟩) (Kd.R_types HO590.out BK595.out (by decide)) (fun _ hk => hk.2) (.slice Ao24 t588.length co24)) (fun _ hk => hk.2) (.slice Ao27 t591.length co27)) (fun _ h_ => h_.1)))) hb) (Kd.R_base ho0)) (Kd.R_base ho1)) (fun _ h_ => h_.1));replace HO593 := aK (Kd.R_mono (Kd.R_told (Kd.R_told (Kd.R_old (rM ((Kd.R_mono (Kd.R_far (p := ⟨gb595,1,none⟩) (Kd.R_far (p := ⟨gb595,0,none⟩) (Kd.R_types HO593.out BK595.out (by decide)) (fun _ hk => hk.2) (.slice Ao24 t588.length co24)) (fun _ hk => hk.2) (.slice Ao27 t591.length co27)) (fun _ h_ => h_.1)))) hb) (Kd.R_base ho0)) (Kd.R_base ho1)) (fun _ h_ => h_.1));replace BK583 := aK (blk_below (g := gb583) (o := .cells #[.slice Ao10 t575.length co10,.slice Ao12 t578.length co12] 27 (0,0)) (kZ BK583) hb);replace BK595 := aK (blk_below (g := gb595) (o := .cells #[.slice Ao24 t588.length co24,.slice Ao27 t591.length co27] 27 (0,0)) (by (with_reducible repeat (first | refine blk_drewN ?_ _ | refine blk_drew ?_ | refine blk_alloc ?_ _));refine blk_put (cs := #[.slice Ao24 t588.length co24,.slice none 0 0]) ?_ 1 _ rfl;(with_reducible repeat (first | refine blk_drewN ?_ _ | refine blk_drew ?_ | refine blk_alloc ?_ _));refine blk_put (cs := #[.slice none 0 0,.slice none 0 0]) ?_ 0 _ rfl;(with_reducible repeat (first | refine blk_drewN ?_ _ | refine blk_drew ?_ | refine blk_alloc ?_ _));exact BK595.out) hb);replace HB := hB HB hb;clear hb ho0 ho1) | ((with_reducible refine gate_dst (N := 12) rfl ?_);(try (refine gate_guard (by rfl) ?_;dsimp only));refine boxE 12 #[.slice none 0 0,.slice none 0 0] 27 ?_;intro gb603 hg w30 hbox hb;replace HO_584000 := rB HO_584000 hb;replace HO_584001 := rB HO_584001 hb;replace HO590 := rB HO590 hb;replace HO593 := rB HO593 hb;replace HO598 := rB HO598 hb;replace HO601 := rB HO601 hb;have BK603 := aK (hbox);have GW603 := aK (zG HB hg);have GE603 := aK (zG HB hg);replace HB := hB HB hb;have NB583_603 := aK ((by rw [hg];exact Nat.ne_of_lt (blk_lt (g := gb583) (o := .cells #[.slice Ao10 t575.length co10,.slice Ao12 t578.length co12] 27 (0,0)) (kN BK583)) : gb583 ≠ gb603));have NB603_583 := aK ((by rw [hg];exact Nat.ne_of_gt (blk_lt (g := gb583) (o := .cells #[.slice Ao10 t575.length co10,.slice Ao12 t578.length co12] 27 (0,0)) (kN BK583)) : gb603 ≠ gb583));replace BK583 := kB BK583 hb;have NB595_603 := aK ((by rw [hg];exact Nat.ne_of_lt (blk_lt (g := gb595) (o := .cells #[.slice Ao24 t588.length co24,.slice Ao27 t591.length co27] 27 (0,0)) (kN BK595)) : gb595 ≠ gb603));have NB603_595 := aK ((by rw [hg];exact Nat.ne_of_gt (blk_lt (g := gb595) (o := .cells #[.slice Ao24 t588.length co24,.slice Ao27 t591.length co27] 27 (0,0)) (kN BK595)) : gb603 ≠ gb595));replace BK595 := kB BK595 hb;clear hb hbox hg;obtain ⟨Ao31,co31,eo31⟩ := Kd.R_slice HO598.out;subst eo31;have hnb32 := NB603_583.out;have hnc32 := NB583_603.out;have hnb33 := NB603_595.out;have hnc33 := NB595_603.out;have hcz34_0 := y0 BK603;have hcz34_1 := y1 BK603;have hfz34_0 := blk_frozen BK603.out 0;have hfz34_1 := blk_frozen BK603.out 1;obtain ⟨Ao35,co35,eo35⟩ := Kd.R_slice HO601.out;subst eo35))
   (try simp only [Act.put,List.setIfInBounds_toArray,List.set_cons_zero,List.set_cons_succ])
   go_cut [97] (laws_FnAnswers.R2 l0 r w t575 t578 t581 t582 t584 t585 gb583 Ao10 co10 Ao12 co12 kj6 t588 t591 t594 t596 t599 gb595 Ao24 co24 Ao27 co27 gb603 Ao31 co31 Ao35 co35)
   case first =>
    have H := HC20.out;clear HC20
    by_cases c36 : t594 = t602
    ·rw [if_pos c36] at H;have c36b0 := beq_iff_eq.mpr c36;have c36b1 := bne_eq_false_iff_eq.mpr c36;clear c36;(first | rw [c36b0] | (simp only [i64_w,i32_w];rw [c36b0]) | skip);replace H := bE H;obtain ⟨t604,A37,H⟩ := H;have H' := aK H;clear H;have hnb38 := NB595_583.out;have hnc38 := NB583_595.out;have hnb39 := NB595_603.out;have hnc39 := NB603_595.out;have hcz40_0 := y0 BK595;have hcz40_1 := y1 BK595;have hfz40_0 := blk_frozen BK595.out 0;have hfz40_1 := blk_frozen BK595.out 1;have hnb41 := NB603_583.out;have hnc41 := NB583_603.out;have hcz42_0 := y0 BK603;have hcz42_1 := y1 BK603;have hfz42_0 := blk_frozen BK603.out 0;have hfz42_1 := blk_frozen BK603.out 1
     go_wp2_with (first | (go_at_call 48;(with_reducible refine (laws_ending9.calls kj6 _ _ t588 _ _ t591 _ _ t596 _ _ t599 t604 _ ?side1 ?side2 ?side3 ?side4 ?side5 ?side6 ?side7 ?side8 A37.out).mono ?_);(case side1 => refine (Kd.R_reads' (e := 2) (base := w.heap.size) (ok := fun k_ => ((((some k_ ≠ (.slice Ao27 t591.length co27 : Value).ownBlock ∧ some k_ ≠ (.slice Ao10 t575.length co10 : Value).ownBlock) ∧ some k_ ≠ (.slice Ao12 t578.length co12 : Value).ownBlock) ∧ some k_ ≠ (.slice Ao31 t596.length co31 : Value).ownBlock) ∧ some k_ ≠ (.slice Ao35 t599.length co35 : Value).ownBlock)) (n := t588.length) (c := co24) ?_).2.2;exact (rM ((Kd.R_mono (Kd.R_far (p := ⟨gb603,1,none⟩) (Kd.R_far (p := ⟨gb603,0,none⟩) (Kd.R_types HO590.out BK603.out (by decide)) (fun _ hk => hk.2) (.slice Ao31 t596.length co31)) (fun _ hk => hk.2) (.slice Ao35 t599.length co35)) (fun _ h_ => h_.1)))));(case side2 => exact (Kd.R_reads' HO590.out).2.1);(case side3 => refine (Kd.R_reads' (e := 2) (base := w.heap.size) (ok := fun k_ => ((((some k_ ≠ (.slice Ao24 t588.length co24 : Value).ownBlock ∧ some k_ ≠ (.slice Ao10 t575.length co10 : Value).ownBlock) ∧ some k_ ≠ (.slice Ao12 t578.length co12 : Value).ownBlock) ∧ some k_ ≠ (.slice Ao31 t596.length co31 : Value).ownBlock) ∧ some k_ ≠ (.slice Ao35 t599.length co35 : Value).ownBlock)) (n := t591.length) (c := co27) ?_).2.2;exact (rM ((Kd.R_mono (Kd.R_far (p := ⟨gb603,1,none⟩) (Kd.R_far (p := ⟨gb603,0,none⟩) (Kd.R_types HO593.out BK603.out (by decide)) (fun _ hk => hk.2) (.slice Ao31 t596.length co31)) (fun _ hk => hk.2) (.slice Ao35 t599.length co35)) (fun _ h_ => h_.1)))));(case side4 => exact (Kd.R_reads' HO593.out).2.1);(case side5 => refine (Kd.R_reads' (e := 2) (base := w.heap.size) (ok := fun k_ => ((((some k_ ≠ (.slice Ao35 t599.length co35 : Value).ownBlock ∧ some k_ ≠ (.slice Ao10 t575.length co10 : Value).ownBlock) ∧ some k_ ≠ (.slice Ao12 t578.length co12 : Value).ownBlock) ∧ some k_ ≠ (.slice Ao24 t588.length co24 : Value).ownBlock) ∧ some k_ ≠ (.slice Ao27 t591.length co27 : Value).ownBlock)) (n := t596.length) (c := co31) ?_).2.2;exact (rM ((Kd.R_mono (Kd.R_far (p := ⟨gb603,1,none⟩) (Kd.R_far (p := ⟨gb603,0,none⟩) (Kd.R_types HO598.out BK603.out (by decide)) (fun _ hk => hk.2) (.slice Ao31 t596.length co31)) (fun _ hk => hk.2) (.slice Ao35 t599.length co35)) (fun _ h_ => h_.1)))));(case side6 => exact (Kd.R_reads' HO598.out).2.1);(case side7 => refine (Kd.R_reads' (e := 2) (base := w.heap.size) (ok := fun k_ => ((((some k_ ≠ (.slice Ao31 t596.length co31 : Value).ownBlock ∧ some k_ ≠ (.slice Ao10 t575.length co10 : Value).ownBlock) ∧ some k_ ≠ (.slice Ao12 t578.length co12 : Value).ownBlock) ∧ some k_ ≠ (.slice Ao24 t588.length co24 : Value).ownBlock) ∧ some k_ ≠ (.slice Ao27 t591.length co27 : Value).ownBlock)) (n := t599.length) (c := co35) ?_).2.2;exact (rM ((Kd.R_mono (Kd.R_far (p := ⟨gb603,1,none⟩) (Kd.R_far (p := ⟨gb603,0,none⟩) (Kd.R_types HO601.out BK603.out (by decide)) (fun _ hk => hk.2) (.slice Ao31 t596.length co31)) (fun _ hk => hk.2) (.slice Ao35 t599.length co35)) (fun _ h_ => h_.1)))));(case side8 => exact (Kd.R_reads' HO601.out).2.1);rintro e w43 ⟨rfl,hb⟩;replace HO_584000 := aK (Kd.R_below (rM ((Kd.R_mono (Kd.R_far (p := ⟨gb603,1,none⟩) (Kd.R_far (p := ⟨gb603,0,none⟩) (Kd.R_types HO_584000.out BK603.out (by decide)) (fun _ hk => hk.2) (.slice Ao31 t596.length co31)) (fun _ hk => hk.2) (.slice Ao35 t599.length co35)) (fun _ h_ => h_.1)))) hb);replace HO_584001 := aK (Kd.R_below (rM ((Kd.R_mono (Kd.R_far (p := ⟨gb603,1,none⟩) (Kd.R_far (p := ⟨gb603,0,none⟩) (Kd.R_types HO_584001.out BK603.out (by decide)) (fun _ hk => hk.2) (.slice Ao31 t596.length co31)) (fun _ hk => hk.2) (.slice Ao35 t599.length co35)) (fun _ h_ => h_.1)))) hb);replace HO590 := aK (Kd.R_below (rM ((Kd.R_mono (Kd.R_far (p := ⟨gb603,1,none⟩) (Kd.R_far (p := ⟨gb603,0,none⟩) (Kd.R_types HO590.out BK603.out (by decide)) (fun _ hk => hk.2) (.slice Ao31 t596.length co31)) (fun _ hk => hk.2) (.slice Ao35 t599.length co35)) (fun _ h_ => h_.1)))) hb);replace HO593 := aK (Kd.R_below (rM ((Kd.R_mono (Kd.R_far (p := ⟨gb603,1,none⟩) (Kd.R_far (p := ⟨gb603,0,none⟩) (Kd.R_types HO593.out BK603.out (by decide)) (fun _ hk => hk.2) (.slice Ao31 t596.length co31)) (fun _ hk => hk.2) (.slice Ao35 t599.length co35)) (fun _ h_ => h_.1)))) hb);replace HO598 := aK (Kd.R_below (rM ((Kd.R_mono (Kd.R_far (p := ⟨gb603,1,none⟩) (Kd.R_far (p := ⟨gb603,0,none⟩) (Kd.R_types HO598.out BK603.out (by decide)) (fun _ hk => hk.2) (.slice Ao31 t596.length co31)) (fun _ hk => hk.2) (.slice Ao35 t599.length co35)) (fun _ h_ => h_.1)))) hb);replace HO601 := aK (Kd.R_below (rM ((Kd.R_mono (Kd.R_far (p := ⟨gb603,1,none⟩) (Kd.R_far (p := ⟨gb603,0,none⟩) (Kd.R_types HO601.out BK603.out (by decide)) (fun _ hk => hk.2) (.slice Ao31 t596.length co31)) (fun _ hk => hk.2) (.slice Ao35 t599.length co35)) (fun _ h_ => h_.1)))) hb);replace BK583 := aK (blk_below (g := gb583) (o := .cells #[.slice Ao10 t575.length co10,.slice Ao12 t578.length co12] 27 (0,0)) (kZ BK583) hb);replace BK595 := aK (blk_below (g := gb595) (o := .cells #[.slice Ao24 t588.length co24,.slice Ao27 t591.length co27] 27 (0,0)) (kZ BK595) hb);replace BK603 := aK (blk_below (g := gb603) (o := .cells #[.slice Ao31 t596.length co31,.slice Ao35 t599.length co35] 27 (0,0)) (by (with_reducible repeat (first | refine blk_drewN ?_ _ | refine blk_drew ?_ | refine blk_alloc ?_ _));refine blk_put (cs := #[.slice Ao31 t596.length co31,.slice none 0 0]) ?_ 1 _ rfl;(with_reducible repeat (first | refine blk_drewN ?_ _ | refine blk_drew ?_ | refine blk_alloc ?_ _));refine blk_put (cs := #[.slice none 0 0,.slice none 0 0]) ?_ 0 _ rfl;(with_reducible repeat (first | refine blk_drewN ?_ _ | refine blk_drew ?_ | refine blk_alloc ?_ _));exact BK603.out) hb);replace HB := hB HB hb;clear hb))
     go_meet
     case rel => exact ⟨_,(!t604),rD,H',⟨by have := HJ6.out;first | omega | exact Nat.le_refl _⟩,⟨rM (Kd.R_mono HO_584000.out (fun _ hk => ⟨hk.1.1.1.1,⟨hk.1.1.1.2,⟨hk.1.1.2,⟨hk.1.2,hk.2⟩⟩⟩⟩))⟩,⟨rM (Kd.R_mono HO_584001.out (fun _ hk => ⟨hk.1.1.1.1,⟨hk.1.1.1.2,⟨hk.1.1.2,⟨hk.1.2,hk.2⟩⟩⟩⟩))⟩,⟨rM (Kd.R_mono HO590.out (fun _ hk => ⟨hk.1.1.1.2,⟨hk.1.1.2,⟨hk.1.1.1.1,⟨hk.1.2,hk.2⟩⟩⟩⟩))⟩,⟨rM (Kd.R_mono HO593.out (fun _ hk => ⟨hk.1.1.1.2,⟨hk.1.1.2,⟨hk.1.1.1.1,⟨hk.1.2,hk.2⟩⟩⟩⟩))⟩,⟨rM (Kd.R_mono HO598.out (fun _ hk => ⟨hk.1.1.1.2,⟨hk.1.1.2,⟨hk.1.2,⟨hk.2,hk.1.1.1.1⟩⟩⟩⟩))⟩,⟨rM (Kd.R_mono HO601.out (fun _ hk => ⟨hk.1.1.1.2,⟨hk.1.1.2,⟨hk.1.2,⟨hk.2,hk.1.1.1.1⟩⟩⟩⟩))⟩,⟨kN BK583⟩,⟨kN BK595⟩,⟨kN BK603⟩,⟨bN HB⟩⟩
    ·rw [if_neg c36] at H;have c36b0 := beq_eq_false_iff_ne.mpr c36;have c36b1 := bne_iff_ne.mpr c36;(first | rw [c36b0] | (simp only [i64_w,i32_w];rw [c36b0]) | skip);have H' := aK H;clear H;go_wp2;go_meet
     case rel => exact ⟨_,(true),rD,H',⟨by have := HJ6.out;first | omega | exact Nat.le_refl _⟩,⟨rM (Kd.R_mono (Kd.R_far (p := ⟨gb603,1,none⟩) (Kd.R_far (p := ⟨gb603,0,none⟩) (Kd.R_types HO_584000.out BK603.out (by decide)) (fun _ hk => hk.2) (.slice Ao31 t596.length co31)) (fun _ hk => hk.2) (.slice Ao35 t599.length co35)) (fun _ hk => ⟨hk.1.1.1.1.1,⟨hk.1.1.1.1.2,⟨hk.1.1.1.2,⟨hk.1.1.2,hk.1.2⟩⟩⟩⟩))⟩,⟨rM (Kd.R_mono (Kd.R_far (p := ⟨gb603,1,none⟩) (Kd.R_far (p := ⟨gb603,0,none⟩) (Kd.R_types HO_584001.out BK603.out (by decide)) (fun _ hk => hk.2) (.slice Ao31 t596.length co31)) (fun _ hk => hk.2) (.slice Ao35 t599.length co35)) (fun _ hk => ⟨hk.1.1.1.1.1,⟨hk.1.1.1.1.2,⟨hk.1.1.1.2,⟨hk.1.1.2,hk.1.2⟩⟩⟩⟩))⟩,⟨rM (Kd.R_mono (Kd.R_far (p := ⟨gb603,1,none⟩) (Kd.R_far (p := ⟨gb603,0,none⟩) (Kd.R_types HO590.out BK603.out (by decide)) (fun _ hk => hk.2) (.slice Ao31 t596.length co31)) (fun _ hk => hk.2) (.slice Ao35 t599.length co35)) (fun _ hk => ⟨hk.1.1.1.1.2,⟨hk.1.1.1.2,⟨hk.1.1.1.1.1,⟨hk.1.1.2,hk.1.2⟩⟩⟩⟩))⟩,⟨rM (Kd.R_mono (Kd.R_far (p := ⟨gb603,1,none⟩) (Kd.R_far (p := ⟨gb603,0,none⟩) (Kd.R_types HO593.out BK603.out (by decide)) (fun _ hk => hk.2) (.slice Ao31 t596.length co31)) (fun _ hk => hk.2) (.slice Ao35 t599.length co35)) (fun _ hk => ⟨hk.1.1.1.1.2,⟨hk.1.1.1.2,⟨hk.1.1.1.1.1,⟨hk.1.1.2,hk.1.2⟩⟩⟩⟩))⟩,⟨rM (Kd.R_mono (Kd.R_far (p := ⟨gb603,1,none⟩) (Kd.R_far (p := ⟨gb603,0,none⟩) (Kd.R_types HO598.out BK603.out (by decide)) (fun _ hk => hk.2) (.slice Ao31 t596.length co31)) (fun _ hk => hk.2) (.slice Ao35 t599.length co35)) (fun _ hk => ⟨hk.1.1.1.1.2,⟨hk.1.1.1.2,⟨hk.1.1.2,⟨hk.1.2,hk.1.1.1.1.1⟩⟩⟩⟩))⟩,⟨rM (Kd.R_mono (Kd.R_far (p := ⟨gb603,1,none⟩) (Kd.R_far (p := ⟨gb603,0,none⟩) (Kd.R_types HO601.out BK603.out (by decide)) (fun _ hk => hk.2) (.slice Ao31 t596.length co31)) (fun _ hk => hk.2) (.slice Ao35 t599.length co35)) (fun _ hk => ⟨hk.1.1.1.1.2,⟨hk.1.1.1.2,⟨hk.1.1.2,⟨hk.1.2,hk.1.1.1.1.1⟩⟩⟩⟩))⟩,⟨kZ BK583⟩,⟨kZ BK595⟩,⟨by (with_reducible repeat (first | refine blk_drewN ?_ _ | refine blk_drew ?_ | refine blk_alloc ?_ _));refine blk_put (cs := #[.slice Ao31 t596.length co31,.slice none 0 0]) ?_ 1 _ rfl;(with_reducible repeat (first | refine blk_drewN ?_ _ | refine blk_drew ?_ | refine blk_alloc ?_ _));refine blk_put (cs := #[.slice none 0 0,.slice none 0 0]) ?_ 0 _ rfl;(with_reducible repeat (first | refine blk_drewN ?_ _ | refine blk_drew ?_ | refine blk_alloc ?_ _));exact BK603.out⟩,⟨bN HB⟩⟩
   case rest =>
    clear HC20;clear hcz21_0 hcz21_1 hcz26_0 hcz26_1 hcz28_0 hcz28_1 hcz34_0 hcz34_1 hfz21_0 hfz21_1 hfz26_0 hfz26_1 hfz28_0 hfz28_1 hfz34_0 hfz34_1;go_step;rename_i z2_372;exact HS2 hu27 HR0 HC0 HJ6 NB583_595 NB595_583 hnb25 hnc25 z2_372 NB583_603 NB603_583 NB595_603 NB603_595 hnb32 hnc32 hnb33 hnc33 hcut
set_option maxHeartbeats 8000000 in
set_option maxRecDepth 100000 in
theorem laws_FnAnswers.sec2 (HS3 : laws_FnAnswers.S3) : laws_FnAnswers.S2 := by
 unfold laws_FnAnswers.S2;intros;rename_i k A0 c0 l0 r w hu27 HR0 HC0 t575 t578 t581 t582 t584 t585 gb583 Ao10 co10 Ao12 co12 kj6 HJ6 t588 t591 t594 t596 t599 gb595 NB583_595 NB595_583 Ao24 co24 hnb25 hnc25 Ao27 co27 z2_371 z2_372 gb603 NB583_603 NB603_583 NB595_603 NB603_595 Ao31 co31 hnb32 hnc32 hnb33 hnc33 Ao35 co35 wc u97 hcut
 conv => arg 2;whnf
 conv at z2_372 => enter [a,w];arg 1;arg 2;whnf
 obtain ⟨kq,x97_19,rfl,HA,HJ19,HO_584000,HO_584001,HO_596000,HO_596001,HO_604000,HO_604001,BK583,BK595,BK603,HB⟩ := hcut
 cases kq with
 | zero => exact absurd HA.out (by simp [laws_FnAnswers.j1])
 | succ kj19 =>
  have H := HA.out;clear HA;simp only [laws_FnAnswers.j1] at H
  by_cases c44 : x97_19 = true
  ·subst c44;rw [if_pos rfl] at H;obtain rfl := Option.some.inj H;go_wp2;go_ret;exact eR (bN HB)
  ·replace c44 := Bool.eq_false_iff.mpr c44;subst c44;rw [if_neg (show ¬ (false = true) by decide)] at H;replace H := bE H;obtain ⟨⟨t605,t606⟩,A45,H⟩ := H;dsimp only at H;replace H := bE H;obtain ⟨⟨t607,t608⟩,A46,H⟩ := H;dsimp only at H;have HC47 := aK H;clear H;have hnb48 := NB583_595.out;have hnc48 := NB595_583.out;have hnb49 := NB583_603.out;have hnc49 := NB603_583.out;have hcz50_0 := y0 BK583;have hcz50_1 := y1 BK583;have hfz50_0 := blk_frozen BK583.out 0;have hfz50_1 := blk_frozen BK583.out 1
   go_upto_region 14 with (first | ((with_reducible refine gate_callee (f := 25) rfl ?_);refine goesE (some 100) Try.func25 #[.agg #[.slice Ao10 t575.length co10,.slice Ao12 t578.length co12]] ?_;(with_reducible refine (impl_SparingNumber.calls kj19 _ _ t575 _ _ t578 t605 t606 _ ?side1 ?side2 ?side3 ?side4 A45.out).mono ?_);(case side1 => exact cR HO_584000);(case side2 => exact (Kd.R_reads' HO_584000.out).2.1);(case side3 => exact cR HO_584001);(case side4 => exact (Kd.R_reads' HO_584001.out).2.1);rintro e w51 ⟨rfl,hb⟩;refine ⟨_,rfl,?_⟩;replace HO_584000 := rB HO_584000 hb;replace HO_584001 := rB HO_584001 hb;replace HO_596000 := rB HO_596000 hb;replace HO_596001 := rB HO_596001 hb;replace HO_604000 := rB HO_604000 hb;replace HO_604001 := rB HO_604001 hb;replace BK583 := kB BK583 hb;replace BK595 := kB BK595 hb;replace BK603 := kB BK603 hb;replace HB := hB HB hb;clear hb;have hcz52_0 := y0 BK583;have hcz52_1 := y1 BK583;have hfz52_0 := blk_frozen BK583.out 0;have hfz52_1 := blk_frozen BK583.out 1) | ((with_reducible refine gate_callee (f := 24) rfl ?_);refine goesE (some 105) Try.func24 #[.agg #[.slice Ao10 t575.length co10,.slice Ao12 t578.length co12]] ?_;(with_reducible refine (spec_SparingNumber.calls kj19 _ _ t575 _ _ t578 t607 t608 _ ?side1 ?side2 ?side3 ?side4 A46.out).mono ?_);(case side1 => exact cR HO_584000);(case side2 => exact (Kd.R_reads' HO_584000.out).2.1);(case side3 => exact cR HO_584001);(case side4 => exact (Kd.R_reads' HO_584001.out).2.1);rintro e w53 ⟨rfl,hb⟩;refine ⟨_,rfl,?_⟩;replace HO_584000 := rB HO_584000 hb;replace HO_584001 := rB HO_584001 hb;replace HO_596000 := rB HO_596000 hb;replace HO_596001 := rB HO_596001 hb;replace HO_604000 := rB HO_604000 hb;replace HO_604001 := rB HO_604001 hb;replace BK583 := kB BK583 hb;replace BK595 := kB BK595 hb;replace BK603 := kB BK603 hb;replace HB := hB HB hb;clear hb))
   (try simp only [Act.put,List.setIfInBounds_toArray,List.set_cons_zero,List.set_cons_succ])
   go_cut [115] (laws_FnAnswers.R3 l0 r w t575 t578 t581 t582 t584 t585 gb583 Ao10 co10 Ao12 co12 t588 t591 t594 t596 t599 gb595 Ao24 co24 Ao27 co27 gb603 Ao31 co31 Ao35 co35 kj19)
   case first =>
    have H := HC47.out;clear HC47
    by_cases c54 : t606 = t608
    ·rw [if_pos c54] at H;have c54b0 := beq_iff_eq.mpr c54;have c54b1 := bne_eq_false_iff_eq.mpr c54;clear c54;(first | rw [c54b0] | (simp only [i64_w,i32_w];rw [c54b0]) | skip);have H' := aK H;clear H;go_wp2;go_meet
     case rel => exact ⟨_,((t605 != t607)),rD,H',⟨by have := HJ6.out;have := HJ19.out;first | omega | exact Nat.le_refl _⟩,⟨rN HO_584000⟩,⟨rN HO_584001⟩,⟨rN HO_596000⟩,⟨rN HO_596001⟩,⟨rN HO_604000⟩,⟨rN HO_604001⟩,⟨kN BK583⟩,⟨kN BK595⟩,⟨kN BK603⟩,⟨bN HB⟩⟩
    ·rw [if_neg c54] at H;have c54b0 := beq_eq_false_iff_ne.mpr c54;have c54b1 := bne_iff_ne.mpr c54;(first | rw [c54b0] | (simp only [i64_w,i32_w];rw [c54b0]) | skip);have H' := aK H;clear H;go_wp2;go_meet
     case rel => exact ⟨_,(true),rD,H',⟨by have := HJ6.out;have := HJ19.out;first | omega | exact Nat.le_refl _⟩,⟨rN HO_584000⟩,⟨rN HO_584001⟩,⟨rN HO_596000⟩,⟨rN HO_596001⟩,⟨rN HO_604000⟩,⟨rN HO_604001⟩,⟨kN BK583⟩,⟨kN BK595⟩,⟨kN BK603⟩,⟨bN HB⟩⟩
   case rest =>
    clear HC47;clear hcz50_0 hcz50_1 hcz52_0 hcz52_1 hfz50_0 hfz50_1 hfz52_0 hfz52_1;go_step;rename_i z3_377;exact HS3 hu27 HR0 HC0 HJ6 NB583_595 NB595_583 hnb25 hnc25 NB583_603 NB603_583 NB595_603 NB603_595 hnb32 hnc32 hnb33 hnc33 HJ19 z3_377 hcut
set_option maxHeartbeats 8000000 in
set_option maxRecDepth 100000 in
theorem laws_FnAnswers.sec3 (HS4 : laws_FnAnswers.S4) : laws_FnAnswers.S3 := by
 unfold laws_FnAnswers.S3;intros;rename_i k A0 c0 l0 r w hu27 HR0 HC0 t575 t578 t581 t582 t584 t585 gb583 Ao10 co10 Ao12 co12 kj6 HJ6 t588 t591 t594 t596 t599 gb595 NB583_595 NB595_583 Ao24 co24 hnb25 hnc25 Ao27 co27 gb603 NB583_603 NB603_583 NB595_603 NB603_595 Ao31 co31 hnb32 hnc32 hnb33 hnc33 Ao35 co35 kj19 HJ19 z3_376 z3_377 wc u115 hcut
 conv => arg 2;whnf
 conv at z3_377 => enter [a,w];arg 1;arg 2;whnf
 obtain ⟨kq,x115_46,rfl,HA,HJ46,HO_584000,HO_584001,HO_596000,HO_596001,HO_604000,HO_604001,BK583,BK595,BK603,HB⟩ := hcut
 cases kq with
 | zero => exact absurd HA.out (by simp [laws_FnAnswers.j2])
 | succ kj46 =>
  have H := HA.out;clear HA;simp only [laws_FnAnswers.j2] at H
  by_cases c55 : x115_46 = true
  ·subst c55;rw [if_pos rfl] at H;obtain rfl := Option.some.inj H;go_wp2;go_ret;exact eR (bN HB)
  ·replace c55 := Bool.eq_false_iff.mpr c55;subst c55;rw [if_neg (show ¬ (false = true) by decide)] at H;replace H := bE H;obtain ⟨⟨t609,t610⟩,A56,H⟩ := H;dsimp only at H;replace H := bE H;obtain ⟨⟨t611,t612⟩,A57,H⟩ := H;dsimp only at H;have HC58 := aK H;clear H;have hnb59 := NB583_595.out;have hnc59 := NB595_583.out;have hnb60 := NB583_603.out;have hnc60 := NB603_583.out;have hcz61_0 := y0 BK583;have hcz61_1 := y1 BK583;have hfz61_0 := blk_frozen BK583.out 0;have hfz61_1 := blk_frozen BK583.out 1
   go_upto_region 18 with (first | ((with_reducible refine gate_callee (f := 23) rfl ?_);refine goesE (some 118) Try.func23 #[.agg #[.slice Ao10 t575.length co10,.slice Ao12 t578.length co12]] ?_;(with_reducible refine (impl_CountLong.calls kj46 _ _ t575 _ _ t578 t609 t610 _ ?side1 ?side2 ?side3 ?side4 A56.out).mono ?_);(case side1 => exact cR HO_584000);(case side2 => exact (Kd.R_reads' HO_584000.out).2.1);(case side3 => exact cR HO_584001);(case side4 => exact (Kd.R_reads' HO_584001.out).2.1);rintro e w62 ⟨rfl,hb⟩;refine ⟨_,rfl,?_⟩;replace HO_584000 := rB HO_584000 hb;replace HO_584001 := rB HO_584001 hb;replace HO_596000 := rB HO_596000 hb;replace HO_596001 := rB HO_596001 hb;replace HO_604000 := rB HO_604000 hb;replace HO_604001 := rB HO_604001 hb;replace BK583 := kB BK583 hb;replace BK595 := kB BK595 hb;replace BK603 := kB BK603 hb;replace HB := hB HB hb;clear hb;have hcz63_0 := y0 BK583;have hcz63_1 := y1 BK583;have hfz63_0 := blk_frozen BK583.out 0;have hfz63_1 := blk_frozen BK583.out 1) | ((with_reducible refine gate_callee (f := 22) rfl ?_);refine goesE (some 123) Try.func22 #[.agg #[.slice Ao10 t575.length co10,.slice Ao12 t578.length co12]] ?_;(with_reducible refine (spec_CountLong.calls kj46 _ _ t575 _ _ t578 t611 t612 _ ?side1 ?side2 ?side3 ?side4 A57.out).mono ?_);(case side1 => exact cR HO_584000);(case side2 => exact (Kd.R_reads' HO_584000.out).2.1);(case side3 => exact cR HO_584001);(case side4 => exact (Kd.R_reads' HO_584001.out).2.1);rintro e w64 ⟨rfl,hb⟩;refine ⟨_,rfl,?_⟩;replace HO_584000 := rB HO_584000 hb;replace HO_584001 := rB HO_584001 hb;replace HO_596000 := rB HO_596000 hb;replace HO_596001 := rB HO_596001 hb;replace HO_604000 := rB HO_604000 hb;replace HO_604001 := rB HO_604001 hb;replace BK583 := kB BK583 hb;replace BK595 := kB BK595 hb;replace BK603 := kB BK603 hb;replace HB := hB HB hb;clear hb))
   (try simp only [Act.put,List.setIfInBounds_toArray,List.set_cons_zero,List.set_cons_succ])
   go_cut [133] (laws_FnAnswers.R4 l0 r w t575 t578 t581 t582 t584 t585 gb583 Ao10 co10 Ao12 co12 t588 t591 t594 t596 t599 gb595 Ao24 co24 Ao27 co27 gb603 Ao31 co31 Ao35 co35 kj46)
   case first =>
    have H := HC58.out;clear HC58
    by_cases c65 : t610 = t612
    ·rw [if_pos c65] at H;have c65b0 := beq_iff_eq.mpr c65;have c65b1 := bne_eq_false_iff_eq.mpr c65;clear c65;(first | rw [c65b0] | (simp only [i64_w,i32_w];rw [c65b0]) | skip);have H' := aK H;clear H;go_wp2;go_meet
     case rel => exact ⟨_,((t609 != t611)),rD,H',⟨by have := HJ6.out;have := HJ19.out;have := HJ46.out;first | omega | exact Nat.le_refl _⟩,⟨rN HO_584000⟩,⟨rN HO_584001⟩,⟨rN HO_596000⟩,⟨rN HO_596001⟩,⟨rN HO_604000⟩,⟨rN HO_604001⟩,⟨kN BK583⟩,⟨kN BK595⟩,⟨kN BK603⟩,⟨bN HB⟩⟩
    ·rw [if_neg c65] at H;have c65b0 := beq_eq_false_iff_ne.mpr c65;have c65b1 := bne_iff_ne.mpr c65;(first | rw [c65b0] | (simp only [i64_w,i32_w];rw [c65b0]) | skip);have H' := aK H;clear H;go_wp2;go_meet
     case rel => exact ⟨_,(true),rD,H',⟨by have := HJ6.out;have := HJ19.out;have := HJ46.out;first | omega | exact Nat.le_refl _⟩,⟨rN HO_584000⟩,⟨rN HO_584001⟩,⟨rN HO_596000⟩,⟨rN HO_596001⟩,⟨rN HO_604000⟩,⟨rN HO_604001⟩,⟨kN BK583⟩,⟨kN BK595⟩,⟨kN BK603⟩,⟨bN HB⟩⟩
   case rest =>
    clear HC58;clear hcz61_0 hcz61_1 hcz63_0 hcz63_1 hfz61_0 hfz61_1 hfz63_0 hfz63_1;go_step;rename_i z4_383;exact HS4 hu27 HR0 HC0 HJ6 NB583_595 NB595_583 hnb25 hnc25 NB583_603 NB603_583 NB595_603 NB603_595 hnb32 hnc32 hnb33 hnc33 HJ19 HJ46 z4_383 hcut
set_option maxHeartbeats 8000000 in
set_option maxRecDepth 100000 in
theorem laws_FnAnswers.sec4 (HS5 : laws_FnAnswers.S5) : laws_FnAnswers.S4 := by
 unfold laws_FnAnswers.S4;intros;rename_i k A0 c0 l0 r w hu27 HR0 HC0 t575 t578 t581 t582 t584 t585 gb583 Ao10 co10 Ao12 co12 kj6 HJ6 t588 t591 t594 t596 t599 gb595 NB583_595 NB595_583 Ao24 co24 hnb25 hnc25 Ao27 co27 gb603 NB583_603 NB603_583 NB595_603 NB603_595 Ao31 co31 hnb32 hnc32 hnb33 hnc33 Ao35 co35 kj19 HJ19 kj46 HJ46 z4_382 z4_383 wc u133 hcut
 conv => arg 2;whnf
 conv at z4_383 => enter [a,w];arg 1;arg 2;whnf
 obtain ⟨kq,x133_57,rfl,HA,HJ57,HO_584000,HO_584001,HO_596000,HO_596001,HO_604000,HO_604001,BK583,BK595,BK603,HB⟩ := hcut
 cases kq with
 | zero => exact absurd HA.out (by simp [laws_FnAnswers.j3])
 | succ kj57 =>
  have H := HA.out;clear HA;simp only [laws_FnAnswers.j3] at H
  by_cases c66 : x133_57 = true
  ·subst c66;rw [if_pos rfl] at H;obtain rfl := Option.some.inj H;go_wp2;go_ret;exact eR (bN HB)
  ·replace c66 := Bool.eq_false_iff.mpr c66;subst c66;rw [if_neg (show ¬ (false = true) by decide)] at H;replace H := bE H;obtain ⟨⟨t613,t614,t615⟩,A67,H⟩ := H;dsimp only at H;replace H := bE H;obtain ⟨⟨t616,t617⟩,A68,H⟩ := H;dsimp only at H;replace H := bE H;obtain ⟨⟨t618,t619⟩,A69,H⟩ := H;dsimp only at H;have HC70 := aK H;clear H
   go_upto_region 23 with (first | ((with_reducible refine gate_callee (f := 49) rfl ?_);refine goesE (some 136) Try.func49 #[.slice A0 l0.length c0] ?_;(with_reducible refine (spec_DrawTurnsOf.calls kj57 _ _ l0 t613 t614 t615 _ ?side1 ?side2 A67.out).mono ?_);(case side1 => exact cB HR0 HB);(case side2 => exact HC0.out);rintro e w71 ⟨rfl,hb⟩;refine ⟨_,rfl,?_⟩;replace HO_584000 := rB HO_584000 hb;replace HO_584001 := rB HO_584001 hb;replace HO_596000 := rB HO_596000 hb;replace HO_596001 := rB HO_596001 hb;replace HO_604000 := rB HO_604000 hb;replace HO_604001 := rB HO_604001 hb;replace BK583 := kB BK583 hb;replace BK595 := kB BK595 hb;replace BK603 := kB BK603 hb;replace HB := hB HB hb;clear hb) | ((with_reducible refine gate_callee (f := 50) rfl ?_);refine goesE (some 144) Try.func50 #[.int .i64 t613,.int .i64 t614,.int .i64 t615] ?_;(with_reducible refine (impl_TurnsOf.calls t613 t614 t615 t616 t617 _ A68.out).mono ?_);rintro e w' ⟨rfl,⟨nd,rfl⟩⟩;refine ⟨_,rfl,?_⟩) | ((with_reducible refine gate_callee (f := 51) rfl ?_);refine goesE (some 151) Try.func51 #[.int .i64 t613,.int .i64 t614,.int .i64 t615] ?_;(with_reducible refine (spec_TurnsOf.calls t613 t614 t615 t618 t619 _ A69.out).mono ?_);rintro e w' ⟨rfl,⟨nd,rfl⟩⟩;refine ⟨_,rfl,?_⟩))
   (try simp only [Act.put,List.setIfInBounds_toArray,List.set_cons_zero,List.set_cons_succ])
   go_cut [161] (laws_FnAnswers.R5 l0 r w t575 t578 t581 t582 t584 t585 gb583 Ao10 co10 Ao12 co12 t588 t591 t594 t596 t599 gb595 Ao24 co24 Ao27 co27 gb603 Ao31 co31 Ao35 co35 kj57)
   case first =>
    have H := HC70.out;clear HC70
    by_cases c72 : t617 = t619
    ·rw [if_pos c72] at H;have c72b0 := beq_iff_eq.mpr c72;have c72b1 := bne_eq_false_iff_eq.mpr c72;clear c72;(first | rw [c72b0] | (simp only [i64_w,i32_w];rw [c72b0]) | skip);have H' := aK H;clear H;go_wp2;go_meet
     case rel => exact ⟨_,((t616 != t618)),rD,H',⟨by have := HJ6.out;have := HJ19.out;have := HJ46.out;have := HJ57.out;first | omega | exact Nat.le_refl _⟩,⟨rN HO_584000⟩,⟨rN HO_584001⟩,⟨rN HO_596000⟩,⟨rN HO_596001⟩,⟨rN HO_604000⟩,⟨rN HO_604001⟩,⟨kN BK583⟩,⟨kN BK595⟩,⟨kN BK603⟩,⟨bN HB⟩⟩
    ·rw [if_neg c72] at H;have c72b0 := beq_eq_false_iff_ne.mpr c72;have c72b1 := bne_iff_ne.mpr c72;(first | rw [c72b0] | (simp only [i64_w,i32_w];rw [c72b0]) | skip);have H' := aK H;clear H;go_wp2;go_meet
     case rel => exact ⟨_,(true),rD,H',⟨by have := HJ6.out;have := HJ19.out;have := HJ46.out;have := HJ57.out;first | omega | exact Nat.le_refl _⟩,⟨rN HO_584000⟩,⟨rN HO_584001⟩,⟨rN HO_596000⟩,⟨rN HO_596001⟩,⟨rN HO_604000⟩,⟨rN HO_604001⟩,⟨kN BK583⟩,⟨kN BK595⟩,⟨kN BK603⟩,⟨bN HB⟩⟩
   case rest =>
    clear HC70;go_step;rename_i z5_389;exact HS5 hu27 HR0 HC0 HJ6 NB583_595 NB595_583 hnb25 hnc25 NB583_603 NB603_583 NB595_603 NB603_595 hnb32 hnc32 hnb33 hnc33 HJ19 HJ46 HJ57 z5_389 hcut
set_option maxHeartbeats 8000000 in
set_option maxRecDepth 100000 in
theorem laws_FnAnswers.sec5 (HS6 : laws_FnAnswers.S6) : laws_FnAnswers.S5 := by
 unfold laws_FnAnswers.S5;intros;rename_i k A0 c0 l0 r w hu27 HR0 HC0 t575 t578 t581 t582 t584 t585 gb583 Ao10 co10 Ao12 co12 kj6 HJ6 t588 t591 t594 t596 t599 gb595 NB583_595 NB595_583 Ao24 co24 hnb25 hnc25 Ao27 co27 gb603 NB583_603 NB603_583 NB595_603 NB603_595 Ao31 co31 hnb32 hnc32 hnb33 hnc33 Ao35 co35 kj19 HJ19 kj46 HJ46 kj57 HJ57 z5_388 z5_389 wc u161 hcut
 conv => arg 2;whnf
 conv at z5_389 => enter [a,w];arg 1;arg 2;whnf
 obtain ⟨kq,x161_69,rfl,HA,HJ69,HO_584000,HO_584001,HO_596000,HO_596001,HO_604000,HO_604001,BK583,BK595,BK603,HB⟩ := hcut
 cases kq with
 | zero => exact absurd HA.out (by simp [laws_FnAnswers.j4])
 | succ kj69 =>
  have H := HA.out;clear HA;simp only [laws_FnAnswers.j4] at H
  by_cases c73 : x161_69 = true
  ·subst c73;rw [if_pos rfl] at H;obtain rfl := Option.some.inj H;go_wp2;go_ret;exact eR (bN HB)
  ·replace c73 := Bool.eq_false_iff.mpr c73;subst c73;rw [if_neg (show ¬ (false = true) by decide)] at H;replace H := bE H;obtain ⟨⟨t620,t621⟩,A74,H⟩ := H;dsimp only at H;replace H := bE H;obtain ⟨⟨t622,t625⟩,A75,H⟩ := H;dsimp only at H;replace H := bE H;obtain ⟨⟨t626,t629⟩,A76,H⟩ := H;dsimp only at H;have HC77 := aK H;clear H
   go_upto_region 28 with (first | ((with_reducible refine gate_callee (f := 52) rfl ?_);refine goesE (some 164) Try.func52 #[.slice A0 l0.length c0] ?_;(with_reducible refine (spec_DrawBestParts.calls kj69 _ _ l0 t620 t621 _ ?side1 ?side2 A74.out).mono ?_);(case side1 => exact cB HR0 HB);(case side2 => exact HC0.out);rintro e w78 ⟨rfl,hb⟩;refine ⟨_,rfl,?_⟩;replace HO_584000 := rB HO_584000 hb;replace HO_584001 := rB HO_584001 hb;replace HO_596000 := rB HO_596000 hb;replace HO_596001 := rB HO_596001 hb;replace HO_604000 := rB HO_604000 hb;replace HO_604001 := rB HO_604001 hb;replace BK583 := kB BK583 hb;replace BK595 := kB BK595 hb;replace BK603 := kB BK603 hb;replace HB := hB HB hb;clear hb) | ((with_reducible refine gate_callee (f := 42) rfl ?_);refine goesE (some 170) Try.func42 #[.int .i64 t620,.int .i64 t621] ?_;(with_reducible refine (impl_BestParts.callsV kj69 t620 t621 t622 t625 _ A75.out).mono ?_);rintro e w79 ⟨v623,rfl,ho0,hb⟩;refine ⟨_,rfl,?_⟩;have HO624 := aK (Kd.V_lower (Kd.V_mono (ok' := fun k_ => some k_ ≠ (.slice Ao10 t575.length co10 : Value).ownBlock ∧ some k_ ≠ (.slice Ao12 t578.length co12 : Value).ownBlock ∧ some k_ ≠ (.slice Ao24 t588.length co24 : Value).ownBlock ∧ some k_ ≠ (.slice Ao27 t591.length co27 : Value).ownBlock ∧ some k_ ≠ (.slice Ao31 t596.length co31 : Value).ownBlock ∧ some k_ ≠ (.slice Ao35 t599.length co35 : Value).ownBlock ∧ k_ ≠ gb583 ∧ k_ ≠ gb595 ∧ k_ ≠ gb603) ho0 (fun k_ hk_ => ⟨(Kd.fresh' (Kd.R_lt (rN HO_584000)) k_ hk_),(Kd.fresh' (Kd.R_lt (rN HO_584001)) k_ hk_),(Kd.fresh' (Kd.R_lt (rN HO_596000)) k_ hk_),(Kd.fresh' (Kd.R_lt (rN HO_596001)) k_ hk_),(Kd.fresh' (Kd.R_lt (rN HO_604000)) k_ hk_),(Kd.fresh' (Kd.R_lt (rN HO_604001)) k_ hk_),(Kd.freshB (g := gb583) (o := .cells #[.slice Ao10 t575.length co10,.slice Ao12 t578.length co12] 27 (0,0)) (kN BK583) k_ hk_),(Kd.freshB (g := gb595) (o := .cells #[.slice Ao24 t588.length co24,.slice Ao27 t591.length co27] 27 (0,0)) (kN BK595) k_ hk_),(Kd.freshB (g := gb603) (o := .cells #[.slice Ao31 t596.length co31,.slice Ao35 t599.length co35] 27 (0,0)) (kN BK603) k_ hk_)⟩)) (below_size (bN HB)));replace HO_584000 := rB HO_584000 hb;replace HO_584001 := rB HO_584001 hb;replace HO_596000 := rB HO_596000 hb;replace HO_596001 := rB HO_596001 hb;replace HO_604000 := rB HO_604000 hb;replace HO_604001 := rB HO_604001 hb;replace BK583 := kB BK583 hb;replace BK595 := kB BK595 hb;replace BK603 := kB BK603 hb;replace HB := hB HB hb;clear hb ho0) | ((with_reducible refine gate_callee (f := 41) rfl ?_);refine goesE (some 176) Try.func41 #[.int .i64 t620,.int .i64 t621] ?_;(with_reducible refine (spec_BestParts.calls kj69 t620 t621 t626 t629 _ A76.out).mono ?_);rintro e w80 ⟨v627,rfl,ho0,hb⟩;refine ⟨_,rfl,?_⟩;replace HO624 := vB HO624 hb;have HO628 := aK (Kd.V_lower (Kd.V_mono (ok' := fun k_ => some k_ ≠ (.slice Ao10 t575.length co10 : Value).ownBlock ∧ some k_ ≠ (.slice Ao12 t578.length co12 : Value).ownBlock ∧ some k_ ≠ (.slice Ao24 t588.length co24 : Value).ownBlock ∧ some k_ ≠ (.slice Ao27 t591.length co27 : Value).ownBlock ∧ some k_ ≠ (.slice Ao31 t596.length co31 : Value).ownBlock ∧ some k_ ≠ (.slice Ao35 t599.length co35 : Value).ownBlock ∧ k_ ≠ gb583 ∧ k_ ≠ gb595 ∧ k_ ≠ gb603) ho0 (fun k_ hk_ => ⟨(Kd.fresh' (Kd.R_lt (rN HO_584000)) k_ hk_),(Kd.fresh' (Kd.R_lt (rN HO_584001)) k_ hk_),(Kd.fresh' (Kd.R_lt (rN HO_596000)) k_ hk_),(Kd.fresh' (Kd.R_lt (rN HO_596001)) k_ hk_),(Kd.fresh' (Kd.R_lt (rN HO_604000)) k_ hk_),(Kd.fresh' (Kd.R_lt (rN HO_604001)) k_ hk_),(Kd.freshB (g := gb583) (o := .cells #[.slice Ao10 t575.length co10,.slice Ao12 t578.length co12] 27 (0,0)) (kN BK583) k_ hk_),(Kd.freshB (g := gb595) (o := .cells #[.slice Ao24 t588.length co24,.slice Ao27 t591.length co27] 27 (0,0)) (kN BK595) k_ hk_),(Kd.freshB (g := gb603) (o := .cells #[.slice Ao31 t596.length co31,.slice Ao35 t599.length co35] 27 (0,0)) (kN BK603) k_ hk_)⟩)) (below_size (bN HB)));replace HO_584000 := rB HO_584000 hb;replace HO_584001 := rB HO_584001 hb;replace HO_596000 := rB HO_596000 hb;replace HO_596001 := rB HO_596001 hb;replace HO_604000 := rB HO_604000 hb;replace HO_604001 := rB HO_604001 hb;replace BK583 := kB BK583 hb;replace BK595 := kB BK595 hb;replace BK603 := kB BK603 hb;replace HB := hB HB hb;clear hb ho0))
   (try simp only [Act.put,List.setIfInBounds_toArray,List.set_cons_zero,List.set_cons_succ])
   go_cut [187] (laws_FnAnswers.R6 r w t575 t578 t581 t582 t584 t585 gb583 Ao10 co10 Ao12 co12 t588 t591 t594 t596 t599 gb595 Ao24 co24 Ao27 co27 gb603 Ao31 co31 Ao35 co35 kj69 t620 t621 t622 t625 v623)
   case first =>
    have H := HC77.out;clear HC77
    by_cases c81 : t625 = t629
    ·rw [if_pos c81] at H;have c81b0 := beq_iff_eq.mpr c81;have c81b1 := bne_eq_false_iff_eq.mpr c81;clear c81;(first | rw [c81b0] | (simp only [i64_w,i32_w];rw [c81b0]) | skip);replace H := bE H;obtain ⟨t630,A82,H⟩ := H;have H' := aK H;clear H;obtain ⟨Ao83,co83,eo83⟩ := Kd.V_slice HO624.out;subst eo83;obtain ⟨Ao84,co84,eo84⟩ := Kd.V_slice HO628.out;subst eo84
     go_wp2_with (first | (go_at_call 53;(with_reducible refine (laws_likeInts.calls kj69 _ _ t622 _ _ t626 t630 _ ?side1 ?side2 ?side3 ?side4 A82.out).mono ?_);(case side1 => exact cM ((Kd.V_reads' HO624.out).2.2));(case side2 => exact (Kd.V_reads' HO624.out).2.1);(case side3 => exact cM ((Kd.V_reads' HO628.out).2.2));(case side4 => exact (Kd.V_reads' HO628.out).2.1);rintro e w' ⟨rfl,⟨nd,rfl⟩⟩))
     go_meet
     case rel => exact ⟨_,(!t630),rD,H',⟨by have := HJ6.out;have := HJ19.out;have := HJ46.out;have := HJ57.out;have := HJ69.out;first | omega | exact Nat.le_refl _⟩,⟨vN HO624⟩,⟨rN HO_584000⟩,⟨rN HO_584001⟩,⟨rN HO_596000⟩,⟨rN HO_596001⟩,⟨rN HO_604000⟩,⟨rN HO_604001⟩,⟨kN BK583⟩,⟨kN BK595⟩,⟨kN BK603⟩,⟨bN HB⟩⟩
    ·rw [if_neg c81] at H;have c81b0 := beq_eq_false_iff_ne.mpr c81;have c81b1 := bne_iff_ne.mpr c81;(first | rw [c81b0] | (simp only [i64_w,i32_w];rw [c81b0]) | skip);have H' := aK H;clear H;go_wp2;go_meet
     case rel => exact ⟨_,(true),rD,H',⟨by have := HJ6.out;have := HJ19.out;have := HJ46.out;have := HJ57.out;have := HJ69.out;first | omega | exact Nat.le_refl _⟩,⟨vN HO624⟩,⟨rN HO_584000⟩,⟨rN HO_584001⟩,⟨rN HO_596000⟩,⟨rN HO_596001⟩,⟨rN HO_604000⟩,⟨rN HO_604001⟩,⟨kN BK583⟩,⟨kN BK595⟩,⟨kN BK603⟩,⟨bN HB⟩⟩
   case rest =>
    clear HC77;go_step;rename_i z6_410;exact HS6 hu27 HJ6 NB583_595 NB595_583 hnb25 hnc25 NB583_603 NB603_583 NB595_603 NB603_595 hnb32 hnc32 hnb33 hnc33 HJ19 HJ46 HJ57 HJ69 z6_410 hcut
set_option maxHeartbeats 8000000 in
set_option maxRecDepth 100000 in
theorem laws_FnAnswers.sec6 (HS7 : laws_FnAnswers.S7) : laws_FnAnswers.S6 := by
 unfold laws_FnAnswers.S6;intros;rename_i k r w hu27 t575 t578 t581 t582 t584 t585 gb583 Ao10 co10 Ao12 co12 kj6 HJ6 t588 t591 t594 t596 t599 gb595 NB583_595 NB595_583 Ao24 co24 hnb25 hnc25 Ao27 co27 gb603 NB583_603 NB603_583 NB595_603 NB603_595 Ao31 co31 hnb32 hnc32 hnb33 hnc33 Ao35 co35 kj19 HJ19 kj46 HJ46 kj57 HJ57 kj69 HJ69 t620 t621 t622 t625 v623 z6_409 z6_410 v627 wc u187 hcut
 conv => arg 2;whnf
 conv at z6_410 => enter [a,w];arg 1;arg 2;whnf
 obtain ⟨kq,x187_76,rfl,HA,HJ76,HO_31,HO_584000,HO_584001,HO_596000,HO_596001,HO_604000,HO_604001,BK583,BK595,BK603,HB⟩ := hcut
 cases kq with
 | zero => exact absurd HA.out (by simp [laws_FnAnswers.j5])
 | succ kj76 =>
  have H := HA.out;clear HA;simp only [laws_FnAnswers.j5] at H
  by_cases c85 : x187_76 = true
  ·subst c85;rw [if_pos rfl] at H;obtain rfl := Option.some.inj H;go_wp2;go_ret;exact eR (bN HB)
  ·replace c85 := Bool.eq_false_iff.mpr c85;subst c85;rw [if_neg (show ¬ (false = true) by decide)] at H;have HC86 := aK H;clear H
   go_upto_region 30 with (fail)
   go_cut [201] (laws_FnAnswers.R7 r w t575 t578 t581 t582 t584 t585 gb583 Ao10 co10 Ao12 co12 t588 t591 t594 t596 t599 gb595 Ao24 co24 Ao27 co27 gb603 Ao31 co31 Ao35 co35 kj76)
   case first =>
    have H := HC86.out;clear HC86
    by_cases c87 : t625 = 0
    ·rw [if_pos c87] at H;have c87b0 := beq_iff_eq.mpr c87;have c87b1 := bne_eq_false_iff_eq.mpr c87;clear c87;(first | rw [c87b0] | (simp only [i64_w,i32_w];rw [c87b0]) | skip);replace H := bE H;obtain ⟨t631,A88,H⟩ := H
     by_cases c89 : t631 = t620
     ·rw [if_pos c89] at H;have c89b0 := beq_iff_eq.mpr c89;have c89b1 := bne_eq_false_iff_eq.mpr c89;clear c89;have H' := aK H;clear H;obtain ⟨Ao90,co90,eo90⟩ := Kd.V_slice HO_31.out;subst eo90
      go_wp2_with (first | (go_at_call 54;(with_reducible refine (laws_sum.calls kj76 _ _ t622 t631 _ ?side1 ?side2 A88.out).mono ?_);(case side1 => exact cM ((Kd.V_reads' HO_31.out).2.2));(case side2 => exact (Kd.V_reads' HO_31.out).2.1);rintro e w' ⟨rfl,⟨nd,rfl⟩⟩))
      go_meet
      case rel => exact ⟨_,(((t622.length : Int) != t621)),rD,H',⟨by have := HJ6.out;have := HJ19.out;have := HJ46.out;have := HJ57.out;have := HJ69.out;have := HJ76.out;first | omega | exact Nat.le_refl _⟩,⟨rN HO_584000⟩,⟨rN HO_584001⟩,⟨rN HO_596000⟩,⟨rN HO_596001⟩,⟨rN HO_604000⟩,⟨rN HO_604001⟩,⟨kN BK583⟩,⟨kN BK595⟩,⟨kN BK603⟩,⟨bN HB⟩⟩
     ·rw [if_neg c89] at H;have c89b0 := beq_eq_false_iff_ne.mpr c89;have c89b1 := bne_iff_ne.mpr c89;have H' := aK H;clear H;obtain ⟨Ao91,co91,eo91⟩ := Kd.V_slice HO_31.out;subst eo91
      go_wp2_with (first | (go_at_call 54;(with_reducible refine (laws_sum.calls kj76 _ _ t622 t631 _ ?side1 ?side2 A88.out).mono ?_);(case side1 => exact cM ((Kd.V_reads' HO_31.out).2.2));(case side2 => exact (Kd.V_reads' HO_31.out).2.1);rintro e w' ⟨rfl,⟨nd,rfl⟩⟩))
      go_meet
      case rel => exact ⟨_,(true),rD,H',⟨by have := HJ6.out;have := HJ19.out;have := HJ46.out;have := HJ57.out;have := HJ69.out;have := HJ76.out;first | omega | exact Nat.le_refl _⟩,⟨rN HO_584000⟩,⟨rN HO_584001⟩,⟨rN HO_596000⟩,⟨rN HO_596001⟩,⟨rN HO_604000⟩,⟨rN HO_604001⟩,⟨kN BK583⟩,⟨kN BK595⟩,⟨kN BK603⟩,⟨bN HB⟩⟩
    ·rw [if_neg c87] at H;have c87b0 := beq_eq_false_iff_ne.mpr c87;have c87b1 := bne_iff_ne.mpr c87;(first | rw [c87b0] | (simp only [i64_w,i32_w];rw [c87b0]) | skip);have H' := aK H;clear H;go_wp2;go_meet
     case rel => exact ⟨_,(false),rD,H',⟨by have := HJ6.out;have := HJ19.out;have := HJ46.out;have := HJ57.out;have := HJ69.out;have := HJ76.out;first | omega | exact Nat.le_refl _⟩,⟨rN HO_584000⟩,⟨rN HO_584001⟩,⟨rN HO_596000⟩,⟨rN HO_596001⟩,⟨rN HO_604000⟩,⟨rN HO_604001⟩,⟨kN BK583⟩,⟨kN BK595⟩,⟨kN BK603⟩,⟨bN HB⟩⟩
   case rest =>
    clear HC86;go_step;rename_i z7_367;exact HS7 hu27 HJ6 NB583_595 NB595_583 hnb25 hnc25 NB583_603 NB603_583 NB595_603 NB603_595 hnb32 hnc32 hnb33 hnc33 HJ19 HJ46 HJ57 HJ69 HJ76 z7_367 hcut
set_option maxHeartbeats 8000000 in
set_option maxRecDepth 100000 in
theorem laws_FnAnswers.sec7 (HS8 : laws_FnAnswers.S8) : laws_FnAnswers.S7 := by
 unfold laws_FnAnswers.S7;intros;rename_i k r w hu27 t575 t578 t581 t582 t584 t585 gb583 Ao10 co10 Ao12 co12 kj6 HJ6 t588 t591 t594 t596 t599 gb595 NB583_595 NB595_583 Ao24 co24 hnb25 hnc25 Ao27 co27 gb603 NB583_603 NB603_583 NB595_603 NB603_595 Ao31 co31 hnb32 hnc32 hnb33 hnc33 Ao35 co35 kj19 HJ19 kj46 HJ46 kj57 HJ57 kj69 HJ69 v623 v627 kj76 HJ76 z7_366 z7_367 wc u201 hcut
 conv => arg 2;whnf
 conv at z7_367 => enter [a,w];arg 1;arg 2;whnf
 obtain ⟨kq,x201_85,rfl,HA,HJ85,HO_584000,HO_584001,HO_596000,HO_596001,HO_604000,HO_604001,BK583,BK595,BK603,HB⟩ := hcut
 cases kq with
 | zero => exact absurd HA.out (by simp [laws_FnAnswers.j6])
 | succ kj85 =>
  have H := HA.out;clear HA;simp only [laws_FnAnswers.j6] at H
  by_cases c92 : x201_85 = true
  ·subst c92;rw [if_pos rfl] at H;obtain rfl := Option.some.inj H;go_wp2;go_ret;exact eR (bN HB)
  ·replace c92 := Bool.eq_false_iff.mpr c92;subst c92;rw [if_neg (show ¬ (false = true) by decide)] at H
   by_cases c93 : t585 = 0
   ·rw [if_pos c93] at H;have c93b0 := beq_iff_eq.mpr c93;have c93b1 := bne_eq_false_iff_eq.mpr c93;clear c93;replace H := bE H;obtain ⟨⟨t632,t633⟩,A94,H⟩ := H;dsimp only at H;replace H := bE H;obtain ⟨⟨t634,t635⟩,A95,H⟩ := H;dsimp only at H;replace H := bE H;obtain ⟨⟨t636,t637⟩,A96,H⟩ := H;dsimp only at H;replace H := bE H;obtain ⟨⟨t638,t639⟩,A97,H⟩ := H;dsimp only at H;have HC98 := aK H;clear H;have hnb99 := NB583_595.out;have hnc99 := NB595_583.out;have hnb100 := NB583_603.out;have hnc100 := NB603_583.out;have hcz101_0 := y0 BK583;have hcz101_1 := y1 BK583;have hfz101_0 := blk_frozen BK583.out 0;have hfz101_1 := blk_frozen BK583.out 1
    go_upto_region 38 with (first | ((with_reducible refine gate_callee (f := 31) rfl ?_);refine goesE (some 213) Try.func31 #[.agg #[.slice Ao10 t575.length co10,.slice Ao12 t578.length co12]] ?_;(with_reducible refine (impl_EndingValue.calls kj85 _ _ t575 _ _ t578 t632 t633 _ ?side1 ?side2 ?side3 ?side4 A94.out).mono ?_);(case side1 => exact cR HO_584000);(case side2 => exact (Kd.R_reads' HO_584000.out).2.1);(case side3 => exact cR HO_584001);(case side4 => exact (Kd.R_reads' HO_584001.out).2.1);rintro e w102 ⟨rfl,hb⟩;refine ⟨_,rfl,?_⟩;replace HO_584000 := rB HO_584000 hb;replace HO_584001 := rB HO_584001 hb;replace HO_596000 := rB HO_596000 hb;replace HO_596001 := rB HO_596001 hb;replace HO_604000 := rB HO_604000 hb;replace HO_604001 := rB HO_604001 hb;replace BK583 := kB BK583 hb;replace BK595 := kB BK595 hb;replace BK603 := kB BK603 hb;replace HB := hB HB hb;clear hb;have hnb103 := NB595_603.out;have hnc103 := NB603_595.out;have hcz104_0 := y0 BK595;have hcz104_1 := y1 BK595;have hfz104_0 := blk_frozen BK595.out 0;have hfz104_1 := blk_frozen BK595.out 1) | ((with_reducible refine gate_callee (f := 31) rfl ?_);refine goesE (some 218) Try.func31 #[.agg #[.slice Ao24 t588.length co24,.slice Ao27 t591.length co27]] ?_;(with_reducible refine (impl_EndingValue.calls kj85 _ _ t588 _ _ t591 t634 t635 _ ?side1 ?side2 ?side3 ?side4 A95.out).mono ?_);(case side1 => exact cR HO_596000);(case side2 => exact (Kd.R_reads' HO_596000.out).2.1);(case side3 => exact cR HO_596001);(case side4 => exact (Kd.R_reads' HO_596001.out).2.1);rintro e w105 ⟨rfl,hb⟩;refine ⟨_,rfl,?_⟩;replace HO_584000 := rB HO_584000 hb;replace HO_584001 := rB HO_584001 hb;replace HO_596000 := rB HO_596000 hb;replace HO_596001 := rB HO_596001 hb;replace HO_604000 := rB HO_604000 hb;replace HO_604001 := rB HO_604001 hb;replace BK583 := kB BK583 hb;replace BK595 := kB BK595 hb;replace BK603 := kB BK603 hb;replace HB := hB HB hb;clear hb;have hcz106_0 := y0 BK583;have hcz106_1 := y1 BK583;have hfz106_0 := blk_frozen BK583.out 0;have hfz106_1 := blk_frozen BK583.out 1) | ((with_reducible refine gate_callee (f := 21) rfl ?_);refine goesE (some 223) Try.func21 #[.agg #[.slice Ao10 t575.length co10,.slice Ao12 t578.length co12]] ?_;(with_reducible refine (impl_BoxesOf.calls kj85 _ _ t575 _ _ t578 t636 t637 _ ?side1 ?side2 ?side3 ?side4 A96.out).mono ?_);(case side1 => exact cR HO_584000);(case side2 => exact (Kd.R_reads' HO_584000.out).2.1);(case side3 => exact cR HO_584001);(case side4 => exact (Kd.R_reads' HO_584001.out).2.1);rintro e w107 ⟨rfl,hb⟩;refine ⟨_,rfl,?_⟩;replace HO_584000 := rB HO_584000 hb;replace HO_584001 := rB HO_584001 hb;replace HO_596000 := rB HO_596000 hb;replace HO_596001 := rB HO_596001 hb;replace HO_604000 := rB HO_604000 hb;replace HO_604001 := rB HO_604001 hb;replace BK583 := kB BK583 hb;replace BK595 := kB BK595 hb;replace BK603 := kB BK603 hb;replace HB := hB HB hb;clear hb;have hcz108_0 := y0 BK595;have hcz108_1 := y1 BK595;have hfz108_0 := blk_frozen BK595.out 0;have hfz108_1 := blk_frozen BK595.out 1) | ((with_reducible refine gate_callee (f := 21) rfl ?_);refine goesE (some 228) Try.func21 #[.agg #[.slice Ao24 t588.length co24,.slice Ao27 t591.length co27]] ?_;(with_reducible refine (impl_BoxesOf.calls kj85 _ _ t588 _ _ t591 t638 t639 _ ?side1 ?side2 ?side3 ?side4 A97.out).mono ?_);(case side1 => exact cR HO_596000);(case side2 => exact (Kd.R_reads' HO_596000.out).2.1);(case side3 => exact cR HO_596001);(case side4 => exact (Kd.R_reads' HO_596001.out).2.1);rintro e w109 ⟨rfl,hb⟩;refine ⟨_,rfl,?_⟩;replace HO_584000 := rB HO_584000 hb;replace HO_584001 := rB HO_584001 hb;replace HO_596000 := rB HO_596000 hb;replace HO_596001 := rB HO_596001 hb;replace HO_604000 := rB HO_604000 hb;replace HO_604001 := rB HO_604001 hb;replace BK583 := kB BK583 hb;replace BK595 := kB BK595 hb;replace BK603 := kB BK603 hb;replace HB := hB HB hb;clear hb))
    (try simp only [Act.put,List.setIfInBounds_toArray,List.set_cons_zero,List.set_cons_succ])
    go_cut [255] (laws_FnAnswers.R8 r w t575 t578 t581 t582 t584 gb583 Ao10 co10 Ao12 co12 t588 t591 t596 t599 gb595 Ao24 co24 Ao27 co27 gb603 Ao31 co31 Ao35 co35 kj85 t632 t634)
    case first =>
     have H := HC98.out;clear HC98
     by_cases c110 : t594 = 0
     ·rw [if_pos c110] at H;have c110b0 := beq_iff_eq.mpr c110;have c110b1 := bne_eq_false_iff_eq.mpr c110;clear c110;(first | rw [c110b0] | (simp only [i64_w,i32_w];rw [c110b0]) | skip)
      by_cases c111 : t633 = 0
      ·rw [if_pos c111] at H;have c111b0 := beq_iff_eq.mpr c111;have c111b1 := bne_eq_false_iff_eq.mpr c111;clear c111
       by_cases c112 : t635 = 0
       ·rw [if_pos c112] at H;have c112b0 := beq_iff_eq.mpr c112;have c112b1 := bne_eq_false_iff_eq.mpr c112;clear c112
        by_cases c113 : t637 = 0
        ·rw [if_pos c113] at H;have c113b0 := beq_iff_eq.mpr c113;have c113b1 := bne_eq_false_iff_eq.mpr c113;clear c113
         by_cases c114 : t639 = 0
         ·rw [if_pos c114] at H;have c114b0 := beq_iff_eq.mpr c114;have c114b1 := bne_eq_false_iff_eq.mpr c114;clear c114;have H' := aK H;clear H;go_wp2;go_meet
          case rel => exact ⟨_,((t636 != (wrap64 (t638 + t582)))),rD,H',⟨by have := HJ6.out;have := HJ19.out;have := HJ46.out;have := HJ57.out;have := HJ69.out;have := HJ76.out;have := HJ85.out;first | omega | exact Nat.le_refl _⟩,⟨rN HO_584000⟩,⟨rN HO_584001⟩,⟨rN HO_596000⟩,⟨rN HO_596001⟩,⟨rN HO_604000⟩,⟨rN HO_604001⟩,⟨kN BK583⟩,⟨kN BK595⟩,⟨kN BK603⟩,⟨bN HB⟩⟩
         ·rw [if_neg c114] at H;have c114b0 := beq_eq_false_iff_ne.mpr c114;have c114b1 := bne_iff_ne.mpr c114;have H' := aK H;clear H;go_wp2;go_meet
          case rel => exact ⟨_,(true),rD,H',⟨by have := HJ6.out;have := HJ19.out;have := HJ46.out;have := HJ57.out;have := HJ69.out;have := HJ76.out;have := HJ85.out;first | omega | exact Nat.le_refl _⟩,⟨rN HO_584000⟩,⟨rN HO_584001⟩,⟨rN HO_596000⟩,⟨rN HO_596001⟩,⟨rN HO_604000⟩,⟨rN HO_604001⟩,⟨kN BK583⟩,⟨kN BK595⟩,⟨kN BK603⟩,⟨bN HB⟩⟩
        ·rw [if_neg c113] at H;have c113b0 := beq_eq_false_iff_ne.mpr c113;have c113b1 := bne_iff_ne.mpr c113;have H' := aK H;clear H;go_wp2;go_meet
         case rel => exact ⟨_,(true),rD,H',⟨by have := HJ6.out;have := HJ19.out;have := HJ46.out;have := HJ57.out;have := HJ69.out;have := HJ76.out;have := HJ85.out;first | omega | exact Nat.le_refl _⟩,⟨rN HO_584000⟩,⟨rN HO_584001⟩,⟨rN HO_596000⟩,⟨rN HO_596001⟩,⟨rN HO_604000⟩,⟨rN HO_604001⟩,⟨kN BK583⟩,⟨kN BK595⟩,⟨kN BK603⟩,⟨bN HB⟩⟩
       ·rw [if_neg c112] at H;have c112b0 := beq_eq_false_iff_ne.mpr c112;have c112b1 := bne_iff_ne.mpr c112;have H' := aK H;clear H;go_wp2;go_meet
        case rel => exact ⟨_,(true),rD,H',⟨by have := HJ6.out;have := HJ19.out;have := HJ46.out;have := HJ57.out;have := HJ69.out;have := HJ76.out;have := HJ85.out;first | omega | exact Nat.le_refl _⟩,⟨rN HO_584000⟩,⟨rN HO_584001⟩,⟨rN HO_596000⟩,⟨rN HO_596001⟩,⟨rN HO_604000⟩,⟨rN HO_604001⟩,⟨kN BK583⟩,⟨kN BK595⟩,⟨kN BK603⟩,⟨bN HB⟩⟩
      ·rw [if_neg c111] at H;have c111b0 := beq_eq_false_iff_ne.mpr c111;have c111b1 := bne_iff_ne.mpr c111;have H' := aK H;clear H;go_wp2;go_meet
       case rel => exact ⟨_,(true),rD,H',⟨by have := HJ6.out;have := HJ19.out;have := HJ46.out;have := HJ57.out;have := HJ69.out;have := HJ76.out;have := HJ85.out;first | omega | exact Nat.le_refl _⟩,⟨rN HO_584000⟩,⟨rN HO_584001⟩,⟨rN HO_596000⟩,⟨rN HO_596001⟩,⟨rN HO_604000⟩,⟨rN HO_604001⟩,⟨kN BK583⟩,⟨kN BK595⟩,⟨kN BK603⟩,⟨bN HB⟩⟩
     ·rw [if_neg c110] at H;have c110b0 := beq_eq_false_iff_ne.mpr c110;have c110b1 := bne_iff_ne.mpr c110;(first | rw [c110b0] | (simp only [i64_w,i32_w];rw [c110b0]) | skip);have H' := aK H;clear H;go_wp2;go_meet
      case rel => exact ⟨_,(true),rD,H',⟨by have := HJ6.out;have := HJ19.out;have := HJ46.out;have := HJ57.out;have := HJ69.out;have := HJ76.out;have := HJ85.out;first | omega | exact Nat.le_refl _⟩,⟨rN HO_584000⟩,⟨rN HO_584001⟩,⟨rN HO_596000⟩,⟨rN HO_596001⟩,⟨rN HO_604000⟩,⟨rN HO_604001⟩,⟨kN BK583⟩,⟨kN BK595⟩,⟨kN BK603⟩,⟨bN HB⟩⟩
    case rest =>
     clear HC98;clear c93b0 c93b1 hcz101_0 hcz101_1 hcz104_0 hcz104_1 hcz106_0 hcz106_1 hcz108_0 hcz108_1 hfz101_0 hfz101_1 hfz104_0 hfz104_1 hfz106_0 hfz106_1 hfz108_0 hfz108_1;go_step;rename_i z8_481;exact HS8 hu27 hnb25 hnc25 hnb32 hnc32 hnb33 hnc33 z8_481 hcut
   ·rw [if_neg c93] at H;have c93b0 := beq_eq_false_iff_ne.mpr c93;have c93b1 := bne_iff_ne.mpr c93
    by_cases c125 : t584 = true
    ·subst c125;rw [if_pos rfl] at H;obtain rfl := Option.some.inj H;go_wp2;go_ret;exact eR (bN HB)
    ·replace c125 := Bool.eq_false_iff.mpr c125;subst c125;rw [if_neg (show ¬ (false = true) by decide)] at H;obtain rfl := Option.some.inj H;go_wp2;go_ret;exact eR (bN HB)
set_option maxHeartbeats 8000000 in
set_option maxRecDepth 100000 in
theorem laws_FnAnswers.sec8 : laws_FnAnswers.S8 := by
 unfold laws_FnAnswers.S8;intros;rename_i r w hu27 t575 t578 t581 t582 t584 gb583 Ao10 co10 Ao12 co12 t588 t591 t596 t599 gb595 Ao24 co24 hnb25 hnc25 Ao27 co27 gb603 Ao31 co31 hnb32 hnc32 hnb33 hnc33 Ao35 co35 v623 v627 kj85 t632 t634 z8_480 z8_481 wc u255 hcut
 conv => arg 2;whnf
 conv at z8_481 => enter [a,w];arg 1;arg 2;whnf
 obtain ⟨kq,x255_97,rfl,HA,HJ97,HO_584000,HO_584001,HO_596000,HO_596001,HO_604000,HO_604001,BK583,BK595,BK603,HB⟩ := hcut
 cases kq with
 | zero => exact absurd HA.out (by simp [laws_FnAnswers.j7])
 | succ kj97 =>
  have H := HA.out;clear HA;simp only [laws_FnAnswers.j7] at H
  by_cases c115 : x255_97 = true
  ·subst c115;rw [if_pos rfl] at H;obtain rfl := Option.some.inj H;go_wp2;go_ret;exact eR (bN HB)
  ·replace c115 := Bool.eq_false_iff.mpr c115;subst c115;rw [if_neg (show ¬ (false = true) by decide)] at H
   by_cases c116 : t581 = true
   ·subst c116;rw [if_pos rfl] at H
    by_cases c117 : t584 = true
    ·subst c117;rw [if_pos rfl] at H
     by_cases c118 : (wrap64 ((wrap64 (t582 - 8)) - t634)) > (wrap64 (t582 + t634))
     ·rw [if_pos c118] at H;have c118b0 := decide_eq_true c118;clear c118;obtain rfl := Option.some.inj H;go_wp2;go_ret;exact eR (bN HB)
     ·rw [if_neg c118] at H;have c118b0 := decide_eq_false c118;clear c118;obtain rfl := Option.some.inj H;go_wp2;go_ret;exact eR (bN HB)
    ·replace c117 := Bool.eq_false_iff.mpr c117;subst c117;rw [if_neg (show ¬ (false = true) by decide)] at H
     by_cases c119 : (wrap64 (t582 + t634)) ≥ (wrap64 ((wrap64 (t582 - 8)) - t634))
     ·rw [if_pos c119] at H;have c119b0 := decide_eq_true c119;clear c119;obtain rfl := Option.some.inj H;go_wp2;go_ret;exact eR (bN HB)
     ·rw [if_neg c119] at H;have c119b0 := decide_eq_false c119;clear c119;obtain rfl := Option.some.inj H;go_wp2;go_ret;exact eR (bN HB)
   ·replace c116 := Bool.eq_false_iff.mpr c116;subst c116;rw [if_neg (show ¬ (false = true) by decide)] at H
    by_cases c120 : t584 = true
    ·subst c120;rw [if_pos rfl] at H
     by_cases c121 : t582 > 2
     ·rw [if_pos c121] at H;have c121b0 := decide_eq_true c121;clear c121
      by_cases c122 : (wrap64 ((wrap64 (t582 - 4)) - t634)) > (wrap64 (t582 + t634))
      ·rw [if_pos c122] at H;have c122b0 := decide_eq_true c122;clear c122;obtain rfl := Option.some.inj H;go_wp2;go_ret;exact eR (bN HB)
      ·rw [if_neg c122] at H;have c122b0 := decide_eq_false c122;clear c122;obtain rfl := Option.some.inj H;go_wp2;go_ret;exact eR (bN HB)
     ·rw [if_neg c121] at H;have c121b0 := decide_eq_false c121;clear c121;obtain rfl := Option.some.inj H;go_wp2;go_ret;exact eR (bN HB)
    ·replace c120 := Bool.eq_false_iff.mpr c120;subst c120;rw [if_neg (show ¬ (false = true) by decide)] at H
     by_cases c123 : t582 < 3
     ·rw [if_pos c123] at H;have c123b0 := decide_eq_true c123;clear c123;obtain rfl := Option.some.inj H;go_wp2;go_ret;exact eR (bN HB)
     ·rw [if_neg c123] at H;have c123b0 := decide_eq_false c123;clear c123
      by_cases c124 : (wrap64 (t582 + t634)) ≥ (wrap64 ((wrap64 (t582 - 4)) - t634))
      ·rw [if_pos c124] at H;have c124b0 := decide_eq_true c124;clear c124;obtain rfl := Option.some.inj H;go_wp2;go_ret;exact eR (bN HB)
      ·rw [if_neg c124] at H;have c124b0 := decide_eq_false c124;clear c124;obtain rfl := Option.some.inj H;go_wp2;go_ret;exact eR (bN HB)
set_option maxHeartbeats 8000000 in
set_option maxRecDepth 100000 in
theorem laws_FnAnswers.calls (k : Nat) (A0 : Option Addr) (c0 : Nat) (l0 : List Int) (r : Bool) (w : World) (hr0 : Kd.C (Kd.int .u8) w A0 l0.length l0) (hc0 : l0.length ≤ c0) (h : laws_FnAnswers.f k l0 = some r) :
 Calls Try.prog 13 #[.slice A0 l0.length c0] w fun e w' => e = .returned (.bool r) ∧ Below w.heap.size w w' :=
 laws_FnAnswers.sec0 (laws_FnAnswers.sec1 (laws_FnAnswers.sec2 (laws_FnAnswers.sec3 (laws_FnAnswers.sec4 (laws_FnAnswers.sec5 (laws_FnAnswers.sec6 (laws_FnAnswers.sec7 (laws_FnAnswers.sec8)))))))) k A0 c0 l0 r w hr0 hc0 h
theorem laws_FnAnswers.walk (P : laws_FnAnswers.Pure) (a0 : Option Addr) (len0 cap0 : Nat) (z0 : List Int) (w : World) (w0 : (a0 = none ∧ len0 = 0 ∧ cap0 = 0 ∧ z0 = []) ∨ ∃ x, a0 = some x ∧ len0 ≤ cap0 ∧ cap0 ≤ maxLen ∧ z0.length = cap0 ∧ (∀ i, i < z0.length → w.cell? (x.add i) = some (.int .u8 (z0.getD i 0))) ∧ ∀ n ∈ z0, (Lit.int .u8 n).wf = true) (y0 : len0 * 1 ≤ 140737488351232) :
 Calls Try.prog 13 #[.slice a0 len0 cap0] w fun e w' => e = .returned (.bool true) ∧ Below w.heap.size w w' := by
 obtain ⟨l0,rfl,hr0,hm0,hw0,hc0⟩ := ReadsInt.ofRowC w0;obtain ⟨k,h⟩ := P l0 hm0 y0 hw0;refine (laws_FnAnswers.calls k _ _ l0 true w (Kd.C_of_reads (d := (0 : Int)) (h1 := fun _ => rfl) hr0) hc0 h).mono ?_;rintro e w' ⟨rfl,hd⟩;exact ⟨rfl,hd⟩
theorem loopP_len {f : Int → List (List Int)} {K s : Int} {c : Nat} (hf : ∀ x, (f x).length ≤ c) : ∀ (d : Nat) (x : Int), (loopP f K s d x).length ≤ d * c
  | 0,x => by simp [loopP]
  | d + 1,x => by
    unfold loopP;have e : (d + 1) * c = d * c + c := Nat.succ_mul d c
    split
    · have h1 := loopP_len (K := K) (s := s) hf d (x + 1)
      have h2 := hf x;rw [List.length_append];omega
    · simp
theorem parts_le : ∀ (k : Nat) (low s : Int) (b : List Int), (parts k low s b).length ≤ 21 ^ k
  | 0,low,s,b => by unfold parts;split <;> simp
  | k + 1,low,s,b => by
    unfold parts;have h := loopP_len (K := (k : Int) + 1) (s := s) (fun x => parts_le k x (s - x) (b ++ [x])) 21 low;have e : 21 ^ (k + 1) = 21 * 21 ^ k := by rw [Nat.pow_succ,Nat.mul_comm]
    rw [e];exact h
theorem own_val (l : List Int) (h : l.length < 17592186044416) : spec_l01Own.f l = some l := by
  unfold spec_l01Own.f;rw [Option.bind_some,if_pos (by simpa using h),List.nil_append]
theorem lists_ev : ∀ (k : Nat) (b : List Int) (ki low s : Int), ki = (k : Int) → 1 ≤ low → low ≤ 22 → 0 ≤ s → s ≤ 20 → b.length + k ≤ 6 → Ev (fun q => spec_l04Lists.f q b ki low s) (parts k low s b)
  | 0,b,ki,low,s,hk,h1,h2,h3,h4,h6 => by
    have hk0 : ki = 0 := hk;unfold parts
    by_cases h : s = 0
    · rw [if_pos h]
      exact Ev.step (f := fun _ => some [b]) (fun q => by rw [spec_l04Lists.f,if_pos hk0,if_pos h]) (Ev.now _)
    · rw [if_neg h]
      exact Ev.step (f := fun _ => some []) (fun q => by rw [spec_l04Lists.f,if_pos hk0,if_neg h]) (Ev.now _)
  | k + 1,b,ki,low,s,hk,h1,h2,h3,h4,h6 => by
    have ihk := lists_ev k;obtain ⟨F,hF⟩ : ∃ F : Int → List (List Int),F = fun x => parts k x (s - x) (b ++ [x]) := ⟨_,rfl⟩
    have hp : parts (k + 1) low s b = loopP F ki s 21 low := by rw [hF,hk];rfl
    have hc : (21 : Nat) ^ k ≤ 21 ^ 5 := Nat.pow_le_pow_right (by decide) (by omega);have hc5 : (21 : Nat) ^ 5 = 4084101 := by decide
    have hFl : ∀ x,(F x).length ≤ 4084101 := fun x => by rw [hF];have := parts_le k x (s - x) (b ++ [x]);show (parts k x (s - x) (b ++ [x])).length ≤ _;omega
    have loop : ∀ (d : Nat) (x : Int) (acc : List (List Int)),1 ≤ x → 22 ≤ x + (d : Int) → x ≤ 22 → acc.length + d * 4084101 ≤ 1000000000 → Ev (fun q => spec_l04Lists.l0 q b ki s acc x) (acc ++ loopP F ki s d x) := by
      intro d
      induction d with
      | zero =>
        intro x acc hx1 hx2 hx3 ha;have h9 : x * ki ≤ 22 * 6 := Int.mul_le_mul hx3 (by omega) (by omega) (by omega);have h10 : x * 1 ≤ x * ki := Int.mul_le_mul_of_nonneg_left (by omega) (by omega);have hw : wrap64 (x * ki) = x * ki := by unfold wrap64;omega
        have hgt : ¬ x * ki ≤ s := by omega
        refine Ev.step (f := fun _ => some (acc ++ loopP F ki s 0 x)) (fun q => ?_) (Ev.now _);rw [spec_l04Lists.l0,hw,if_neg hgt]
        simp [loopP]
      | succ d ih =>
        intro x acc hx1 hx2 hx3 ha;have h9 : x * ki ≤ 22 * 6 := Int.mul_le_mul hx3 (by omega) (by omega) (by omega);have h10 : x * 1 ≤ x * ki := Int.mul_le_mul_of_nonneg_left (by omega) (by omega);have hw : wrap64 (x * ki) = x * ki := by unfold wrap64;omega
        by_cases c : x * ki ≤ s
        · have e1 : wrap64 (ki - 1) = (k : Int) := by unfold wrap64;omega
          have e2 : wrap64 (s - x) = s - x := by unfold wrap64;omega
          have e3 : wrap64 (x + 1) = x + 1 := by unfold wrap64;omega
          have hlp : loopP F ki s (d + 1) x = F x ++ loopP F ki s d (x + 1) := by rw [loopP,if_pos c]
          have hfx := hFl x;have hm : (d + 1) * 4084101 = d * 4084101 + 4084101 := Nat.succ_mul d _;have hl := ihk (b ++ [x]) (k : Int) x (s - x) rfl hx1 hx3 (by omega) (by omega) (by rw [List.length_append];simp;omega);have hn := ih (x + 1) (acc ++ F x) (by omega) (by omega) (by omega) (by rw [List.length_append];omega);rw [List.append_assoc] at hn;rw [hlp];have hb6 : b.length < 17592186044416 := by omega
          have hx20 : acc.length + (F x).length < 5864062014805 := by omega
          refine Ev.step (fun q => by rw [spec_l04Lists.l0,hw,if_pos c,own_val b hb6,Option.bind_some,if_pos hb6,e1,e2,e3]) (Ev.bind hl ?_);refine Ev.congr (fun q => ?_) hn;have efx : parts k x (s - x) (b ++ [x]) = F x := by rw [hF]
          rw [efx,if_pos hx20]
        · refine Ev.step (f := fun _ => some (acc ++ loopP F ki s (d + 1) x)) (fun q => ?_) (Ev.now _)
          rw [spec_l04Lists.l0,hw,if_neg c,loopP_stop c]
          simp
    rw [hp];have hl := loop 21 low [] h1 (by omega) h2 (by decide);rw [List.nil_append] at hl;refine Ev.step (fun q => ?_) hl;rw [spec_l04Lists.f,if_neg (by omega)]
theorem rd5 (xs : List (List Int)) (i : Nat) : rd_L5 xs (i : Int) = xs.getD i [] := by unfold rd_L5; rfl
theorem foldl_take_succ {L : List (List Int)} {i : Nat} {l : List Int} (h : L[i]? = some l) (z : List Int × Int) : (L.take (i + 1)).foldl stepP z = stepP ((L.take i).foldl stepP z) l := by
  rw [List.take_add_one,h,List.foldl_append];rfl
theorem best_loop (L : List (List Int)) (hL : ∀ l ∈ L, okC l ∧ l.length ≤ 8) (hne : L ≠ []) (hlen : L.length ≤ 1000000) : ∀ (d i : Nat) (bv at_ : Int), i + d = L.length → (i = 0 ∧ at_ = -1 ∨ ∃ a : Nat, at_ = (a : Int) ∧ a < i ∧ (L.take i).foldl stepP ([], -1000) = (L.getD a [], bv)) →
    Ev (fun q => spec_BestParts.l0 q L bv at_ (i : Int)) ((L.foldl stepP ([],-1000)).1,0)
  | 0,i,bv,at_,hd,hI => by
    have hpos := List.length_pos_iff.2 hne;rcases hI with ⟨h0,_⟩ | ⟨a,rfl,ha,hf⟩
    · omega
    · rw [List.take_of_length_le (by omega)] at hf
      rw [hf];have ha2 : a < L.length := by omega
      refine Ev.step (f := fun _ => some (L.getD a [],0)) (fun q => ?_) (Ev.now _);rw [spec_BestParts.l0,if_neg (by omega),if_pos (by omega),if_pos (by omega),rd5]
  | d + 1,i,bv,at_,hd,hI => by
    obtain ⟨l,hl⟩ := get_some (xs := L) (i := i) (by omega);have hm := hL l (List.mem_of_getElem? hl);have hv : spec_l04Value.f l [] = some (val l []) := fV_of hm.1 (fun x hx => by cases hx) (by simpa using hm.2);have hx : wrap64 ((i : Int) + 1) = ((i + 1 : Nat) : Int) := by rw [wrapS (by omega) (by omega)];rfl
    have hr : rd_L5 L (i : Int) = l := by rw [rd5,getD_of hl]
    have hgl : L.getD i [] = l := getD_of hl;have hlo := (val_le hm.1 (L := []) (fun x hx => by cases hx) l.length (by simp)).1;have hlow : -1000 < val l [] := by have := hm.2;omega
    have ft := foldl_take_succ hl ([],-1000);have c0 : (i : Int) < (L.length : Int) := by omega
    have c1 : (0 : Int) ≤ (i : Int) := by omega
    rcases hI with ⟨h0,rfl⟩ | ⟨a,rfl,ha,hf⟩
    · have hfold : (L.take (i + 1)).foldl stepP ([],-1000) = (L.getD i [],val l []) := by
        rw [ft,h0,List.take_zero,← h0,hgl];show stepP ([],-1000) l = _;unfold stepP;rw [if_pos hlow]
      have ih := best_loop L hL hne hlen d (i + 1) (val l []) (i : Int) (by omega) (.inr ⟨i,rfl,by omega,hfold⟩);refine Ev.step (fun q => ?_) ih;rw [spec_BestParts.l0,if_pos c0,if_pos c1,hr,hv,Option.bind_some,if_pos (by decide),hx]
    · by_cases hg : val l [] > bv
      · have hfold : (L.take (i + 1)).foldl stepP ([],-1000) = (L.getD i [],val l []) := by
          rw [ft,hf,hgl];unfold stepP;rw [if_pos hg]
        have ih := best_loop L hL hne hlen d (i + 1) (val l []) (i : Int) (by omega) (.inr ⟨i,rfl,by omega,hfold⟩);refine Ev.step (fun q => ?_) ih;rw [spec_BestParts.l0,if_pos c0,if_pos c1,hr,hv,Option.bind_some,if_neg (by omega),if_pos hg,hx]
      · have hfold : (L.take (i + 1)).foldl stepP ([],-1000) = (L.getD a [],bv) := by
          rw [ft,hf];unfold stepP;rw [if_neg hg]
        have ih := best_loop L hL hne hlen d (i + 1) bv (a : Int) (by omega) (.inr ⟨a,rfl,by omega,hfold⟩);refine Ev.step (fun q => ?_) ih;rw [spec_BestParts.l0,if_pos c0,if_pos c1,hr,hv,Option.bind_some,if_neg (by omega),if_neg hg,hx]
theorem in_is (a b c : Int) : spec_l01In.f a b c = some (decide (b ≤ a) && decide (a ≤ c)) := by
  unfold spec_l01In.f
  by_cases h : b ≤ a
  · rw [if_pos (show a ≥ b from h),decide_eq_true h,Bool.true_and]
  · rw [if_neg (show ¬ a ≥ b from h),decide_eq_false h,Bool.false_and]
theorem specParts_ev (n k : Int) : Ev (fun q => spec_BestParts.f q n k) (bestP n k) := by
  have bad : bestP n k = ([],2) → ∀ b,b = true → Ev (fun q => spec_BestParts.j0 q n k b) (bestP n k) := fun e b hb => by
    rw [e,hb];exact Ev.step (f := fun _ => some ([],2)) (fun q => by rw [spec_BestParts.j0,if_pos rfl]) (Ev.now _)
  unfold spec_BestParts.f
  by_cases c1 : 1 ≤ n ∧ n ≤ 20
  · have b1 : (decide (1 ≤ n) && decide (n ≤ 20)) = true := by rw [decide_eq_true c1.1,decide_eq_true c1.2];rfl
    by_cases c2 : 1 ≤ k ∧ k ≤ 6
    · have b2 : (decide (1 ≤ k) && decide (k ≤ 6)) = true := by rw [decide_eq_true c2.1,decide_eq_true c2.2];rfl
      refine Ev.congr (fun q => by rw [in_is,Option.bind_some,if_pos b1,in_is,Option.bind_some,if_pos b2]) ?_
      by_cases c3 : k ≤ n
      · have e : bestP n k = (((parts k.toNat 1 n []).foldl stepP ([],-1000)).1,0) := by unfold bestP;rw [if_pos ⟨c1,c2.1,c2.2,c3⟩]
        rw [e,decide_eq_false (show ¬ k > n by omega)];have hl := lists_ev k.toNat [] k 1 n (by omega) (by decide) (by decide) (by omega) c1.2 (by simp;omega);have hlen := parts_len ⟨n.toNat,by omega⟩ ⟨k.toNat,by omega⟩;have hsome := parts_some ⟨n.toNat,by omega⟩ ⟨k.toNat,by omega⟩ (by simp;omega) (by simp;omega);simp only at hlen hsome;rw [show ((n.toNat : Nat) : Int) = n by omega] at hlen hsome;have hok : ∀ l ∈ parts k.toNat 1 n [],okC l ∧ l.length ≤ 8 := fun l hm => by
          have h := parts_ok k.toNat 1 n [] (by decide) c1.2 (fun x hx => by cases hx) l hm;refine ⟨okC_20 h.2,?_⟩;have := h.1
          simp at this
          omega
        refine Ev.step (fun q => by rw [spec_BestParts.j0,if_neg (fun e => Bool.noConfusion e)]) (Ev.bind hl ?_);exact best_loop _ hok (List.length_pos_iff.1 hsome) (by omega) _ 0 0 (-1) (Nat.zero_add _) (.inl ⟨rfl,rfl⟩)
      · have e : bestP n k = ([],2) := by unfold bestP;rw [if_neg (fun q => c3 q.2.2.2)]
        rw [decide_eq_true (show k > n by omega)];exact bad e true rfl
    · have e : bestP n k = ([],2) := by unfold bestP;rw [if_neg (fun q => c2 ⟨q.2.1,q.2.2.1⟩)]
      have b2 : ¬ (decide (1 ≤ k) && decide (k ≤ 6)) = true := fun q => c2 (by simpa using q)
      exact Ev.congr (fun q => by rw [in_is,Option.bind_some,if_pos b1,in_is,Option.bind_some,if_neg b2]) (bad e true rfl)
  · have e : bestP n k = ([],2) := by unfold bestP;rw [if_neg (fun q => c1 q.1)]
    have b1 : ¬ (decide (1 ≤ n) && decide (n ≤ 20)) = true := fun q => c1 (by simpa using q)
    exact Ev.congr (fun q => by rw [in_is,Option.bind_some,if_neg b1]) (bad e true rfl)
theorem bestP_len (n k : Int) : (bestP n k).1.length ≤ 6 := by
  unfold bestP
  split
  · rename_i h
    have key : ∀ (L : List (List Int)) (z : List Int × Int),(∀ l ∈ L,l.length ≤ 6) → z.1.length ≤ 6 → (L.foldl stepP z).1.length ≤ 6 := by
      intro L
      induction L with
      | nil => intro z _ h;exact h
      | cons l t ih =>
        intro z hl hz;refine ih _ (fun x hx => hl x (List.mem_cons_of_mem _ hx)) ?_;unfold stepP
        split
        · exact hl l (by simp)
        · exact hz
    refine key _ _ (fun l hm => ?_) (by simp);have h1 := (parts_ok k.toNat 1 n [] (by decide) h.1.2 (fun x hx => by cases hx) l hm).1
    simp at h1
    omega
  · simp
theorem likeI_loop (xs : List Int) (hn : xs.length < 4611686018427387904) (d : Nat) : ∀ i : Nat, i + d = xs.length → Ev (fun k => laws_likeInts.l0 k xs xs (i : Int)) true := by
  induction d with
  | zero =>
    intro i hd;refine Ev.step (f := fun _ => some true) (fun k => ?_) (Ev.now true);simp only [laws_likeInts.l0];rw [if_neg (by omega)]
  | succ d ih =>
    intro i hd;refine Ev.step (fun k => ?_) (ih (i + 1) (by omega));simp only [laws_likeInts.l0];rw [if_pos (by omega),if_pos (by omega),if_pos (by omega),if_true,wrapS (by omega) (by omega),cast_succ]
theorem likeI_ev (xs : List Int) (hn : xs.length < 4611686018427387904) : Ev (fun k => laws_likeInts.f k xs xs) true := by
  refine Ev.congr (fun k => ?_) (likeI_loop xs hn xs.length 0 (by omega));unfold laws_likeInts.f;rw [if_pos rfl];rfl
theorem end9_ev (a b : List Int) (ha : a.length < 4611686018427387904) (hb : b.length < 4611686018427387904) : Ev (fun k => laws_ending9.f k a b a b) true := by
  unfold laws_ending9.f;refine Ev.bind (likeI_ev a ha) (Ev.congr (fun k => by rw [if_pos rfl]) (Ev.bind (likeI_ev b hb) (Ev.now _)))
theorem lsum_loop (xs : List Int) (hn : xs.length < 4611686018427387904) (d : Nat) : ∀ i : Nat, i + d = xs.length → Ev (fun k => laws_sum.l0 k xs ((xs.take i).foldl (fun a x => wrap64 (a + x)) 0) (i : Int)) (boxSum xs) := by
  induction d with
  | zero =>
    intro i hd;rw [List.take_of_length_le (by omega)];refine Ev.step (f := fun _ => some (boxSum xs)) (fun k => ?_) (Ev.now _);simp only [laws_sum.l0];rw [if_neg (by omega)];rfl
  | succ d ih =>
    intro i hd;obtain ⟨x,hx⟩ := get_some (xs := xs) (i := i) (by omega);refine Ev.step (fun k => ?_) (ih (i + 1) (by omega));simp only [laws_sum.l0];rw [if_pos (by omega),if_pos (by omega),wrapS (i := (i : Int) + 1) (by omega) (by omega),cast_succ,rd_nat,getD_of hx,take_foldl hx]
theorem lsum_ev (xs : List Int) (hn : xs.length < 4611686018427387904) : Ev (fun k => laws_sum.f k xs) (boxSum xs) := lsum_loop xs hn xs.length 0 (by omega)
theorem boxSum_go : ∀ (l : List Int) (a : Int), (∀ x ∈ l, 0 ≤ x ∧ x ≤ 30) → 0 ≤ a → a + 30 * (l.length : Int) ≤ 1000000 → l.foldl (fun a x => wrap64 (a + x)) a = a + l.sum
  | [],a,_,_,_ => by simp
  | x :: t,a,h,h0,h1 => by
    have hx := h x (List.mem_cons_self ..);rw [List.length_cons] at h1;rw [List.foldl_cons,wrapS (by omega) (by omega),boxSum_go t (a + x) (fun y hy => h y (List.mem_cons_of_mem _ hy)) (by omega) (by omega),List.sum_cons];omega
theorem boxSum_eq {l : List Int} (h : ∀ x ∈ l, 0 ≤ x ∧ x ≤ 30) (hl : l.length ≤ 1000) : boxSum l = l.sum := by
  unfold boxSum;rw [boxSum_go l 0 h (by omega) (by omega)];omega
theorem sum_le : ∀ {l : List Int}, (∀ x ∈ l, 0 ≤ x ∧ x ≤ 30) → 0 ≤ l.sum ∧ l.sum ≤ 30 * (l.length : Int)
  | [],_ => by simp
  | x :: t,h => by
    have hx := h x (List.mem_cons_self ..);have ih := sum_le (l := t) (fun y hy => h y (List.mem_cons_of_mem _ hy));rw [List.sum_cons,List.length_cons];omega
theorem sum_erase' : ∀ {l : List Int} {x : Int}, x ∈ l → (l.erase x).sum + x = l.sum
  | [],x,h => by cases h
  | y :: t,x,h => by
    by_cases c : y = x
    · subst c
      rw [List.erase_cons_head,List.sum_cons];omega
    · rcases List.mem_cons.1 h with e | h
      · exact absurd e.symm c
      · rw [List.erase_cons_tail (by simpa using c),List.sum_cons,List.sum_cons]
        have := sum_erase' h;omega
theorem asc_low {lo p y : Int} : ∀ {t : List Int}, p ≤ y → ascFrom lo y t = true → ascFrom lo p t = true
  | [],_,_ => rfl
  | z :: u,h,ht => by
    unfold ascFrom at ht ⊢;simp only [Bool.and_eq_true,decide_eq_true_eq] at ht ⊢;exact ⟨⟨ht.1.1,by omega⟩,ht.2⟩
theorem asc_erase {lo : Int} (x : Int) : ∀ (l : List Int) (p : Int), ascFrom lo p l = true → ascFrom lo p (l.erase x) = true
  | [],p,h => h
  | y :: t,p,h => by
    unfold ascFrom at h;simp only [Bool.and_eq_true,decide_eq_true_eq] at h
    by_cases c : y = x
    · subst c
      rw [List.erase_cons_head];exact asc_low h.1.2 h.2
    · rw [List.erase_cons_tail (by simpa using c)]
      unfold ascFrom;simp only [Bool.and_eq_true,decide_eq_true_eq];exact ⟨h.1,asc_erase x t y h.2⟩
theorem isEnd_less {a b : List Int} {o : Bool × Int} (h : isEnd a b = true) (ho : o ∈ opens a b) : isEnd (lessC a o) (lessL b o) = true := by
  have hl := less_len ho;unfold isEnd at h ⊢;simp only [Bool.and_eq_true,decide_eq_true_eq] at h ⊢;refine ⟨⟨by omega,?_⟩,?_⟩
  · unfold lessC
    split
    · exact h.1.2
    · exact asc_erase _ _ _ h.1.2
  · unfold lessL
    split
    · exact asc_erase _ _ _ h.2
    · exact h.2
theorem boxes_less {a b : List Int} {o : Bool × Int} (h : isEnd a b = true) (ho : o ∈ opens a b) : boxesOf a b = (wrap64 ((boxesOf (lessC a o) (lessL b o)).1 + o.2), 0) ∧ (boxesOf (lessC a o) (lessL b o)).2 = 0 := by
  obtain ⟨hC,hL,h8⟩ := isEnd_ok h;have h' := isEnd_less h ho;have hl := less_len ho;have c1 : ∀ x ∈ a,0 ≤ x ∧ x ≤ 30 := fun x hx => by have := hC x hx;omega
  have c2 : ∀ x ∈ b,0 ≤ x ∧ x ≤ 30 := fun x hx => by have := hL x hx;omega
  have c3 : ∀ x ∈ lessC a o,0 ≤ x ∧ x ≤ 30 := fun x hx => c1 x (lessC_mem hx)
  have c4 : ∀ x ∈ lessL b o,0 ≤ x ∧ x ≤ 30 := fun x hx => c2 x (lessL_mem hx)
  have s1 := sum_le c1;have s2 := sum_le c2;have s3 := sum_le c3;have s4 := sum_le c4;have e : (lessC a o).sum + (lessL b o).sum + o.2 = a.sum + b.sum := by
    rw [opens_mem] at ho;unfold lessC lessL
    by_cases c : o.1 = true
    · rw [if_pos c] at ho
      rw [if_pos c,if_pos c];have := sum_erase' ho;omega
    · rw [if_neg c] at ho
      rw [if_neg c,if_neg c];have := sum_erase' ho;omega
  unfold boxesOf;rw [if_pos h,if_pos h',boxSum_eq c1 (by omega),boxSum_eq c2 (by omega),boxSum_eq c3 (by omega),boxSum_eq c4 (by omega)];refine ⟨?_,rfl⟩;rw [wrapS (by omega) (by omega)];show _ = (wrap64 (wrap64 _ + _),(0 : Int));rw [wrapS (i := (lessC a o).sum + (lessL b o).sum) (by omega) (by omega),e,wrapS (by omega) (by omega)]
theorem loopP_mem {f : Int → List (List Int)} {K s : Int} {l : List Int} : ∀ (d : Nat) (x : Int), l ∈ loopP f K s d x → ∃ y, l ∈ f y
  | 0,x,h => by cases h
  | d + 1,x,h => by
    unfold loopP at h
    split at h
    · rcases List.mem_append.1 h with h | h
      · exact ⟨x,h⟩
      · exact loopP_mem d (x + 1) h
    · cases h
theorem parts_sum : ∀ (k : Nat) (low s : Int) (b : List Int), ∀ l ∈ parts k low s b, l.sum = b.sum + s
  | 0,low,s,b,l,hl => by
    unfold parts at hl
    split at hl
    · rename_i h0
      rw [List.mem_singleton.1 hl,h0];omega
    · cases hl
  | k + 1,low,s,b,l,hl => by
    unfold parts at hl;obtain ⟨y,hy⟩ := loopP_mem _ _ hl;have h := parts_sum k y (s - y) (b ++ [y]) l hy;rw [h,List.sum_append]
    simp
    omega
theorem stepP_mem : ∀ (L : List (List Int)) (z : List Int × Int), (L.foldl stepP z).1 = z.1 ∨ (L.foldl stepP z).1 ∈ L
  | [],z => Or.inl rfl
  | l :: t,z => by
    rw [List.foldl_cons];rcases stepP_mem t (stepP z l) with h | h
    · rw [h]
      unfold stepP
      split
      · exact Or.inr (List.mem_cons_self ..)
      · exact Or.inl rfl
    · exact Or.inr (List.mem_cons_of_mem _ h)
theorem bestP_in (n k : Int) (h : (bestP n k).2 = 0) : boxSum (bestP n k).1 = n ∧ ((bestP n k).1.length : Int) = k := by
  unfold bestP at h ⊢
  by_cases c : (1 ≤ n ∧ n ≤ 20) ∧ (1 ≤ k ∧ k ≤ 6 ∧ k ≤ n)
  · rw [if_pos c]
    have hne := parts_some ⟨n.toNat,by omega⟩ ⟨k.toNat,by omega⟩ (by show 1 ≤ k.toNat;omega) (by show k.toNat ≤ n.toNat;omega);have hn : ((n.toNat : Nat) : Int) = n := by omega
    simp only [hn] at hne;have key : ∀ L : List (List Int),(∀ l ∈ L,l ∈ parts k.toNat 1 n []) → 0 < L.length → (L.foldl stepP ([],-1000)).1 ∈ parts k.toNat 1 n [] := by
      intro L hL hp
      cases L with
      | nil => simp at hp
      | cons l t =>
        have ok := parts_ok k.toNat 1 n [] (by omega) (by omega) (fun x hx => by cases hx) l (hL l (List.mem_cons_self ..));have hv := (val_le (C := l) (L := []) (okC_20 ok.2) (fun x hx => by cases hx) (l.length) (by simp)).1;have hk6 : l.length ≤ 6 := by rw [ok.1];simp;omega
        rw [List.foldl_cons];have e : stepP ([],-1000) l = (l,val l []) := by
          unfold stepP;rw [if_pos (show (-1000 : Int) < val l [] by omega)]
        rw [e];rcases stepP_mem t (l,val l []) with h | h
        · rw [h];exact hL l (List.mem_cons_self ..)
        · exact hL _ (List.mem_cons_of_mem _ h)
    have hm := key _ (fun l h => h) hne
    generalize ((parts k.toNat 1 n []).foldl stepP ([],-1000)).1 = l at hm ⊢
    have ok := parts_ok k.toNat 1 n [] (by omega) (by omega) (fun x hx => by cases hx) l hm;have hs := parts_sum k.toNat 1 n [] l hm;have hlen : l.length = k.toNat := by rw [ok.1];simp
    refine ⟨?_,by show (l.length : Int) = k;omega⟩;show boxSum l = n;rw [boxSum_eq (fun x hx => by have := ok.2 x hx;omega) (by omega),hs]
    simp
  · rw [if_neg c] at h
    exact absurd h (by decide)
theorem worth_val {a b : List Int} {o : Bool × Int} (ho : o ∈ opens a b) : (worth a b o).1 ≤ val a b := by
  have hne : ¬ (a = [] ∧ b = []) := fun e => by rw [opens_nil.2 e] at ho;cases ho
  rw [val_eq hne];exact foldl_max_mem _ _ _ (List.mem_map.2 ⟨o,ho,rfl⟩)
theorem turns_ok (a b c : Int) : ∃ r, impl_TurnsOf.f a b c = some r ∧ spec_TurnsOf.f a b c = some r := by
  have e : impl_TurnsOf.f a b c = spec_TurnsOf.f a b c := by
    unfold impl_TurnsOf.f spec_TurnsOf.f;simp only [within_is,in_is]
  rw [e];unfold spec_TurnsOf.f;simp only [in_is,Option.bind_some]
  split
  · split
    · split
      · exact ⟨_,rfl,rfl⟩
      · exact ⟨_,rfl,rfl⟩
    · exact ⟨_,rfl,rfl⟩
  · exact ⟨_,rfl,rfl⟩
theorem implEnd_ev (a b : List Int) (ha : a.length ≤ 1048576) (hb : b.length ≤ 1048576) : Ev (fun k => impl_EndingValue.f k a b) (endVal a b) :=
  Ev.congr (f := fun _ => some (endVal a b)) (fun k => if_pos ⟨ha,hb⟩) (Ev.now _)
theorem implParts_ev (n k : Int) : Ev (fun q => impl_BestParts.f q n k) (bestP n k) := Ev.now _
theorem specBestAnswer_ev (a b : List Int) (o : Bool × Int) (ha : a.length ≤ 1048576) (hb : b.length ≤ 1048576) : Ev (fun k => spec_BestAnswer.f k a b o.1 o.2) (ansVal a b o) := by
  unfold spec_BestAnswer.f ansVal;refine Ev.bind (l04Is_ev a b ha hb) ?_
  cases hE : isEnd a b with
  | false => exact Ev.congr (f := fun _ => some (false,1)) (fun k => rfl) (Ev.now _)
  | true =>
    obtain ⟨hC,hL,h8⟩ := isEnd_ok hE;rw [if_pos rfl];refine Ev.congr (fun k => by rw [if_pos rfl]) (Ev.bind (withoutR_ev a b o (by omega) (by omega)) ?_)
    cases hI : isIn a b o with
    | false => exact Ev.congr (f := fun _ => some (false,5)) (fun k => rfl) (Ev.now _)
    | true =>
      have ho := isIn_opens.1 hI;have hl := less_len ho;refine Ev.congr (f := fun _ => some ((worth a b o).2,0)) (fun k => ?_) (Ev.now _);rw [if_pos (show (lessC a o,lessL b o,true).2.2 = true from rfl)];unfold spec_l04Value.f;show (fV 8 (lessC a o) (lessL b o)).bind _ = _;rw [fV_of (less_okC hC) (less_okL hL) (by omega),Option.bind_some,answerR_eq o _ (opens_size hC hL ho) (rest_le hC hL h8 ho)]
      rfl
theorem implBestAnswer_ev (a b : List Int) (o : Bool × Int) (h : (a.length : Int) + (b.length : Int) ≤ 1048576) : Ev (fun k => impl_BestAnswer.f k a b o.1 o.2) (ansVal a b o) :=
  Ev.congr (f := fun _ => some (ansVal a b o)) (fun k => if_pos ⟨by omega,by omega,by omega⟩) (Ev.now _)
end Go.Proofs.Ytkbjoiebaphdoaa.PA
