/- Part 2 of the texts under the row of FnAnswers (no condition). -/
import Derived.Test.YtkbjoiebaphdoaaProg
import Derived.Below
import Derived.Deep.Draws
import Derived.Deep.AppendLies
import Derived.Maps.AppendAt
import Derived.OwnWalk
import Derived.Laws.BytesArg
import Derived.Laws.MakeOwn
import Derived.Laws.OwnMore
import Derived.Deep.OwnRows
import Derived.Tactics
import Derived.Lib.ConvBytes
import Derived.Laws.Slices
import Derived.WalkKit
import Derived.KernelRfl
import Derived.RowKit3
import Derived.Deep.LoopGhost
import Derived.Deep.QuietTactic
import Derived.BigQuiet
import Derived.WideLaws
import Derived.Deep.DeepCutAuto
import Derived.Deep.CutBlock
import Derived.Deep.RegionHeld3
import Derived.Laws.Rows
import Derived.Lib.AppendStr
import Derived.ArgAppend
import Derived.Laws.IdiomCopy
import Derived.OrdersHeld
import Derived.Laws.BitsLemmas
import Derived.RowKit
import Derived.Test.YtkbjoiebaphdoaaPk1FnAnswers
namespace Go.Proofs.Ytkbjoiebaphdoaa.PA
open Go.RowKit Go.Proofs.YtkbjoiebaphdoaaW.PrintWords Go.Proofs.YtkbjoiebaphdoaaW.PrintLast Go.Proofs.YtkbjoiebaphdoaaW.PrintMore
attribute [local go_sem] max2_int min2_int max_two min_two max_three min_three max_four min_four
set_option linter.unusedVariables false
set_option linter.unusedSimpArgs false
def errW : Option Int → Value
  | none => .nilIface
  | some c => .iface 0 (.int .i64 c)
theorem errW_none : errW none = .nilIface := rfl
theorem errW_some (c : Int) : errW (some c) = .iface 0 (.int .i64 c) := rfl
theorem info2 : (Try.prog.info? 2).map (fun i => (i.zero, i.size, i.bytes)) = some (some (.int .i64 0), 1, 8) := by kernel_rfl
theorem info5 : (Try.prog.info? 5).map (fun i => (i.zero, i.size, i.bytes)) = some (some (.int .u8 0), 1, 1) := by kernel_rfl
theorem info22 : (Try.prog.info? 22).map (fun i => (i.zero, i.size, i.bytes)) = some (some (.slice none 0 0), 1, 24) := by kernel_rfl
theorem info75 : (Try.prog.info? 75).map (fun i => (i.zero, i.size, i.bytes)) = some (some (.agg #[(.bool false), (.int .i64 0)]), 2, 16) := by kernel_rfl
theorem info86 : (Try.prog.info? 86).map (fun i => (i.zero, i.size, i.bytes)) = some (some (.agg #[(.bool false), (.int .i64 0)]), 2, 16) := by kernel_rfl
-- the values' own types
/-! #### struct type 75 -/
structure S75 where
  f0 : Bool
  f1 : Int
def z75 : S75 := ⟨false, (0 : Int)⟩
def k75 : Kd S75 := Kd.iso (Kd.pair Kd.bool (Kd.int .i64)) (fun x : S75 => (x.f0, x.f1))
theorem k75_open {w : World} {x : S75} {cs : List Value} (h : k75.K w x cs) : cs = [.bool x.f0, .int .i64 x.f1] := by
  obtain ⟨_,_,rfl,rfl,rfl⟩ := h;exact rfl
theorem k75_openM {w : World} {base : Nat} {ok : Nat → Prop} {x : S75} {cs : List Value} (h : k75.M w base ok x cs) : cs = [.bool x.f0, .int .i64 x.f1] := by
  obtain ⟨_,_,rfl,rfl,rfl⟩ := h;exact rfl
theorem k75_mk (w : World) (x : S75)  : k75.K w x [.bool x.f0, .int .i64 x.f1] := ⟨[.bool x.f0], [.int .i64 x.f1], rfl, rfl, rfl⟩
theorem k75_mkM (w : World) (base : Nat) (ok : Nat → Prop) (x : S75)  : k75.M w base ok x [.bool x.f0, .int .i64 x.f1] := ⟨[.bool x.f0], [.int .i64 x.f1], rfl, rfl, rfl⟩
theorem k75_mkF (W : World) (ok : Nat → Prop) (x : S75) : Kd.FK k75 W ok x [.bool x.f0, .int .i64 x.f1] := fun W2 _ => k75_mk W2 x
def rd_T75 (xs : List S75) (i : Int) : S75 := xs.getD i.toNat z75
theorem at_T75 {w : World} {A : Option Addr} {n : Nat} {xs : List S75} (h : Kd.C k75 w A n xs) (i : Int) (h0 : 0 ≤ i) (h1 : i < n) : ∃ ad , A = some ad ∧ w.cell? (ad.add (i.toNat * 2)) = some (.bool (rd_T75 xs i).f0) ∧ w.cell? ⟨(ad.add (i.toNat * 2)).block, (ad.add (i.toNat * 2)).off + 1, none⟩ = some (.int .i64 (rd_T75 xs i).f1) := by
  obtain ⟨ad,c,e,_,hK,hc0⟩ := Kd.C_get h z75 i h0 h1;have hc : ∀ j u,c[j]? = some u → w.cell? (ad.add (i.toNat * 2 + j)) = some u := hc0;obtain rfl := k75_open hK;exact ⟨ad,e,hc 0 _ rfl,by rw [← add_field _ _ 1 (by omega)];exact hc 1 _ rfl⟩
/-! #### struct type 86 -/
structure S86 where
  f0 : Bool
  f1 : Int
def z86 : S86 := ⟨false, (0 : Int)⟩
def k86 : Kd S86 := Kd.iso (Kd.pair Kd.bool (Kd.int .i64)) (fun x : S86 => (x.f0, x.f1))
theorem k86_open {w : World} {x : S86} {cs : List Value} (h : k86.K w x cs) : cs = [.bool x.f0, .int .i64 x.f1] := by
  obtain ⟨_,_,rfl,rfl,rfl⟩ := h;exact rfl
theorem k86_openM {w : World} {base : Nat} {ok : Nat → Prop} {x : S86} {cs : List Value} (h : k86.M w base ok x cs) : cs = [.bool x.f0, .int .i64 x.f1] := by
  obtain ⟨_,_,rfl,rfl,rfl⟩ := h;exact rfl
theorem k86_mk (w : World) (x : S86)  : k86.K w x [.bool x.f0, .int .i64 x.f1] := ⟨[.bool x.f0], [.int .i64 x.f1], rfl, rfl, rfl⟩
theorem k86_mkM (w : World) (base : Nat) (ok : Nat → Prop) (x : S86)  : k86.M w base ok x [.bool x.f0, .int .i64 x.f1] := ⟨[.bool x.f0], [.int .i64 x.f1], rfl, rfl, rfl⟩
theorem k86_mkF (W : World) (ok : Nat → Prop) (x : S86) : Kd.FK k86 W ok x [.bool x.f0, .int .i64 x.f1] := fun W2 _ => k86_mk W2 x
def rd_T86 (xs : List S86) (i : Int) : S86 := xs.getD i.toNat z86
theorem at_T86 {w : World} {A : Option Addr} {n : Nat} {xs : List S86} (h : Kd.C k86 w A n xs) (i : Int) (h0 : 0 ≤ i) (h1 : i < n) : ∃ ad , A = some ad ∧ w.cell? (ad.add (i.toNat * 2)) = some (.bool (rd_T86 xs i).f0) ∧ w.cell? ⟨(ad.add (i.toNat * 2)).block, (ad.add (i.toNat * 2)).off + 1, none⟩ = some (.int .i64 (rd_T86 xs i).f1) := by
  obtain ⟨ad,c,e,_,hK,hc0⟩ := Kd.C_get h z86 i h0 h1;have hc : ∀ j u,c[j]? = some u → w.cell? (ad.add (i.toNat * 2 + j)) = some u := hc0;obtain rfl := k86_open hK;exact ⟨ad,e,hc 0 _ rfl,by rw [← add_field _ _ 1 (by omega)];exact hc 1 _ rfl⟩
def rd_L5 (xs : List (List Int)) (i : Int) : (List Int) := xs.getD i.toNat ([] : List Int)
theorem at_L5 {w : World} {A : Option Addr} {n : Nat} {xs : List (List Int)} (h : Kd.C (Kd.slice 2 (Kd.int .i64)) w A n xs) (i : Int) (h0 : 0 ≤ i) (h1 : i < n) : ∃ ad A0 c0, A = some ad ∧ w.cell? (ad.add i.toNat) = some (.slice A0 (rd_L5 xs i).length c0) ∧ (rd_L5 xs i).length ≤ c0 ∧ (Kd.int .i64).C w A0 (rd_L5 xs i).length (rd_L5 xs i) := by
  obtain ⟨ad,c,e,_,hK,hc0⟩ := Kd.C_get h ([] : List Int) i h0 h1;have hc : ∀ j u,c[j]? = some u → w.cell? (ad.add (i.toNat * 1 + j)) = some u := hc0;obtain ⟨A0,c0,rfl,l0,g0⟩ := hK;exact ⟨ad,A0,c0,e,by have hq := hc 0 _ rfl;rwa [Nat.mul_one,Nat.add_zero] at hq,l0,g0⟩
section
variable {α : Type} {d : Kd α} {e base : Nat} {ok : Nat → Prop} {w0 w w1 : World} {v : Value} {xs : List α} {g : Nat} {o : Obj} {B : Nat} {wa wb : World}
theorem rM (h : d.R e w0 base ok v xs) (hx : d.R e w0 base ok v xs → d.R e w base ok v xs := by intro h_; (with_reducible repeat (first | apply Kd.R_alloc | apply Kd.R_drewN | apply Kd.R_drew)); exact h_) : d.R e w base ok v xs := hx h
theorem rN (h : Aside0 (d.R e w0 base ok v xs)) (hx : d.R e w0 base ok v xs → d.R e w base ok v xs := by intro h_; (with_reducible repeat (first | apply Kd.R_alloc | apply Kd.R_drewN | apply Kd.R_drew)); exact h_) : d.R e w base ok v xs := hx h.out
theorem sM (h : Kd.S d e w0 base ok v xs) (hx : Kd.S d e w0 base ok v xs → Kd.S d e w base ok v xs := by intro h_; (with_reducible repeat (first | apply Kd.S_alloc | apply Kd.S_drewN | apply Kd.S_drew)); exact h_) : Kd.S d e w base ok v xs := hx h
theorem sN (h : Aside0 (Kd.S d e w0 base ok v xs)) (hx : Kd.S d e w0 base ok v xs → Kd.S d e w base ok v xs := by intro h_; (with_reducible repeat (first | apply Kd.S_alloc | apply Kd.S_drewN | apply Kd.S_drew)); exact h_) : Kd.S d e w base ok v xs := hx h.out
theorem vM (h : Kd.V d e w0 base ok v xs) (hx : Kd.V d e w0 base ok v xs → Kd.V d e w base ok v xs := by intro h_; (with_reducible repeat (first | apply Kd.V_alloc | apply Kd.V_drewN | apply Kd.V_drew)); exact h_) : Kd.V d e w base ok v xs := hx h
theorem vN (h : Aside0 (Kd.V d e w0 base ok v xs)) (hx : Kd.V d e w0 base ok v xs → Kd.V d e w base ok v xs := by intro h_; (with_reducible repeat (first | apply Kd.V_alloc | apply Kd.V_drewN | apply Kd.V_drew)); exact h_) : Kd.V d e w base ok v xs := hx h.out
theorem nM (h : Kd.N d e w0 base ok v xs) (hx : Kd.N d e w0 base ok v xs → Kd.N d e w base ok v xs := by intro h_; (with_reducible repeat (first | apply Kd.N_alloc | apply Kd.N_drewN | apply Kd.N_drew)); exact h_) : Kd.N d e w base ok v xs := hx h
theorem nN (h : Aside0 (Kd.N d e w0 base ok v xs)) (hx : Kd.N d e w0 base ok v xs → Kd.N d e w base ok v xs := by intro h_; (with_reducible repeat (first | apply Kd.N_alloc | apply Kd.N_drewN | apply Kd.N_drew)); exact h_) : Kd.N d e w base ok v xs := hx h.out
theorem bN (h : Aside0 (Below B wa wb)) (hx : Below B wa wb → Below B wa w := by intro h_; repeat (first | (with_reducible first | exact h_ | apply below_alloc | apply pw_below_drewN | apply below_drew1) | (refine below_set ?_ (Aside0.out (by assumption))) | exact h_)) : Below B wa w := hx h.out
theorem kM (h : w0.heap[g]? = some o) (hx : w0.heap[g]? = some o → w.heap[g]? = some o := by intro h_; (with_reducible repeat (first | refine blk_drewN ?_ _ | refine blk_drew ?_ | refine blk_alloc ?_ _)); exact h_) : w.heap[g]? = some o := hx h
theorem kN (h : Aside0 (w0.heap[g]? = some o)) (hx : w0.heap[g]? = some o → w.heap[g]? = some o := by intro h_; (with_reducible repeat (first | refine blk_drewN ?_ _ | refine blk_drew ?_ | refine blk_alloc ?_ _)); exact h_) : w.heap[g]? = some o := hx h.out
theorem rB (h : Aside0 (d.R e w0 base ok v xs)) (hb : Below w.heap.size w w1) (hx : d.R e w0 base ok v xs → d.R e w base ok v xs := by intro h_; (with_reducible repeat (first | apply Kd.R_alloc | apply Kd.R_drewN | apply Kd.R_drew)); exact h_) : Aside0 (d.R e w1 base ok v xs) := ⟨Kd.R_below (hx h.out) hb⟩
theorem sB (h : Aside0 (Kd.S d e w0 base ok v xs)) (hb : Below w.heap.size w w1) (hx : Kd.S d e w0 base ok v xs → Kd.S d e w base ok v xs := by intro h_; (with_reducible repeat (first | apply Kd.S_alloc | apply Kd.S_drewN | apply Kd.S_drew)); exact h_) : Aside0 (Kd.S d e w1 base ok v xs) := ⟨Kd.S_below (hx h.out) hb⟩
theorem vB (h : Aside0 (Kd.V d e w0 base ok v xs)) (hb : Below w.heap.size w w1) (hx : Kd.V d e w0 base ok v xs → Kd.V d e w base ok v xs := by intro h_; (with_reducible repeat (first | apply Kd.V_alloc | apply Kd.V_drewN | apply Kd.V_drew)); exact h_) : Aside0 (Kd.V d e w1 base ok v xs) := ⟨Kd.V_below (hx h.out) hb⟩
theorem kB (h : Aside0 (w0.heap[g]? = some o)) (hb : Below w.heap.size w w1) (hx : w0.heap[g]? = some o → w.heap[g]? = some o := by intro h_; (with_reducible repeat (first | refine blk_drewN ?_ _ | refine blk_drew ?_ | refine blk_alloc ?_ _)); exact h_) : Aside0 (w1.heap[g]? = some o) := ⟨blk_below (hx h.out) hb⟩
theorem hB (h : Aside0 (Below wa.heap.size wa wb)) (hb : Below w.heap.size w w1) (hx : Below wa.heap.size wa wb → Below wa.heap.size wa w := by intro h_; repeat (first | (with_reducible first | exact h_ | apply below_alloc | apply pw_below_drewN | apply below_drew1) | (refine below_set ?_ (Aside0.out (by assumption))) | exact h_)) : Aside0 (Below wa.heap.size wa w1) := ⟨below_step (hx h.out) hb⟩
end
section
variable {α : Type} {d : Kd α} {w0 w1 w : World} {A : Option Addr} {n c : Nat} {xs : List α} {e base : Nat} {ok : Nat → Prop} {g : Nat} {a b : Value} {t : TypeId}
theorem cM (h : d.C w0 A n xs) (hx : d.C w0 A n xs → d.C w A n xs := by intro h_; repeat (first | exact h_ | (with_reducible refine Kd.C_alloc ?_ _) | (with_reducible refine Kd.C_drewN ?_ _) | (with_reducible refine Kd.C_drew ?_))) : d.C w A n xs := hx h
theorem cB (h : Aside0 (d.C w0 A n xs)) (hb : Aside0 (Below w0.heap.size w0 w1)) (hx : d.C w1 A n xs → d.C w A n xs := by intro h_; repeat (first | exact h_ | (with_reducible refine Kd.C_alloc ?_ _) | (with_reducible refine Kd.C_drewN ?_ _) | (with_reducible refine Kd.C_drew ?_))) : d.C w A n xs := hx (Kd.C_below h.out hb.out)
theorem cR (h : Aside0 (d.R e w0 base ok (.slice A n c) xs)) (hx : d.C w0 A xs.length xs → d.C w A xs.length xs := by intro h_; repeat (first | exact h_ | (with_reducible refine Kd.C_alloc ?_ _) | (with_reducible refine Kd.C_drewN ?_ _) | (with_reducible refine Kd.C_drew ?_))) : d.C w A xs.length xs := hx (Kd.R_reads' h.out).2.2
theorem z0 (h : Aside0 (w.heap[g]? = some (.cells #[a] t (0, 0)))) : w.cell? ⟨g, 0, none⟩ = some a := (blk_cell h.out 0).trans rfl
theorem y0 (h : Aside0 (w.heap[g]? = some (.cells #[a, b] t (0, 0)))) : w.cell? ⟨g, 0, none⟩ = some a := (blk_cell h.out 0).trans rfl
theorem y1 (h : Aside0 (w.heap[g]? = some (.cells #[a, b] t (0, 0)))) : w.cell? ⟨g, 1, none⟩ = some b := (blk_cell h.out 1).trans rfl
end
section
variable {P : Program} {ops : Array Oper} {rest : List Oper} {o : Oper} {a : Act} {Q : Exit → Act → World → Prop} {W : World}
theorem boxE (N : Tmp) (cs : Array Value) (t : TypeId)
    (h : ∀ g, g = W.heap.size → ∀ w1, w1.heap[g]? = some (.cells cs t (0, 0)) → Below W.heap.size W w1 → wpList P ops Q rest (a.put o.dst (.pointer (some ⟨g, 0, none⟩))) w1) (hd : o.dst = some N := by exact rfl) (hgd : o.guard = none := by exact rfl)
    (hrun : (execOp a.eval o).run P W = .ok (.value (.pointer (some ⟨W.heap.size, 0, none⟩))) (W.alloc (.cells cs t (0, 0))) := by first | (go_simp; done) | (go_simp; rfl)) : wpList P ops Q (o :: rest) a W := box_event hgd hd hrun h
theorem goesE (N : Option Tmp) {f : FuncId} {fn : Func} {xs_ : Array Operand} {ts : Array TypeId} (hf : P.funcs[f]? = some fn) (args : Array Value) (h : Calls P f args W fun e w' => ∃ v, e = .returned v ∧ wpList P ops Q rest (a.put N v) w')
    (hd : o.dst = N := by exact rfl) (hg : o.guard = none := by exact rfl) (hname : (fn.name == "runtime.NumGoroutine") = false := by kernel_rfl) (hb : fn.body.isSome = true := by exact rfl)
    (hop : o.op = .call { callee := .value (.func f), args := xs_, argTypes := ts } := by exact rfl) (hargs : xs_.map a.eval = args := by (try simp only [List.map_toArray, List.map_cons, List.map_nil]); first | done | rfl | (simp only [List.length_drop, List.length_take]; rfl)) : wpList P ops Q (o :: rest) a W := goesL_ N hd hg hf hname hb args hop hargs h
end
section
variable {P : Program} {md : Region.Mode} {ops : Array Oper} {Q : Exit → Act → World → Prop} {S : World → Prop} {ds : List Nat} {oi : Oper} {v : Value} {fuel : Nat} {l : Array Bool} {a : Act} {w : World} {a' : Act} {T : Bool × List (List Nat × List Nat)} {B : List Nat}
theorem pureE (i : Nat) (N : Option Tmp) (l' : Array Bool) (h : wpAnyLast P md ops Q S ds fuel l' a' w) (hi : ops[i]? = some oi := by exact rfl) (hN : oi.dst = N := by exact rfl) (hc : anyB md ops l l' i = true := by kernel_rfl) (hQ : ∀ c a w, Q (.panic c) (a.put oi.dst v) w → Q (.panic c) a w := by exact fun _ _ _ h => h)
    (hy : Yields P ops oi v a := by refine Or.inl ⟨by rfl, ?_⟩; intro w'; go_simp; with_reducible rfl) (ha : a.put N v = a' := by simp only [Act.put, List.setIfInBounds_toArray, List.set_cons_zero, List.set_cons_succ, i64_w, i32_w]; rfl) : wpAnyLast P md ops Q S ds (fuel + 1) l a w := pure_ l' hi hN hc hQ hy ha h
theorem pureT (HT : Aside0 (rtab md ops = T)) (i : Nat) (N : Option Tmp) (l' : Array Bool) (h : wpAnyLast P md ops Q S ds fuel l' a' w) (hi : ops[i]? = some oi := by exact rfl) (hN : oi.dst = N := by exact rfl) (hc : anyT T l.toList l'.toList i = true := by kernel_rfl) (hQ : ∀ c a w, Q (.panic c) (a.put oi.dst v) w → Q (.panic c) a w := by exact fun _ _ _ h => h)
    (hy : Yields P ops oi v a := by refine Or.inl ⟨by rfl, ?_⟩; intro w'; go_simp; with_reducible rfl) (ha : a.put N v = a' := by simp only [Act.put, List.setIfInBounds_toArray, List.set_cons_zero, List.set_cons_succ, i64_w, i32_w]; rfl) : wpAnyLast P md ops Q S ds (fuel + 1) l a w := pure_ l' hi hN (any_of HT.out hc) hQ hy ha h
theorem takeE (hS : S w) (i : Nat) (N : Option Tmp) (l' : Array Bool) (h : wpAnyLast P md ops Q S ds fuel l' a' w) (hi : ops[i]? = some oi := by exact rfl) (hN : oi.dst = N := by exact rfl) (hc : takeB md ops ds l l' i = true := by kernel_rfl) (hQ : ∀ c a w, Q (.panic c) (a.put oi.dst v) w → Q (.panic c) a w := by exact fun _ _ _ h => h)
    (hy : YieldsIf P ops S oi v a := by refine Or.inl ⟨by rfl, ?_⟩; intro w'; (repeat refine and_imp.mpr (fun s_ => ?_)); intro s_; go_simp; with_reducible rfl) (ha : a.put N v = a' := by simp only [Act.put, List.setIfInBounds_toArray, List.set_cons_zero, List.set_cons_succ, i64_w, i32_w]; rfl) : wpAnyLast P md ops Q S ds (fuel + 1) l a w := take_ l' hi hN hc hQ hy hS ha h
theorem takeT (HT : Aside0 (rtab md ops = T)) (HW : Aside0 (waitsOk T.2 B = true)) (hS : S w) (i : Nat) (N : Option Tmp) (l' : Array Bool) (h : wpAnyLast P md ops Q S ds fuel l' a' w) (hi : ops[i]? = some oi := by exact rfl) (hN : oi.dst = N := by exact rfl) (hc : takeW T B ds l.toList l'.toList i = true := by kernel_rfl) (hQ : ∀ c a w, Q (.panic c) (a.put oi.dst v) w → Q (.panic c) a w := by exact fun _ _ _ h => h)
    (hy : YieldsIf P ops S oi v a := by refine Or.inl ⟨by rfl, ?_⟩; intro w'; (repeat refine and_imp.mpr (fun s_ => ?_)); intro s_; go_simp; with_reducible rfl) (ha : a.put N v = a' := by simp only [Act.put, List.setIfInBounds_toArray, List.set_cons_zero, List.set_cons_succ, i64_w, i32_w]; rfl) : wpAnyLast P md ops Q S ds (fuel + 1) l a w := take_ l' hi hN (take_ofW HT.out HW.out hc) hQ hy hS ha h
end
section
variable {p q : Prop} {α β : Type} {o : Option α} {f : α → Option β} {y : β} {w w1 w2 : World} {ad : Addr} {v : Value} {g B : Nat}
theorem aK (h : p) : Aside0 p := ⟨h⟩
theorem bE (h : o.bind f = some y) : ∃ t, Aside0 (o = some t) ∧ f t = some y := by obtain ⟨t, h1, h2⟩ := Option.bind_eq_some_iff.mp h; exact ⟨t, ⟨h1⟩, h2⟩
theorem dT [Decidable p] (h : decide p = true := by first | (with_reducible assumption) | assumption) : p := of_decide_eq_true h
theorem cO (hb : Aside0 (Below w.heap.size w w1)) (h : w.cell? ad = some v) (hx : w1.cell? ad = some v → w2.cell? ad = some v := by exact id) : w2.cell? ad = some v := hx ((hb.out.cell (World.block_lt_of_cell? w _ h)).trans h)
theorem rD (h : p := by first | rfl | (simp; done) | (simp [*]; done)) : p := h
theorem eR (hq : q) (h : p := by first | rfl | (simp [errW_none, errW_some] <;> rfl) | (simp [*, errW_none, errW_some] <;> rfl)) : p ∧ q := ⟨h, hq⟩
theorem dD (h : Drawn0 w w1 := by repeat (first | exact Drawn0.refl _ | apply Drawn0.step)) : Drawn0 w w1 := h
theorem zG (hb : Aside0 (Below w.heap.size w w1)) (hg : g = w2.heap.size) (hx : Below w.heap.size w w1 → Below w.heap.size w w2 := by intro h_; repeat (first | (with_reducible first | exact h_ | apply below_alloc | apply pw_below_drewN | apply below_drew1) | (refine below_set ?_ (Aside0.out (by assumption))) | exact h_)) : w.heap.size ≤ g := hg ▸ below_size (hx hb.out)
end
section
variable {P : Program} {md : Region.Mode} {ops : Array Oper} {Q : Exit → Act → World → Prop} {S : World → Prop} {ds : List Nat} {oi : Oper} {v : Value} {fuel : Nat} {l : Array Bool} {a : Act} {w : World} {a' : Act} {T : Bool × List (List Nat × List Nat)} {B : List Nat}
theorem pT (HT : Aside0 (rtab md ops = T)) (i : Nat) (N : Option Tmp) {l' : Array Bool} (h : wpAnyLast P md ops Q S ds fuel l' a' w) (hi : ops[i]? = some oi := by exact rfl) (hN : oi.dst = N := by exact rfl) (hl : l.setIfInBounds i true = l' := by simp only [List.setIfInBounds_toArray, List.set_cons_zero, List.set_cons_succ]; rfl) (hc : anyT T l.toList l'.toList i = true := by kernel_rfl) (hQ : ∀ c a w, Q (.panic c) (a.put oi.dst v) w → Q (.panic c) a w := by exact fun _ _ _ h => h)
    (hy : Yields P ops oi v a := by refine Or.inl ⟨by rfl, ?_⟩; intro w'; go_simp; with_reducible rfl) (ha : a.put N v = a' := by simp only [Act.put, List.setIfInBounds_toArray, List.set_cons_zero, List.set_cons_succ, i64_w, i32_w]; rfl) : wpAnyLast P md ops Q S ds (fuel + 1) l a w := pure_ l' hi hN (any_of HT.out hc) hQ hy ha h
theorem tT (HT : Aside0 (rtab md ops = T)) (HW : Aside0 (waitsOk T.2 B = true)) (hS : S w) (i : Nat) (N : Option Tmp) {l' : Array Bool} (h : wpAnyLast P md ops Q S ds fuel l' a' w) (hi : ops[i]? = some oi := by exact rfl) (hN : oi.dst = N := by exact rfl) (hl : l.setIfInBounds i true = l' := by simp only [List.setIfInBounds_toArray, List.set_cons_zero, List.set_cons_succ]; rfl) (hc : takeW T B ds l.toList l'.toList i = true := by kernel_rfl) (hQ : ∀ c a w, Q (.panic c) (a.put oi.dst v) w → Q (.panic c) a w := by exact fun _ _ _ h => h)
    (hy : YieldsIf P ops S oi v a := by refine Or.inl ⟨by rfl, ?_⟩; intro w'; (repeat refine and_imp.mpr (fun s_ => ?_)); intro s_; go_simp; with_reducible rfl) (ha : a.put N v = a' := by simp only [Act.put, List.setIfInBounds_toArray, List.set_cons_zero, List.set_cons_succ, i64_w, i32_w]; rfl) : wpAnyLast P md ops Q S ds (fuel + 1) l a w := take_ l' hi hN (take_ofW HT.out HW.out hc) hQ hy hS ha h
end
section
variable {P : Program} {md : Region.Mode} {ops : Array Oper} {Q : Exit → Act → World → Prop} {S : World → Prop} {ds : List Nat} {oi : Oper} {v : Value} {fuel : Nat} {l : Array Bool} {a : Act} {w w0 w1 : World} {a' : Act} {T : Bool × List (List Nat × List Nat)} {K : Act → World → Prop} {g : Nat} {o : Obj}
theorem nT (N : Nat) {a0 : Act} (h : wpAnyLast P md ops Q S ds fuel l a' w) (he : a = a0.put (some N) v := by exact rfl) (ha : a0.put (some N) v = a' := by simp only [Act.put, List.setIfInBounds_toArray, List.set_cons_zero, List.set_cons_succ, i64_w, i32_w]; rfl) : wpAnyLast P md ops Q S ds fuel l a w := norm_ (he.trans ha) h
theorem oT (HT : Aside0 (rtab md ops = T)) (i : Nat) (N : Option Tmp) {l' : Array Bool} (h : ∀ K : Act → World → Prop, Shut (∀ a' w', S w' → (S w' → wpAnyLast P md ops Q S ds fuel l' a' w') → K a' w') → if Region.wanted oi (yielded ops a.tmps) = true then Oper.wp P oi a w K Q else K (a.put N undef) w)
    (hi : ops[i]? = some oi := by exact rfl) (hN : oi.dst = N := by exact rfl) (hl : l.setIfInBounds i true = l' := by simp only [List.setIfInBounds_toArray, List.set_cons_zero, List.set_cons_succ]; rfl) (hc : (readyT T.2 l.toList == [i] && l.toList.set i true == l'.toList) = true := by kernel_rfl) (hd : i ∉ ds := by decide) : wpAnyLast P md ops Q S ds (fuel + 1) l a w := one_ l' hi hN (one_of HT.out hc) hd h
theorem gO {N : Option Tmp} {f : FuncId} {fn : Func} {xs_ : Array Operand} {ts : Array TypeId} (hf : P.funcs[f]? = some fn) (args : Array Value) (h : Calls P f args w fun e w' => ∃ v, e = .returned v ∧ K (a.put N v) w') (hname : (fn.name == "runtime.NumGoroutine") = false := by kernel_rfl) (hb : fn.body.isSome = true := by exact rfl)
    (hw : Region.wanted oi (yielded ops a.tmps) = true := by rfl) (hN : oi.dst = N := by exact rfl) (hop : oi.op = .call { callee := .value (.func f), args := xs_, argTypes := ts } := by exact rfl) (hargs : xs_.map a.eval = args := by (try simp only [List.map_toArray, List.map_cons, List.map_nil]); first | done | rfl | (simp only [List.length_drop, List.length_take]; rfl)) : if Region.wanted oi (yielded ops a.tmps) = true then Oper.wp P oi a w K Q else K (a.put N undef) w := goes_ hf hname hb args hw hN hop hargs h
theorem kZ (h : Aside0 (w0.heap[g]? = some o)) (hx : w0.heap[g]? = some o → w.heap[g]? = some o := by intro h_; repeat (first | exact h_ | (with_reducible first | refine blk_drewN ?_ _ | refine blk_drew ?_ | refine blk_alloc ?_ _) | (refine blk_far ?_ (Aside0.out (by assumption)) _))) : w.heap[g]? = some o := hx h.out
end
/-! ### impl_within: function 86 -/
def impl_within.f (a0 : Int) (a1 : Int) (a2 : Int) : Option (Bool) := if a1 ≤ a0 then (some (decide (a0 ≤ a2))) else (some false)
set_option maxHeartbeats 8000000 in
set_option maxRecDepth 100000 in
theorem impl_within.calls (a0 : Int) (a1 : Int) (a2 : Int) (r : Bool) (w : World) (h : impl_within.f a0 a1 a2 = some r) :
 Calls Try.prog 86 #[.int .i64 a0,.int .i64 a1,.int .i64 a2] w fun e w' => e = .returned (.bool r) ∧ Drawn0 w w' := by
 have H := h;clear h;unfold impl_within.f at H
 by_cases c4 : a1 ≤ a0
 ·rw [if_pos c4] at H;have c4b0 := decide_eq_true c4;clear c4;obtain rfl := Option.some.inj H;go_enter Try.func86,Try.ntmps86;go_wp2;go_ret;exact ⟨rD,dD⟩
 ·rw [if_neg c4] at H;have c4b0 := decide_eq_false c4;clear c4;obtain rfl := Option.some.inj H;go_enter Try.func86,Try.ntmps86;go_wp2;go_ret;exact ⟨rD,dD⟩
/-! ### spec_l01In: function 84 -/
def spec_l01In.f (a0 : Int) (a1 : Int) (a2 : Int) : Option (Bool) := if a0 ≥ a1 then (some (decide (a0 ≤ a2))) else (some false)
set_option maxHeartbeats 8000000 in
set_option maxRecDepth 100000 in
theorem spec_l01In.calls (a0 : Int) (a1 : Int) (a2 : Int) (r : Bool) (w : World) (h : spec_l01In.f a0 a1 a2 = some r) :
 Calls Try.prog 84 #[.int .i64 a0,.int .i64 a1,.int .i64 a2] w fun e w' => e = .returned (.bool r) ∧ Drawn0 w w' := by
 have H := h;clear h;unfold spec_l01In.f at H
 by_cases c4 : a0 ≥ a1
 ·rw [if_pos c4] at H;have c4b0 := decide_eq_true c4;clear c4;obtain rfl := Option.some.inj H;go_enter Try.func84,Try.ntmps84;go_wp2;go_ret;exact ⟨rD,dD⟩
 ·rw [if_neg c4] at H;have c4b0 := decide_eq_false c4;clear c4;obtain rfl := Option.some.inj H;go_enter Try.func84,Try.ntmps84;go_wp2;go_ret;exact ⟨rD,dD⟩
/-! ### spec_l04Ascends: function 96 -/
def spec_l04Ascends.l0 : Nat → List Int → Int → Int → Option (Bool)
 | 0,_,_,_ => none
 | k + 1,x0,x1,x5 => if x5 < (x0.length : Int) then (if 0 ≤ x5 then ((spec_l01In.f (rd x0 x5) x1 30).bind fun t102 => (if t102 = true then (if x5 > 0 then (if 0 ≤ (wrap64 (x5 - 1)) then (if (wrap64 (x5 - 1)) < (x0.length : Int) then (if (rd x0 (wrap64 (x5 - 1))) > (rd x0 x5) then (some false) else (spec_l04Ascends.l0 k x0 x1 (wrap64 (x5 + 1)))) else (none)) else (none)) else (spec_l04Ascends.l0 k x0 x1 (wrap64 (x5 + 1)))) else (some false))) else (none)) else (some true)
def spec_l04Ascends.f (k : Nat) (l0 : List Int) (a1 : Int) : Option (Bool) := spec_l04Ascends.l0 k l0 a1 0
theorem spec_l04Ascends.mono_l : ∀ k, (∀ y0 y1 y2, LeO (spec_l04Ascends.l0 k y0 y1 y2) (spec_l04Ascends.l0 (k + 1) y0 y1 y2))
 | 0 => fun _ _ _ r h => by simp [spec_l04Ascends.l0] at h
 | k + 1 => by
  have ih0 := spec_l04Ascends.mono_l k
  ·intro y0 y1 y2;unfold spec_l04Ascends.l0
   repeat' first
   | (with_reducible exact ih0 _ _ _)
   | (with_reducible exact LeO.refl _)
   | (with_reducible exact LeO.none _)
   | (with_reducible refine LeO.ite ?_ ?_)
   | (with_reducible refine LeO.bind ?_ (fun _ => ?_))
   | exact ih0 _ _ _
   | exact LeO.none _
   | refine LeO.ite ?_ ?_
   | refine LeO.bind ?_ (fun _ => ?_)
theorem spec_l04Ascends.mono : ∀ a0 a1 k, LeO (spec_l04Ascends.f k a0 a1) (spec_l04Ascends.f (k + 1) a0 a1) := by
 intro a0 a1 k;have ih0 := spec_l04Ascends.mono_l k;unfold spec_l04Ascends.f
 repeat' first
  | (with_reducible exact ih0 _ _ _)
  | (with_reducible exact LeO.refl _)
  | (with_reducible exact LeO.none _)
  | (with_reducible refine LeO.ite ?_ ?_)
  | (with_reducible refine LeO.bind ?_ (fun _ => ?_))
  | exact ih0 _ _ _
  | exact LeO.none _
  | refine LeO.ite ?_ ?_
  | refine LeO.bind ?_ (fun _ => ?_)
def spec_l04Ascends.T4 : Bool × List (List Nat × List Nat) := (true, [([], []), ([], []), ([0, 1], [0, 1]), ([2], [2]), ([], []), ([3, 4], [3, 4]), ([5], [5]), ([6, 5], [6]), ([7], [7]), ([8, 7], [7, 8]), ([9, 7, 7], [7, 9]), ([10], [10]), ([10], [10]), ([12, 10], [10, 12]), ([11, 13, 10], [10, 11, 13]), ([14, 10], [10, 14]), ([10], [10]), ([10], [10]), ([16, 17, 10], [10, 16, 17]), ([18, 10], [10, 18]), ([15, 19, 10], [10, 15, 19]), ([10, 20, 7], [7, 10, 20]), ([7, 21], [7, 21])])
def spec_l04Ascends.B4 : List Nat := [0, 0, 3, 7, 0, 31, 63, 127, 255, 511, 1023, 2047, 2047, 6143, 16383, 32767, 2047, 2047, 198655, 460799, 1048575, 2097151, 4194303]
theorem spec_l04Ascends.tab4 : rtab .any (opsOf Try.f96 4) = spec_l04Ascends.T4 := by kernel_rfl
theorem spec_l04Ascends.bits4 : waitsOk spec_l04Ascends.T4.2 spec_l04Ascends.B4 = true := by kernel_rfl
set_option maxHeartbeats 8000000 in
set_option maxRecDepth 100000 in
theorem spec_l04Ascends.calls (k : Nat) (A0 : Option Addr) (c0 : Nat) (l0 : List Int) (a1 : Int) (r : Bool) (w : World) (hr0 : Kd.C (Kd.int .i64) w A0 l0.length l0) (hc0 : l0.length ≤ c0) (h : spec_l04Ascends.f k l0 a1 = some r) :
 Calls Try.prog 96 #[.slice A0 l0.length c0,.int .i64 a1] w fun e w' => e = .returned (.bool r) ∧ Below w.heap.size w w' := by
 have HR0 := aK hr0;have HC0 := aK hc0;clear hr0 hc0;have HB := aK (Below.refl w.heap.size w);have H := h;clear h;unfold spec_l04Ascends.f at H;have H' := aK H;clear H;go_enter Try.func96,Try.ntmps96;go_wp2
 go_loopg [5] k (fun kq v5 w' => ∃ (x5_1 : Int),v5 = .int .i64 x5_1 ∧ Aside0 (spec_l04Ascends.l0 kq l0 a1 x5_1 = some r) ∧ Aside0 (kq ≤ k) ∧ Aside0 (Below w.heap.size w w'))
 case atStart => exact ⟨(0),rD,H',⟨Nat.le_refl _⟩,⟨bN HB⟩⟩
 case round =>
  clear H';obtain ⟨x5_1,rfl,HA,HK1,HB⟩ := hrel
  cases gk with
  | zero => exact absurd HA.out (by simp [spec_l04Ascends.l0])
  | succ k1 =>
   have H := HA.out;clear HA;simp only [spec_l04Ascends.l0] at H
   by_cases c3 : x5_1 < (l0.length : Int)
   ·rw [if_pos c3] at H;have c3b0 := decide_eq_true c3;clear c3
    by_cases c4 : 0 ≤ x5_1
    rotate_left
    ·rw [if_neg c4] at H;exact absurd H (by simp)
    rw [if_pos c4] at H;have c4b0 := decide_eq_true c4;clear c4;replace H := bE H;obtain ⟨t102,A5,H⟩ := H
    by_cases c6 : t102 = true
    ·subst c6;rw [if_pos rfl] at H
     by_cases c7 : x5_1 > 0
     ·rw [if_pos c7] at H;have c7b0 := decide_eq_true c7;clear c7;obtain ⟨ji8,hji8⟩ : ∃ j_ : Int,(wrap64 (x5_1 - 1)) = j_ := ⟨_,rfl⟩;replace H : (if 0 ≤ (ji8) then (if (ji8) < (l0.length : Int) then (if (rd l0 (ji8)) > (rd l0 x5_1) then (some false) else (spec_l04Ascends.l0 k1 l0 a1 (wrap64 (x5_1 + 1)))) else (none)) else (none)) = some r := by first | (rw [hji8] at H;exact H) | (simp only [hji8] at H ⊢;exact H)
      (try rw [hji8] at A5);have hji8w : (IntKind.i64.wrap (x5_1 - 1)) = ji8 := (i64_w _).trans hji8
      by_cases c9 : 0 ≤ (ji8)
      rotate_left
      ·rw [if_neg c9] at H;exact absurd H (by simp)
      rw [if_pos c9] at H;have c9b0 := decide_eq_true c9;clear c9
      by_cases c10 : (ji8) < (l0.length : Int)
      rotate_left
      ·rw [if_neg c10] at H;exact absurd H (by simp)
      rw [if_pos c10] at H;have c10b0 := decide_eq_true c10;clear c10
      by_cases c11 : (rd l0 (ji8)) > (rd l0 x5_1)
      ·rw [if_pos c11] at H;have c11b0 := decide_eq_true c11;clear c11;obtain rfl := Option.some.inj H
       try go_wp2
       have n0_ := aK (below_drew1 HB.out);replace HB := n0_;clear n0_;have p101 : 0 ≤ (x5_1 : Int) := dT;have q101 : x5_1 < (l0.length : Int) := dT;obtain ⟨ad101,e101,hx101_0⟩ := Kd.at_int HR0.out x5_1 p101 q101;have hw101_0 := hx101_0;cases e101;replace hx101_0 := cO HB hx101_0;replace p101 := eq_true p101;replace q101 := eq_true q101;have p103 : 0 ≤ ((ji8) : Int) := dT;have q103 : (ji8) < (l0.length : Int) := dT;obtain ⟨ad103,e103,hx103_0⟩ := Kd.at_int HR0.out (ji8) p103 q103;have hw103_0 := hx103_0;obtain rfl : ad101 = ad103 := (by injection e103);replace hx103_0 := cO HB hx103_0;replace p103 := eq_true p103;replace q103 := eq_true q103;have p104 : 0 ≤ (x5_1 : Int) := dT;have q104 : x5_1 < (l0.length : Int) := dT;obtain ⟨ad104,e104,hx104_0⟩ := Kd.at_int HR0.out x5_1 p104 q104;have hw104_0 := hx104_0;obtain rfl : ad101 = ad104 := (by injection e104);replace hx104_0 := cO HB hx104_0;replace p104 := eq_true p104;replace q104 := eq_true q104;refine start_ (n := 23) (S := fun w' => w'.cell? (ad101.add (x5_1).toNat) = some (.int .i64 (rd l0 x5_1)) ∧ w'.cell? (ad101.add ((ji8)).toNat) = some (.int .i64 (rd l0 (ji8))) ∧ w'.cell? (ad101.add (x5_1).toNat) = some (.int .i64 (rd l0 x5_1))) (ds := []) #[false,false,false,false,false,false,false,false,false,false,false,false,false,false,false,false,false,false,false,false,false,false,false] (by kernel_rfl) rfl rfl ⟨(cO HB hw101_0),(cO HB hw103_0),(cO HB hw104_0)⟩ (fun hHeld => ?_);refine with_tabW spec_l04Ascends.tab4 spec_l04Ascends.bits4 (fun HT_ HW_ => ?_)
       generalize wr.drew = w12 at HB hx101_0 hx103_0 hx104_0 hHeld ⊢
       refine pT HT_ 0 (some 12) ?_;refine pT HT_ 1 (some 13) ?_;refine pT HT_ 2 (some 14) ?_;refine pT HT_ 4 (some 16) ?_;refine tT HT_ HW_ hHeld 3 (some 15) ?_;refine oT HT_ 5 (some 17) (fun K hK => ?_);refine gO Try.func84 #[.int .i64 (rd l0 x5_1),.int .i64 a1,.int .i64 30] ?_
       with_reducible refine (spec_l01In.calls (rd l0 x5_1) a1 30 true _ A5.out).mono ?_
       rintro e w' ⟨rfl,⟨nd,rfl⟩⟩;refine ⟨_,rfl,?_⟩;refine hK.out _ _ ⟨(cO HB hw101_0),(cO HB hw103_0),(cO HB hw104_0)⟩ (fun hHeld => ?_);clear hK K;refine nT 17 ?_;refine pT HT_ 6 (some 18) ?_;refine pT HT_ 7 (some 19) ?_;refine pT HT_ 8 (some 20) ?_;refine pT HT_ 9 (some 21) ?_;refine pT HT_ 10 (some 22) ?_;refine pT HT_ 11 (some 23) ?_;refine pT HT_ 12 (some 24) ?_;refine pT HT_ 13 (some 25) ?_;refine pT HT_ 14 (some 26) ?_;refine pT HT_ 16 (some 28) ?_;refine pT HT_ 17 (some 29) ?_;refine pT HT_ 18 (some 30) ?_;refine tT HT_ HW_ hHeld 15 (some 27) ?_;refine tT HT_ HW_ hHeld 19 (some 31) ?_;refine pT HT_ 20 (some 32) ?_;refine pT HT_ 21 (some 33) ?_;refine pT HT_ 22 (some 34) ?_;refine done_ (done_of HT_.out (by kernel_rfl)) ?_
       try go_wp2
       go_ret;exact ⟨by first | rfl | (simp [errW_none,errW_some] <;> rfl) | (simp only [← hji8];first | rfl | (simp [errW_none,errW_some] <;> rfl)) | (simp [*,errW_none,errW_some] <;> rfl),(bN HB)⟩
      ·rw [if_neg c11] at H;have c11b0 := decide_eq_false c11;clear c11;have H' := aK H;clear H
       try go_wp2
       have n0_ := aK (below_drew1 HB.out);replace HB := n0_;clear n0_;have p101 : 0 ≤ (x5_1 : Int) := dT;have q101 : x5_1 < (l0.length : Int) := dT;obtain ⟨ad101,e101,hx101_0⟩ := Kd.at_int HR0.out x5_1 p101 q101;have hw101_0 := hx101_0;cases e101;replace hx101_0 := cO HB hx101_0;replace p101 := eq_true p101;replace q101 := eq_true q101;have p103 : 0 ≤ ((ji8) : Int) := dT;have q103 : (ji8) < (l0.length : Int) := dT;obtain ⟨ad103,e103,hx103_0⟩ := Kd.at_int HR0.out (ji8) p103 q103;have hw103_0 := hx103_0;obtain rfl : ad101 = ad103 := (by injection e103);replace hx103_0 := cO HB hx103_0;replace p103 := eq_true p103;replace q103 := eq_true q103;have p104 : 0 ≤ (x5_1 : Int) := dT;have q104 : x5_1 < (l0.length : Int) := dT;obtain ⟨ad104,e104,hx104_0⟩ := Kd.at_int HR0.out x5_1 p104 q104;have hw104_0 := hx104_0;obtain rfl : ad101 = ad104 := (by injection e104);replace hx104_0 := cO HB hx104_0;replace p104 := eq_true p104;replace q104 := eq_true q104;refine start_ (n := 23) (S := fun w' => w'.cell? (ad101.add (x5_1).toNat) = some (.int .i64 (rd l0 x5_1)) ∧ w'.cell? (ad101.add ((ji8)).toNat) = some (.int .i64 (rd l0 (ji8))) ∧ w'.cell? (ad101.add (x5_1).toNat) = some (.int .i64 (rd l0 x5_1))) (ds := []) #[false,false,false,false,false,false,false,false,false,false,false,false,false,false,false,false,false,false,false,false,false,false,false] (by kernel_rfl) rfl rfl ⟨(cO HB hw101_0),(cO HB hw103_0),(cO HB hw104_0)⟩ (fun hHeld => ?_);refine with_tabW spec_l04Ascends.tab4 spec_l04Ascends.bits4 (fun HT_ HW_ => ?_)
       generalize wr.drew = w13 at HB hx101_0 hx103_0 hx104_0 hHeld ⊢
       refine pT HT_ 0 (some 12) ?_;refine pT HT_ 1 (some 13) ?_;refine pT HT_ 2 (some 14) ?_;refine pT HT_ 4 (some 16) ?_;refine tT HT_ HW_ hHeld 3 (some 15) ?_;refine oT HT_ 5 (some 17) (fun K hK => ?_);refine gO Try.func84 #[.int .i64 (rd l0 x5_1),.int .i64 a1,.int .i64 30] ?_
       with_reducible refine (spec_l01In.calls (rd l0 x5_1) a1 30 true _ A5.out).mono ?_
       rintro e w' ⟨rfl,⟨nd,rfl⟩⟩;refine ⟨_,rfl,?_⟩;refine hK.out _ _ ⟨(cO HB hw101_0),(cO HB hw103_0),(cO HB hw104_0)⟩ (fun hHeld => ?_);clear hK K;refine nT 17 ?_;refine pT HT_ 6 (some 18) ?_;refine pT HT_ 7 (some 19) ?_;refine pT HT_ 8 (some 20) ?_;refine pT HT_ 9 (some 21) ?_;refine pT HT_ 10 (some 22) ?_;refine pT HT_ 11 (some 23) ?_;refine pT HT_ 12 (some 24) ?_;refine pT HT_ 13 (some 25) ?_;refine pT HT_ 14 (some 26) ?_;refine pT HT_ 16 (some 28) ?_;refine pT HT_ 17 (some 29) ?_;refine pT HT_ 18 (some 30) ?_;refine tT HT_ HW_ hHeld 15 (some 27) ?_;refine tT HT_ HW_ hHeld 19 (some 31) ?_;refine pT HT_ 20 (some 32) ?_;refine pT HT_ 21 (some 33) ?_;refine pT HT_ 22 (some 34) ?_;refine done_ (done_of HT_.out (by kernel_rfl)) ?_
       try go_wp2
       go_roundg k1
       case measure => have := HK1.out;omega
       case rel => exact ⟨(wrap64 (x5_1 + 1)),rD,H',⟨by have := HK1.out;omega⟩,⟨bN HB⟩⟩
     ·rw [if_neg c7] at H;have c7b0 := decide_eq_false c7;clear c7;have H' := aK H;clear H
      try go_wp2
      have n0_ := aK (below_drew1 HB.out);replace HB := n0_;clear n0_;have p101 : 0 ≤ (x5_1 : Int) := dT;have q101 : x5_1 < (l0.length : Int) := dT;obtain ⟨ad101,e101,hx101_0⟩ := Kd.at_int HR0.out x5_1 p101 q101;have hw101_0 := hx101_0;cases e101;replace hx101_0 := cO HB hx101_0;replace p101 := eq_true p101;replace q101 := eq_true q101;refine start_ (n := 23) (S := fun w' => w'.cell? (ad101.add (x5_1).toNat) = some (.int .i64 (rd l0 x5_1))) (ds := []) #[false,false,false,false,false,false,false,false,false,false,false,false,false,false,false,false,false,false,false,false,false,false,false] (by kernel_rfl) rfl rfl ((cO HB hw101_0)) (fun hHeld => ?_);refine with_tabW spec_l04Ascends.tab4 spec_l04Ascends.bits4 (fun HT_ HW_ => ?_)
      generalize wr.drew = w14 at HB hx101_0 hHeld ⊢
      refine pT HT_ 0 (some 12) ?_;refine pT HT_ 1 (some 13) ?_;refine pT HT_ 2 (some 14) ?_;refine pT HT_ 4 (some 16) ?_;refine take_ (i := 3) (N := some 15) (v := ?_) (a' := ?_) #[true,true,true,true,true,false,false,false,false,false,false,false,false,false,false,false,false,false,false,false,false,false,false] rfl rfl (take_ofW HT_.out HW_.out (by kernel_rfl)) (fun _ _ _ h => h) (Or.inl ⟨by rfl,?_⟩) hHeld ?_ ?_;rotate_left
      ·intro w' s0
       go_simp
       with_reducible rfl
      rotate_left
      ·simp only [Act.put,List.setIfInBounds_toArray,List.set_cons_zero,List.set_cons_succ,i64_w,i32_w]
       rfl
      refine oT HT_ 5 (some 17) (fun K hK => ?_);refine gO Try.func84 #[.int .i64 (rd l0 x5_1),.int .i64 a1,.int .i64 30] ?_
      with_reducible refine (spec_l01In.calls (rd l0 x5_1) a1 30 true _ A5.out).mono ?_
      rintro e w' ⟨rfl,⟨nd,rfl⟩⟩;refine ⟨_,rfl,?_⟩;refine hK.out _ _ ((cO HB hw101_0)) (fun hHeld => ?_);clear hK K;refine nT 17 ?_;refine pT HT_ 6 (some 18) ?_;refine pT HT_ 7 (some 19) ?_;refine pT HT_ 8 (some 20) ?_;refine pT HT_ 9 (some 21) ?_;refine pT HT_ 10 (some 22) ?_;refine pure_ (i := 11) (N := some 23) (v := undef) (a' := ?_) #[true,true,true,true,true,true,true,true,true,true,true,true,false,false,false,false,false,false,false,false,false,false,false] rfl rfl (any_of HT_.out (by kernel_rfl)) (fun _ _ _ h => h) (Or.inr ⟨by rfl,rfl⟩) ?_ ?_;rotate_left
      ·simp only [Act.put,List.setIfInBounds_toArray,List.set_cons_zero,List.set_cons_succ,i64_w,i32_w]
       rfl
      refine pure_ (i := 12) (N := some 24) (v := undef) (a' := ?_) #[true,true,true,true,true,true,true,true,true,true,true,true,true,false,false,false,false,false,false,false,false,false,false] rfl rfl (any_of HT_.out (by kernel_rfl)) (fun _ _ _ h => h) (Or.inr ⟨by rfl,rfl⟩) ?_ ?_;rotate_left
      ·simp only [Act.put,List.setIfInBounds_toArray,List.set_cons_zero,List.set_cons_succ,i64_w,i32_w]
       rfl
      refine pure_ (i := 13) (N := some 25) (v := undef) (a' := ?_) #[true,true,true,true,true,true,true,true,true,true,true,true,true,true,false,false,false,false,false,false,false,false,false] rfl rfl (any_of HT_.out (by kernel_rfl)) (fun _ _ _ h => h) (Or.inr ⟨by rfl,rfl⟩) ?_ ?_;rotate_left
      ·simp only [Act.put,List.setIfInBounds_toArray,List.set_cons_zero,List.set_cons_succ,i64_w,i32_w]
       rfl
      refine pure_ (i := 14) (N := some 26) (v := undef) (a' := ?_) #[true,true,true,true,true,true,true,true,true,true,true,true,true,true,true,false,false,false,false,false,false,false,false] rfl rfl (any_of HT_.out (by kernel_rfl)) (fun _ _ _ h => h) (Or.inr ⟨by rfl,rfl⟩) ?_ ?_;rotate_left
      ·simp only [Act.put,List.setIfInBounds_toArray,List.set_cons_zero,List.set_cons_succ,i64_w,i32_w]
       rfl
      refine pure_ (i := 15) (N := some 27) (v := undef) (a' := ?_) #[true,true,true,true,true,true,true,true,true,true,true,true,true,true,true,true,false,false,false,false,false,false,false] rfl rfl (any_of HT_.out (by kernel_rfl)) (fun _ _ _ h => h) (Or.inr ⟨by rfl,rfl⟩) ?_ ?_;rotate_left
      ·simp only [Act.put,List.setIfInBounds_toArray,List.set_cons_zero,List.set_cons_succ,i64_w,i32_w]
       rfl
      refine pure_ (i := 16) (N := some 28) (v := undef) (a' := ?_) #[true,true,true,true,true,true,true,true,true,true,true,true,true,true,true,true,true,false,false,false,false,false,false] rfl rfl (any_of HT_.out (by kernel_rfl)) (fun _ _ _ h => h) (Or.inr ⟨by rfl,rfl⟩) ?_ ?_;rotate_left
      ·simp only [Act.put,List.setIfInBounds_toArray,List.set_cons_zero,List.set_cons_succ,i64_w,i32_w]
       rfl
      refine pure_ (i := 17) (N := some 29) (v := undef) (a' := ?_) #[true,true,true,true,true,true,true,true,true,true,true,true,true,true,true,true,true,true,false,false,false,false,false] rfl rfl (any_of HT_.out (by kernel_rfl)) (fun _ _ _ h => h) (Or.inr ⟨by rfl,rfl⟩) ?_ ?_;rotate_left
      ·simp only [Act.put,List.setIfInBounds_toArray,List.set_cons_zero,List.set_cons_succ,i64_w,i32_w]
       rfl
      refine pure_ (i := 18) (N := some 30) (v := undef) (a' := ?_) #[true,true,true,true,true,true,true,true,true,true,true,true,true,true,true,true,true,true,true,false,false,false,false] rfl rfl (any_of HT_.out (by kernel_rfl)) (fun _ _ _ h => h) (Or.inr ⟨by rfl,rfl⟩) ?_ ?_;rotate_left
      ·simp only [Act.put,List.setIfInBounds_toArray,List.set_cons_zero,List.set_cons_succ,i64_w,i32_w]
       rfl
      refine pure_ (i := 19) (N := some 31) (v := undef) (a' := ?_) #[true,true,true,true,true,true,true,true,true,true,true,true,true,true,true,true,true,true,true,true,false,false,false] rfl rfl (any_of HT_.out (by kernel_rfl)) (fun _ _ _ h => h) (Or.inr ⟨by rfl,rfl⟩) ?_ ?_;rotate_left
      ·simp only [Act.put,List.setIfInBounds_toArray,List.set_cons_zero,List.set_cons_succ,i64_w,i32_w]
       rfl
      refine pure_ (i := 20) (N := some 32) (v := undef) (a' := ?_) #[true,true,true,true,true,true,true,true,true,true,true,true,true,true,true,true,true,true,true,true,true,false,false] rfl rfl (any_of HT_.out (by kernel_rfl)) (fun _ _ _ h => h) (Or.inr ⟨by rfl,rfl⟩) ?_ ?_;rotate_left
      ·simp only [Act.put,List.setIfInBounds_toArray,List.set_cons_zero,List.set_cons_succ,i64_w,i32_w]
       rfl
      refine pT HT_ 21 (some 33) ?_;refine pT HT_ 22 (some 34) ?_;refine done_ (done_of HT_.out (by kernel_rfl)) ?_
      try go_wp2
      go_roundg k1
      case measure => have := HK1.out;omega
      case rel => exact ⟨(wrap64 (x5_1 + 1)),rD,H',⟨by have := HK1.out;omega⟩,⟨bN HB⟩⟩
    ·replace c6 := Bool.eq_false_iff.mpr c6;subst c6;rw [if_neg (show ¬ (false = true) by decide)] at H;obtain rfl := Option.some.inj H
     try go_wp2
     have n0_ := aK (below_drew1 HB.out);replace HB := n0_;clear n0_;have p101 : 0 ≤ (x5_1 : Int) := dT;have q101 : x5_1 < (l0.length : Int) := dT;obtain ⟨ad101,e101,hx101_0⟩ := Kd.at_int HR0.out x5_1 p101 q101;have hw101_0 := hx101_0;cases e101;replace hx101_0 := cO HB hx101_0;replace p101 := eq_true p101;replace q101 := eq_true q101;refine start_ (n := 23) (S := fun w' => w'.cell? (ad101.add (x5_1).toNat) = some (.int .i64 (rd l0 x5_1))) (ds := []) #[false,false,false,false,false,false,false,false,false,false,false,false,false,false,false,false,false,false,false,false,false,false,false] (by kernel_rfl) rfl rfl ((cO HB hw101_0)) (fun hHeld => ?_);refine with_tabW spec_l04Ascends.tab4 spec_l04Ascends.bits4 (fun HT_ HW_ => ?_)
     generalize wr.drew = w15 at HB hx101_0 hHeld ⊢
     refine pT HT_ 0 (some 12) ?_;refine pT HT_ 1 (some 13) ?_;refine pT HT_ 2 (some 14) ?_;refine pT HT_ 4 (some 16) ?_;refine take_ (i := 3) (N := some 15) (v := ?_) (a' := ?_) #[true,true,true,true,true,false,false,false,false,false,false,false,false,false,false,false,false,false,false,false,false,false,false] rfl rfl (take_ofW HT_.out HW_.out (by kernel_rfl)) (fun _ _ _ h => h) (Or.inl ⟨by rfl,?_⟩) hHeld ?_ ?_;rotate_left
     ·intro w' s0
      go_simp
      with_reducible rfl
     rotate_left
     ·simp only [Act.put,List.setIfInBounds_toArray,List.set_cons_zero,List.set_cons_succ,i64_w,i32_w]
      rfl
     refine oT HT_ 5 (some 17) (fun K hK => ?_);refine gO Try.func84 #[.int .i64 (rd l0 x5_1),.int .i64 a1,.int .i64 30] ?_
     with_reducible refine (spec_l01In.calls (rd l0 x5_1) a1 30 false _ A5.out).mono ?_
     rintro e w' ⟨rfl,⟨nd,rfl⟩⟩;refine ⟨_,rfl,?_⟩;refine hK.out _ _ ((cO HB hw101_0)) (fun hHeld => ?_);clear hK K;refine nT 17 ?_;refine pT HT_ 6 (some 18) ?_;refine pT HT_ 7 (some 19) ?_;refine pure_ (i := 8) (N := some 20) (v := undef) (a' := ?_) #[true,true,true,true,true,true,true,true,true,false,false,false,false,false,false,false,false,false,false,false,false,false,false] rfl rfl (any_of HT_.out (by kernel_rfl)) (fun _ _ _ h => h) (Or.inr ⟨by rfl,rfl⟩) ?_ ?_;rotate_left
     ·simp only [Act.put,List.setIfInBounds_toArray,List.set_cons_zero,List.set_cons_succ,i64_w,i32_w]
      rfl
     refine pure_ (i := 9) (N := some 21) (v := undef) (a' := ?_) #[true,true,true,true,true,true,true,true,true,true,false,false,false,false,false,false,false,false,false,false,false,false,false] rfl rfl (any_of HT_.out (by kernel_rfl)) (fun _ _ _ h => h) (Or.inr ⟨by rfl,rfl⟩) ?_ ?_;rotate_left
     ·simp only [Act.put,List.setIfInBounds_toArray,List.set_cons_zero,List.set_cons_succ,i64_w,i32_w]
      rfl
     refine pure_ (i := 10) (N := some 22) (v := undef) (a' := ?_) #[true,true,true,true,true,true,true,true,true,true,true,false,false,false,false,false,false,false,false,false,false,false,false] rfl rfl (any_of HT_.out (by kernel_rfl)) (fun _ _ _ h => h) (Or.inr ⟨by rfl,rfl⟩) ?_ ?_;rotate_left
     ·simp only [Act.put,List.setIfInBounds_toArray,List.set_cons_zero,List.set_cons_succ,i64_w,i32_w]
      rfl
     refine pure_ (i := 11) (N := some 23) (v := undef) (a' := ?_) #[true,true,true,true,true,true,true,true,true,true,true,true,false,false,false,false,false,false,false,false,false,false,false] rfl rfl (any_of HT_.out (by kernel_rfl)) (fun _ _ _ h => h) (Or.inr ⟨by rfl,rfl⟩) ?_ ?_;rotate_left
     ·simp only [Act.put,List.setIfInBounds_toArray,List.set_cons_zero,List.set_cons_succ,i64_w,i32_w]
      rfl
     refine pure_ (i := 12) (N := some 24) (v := undef) (a' := ?_) #[true,true,true,true,true,true,true,true,true,true,true,true,true,false,false,false,false,false,false,false,false,false,false] rfl rfl (any_of HT_.out (by kernel_rfl)) (fun _ _ _ h => h) (Or.inr ⟨by rfl,rfl⟩) ?_ ?_;rotate_left
     ·simp only [Act.put,List.setIfInBounds_toArray,List.set_cons_zero,List.set_cons_succ,i64_w,i32_w]
      rfl
     refine pure_ (i := 13) (N := some 25) (v := undef) (a' := ?_) #[true,true,true,true,true,true,true,true,true,true,true,true,true,true,false,false,false,false,false,false,false,false,false] rfl rfl (any_of HT_.out (by kernel_rfl)) (fun _ _ _ h => h) (Or.inr ⟨by rfl,rfl⟩) ?_ ?_;rotate_left
     ·simp only [Act.put,List.setIfInBounds_toArray,List.set_cons_zero,List.set_cons_succ,i64_w,i32_w]
      rfl
     refine pure_ (i := 14) (N := some 26) (v := undef) (a' := ?_) #[true,true,true,true,true,true,true,true,true,true,true,true,true,true,true,false,false,false,false,false,false,false,false] rfl rfl (any_of HT_.out (by kernel_rfl)) (fun _ _ _ h => h) (Or.inr ⟨by rfl,rfl⟩) ?_ ?_;rotate_left
     ·simp only [Act.put,List.setIfInBounds_toArray,List.set_cons_zero,List.set_cons_succ,i64_w,i32_w]
      rfl
     refine pure_ (i := 15) (N := some 27) (v := undef) (a' := ?_) #[true,true,true,true,true,true,true,true,true,true,true,true,true,true,true,true,false,false,false,false,false,false,false] rfl rfl (any_of HT_.out (by kernel_rfl)) (fun _ _ _ h => h) (Or.inr ⟨by rfl,rfl⟩) ?_ ?_;rotate_left
     ·simp only [Act.put,List.setIfInBounds_toArray,List.set_cons_zero,List.set_cons_succ,i64_w,i32_w]
      rfl
     refine pure_ (i := 16) (N := some 28) (v := undef) (a' := ?_) #[true,true,true,true,true,true,true,true,true,true,true,true,true,true,true,true,true,false,false,false,false,false,false] rfl rfl (any_of HT_.out (by kernel_rfl)) (fun _ _ _ h => h) (Or.inr ⟨by rfl,rfl⟩) ?_ ?_;rotate_left
     ·simp only [Act.put,List.setIfInBounds_toArray,List.set_cons_zero,List.set_cons_succ,i64_w,i32_w]
      rfl
     refine pure_ (i := 17) (N := some 29) (v := undef) (a' := ?_) #[true,true,true,true,true,true,true,true,true,true,true,true,true,true,true,true,true,true,false,false,false,false,false] rfl rfl (any_of HT_.out (by kernel_rfl)) (fun _ _ _ h => h) (Or.inr ⟨by rfl,rfl⟩) ?_ ?_;rotate_left
     ·simp only [Act.put,List.setIfInBounds_toArray,List.set_cons_zero,List.set_cons_succ,i64_w,i32_w]
      rfl
     refine pure_ (i := 18) (N := some 30) (v := undef) (a' := ?_) #[true,true,true,true,true,true,true,true,true,true,true,true,true,true,true,true,true,true,true,false,false,false,false] rfl rfl (any_of HT_.out (by kernel_rfl)) (fun _ _ _ h => h) (Or.inr ⟨by rfl,rfl⟩) ?_ ?_;rotate_left
     ·simp only [Act.put,List.setIfInBounds_toArray,List.set_cons_zero,List.set_cons_succ,i64_w,i32_w]
      rfl
     refine pure_ (i := 19) (N := some 31) (v := undef) (a' := ?_) #[true,true,true,true,true,true,true,true,true,true,true,true,true,true,true,true,true,true,true,true,false,false,false] rfl rfl (any_of HT_.out (by kernel_rfl)) (fun _ _ _ h => h) (Or.inr ⟨by rfl,rfl⟩) ?_ ?_;rotate_left
     ·simp only [Act.put,List.setIfInBounds_toArray,List.set_cons_zero,List.set_cons_succ,i64_w,i32_w]
      rfl
     refine pure_ (i := 20) (N := some 32) (v := undef) (a' := ?_) #[true,true,true,true,true,true,true,true,true,true,true,true,true,true,true,true,true,true,true,true,true,false,false] rfl rfl (any_of HT_.out (by kernel_rfl)) (fun _ _ _ h => h) (Or.inr ⟨by rfl,rfl⟩) ?_ ?_;rotate_left
     ·simp only [Act.put,List.setIfInBounds_toArray,List.set_cons_zero,List.set_cons_succ,i64_w,i32_w]
      rfl
     refine pure_ (i := 21) (N := some 33) (v := undef) (a' := ?_) #[true,true,true,true,true,true,true,true,true,true,true,true,true,true,true,true,true,true,true,true,true,true,false] rfl rfl (any_of HT_.out (by kernel_rfl)) (fun _ _ _ h => h) (Or.inr ⟨by rfl,rfl⟩) ?_ ?_;rotate_left
     ·simp only [Act.put,List.setIfInBounds_toArray,List.set_cons_zero,List.set_cons_succ,i64_w,i32_w]
      rfl
     refine pT HT_ 22 (some 34) ?_;refine done_ (done_of HT_.out (by kernel_rfl)) ?_
     try go_wp2
     go_ret;exact eR (bN HB)
   ·rw [if_neg c3] at H;have c3b0 := decide_eq_false c3;clear c3;obtain rfl := Option.some.inj H;go_wp2;go_ret;exact eR (bN HB)
/-- A function that a value leads to: its text is there. -/
def HasFn (f : FuncId) : Prop := ∃ fn, Try.prog.funcs[f]? = some fn ∧ (fn.name == "runtime.NumGoroutine") = false ∧ fn.body.isSome = true
/-- A call of a function value, in a plain region, as an arm of go_wp2_with. -/
theorem goesV_ {ops : Array Oper} {Q : Exit → Act → World → Prop} {rest : List Oper} {oi : Oper} {a : Act} {w : World} (N : Option Tmp) (hd : oi.dst = N) (hg : oi.guard = none) {t : Tmp} {os_ : Array Operand} {ts : Array TypeId} (f : FuncId) (cap : Array Value) (hf : HasFn f) (args : Array Value)
    (hop : oi.op = .call { callee := .value (.tmp t),args := os_,argTypes := ts }) (ht : a.eval (.tmp t) = .func (.func f) #[] cap) (hargs : os_.map a.eval = args)
    (h : Calls Try.prog f (args ++ cap) w fun e w' => ∃ v,e = .returned v ∧ wpList Try.prog ops Q rest (a.put N v) w') : wpList Try.prog ops Q (oi :: rest) a w := by
  obtain ⟨fn,hf,hname,hb⟩ := hf;refine wpList_plain hg fun K hK => ?_
  have he := enters_ hf hname hb (args ++ cap) w;have hrun : (execOp a.eval oi).run Try.prog w = .ok (.enter f (args ++ cap)) w := by
    unfold execOp;simp only [hop,resolve,ht,hargs]
    simp [Deferred.ofValue,invoke,he]
  unfold Oper.wp;rw [hrun,Oper.upon_enter];refine h.mono fun e w'' hh => ?_
  obtain ⟨v,rfl,hk⟩ := hh;subst hd;exact hK _ _ hk
/-- A function value answers a test on whole numbers and leaves memory as it is. -/
def Tests (f : FuncId) (cap : Array Value) (p : Int → Bool) (xs : List Int) (w : World) : Prop :=
  HasFn f ∧ ∀ x ∈ xs,∀ n : Nat,Calls Try.prog f (#[.int .i64 x] ++ cap) (w.drewN n) fun e w' => e = .returned (.bool (p x)) ∧ Drawn0 (w.drewN n) w'
theorem Tests.drewN {f : FuncId} {cap : Array Value} {p : Int → Bool} {xs : List Int} {w : World} (h : Tests f cap p xs w) (m : Nat) : Tests f cap p xs (w.drewN m) :=
  ⟨h.1,fun x hx n => by rw [World.drewN_drewN];exact h.2 x hx (m + n)⟩
/-- Where the first one stands, or -1. -/
def idxOf (p : Int → Bool) (xs : List Int) : Int := match xs.findIdx? p with
  | some i => (i : Int)
  | none => -1
theorem idxOf_at {p : Int → Bool} {xs : List Int} {j : Nat} {x : Int} (hj : xs[j]? = some x) (hp : p x = true) (hb : ∀ i, i < j → p (xs.getD i 0) = false) : idxOf p xs = (j : Int) := by
  obtain ⟨hl,he⟩ := List.getElem?_eq_some_iff.1 hj;have : xs.findIdx? p = some j := by
    rw [List.findIdx?_eq_some_iff_getElem];refine ⟨hl,by rw [he];exact hp,fun i hi => ?_⟩;have := hb i hi;rw [List.getD_eq_getElem?_getD,List.getElem?_eq_getElem (by omega)] at this
    simpa using this
  unfold idxOf;rw [this]
theorem idxOf_none {p : Int → Bool} {xs : List Int} (hb : ∀ i, i < xs.length → p (xs.getD i 0) = false) : idxOf p xs = -1 := by
  have : xs.findIdx? p = none := by
    rw [List.findIdx?_eq_none_iff];intro x hx;obtain ⟨i,hi,rfl⟩ := List.getElem_of_mem hx;have := hb i hi;rw [List.getD_eq_getElem?_getD,List.getElem?_eq_getElem hi] at this
    simpa using this
  unfold idxOf;rw [this]
theorem idxOf_any (p : Int → Bool) (xs : List Int) : decide (0 ≤ idxOf p xs) = xs.any p := by
  unfold idxOf
  cases h : xs.findIdx? p with
  | none =>
    rw [List.findIdx?_eq_none_iff] at h;have : xs.any p = false := by rw [List.any_eq_false];intro x hx;rw [h x hx];decide
    rw [this];rfl
  | some i =>
    rw [List.findIdx?_eq_some_iff_getElem] at h;obtain ⟨hi,hp,_⟩ := h;have : xs.any p = true := List.any_eq_true.2 ⟨_,List.getElem_mem hi,hp⟩;rw [this];exact decide_eq_true (show (0 : Int) ≤ (i : Int) by omega)
set_option maxHeartbeats 8000000 in
set_option maxRecDepth 100000 in
theorem IndexFunc.calls (f : FuncId) (cap : Array Value) (p : Int → Bool) (A0 : Option Addr) (c0 : Nat) (l0 : List Int) (w : World) (hr0 : Kd.C (Kd.int .i64) w A0 l0.length l0) (hc0 : l0.length ≤ c0) (ht : Tests f cap p l0 w) :
    Calls Try.prog 100 #[.slice A0 l0.length c0,.func (.func f) #[] cap] w fun e w' => e = .returned (.int .i64 (idxOf p l0)) ∧ Drawn0 w w' := by
  have HR0 := aK hr0;have HC0 := aK hc0;have HT := aK ht;have HM := aK hr0.2.1;clear hr0 hc0 ht;go_enter Try.func100,Try.ntmps100;go_wp2
  go_loopg [8] (l0.length + 1) (fun kq v8 w' => ∃ (x8 : Int),v8 = .int .i64 x8 ∧ Aside0 (∃ j : Nat,x8 = (j : Int) ∧ j ≤ l0.length ∧ kq + j = l0.length + 1 ∧ ∀ i,i < j → p (l0.getD i 0) = false) ∧ Drawn0 w w')
  case atStart => exact ⟨(0),rD,⟨0,rfl,Nat.zero_le _,rfl,fun i hi => absurd hi (Nat.not_lt_zero _)⟩,dD⟩
  case round =>
    obtain ⟨x8,rfl,⟨j,hj0,hj1,hj2,hj3⟩,⟨m1,rfl⟩⟩ := hrel;have HJ := aK hj0;have HJ1 := aK hj1;have HJ2 := aK hj2;have HJ3 := aK hj3;clear hj0 hj1 hj2 hj3
    by_cases c3 : x8 < (l0.length : Int)
    · have c3b0 : decide (x8 < (l0.length : Int)) = true := decide_eq_true c3
      have c4b0 : decide (0 ≤ x8) = true := decide_eq_true (by rw [HJ.out];omega);have p658 : 0 ≤ (x8 : Int) := of_decide_eq_true c4b0;obtain ⟨ad658,e658,hx658_0⟩ := Kd.at_int HR0.out x8 p658 c3;cases e658;obtain ⟨x,hx⟩ : ∃ x,l0[j]? = some x := ⟨_,List.getElem?_eq_getElem (by have := HJ.out;omega)⟩;have HX := aK hx;have hrd : rd l0 x8 = x := by
        unfold rd;rw [HJ.out,Int.toNat_natCast,List.getD_eq_getElem?_getD,hx];rfl
      have HRD := aK hrd;have HCL := aK (HT.out.2 x (List.mem_of_getElem? hx) m1);clear hx hrd;replace p658 := eq_true p658;replace c3 := eq_true c3
      cases hpx : p x with
      | true =>
        have HPX := aK hpx;clear hpx
        go_wp2_with ((with_reducible refine gate_dst (N := 16) rfl ?_);refine goesV_ (some 16) rfl rfl f cap HT.out.1 #[.int .i64 (rd l0 x8)] rfl rfl (by (try simp only [List.map_toArray,List.map_cons,List.map_nil]);first | done | rfl) ?_;rw [HRD.out];(with_reducible refine HCL.out.mono ?_);rintro e w' ⟨rfl,⟨nd,rfl⟩⟩;refine ⟨_,rfl,?_⟩;rw [HPX.out])
        go_ret;exact ⟨by rw [idxOf_at HX.out HPX.out HJ3.out,HJ.out];rfl,dD⟩
      | false =>
        have HPX := aK hpx;clear hpx
        go_wp2_with ((with_reducible refine gate_dst (N := 16) rfl ?_);refine goesV_ (some 16) rfl rfl f cap HT.out.1 #[.int .i64 (rd l0 x8)] rfl rfl (by (try simp only [List.map_toArray,List.map_cons,List.map_nil]);first | done | rfl) ?_;rw [HRD.out];(with_reducible refine HCL.out.mono ?_);rintro e w' ⟨rfl,⟨nd,rfl⟩⟩;refine ⟨_,rfl,?_⟩;rw [HPX.out])
        go_roundg (l0.length - j)
        case measure => have := HJ1.out;have := HJ2.out;have := HJ.out;omega
        case rel =>
          refine ⟨(wrap64 (x8 + 1)),rD,⟨j + 1,?_,?_,?_,?_⟩,dD⟩
          · have := HJ.out;have := HM.out;have := (List.getElem?_eq_some_iff.1 HX.out).1;unfold wrap64;omega
          · have := (List.getElem?_eq_some_iff.1 HX.out).1;omega
          · have := HJ1.out;have := HJ2.out;have := (List.getElem?_eq_some_iff.1 HX.out).1;omega
          · intro i hi
            rcases Nat.lt_or_ge i j with h | h
            · exact HJ3.out i h
            · have : i = j := by omega
              subst this;rw [List.getD_eq_getElem?_getD,HX.out];exact HPX.out
    · have c3b0 : decide (x8 < (l0.length : Int)) = false := decide_eq_false c3
      have HN := aK c3;clear c3;go_wp2;go_ret;refine ⟨?_,dD⟩;have hjl : j = l0.length := by have := HN.out;have := HJ.out;have := HJ1.out;omega
      rw [idxOf_none (fun i hi => HJ3.out i (by omega))]
      rfl
set_option maxHeartbeats 8000000 in
set_option maxRecDepth 100000 in
theorem ContainsFunc.calls (f : FuncId) (cap : Array Value) (p : Int → Bool) (A0 : Option Addr) (c0 : Nat) (l0 : List Int) (w : World) (hr0 : Kd.C (Kd.int .i64) w A0 l0.length l0) (hc0 : l0.length ≤ c0) (ht : Tests f cap p l0 w) :
    Calls Try.prog 98 #[.slice A0 l0.length c0,.func (.func f) #[] cap] w fun e w' => e = .returned (.bool (l0.any p)) ∧ Drawn0 w w' := by
  have HR0 := aK hr0;have HC0 := aK hc0;have HT := aK ht;clear hr0 hc0 ht;have HA := aK (idxOf_any p l0);go_enter Try.func98,Try.ntmps98
  go_wp2_with (go_at_call 100;(with_reducible refine (IndexFunc.calls f cap p _ _ l0 _ HR0.out HC0.out HT.out).mono ?_);rintro e w' ⟨rfl,⟨nd,rfl⟩⟩)
  go_ret;refine ⟨?_,dD⟩;rw [← HA.out]
  rfl
/-! ### cmp_isNaN_int64: function 116 -/
def cmp_isNaN_int64.f (a0 : Int) : Option (Bool) := some (a0 != a0)
set_option maxHeartbeats 8000000 in
set_option maxRecDepth 100000 in
theorem cmp_isNaN_int64.calls (a0 : Int) (r : Bool) (w : World) (h : cmp_isNaN_int64.f a0 = some r) :
 Calls Try.prog 116 #[.int .i64 a0] w fun e w' => e = .returned (.bool r) ∧ Drawn0 w w' := by
 have H := h;clear h;unfold cmp_isNaN_int64.f at H;obtain rfl := Option.some.inj H;go_enter Try.func116,Try.ntmps116;go_wp2;go_ret;exact ⟨rD,dD⟩
/-! ### cmp_Less_int64: function 113 -/
def cmp_Less_int64.f (a0 : Int) (a1 : Int) : Option (Bool) := (cmp_isNaN_int64.f a0).bind fun t105 => (if t105 = true then ((cmp_isNaN_int64.f a1).bind fun t106 => (if t106 = true then (some (decide (a0 < a1))) else (some true))) else (some (decide (a0 < a1))))
set_option maxHeartbeats 8000000 in
set_option maxRecDepth 100000 in
theorem cmp_Less_int64.calls (a0 : Int) (a1 : Int) (r : Bool) (w : World) (h : cmp_Less_int64.f a0 a1 = some r) :
 Calls Try.prog 113 #[.int .i64 a0,.int .i64 a1] w fun e w' => e = .returned (.bool r) ∧ Drawn0 w w' := by
 have H := h;clear h;unfold cmp_Less_int64.f at H;replace H := bE H;obtain ⟨t105,A3,H⟩ := H
 by_cases c4 : t105 = true
 ·subst c4;rw [if_pos rfl] at H;replace H := bE H;obtain ⟨t106,A5,H⟩ := H
  by_cases c6 : t106 = true
  ·subst c6;rw [if_pos rfl] at H;obtain rfl := Option.some.inj H;go_enter Try.func113,Try.ntmps113
   go_wp2_with (first | ((with_reducible refine gate_callee (f := 116) rfl ?_);refine goesE (some 6) Try.func116 #[.int .i64 a0] ?_;(with_reducible refine (cmp_isNaN_int64.calls a0 true _ A3.out).mono ?_);rintro e w' ⟨rfl,⟨nd,rfl⟩⟩;refine ⟨_,rfl,?_⟩) | (go_at_call 116;(with_reducible refine (cmp_isNaN_int64.calls a1 true _ A5.out).mono ?_);rintro e w' ⟨rfl,⟨nd,rfl⟩⟩))
   go_ret;exact ⟨rD,dD⟩
  ·replace c6 := Bool.eq_false_iff.mpr c6;subst c6;rw [if_neg (show ¬ (false = true) by decide)] at H;obtain rfl := Option.some.inj H;go_enter Try.func113,Try.ntmps113
   go_wp2_with (first | ((with_reducible refine gate_callee (f := 116) rfl ?_);refine goesE (some 6) Try.func116 #[.int .i64 a0] ?_;(with_reducible refine (cmp_isNaN_int64.calls a0 true _ A3.out).mono ?_);rintro e w' ⟨rfl,⟨nd,rfl⟩⟩;refine ⟨_,rfl,?_⟩) | (go_at_call 116;(with_reducible refine (cmp_isNaN_int64.calls a1 false _ A5.out).mono ?_);rintro e w' ⟨rfl,⟨nd,rfl⟩⟩))
   go_ret;exact ⟨rD,dD⟩
 ·replace c4 := Bool.eq_false_iff.mpr c4;subst c4;rw [if_neg (show ¬ (false = true) by decide)] at H;obtain rfl := Option.some.inj H;go_enter Try.func113,Try.ntmps113
  go_wp2_with (first | ((with_reducible refine gate_callee (f := 116) rfl ?_);refine goesE (some 6) Try.func116 #[.int .i64 a0] ?_;(with_reducible refine (cmp_isNaN_int64.calls a0 false _ A3.out).mono ?_);rintro e w' ⟨rfl,⟨nd,rfl⟩⟩;refine ⟨_,rfl,?_⟩))
  go_ret;exact ⟨rD,dD⟩
/-! ### slices_IsSorted_int64_int64: function 97 -/
def slices_IsSorted_int64_int64.l0 : Nat → List Int → Int → Option (Bool)
 | 0,_,_ => none
 | k + 1,x0,x3 => if x3 > 0 then (if 0 ≤ x3 then (if x3 < (x0.length : Int) then (if 0 ≤ (wrap64 (x3 - 1)) then (if (wrap64 (x3 - 1)) < (x0.length : Int) then ((cmp_Less_int64.f (rd x0 x3) (rd x0 (wrap64 (x3 - 1)))).bind fun t109 => (if t109 = true then (some false) else (slices_IsSorted_int64_int64.l0 k x0 (wrap64 (x3 - 1))))) else (none)) else (none)) else (none)) else (none)) else (some true)
def slices_IsSorted_int64_int64.f (k : Nat) (l0 : List Int) : Option (Bool) := slices_IsSorted_int64_int64.l0 k l0 (wrap64 ((l0.length : Int) - 1))
theorem slices_IsSorted_int64_int64.mono_l : ∀ k, (∀ y0 y1, LeO (slices_IsSorted_int64_int64.l0 k y0 y1) (slices_IsSorted_int64_int64.l0 (k + 1) y0 y1))
 | 0 => fun _ _ r h => by simp [slices_IsSorted_int64_int64.l0] at h
 | k + 1 => by
  have ih0 := slices_IsSorted_int64_int64.mono_l k
  ·intro y0 y1;unfold slices_IsSorted_int64_int64.l0
   repeat' first
   | (with_reducible exact ih0 _ _)
   | (with_reducible exact LeO.refl _)
   | (with_reducible exact LeO.none _)
   | (with_reducible refine LeO.ite ?_ ?_)
   | (with_reducible refine LeO.bind ?_ (fun _ => ?_))
   | exact ih0 _ _
   | exact LeO.none _
   | refine LeO.ite ?_ ?_
   | refine LeO.bind ?_ (fun _ => ?_)
theorem slices_IsSorted_int64_int64.mono : ∀ a0 k, LeO (slices_IsSorted_int64_int64.f k a0) (slices_IsSorted_int64_int64.f (k + 1) a0) := by
 intro a0 k;have ih0 := slices_IsSorted_int64_int64.mono_l k;unfold slices_IsSorted_int64_int64.f
 repeat' first
  | (with_reducible exact ih0 _ _)
  | (with_reducible exact LeO.refl _)
  | (with_reducible exact LeO.none _)
  | (with_reducible refine LeO.ite ?_ ?_)
  | (with_reducible refine LeO.bind ?_ (fun _ => ?_))
  | exact ih0 _ _
  | exact LeO.none _
  | refine LeO.ite ?_ ?_
  | refine LeO.bind ?_ (fun _ => ?_)
set_option maxHeartbeats 8000000 in
set_option maxRecDepth 100000 in
theorem slices_IsSorted_int64_int64.calls (k : Nat) (A0 : Option Addr) (c0 : Nat) (l0 : List Int) (r : Bool) (w : World) (hr0 : Kd.C (Kd.int .i64) w A0 l0.length l0) (hc0 : l0.length ≤ c0) (h : slices_IsSorted_int64_int64.f k l0 = some r) :
 Calls Try.prog 97 #[.slice A0 l0.length c0] w fun e w' => e = .returned (.bool r) ∧ Drawn0 w w' := by
 have HR0 := aK hr0;have HC0 := aK hc0;clear hr0 hc0;have H := h;clear h;unfold slices_IsSorted_int64_int64.f at H;have H' := aK H;clear H;go_enter Try.func97,Try.ntmps97;go_wp2
 repeat (go_quiet (fail);try go_wp2)
 go_loopg [3] k (fun kq v3 w' => ∃ (x3_1 : Int),v3 = .int .i64 x3_1 ∧ Aside0 (slices_IsSorted_int64_int64.l0 kq l0 x3_1 = some r) ∧ Aside0 (kq ≤ k) ∧ Drawn0 w w')
 case atStart => exact ⟨(wrap64 ((l0.length : Int) - 1)),rD,H',⟨Nat.le_refl _⟩,dD⟩
 case round =>
  clear H';obtain ⟨x3_1,rfl,HA,HK1,⟨m1,rfl⟩⟩ := hrel
  cases gk with
  | zero => exact absurd HA.out (by simp [slices_IsSorted_int64_int64.l0])
  | succ k1 =>
   have H := HA.out;clear HA;simp only [slices_IsSorted_int64_int64.l0] at H
   by_cases c2 : x3_1 > 0
   ·rw [if_pos c2] at H;have c2b0 := decide_eq_true c2;clear c2
    by_cases c3 : 0 ≤ x3_1
    rotate_left
    ·rw [if_neg c3] at H;exact absurd H (by simp)
    rw [if_pos c3] at H;have c3b0 := decide_eq_true c3;clear c3
    by_cases c4 : x3_1 < (l0.length : Int)
    rotate_left
    ·rw [if_neg c4] at H;exact absurd H (by simp)
    rw [if_pos c4] at H;have c4b0 := decide_eq_true c4;clear c4;obtain ⟨ji5,hji5⟩ : ∃ j_ : Int,(wrap64 (x3_1 - 1)) = j_ := ⟨_,rfl⟩;replace H : (if 0 ≤ (ji5) then (if (ji5) < (l0.length : Int) then ((cmp_Less_int64.f (rd l0 x3_1) (rd l0 (ji5))).bind fun t109 => (if t109 = true then (some false) else (slices_IsSorted_int64_int64.l0 k1 l0 ji5))) else (none)) else (none)) = some r := by first | (rw [hji5] at H;exact H) | (simp only [hji5] at H ⊢;exact H)
    have hji5w : (IntKind.i64.wrap (x3_1 - 1)) = ji5 := (i64_w _).trans hji5
    by_cases c6 : 0 ≤ (ji5)
    rotate_left
    ·rw [if_neg c6] at H;exact absurd H (by simp)
    rw [if_pos c6] at H;have c6b0 := decide_eq_true c6;clear c6
    by_cases c7 : (ji5) < (l0.length : Int)
    rotate_left
    ·rw [if_neg c7] at H;exact absurd H (by simp)
    rw [if_pos c7] at H;have c7b0 := decide_eq_true c7;clear c7;replace H := bE H;obtain ⟨t109,A8,H⟩ := H
    by_cases c9 : t109 = true
    ·subst c9;rw [if_pos rfl] at H;obtain rfl := Option.some.inj H;have p107 : 0 ≤ (x3_1 : Int) := dT;have q107 : x3_1 < (l0.length : Int) := dT;obtain ⟨ad107,e107,hx107_0⟩ := Kd.at_int HR0.out x3_1 p107 q107;cases e107;replace p107 := eq_true p107;replace q107 := eq_true q107;have p108 : 0 ≤ ((ji5) : Int) := dT;have q108 : (ji5) < (l0.length : Int) := dT;obtain ⟨ad108,e108,hx108_0⟩ := Kd.at_int HR0.out (ji5) p108 q108;obtain rfl : ad107 = ad108 := (by injection e108);replace p108 := eq_true p108;replace q108 := eq_true q108
     go_wp2_with (first | (go_at_call 113;(with_reducible refine (cmp_Less_int64.calls (rd l0 x3_1) (rd l0 (ji5)) true _ A8.out).mono ?_);rintro e w' ⟨rfl,⟨nd,rfl⟩⟩;(try first | exact ⟨rfl,_,World.drewN_drewN _ _ _⟩ | exact ⟨rfl,_,Eq.trans (World.drewN_drewN _ _ _) (congrArg (World.drewN _) (Nat.add_assoc _ _ _))⟩)))
     repeat (go_quiet (first | (go_at_call 113;(with_reducible refine (cmp_Less_int64.calls (rd l0 x3_1) (rd l0 (ji5)) true _ A8.out).mono ?_);rintro e w' ⟨rfl,⟨nd,rfl⟩⟩;(try first | exact ⟨rfl,_,World.drewN_drewN _ _ _⟩ | exact ⟨rfl,_,Eq.trans (World.drewN_drewN _ _ _) (congrArg (World.drewN _) (Nat.add_assoc _ _ _))⟩)));try go_wp2_with (first | (go_at_call 113;(with_reducible refine (cmp_Less_int64.calls (rd l0 x3_1) (rd l0 (ji5)) true _ A8.out).mono ?_);rintro e w' ⟨rfl,⟨nd,rfl⟩⟩;(try first | exact ⟨rfl,_,World.drewN_drewN _ _ _⟩ | exact ⟨rfl,_,Eq.trans (World.drewN_drewN _ _ _) (congrArg (World.drewN _) (Nat.add_assoc _ _ _))⟩))))
     go_ret;exact ⟨by first | rfl | (simp;done) | (simp only [← hji5] <;> (first | rfl | simp)) | (simp [*];done),dD⟩
    ·replace c9 := Bool.eq_false_iff.mpr c9;subst c9;rw [if_neg (show ¬ (false = true) by decide)] at H;have H' := aK H;clear H;have p107 : 0 ≤ (x3_1 : Int) := dT;have q107 : x3_1 < (l0.length : Int) := dT;obtain ⟨ad107,e107,hx107_0⟩ := Kd.at_int HR0.out x3_1 p107 q107;cases e107;replace p107 := eq_true p107;replace q107 := eq_true q107;have p108 : 0 ≤ ((ji5) : Int) := dT;have q108 : (ji5) < (l0.length : Int) := dT;obtain ⟨ad108,e108,hx108_0⟩ := Kd.at_int HR0.out (ji5) p108 q108;obtain rfl : ad107 = ad108 := (by injection e108);replace p108 := eq_true p108;replace q108 := eq_true q108
     go_wp2_with (first | (go_at_call 113;(with_reducible refine (cmp_Less_int64.calls (rd l0 x3_1) (rd l0 (ji5)) false _ A8.out).mono ?_);rintro e w' ⟨rfl,⟨nd,rfl⟩⟩;(try first | exact ⟨rfl,_,World.drewN_drewN _ _ _⟩ | exact ⟨rfl,_,Eq.trans (World.drewN_drewN _ _ _) (congrArg (World.drewN _) (Nat.add_assoc _ _ _))⟩)))
     repeat (go_quiet (first | (go_at_call 113;(with_reducible refine (cmp_Less_int64.calls (rd l0 x3_1) (rd l0 (ji5)) false _ A8.out).mono ?_);rintro e w' ⟨rfl,⟨nd,rfl⟩⟩;(try first | exact ⟨rfl,_,World.drewN_drewN _ _ _⟩ | exact ⟨rfl,_,Eq.trans (World.drewN_drewN _ _ _) (congrArg (World.drewN _) (Nat.add_assoc _ _ _))⟩)));try go_wp2_with (first | (go_at_call 113;(with_reducible refine (cmp_Less_int64.calls (rd l0 x3_1) (rd l0 (ji5)) false _ A8.out).mono ?_);rintro e w' ⟨rfl,⟨nd,rfl⟩⟩;(try first | exact ⟨rfl,_,World.drewN_drewN _ _ _⟩ | exact ⟨rfl,_,Eq.trans (World.drewN_drewN _ _ _) (congrArg (World.drewN _) (Nat.add_assoc _ _ _))⟩))))
     go_roundg k1
     case measure => have := HK1.out;omega
     case rel => exact ⟨(ji5),(by first | rfl | (simp;done) | (simp only [← hji5] <;> (first | rfl | simp)) | (simp [*];done)),H',⟨by have := HK1.out;omega⟩,dD⟩
   ·rw [if_neg c2] at H;have c2b0 := decide_eq_false c2;clear c2;obtain rfl := Option.some.inj H;go_wp2
    repeat (go_quiet (fail);try go_wp2)
    go_ret;exact ⟨rD,dD⟩
def Ivl (lo hi : Nat) : Nat → Prop := fun k => lo ≤ k ∧ k < hi
theorem R_ivl {α : Type} {d : Kd α} {e b : Nat} {W W' : World} {ok : Nat → Prop} {v : Value} {xs : List α} (h : Kd.R d e W' W.heap.size ok v xs) (hb : b ≤ W.heap.size) : Kd.R d e W' b (Ivl W.heap.size W'.heap.size) v xs :=
  Kd.R_lower (Kd.R_mono (Kd.R_bound h) (fun _ hk => ⟨hk.2.1,hk.2.2.1⟩)) hb
theorem S_ivl {α : Type} {d : Kd α} {e b : Nat} {W W' : World} {ok : Nat → Prop} {v : Value} {xs : List α} (h : Kd.S d e W' W.heap.size ok v xs) (hb : b ≤ W.heap.size) : Kd.S d e W' b (Ivl W.heap.size W'.heap.size) v xs :=
  Kd.S_lower (Kd.S_mono (Kd.S_bound h) (fun _ hk => ⟨hk.2.1,hk.2.2.1⟩)) hb
theorem N_ivl {α : Type} {d : Kd α} {e b : Nat} {W W' : World} {v : Value} {xs : List α} (h : Kd.N d e W' W.heap.size (fun k => W.heap.size ≤ k) v xs) (hb : b ≤ W.heap.size) : Kd.N d e W' b (Ivl W.heap.size W'.heap.size) v xs :=
  Kd.N_lower (Kd.N_mono (Kd.N_bound h) (fun _ hk => ⟨hk.1,hk.2⟩)) hb
theorem V_ivl {α : Type} {d : Kd α} {e b : Nat} {W W' : World} {v : Value} {xs : List α} (h : Kd.V d e W' W.heap.size (fun k => W.heap.size ≤ k) v xs) (_ : b ≤ W.heap.size) : Kd.V d e W' b (Ivl W.heap.size W'.heap.size) v xs :=
  Kd.V_mono (Kd.V_bound h) (fun _ hk => ⟨hk.1,hk.2⟩)
theorem calls_below {P : Program} {f : FuncId} {args : Array Value} {w : World} {x : Ending} (h : Calls P f args w fun e w' => e = x ∧ Drawn0 w w') : Calls P f args w fun e w' => e = x ∧ Below w.heap.size w w' :=
  h.mono fun _ _ h => ⟨h.1,h.2.below⟩
theorem calls_args {P : Program} {f : FuncId} {xs ys : Array Value} {w : World} {K : Ending → World → Prop} (h : xs = ys) (H : Calls P f ys w K) : Calls P f xs w K := h ▸ H
def sizeOk (least n : Int) : Bool := decide (least ≤ n) && decide (n ≤ 30)
theorem within_sizeOk (least n : Int) : impl_within.f n least 30 = some (sizeOk least n) := by
 unfold impl_within.f sizeOk
 by_cases c : least ≤ n
 ·rw [if_pos c,decide_eq_true c,Bool.true_and]
 ·rw [if_neg c,decide_eq_false c,Bool.false_and]
theorem areSizes1_has : HasFn 99 := ⟨_, Try.func99, by kernel_rfl, rfl⟩
set_option maxHeartbeats 8000000 in
set_option maxRecDepth 100000 in
theorem areSizes1.calls (gb : Nat) (least x : Int) (w : World) (hB : w.heap[gb]? = some (.cells #[.int .i64 least] 2 (0, 0))) :
 Calls Try.prog 99 (#[.int .i64 x] ++ #[.pointer (some ⟨gb,0,none⟩)]) w fun e w' => e = .returned (.bool (!(sizeOk least x))) ∧ Drawn0 w w' := by
 show Calls Try.prog 99 #[.int .i64 x,.pointer (some ⟨gb,0,none⟩)] w fun e w' => e = .returned (.bool (!(sizeOk least x))) ∧ Drawn0 w w'
 have hz : w.cell? ⟨gb,0,none⟩ = some (.int .i64 least) := (blk_cell hB 0).trans rfl;have hf := blk_frozen hB 0;have HW := aK (within_sizeOk least x)
 generalize sizeOk least x = b at *
 clear hB;go_enter Try.func99,Try.ntmps99
 go_wp2_with (go_at_call 86;(with_reducible refine (impl_within.calls x least 30 b _ HW.out).mono ?_);rintro e w' ⟨rfl,⟨nd,rfl⟩⟩)
 go_ret;exact ⟨rfl,dD⟩
theorem areSizes1_tests (gb : Nat) (least : Int) (xs : List Int) (w : World) (hB : w.heap[gb]? = some (.cells #[.int .i64 least] 2 (0, 0))) : Tests 99 #[.pointer (some ⟨gb, 0, none⟩)] (fun n => !(sizeOk least n)) xs w := ⟨areSizes1_has, fun x _ n => areSizes1.calls gb least x _ (blk_drewN hB n)⟩
def impl_areSizes.f (k : Nat) (l : List Int) (least : Int) : Option Bool := (slices_IsSorted_int64_int64.f k l).bind fun s => if s = true then some (!(l.any fun n => !(sizeOk least n))) else some false
theorem impl_areSizes.mono : ∀ a0 a1 k, LeO (impl_areSizes.f k a0 a1) (impl_areSizes.f (k + 1) a0 a1) := by
 intro a0 a1 k;unfold impl_areSizes.f;exact LeO.bind (slices_IsSorted_int64_int64.mono _ _) (fun _ => LeO.refl _)
set_option maxHeartbeats 8000000 in
set_option maxRecDepth 100000 in
theorem impl_areSizes.calls (k : Nat) (A0 : Option Addr) (c0 : Nat) (l0 : List Int) (a1 : Int) (r : Bool) (w : World) (hr0 : Kd.C (Kd.int .i64) w A0 l0.length l0) (hc0 : l0.length ≤ c0) (h : impl_areSizes.f k l0 a1 = some r) :
 Calls Try.prog 63 #[.slice A0 l0.length c0,.int .i64 a1] w fun e w' => e = .returned (.bool r) ∧ Below w.heap.size w w' := by
 have HR0 := aK hr0;have HC0 := aK hc0;clear hr0 hc0;have hmf : ∀ (fn : Fn) (first cap : Array Value) (w : World),(Instr.makeFunc fn first cap).run Try.prog w = .ok (.func fn first cap) w := fun _ _ _ _ => rfl
 have HB := aK (Below.refl w.heap.size w);unfold impl_areSizes.f at h;obtain ⟨s,A10,h⟩ := Option.bind_eq_some_iff.mp h;have A1 := aK A10;clear A10;cases s
 ·rw [if_neg (by decide)] at h;obtain rfl := Option.some.inj h;clear h;go_enter Try.func63,Try.ntmps63
  go_wp2_with (first | ((with_reducible refine gate_dst (N := 3) rfl ?_);(try (refine gate_guard (by rfl) ?_;dsimp only));refine boxE 3 #[.int .i64 a1] 2 ?_;intro gb1 hg w2 hbox hb;have GPgb1 := aK hg;have BK := aK hbox;clear hg hbox;replace HB := aK (below_then HB.out HB.out.size hb);clear hb) | ((with_reducible refine gate_dst (N := 6) rfl ?_);(try (refine gate_guard (by rfl) ?_;dsimp only));refine goesE (some 6) Try.func97 #[.slice A0 l0.length c0] ?_;(with_reducible refine (calls_below (slices_IsSorted_int64_int64.calls k _ _ l0 false _ ?side1 ?side2 A1.out)).mono ?_);(case side1 => exact Kd.C_below HR0.out HB.out);(case side2 => exact HC0.out);rintro e w3 ⟨rfl,hb⟩;refine ⟨_,rfl,?_⟩;replace HB := aK (below_then HB.out HB.out.size hb);replace BK := aK (blk_below (g := gb1) (o := .cells #[.int .i64 a1] 2 (0,0)) BK.out hb);clear hb))
  go_ret;exact ⟨rfl,HB.out⟩
 ·rw [if_pos rfl] at h;have e := Option.some.inj h;have E := aK (show (l0.any fun n => !(sizeOk a1 n)) = !r by rw [← e,Bool.not_not]);clear e h;go_enter Try.func63,Try.ntmps63
  go_wp2_with (first | ((with_reducible refine gate_dst (N := 3) rfl ?_);(try (refine gate_guard (by rfl) ?_;dsimp only));refine boxE 3 #[.int .i64 a1] 2 ?_;intro gb1 hg w2 hbox hb;have GPgb1 := aK hg;have BK := aK hbox;clear hg hbox;replace HB := aK (below_then HB.out HB.out.size hb);clear hb) | ((with_reducible refine gate_dst (N := 6) rfl ?_);(try (refine gate_guard (by rfl) ?_;dsimp only));refine goesE (some 6) Try.func97 #[.slice A0 l0.length c0] ?_;(with_reducible refine (calls_below (slices_IsSorted_int64_int64.calls k _ _ l0 true _ ?side1 ?side2 A1.out)).mono ?_);(case side1 => exact Kd.C_below HR0.out HB.out);(case side2 => exact HC0.out);rintro e w3 ⟨rfl,hb⟩;refine ⟨_,rfl,?_⟩;replace HB := aK (below_then HB.out HB.out.size hb);replace BK := aK (blk_below (g := gb1) (o := .cells #[.int .i64 a1] 2 (0,0)) BK.out hb);clear hb) | ((with_reducible refine gate_dst (N := 10) rfl ?_);(try (refine gate_guard (by rfl) ?_;dsimp only));refine goesE (some 10) Try.func98 #[.slice A0 l0.length c0,.func (.func 99) #[] #[.pointer (some ⟨gb1,0,none⟩)]] ?_;(with_reducible refine (calls_below (ContainsFunc.calls 99 #[.pointer (some ⟨gb1,0,none⟩)] (fun n => !(sizeOk a1 n)) _ _ l0 _ (Kd.C_below HR0.out HB.out) HC0.out (areSizes1_tests gb1 a1 l0 _ BK.out))).mono ?_);rw [E.out];rintro e w4 ⟨rfl,hb⟩;refine ⟨_,rfl,?_⟩;replace HB := aK (below_then HB.out HB.out.size hb);clear hb))
  go_ret;exact ⟨by simp,HB.out⟩
def impl_IsEnding.f (k : Nat) (l0 l1 : List Int) : Option Bool := (impl_areSizes.f k l0 1).bind fun s => if s = true then (impl_areSizes.f k l1 4).bind (fun t => if t = true then (if (l0.length : Int) < 4611686018427387904 then (if (l1.length : Int) < 4611686018427387904 then some (decide ((l0.length : Int) + (l1.length : Int) ≤ 8)) else none) else none) else some false) else some false
theorem impl_IsEnding.mono : ∀ a0 a1 k, LeO (impl_IsEnding.f k a0 a1) (impl_IsEnding.f (k + 1) a0 a1) := by
 intro a0 a1 k;unfold impl_IsEnding.f;exact LeO.bind (impl_areSizes.mono _ _ _) (fun _ => LeO.ite (LeO.bind (impl_areSizes.mono _ _ _) (fun _ => LeO.refl _)) (LeO.refl _))
set_option maxHeartbeats 8000000 in
set_option maxRecDepth 100000 in
theorem impl_IsEnding.calls (k : Nat) (A0_0 : Option Addr) (c0_0 : Nat) (l0_0 : List Int) (A0_1 : Option Addr) (c0_1 : Nat) (l0_1 : List Int) (r : Bool) (w : World) (hr0_0 : Kd.C (Kd.int .i64) w A0_0 l0_0.length l0_0) (hc0_0 : l0_0.length ≤ c0_0) (hr0_1 : Kd.C (Kd.int .i64) w A0_1 l0_1.length l0_1) (hc0_1 : l0_1.length ≤ c0_1) (h : impl_IsEnding.f k l0_0 l0_1 = some r) :
 Calls Try.prog 18 #[.agg #[.slice A0_0 l0_0.length c0_0,.slice A0_1 l0_1.length c0_1]] w fun e w' => e = .returned (.bool r) ∧ Below w.heap.size w w' := by
 have hu27 := Try.underlying27;have HR0 := aK hr0_0;have HC0 := aK hc0_0;have HR1 := aK hr0_1;have HC1 := aK hc0_1;clear hr0_0 hc0_0 hr0_1 hc0_1;have HB := aK (Below.refl w.heap.size w);unfold impl_IsEnding.f at h;obtain ⟨s,A10,h⟩ := Option.bind_eq_some_iff.mp h;have A1 := aK A10;clear A10;cases s
 ·rw [if_neg (by decide)] at h;obtain rfl := Option.some.inj h;clear h;go_enter Try.func18,Try.ntmps18
  go_wp2_with (first | ((with_reducible refine gate_dst (N := 1) rfl ?_);(try (refine gate_guard (by rfl) ?_;dsimp only));refine boxE 1 #[.slice A0_0 l0_0.length c0_0,.slice A0_1 l0_1.length c0_1] 27 ?_;intro gb1 hg w2 hbox hb;have GPgb1 := aK hg;have BK := aK hbox;clear hg hbox;replace HB := aK (below_then HB.out HB.out.size hb);clear hb;have hz_0 := y0 BK;have hz_1 := y1 BK;have hf_0 := blk_frozen BK.out 0;have hf_1 := blk_frozen BK.out 1) | ((with_reducible refine gate_dst (N := 5) rfl ?_);(try (refine gate_guard (by rfl) ?_;dsimp only));refine goesE (some 5) Try.func63 #[.slice A0_0 l0_0.length c0_0,.int .i64 1] ?_;(with_reducible refine (impl_areSizes.calls k _ _ l0_0 1 false _ ?side1 ?side2 A1.out).mono ?_);(case side1 => exact Kd.C_below HR0.out HB.out);(case side2 => exact HC0.out);rintro e w3 ⟨rfl,hb⟩;refine ⟨_,rfl,?_⟩;replace HB := aK (below_then HB.out HB.out.size hb);replace BK := aK (blk_below (g := gb1) (o := .cells #[.slice A0_0 l0_0.length c0_0,.slice A0_1 l0_1.length c0_1] 27 (0,0)) BK.out hb);clear hb;replace hz_0 := y0 BK;replace hz_1 := y1 BK;replace hf_0 := blk_frozen BK.out 0;replace hf_1 := blk_frozen BK.out 1))
  go_ret;exact ⟨rfl,HB.out⟩
 ·rw [if_pos rfl] at h;obtain ⟨t,A20,h⟩ := Option.bind_eq_some_iff.mp h;have A2 := aK A20;clear A20;cases t
  ·rw [if_neg (by decide)] at h;obtain rfl := Option.some.inj h;clear h;go_enter Try.func18,Try.ntmps18
   go_wp2_with (first | ((with_reducible refine gate_dst (N := 1) rfl ?_);(try (refine gate_guard (by rfl) ?_;dsimp only));refine boxE 1 #[.slice A0_0 l0_0.length c0_0,.slice A0_1 l0_1.length c0_1] 27 ?_;intro gb1 hg w2 hbox hb;have GPgb1 := aK hg;have BK := aK hbox;clear hg hbox;replace HB := aK (below_then HB.out HB.out.size hb);clear hb;have hz_0 := y0 BK;have hz_1 := y1 BK;have hf_0 := blk_frozen BK.out 0;have hf_1 := blk_frozen BK.out 1) | ((with_reducible refine gate_dst (N := 5) rfl ?_);(try (refine gate_guard (by rfl) ?_;dsimp only));refine goesE (some 5) Try.func63 #[.slice A0_0 l0_0.length c0_0,.int .i64 1] ?_;(with_reducible refine (impl_areSizes.calls k _ _ l0_0 1 true _ ?side1 ?side2 A1.out).mono ?_);(case side1 => exact Kd.C_below HR0.out HB.out);(case side2 => exact HC0.out);rintro e w3 ⟨rfl,hb⟩;refine ⟨_,rfl,?_⟩;replace HB := aK (below_then HB.out HB.out.size hb);replace BK := aK (blk_below (g := gb1) (o := .cells #[.slice A0_0 l0_0.length c0_0,.slice A0_1 l0_1.length c0_1] 27 (0,0)) BK.out hb);clear hb;replace hz_0 := y0 BK;replace hz_1 := y1 BK;replace hf_0 := blk_frozen BK.out 0;replace hf_1 := blk_frozen BK.out 1) | ((with_reducible refine gate_dst (N := 9) rfl ?_);(try (refine gate_guard (by rfl) ?_;dsimp only));refine goesE (some 9) Try.func63 #[.slice A0_1 l0_1.length c0_1,.int .i64 4] ?_;(with_reducible refine (impl_areSizes.calls k _ _ l0_1 4 false _ ?side1 ?side2 A2.out).mono ?_);(case side1 => exact Kd.C_below HR1.out HB.out);(case side2 => exact HC1.out);rintro e w4 ⟨rfl,hb⟩;refine ⟨_,rfl,?_⟩;replace HB := aK (below_then HB.out HB.out.size hb);replace BK := aK (blk_below (g := gb1) (o := .cells #[.slice A0_0 l0_0.length c0_0,.slice A0_1 l0_1.length c0_1] 27 (0,0)) BK.out hb);clear hb;replace hz_0 := y0 BK;replace hz_1 := y1 BK;replace hf_0 := blk_frozen BK.out 0;replace hf_1 := blk_frozen BK.out 1))
   go_ret;exact ⟨rfl,HB.out⟩
  ·rw [if_pos rfl] at h
   by_cases q0 : (l0_0.length : Int) < 4611686018427387904
   rotate_left
   ·rw [if_neg q0] at h;exact absurd h (by simp)
   rw [if_pos q0] at h
   by_cases q1 : (l0_1.length : Int) < 4611686018427387904
   rotate_left
   ·rw [if_neg q1] at h;exact absurd h (by simp)
   rw [if_pos q1] at h;have e := Option.some.inj h;have ew : wrap64 ((l0_0.length : Int) + (l0_1.length : Int)) = (l0_0.length : Int) + (l0_1.length : Int) := by unfold wrap64;omega
   clear h q0 q1;go_enter Try.func18,Try.ntmps18
   go_wp2_with (first | ((with_reducible refine gate_dst (N := 1) rfl ?_);(try (refine gate_guard (by rfl) ?_;dsimp only));refine boxE 1 #[.slice A0_0 l0_0.length c0_0,.slice A0_1 l0_1.length c0_1] 27 ?_;intro gb1 hg w2 hbox hb;have GPgb1 := aK hg;have BK := aK hbox;clear hg hbox;replace HB := aK (below_then HB.out HB.out.size hb);clear hb;have hz_0 := y0 BK;have hz_1 := y1 BK;have hf_0 := blk_frozen BK.out 0;have hf_1 := blk_frozen BK.out 1) | ((with_reducible refine gate_dst (N := 5) rfl ?_);(try (refine gate_guard (by rfl) ?_;dsimp only));refine goesE (some 5) Try.func63 #[.slice A0_0 l0_0.length c0_0,.int .i64 1] ?_;(with_reducible refine (impl_areSizes.calls k _ _ l0_0 1 true _ ?side1 ?side2 A1.out).mono ?_);(case side1 => exact Kd.C_below HR0.out HB.out);(case side2 => exact HC0.out);rintro e w3 ⟨rfl,hb⟩;refine ⟨_,rfl,?_⟩;replace HB := aK (below_then HB.out HB.out.size hb);replace BK := aK (blk_below (g := gb1) (o := .cells #[.slice A0_0 l0_0.length c0_0,.slice A0_1 l0_1.length c0_1] 27 (0,0)) BK.out hb);clear hb;replace hz_0 := y0 BK;replace hz_1 := y1 BK;replace hf_0 := blk_frozen BK.out 0;replace hf_1 := blk_frozen BK.out 1) | ((with_reducible refine gate_dst (N := 9) rfl ?_);(try (refine gate_guard (by rfl) ?_;dsimp only));refine goesE (some 9) Try.func63 #[.slice A0_1 l0_1.length c0_1,.int .i64 4] ?_;(with_reducible refine (impl_areSizes.calls k _ _ l0_1 4 true _ ?side1 ?side2 A2.out).mono ?_);(case side1 => exact Kd.C_below HR1.out HB.out);(case side2 => exact HC1.out);rintro e w4 ⟨rfl,hb⟩;refine ⟨_,rfl,?_⟩;replace HB := aK (below_then HB.out HB.out.size hb);replace BK := aK (blk_below (g := gb1) (o := .cells #[.slice A0_0 l0_0.length c0_0,.slice A0_1 l0_1.length c0_1] 27 (0,0)) BK.out hb);clear hb;replace hz_0 := y0 BK;replace hz_1 := y1 BK;replace hf_0 := blk_frozen BK.out 0;replace hf_1 := blk_frozen BK.out 1))
   go_ret;exact ⟨by rw [← e];rfl,HB.out⟩
/-! ### impl_sum: function 65 -/
def impl_sum.l0 : Nat → Int → List Int → Int → Int → Option (Int)
 | 0,_,_,_,_ => none
 | k + 1,x3,x6,x7,x8 => if x8 < x7 then (if 0 ≤ x8 then (if x8 < (x6.length : Int) then (impl_sum.l0 k (wrap64 (x3 + (rd x6 x8))) x6 x7 (wrap64 (x8 + 1))) else (none)) else (none)) else (some x3)
def impl_sum.f (k : Nat) (l0 : List Int) : Option (Int) := impl_sum.l0 k 0 l0 (l0.length : Int) 0
theorem impl_sum.mono_l : ∀ k, (∀ y0 y1 y2 y3, LeO (impl_sum.l0 k y0 y1 y2 y3) (impl_sum.l0 (k + 1) y0 y1 y2 y3))
 | 0 => fun _ _ _ _ r h => by simp [impl_sum.l0] at h
 | k + 1 => by
  have ih0 := impl_sum.mono_l k
  ·intro y0 y1 y2 y3;unfold impl_sum.l0
   repeat' first
   | (with_reducible exact ih0 _ _ _ _)
   | (with_reducible exact LeO.refl _)
   | (with_reducible exact LeO.none _)
   | (with_reducible refine LeO.ite ?_ ?_)
   | (with_reducible refine LeO.bind ?_ (fun _ => ?_))
   | exact ih0 _ _ _ _
   | exact LeO.none _
   | refine LeO.ite ?_ ?_
   | refine LeO.bind ?_ (fun _ => ?_)
theorem impl_sum.mono : ∀ a0 k, LeO (impl_sum.f k a0) (impl_sum.f (k + 1) a0) := by
 intro a0 k;have ih0 := impl_sum.mono_l k;unfold impl_sum.f
 repeat' first
  | (with_reducible exact ih0 _ _ _ _)
  | (with_reducible exact LeO.refl _)
  | (with_reducible exact LeO.none _)
  | (with_reducible refine LeO.ite ?_ ?_)
  | (with_reducible refine LeO.bind ?_ (fun _ => ?_))
  | exact ih0 _ _ _ _
  | exact LeO.none _
  | refine LeO.ite ?_ ?_
  | refine LeO.bind ?_ (fun _ => ?_)
set_option maxHeartbeats 8000000 in
set_option maxRecDepth 100000 in
theorem impl_sum.calls (k : Nat) (A0 : Option Addr) (c0 : Nat) (l0 : List Int) (r : Int) (w : World) (hr0 : Kd.C (Kd.int .i64) w A0 l0.length l0) (hc0 : l0.length ≤ c0) (h : impl_sum.f k l0 = some r) :
 Calls Try.prog 65 #[.slice A0 l0.length c0] w fun e w' => e = .returned (.int .i64 r) ∧ Drawn0 w w' := by
 have HR0 := aK hr0;have HC0 := aK hc0;clear hr0 hc0;have H := h;clear h;unfold impl_sum.f at H;have H' := aK H;clear H;go_enter Try.func65,Try.ntmps65;go_wp2
 go_loopg [3,8] k (fun kq v3 v8 w' => ∃ (x3_1 : Int) (x8_1 : Int),v3 = .int .i64 x3_1 ∧ v8 = .int .i64 x8_1 ∧ Aside0 (impl_sum.l0 kq x3_1 l0 (l0.length : Int) x8_1 = some r) ∧ Aside0 (kq ≤ k) ∧ Drawn0 w w')
 case atStart => exact ⟨(0),(0),rD,rD,H',⟨Nat.le_refl _⟩,dD⟩
 case round =>
  clear H';obtain ⟨x3_1,x8_1,rfl,rfl,HA,HK1,⟨m1,rfl⟩⟩ := hrel
  cases gk with
  | zero => exact absurd HA.out (by simp [impl_sum.l0])
  | succ k1 =>
   have H := HA.out;clear HA;simp only [impl_sum.l0] at H
   by_cases c2 : x8_1 < (l0.length : Int)
   ·rw [if_pos c2] at H;have c2b0 := decide_eq_true c2;clear c2
    by_cases c3 : 0 ≤ x8_1
    rotate_left
    ·rw [if_neg c3] at H;exact absurd H (by simp)
    rw [if_pos c3] at H;have c3b0 := decide_eq_true c3;clear c3
    by_cases c4 : x8_1 < (l0.length : Int)
    rotate_left
    ·rw [if_neg c4] at H;exact absurd H (by simp)
    rw [if_pos c4] at H;have c4b0 := decide_eq_true c4;clear c4;have H' := aK H;clear H;have p113 : 0 ≤ (x8_1 : Int) := dT;have q113 : x8_1 < (l0.length : Int) := dT;obtain ⟨ad113,e113,hx113_0⟩ := Kd.at_int HR0.out x8_1 p113 q113;cases e113;replace p113 := eq_true p113;replace q113 := eq_true q113;go_wp2
    go_roundg k1
    case measure => have := HK1.out;omega
    case rel => exact ⟨(wrap64 (x3_1 + (rd l0 x8_1))),(wrap64 (x8_1 + 1)),rD,rD,H',⟨by have := HK1.out;omega⟩,dD⟩
   ·rw [if_neg c2] at H;have c2b0 := decide_eq_false c2;clear c2;obtain rfl := Option.some.inj H;go_wp2;go_ret;exact ⟨rD,dD⟩
/-! ### impl_BoxesOf: function 21 -/
def impl_BoxesOf.f (k : Nat) (l0_0 : List Int) (l0_1 : List Int) : Option (Int × Int) := (impl_IsEnding.f k l0_0 l0_1).bind fun t115 => (if t115 = true then ((impl_sum.f k l0_0).bind fun t116 => ((impl_sum.f k l0_1).bind fun t117 => (some (wrap64 (t116 + t117), 0)))) else (some (0, 1)))
theorem impl_BoxesOf.mono : ∀ a0 a1 k, LeO (impl_BoxesOf.f k a0 a1) (impl_BoxesOf.f (k + 1) a0 a1) := by
 intro a0 a1 k;unfold impl_BoxesOf.f
 repeat' first
  | (with_reducible exact impl_IsEnding.mono _ _ _)
  | (with_reducible exact impl_sum.mono _ _)
  | (with_reducible exact LeO.refl _)
  | (with_reducible exact LeO.none _)
  | (with_reducible refine LeO.ite ?_ ?_)
  | (with_reducible refine LeO.bind ?_ (fun _ => ?_))
  | exact impl_IsEnding.mono _ _ _
  | exact impl_sum.mono _ _
  | exact LeO.none _
  | refine LeO.ite ?_ ?_
  | refine LeO.bind ?_ (fun _ => ?_)
set_option maxHeartbeats 8000000 in
set_option maxRecDepth 100000 in
theorem impl_BoxesOf.calls (k : Nat) (A0_0 : Option Addr) (c0_0 : Nat) (l0_0 : List Int) (A0_1 : Option Addr) (c0_1 : Nat) (l0_1 : List Int) (r1 : Int) (r2 : Int) (w : World) (hr0_0 : Kd.C (Kd.int .i64) w A0_0 l0_0.length l0_0) (hc0_0 : l0_0.length ≤ c0_0) (hr0_1 : Kd.C (Kd.int .i64) w A0_1 l0_1.length l0_1) (hc0_1 : l0_1.length ≤ c0_1) (h : impl_BoxesOf.f k l0_0 l0_1 = some (r1, r2)) :
 Calls Try.prog 21 #[.agg #[.slice A0_0 l0_0.length c0_0,.slice A0_1 l0_1.length c0_1]] w fun e w' => e = .returned (.tuple #[.int .i64 r1,.int .i64 r2]) ∧ Below w.heap.size w w' := by
 have hu27 := Try.underlying27;have HR0_0 := aK hr0_0;have HC0_0 := aK hc0_0;clear hr0_0 hc0_0;have HR0_1 := aK hr0_1;have HC0_1 := aK hc0_1;clear hr0_1 hc0_1;have HB := aK (Below.refl w.heap.size w);have H := h;clear h;unfold impl_BoxesOf.f at H;replace H := bE H;obtain ⟨t115,A2,H⟩ := H
 by_cases c3 : t115 = true
 ·subst c3;rw [if_pos rfl] at H;replace H := bE H;obtain ⟨t116,A4,H⟩ := H;replace H := bE H;obtain ⟨t117,A5,H⟩ := H;simp only [Option.some.injEq,Prod.mk.injEq] at H;obtain ⟨rfl,rfl⟩ := H;go_enter Try.func21,Try.ntmps21
  go_wp2_with (first | ((with_reducible refine gate_dst (N := 1) rfl ?_);refine boxE 1 #[.slice A0_0 l0_0.length c0_0,.slice A0_1 l0_1.length c0_1] 27 ?_;intro gb114 hg w6 hbox hb;have BK114 := aK (hbox);have GW114 := aK (zG HB hg);have GE114 := aK (zG HB hg);replace HB := hB HB hb;clear hb hbox hg;have hcz7_0 := y0 BK114;have hcz7_1 := y1 BK114;have hfz7_0 := blk_frozen BK114.out 0;have hfz7_1 := blk_frozen BK114.out 1) | (go_at_call 18;(with_reducible refine (impl_IsEnding.calls k _ _ l0_0 _ _ l0_1 true _ ?side1 ?side2 ?side3 ?side4 A2.out).mono ?_);(case side1 => exact cB HR0_0 HB);(case side2 => exact HC0_0.out);(case side3 => exact cB HR0_1 HB);(case side4 => exact HC0_1.out);rintro e w8 ⟨rfl,hb⟩;replace BK114 := kB BK114 hb;replace HB := hB HB hb;clear hb;have hcz9_0 := y0 BK114;have hcz9_1 := y1 BK114;have hfz9_0 := blk_frozen BK114.out 0;have hfz9_1 := blk_frozen BK114.out 1) | (go_at_call 65;(with_reducible refine (impl_sum.calls k _ _ l0_0 t116 _ ?side1 ?side2 A4.out).mono ?_);(case side1 => exact cB HR0_0 HB);(case side2 => exact HC0_0.out);rintro e w' ⟨rfl,⟨nd,rfl⟩⟩;(try first | exact ⟨rfl,_,World.drewN_drewN _ _ _⟩ | exact ⟨rfl,_,Eq.trans (World.drewN_drewN _ _ _) (congrArg (World.drewN _) (Nat.add_assoc _ _ _))⟩)) | (go_at_call 65;(with_reducible refine (impl_sum.calls k _ _ l0_1 t117 _ ?side1 ?side2 A5.out).mono ?_);(case side1 => exact cM ((Kd.C_below HR0_1.out (bN HB))));(case side2 => exact HC0_1.out);rintro e w' ⟨rfl,⟨nd,rfl⟩⟩;(try first | exact ⟨rfl,_,World.drewN_drewN _ _ _⟩ | exact ⟨rfl,_,Eq.trans (World.drewN_drewN _ _ _) (congrArg (World.drewN _) (Nat.add_assoc _ _ _))⟩)))
  repeat (go_quiet (first | ((with_reducible refine gate_dst (N := 1) rfl ?_);refine box_event ?hg (N := 1) ?hd (cs := #[.slice A0_0 l0_0.length c0_0,.slice A0_1 l0_1.length c0_1]) (t := 27) ?hr ?_;(case hd => rfl);(case hg => rfl);(case hr => first | (go_simp;done) | (go_simp;rfl));intro gb114 hg w6 hbox hb;have n0_ := hB HB hb;have n1_ := aK (hbox);have n2_ := aK (zG HB hg);have n3_ := aK (zG HB hg);replace HB := n0_;have BK114 := n1_;have GW114 := n2_;have GE114 := n3_;clear n0_ n1_ n2_ n3_;clear hb hbox hg;have hcz7_0 := y0 BK114;have hcz7_1 := y1 BK114;have hfz7_0 := blk_frozen BK114.out 0;have hfz7_1 := blk_frozen BK114.out 1) | (go_at_call 18;(with_reducible refine (impl_IsEnding.calls k _ _ l0_0 _ _ l0_1 true _ ?side1 ?side2 ?side3 ?side4 A2.out).mono ?_);(case side1 => exact cB HR0_0 HB);(case side2 => exact HC0_0.out);(case side3 => exact cB HR0_1 HB);(case side4 => exact HC0_1.out);rintro e w8 ⟨rfl,hb⟩;have n0_ := kB BK114 hb;have n1_ := hB HB hb;clear BK114;clear HB;have BK114 := n0_;have HB := n1_;clear n0_ n1_;(try clear hb);(try clear hb2);(try clear hk);(try clear hi);have hcz9_0 := y0 BK114;have hcz9_1 := y1 BK114;have hfz9_0 := blk_frozen BK114.out 0;have hfz9_1 := blk_frozen BK114.out 1) | (go_at_call 65;(with_reducible refine (impl_sum.calls k _ _ l0_0 t116 _ ?side1 ?side2 A4.out).mono ?_);(case side1 => exact cB HR0_0 HB);(case side2 => exact HC0_0.out);rintro e w' ⟨rfl,⟨nd,rfl⟩⟩;(try first | exact ⟨rfl,_,World.drewN_drewN _ _ _⟩ | exact ⟨rfl,_,Eq.trans (World.drewN_drewN _ _ _) (congrArg (World.drewN _) (Nat.add_assoc _ _ _))⟩)) | (go_at_call 65;(with_reducible refine (impl_sum.calls k _ _ l0_1 t117 _ ?side1 ?side2 A5.out).mono ?_);(case side1 => exact cM ((Kd.C_below HR0_1.out (bN HB))));(case side2 => exact HC0_1.out);rintro e w' ⟨rfl,⟨nd,rfl⟩⟩;(try first | exact ⟨rfl,_,World.drewN_drewN _ _ _⟩ | exact ⟨rfl,_,Eq.trans (World.drewN_drewN _ _ _) (congrArg (World.drewN _) (Nat.add_assoc _ _ _))⟩)));try go_wp2_with (first | ((with_reducible refine gate_dst (N := 1) rfl ?_);refine box_event ?hg (N := 1) ?hd (cs := #[.slice A0_0 l0_0.length c0_0,.slice A0_1 l0_1.length c0_1]) (t := 27) ?hr ?_;(case hd => rfl);(case hg => rfl);(case hr => first | (go_simp;done) | (go_simp;rfl));intro gb114 hg w6 hbox hb;have n0_ := hB HB hb;have n1_ := aK (hbox);have n2_ := aK (zG HB hg);have n3_ := aK (zG HB hg);replace HB := n0_;have BK114 := n1_;have GW114 := n2_;have GE114 := n3_;clear n0_ n1_ n2_ n3_;clear hb hbox hg;have hcz7_0 := y0 BK114;have hcz7_1 := y1 BK114;have hfz7_0 := blk_frozen BK114.out 0;have hfz7_1 := blk_frozen BK114.out 1) | (go_at_call 18;(with_reducible refine (impl_IsEnding.calls k _ _ l0_0 _ _ l0_1 true _ ?side1 ?side2 ?side3 ?side4 A2.out).mono ?_);(case side1 => exact cB HR0_0 HB);(case side2 => exact HC0_0.out);(case side3 => exact cB HR0_1 HB);(case side4 => exact HC0_1.out);rintro e w8 ⟨rfl,hb⟩;have n0_ := kB BK114 hb;have n1_ := hB HB hb;clear BK114;clear HB;have BK114 := n0_;have HB := n1_;clear n0_ n1_;(try clear hb);(try clear hb2);(try clear hk);(try clear hi);have hcz9_0 := y0 BK114;have hcz9_1 := y1 BK114;have hfz9_0 := blk_frozen BK114.out 0;have hfz9_1 := blk_frozen BK114.out 1) | (go_at_call 65;(with_reducible refine (impl_sum.calls k _ _ l0_0 t116 _ ?side1 ?side2 A4.out).mono ?_);(case side1 => exact cB HR0_0 HB);(case side2 => exact HC0_0.out);rintro e w' ⟨rfl,⟨nd,rfl⟩⟩;(try first | exact ⟨rfl,_,World.drewN_drewN _ _ _⟩ | exact ⟨rfl,_,Eq.trans (World.drewN_drewN _ _ _) (congrArg (World.drewN _) (Nat.add_assoc _ _ _))⟩)) | (go_at_call 65;(with_reducible refine (impl_sum.calls k _ _ l0_1 t117 _ ?side1 ?side2 A5.out).mono ?_);(case side1 => exact cM ((Kd.C_below HR0_1.out (bN HB))));(case side2 => exact HC0_1.out);rintro e w' ⟨rfl,⟨nd,rfl⟩⟩;(try first | exact ⟨rfl,_,World.drewN_drewN _ _ _⟩ | exact ⟨rfl,_,Eq.trans (World.drewN_drewN _ _ _) (congrArg (World.drewN _) (Nat.add_assoc _ _ _))⟩))))
  go_ret2;exact eR (bN HB)
 ·replace c3 := Bool.eq_false_iff.mpr c3;subst c3;rw [if_neg (show ¬ (false = true) by decide)] at H;simp only [Option.some.injEq,Prod.mk.injEq] at H;obtain ⟨rfl,rfl⟩ := H;go_enter Try.func21,Try.ntmps21
  go_wp2_with (first | ((with_reducible refine gate_dst (N := 1) rfl ?_);refine boxE 1 #[.slice A0_0 l0_0.length c0_0,.slice A0_1 l0_1.length c0_1] 27 ?_;intro gb114 hg w10 hbox hb;have BK114 := aK (hbox);have GW114 := aK (zG HB hg);have GE114 := aK (zG HB hg);replace HB := hB HB hb;clear hb hbox hg;have hcz11_0 := y0 BK114;have hcz11_1 := y1 BK114;have hfz11_0 := blk_frozen BK114.out 0;have hfz11_1 := blk_frozen BK114.out 1) | (go_at_call 18;(with_reducible refine (impl_IsEnding.calls k _ _ l0_0 _ _ l0_1 false _ ?side1 ?side2 ?side3 ?side4 A2.out).mono ?_);(case side1 => exact cB HR0_0 HB);(case side2 => exact HC0_0.out);(case side3 => exact cB HR0_1 HB);(case side4 => exact HC0_1.out);rintro e w12 ⟨rfl,hb⟩;replace BK114 := kB BK114 hb;replace HB := hB HB hb;clear hb))
  repeat (go_quiet (first | ((with_reducible refine gate_dst (N := 1) rfl ?_);refine box_event ?hg (N := 1) ?hd (cs := #[.slice A0_0 l0_0.length c0_0,.slice A0_1 l0_1.length c0_1]) (t := 27) ?hr ?_;(case hd => rfl);(case hg => rfl);(case hr => first | (go_simp;done) | (go_simp;rfl));intro gb114 hg w10 hbox hb;have n0_ := hB HB hb;have n1_ := aK (hbox);have n2_ := aK (zG HB hg);have n3_ := aK (zG HB hg);replace HB := n0_;have BK114 := n1_;have GW114 := n2_;have GE114 := n3_;clear n0_ n1_ n2_ n3_;clear hb hbox hg;have hcz11_0 := y0 BK114;have hcz11_1 := y1 BK114;have hfz11_0 := blk_frozen BK114.out 0;have hfz11_1 := blk_frozen BK114.out 1) | (go_at_call 18;(with_reducible refine (impl_IsEnding.calls k _ _ l0_0 _ _ l0_1 false _ ?side1 ?side2 ?side3 ?side4 A2.out).mono ?_);(case side1 => exact cB HR0_0 HB);(case side2 => exact HC0_0.out);(case side3 => exact cB HR0_1 HB);(case side4 => exact HC0_1.out);rintro e w12 ⟨rfl,hb⟩;have n0_ := kB BK114 hb;have n1_ := hB HB hb;clear BK114;clear HB;have BK114 := n0_;have HB := n1_;clear n0_ n1_;(try clear hb);(try clear hb2);(try clear hk);(try clear hi)));try go_wp2_with (first | ((with_reducible refine gate_dst (N := 1) rfl ?_);refine box_event ?hg (N := 1) ?hd (cs := #[.slice A0_0 l0_0.length c0_0,.slice A0_1 l0_1.length c0_1]) (t := 27) ?hr ?_;(case hd => rfl);(case hg => rfl);(case hr => first | (go_simp;done) | (go_simp;rfl));intro gb114 hg w10 hbox hb;have n0_ := hB HB hb;have n1_ := aK (hbox);have n2_ := aK (zG HB hg);have n3_ := aK (zG HB hg);replace HB := n0_;have BK114 := n1_;have GW114 := n2_;have GE114 := n3_;clear n0_ n1_ n2_ n3_;clear hb hbox hg;have hcz11_0 := y0 BK114;have hcz11_1 := y1 BK114;have hfz11_0 := blk_frozen BK114.out 0;have hfz11_1 := blk_frozen BK114.out 1) | (go_at_call 18;(with_reducible refine (impl_IsEnding.calls k _ _ l0_0 _ _ l0_1 false _ ?side1 ?side2 ?side3 ?side4 A2.out).mono ?_);(case side1 => exact cB HR0_0 HB);(case side2 => exact HC0_0.out);(case side3 => exact cB HR0_1 HB);(case side4 => exact HC0_1.out);rintro e w12 ⟨rfl,hb⟩;have n0_ := kB BK114 hb;have n1_ := hB HB hb;clear BK114;clear HB;have BK114 := n0_;have HB := n1_;clear n0_ n1_;(try clear hb);(try clear hb2);(try clear hk);(try clear hi))))
  go_ret2;exact eR (bN HB)
/-! ### spec_l04Is: function 61 -/
def spec_l04Is.f (k : Nat) (l0_0 : List Int) (l0_1 : List Int) : Option (Bool) := if (wrap64 ((l0_0.length : Int) + (l0_1.length : Int))) ≤ 8 then ((spec_l04Ascends.f k l0_0 1).bind fun t119 => (if t119 = true then ((spec_l04Ascends.f k l0_1 4).bind fun t120 => (some t120)) else (some false))) else (some false)
theorem spec_l04Is.mono : ∀ a0 a1 k, LeO (spec_l04Is.f k a0 a1) (spec_l04Is.f (k + 1) a0 a1) := by
 intro a0 a1 k;unfold spec_l04Is.f
 repeat' first
  | (with_reducible exact spec_l04Ascends.mono _ _ _)
  | (with_reducible exact LeO.refl _)
  | (with_reducible exact LeO.none _)
  | (with_reducible refine LeO.ite ?_ ?_)
  | (with_reducible refine LeO.bind ?_ (fun _ => ?_))
  | exact spec_l04Ascends.mono _ _ _
  | exact LeO.none _
  | refine LeO.ite ?_ ?_
  | refine LeO.bind ?_ (fun _ => ?_)
set_option maxHeartbeats 8000000 in
set_option maxRecDepth 100000 in
theorem spec_l04Is.calls (k : Nat) (A0_0 : Option Addr) (c0_0 : Nat) (l0_0 : List Int) (A0_1 : Option Addr) (c0_1 : Nat) (l0_1 : List Int) (r : Bool) (w : World) (hr0_0 : Kd.C (Kd.int .i64) w A0_0 l0_0.length l0_0) (hc0_0 : l0_0.length ≤ c0_0) (hr0_1 : Kd.C (Kd.int .i64) w A0_1 l0_1.length l0_1) (hc0_1 : l0_1.length ≤ c0_1) (h : spec_l04Is.f k l0_0 l0_1 = some r) :
 Calls Try.prog 61 #[.agg #[.slice A0_0 l0_0.length c0_0,.slice A0_1 l0_1.length c0_1]] w fun e w' => e = .returned (.bool r) ∧ Below w.heap.size w w' := by
 have hu27 := Try.underlying27;have HR0_0 := aK hr0_0;have HC0_0 := aK hc0_0;clear hr0_0 hc0_0;have HR0_1 := aK hr0_1;have HC0_1 := aK hc0_1;clear hr0_1 hc0_1;have HB := aK (Below.refl w.heap.size w);have H := h;clear h;unfold spec_l04Is.f at H
 by_cases c2 : (wrap64 ((l0_0.length : Int) + (l0_1.length : Int))) ≤ 8
 ·rw [if_pos c2] at H;have c2b0 := decide_eq_true c2;clear c2;replace H := bE H;obtain ⟨t119,A3,H⟩ := H
  by_cases c4 : t119 = true
  ·subst c4;rw [if_pos rfl] at H;replace H := bE H;obtain ⟨t120,A5,H⟩ := H;obtain rfl := Option.some.inj H;go_enter Try.func61,Try.ntmps61
   go_wp2_with (first | ((with_reducible refine gate_dst (N := 1) rfl ?_);refine boxE 1 #[.slice A0_0 l0_0.length c0_0,.slice A0_1 l0_1.length c0_1] 27 ?_;intro gb118 hg w6 hbox hb;have BK118 := aK (hbox);have GW118 := aK (zG HB hg);have GE118 := aK (zG HB hg);replace HB := hB HB hb;clear hb hbox hg;have hcz7_0 := y0 BK118;have hcz7_1 := y1 BK118;have hfz7_0 := blk_frozen BK118.out 0;have hfz7_1 := blk_frozen BK118.out 1) | (go_at_call 96;(with_reducible refine (spec_l04Ascends.calls k _ _ l0_0 1 true _ ?side1 ?side2 A3.out).mono ?_);(case side1 => exact cB HR0_0 HB);(case side2 => exact HC0_0.out);rintro e w8 ⟨rfl,hb⟩;replace BK118 := kB BK118 hb;replace HB := hB HB hb;clear hb;have hcz9_0 := y0 BK118;have hcz9_1 := y1 BK118;have hfz9_0 := blk_frozen BK118.out 0;have hfz9_1 := blk_frozen BK118.out 1) | (go_at_call 96;(with_reducible refine (spec_l04Ascends.calls k _ _ l0_1 4 t120 _ ?side1 ?side2 A5.out).mono ?_);(case side1 => exact cB HR0_1 HB);(case side2 => exact HC0_1.out);rintro e w10 ⟨rfl,hb⟩;replace BK118 := kB BK118 hb;replace HB := hB HB hb;clear hb))
   go_ret;exact eR (bN HB)
  ·replace c4 := Bool.eq_false_iff.mpr c4;subst c4;rw [if_neg (show ¬ (false = true) by decide)] at H;obtain rfl := Option.some.inj H;go_enter Try.func61,Try.ntmps61
   go_wp2_with (first | ((with_reducible refine gate_dst (N := 1) rfl ?_);refine boxE 1 #[.slice A0_0 l0_0.length c0_0,.slice A0_1 l0_1.length c0_1] 27 ?_;intro gb118 hg w11 hbox hb;have BK118 := aK (hbox);have GW118 := aK (zG HB hg);have GE118 := aK (zG HB hg);replace HB := hB HB hb;clear hb hbox hg;have hcz12_0 := y0 BK118;have hcz12_1 := y1 BK118;have hfz12_0 := blk_frozen BK118.out 0;have hfz12_1 := blk_frozen BK118.out 1) | (go_at_call 96;(with_reducible refine (spec_l04Ascends.calls k _ _ l0_0 1 false _ ?side1 ?side2 A3.out).mono ?_);(case side1 => exact cB HR0_0 HB);(case side2 => exact HC0_0.out);rintro e w13 ⟨rfl,hb⟩;replace BK118 := kB BK118 hb;replace HB := hB HB hb;clear hb))
   go_ret;exact eR (bN HB)
 ·rw [if_neg c2] at H;have c2b0 := decide_eq_false c2;clear c2;obtain rfl := Option.some.inj H;go_enter Try.func61,Try.ntmps61
  go_wp2_with (first | ((with_reducible refine gate_dst (N := 1) rfl ?_);refine boxE 1 #[.slice A0_0 l0_0.length c0_0,.slice A0_1 l0_1.length c0_1] 27 ?_;intro gb118 hg w14 hbox hb;have BK118 := aK (hbox);have GW118 := aK (zG HB hg);have GE118 := aK (zG HB hg);replace HB := hB HB hb;clear hb hbox hg;have hcz15_0 := y0 BK118;have hcz15_1 := y1 BK118;have hfz15_0 := blk_frozen BK118.out 0;have hfz15_1 := blk_frozen BK118.out 1))
  go_ret;exact eR (bN HB)
/-! ### spec_CountLong: function 22 -/
def spec_CountLong.l0 : Nat → Int → Int → List Int → List Int → Option (Int × Int)
 | 0,_,_,_,_ => none
 | k + 1,x4,x5,x122000,x122001 => if x5 < (x122000.length : Int) then (if 0 ≤ x5 then (if (rd x122000 x5) > 2 then (spec_CountLong.l0 k (wrap64 (x4 + 1)) (wrap64 (x5 + 1)) x122000 x122001) else (spec_CountLong.l0 k x4 (wrap64 (x5 + 1)) x122000 x122001)) else (none)) else (some (x4,0))
def spec_CountLong.f (k : Nat) (l0_0 : List Int) (l0_1 : List Int) : Option (Int × Int) := (spec_l04Is.f k l0_0 l0_1).bind fun t122 => (if t122 = true then (spec_CountLong.l0 k 0 0 l0_0 l0_1) else (some (0, 1)))
theorem spec_CountLong.mono_l : ∀ k, (∀ y0 y1 y2 y3, LeO (spec_CountLong.l0 k y0 y1 y2 y3) (spec_CountLong.l0 (k + 1) y0 y1 y2 y3))
 | 0 => fun _ _ _ _ r h => by simp [spec_CountLong.l0] at h
 | k + 1 => by
  have ih0 := spec_CountLong.mono_l k
  ·intro y0 y1 y2 y3;unfold spec_CountLong.l0
   repeat' first
   | (with_reducible exact ih0 _ _ _ _)
   | (with_reducible exact spec_l04Is.mono _ _ _)
   | (with_reducible exact LeO.refl _)
   | (with_reducible exact LeO.none _)
   | (with_reducible refine LeO.ite ?_ ?_)
   | (with_reducible refine LeO.bind ?_ (fun _ => ?_))
   | exact ih0 _ _ _ _
   | exact spec_l04Is.mono _ _ _
   | exact LeO.none _
   | refine LeO.ite ?_ ?_
   | refine LeO.bind ?_ (fun _ => ?_)
theorem spec_CountLong.mono : ∀ a0 a1 k, LeO (spec_CountLong.f k a0 a1) (spec_CountLong.f (k + 1) a0 a1) := by
 intro a0 a1 k;have ih0 := spec_CountLong.mono_l k;unfold spec_CountLong.f
 repeat' first
  | (with_reducible exact ih0 _ _ _ _)
  | (with_reducible exact spec_l04Is.mono _ _ _)
  | (with_reducible exact LeO.refl _)
  | (with_reducible exact LeO.none _)
  | (with_reducible refine LeO.ite ?_ ?_)
  | (with_reducible refine LeO.bind ?_ (fun _ => ?_))
  | exact ih0 _ _ _ _
  | exact spec_l04Is.mono _ _ _
  | exact LeO.none _
  | refine LeO.ite ?_ ?_
  | refine LeO.bind ?_ (fun _ => ?_)
set_option maxHeartbeats 8000000 in
set_option maxRecDepth 100000 in
theorem spec_CountLong.calls (k : Nat) (A0_0 : Option Addr) (c0_0 : Nat) (l0_0 : List Int) (A0_1 : Option Addr) (c0_1 : Nat) (l0_1 : List Int) (r1 : Int) (r2 : Int) (w : World) (hr0_0 : Kd.C (Kd.int .i64) w A0_0 l0_0.length l0_0) (hc0_0 : l0_0.length ≤ c0_0) (hr0_1 : Kd.C (Kd.int .i64) w A0_1 l0_1.length l0_1) (hc0_1 : l0_1.length ≤ c0_1) (h : spec_CountLong.f k l0_0 l0_1 = some (r1, r2)) :
 Calls Try.prog 22 #[.agg #[.slice A0_0 l0_0.length c0_0,.slice A0_1 l0_1.length c0_1]] w fun e w' => e = .returned (.tuple #[.int .i64 r1,.int .i64 r2]) ∧ Below w.heap.size w w' := by
 have hu27 := Try.underlying27;have HR0_0 := aK hr0_0;have HC0_0 := aK hc0_0;clear hr0_0 hc0_0;have HR0_1 := aK hr0_1;have HC0_1 := aK hc0_1;clear hr0_1 hc0_1;have HB := aK (Below.refl w.heap.size w);have H := h;clear h;unfold spec_CountLong.f at H;replace H := bE H;obtain ⟨t122,A2,H⟩ := H
 by_cases c3 : t122 = true
 ·subst c3;rw [if_pos rfl] at H;have H' := aK H;clear H;go_enter Try.func22,Try.ntmps22
  go_wp2_with (first | ((with_reducible refine gate_dst (N := 1) rfl ?_);refine boxE 1 #[.slice A0_0 l0_0.length c0_0,.slice A0_1 l0_1.length c0_1] 27 ?_;intro gb121 hg w4 hbox hb;have BK121 := aK (hbox);have GW121 := aK (zG HB hg);have GE121 := aK (zG HB hg);replace HB := hB HB hb;clear hb hbox hg;have hcz5_0 := y0 BK121;have hcz5_1 := y1 BK121;have hfz5_0 := blk_frozen BK121.out 0;have hfz5_1 := blk_frozen BK121.out 1) | ((with_reducible refine gate_callee (f := 61) rfl ?_);refine goesE (some 7) Try.func61 #[.agg #[.slice A0_0 l0_0.length c0_0,.slice A0_1 l0_1.length c0_1]] ?_;(with_reducible refine (spec_l04Is.calls k _ _ l0_0 _ _ l0_1 true _ ?side1 ?side2 ?side3 ?side4 A2.out).mono ?_);(case side1 => exact cB HR0_0 HB);(case side2 => exact HC0_0.out);(case side3 => exact cB HR0_1 HB);(case side4 => exact HC0_1.out);rintro e w6 ⟨rfl,hb⟩;refine ⟨_,rfl,?_⟩;replace BK121 := kB BK121 hb;replace HB := hB HB hb;clear hb))
  go_loopg [4,5] k (fun kq v4 v5 w' => ∃ (x4_1 : Int) (x5_1 : Int),v4 = .int .i64 x4_1 ∧ v5 = .int .i64 x5_1 ∧ Aside0 (spec_CountLong.l0 kq x4_1 x5_1 l0_0 l0_1 = some (r1,r2)) ∧ Aside0 (kq ≤ k) ∧ Aside0 (w'.heap[gb121]? = some (.cells #[(.slice A0_0 l0_0.length c0_0),(.slice A0_1 l0_1.length c0_1)] 27 (0,0))) ∧ Aside0 (Below w.heap.size w w'))
  case atStart => exact ⟨(0),(0),rD,rD,H',⟨Nat.le_refl _⟩,⟨kN BK121⟩,⟨bN HB⟩⟩
  case round =>
   clear H';clear hcz5_0 hcz5_1 hfz5_0 hfz5_1;obtain ⟨x4_1,x5_1,rfl,rfl,HA,HK1,BK121,HB⟩ := hrel
   cases gk with
   | zero => exact absurd HA.out (by simp [spec_CountLong.l0])
   | succ k1 =>
    have H := HA.out;clear HA;simp only [spec_CountLong.l0] at H
    by_cases c7 : x5_1 < (l0_0.length : Int)
    ·rw [if_pos c7] at H;have c7b0 := decide_eq_true c7;clear c7
     by_cases c8 : 0 ≤ x5_1
     rotate_left
     ·rw [if_neg c8] at H;exact absurd H (by simp)
     rw [if_pos c8] at H;have c8b0 := decide_eq_true c8;clear c8
     by_cases c9 : (rd l0_0 x5_1) > 2
     ·rw [if_pos c9] at H;have c9b0 := decide_eq_true c9;clear c9;have H' := aK H;clear H;have hcz10_0 := y0 BK121;have hcz10_1 := y1 BK121;have hfz10_0 := blk_frozen BK121.out 0;have hfz10_1 := blk_frozen BK121.out 1;have p123 : 0 ≤ (x5_1 : Int) := dT;have q123 : x5_1 < (l0_0.length : Int) := dT;obtain ⟨ad123,e123,hx123_0⟩ := Kd.at_int HR0_0.out x5_1 p123 q123;cases e123;replace hx123_0 := cO HB hx123_0;replace p123 := eq_true p123;replace q123 := eq_true q123;go_wp2
      go_roundg k1
      case measure => have := HK1.out;omega
      case rel => exact ⟨(wrap64 (x4_1 + 1)),(wrap64 (x5_1 + 1)),rD,rD,H',⟨by have := HK1.out;omega⟩,⟨kN BK121⟩,⟨bN HB⟩⟩
     ·rw [if_neg c9] at H;have c9b0 := decide_eq_false c9;clear c9;have H' := aK H;clear H;have hcz11_0 := y0 BK121;have hcz11_1 := y1 BK121;have hfz11_0 := blk_frozen BK121.out 0;have hfz11_1 := blk_frozen BK121.out 1;have p123 : 0 ≤ (x5_1 : Int) := dT;have q123 : x5_1 < (l0_0.length : Int) := dT;obtain ⟨ad123,e123,hx123_0⟩ := Kd.at_int HR0_0.out x5_1 p123 q123;cases e123;replace hx123_0 := cO HB hx123_0;replace p123 := eq_true p123;replace q123 := eq_true q123;go_wp2
      go_roundg k1
      case measure => have := HK1.out;omega
      case rel => exact ⟨(x4_1),(wrap64 (x5_1 + 1)),rD,rD,H',⟨by have := HK1.out;omega⟩,⟨kN BK121⟩,⟨bN HB⟩⟩
    ·rw [if_neg c7] at H;have c7b0 := decide_eq_false c7;clear c7;simp only [Option.some.injEq,Prod.mk.injEq] at H;obtain ⟨rfl,rfl⟩ := H;have hcz12_0 := y0 BK121;have hcz12_1 := y1 BK121;have hfz12_0 := blk_frozen BK121.out 0;have hfz12_1 := blk_frozen BK121.out 1;go_wp2;go_ret2;exact eR (bN HB)
 ·replace c3 := Bool.eq_false_iff.mpr c3;subst c3;rw [if_neg (show ¬ (false = true) by decide)] at H;simp only [Option.some.injEq,Prod.mk.injEq] at H;obtain ⟨rfl,rfl⟩ := H;go_enter Try.func22,Try.ntmps22
  go_wp2_with (first | ((with_reducible refine gate_dst (N := 1) rfl ?_);refine boxE 1 #[.slice A0_0 l0_0.length c0_0,.slice A0_1 l0_1.length c0_1] 27 ?_;intro gb121 hg w13 hbox hb;have BK121 := aK (hbox);have GW121 := aK (zG HB hg);have GE121 := aK (zG HB hg);replace HB := hB HB hb;clear hb hbox hg;have hcz14_0 := y0 BK121;have hcz14_1 := y1 BK121;have hfz14_0 := blk_frozen BK121.out 0;have hfz14_1 := blk_frozen BK121.out 1) | ((with_reducible refine gate_callee (f := 61) rfl ?_);refine goesE (some 7) Try.func61 #[.agg #[.slice A0_0 l0_0.length c0_0,.slice A0_1 l0_1.length c0_1]] ?_;(with_reducible refine (spec_l04Is.calls k _ _ l0_0 _ _ l0_1 false _ ?side1 ?side2 ?side3 ?side4 A2.out).mono ?_);(case side1 => exact cB HR0_0 HB);(case side2 => exact HC0_0.out);(case side3 => exact cB HR0_1 HB);(case side4 => exact HC0_1.out);rintro e w15 ⟨rfl,hb⟩;refine ⟨_,rfl,?_⟩;replace BK121 := kB BK121 hb;replace HB := hB HB hb;clear hb))
  go_ret2;exact eR (bN HB)
/-! ### impl_size_int64: function 66 -/
def impl_size_int64.f (l0 : List Int) : Option (Int) := some (l0.length : Int)
set_option maxHeartbeats 8000000 in
set_option maxRecDepth 100000 in
theorem impl_size_int64.calls (A0 : Option Addr) (c0 : Nat) (l0 : List Int) (r : Int) (w : World) (hr0 : Kd.C (Kd.int .i64) w A0 l0.length l0) (hc0 : l0.length ≤ c0) (h : impl_size_int64.f l0 = some r) :
 Calls Try.prog 66 #[.slice A0 l0.length c0] w fun e w' => e = .returned (.int .i64 r) ∧ Drawn0 w w' := by
 have HR0 := aK hr0;have HC0 := aK hc0;clear hr0 hc0;have H := h;clear h;unfold impl_size_int64.f at H;obtain rfl := Option.some.inj H;go_enter Try.func66,Try.ntmps66;go_wp2;go_ret;exact ⟨rD,dD⟩
/-! ### spec_l04Taker: function 70 -/
def spec_l04Taker.f (a0 : Bool) (a1 : Int) (a2 : Int) : Option (Int × Int × Bool) := if a0 = true then (some (wrap64 (a1 + a2), wrap64 ((wrap64 (a1 - 8)) - a2), true)) else (some (wrap64 (a1 + a2), wrap64 ((wrap64 (a1 - 4)) - a2), decide (a1 > 2)))
set_option maxHeartbeats 8000000 in
set_option maxRecDepth 100000 in
theorem spec_l04Taker.calls (a0 : Bool) (a1 : Int) (a2 : Int) (r1 : Int) (r2 : Int) (r3 : Bool) (w : World) (h : spec_l04Taker.f a0 a1 a2 = some (r1, r2, r3)) :
 Calls Try.prog 70 #[.bool a0,.int .i64 a1,.int .i64 a2] w fun e w' => e = .returned (.tuple #[.int .i64 r1,.int .i64 r2,.bool r3]) ∧ Drawn0 w w' := by
 have H := h;clear h;unfold spec_l04Taker.f at H
 by_cases c4 : a0 = true
 ·subst c4;rw [if_pos rfl] at H;simp only [Option.some.injEq,Prod.mk.injEq] at H;obtain ⟨rfl,rfl,rfl⟩ := H;go_enter Try.func70,Try.ntmps70;go_wp2;go_ret3;exact ⟨rD,dD⟩
 ·replace c4 := Bool.eq_false_iff.mpr c4;subst c4;rw [if_neg (show ¬ (false = true) by decide)] at H;simp only [Option.some.injEq,Prod.mk.injEq] at H;obtain ⟨rfl,rfl,rfl⟩ := H;go_enter Try.func70,Try.ntmps70;go_wp2;go_ret3;exact ⟨rD,dD⟩
/-! ### spec_SparingNumber: function 24 -/
def spec_SparingNumber.l0 : Nat → Int → Int → Int → Int → List Int → List Int → Option (Int × Int)
 | 0,_,_,_,_,_,_ => none
 | k + 1,x4,x5,x6,x7,x128000,x128001 => if x7 < x6 then (if x7 ≥ (x128000.length : Int) then (if 0 ≤ (wrap64 (x7 - (x128000.length : Int))) then (if (wrap64 (x7 - (x128000.length : Int))) < (x128001.length : Int) then ((spec_l04Taker.f (decide (x7 ≥ (x128000.length : Int))) (rd x128001 (wrap64 (x7 - (x128000.length : Int)))) 0).bind fun bt130 => (if bt130.2.2 = true then (if (wrap64 (x7 + 1)) < x6 then (spec_SparingNumber.l0 k (wrap64 (x4 + (wrap64 (x5 * bt130.2.1)))) x5 x6 (wrap64 (x7 + 1)) x128000 x128001) else (spec_SparingNumber.l0 k (wrap64 (x4 + (wrap64 (x5 * (rd x128001 (wrap64 (x7 - (x128000.length : Int)))))))) (wrap64 (-x5)) x6 (wrap64 (x7 + 1)) x128000 x128001)) else (spec_SparingNumber.l0 k (wrap64 (x4 + (wrap64 (x5 * (rd x128001 (wrap64 (x7 - (x128000.length : Int)))))))) (wrap64 (-x5)) x6 (wrap64 (x7 + 1)) x128000 x128001))) else (none)) else (none)) else (if 0 ≤ x7 then (if x7 < (x128000.length : Int) then ((spec_l04Taker.f (decide (x7 ≥ (x128000.length : Int))) (rd x128000 x7) 0).bind fun bt134 => (if bt134.2.2 = true then (if (wrap64 (x7 + 1)) < x6 then (spec_SparingNumber.l0 k (wrap64 (x4 + (wrap64 (x5 * bt134.2.1)))) x5 x6 (wrap64 (x7 + 1)) x128000 x128001) else (spec_SparingNumber.l0 k (wrap64 (x4 + (wrap64 (x5 * (rd x128000 x7))))) (wrap64 (-x5)) x6 (wrap64 (x7 + 1)) x128000 x128001)) else (spec_SparingNumber.l0 k (wrap64 (x4 + (wrap64 (x5 * (rd x128000 x7))))) (wrap64 (-x5)) x6 (wrap64 (x7 + 1)) x128000 x128001))) else (none)) else (none))) else (some (x4,0))
def spec_SparingNumber.f (k : Nat) (l0_0 : List Int) (l0_1 : List Int) : Option (Int × Int) := (spec_l04Is.f k l0_0 l0_1).bind fun t128 => (if t128 = true then (spec_SparingNumber.l0 k 0 1 (wrap64 ((l0_0.length : Int) + (l0_1.length : Int))) 0 l0_0 l0_1) else (some (0, 1)))
theorem spec_SparingNumber.mono_l : ∀ k, (∀ y0 y1 y2 y3 y4 y5, LeO (spec_SparingNumber.l0 k y0 y1 y2 y3 y4 y5) (spec_SparingNumber.l0 (k + 1) y0 y1 y2 y3 y4 y5))
 | 0 => fun _ _ _ _ _ _ r h => by simp [spec_SparingNumber.l0] at h
 | k + 1 => by
  have ih0 := spec_SparingNumber.mono_l k
  ·intro y0 y1 y2 y3 y4 y5;unfold spec_SparingNumber.l0
   repeat' first
   | (with_reducible exact ih0 _ _ _ _ _ _)
   | (with_reducible exact spec_l04Is.mono _ _ _)
   | (with_reducible exact LeO.refl _)
   | (with_reducible exact LeO.none _)
   | (with_reducible refine LeO.ite ?_ ?_)
   | (with_reducible refine LeO.bind ?_ (fun _ => ?_))
   | exact ih0 _ _ _ _ _ _
   | exact spec_l04Is.mono _ _ _
   | exact LeO.none _
   | refine LeO.ite ?_ ?_
   | refine LeO.bind ?_ (fun _ => ?_)
theorem spec_SparingNumber.mono : ∀ a0 a1 k, LeO (spec_SparingNumber.f k a0 a1) (spec_SparingNumber.f (k + 1) a0 a1) := by
 intro a0 a1 k;have ih0 := spec_SparingNumber.mono_l k;unfold spec_SparingNumber.f
 repeat' first
  | (with_reducible exact ih0 _ _ _ _ _ _)
  | (with_reducible exact spec_l04Is.mono _ _ _)
  | (with_reducible exact LeO.refl _)
  | (with_reducible exact LeO.none _)
  | (with_reducible refine LeO.ite ?_ ?_)
  | (with_reducible refine LeO.bind ?_ (fun _ => ?_))
  | exact ih0 _ _ _ _ _ _
  | exact spec_l04Is.mono _ _ _
  | exact LeO.none _
  | refine LeO.ite ?_ ?_
  | refine LeO.bind ?_ (fun _ => ?_)
set_option maxHeartbeats 8000000 in
set_option maxRecDepth 100000 in
theorem spec_SparingNumber.calls (k : Nat) (A0_0 : Option Addr) (c0_0 : Nat) (l0_0 : List Int) (A0_1 : Option Addr) (c0_1 : Nat) (l0_1 : List Int) (r1 : Int) (r2 : Int) (w : World) (hr0_0 : Kd.C (Kd.int .i64) w A0_0 l0_0.length l0_0) (hc0_0 : l0_0.length ≤ c0_0) (hr0_1 : Kd.C (Kd.int .i64) w A0_1 l0_1.length l0_1) (hc0_1 : l0_1.length ≤ c0_1) (h : spec_SparingNumber.f k l0_0 l0_1 = some (r1, r2)) :
 Calls Try.prog 24 #[.agg #[.slice A0_0 l0_0.length c0_0,.slice A0_1 l0_1.length c0_1]] w fun e w' => e = .returned (.tuple #[.int .i64 r1,.int .i64 r2]) ∧ Below w.heap.size w w' := by
 have hu27 := Try.underlying27;have HR0_0 := aK hr0_0;have HC0_0 := aK hc0_0;clear hr0_0 hc0_0;have HR0_1 := aK hr0_1;have HC0_1 := aK hc0_1;clear hr0_1 hc0_1;have HB := aK (Below.refl w.heap.size w);have H := h;clear h;unfold spec_SparingNumber.f at H;replace H := bE H;obtain ⟨t128,A2,H⟩ := H
 by_cases c3 : t128 = true
 ·subst c3;rw [if_pos rfl] at H;have H' := aK H;clear H;go_enter Try.func24,Try.ntmps24
  go_wp2_with (first | ((with_reducible refine gate_dst (N := 1) rfl ?_);refine boxE 1 #[.slice A0_0 l0_0.length c0_0,.slice A0_1 l0_1.length c0_1] 27 ?_;intro gb127 hg w4 hbox hb;have BK127 := aK (hbox);have GW127 := aK (zG HB hg);have GE127 := aK (zG HB hg);replace HB := hB HB hb;clear hb hbox hg;have hcz5_0 := y0 BK127;have hcz5_1 := y1 BK127;have hfz5_0 := blk_frozen BK127.out 0;have hfz5_1 := blk_frozen BK127.out 1) | (go_at_call 61;(with_reducible refine (spec_l04Is.calls k _ _ l0_0 _ _ l0_1 true _ ?side1 ?side2 ?side3 ?side4 A2.out).mono ?_);(case side1 => exact cB HR0_0 HB);(case side2 => exact HC0_0.out);(case side3 => exact cB HR0_1 HB);(case side4 => exact HC0_1.out);rintro e w6 ⟨rfl,hb⟩;replace BK127 := kB BK127 hb;replace HB := hB HB hb;clear hb;have hcz7_0 := y0 BK127;have hcz7_1 := y1 BK127;have hfz7_0 := blk_frozen BK127.out 0;have hfz7_1 := blk_frozen BK127.out 1))
  repeat (go_quiet (first | ((with_reducible refine gate_dst (N := 1) rfl ?_);refine box_event ?hg (N := 1) ?hd (cs := #[.slice A0_0 l0_0.length c0_0,.slice A0_1 l0_1.length c0_1]) (t := 27) ?hr ?_;(case hd => rfl);(case hg => rfl);(case hr => first | (go_simp;done) | (go_simp;rfl));intro gb127 hg w4 hbox hb;have n0_ := hB HB hb;have n1_ := aK (hbox);have n2_ := aK (zG HB hg);have n3_ := aK (zG HB hg);replace HB := n0_;have BK127 := n1_;have GW127 := n2_;have GE127 := n3_;clear n0_ n1_ n2_ n3_;clear hb hbox hg;have hcz5_0 := y0 BK127;have hcz5_1 := y1 BK127;have hfz5_0 := blk_frozen BK127.out 0;have hfz5_1 := blk_frozen BK127.out 1) | (go_at_call 61;(with_reducible refine (spec_l04Is.calls k _ _ l0_0 _ _ l0_1 true _ ?side1 ?side2 ?side3 ?side4 A2.out).mono ?_);(case side1 => exact cB HR0_0 HB);(case side2 => exact HC0_0.out);(case side3 => exact cB HR0_1 HB);(case side4 => exact HC0_1.out);rintro e w6 ⟨rfl,hb⟩;have n0_ := kB BK127 hb;have n1_ := hB HB hb;clear BK127;clear HB;have BK127 := n0_;have HB := n1_;clear n0_ n1_;(try clear hb);(try clear hb2);(try clear hk);(try clear hi);have hcz7_0 := y0 BK127;have hcz7_1 := y1 BK127;have hfz7_0 := blk_frozen BK127.out 0;have hfz7_1 := blk_frozen BK127.out 1));try go_wp2_with (first | ((with_reducible refine gate_dst (N := 1) rfl ?_);refine box_event ?hg (N := 1) ?hd (cs := #[.slice A0_0 l0_0.length c0_0,.slice A0_1 l0_1.length c0_1]) (t := 27) ?hr ?_;(case hd => rfl);(case hg => rfl);(case hr => first | (go_simp;done) | (go_simp;rfl));intro gb127 hg w4 hbox hb;have n0_ := hB HB hb;have n1_ := aK (hbox);have n2_ := aK (zG HB hg);have n3_ := aK (zG HB hg);replace HB := n0_;have BK127 := n1_;have GW127 := n2_;have GE127 := n3_;clear n0_ n1_ n2_ n3_;clear hb hbox hg;have hcz5_0 := y0 BK127;have hcz5_1 := y1 BK127;have hfz5_0 := blk_frozen BK127.out 0;have hfz5_1 := blk_frozen BK127.out 1) | (go_at_call 61;(with_reducible refine (spec_l04Is.calls k _ _ l0_0 _ _ l0_1 true _ ?side1 ?side2 ?side3 ?side4 A2.out).mono ?_);(case side1 => exact cB HR0_0 HB);(case side2 => exact HC0_0.out);(case side3 => exact cB HR0_1 HB);(case side4 => exact HC0_1.out);rintro e w6 ⟨rfl,hb⟩;have n0_ := kB BK127 hb;have n1_ := hB HB hb;clear BK127;clear HB;have BK127 := n0_;have HB := n1_;clear n0_ n1_;(try clear hb);(try clear hb2);(try clear hk);(try clear hi);have hcz7_0 := y0 BK127;have hcz7_1 := y1 BK127;have hfz7_0 := blk_frozen BK127.out 0;have hfz7_1 := blk_frozen BK127.out 1)))
  go_loopg [4,5,7] k (fun kq v4 v5 v7 w' => ∃ (x4_1 : Int) (x5_1 : Int) (x7_1 : Int),v4 = .int .i64 x4_1 ∧ v5 = .int .i64 x5_1 ∧ v7 = .int .i64 x7_1 ∧ Aside0 (spec_SparingNumber.l0 kq x4_1 x5_1 (wrap64 ((l0_0.length : Int) + (l0_1.length : Int))) x7_1 l0_0 l0_1 = some (r1,r2)) ∧ Aside0 (kq ≤ k) ∧ Aside0 (w'.heap[gb127]? = some (.cells #[(.slice A0_0 l0_0.length c0_0),(.slice A0_1 l0_1.length c0_1)] 27 (0,0))) ∧ Aside0 (Below w.heap.size w w'))
  case atStart => exact ⟨(0),(1),(0),rD,rD,rD,H',⟨Nat.le_refl _⟩,⟨kN BK127⟩,⟨bN HB⟩⟩
  case round =>
   clear H';clear hcz5_0 hcz5_1 hcz7_0 hcz7_1 hfz5_0 hfz5_1 hfz7_0 hfz7_1;obtain ⟨x4_1,x5_1,x7_1,rfl,rfl,rfl,HA,HK1,BK127,HB⟩ := hrel
   cases gk with
   | zero => exact absurd HA.out (by simp [spec_SparingNumber.l0])
   | succ k1 =>
    have H := HA.out;clear HA;simp only [spec_SparingNumber.l0] at H
    by_cases c8 : x7_1 < (wrap64 ((l0_0.length : Int) + (l0_1.length : Int)))
    ·rw [if_pos c8] at H;have c8b0 := decide_eq_true c8;clear c8
     by_cases c9 : x7_1 ≥ (l0_0.length : Int)
     ·rw [if_pos c9] at H;have c9b0 := decide_eq_true c9;clear c9;obtain ⟨ji10,hji10⟩ : ∃ j_ : Int,(wrap64 (x7_1 - (l0_0.length : Int))) = j_ := ⟨_,rfl⟩;replace H : (if 0 ≤ (ji10) then (if (ji10) < (l0_1.length : Int) then ((spec_l04Taker.f (decide (x7_1 ≥ (l0_0.length : Int))) (rd l0_1 (ji10)) 0).bind fun bt130 => (if bt130.2.2 = true then (if (wrap64 (x7_1 + 1)) < (wrap64 ((l0_0.length : Int) + (l0_1.length : Int))) then (spec_SparingNumber.l0 k1 (wrap64 (x4_1 + (wrap64 (x5_1 * bt130.2.1)))) x5_1 (wrap64 ((l0_0.length : Int) + (l0_1.length : Int))) (wrap64 (x7_1 + 1)) l0_0 l0_1) else (spec_SparingNumber.l0 k1 (wrap64 (x4_1 + (wrap64 (x5_1 * (rd l0_1 (ji10)))))) (wrap64 (-x5_1)) (wrap64 ((l0_0.length : Int) + (l0_1.length : Int))) (wrap64 (x7_1 + 1)) l0_0 l0_1)) else (spec_SparingNumber.l0 k1 (wrap64 (x4_1 + (wrap64 (x5_1 * (rd l0_1 (ji10)))))) (wrap64 (-x5_1)) (wrap64 ((l0_0.length : Int) + (l0_1.length : Int))) (wrap64 (x7_1 + 1)) l0_0 l0_1))) else (none)) else (none)) = some (r1,r2) := by first | (rw [hji10] at H;exact H) | (simp only [hji10] at H ⊢;exact H)
      have hji10w : (IntKind.i64.wrap (x7_1 - (l0_0.length : Int))) = ji10 := (i64_w _).trans hji10
      by_cases c11 : 0 ≤ (ji10)
      rotate_left
      ·rw [if_neg c11] at H;exact absurd H (by simp)
      rw [if_pos c11] at H;have c11b0 := decide_eq_true c11;clear c11
      by_cases c12 : (ji10) < (l0_1.length : Int)
      rotate_left
      ·rw [if_neg c12] at H;exact absurd H (by simp)
      rw [if_pos c12] at H;have c12b0 := decide_eq_true c12;clear c12;replace H := Option.bind_eq_some_iff.mp H;obtain ⟨⟨t130,t131,t132⟩,A130,H⟩ := H;rw [show decide (x7_1 ≥ (l0_0.length : Int)) = true from c9b0] at A130;dsimp only at H;have A13 := aK A130;clear A130
      by_cases c14 : t132 = true
      ·subst c14;rw [if_pos rfl] at H
       by_cases c15 : (wrap64 (x7_1 + 1)) < (wrap64 ((l0_0.length : Int) + (l0_1.length : Int)))
       ·rw [if_pos c15] at H;have c15b0 := decide_eq_true c15;clear c15;have H' := aK H;clear H;have hcz16_0 := y0 BK127;have hcz16_1 := y1 BK127;have hfz16_0 := blk_frozen BK127.out 0;have hfz16_1 := blk_frozen BK127.out 1;have p129 : 0 ≤ ((ji10) : Int) := dT;have q129 : (ji10) < (l0_1.length : Int) := dT;obtain ⟨ad129,e129,hx129_0⟩ := Kd.at_int HR0_1.out (ji10) p129 q129;cases e129;replace hx129_0 := cO HB hx129_0;replace p129 := eq_true p129;replace q129 := eq_true q129
        go_wp2_with (first | (go_at_call 70;(with_reducible refine (spec_l04Taker.calls true (rd l0_1 (ji10)) 0 t130 t131 true _ A13.out).mono ?_);rintro e w' ⟨rfl,⟨nd,rfl⟩⟩;(try first | exact ⟨rfl,_,World.drewN_drewN _ _ _⟩ | exact ⟨rfl,_,Eq.trans (World.drewN_drewN _ _ _) (congrArg (World.drewN _) (Nat.add_assoc _ _ _))⟩)))
        repeat (go_quiet (first | (go_at_call 70;(with_reducible refine (spec_l04Taker.calls true (rd l0_1 (ji10)) 0 t130 t131 true _ A13.out).mono ?_);rintro e w' ⟨rfl,⟨nd,rfl⟩⟩;(try first | exact ⟨rfl,_,World.drewN_drewN _ _ _⟩ | exact ⟨rfl,_,Eq.trans (World.drewN_drewN _ _ _) (congrArg (World.drewN _) (Nat.add_assoc _ _ _))⟩)));try go_wp2_with (first | (go_at_call 70;(with_reducible refine (spec_l04Taker.calls true (rd l0_1 (ji10)) 0 t130 t131 true _ A13.out).mono ?_);rintro e w' ⟨rfl,⟨nd,rfl⟩⟩;(try first | exact ⟨rfl,_,World.drewN_drewN _ _ _⟩ | exact ⟨rfl,_,Eq.trans (World.drewN_drewN _ _ _) (congrArg (World.drewN _) (Nat.add_assoc _ _ _))⟩))))
        go_roundg k1
        case measure => have := HK1.out;omega
        case rel => exact ⟨(wrap64 (x4_1 + (wrap64 (x5_1 * t131)))),(x5_1),(wrap64 (x7_1 + 1)),rD,rD,rD,H',⟨by have := HK1.out;omega⟩,⟨kN BK127⟩,⟨bN HB⟩⟩
       ·rw [if_neg c15] at H;have c15b0 := decide_eq_false c15;clear c15;have H' := aK H;clear H;have hcz17_0 := y0 BK127;have hcz17_1 := y1 BK127;have hfz17_0 := blk_frozen BK127.out 0;have hfz17_1 := blk_frozen BK127.out 1;have p129 : 0 ≤ ((ji10) : Int) := dT;have q129 : (ji10) < (l0_1.length : Int) := dT;obtain ⟨ad129,e129,hx129_0⟩ := Kd.at_int HR0_1.out (ji10) p129 q129;cases e129;replace hx129_0 := cO HB hx129_0;replace p129 := eq_true p129;replace q129 := eq_true q129
        go_wp2_with (first | (go_at_call 70;(with_reducible refine (spec_l04Taker.calls true (rd l0_1 (ji10)) 0 t130 t131 true _ A13.out).mono ?_);rintro e w' ⟨rfl,⟨nd,rfl⟩⟩;(try first | exact ⟨rfl,_,World.drewN_drewN _ _ _⟩ | exact ⟨rfl,_,Eq.trans (World.drewN_drewN _ _ _) (congrArg (World.drewN _) (Nat.add_assoc _ _ _))⟩)))
        repeat (go_quiet (first | (go_at_call 70;(with_reducible refine (spec_l04Taker.calls true (rd l0_1 (ji10)) 0 t130 t131 true _ A13.out).mono ?_);rintro e w' ⟨rfl,⟨nd,rfl⟩⟩;(try first | exact ⟨rfl,_,World.drewN_drewN _ _ _⟩ | exact ⟨rfl,_,Eq.trans (World.drewN_drewN _ _ _) (congrArg (World.drewN _) (Nat.add_assoc _ _ _))⟩)));try go_wp2_with (first | (go_at_call 70;(with_reducible refine (spec_l04Taker.calls true (rd l0_1 (ji10)) 0 t130 t131 true _ A13.out).mono ?_);rintro e w' ⟨rfl,⟨nd,rfl⟩⟩;(try first | exact ⟨rfl,_,World.drewN_drewN _ _ _⟩ | exact ⟨rfl,_,Eq.trans (World.drewN_drewN _ _ _) (congrArg (World.drewN _) (Nat.add_assoc _ _ _))⟩))))
        go_roundg k1
        case measure => have := HK1.out;omega
        case rel => exact ⟨(wrap64 (x4_1 + (wrap64 (x5_1 * (rd l0_1 (ji10)))))),(wrap64 (-x5_1)),(wrap64 (x7_1 + 1)),(by first | rfl | (simp;done) | (simp only [← hji10] <;> (first | rfl | simp)) | (simp [*];done)),rD,rD,H',⟨by have := HK1.out;omega⟩,⟨kN BK127⟩,⟨bN HB⟩⟩
      ·replace c14 := Bool.eq_false_iff.mpr c14;subst c14;rw [if_neg (show ¬ (false = true) by decide)] at H;have H' := aK H;clear H;have hcz18_0 := y0 BK127;have hcz18_1 := y1 BK127;have hfz18_0 := blk_frozen BK127.out 0;have hfz18_1 := blk_frozen BK127.out 1;have p129 : 0 ≤ ((ji10) : Int) := dT;have q129 : (ji10) < (l0_1.length : Int) := dT;obtain ⟨ad129,e129,hx129_0⟩ := Kd.at_int HR0_1.out (ji10) p129 q129;cases e129;replace hx129_0 := cO HB hx129_0;replace p129 := eq_true p129;replace q129 := eq_true q129
       go_wp2_with (first | (go_at_call 70;(with_reducible refine (spec_l04Taker.calls true (rd l0_1 (ji10)) 0 t130 t131 false _ A13.out).mono ?_);rintro e w' ⟨rfl,⟨nd,rfl⟩⟩;(try first | exact ⟨rfl,_,World.drewN_drewN _ _ _⟩ | exact ⟨rfl,_,Eq.trans (World.drewN_drewN _ _ _) (congrArg (World.drewN _) (Nat.add_assoc _ _ _))⟩)))
       repeat (go_quiet (first | (go_at_call 70;(with_reducible refine (spec_l04Taker.calls true (rd l0_1 (ji10)) 0 t130 t131 false _ A13.out).mono ?_);rintro e w' ⟨rfl,⟨nd,rfl⟩⟩;(try first | exact ⟨rfl,_,World.drewN_drewN _ _ _⟩ | exact ⟨rfl,_,Eq.trans (World.drewN_drewN _ _ _) (congrArg (World.drewN _) (Nat.add_assoc _ _ _))⟩)));try go_wp2_with (first | (go_at_call 70;(with_reducible refine (spec_l04Taker.calls true (rd l0_1 (ji10)) 0 t130 t131 false _ A13.out).mono ?_);rintro e w' ⟨rfl,⟨nd,rfl⟩⟩;(try first | exact ⟨rfl,_,World.drewN_drewN _ _ _⟩ | exact ⟨rfl,_,Eq.trans (World.drewN_drewN _ _ _) (congrArg (World.drewN _) (Nat.add_assoc _ _ _))⟩))))
       go_roundg k1
       case measure => have := HK1.out;omega
       case rel => exact ⟨(wrap64 (x4_1 + (wrap64 (x5_1 * (rd l0_1 (ji10)))))),(wrap64 (-x5_1)),(wrap64 (x7_1 + 1)),(by first | rfl | (simp;done) | (simp only [← hji10] <;> (first | rfl | simp)) | (simp [*];done)),rD,rD,H',⟨by have := HK1.out;omega⟩,⟨kN BK127⟩,⟨bN HB⟩⟩
     ·rw [if_neg c9] at H;have c9b0 := decide_eq_false c9;clear c9
      by_cases c19 : 0 ≤ x7_1
      rotate_left
      ·rw [if_neg c19] at H;exact absurd H (by simp)
      rw [if_pos c19] at H;have c19b0 := decide_eq_true c19;clear c19
      by_cases c20 : x7_1 < (l0_0.length : Int)
      rotate_left
      ·rw [if_neg c20] at H;exact absurd H (by simp)
      rw [if_pos c20] at H;have c20b0 := decide_eq_true c20;clear c20;replace H := Option.bind_eq_some_iff.mp H;obtain ⟨⟨t134,t135,t136⟩,A210,H⟩ := H;rw [show decide (x7_1 ≥ (l0_0.length : Int)) = false from c9b0] at A210;dsimp only at H;have A21 := aK A210;clear A210
      by_cases c22 : t136 = true
      ·subst c22;rw [if_pos rfl] at H
       by_cases c23 : (wrap64 (x7_1 + 1)) < (wrap64 ((l0_0.length : Int) + (l0_1.length : Int)))
       ·rw [if_pos c23] at H;have c23b0 := decide_eq_true c23;clear c23;have H' := aK H;clear H;have hcz24_0 := y0 BK127;have hcz24_1 := y1 BK127;have hfz24_0 := blk_frozen BK127.out 0;have hfz24_1 := blk_frozen BK127.out 1;have p133 : 0 ≤ (x7_1 : Int) := dT;have q133 : x7_1 < (l0_0.length : Int) := dT;obtain ⟨ad133,e133,hx133_0⟩ := Kd.at_int HR0_0.out x7_1 p133 q133;cases e133;replace hx133_0 := cO HB hx133_0;replace p133 := eq_true p133;replace q133 := eq_true q133
        go_wp2_with (first | (go_at_call 70;(with_reducible refine (spec_l04Taker.calls false (rd l0_0 x7_1) 0 t134 t135 true _ A21.out).mono ?_);rintro e w' ⟨rfl,⟨nd,rfl⟩⟩;(try first | exact ⟨rfl,_,World.drewN_drewN _ _ _⟩ | exact ⟨rfl,_,Eq.trans (World.drewN_drewN _ _ _) (congrArg (World.drewN _) (Nat.add_assoc _ _ _))⟩)))
        repeat (go_quiet (first | (go_at_call 70;(with_reducible refine (spec_l04Taker.calls false (rd l0_0 x7_1) 0 t134 t135 true _ A21.out).mono ?_);rintro e w' ⟨rfl,⟨nd,rfl⟩⟩;(try first | exact ⟨rfl,_,World.drewN_drewN _ _ _⟩ | exact ⟨rfl,_,Eq.trans (World.drewN_drewN _ _ _) (congrArg (World.drewN _) (Nat.add_assoc _ _ _))⟩)));try go_wp2_with (first | (go_at_call 70;(with_reducible refine (spec_l04Taker.calls false (rd l0_0 x7_1) 0 t134 t135 true _ A21.out).mono ?_);rintro e w' ⟨rfl,⟨nd,rfl⟩⟩;(try first | exact ⟨rfl,_,World.drewN_drewN _ _ _⟩ | exact ⟨rfl,_,Eq.trans (World.drewN_drewN _ _ _) (congrArg (World.drewN _) (Nat.add_assoc _ _ _))⟩))))
        go_roundg k1
        case measure => have := HK1.out;omega
        case rel => exact ⟨(wrap64 (x4_1 + (wrap64 (x5_1 * t135)))),(x5_1),(wrap64 (x7_1 + 1)),rD,rD,rD,H',⟨by have := HK1.out;omega⟩,⟨kN BK127⟩,⟨bN HB⟩⟩
       ·rw [if_neg c23] at H;have c23b0 := decide_eq_false c23;clear c23;have H' := aK H;clear H;have hcz25_0 := y0 BK127;have hcz25_1 := y1 BK127;have hfz25_0 := blk_frozen BK127.out 0;have hfz25_1 := blk_frozen BK127.out 1;have p133 : 0 ≤ (x7_1 : Int) := dT;have q133 : x7_1 < (l0_0.length : Int) := dT;obtain ⟨ad133,e133,hx133_0⟩ := Kd.at_int HR0_0.out x7_1 p133 q133;cases e133;replace hx133_0 := cO HB hx133_0;replace p133 := eq_true p133;replace q133 := eq_true q133
        go_wp2_with (first | (go_at_call 70;(with_reducible refine (spec_l04Taker.calls false (rd l0_0 x7_1) 0 t134 t135 true _ A21.out).mono ?_);rintro e w' ⟨rfl,⟨nd,rfl⟩⟩;(try first | exact ⟨rfl,_,World.drewN_drewN _ _ _⟩ | exact ⟨rfl,_,Eq.trans (World.drewN_drewN _ _ _) (congrArg (World.drewN _) (Nat.add_assoc _ _ _))⟩)))
        repeat (go_quiet (first | (go_at_call 70;(with_reducible refine (spec_l04Taker.calls false (rd l0_0 x7_1) 0 t134 t135 true _ A21.out).mono ?_);rintro e w' ⟨rfl,⟨nd,rfl⟩⟩;(try first | exact ⟨rfl,_,World.drewN_drewN _ _ _⟩ | exact ⟨rfl,_,Eq.trans (World.drewN_drewN _ _ _) (congrArg (World.drewN _) (Nat.add_assoc _ _ _))⟩)));try go_wp2_with (first | (go_at_call 70;(with_reducible refine (spec_l04Taker.calls false (rd l0_0 x7_1) 0 t134 t135 true _ A21.out).mono ?_);rintro e w' ⟨rfl,⟨nd,rfl⟩⟩;(try first | exact ⟨rfl,_,World.drewN_drewN _ _ _⟩ | exact ⟨rfl,_,Eq.trans (World.drewN_drewN _ _ _) (congrArg (World.drewN _) (Nat.add_assoc _ _ _))⟩))))
        go_roundg k1
        case measure => have := HK1.out;omega
        case rel => exact ⟨(wrap64 (x4_1 + (wrap64 (x5_1 * (rd l0_0 x7_1))))),(wrap64 (-x5_1)),(wrap64 (x7_1 + 1)),rD,rD,rD,H',⟨by have := HK1.out;omega⟩,⟨kN BK127⟩,⟨bN HB⟩⟩
      ·replace c22 := Bool.eq_false_iff.mpr c22;subst c22;rw [if_neg (show ¬ (false = true) by decide)] at H;have H' := aK H;clear H;have hcz26_0 := y0 BK127;have hcz26_1 := y1 BK127;have hfz26_0 := blk_frozen BK127.out 0;have hfz26_1 := blk_frozen BK127.out 1;have p133 : 0 ≤ (x7_1 : Int) := dT;have q133 : x7_1 < (l0_0.length : Int) := dT;obtain ⟨ad133,e133,hx133_0⟩ := Kd.at_int HR0_0.out x7_1 p133 q133;cases e133;replace hx133_0 := cO HB hx133_0;replace p133 := eq_true p133;replace q133 := eq_true q133
       go_wp2_with (first | (go_at_call 70;(with_reducible refine (spec_l04Taker.calls false (rd l0_0 x7_1) 0 t134 t135 false _ A21.out).mono ?_);rintro e w' ⟨rfl,⟨nd,rfl⟩⟩;(try first | exact ⟨rfl,_,World.drewN_drewN _ _ _⟩ | exact ⟨rfl,_,Eq.trans (World.drewN_drewN _ _ _) (congrArg (World.drewN _) (Nat.add_assoc _ _ _))⟩)))
       repeat (go_quiet (first | (go_at_call 70;(with_reducible refine (spec_l04Taker.calls false (rd l0_0 x7_1) 0 t134 t135 false _ A21.out).mono ?_);rintro e w' ⟨rfl,⟨nd,rfl⟩⟩;(try first | exact ⟨rfl,_,World.drewN_drewN _ _ _⟩ | exact ⟨rfl,_,Eq.trans (World.drewN_drewN _ _ _) (congrArg (World.drewN _) (Nat.add_assoc _ _ _))⟩)));try go_wp2_with (first | (go_at_call 70;(with_reducible refine (spec_l04Taker.calls false (rd l0_0 x7_1) 0 t134 t135 false _ A21.out).mono ?_);rintro e w' ⟨rfl,⟨nd,rfl⟩⟩;(try first | exact ⟨rfl,_,World.drewN_drewN _ _ _⟩ | exact ⟨rfl,_,Eq.trans (World.drewN_drewN _ _ _) (congrArg (World.drewN _) (Nat.add_assoc _ _ _))⟩))))
       go_roundg k1
       case measure => have := HK1.out;omega
       case rel => exact ⟨(wrap64 (x4_1 + (wrap64 (x5_1 * (rd l0_0 x7_1))))),(wrap64 (-x5_1)),(wrap64 (x7_1 + 1)),rD,rD,rD,H',⟨by have := HK1.out;omega⟩,⟨kN BK127⟩,⟨bN HB⟩⟩
    ·rw [if_neg c8] at H;have c8b0 := decide_eq_false c8;clear c8;simp only [Option.some.injEq,Prod.mk.injEq] at H;obtain ⟨rfl,rfl⟩ := H;go_wp2
     repeat (go_quiet (fail);try go_wp2)
     go_ret2;exact eR (bN HB)
 ·replace c3 := Bool.eq_false_iff.mpr c3;subst c3;rw [if_neg (show ¬ (false = true) by decide)] at H;simp only [Option.some.injEq,Prod.mk.injEq] at H;obtain ⟨rfl,rfl⟩ := H;go_enter Try.func24,Try.ntmps24
  go_wp2_with (first | ((with_reducible refine gate_dst (N := 1) rfl ?_);refine boxE 1 #[.slice A0_0 l0_0.length c0_0,.slice A0_1 l0_1.length c0_1] 27 ?_;intro gb127 hg w27 hbox hb;have BK127 := aK (hbox);have GW127 := aK (zG HB hg);have GE127 := aK (zG HB hg);replace HB := hB HB hb;clear hb hbox hg;have hcz28_0 := y0 BK127;have hcz28_1 := y1 BK127;have hfz28_0 := blk_frozen BK127.out 0;have hfz28_1 := blk_frozen BK127.out 1) | (go_at_call 61;(with_reducible refine (spec_l04Is.calls k _ _ l0_0 _ _ l0_1 false _ ?side1 ?side2 ?side3 ?side4 A2.out).mono ?_);(case side1 => exact cB HR0_0 HB);(case side2 => exact HC0_0.out);(case side3 => exact cB HR0_1 HB);(case side4 => exact HC0_1.out);rintro e w29 ⟨rfl,hb⟩;replace BK127 := kB BK127 hb;replace HB := hB HB hb;clear hb))
  repeat (go_quiet (first | ((with_reducible refine gate_dst (N := 1) rfl ?_);refine box_event ?hg (N := 1) ?hd (cs := #[.slice A0_0 l0_0.length c0_0,.slice A0_1 l0_1.length c0_1]) (t := 27) ?hr ?_;(case hd => rfl);(case hg => rfl);(case hr => first | (go_simp;done) | (go_simp;rfl));intro gb127 hg w27 hbox hb;have n0_ := hB HB hb;have n1_ := aK (hbox);have n2_ := aK (zG HB hg);have n3_ := aK (zG HB hg);replace HB := n0_;have BK127 := n1_;have GW127 := n2_;have GE127 := n3_;clear n0_ n1_ n2_ n3_;clear hb hbox hg;have hcz28_0 := y0 BK127;have hcz28_1 := y1 BK127;have hfz28_0 := blk_frozen BK127.out 0;have hfz28_1 := blk_frozen BK127.out 1) | (go_at_call 61;(with_reducible refine (spec_l04Is.calls k _ _ l0_0 _ _ l0_1 false _ ?side1 ?side2 ?side3 ?side4 A2.out).mono ?_);(case side1 => exact cB HR0_0 HB);(case side2 => exact HC0_0.out);(case side3 => exact cB HR0_1 HB);(case side4 => exact HC0_1.out);rintro e w29 ⟨rfl,hb⟩;have n0_ := kB BK127 hb;have n1_ := hB HB hb;clear BK127;clear HB;have BK127 := n0_;have HB := n1_;clear n0_ n1_;(try clear hb);(try clear hb2);(try clear hk);(try clear hi)));try go_wp2_with (first | ((with_reducible refine gate_dst (N := 1) rfl ?_);refine box_event ?hg (N := 1) ?hd (cs := #[.slice A0_0 l0_0.length c0_0,.slice A0_1 l0_1.length c0_1]) (t := 27) ?hr ?_;(case hd => rfl);(case hg => rfl);(case hr => first | (go_simp;done) | (go_simp;rfl));intro gb127 hg w27 hbox hb;have n0_ := hB HB hb;have n1_ := aK (hbox);have n2_ := aK (zG HB hg);have n3_ := aK (zG HB hg);replace HB := n0_;have BK127 := n1_;have GW127 := n2_;have GE127 := n3_;clear n0_ n1_ n2_ n3_;clear hb hbox hg;have hcz28_0 := y0 BK127;have hcz28_1 := y1 BK127;have hfz28_0 := blk_frozen BK127.out 0;have hfz28_1 := blk_frozen BK127.out 1) | (go_at_call 61;(with_reducible refine (spec_l04Is.calls k _ _ l0_0 _ _ l0_1 false _ ?side1 ?side2 ?side3 ?side4 A2.out).mono ?_);(case side1 => exact cB HR0_0 HB);(case side2 => exact HC0_0.out);(case side3 => exact cB HR0_1 HB);(case side4 => exact HC0_1.out);rintro e w29 ⟨rfl,hb⟩;have n0_ := kB BK127 hb;have n1_ := hB HB hb;clear BK127;clear HB;have BK127 := n0_;have HB := n1_;clear n0_ n1_;(try clear hb);(try clear hb2);(try clear hk);(try clear hi))))
  go_ret2;exact eR (bN HB)
/-! ### impl_opening_sparing: function 71 -/
def impl_opening_sparing.f (a0_0 : Bool) (a0_1 : Int) : Option (Int × Bool) := if a0_0 = true then (some (wrap64 (a0_1 - 8), true)) else (some (wrap64 (a0_1 - 4), decide (a0_1 ≥ 3)))
set_option maxHeartbeats 8000000 in
set_option maxRecDepth 100000 in
theorem impl_opening_sparing.calls (a0_0 : Bool) (a0_1 : Int) (r1 : Int) (r2 : Bool) (w : World) (h : impl_opening_sparing.f a0_0 a0_1 = some (r1, r2)) :
 Calls Try.prog 71 #[.agg #[.bool a0_0,.int .i64 a0_1]] w fun e w' => e = .returned (.tuple #[.int .i64 r1,.bool r2]) ∧ Below w.heap.size w w' := by
 have hu75 := Try.underlying75;have HB := aK (Below.refl w.heap.size w);have H := h;clear h;unfold impl_opening_sparing.f at H
 by_cases c2 : a0_0 = true
 ·subst c2;rw [if_pos rfl] at H;simp only [Option.some.injEq,Prod.mk.injEq] at H;obtain ⟨rfl,rfl⟩ := H;go_enter Try.func71,Try.ntmps71
  go_wp2_with (first | ((with_reducible refine gate_dst (N := 1) rfl ?_);refine boxE 1 #[.bool true,.int .i64 a0_1] 75 ?_;intro gb137 hg w3 hbox hb;have BK137 := aK (hbox);have GW137 := aK (zG HB hg);have GE137 := aK (zG HB hg);replace HB := hB HB hb;clear hb hbox hg;have hcz4_0 := y0 BK137;have hcz4_1 := y1 BK137;have hfz4_0 := blk_frozen BK137.out 0;have hfz4_1 := blk_frozen BK137.out 1))
  repeat (go_quiet (first | ((with_reducible refine gate_dst (N := 1) rfl ?_);refine box_event ?hg (N := 1) ?hd (cs := #[.bool true,.int .i64 a0_1]) (t := 75) ?hr ?_;(case hd => rfl);(case hg => rfl);(case hr => first | (go_simp;done) | (go_simp;rfl));intro gb137 hg w3 hbox hb;have n0_ := hB HB hb;have n1_ := aK (hbox);have n2_ := aK (zG HB hg);have n3_ := aK (zG HB hg);replace HB := n0_;have BK137 := n1_;have GW137 := n2_;have GE137 := n3_;clear n0_ n1_ n2_ n3_;clear hb hbox hg;have hcz4_0 := y0 BK137;have hcz4_1 := y1 BK137;have hfz4_0 := blk_frozen BK137.out 0;have hfz4_1 := blk_frozen BK137.out 1));try go_wp2_with (first | ((with_reducible refine gate_dst (N := 1) rfl ?_);refine box_event ?hg (N := 1) ?hd (cs := #[.bool true,.int .i64 a0_1]) (t := 75) ?hr ?_;(case hd => rfl);(case hg => rfl);(case hr => first | (go_simp;done) | (go_simp;rfl));intro gb137 hg w3 hbox hb;have n0_ := hB HB hb;have n1_ := aK (hbox);have n2_ := aK (zG HB hg);have n3_ := aK (zG HB hg);replace HB := n0_;have BK137 := n1_;have GW137 := n2_;have GE137 := n3_;clear n0_ n1_ n2_ n3_;clear hb hbox hg;have hcz4_0 := y0 BK137;have hcz4_1 := y1 BK137;have hfz4_0 := blk_frozen BK137.out 0;have hfz4_1 := blk_frozen BK137.out 1)))
  go_ret2;exact eR (bN HB)
 ·replace c2 := Bool.eq_false_iff.mpr c2;subst c2;rw [if_neg (show ¬ (false = true) by decide)] at H;simp only [Option.some.injEq,Prod.mk.injEq] at H;obtain ⟨rfl,rfl⟩ := H;go_enter Try.func71,Try.ntmps71
  go_wp2_with (first | ((with_reducible refine gate_dst (N := 1) rfl ?_);refine boxE 1 #[.bool false,.int .i64 a0_1] 75 ?_;intro gb137 hg w5 hbox hb;have BK137 := aK (hbox);have GW137 := aK (zG HB hg);have GE137 := aK (zG HB hg);replace HB := hB HB hb;clear hb hbox hg;have hcz6_0 := y0 BK137;have hcz6_1 := y1 BK137;have hfz6_0 := blk_frozen BK137.out 0;have hfz6_1 := blk_frozen BK137.out 1))
  repeat (go_quiet (first | ((with_reducible refine gate_dst (N := 1) rfl ?_);refine box_event ?hg (N := 1) ?hd (cs := #[.bool false,.int .i64 a0_1]) (t := 75) ?hr ?_;(case hd => rfl);(case hg => rfl);(case hr => first | (go_simp;done) | (go_simp;rfl));intro gb137 hg w5 hbox hb;have n0_ := hB HB hb;have n1_ := aK (hbox);have n2_ := aK (zG HB hg);have n3_ := aK (zG HB hg);replace HB := n0_;have BK137 := n1_;have GW137 := n2_;have GE137 := n3_;clear n0_ n1_ n2_ n3_;clear hb hbox hg;have hcz6_0 := y0 BK137;have hcz6_1 := y1 BK137;have hfz6_0 := blk_frozen BK137.out 0;have hfz6_1 := blk_frozen BK137.out 1));try go_wp2_with (first | ((with_reducible refine gate_dst (N := 1) rfl ?_);refine box_event ?hg (N := 1) ?hd (cs := #[.bool false,.int .i64 a0_1]) (t := 75) ?hr ?_;(case hd => rfl);(case hg => rfl);(case hr => first | (go_simp;done) | (go_simp;rfl));intro gb137 hg w5 hbox hb;have n0_ := hB HB hb;have n1_ := aK (hbox);have n2_ := aK (zG HB hg);have n3_ := aK (zG HB hg);replace HB := n0_;have BK137 := n1_;have GW137 := n2_;have GE137 := n3_;clear n0_ n1_ n2_ n3_;clear hb hbox hg;have hcz6_0 := y0 BK137;have hcz6_1 := y1 BK137;have hfz6_0 := blk_frozen BK137.out 0;have hfz6_1 := blk_frozen BK137.out 1)))
  go_ret2;exact eR (bN HB)
/-! ### impl_SparingNumber: function 25 -/
mutual
def impl_SparingNumber.l0 : Nat → List (S75) → List Int → Int → Int → List Int → List Int → Option (Int × Int)
 | 0,_,_,_,_,_,_ => none
 | k + 1,x4,x20,x21,x22,x139000,x139001 => if x22 < x21 then (if 0 ≤ x22 then (if x22 < (x20.length : Int) then (if x4.length < 8796093022208 then (impl_SparingNumber.l0 k (x4 ++ [(⟨false,rd x20 x22⟩ : S75)]) x20 x21 (wrap64 (x22 + 1)) x139000 x139001) else (none)) else (none)) else (none)) else (impl_SparingNumber.l1 k x4 x139001 (x139001.length : Int) 0)
def impl_SparingNumber.l1 : Nat → List (S75) → List Int → Int → Int → Option (Int × Int)
 | 0,_,_,_,_ => none
 | k + 1,x4,x33,x34,x35 => if x35 < x34 then (if 0 ≤ x35 then (if x35 < (x33.length : Int) then (if x4.length < 8796093022208 then (impl_SparingNumber.l1 k (x4 ++ [(⟨true,rd x33 x35⟩ : S75)]) x33 x34 (wrap64 (x35 + 1))) else (none)) else (none)) else (none)) else (impl_SparingNumber.l2 k x4 0 1 x4 (x4.length : Int) 0)
def impl_SparingNumber.l2 : Nat → List (S75) → Int → Int → List (S75) → Int → Int → Option (Int × Int)
 | 0,_,_,_,_,_,_ => none
 | k + 1,x4,x9,x10,x45,x46,x47 => if x47 < x46 then (if 0 ≤ x47 then (if x47 < (x45.length : Int) then ((impl_opening_sparing.f ((rd_T75 x45 x47).f0) ((rd_T75 x45 x47).f1)).bind fun bt153 => (if bt153.2 = true then (if x47 < (wrap64 ((x4.length : Int) - 1)) then (impl_SparingNumber.l2 k x4 (wrap64 (x9 + (wrap64 (x10 * bt153.1)))) x10 x45 x46 (wrap64 (x47 + 1))) else (impl_SparingNumber.l2 k x4 (wrap64 (x9 + (wrap64 (x10 * ((rd_T75 x45 x47).f1))))) (wrap64 (-x10)) x45 x46 (wrap64 (x47 + 1)))) else (impl_SparingNumber.l2 k x4 (wrap64 (x9 + (wrap64 (x10 * ((rd_T75 x45 x47).f1))))) (wrap64 (-x10)) x45 x46 (wrap64 (x47 + 1))))) else (none)) else (none)) else (some (x9,0))
end
def impl_SparingNumber.f (k : Nat) (l0_0 : List Int) (l0_1 : List Int) : Option (Int × Int) := (impl_IsEnding.f k l0_0 l0_1).bind fun t139 => (if t139 = true then (impl_SparingNumber.l0 k (([] : List (S75))) l0_0 (l0_0.length : Int) 0 l0_0 l0_1) else (some (0, 1)))
theorem impl_SparingNumber.mono_l : ∀ k, (∀ y0 y1 y2 y3 y4 y5, LeO (impl_SparingNumber.l0 k y0 y1 y2 y3 y4 y5) (impl_SparingNumber.l0 (k + 1) y0 y1 y2 y3 y4 y5)) ∧ (∀ y0 y1 y2 y3, LeO (impl_SparingNumber.l1 k y0 y1 y2 y3) (impl_SparingNumber.l1 (k + 1) y0 y1 y2 y3)) ∧ (∀ y0 y1 y2 y3 y4 y5, LeO (impl_SparingNumber.l2 k y0 y1 y2 y3 y4 y5) (impl_SparingNumber.l2 (k + 1) y0 y1 y2 y3 y4 y5))
 | 0 => ⟨fun _ _ _ _ _ _ r h => by simp [impl_SparingNumber.l0] at h,fun _ _ _ _ r h => by simp [impl_SparingNumber.l1] at h,fun _ _ _ _ _ _ r h => by simp [impl_SparingNumber.l2] at h⟩
 | k + 1 => by
  obtain ⟨ih0,ih1,ih2⟩ := impl_SparingNumber.mono_l k;refine ⟨?_,?_,?_⟩
  ·intro y0 y1 y2 y3 y4 y5;unfold impl_SparingNumber.l0
   repeat' first
   | (with_reducible exact ih0 _ _ _ _ _ _)
   | (with_reducible exact ih1 _ _ _ _)
   | (with_reducible exact ih2 _ _ _ _ _ _)
   | (with_reducible exact impl_IsEnding.mono _ _ _)
   | (with_reducible exact LeO.refl _)
   | (with_reducible exact LeO.none _)
   | (with_reducible refine LeO.ite ?_ ?_)
   | (with_reducible refine LeO.bind ?_ (fun _ => ?_))
   | exact ih0 _ _ _ _ _ _
   | exact ih1 _ _ _ _
   | exact ih2 _ _ _ _ _ _
   | exact impl_IsEnding.mono _ _ _
   | exact LeO.none _
   | refine LeO.ite ?_ ?_
   | refine LeO.bind ?_ (fun _ => ?_)
  ·intro y0 y1 y2 y3;unfold impl_SparingNumber.l1
   repeat' first
   | (with_reducible exact ih0 _ _ _ _ _ _)
   | (with_reducible exact ih1 _ _ _ _)
   | (with_reducible exact ih2 _ _ _ _ _ _)
   | (with_reducible exact impl_IsEnding.mono _ _ _)
   | (with_reducible exact LeO.refl _)
   | (with_reducible exact LeO.none _)
   | (with_reducible refine LeO.ite ?_ ?_)
   | (with_reducible refine LeO.bind ?_ (fun _ => ?_))
   | exact ih0 _ _ _ _ _ _
   | exact ih1 _ _ _ _
   | exact ih2 _ _ _ _ _ _
   | exact impl_IsEnding.mono _ _ _
   | exact LeO.none _
   | refine LeO.ite ?_ ?_
   | refine LeO.bind ?_ (fun _ => ?_)
  ·intro y0 y1 y2 y3 y4 y5;unfold impl_SparingNumber.l2
   repeat' first
   | (with_reducible exact ih0 _ _ _ _ _ _)
   | (with_reducible exact ih1 _ _ _ _)
   | (with_reducible exact ih2 _ _ _ _ _ _)
   | (with_reducible exact impl_IsEnding.mono _ _ _)
   | (with_reducible exact LeO.refl _)
   | (with_reducible exact LeO.none _)
   | (with_reducible refine LeO.ite ?_ ?_)
   | (with_reducible refine LeO.bind ?_ (fun _ => ?_))
   | exact ih0 _ _ _ _ _ _
   | exact ih1 _ _ _ _
   | exact ih2 _ _ _ _ _ _
   | exact impl_IsEnding.mono _ _ _
   | exact LeO.none _
   | refine LeO.ite ?_ ?_
   | refine LeO.bind ?_ (fun _ => ?_)
theorem impl_SparingNumber.mono : ∀ a0 a1 k, LeO (impl_SparingNumber.f k a0 a1) (impl_SparingNumber.f (k + 1) a0 a1) := by
 intro a0 a1 k;obtain ⟨ih0,ih1,ih2⟩ := impl_SparingNumber.mono_l k;unfold impl_SparingNumber.f
 repeat' first
  | (with_reducible exact ih0 _ _ _ _ _ _)
  | (with_reducible exact ih1 _ _ _ _)
  | (with_reducible exact ih2 _ _ _ _ _ _)
  | (with_reducible exact impl_IsEnding.mono _ _ _)
  | (with_reducible exact LeO.refl _)
  | (with_reducible exact LeO.none _)
  | (with_reducible refine LeO.ite ?_ ?_)
  | (with_reducible refine LeO.bind ?_ (fun _ => ?_))
  | exact ih0 _ _ _ _ _ _
  | exact ih1 _ _ _ _
  | exact ih2 _ _ _ _ _ _
  | exact impl_IsEnding.mono _ _ _
  | exact LeO.none _
  | refine LeO.ite ?_ ?_
  | refine LeO.bind ?_ (fun _ => ?_)
set_option maxHeartbeats 8000000 in
set_option maxRecDepth 100000 in
theorem impl_SparingNumber.calls (k : Nat) (A0_0 : Option Addr) (c0_0 : Nat) (l0_0 : List Int) (A0_1 : Option Addr) (c0_1 : Nat) (l0_1 : List Int) (r1 : Int) (r2 : Int) (w : World) (hr0_0 : Kd.C (Kd.int .i64) w A0_0 l0_0.length l0_0) (hc0_0 : l0_0.length ≤ c0_0) (hr0_1 : Kd.C (Kd.int .i64) w A0_1 l0_1.length l0_1) (hc0_1 : l0_1.length ≤ c0_1) (h : impl_SparingNumber.f k l0_0 l0_1 = some (r1, r2)) :
 Calls Try.prog 25 #[.agg #[.slice A0_0 l0_0.length c0_0,.slice A0_1 l0_1.length c0_1]] w fun e w' => e = .returned (.tuple #[.int .i64 r1,.int .i64 r2]) ∧ Below w.heap.size w w' := by
 have hu27 := Try.underlying27;have hu75 := Try.underlying75;have HR0_0 := aK hr0_0;have HC0_0 := aK hc0_0;clear hr0_0 hc0_0;have HR0_1 := aK hr0_1;have HC0_1 := aK hc0_1;clear hr0_1 hc0_1;have HB := aK (Below.refl w.heap.size w);have H := h;clear h;unfold impl_SparingNumber.f at H;replace H := bE H;obtain ⟨t139,A2,H⟩ := H
 by_cases c3 : t139 = true
 ·subst c3;rw [if_pos rfl] at H;obtain ⟨y140,hy140⟩ : ∃ y_ : List (S75),y_ = (([] : List (S75))) := ⟨_,rfl⟩;replace H : (impl_SparingNumber.l0 k y140 l0_0 (l0_0.length : Int) 0 l0_0 l0_1) = some (r1,r2) := by first | (rw [hy140];with_reducible exact H) | (have H2_ := (Option.bind_some _ _).symm.trans H;rw [hy140];with_reducible exact H2_) | (have H2_ := (Option.bind_some _ _).symm.trans H;with_reducible exact H2_) | with_reducible exact H | (rw [hy140];exact H) | exact H
  have Ny140 := aK hy140;clear hy140;have H' := aK H;clear H;go_enter Try.func25,Try.ntmps25
  go_wp2_with (first | ((with_reducible refine gate_dst (N := 1) rfl ?_);(try (refine gate_guard (by rfl) ?_;dsimp only));refine boxE 1 #[.slice A0_0 l0_0.length c0_0,.slice A0_1 l0_1.length c0_1] 27 ?_;intro gb138 hg w4 hbox hb;have BK138 := aK (hbox);have GW138 := aK (zG HB hg);have GE138 := aK (zG HB hg);replace HB := hB HB hb;clear hb hbox hg;have hcz5_0 := y0 BK138;have hcz5_1 := y1 BK138;have hfz5_0 := blk_frozen BK138.out 0;have hfz5_1 := blk_frozen BK138.out 1) | ((with_reducible refine gate_callee (f := 18) rfl ?_);refine goesE (some 16) Try.func18 #[.agg #[.slice A0_0 l0_0.length c0_0,.slice A0_1 l0_1.length c0_1]] ?_;(with_reducible refine (impl_IsEnding.calls k _ _ l0_0 _ _ l0_1 true _ ?side1 ?side2 ?side3 ?side4 A2.out).mono ?_);(case side1 => exact cB HR0_0 HB);(case side2 => exact HC0_0.out);(case side3 => exact cB HR0_1 HB);(case side4 => exact HC0_1.out);rintro e w6 ⟨rfl,hb⟩;refine ⟨_,rfl,?_⟩;replace BK138 := kB BK138 hb;replace HB := hB HB hb;clear hb) | ((with_reducible refine gate_dst (N := 18) rfl ?_);(try (refine gate_guard (by rfl) ?_;dsimp only));refine Kd.R_lit k75 _ 75 ?hg (N := 18) ?hd (xs := ([] : List (S75))) (inner := []) (ok := fun _ => True) (okp := fun _ => True) ?hr ?hp (fun _ hk => hk) trivial (Below.refl _ _) (Nat.le_refl _) (by simp) ?_;(case hd => rfl);(case hg => rfl);(case hr => first | (go_simp;done) | (go_simp;rfl));(case hp => exact (Reps.none _ _));intro v141 w7 ho8 hb hg_ hnew_;clear hg_ hnew_;(first | rw [← Ny140.out] at ho8 | (simp only [Int.reduceToNat] at ho8;rw [← Ny140.out] at ho8));have HO142 := aK (Kd.R_lower ho8 (below_size (bN HB)));replace BK138 := kB BK138 hb;replace HB := hB HB hb;clear hb ho8;have hcz9_0 := y0 BK138;have hcz9_1 := y1 BK138;have hfz9_0 := blk_frozen BK138.out 0;have hfz9_1 := blk_frozen BK138.out 1))
  go_loopg [4,22] k (fun kq v4 v22 w' => ∃ (x4_1 : List (S75)) (x22_1 : Int),v22 = .int .i64 x22_1 ∧ Aside0 (impl_SparingNumber.l0 kq x4_1 l0_0 (l0_0.length : Int) x22_1 l0_0 l0_1 = some (r1,r2)) ∧ Aside0 (kq ≤ k) ∧ Aside0 (Kd.R k75 75 w' w.heap.size (fun _ => True) v4 x4_1) ∧ Aside0 (w'.heap[gb138]? = some (.cells #[(.slice A0_0 l0_0.length c0_0),(.slice A0_1 l0_1.length c0_1)] 27 (0,0))) ∧ Aside0 (Below w.heap.size w w'))
  case atStart => exact ⟨(y140),(0),rD,H',⟨Nat.le_refl _⟩,⟨rN HO142⟩,⟨kN BK138⟩,⟨bN HB⟩⟩
  case round =>
   clear H';clear hcz5_0 hcz5_1 hcz9_0 hcz9_1 hfz5_0 hfz5_1 hfz9_0 hfz9_1;obtain ⟨x4_1,x22_1,rfl,HA,HK1,HO_4,BK138,HB⟩ := hrel
   cases gk with
   | zero => exact absurd HA.out (by simp [impl_SparingNumber.l0])
   | succ k1 =>
    have H := HA.out;clear HA;simp only [impl_SparingNumber.l0] at H
    by_cases c10 : x22_1 < (l0_0.length : Int)
    ·rw [if_pos c10] at H;have c10b0 := decide_eq_true c10;clear c10
     by_cases c11 : 0 ≤ x22_1
     rotate_left
     ·rw [if_neg c11] at H;exact absurd H (by simp)
     rw [if_pos c11] at H;have c11b0 := decide_eq_true c11;clear c11
     by_cases c12 : x22_1 < (l0_0.length : Int)
     rotate_left
     ·rw [if_neg c12] at H;exact absurd H (by simp)
     rw [if_pos c12] at H;have c12b0 := decide_eq_true c12;clear c12
     by_cases c13 : x4_1.length < 8796093022208
     rotate_left
     ·rw [if_neg c13] at H;exact absurd H (by simp)
     rw [if_pos c13] at H;have LMc13 := aK c13;clear c13;obtain ⟨y144,hy144⟩ : ∃ y_ : List (S75),y_ = (x4_1 ++ [(⟨false,rd l0_0 x22_1⟩ : S75)]) := ⟨_,rfl⟩;replace H : (impl_SparingNumber.l0 k1 y144 l0_0 (l0_0.length : Int) (wrap64 (x22_1 + 1)) l0_0 l0_1) = some (r1,r2) := by first | (rw [hy144];with_reducible exact H) | (have H2_ := (Option.bind_some _ _).symm.trans H;rw [hy144];with_reducible exact H2_) | (have H2_ := (Option.bind_some _ _).symm.trans H;with_reducible exact H2_) | with_reducible exact H | (rw [hy144];exact H) | exact H
     have Ny144 := aK hy144;clear hy144;have H' := aK H;clear H;have p143 : 0 ≤ (x22_1 : Int) := dT;have q143 : x22_1 < (l0_0.length : Int) := dT;obtain ⟨ad143,e143,hx143_0⟩ := Kd.at_int HR0_0.out x22_1 p143 q143;cases e143;replace hx143_0 := cO HB hx143_0;replace p143 := eq_true p143;replace q143 := eq_true q143
     go_wp2_with (first | ((with_reducible refine gate_builtin (b := .append) (xs := #[.tmp 26,.tmp 29]) rfl ?_);(try (refine gate_guard (by rfl) ?_;dsimp only));at_builtin;refine Kd.R_append k75 (w0 := w) w.heap.size rfl (.tmp 26) (.tmp 29) 73 75 (.agg #[(.bool false),(.int .i64 0)]) 16 rfl Try.underlying73 info75 rfl (by decide) (by omega) u4 x4_1 (⟨false,rd l0_0 x22_1⟩ : S75) [.bool false,.int .i64 (rd l0_0 x22_1)] (fun _ => True) (fun _ => False) rfl rfl ?aP (fun _ hk => hk.elim) ?aF ?aO ?aB ?aS ?aL ?_;(case aP => exact k75_mkM _ _ _ (⟨false,rd l0_0 x22_1⟩ : S75));(case aB => exact (bN HB));(case aF => exact (fun _ _ => trivial));(case aO => exact (rN HO_4));(case aS => exact (below_size (bN HB)));(case aL => have := LMc13.out;omega);intro v145 w14 ho hb hg hat;rw [← Ny144.out] at ho;replace BK138 := aK (blk_grown (g := gb138) (o := .cells #[.slice (some ad143) l0_0.length c0_0,.slice A0_1 l0_1.length c0_1] 27 (0,0)) (kN BK138) hg (Kd.R_ne HO_4.out BK138.out (by decide)));replace HB := aK (hb);have HO146 := aK (ho);clear HO_4;clear ho hb hg hat))
     go_roundg k1
     case measure => have := HK1.out;omega
     case rel => exact ⟨(y144),(wrap64 (x22_1 + 1)),rD,H',⟨by have := HK1.out;omega⟩,⟨rN HO146⟩,⟨kN BK138⟩,⟨bN HB⟩⟩
    ·rw [if_neg c10] at H;have c10b0 := decide_eq_false c10;clear c10;have H' := aK H;clear H;have hcz15_0 := y0 BK138;have hcz15_1 := y1 BK138;have hfz15_0 := blk_frozen BK138.out 0;have hfz15_1 := blk_frozen BK138.out 1;go_wp2
     go_loopg [4,35] k1 (fun kq v4 v35 w' => ∃ (x4_2 : List (S75)) (x35_2 : Int),v35 = .int .i64 x35_2 ∧ Aside0 (impl_SparingNumber.l1 kq x4_2 l0_1 (l0_1.length : Int) x35_2 = some (r1,r2)) ∧ Aside0 (kq ≤ k1) ∧ Aside0 (Kd.R k75 75 w' w.heap.size (fun _ => True) v4 x4_2) ∧ Aside0 (w'.heap[gb138]? = some (.cells #[(.slice A0_0 l0_0.length c0_0),(.slice A0_1 l0_1.length c0_1)] 27 (0,0))) ∧ Aside0 (Below w.heap.size w w'))
     case atStart => exact ⟨(x4_1),(0),rD,H',⟨Nat.le_refl _⟩,⟨rN HO_4⟩,⟨kN BK138⟩,⟨bN HB⟩⟩
     case round =>
      clear H';clear c10b0 hcz15_0 hcz15_1 hfz15_0 hfz15_1;obtain ⟨x4_2,x35_2,rfl,HA,HK2,HO_4,BK138,HB⟩ := hrel
      cases gk with
      | zero => exact absurd HA.out (by simp [impl_SparingNumber.l1])
      | succ k2 =>
       have H := HA.out;clear HA;simp only [impl_SparingNumber.l1] at H
       by_cases c16 : x35_2 < (l0_1.length : Int)
       ·rw [if_pos c16] at H;have c16b0 := decide_eq_true c16;clear c16
        by_cases c17 : 0 ≤ x35_2
        rotate_left
        ·rw [if_neg c17] at H;exact absurd H (by simp)
        rw [if_pos c17] at H;have c17b0 := decide_eq_true c17;clear c17
        by_cases c18 : x35_2 < (l0_1.length : Int)
        rotate_left
        ·rw [if_neg c18] at H;exact absurd H (by simp)
        rw [if_pos c18] at H;have c18b0 := decide_eq_true c18;clear c18
        by_cases c19 : x4_2.length < 8796093022208
        rotate_left
        ·rw [if_neg c19] at H;exact absurd H (by simp)
        rw [if_pos c19] at H;have LMc19 := aK c19;clear c19;obtain ⟨y148,hy148⟩ : ∃ y_ : List (S75),y_ = (x4_2 ++ [(⟨true,rd l0_1 x35_2⟩ : S75)]) := ⟨_,rfl⟩;replace H : (impl_SparingNumber.l1 k2 y148 l0_1 (l0_1.length : Int) (wrap64 (x35_2 + 1))) = some (r1,r2) := by first | (rw [hy148];with_reducible exact H) | (have H2_ := (Option.bind_some _ _).symm.trans H;rw [hy148];with_reducible exact H2_) | (have H2_ := (Option.bind_some _ _).symm.trans H;with_reducible exact H2_) | with_reducible exact H | (rw [hy148];exact H) | exact H
        have Ny148 := aK hy148;clear hy148;have H' := aK H;clear H;have p147 : 0 ≤ (x35_2 : Int) := dT;have q147 : x35_2 < (l0_1.length : Int) := dT;obtain ⟨ad147,e147,hx147_0⟩ := Kd.at_int HR0_1.out x35_2 p147 q147;cases e147;replace hx147_0 := cO HB hx147_0;replace p147 := eq_true p147;replace q147 := eq_true q147
        go_wp2_with (first | ((with_reducible refine gate_builtin (b := .append) (xs := #[.tmp 39,.tmp 42]) rfl ?_);(try (refine gate_guard (by rfl) ?_;dsimp only));at_builtin;refine Kd.R_append k75 (w0 := w) w.heap.size rfl (.tmp 39) (.tmp 42) 73 75 (.agg #[(.bool false),(.int .i64 0)]) 16 rfl Try.underlying73 info75 rfl (by decide) (by omega) u4 x4_2 (⟨true,rd l0_1 x35_2⟩ : S75) [.bool true,.int .i64 (rd l0_1 x35_2)] (fun _ => True) (fun _ => False) rfl rfl ?aP (fun _ hk => hk.elim) ?aF ?aO ?aB ?aS ?aL ?_;(case aP => exact k75_mkM _ _ _ (⟨true,rd l0_1 x35_2⟩ : S75));(case aB => exact (bN HB));(case aF => exact (fun _ _ => trivial));(case aO => exact (rN HO_4));(case aS => exact (below_size (bN HB)));(case aL => have := LMc19.out;omega);intro v149 w20 ho hb hg hat;rw [← Ny148.out] at ho;replace BK138 := aK (blk_grown (g := gb138) (o := .cells #[.slice A0_0 l0_0.length c0_0,.slice (some ad147) l0_1.length c0_1] 27 (0,0)) (kN BK138) hg (Kd.R_ne HO_4.out BK138.out (by decide)));replace HB := aK (hb);have HO150 := aK (ho);clear HO_4;clear ho hb hg hat))
        go_roundg k2
        case measure => have := HK1.out;have := HK2.out;omega
        case rel => exact ⟨(y148),(wrap64 (x35_2 + 1)),rD,H',⟨by have := HK1.out;have := HK2.out;omega⟩,⟨rN HO150⟩,⟨kN BK138⟩,⟨bN HB⟩⟩
       ·rw [if_neg c16] at H;have c16b0 := decide_eq_false c16;clear c16;have H' := aK H;clear H;obtain ⟨Ao21,co21,eo21⟩ := Kd.R_slice HO_4.out;subst eo21;go_wp2
        go_loopg [9,10,47] k2 (fun kq v9 v10 v47 w' => ∃ (x9_3 : Int) (x10_3 : Int) (x47_3 : Int),v9 = .int .i64 x9_3 ∧ v10 = .int .i64 x10_3 ∧ v47 = .int .i64 x47_3 ∧ Aside0 (impl_SparingNumber.l2 kq x4_2 x9_3 x10_3 x4_2 (x4_2.length : Int) x47_3 = some (r1,r2)) ∧ Aside0 (kq ≤ k2) ∧ Aside0 (Kd.R k75 75 w' w.heap.size (fun _ => True) (.slice Ao21 x4_2.length co21) x4_2) ∧ Aside0 (Kd.R k75 75 w' w.heap.size (fun _ => True) (.slice Ao21 x4_2.length co21) x4_2) ∧ Aside0 (w'.heap[gb138]? = some (.cells #[(.slice A0_0 l0_0.length c0_0),(.slice A0_1 l0_1.length c0_1)] 27 (0,0))) ∧ Aside0 (Below w.heap.size w w'))
        case atStart => exact ⟨(0),(1),(0),rD,rD,rD,H',⟨Nat.le_refl _⟩,⟨rN HO_4⟩,⟨rN HO_4⟩,⟨kN BK138⟩,⟨bN HB⟩⟩
        case round =>
         clear H';clear c16b0;obtain ⟨x9_3,x10_3,x47_3,rfl,rfl,rfl,HA,HK3,HO_4,HO_45,BK138,HB⟩ := hrel
         cases gk with
         | zero => exact absurd HA.out (by simp [impl_SparingNumber.l2])
         | succ k3 =>
          have H := HA.out;clear HA;simp only [impl_SparingNumber.l2] at H
          by_cases c22 : x47_3 < (x4_2.length : Int)
          ·rw [if_pos c22] at H;have c22b0 := decide_eq_true c22;clear c22
           by_cases c23 : 0 ≤ x47_3
           rotate_left
           ·rw [if_neg c23] at H;exact absurd H (by simp)
           rw [if_pos c23] at H;have c23b0 := decide_eq_true c23;clear c23
           by_cases c24 : x47_3 < (x4_2.length : Int)
           rotate_left
           ·rw [if_neg c24] at H;exact absurd H (by simp)
           rw [if_pos c24] at H;have c24b0 := decide_eq_true c24;clear c24;replace H := bE H;obtain ⟨⟨t153,t154⟩,A25,H⟩ := H;dsimp only at H
           by_cases c26 : t154 = true
           ·subst c26;rw [if_pos rfl] at H
            by_cases c27 : x47_3 < (wrap64 ((x4_2.length : Int) - 1))
            ·rw [if_pos c27] at H;have c27b0 := decide_eq_true c27;clear c27;have H' := aK H;clear H;have p151 : 0 ≤ (x47_3 : Int) := dT;have q151 : x47_3 < (x4_2.length : Int) := dT;obtain ⟨ad151,e151,hx151_0,hx151_1⟩ := at_T75 (Kd.R_reads' HO_45.out).2.2 x47_3 p151 q151;cases e151;replace p151 := eq_true p151;replace q151 := eq_true q151
             go_wp2_with (first | ((with_reducible refine gate_dst (N := 12) rfl ?_);(try (refine gate_guard (by rfl) ?_;dsimp only));refine boxE 12 #[.bool false,.int .i64 0] 75 ?_;intro gb152 hg w28 hbox hb;replace HO_4 := aK (Kd.R_below (Kd.R_elderB (rN HO_4) gb152 (Nat.le_of_eq hg.symm)) hb);replace HO_45 := aK (Kd.R_below (Kd.R_elderB (rN HO_45) gb152 (Nat.le_of_eq hg.symm)) hb);have BK152 := aK (hbox);have GW152 := aK (zG HB hg);have GE152 := aK (zG HB hg);replace HB := hB HB hb;have NB138_152 := aK ((by rw [hg];exact Nat.ne_of_lt (blk_lt (g := gb138) (o := .cells #[.slice A0_0 l0_0.length c0_0,.slice A0_1 l0_1.length c0_1] 27 (0,0)) (kN BK138)) : gb138 ≠ gb152));have NB152_138 := aK ((by rw [hg];exact Nat.ne_of_gt (blk_lt (g := gb138) (o := .cells #[.slice A0_0 l0_0.length c0_0,.slice A0_1 l0_1.length c0_1] 27 (0,0)) (kN BK138)) : gb152 ≠ gb138));replace BK138 := kB BK138 hb;clear hb hbox hg;have hnb29 := NB152_138.out;have hnc29 := NB138_152.out;have hcz30_0 := y0 BK152;have hcz30_1 := y1 BK152;have hfz30_0 := blk_frozen BK152.out 0;have hfz30_1 := blk_frozen BK152.out 1) | ((with_reducible refine gate_callee (f := 71) rfl ?_);refine goesE (some 54) Try.func71 #[.agg #[.bool ((rd_T75 x4_2 x47_3).f0),.int .i64 ((rd_T75 x4_2 x47_3).f1)]] ?_;(with_reducible refine (impl_opening_sparing.calls ((rd_T75 x4_2 x47_3).f0) ((rd_T75 x4_2 x47_3).f1) t153 true _ A25.out).mono ?_);rintro e w31 ⟨rfl,hb⟩;refine ⟨_,rfl,?_⟩;replace HO_4 := aK (Kd.R_below (rM ((Kd.R_mono (Kd.R_far (p := ⟨gb152,1,none⟩) (Kd.R_far (p := ⟨gb152,0,none⟩) (Kd.R_mono HO_4.out (fun k_ hk => (⟨hk,hk.2⟩ : _ ∧ k_ ≠ gb152))) (fun _ hk => hk.2) (.bool ((rd_T75 x4_2 x47_3).f0))) (fun _ hk => hk.2) (.int .i64 ((rd_T75 x4_2 x47_3).f1))) (fun _ h_ => h_.1)))) hb);replace HO_45 := aK (Kd.R_below (rM ((Kd.R_mono (Kd.R_far (p := ⟨gb152,1,none⟩) (Kd.R_far (p := ⟨gb152,0,none⟩) (Kd.R_mono HO_45.out (fun k_ hk => (⟨hk,hk.2⟩ : _ ∧ k_ ≠ gb152))) (fun _ hk => hk.2) (.bool ((rd_T75 x4_2 x47_3).f0))) (fun _ hk => hk.2) (.int .i64 ((rd_T75 x4_2 x47_3).f1))) (fun _ h_ => h_.1)))) hb);replace BK138 := aK (blk_below (g := gb138) (o := .cells #[.slice A0_0 l0_0.length c0_0,.slice A0_1 l0_1.length c0_1] 27 (0,0)) (kZ BK138) hb);replace BK152 := aK (blk_below (g := gb152) (o := .cells #[.bool ((rd_T75 x4_2 x47_3).f0),.int .i64 ((rd_T75 x4_2 x47_3).f1)] 75 (0,0)) (by (with_reducible repeat (first | refine blk_drewN ?_ _ | refine blk_drew ?_ | refine blk_alloc ?_ _));refine blk_put (cs := #[.bool ((rd_T75 x4_2 x47_3).f0),.int .i64 0]) ?_ 1 _ rfl;(with_reducible repeat (first | refine blk_drewN ?_ _ | refine blk_drew ?_ | refine blk_alloc ?_ _));refine blk_put (cs := #[.bool false,.int .i64 0]) ?_ 0 _ rfl;(with_reducible repeat (first | refine blk_drewN ?_ _ | refine blk_drew ?_ | refine blk_alloc ?_ _));exact BK152.out) hb);replace HB := hB HB hb;clear hb))
             go_roundg k3
             case measure => have := HK1.out;have := HK2.out;have := HK3.out;omega
             case rel => exact ⟨(wrap64 (x9_3 + (wrap64 (x10_3 * t153)))),(x10_3),(wrap64 (x47_3 + 1)),rD,rD,rD,H',⟨by have := HK1.out;have := HK2.out;have := HK3.out;omega⟩,⟨rM (Kd.R_mono HO_4.out (fun _ hk => trivial))⟩,⟨rM (Kd.R_mono HO_45.out (fun _ hk => trivial))⟩,⟨kN BK138⟩,⟨bN HB⟩⟩
            ·rw [if_neg c27] at H;have c27b0 := decide_eq_false c27;clear c27;have H' := aK H;clear H;have p151 : 0 ≤ (x47_3 : Int) := dT;have q151 : x47_3 < (x4_2.length : Int) := dT;obtain ⟨ad151,e151,hx151_0,hx151_1⟩ := at_T75 (Kd.R_reads' HO_45.out).2.2 x47_3 p151 q151;cases e151;replace p151 := eq_true p151;replace q151 := eq_true q151
             go_wp2_with (first | ((with_reducible refine gate_dst (N := 12) rfl ?_);(try (refine gate_guard (by rfl) ?_;dsimp only));refine boxE 12 #[.bool false,.int .i64 0] 75 ?_;intro gb152 hg w32 hbox hb;replace HO_4 := aK (Kd.R_below (Kd.R_elderB (rN HO_4) gb152 (Nat.le_of_eq hg.symm)) hb);replace HO_45 := aK (Kd.R_below (Kd.R_elderB (rN HO_45) gb152 (Nat.le_of_eq hg.symm)) hb);have BK152 := aK (hbox);have GW152 := aK (zG HB hg);have GE152 := aK (zG HB hg);replace HB := hB HB hb;have NB138_152 := aK ((by rw [hg];exact Nat.ne_of_lt (blk_lt (g := gb138) (o := .cells #[.slice A0_0 l0_0.length c0_0,.slice A0_1 l0_1.length c0_1] 27 (0,0)) (kN BK138)) : gb138 ≠ gb152));have NB152_138 := aK ((by rw [hg];exact Nat.ne_of_gt (blk_lt (g := gb138) (o := .cells #[.slice A0_0 l0_0.length c0_0,.slice A0_1 l0_1.length c0_1] 27 (0,0)) (kN BK138)) : gb152 ≠ gb138));replace BK138 := kB BK138 hb;clear hb hbox hg;have hnb33 := NB152_138.out;have hnc33 := NB138_152.out;have hcz34_0 := y0 BK152;have hcz34_1 := y1 BK152;have hfz34_0 := blk_frozen BK152.out 0;have hfz34_1 := blk_frozen BK152.out 1) | ((with_reducible refine gate_callee (f := 71) rfl ?_);refine goesE (some 54) Try.func71 #[.agg #[.bool ((rd_T75 x4_2 x47_3).f0),.int .i64 ((rd_T75 x4_2 x47_3).f1)]] ?_;(with_reducible refine (impl_opening_sparing.calls ((rd_T75 x4_2 x47_3).f0) ((rd_T75 x4_2 x47_3).f1) t153 true _ A25.out).mono ?_);rintro e w35 ⟨rfl,hb⟩;refine ⟨_,rfl,?_⟩;replace HO_4 := aK (Kd.R_below (rM ((Kd.R_mono (Kd.R_far (p := ⟨gb152,1,none⟩) (Kd.R_far (p := ⟨gb152,0,none⟩) (Kd.R_mono HO_4.out (fun k_ hk => (⟨hk,hk.2⟩ : _ ∧ k_ ≠ gb152))) (fun _ hk => hk.2) (.bool ((rd_T75 x4_2 x47_3).f0))) (fun _ hk => hk.2) (.int .i64 ((rd_T75 x4_2 x47_3).f1))) (fun _ h_ => h_.1)))) hb);replace HO_45 := aK (Kd.R_below (rM ((Kd.R_mono (Kd.R_far (p := ⟨gb152,1,none⟩) (Kd.R_far (p := ⟨gb152,0,none⟩) (Kd.R_mono HO_45.out (fun k_ hk => (⟨hk,hk.2⟩ : _ ∧ k_ ≠ gb152))) (fun _ hk => hk.2) (.bool ((rd_T75 x4_2 x47_3).f0))) (fun _ hk => hk.2) (.int .i64 ((rd_T75 x4_2 x47_3).f1))) (fun _ h_ => h_.1)))) hb);replace BK138 := aK (blk_below (g := gb138) (o := .cells #[.slice A0_0 l0_0.length c0_0,.slice A0_1 l0_1.length c0_1] 27 (0,0)) (kZ BK138) hb);replace BK152 := aK (blk_below (g := gb152) (o := .cells #[.bool ((rd_T75 x4_2 x47_3).f0),.int .i64 ((rd_T75 x4_2 x47_3).f1)] 75 (0,0)) (by (with_reducible repeat (first | refine blk_drewN ?_ _ | refine blk_drew ?_ | refine blk_alloc ?_ _));refine blk_put (cs := #[.bool ((rd_T75 x4_2 x47_3).f0),.int .i64 0]) ?_ 1 _ rfl;(with_reducible repeat (first | refine blk_drewN ?_ _ | refine blk_drew ?_ | refine blk_alloc ?_ _));refine blk_put (cs := #[.bool false,.int .i64 0]) ?_ 0 _ rfl;(with_reducible repeat (first | refine blk_drewN ?_ _ | refine blk_drew ?_ | refine blk_alloc ?_ _));exact BK152.out) hb);replace HB := hB HB hb;clear hb;have hcz36_0 : w35.cell? ⟨gb152,0,none⟩ = some (.bool ((rd_T75 x4_2 x47_3).f0)) := (blk_cell BK152.out 0).trans rfl;have hcz36_1 : w35.cell? ⟨gb152,1,none⟩ = some (.int .i64 ((rd_T75 x4_2 x47_3).f1)) := (blk_cell BK152.out 1).trans rfl;have hfz36_0 := blk_frozen BK152.out 0;have hfz36_1 := blk_frozen BK152.out 1))
             go_roundg k3
             case measure => have := HK1.out;have := HK2.out;have := HK3.out;omega
             case rel => exact ⟨(wrap64 (x9_3 + (wrap64 (x10_3 * ((rd_T75 x4_2 x47_3).f1))))),(wrap64 (-x10_3)),(wrap64 (x47_3 + 1)),rD,rD,rD,H',⟨by have := HK1.out;have := HK2.out;have := HK3.out;omega⟩,⟨rM (Kd.R_mono HO_4.out (fun _ hk => trivial))⟩,⟨rM (Kd.R_mono HO_45.out (fun _ hk => trivial))⟩,⟨kN BK138⟩,⟨bN HB⟩⟩
           ·replace c26 := Bool.eq_false_iff.mpr c26;subst c26;rw [if_neg (show ¬ (false = true) by decide)] at H;have H' := aK H;clear H;have p151 : 0 ≤ (x47_3 : Int) := dT;have q151 : x47_3 < (x4_2.length : Int) := dT;obtain ⟨ad151,e151,hx151_0,hx151_1⟩ := at_T75 (Kd.R_reads' HO_45.out).2.2 x47_3 p151 q151;cases e151;replace p151 := eq_true p151;replace q151 := eq_true q151
            go_wp2_with (first | ((with_reducible refine gate_dst (N := 12) rfl ?_);(try (refine gate_guard (by rfl) ?_;dsimp only));refine boxE 12 #[.bool false,.int .i64 0] 75 ?_;intro gb152 hg w37 hbox hb;replace HO_4 := aK (Kd.R_below (Kd.R_elderB (rN HO_4) gb152 (Nat.le_of_eq hg.symm)) hb);replace HO_45 := aK (Kd.R_below (Kd.R_elderB (rN HO_45) gb152 (Nat.le_of_eq hg.symm)) hb);have BK152 := aK (hbox);have GW152 := aK (zG HB hg);have GE152 := aK (zG HB hg);replace HB := hB HB hb;have NB138_152 := aK ((by rw [hg];exact Nat.ne_of_lt (blk_lt (g := gb138) (o := .cells #[.slice A0_0 l0_0.length c0_0,.slice A0_1 l0_1.length c0_1] 27 (0,0)) (kN BK138)) : gb138 ≠ gb152));have NB152_138 := aK ((by rw [hg];exact Nat.ne_of_gt (blk_lt (g := gb138) (o := .cells #[.slice A0_0 l0_0.length c0_0,.slice A0_1 l0_1.length c0_1] 27 (0,0)) (kN BK138)) : gb152 ≠ gb138));replace BK138 := kB BK138 hb;clear hb hbox hg;have hnb38 := NB152_138.out;have hnc38 := NB138_152.out;have hcz39_0 := y0 BK152;have hcz39_1 := y1 BK152;have hfz39_0 := blk_frozen BK152.out 0;have hfz39_1 := blk_frozen BK152.out 1) | ((with_reducible refine gate_callee (f := 71) rfl ?_);refine goesE (some 54) Try.func71 #[.agg #[.bool ((rd_T75 x4_2 x47_3).f0),.int .i64 ((rd_T75 x4_2 x47_3).f1)]] ?_;(with_reducible refine (impl_opening_sparing.calls ((rd_T75 x4_2 x47_3).f0) ((rd_T75 x4_2 x47_3).f1) t153 false _ A25.out).mono ?_);rintro e w40 ⟨rfl,hb⟩;refine ⟨_,rfl,?_⟩;replace HO_4 := aK (Kd.R_below (rM ((Kd.R_mono (Kd.R_far (p := ⟨gb152,1,none⟩) (Kd.R_far (p := ⟨gb152,0,none⟩) (Kd.R_mono HO_4.out (fun k_ hk => (⟨hk,hk.2⟩ : _ ∧ k_ ≠ gb152))) (fun _ hk => hk.2) (.bool ((rd_T75 x4_2 x47_3).f0))) (fun _ hk => hk.2) (.int .i64 ((rd_T75 x4_2 x47_3).f1))) (fun _ h_ => h_.1)))) hb);replace HO_45 := aK (Kd.R_below (rM ((Kd.R_mono (Kd.R_far (p := ⟨gb152,1,none⟩) (Kd.R_far (p := ⟨gb152,0,none⟩) (Kd.R_mono HO_45.out (fun k_ hk => (⟨hk,hk.2⟩ : _ ∧ k_ ≠ gb152))) (fun _ hk => hk.2) (.bool ((rd_T75 x4_2 x47_3).f0))) (fun _ hk => hk.2) (.int .i64 ((rd_T75 x4_2 x47_3).f1))) (fun _ h_ => h_.1)))) hb);replace BK138 := aK (blk_below (g := gb138) (o := .cells #[.slice A0_0 l0_0.length c0_0,.slice A0_1 l0_1.length c0_1] 27 (0,0)) (kZ BK138) hb);replace BK152 := aK (blk_below (g := gb152) (o := .cells #[.bool ((rd_T75 x4_2 x47_3).f0),.int .i64 ((rd_T75 x4_2 x47_3).f1)] 75 (0,0)) (by (with_reducible repeat (first | refine blk_drewN ?_ _ | refine blk_drew ?_ | refine blk_alloc ?_ _));refine blk_put (cs := #[.bool ((rd_T75 x4_2 x47_3).f0),.int .i64 0]) ?_ 1 _ rfl;(with_reducible repeat (first | refine blk_drewN ?_ _ | refine blk_drew ?_ | refine blk_alloc ?_ _));refine blk_put (cs := #[.bool false,.int .i64 0]) ?_ 0 _ rfl;(with_reducible repeat (first | refine blk_drewN ?_ _ | refine blk_drew ?_ | refine blk_alloc ?_ _));exact BK152.out) hb);replace HB := hB HB hb;clear hb;have hcz41_0 : w40.cell? ⟨gb152,0,none⟩ = some (.bool ((rd_T75 x4_2 x47_3).f0)) := (blk_cell BK152.out 0).trans rfl;have hcz41_1 : w40.cell? ⟨gb152,1,none⟩ = some (.int .i64 ((rd_T75 x4_2 x47_3).f1)) := (blk_cell BK152.out 1).trans rfl;have hfz41_0 := blk_frozen BK152.out 0;have hfz41_1 := blk_frozen BK152.out 1))
            go_roundg k3
            case measure => have := HK1.out;have := HK2.out;have := HK3.out;omega
            case rel => exact ⟨(wrap64 (x9_3 + (wrap64 (x10_3 * ((rd_T75 x4_2 x47_3).f1))))),(wrap64 (-x10_3)),(wrap64 (x47_3 + 1)),rD,rD,rD,H',⟨by have := HK1.out;have := HK2.out;have := HK3.out;omega⟩,⟨rM (Kd.R_mono HO_4.out (fun _ hk => trivial))⟩,⟨rM (Kd.R_mono HO_45.out (fun _ hk => trivial))⟩,⟨kN BK138⟩,⟨bN HB⟩⟩
          ·rw [if_neg c22] at H;have c22b0 := decide_eq_false c22;clear c22;simp only [Option.some.injEq,Prod.mk.injEq] at H;obtain ⟨rfl,rfl⟩ := H;go_wp2;go_ret2;exact eR (bN HB)
 ·replace c3 := Bool.eq_false_iff.mpr c3;subst c3;rw [if_neg (show ¬ (false = true) by decide)] at H;simp only [Option.some.injEq,Prod.mk.injEq] at H;obtain ⟨rfl,rfl⟩ := H;go_enter Try.func25,Try.ntmps25
  go_wp2_with (first | ((with_reducible refine gate_dst (N := 1) rfl ?_);(try (refine gate_guard (by rfl) ?_;dsimp only));refine boxE 1 #[.slice A0_0 l0_0.length c0_0,.slice A0_1 l0_1.length c0_1] 27 ?_;intro gb138 hg w42 hbox hb;have BK138 := aK (hbox);have GW138 := aK (zG HB hg);have GE138 := aK (zG HB hg);replace HB := hB HB hb;clear hb hbox hg;have hcz43_0 := y0 BK138;have hcz43_1 := y1 BK138;have hfz43_0 := blk_frozen BK138.out 0;have hfz43_1 := blk_frozen BK138.out 1) | ((with_reducible refine gate_callee (f := 18) rfl ?_);refine goesE (some 16) Try.func18 #[.agg #[.slice A0_0 l0_0.length c0_0,.slice A0_1 l0_1.length c0_1]] ?_;(with_reducible refine (impl_IsEnding.calls k _ _ l0_0 _ _ l0_1 false _ ?side1 ?side2 ?side3 ?side4 A2.out).mono ?_);(case side1 => exact cB HR0_0 HB);(case side2 => exact HC0_0.out);(case side3 => exact cB HR0_1 HB);(case side4 => exact HC0_1.out);rintro e w44 ⟨rfl,hb⟩;refine ⟨_,rfl,?_⟩;replace BK138 := kB BK138 hb;replace HB := hB HB hb;clear hb))
  go_ret2;exact eR (bN HB)
/-! ### spec_l04Without: function 72 -/
mutual
def spec_l04Without.l0 : Nat → Bool → Int → Bool → Int → List Int → List Int → List Int → List Int → Option (List Int × List Int × Bool)
 | 0,_,_,_,_,_,_,_,_ => none
 | k + 1,x1,x2,x9,x10,x156000,x156001,x164000,x164001 => if x10 < (x156000.length : Int) then (if x1 = true then (if 0 ≤ x10 then (if x164000.length < 17592186044416 then (spec_l04Without.l0 k x1 x2 x9 (wrap64 (x10 + 1)) x156000 x156001 (x164000 ++ [rd x156000 x10]) x164001) else (none)) else (none)) else (if x9 = true then (if 0 ≤ x10 then (if x164000.length < 17592186044416 then (spec_l04Without.l0 k x1 x2 x9 (wrap64 (x10 + 1)) x156000 x156001 (x164000 ++ [rd x156000 x10]) x164001) else (none)) else (none)) else (if 0 ≤ x10 then (if (rd x156000 x10) = x2 then (spec_l04Without.l0 k x1 x2 true (wrap64 (x10 + 1)) x156000 x156001 x164000 x164001) else (if x164000.length < 17592186044416 then (spec_l04Without.l0 k x1 x2 x9 (wrap64 (x10 + 1)) x156000 x156001 (x164000 ++ [rd x156000 x10]) x164001) else (none))) else (none)))) else (spec_l04Without.l1 k x1 x2 x9 0 x156000 x156001 x164000 x164001)
def spec_l04Without.l1 : Nat → Bool → Int → Bool → Int → List Int → List Int → List Int → List Int → Option (List Int × List Int × Bool)
 | 0,_,_,_,_,_,_,_,_ => none
 | k + 1,x1,x2,x9,x11,x156000,x156001,x164000,x164001 => if x11 < (x156001.length : Int) then (if x1 = true then (if x9 = true then (if 0 ≤ x11 then (if x164001.length < 17592186044416 then (spec_l04Without.l1 k x1 x2 x9 (wrap64 (x11 + 1)) x156000 x156001 x164000 (x164001 ++ [rd x156001 x11])) else (none)) else (none)) else (if 0 ≤ x11 then (if (rd x156001 x11) = x2 then (spec_l04Without.l1 k x1 x2 true (wrap64 (x11 + 1)) x156000 x156001 x164000 x164001) else (if x164001.length < 17592186044416 then (spec_l04Without.l1 k x1 x2 x9 (wrap64 (x11 + 1)) x156000 x156001 x164000 (x164001 ++ [rd x156001 x11])) else (none))) else (none))) else (if 0 ≤ x11 then (if x164001.length < 17592186044416 then (spec_l04Without.l1 k x1 x2 x9 (wrap64 (x11 + 1)) x156000 x156001 x164000 (x164001 ++ [rd x156001 x11])) else (none)) else (none))) else (some (x164000,x164001,x9))
end
def spec_l04Without.f (k : Nat) (l0_0 : List Int) (l0_1 : List Int) (a1 : Bool) (a2 : Int) : Option (List Int × List Int × Bool) := spec_l04Without.l0 k a1 a2 false 0 l0_0 l0_1 (([] : List Int)) (([] : List Int))
theorem spec_l04Without.mono_l : ∀ k, (∀ y0 y1 y2 y3 y4 y5 y6 y7, LeO (spec_l04Without.l0 k y0 y1 y2 y3 y4 y5 y6 y7) (spec_l04Without.l0 (k + 1) y0 y1 y2 y3 y4 y5 y6 y7)) ∧ (∀ y0 y1 y2 y3 y4 y5 y6 y7, LeO (spec_l04Without.l1 k y0 y1 y2 y3 y4 y5 y6 y7) (spec_l04Without.l1 (k + 1) y0 y1 y2 y3 y4 y5 y6 y7))
 | 0 => ⟨fun _ _ _ _ _ _ _ _ r h => by simp [spec_l04Without.l0] at h,fun _ _ _ _ _ _ _ _ r h => by simp [spec_l04Without.l1] at h⟩
 | k + 1 => by
  obtain ⟨ih0,ih1⟩ := spec_l04Without.mono_l k;refine ⟨?_,?_⟩
  ·intro y0 y1 y2 y3 y4 y5 y6 y7;unfold spec_l04Without.l0
   repeat' first
   | (with_reducible exact ih0 _ _ _ _ _ _ _ _)
   | (with_reducible exact ih1 _ _ _ _ _ _ _ _)
   | (with_reducible exact LeO.refl _)
   | (with_reducible exact LeO.none _)
   | (with_reducible refine LeO.ite ?_ ?_)
   | (with_reducible refine LeO.bind ?_ (fun _ => ?_))
   | exact ih0 _ _ _ _ _ _ _ _
   | exact ih1 _ _ _ _ _ _ _ _
   | exact LeO.none _
   | refine LeO.ite ?_ ?_
   | refine LeO.bind ?_ (fun _ => ?_)
  ·intro y0 y1 y2 y3 y4 y5 y6 y7;unfold spec_l04Without.l1
   repeat' first
   | (with_reducible exact ih0 _ _ _ _ _ _ _ _)
   | (with_reducible exact ih1 _ _ _ _ _ _ _ _)
   | (with_reducible exact LeO.refl _)
   | (with_reducible exact LeO.none _)
   | (with_reducible refine LeO.ite ?_ ?_)
   | (with_reducible refine LeO.bind ?_ (fun _ => ?_))
   | exact ih0 _ _ _ _ _ _ _ _
   | exact ih1 _ _ _ _ _ _ _ _
   | exact LeO.none _
   | refine LeO.ite ?_ ?_
   | refine LeO.bind ?_ (fun _ => ?_)
theorem spec_l04Without.mono : ∀ a0 a1 a2 a3 k, LeO (spec_l04Without.f k a0 a1 a2 a3) (spec_l04Without.f (k + 1) a0 a1 a2 a3) := by
 intro a0 a1 a2 a3 k;obtain ⟨ih0,ih1⟩ := spec_l04Without.mono_l k;unfold spec_l04Without.f
 repeat' first
  | (with_reducible exact ih0 _ _ _ _ _ _ _ _)
  | (with_reducible exact ih1 _ _ _ _ _ _ _ _)
  | (with_reducible exact LeO.refl _)
  | (with_reducible exact LeO.none _)
  | (with_reducible refine LeO.ite ?_ ?_)
  | (with_reducible refine LeO.bind ?_ (fun _ => ?_))
  | exact ih0 _ _ _ _ _ _ _ _
  | exact ih1 _ _ _ _ _ _ _ _
  | exact LeO.none _
  | refine LeO.ite ?_ ?_
  | refine LeO.bind ?_ (fun _ => ?_)
def spec_l04Without.T7 : Bool × List (List Nat × List Nat) := (true, [([], []), ([0], [0]), ([], []), ([2], [2]), ([], []), ([3, 4], [3, 4]), ([5], [5]), ([6], [6]), ([1, 7], [1, 7]), ([0, 1, 2, 3, 4, 5, 6, 7, 8], []), ([9, 8, 8, 0, 1, 2, 3, 4, 5, 6, 7, 8], [8, 9])])
def spec_l04Without.B7 : List Nat := [0, 1, 0, 4, 0, 28, 60, 124, 255, 511, 1023]
theorem spec_l04Without.tab7 : rtab .any (opsOf Try.f72 7) = spec_l04Without.T7 := by kernel_rfl
theorem spec_l04Without.bits7 : waitsOk spec_l04Without.T7.2 spec_l04Without.B7 = true := by kernel_rfl
def spec_l04Without.T13 : Bool × List (List Nat × List Nat) := (true, [([], []), ([0], [0]), ([], []), ([2], [2]), ([], []), ([3, 4], [3, 4]), ([5], [5]), ([6], [6]), ([1, 7], [1, 7]), ([0, 1, 2, 3, 4, 5, 6, 7, 8], []), ([9, 8, 8, 0, 1, 2, 3, 4, 5, 6, 7, 8], [8, 9])])
def spec_l04Without.B13 : List Nat := [0, 1, 0, 4, 0, 28, 60, 124, 255, 511, 1023]
theorem spec_l04Without.tab13 : rtab .any (opsOf Try.f72 13) = spec_l04Without.T13 := by kernel_rfl
theorem spec_l04Without.bits13 : waitsOk spec_l04Without.T13.2 spec_l04Without.B13 = true := by kernel_rfl
set_option maxHeartbeats 8000000 in
set_option maxRecDepth 100000 in
theorem spec_l04Without.calls (k : Nat) (A0_0 : Option Addr) (c0_0 : Nat) (l0_0 : List Int) (A0_1 : Option Addr) (c0_1 : Nat) (l0_1 : List Int) (a1 : Bool) (a2 : Int) (r1 : List Int) (r2 : List Int) (r3 : Bool) (w : World) (hr0_0 : Kd.C (Kd.int .i64) w A0_0 l0_0.length l0_0) (hc0_0 : l0_0.length ≤ c0_0) (hr0_1 : Kd.C (Kd.int .i64) w A0_1 l0_1.length l0_1) (hc0_1 : l0_1.length ≤ c0_1) (h : spec_l04Without.f k l0_0 l0_1 a1 a2 = some (r1, r2, r3)) :
 Calls Try.prog 72 #[.agg #[.slice A0_0 l0_0.length c0_0,.slice A0_1 l0_1.length c0_1],.bool a1,.int .i64 a2] w fun e w' => ∃ v0_ v1_ : Value,e = .returned (.tuple #[.agg #[v0_,v1_],.bool r3]) ∧ Kd.R (Kd.int .i64) 2 w' w.heap.size (fun k_ => some k_ ≠ (v1_ : Value).ownBlock) v0_ r1 ∧ Kd.R (Kd.int .i64) 2 w' w.heap.size (fun k_ => some k_ ≠ (v0_ : Value).ownBlock) v1_ r2 ∧ Below w.heap.size w w' := by
 have hu27 := Try.underlying27;have HR0_0 := aK hr0_0;have HC0_0 := aK hc0_0;clear hr0_0 hc0_0;have HR0_1 := aK hr0_1;have HC0_1 := aK hc0_1;clear hr0_1 hc0_1;have HB := aK (Below.refl w.heap.size w);have H := h;clear h;unfold spec_l04Without.f at H;obtain ⟨y157,hy157⟩ : ∃ y_ : List Int,y_ = (([] : List Int)) := ⟨_,rfl⟩;replace H : (spec_l04Without.l0 k a1 a2 false 0 l0_0 l0_1 y157 (([] : List Int))) = some (r1,r2,r3) := by first | (rw [hy157];with_reducible exact H) | (have H2_ := (Option.bind_some _ _).symm.trans H;rw [hy157];with_reducible exact H2_) | (have H2_ := (Option.bind_some _ _).symm.trans H;with_reducible exact H2_) | with_reducible exact H | (rw [hy157];exact H) | exact H
 have Ny157 := aK hy157;clear hy157;obtain ⟨y160,hy160⟩ : ∃ y_ : List Int,y_ = (([] : List Int)) := ⟨_,rfl⟩;replace H : (spec_l04Without.l0 k a1 a2 false 0 l0_0 l0_1 y157 y160) = some (r1,r2,r3) := by first | (rw [hy160];with_reducible exact H) | (have H2_ := (Option.bind_some _ _).symm.trans H;rw [hy160];with_reducible exact H2_) | (have H2_ := (Option.bind_some _ _).symm.trans H;with_reducible exact H2_) | with_reducible exact H | (rw [hy160];exact H) | exact H
 have Ny160 := aK hy160;clear hy160;have H' := aK H;clear H;go_enter Try.func72,Try.ntmps72
 go_wp2_with (first | ((with_reducible refine gate_dst (N := 3) rfl ?_);refine boxE 3 #[.slice A0_0 l0_0.length c0_0,.slice A0_1 l0_1.length c0_1] 27 ?_;intro gb155 hg w4 hbox hb;have BK155 := aK (hbox);have GW155 := aK (zG HB hg);have GE155 := aK (zG HB hg);replace HB := hB HB hb;clear hb hbox hg) | ((with_reducible refine gate_dst (N := 6) rfl ?_);refine boxE 6 #[.slice none 0 0,.slice none 0 0] 27 ?_;intro gb156 hg w5 hbox hb;have BK156 := aK (hbox);have GW156 := aK (zG HB hg);have GE156 := aK (zG HB hg);replace HB := hB HB hb;have NB155_156 := aK ((by rw [hg];exact Nat.ne_of_lt (blk_lt (g := gb155) (o := .cells #[.slice A0_0 l0_0.length c0_0,.slice A0_1 l0_1.length c0_1] 27 (0,0)) (kN BK155)) : gb155 ≠ gb156));have NB156_155 := aK ((by rw [hg];exact Nat.ne_of_gt (blk_lt (g := gb155) (o := .cells #[.slice A0_0 l0_0.length c0_0,.slice A0_1 l0_1.length c0_1] 27 (0,0)) (kN BK155)) : gb156 ≠ gb155));replace BK155 := kB BK155 hb;clear hb hbox hg) | ((with_reducible refine gate_dst (N := 12) rfl ?_);refine Kd.R_lit (Kd.int .i64) _ 2 ?hg (N := 12) ?hd (xs := ([] : List Int)) (inner := []) (ok := fun _ => True) (okp := fun _ => True) ?hr ?hp (fun _ hk => hk) trivial (Below.refl _ _) (Nat.le_refl _) (by simp) ?_;(case hd => rfl);(case hg => rfl);(case hr => first | (go_simp;done) | (go_simp;rfl));(case hp => exact (Reps.none _ _));intro v158 w6 ho7 hb hg_ hnew_;clear hg_ hnew_;(first | rw [← Ny157.out] at ho7 | (simp only [Int.reduceToNat] at ho7;rw [← Ny157.out] at ho7));have HO159 := aK (Kd.R_lower ho7 (below_size (bN HB)));replace BK155 := kB BK155 hb;replace BK156 := kB BK156 hb;replace HB := hB HB hb;clear hb ho7) | ((with_reducible refine gate_dst (N := 13) rfl ?_);refine Kd.R_lit (Kd.int .i64) _ 2 ?hg (N := 13) ?hd (xs := ([] : List Int)) (inner := []) (ok := fun _ => True) (okp := fun _ => True) ?hr ?hp (fun _ hk => hk) trivial (Below.refl _ _) (Nat.le_refl _) (by simp) ?_;(case hd => rfl);(case hg => rfl);(case hr => first | (go_simp;done) | (go_simp;rfl));(case hp => exact (Reps.none _ _));intro v161 w8 ho9 hb hg_ hnew_;clear hg_ hnew_;(first | rw [← Ny160.out] at ho9 | (simp only [Int.reduceToNat] at ho9;rw [← Ny160.out] at ho9));have HO162 := aK (Kd.R_lower (Kd.R_new' ho9 (Kd.R_lt (rN HO159))) (below_size (bN HB)));replace HO159 := aK (Kd.R_elder' (rN HO159) (Kd.R_base ho9) hb);replace BK155 := kB BK155 hb;replace BK156 := kB BK156 hb;replace HB := hB HB hb;clear hb ho9;obtain ⟨Ao10,co10,eo10⟩ := Kd.R_slice HO162.out;subst eo10;obtain ⟨Ao11,co11,eo11⟩ := Kd.R_slice HO159.out;subst eo11) | ((with_reducible refine gate_dst (N := 8) rfl ?_);refine boxE 8 #[.slice none 0 0,.slice none 0 0] 27 ?_;intro gb163 hg w12 hbox hb;replace HO159 := rB HO159 hb;replace HO162 := rB HO162 hb;have BK163 := aK (hbox);have GW163 := aK (zG HB hg);have GE163 := aK (zG HB hg);replace HB := hB HB hb;have NB155_163 := aK ((by rw [hg];exact Nat.ne_of_lt (blk_lt (g := gb155) (o := .cells #[.slice A0_0 l0_0.length c0_0,.slice A0_1 l0_1.length c0_1] 27 (0,0)) (kN BK155)) : gb155 ≠ gb163));have NB163_155 := aK ((by rw [hg];exact Nat.ne_of_gt (blk_lt (g := gb155) (o := .cells #[.slice A0_0 l0_0.length c0_0,.slice A0_1 l0_1.length c0_1] 27 (0,0)) (kN BK155)) : gb163 ≠ gb155));replace BK155 := kB BK155 hb;have NB156_163 := aK ((by rw [hg];exact Nat.ne_of_lt (blk_lt (g := gb156) (o := .cells #[.slice none 0 0,.slice none 0 0] 27 (0,0)) (kN BK156)) : gb156 ≠ gb163));have NB163_156 := aK ((by rw [hg];exact Nat.ne_of_gt (blk_lt (g := gb156) (o := .cells #[.slice none 0 0,.slice none 0 0] 27 (0,0)) (kN BK156)) : gb163 ≠ gb156));replace BK156 := kB BK156 hb;clear hb hbox hg;have hnb13 := NB163_155.out;have hnc13 := NB155_163.out;have hnb14 := NB163_156.out;have hnc14 := NB156_163.out;have hcz15_0 := y0 BK163;have hcz15_1 := y1 BK163;have hfz15_0 := blk_frozen BK163.out 0;have hfz15_1 := blk_frozen BK163.out 1))
 go_loopg [9,10] k (fun kq v9 v10 w' => ∃ (x9_1 : Bool) (x10_1 : Int) (x164000_1 : List Int) (u164000 : Value),v9 = .bool x9_1 ∧ v10 = .int .i64 x10_1 ∧ Aside0 (spec_l04Without.l0 kq a1 a2 x9_1 x10_1 l0_0 l0_1 x164000_1 y160 = some (r1,r2,r3)) ∧ Aside0 (kq ≤ k) ∧ Aside0 (Kd.R (Kd.int .i64) 2 w' w.heap.size (fun k_ => some k_ ≠ ((.slice Ao10 y160.length co10) : Value).ownBlock) u164000 x164000_1) ∧ Aside0 (Kd.R (Kd.int .i64) 2 w' w.heap.size (fun k_ => some k_ ≠ (u164000 : Value).ownBlock) (.slice Ao10 y160.length co10) y160) ∧ Aside0 (w'.heap[gb155]? = some (.cells #[(.slice A0_0 l0_0.length c0_0),(.slice A0_1 l0_1.length c0_1)] 27 (0,0))) ∧ Aside0 (w'.heap[gb156]? = some (.cells #[(.slice none 0 0),(.slice none 0 0)] 27 (0,0))) ∧ Aside0 (w'.heap[gb163]? = some (.cells #[u164000,(.slice Ao10 y160.length co10)] 27 (0,0))) ∧ Aside0 (Below w.heap.size w w'))
 case atStart => exact ⟨(false),(0),(y157),(.slice Ao11 y157.length co11),rD,rD,H',⟨Nat.le_refl _⟩,⟨rM (Kd.R_mono (Kd.R_far (p := ⟨gb163,1,none⟩) (Kd.R_far (p := ⟨gb163,0,none⟩) (Kd.R_types HO159.out BK163.out (by decide)) (fun _ hk => hk.2) (.slice Ao11 y157.length co11)) (fun _ hk => hk.2) (.slice Ao10 y160.length co10)) (fun _ hk => hk.1.2))⟩,⟨rM (Kd.R_mono (Kd.R_far (p := ⟨gb163,1,none⟩) (Kd.R_far (p := ⟨gb163,0,none⟩) (Kd.R_types HO162.out BK163.out (by decide)) (fun _ hk => hk.2) (.slice Ao11 y157.length co11)) (fun _ hk => hk.2) (.slice Ao10 y160.length co10)) (fun _ hk => hk.1.2))⟩,⟨kZ BK155⟩,⟨kZ BK156⟩,⟨by (with_reducible repeat (first | refine blk_drewN ?_ _ | refine blk_drew ?_ | refine blk_alloc ?_ _));refine blk_put (cs := #[.slice Ao11 y157.length co11,.slice none 0 0]) ?_ 1 _ rfl;(with_reducible repeat (first | refine blk_drewN ?_ _ | refine blk_drew ?_ | refine blk_alloc ?_ _));refine blk_put (cs := #[.slice none 0 0,.slice none 0 0]) ?_ 0 _ rfl;(with_reducible repeat (first | refine blk_drewN ?_ _ | refine blk_drew ?_ | refine blk_alloc ?_ _));exact BK163.out⟩,⟨bN HB⟩⟩
 case round =>
  clear H';clear hcz15_0 hcz15_1 hfz15_0 hfz15_1;obtain ⟨x9_1,x10_1,x164000_1,u164000,rfl,rfl,HA,HK1,HO_164000,HO_164001,BK155,BK156,BK163,HB⟩ := hrel
  cases gk with
  | zero => exact absurd HA.out (by simp [spec_l04Without.l0])
  | succ k1 =>
   have H := HA.out;clear HA;simp only [spec_l04Without.l0] at H
   by_cases c16 : x10_1 < (l0_0.length : Int)
   ·rw [if_pos c16] at H;have c16b0 := decide_eq_true c16;clear c16
    by_cases c17 : a1 = true
    ·subst c17;rw [if_pos rfl] at H
     by_cases c18 : 0 ≤ x10_1
     rotate_left
     ·rw [if_neg c18] at H;exact absurd H (by simp)
     rw [if_pos c18] at H;have c18b0 := decide_eq_true c18;clear c18
     by_cases c19 : x164000_1.length < 17592186044416
     rotate_left
     ·rw [if_neg c19] at H;exact absurd H (by simp)
     rw [if_pos c19] at H;have LMc19 := aK c19;clear c19;obtain ⟨y165,hy165⟩ : ∃ y_ : List Int,y_ = (x164000_1 ++ [rd l0_0 x10_1]) := ⟨_,rfl⟩;replace H : (spec_l04Without.l0 k1 true a2 x9_1 (wrap64 (x10_1 + 1)) l0_0 l0_1 y165 y160) = some (r1,r2,r3) := by first | (rw [hy165];with_reducible exact H) | (have H2_ := (Option.bind_some _ _).symm.trans H;rw [hy165];with_reducible exact H2_) | (have H2_ := (Option.bind_some _ _).symm.trans H;with_reducible exact H2_) | with_reducible exact H | (rw [hy165];exact H) | exact H
     have Ny165 := aK hy165;clear hy165;have H' := aK H;clear H;have hnb20 := NB155_156.out;have hnc20 := NB156_155.out;have hnb21 := NB155_163.out;have hnc21 := NB163_155.out;have hcz22_0 := y0 BK155;have hcz22_1 := y1 BK155;have hfz22_0 := blk_frozen BK155.out 0;have hfz22_1 := blk_frozen BK155.out 1
     try go_wp2
     have n0_ := aK (Kd.R_drew HO_164000.out);have n1_ := aK (Kd.R_drew HO_164001.out);have n2_ := aK (blk_drew BK155.out);have n3_ := aK (blk_drew BK156.out);have n4_ := aK (blk_drew BK163.out);have n5_ := aK (below_drew1 HB.out);clear HO_164000;clear HO_164001;clear BK155;clear BK156;clear BK163;clear HB;have HO_164000 := n0_;have HO_164001 := n1_;have BK155 := n2_;have BK156 := n3_;have BK163 := n4_;have HB := n5_;clear n0_ n1_ n2_ n3_ n4_ n5_;have p164 : 0 ≤ (x10_1 : Int) := dT;have q164 : x10_1 < (l0_0.length : Int) := dT;obtain ⟨ad164,e164,hx164_0⟩ := Kd.at_int HR0_0.out x10_1 p164 q164;have hw164_0 := hx164_0;cases e164;replace hx164_0 := cO HB hx164_0;replace p164 := eq_true p164;replace q164 := eq_true q164;refine start_ (n := 11) (S := fun w' => w'.cell? ⟨gb163,0,none⟩ = some (u164000) ∧ w'.cell? ⟨gb163,1,none⟩ = some (.slice Ao10 y160.length co10) ∧ w'.cell? ⟨gb155,0,none⟩ = some (.slice (some ad164) l0_0.length c0_0) ∧ w'.cell? ⟨gb155,1,none⟩ = some (.slice A0_1 l0_1.length c0_1) ∧ w'.cell? (ad164.add (x10_1).toNat) = some (.int .i64 (rd l0_0 x10_1))) (ds := [10]) #[false,false,false,false,false,false,false,false,false,false,false] (by kernel_rfl) rfl rfl ⟨(blk_cell BK163.out 0).trans rfl,(blk_cell BK163.out 1).trans rfl,(blk_cell BK155.out 0).trans rfl,(blk_cell BK155.out 1).trans rfl,(cO HB hw164_0)⟩ (fun hHeld => ?_);refine with_tabW spec_l04Without.tab7 spec_l04Without.bits7 (fun HT_ HW_ => ?_)
     generalize wr.drew = w23 at HO_164000 HO_164001 BK155 BK156 BK163 HB hx164_0 hHeld ⊢
     refine pT HT_ 0 (some 37) ?_;refine pT HT_ 2 (some 39) ?_;refine pT HT_ 4 (some 41) ?_;refine tT HT_ HW_ hHeld 1 (some 38) ?_;refine tT HT_ HW_ hHeld 3 (some 40) ?_;refine pT HT_ 5 (some 42) ?_;refine tT HT_ HW_ hHeld 6 (some 43) ?_;refine oT HT_ 7 (some 44) (fun K hK => ?_);refine value_ (w1 := ?_) (v := ?_) (by rfl) rfl ?_ ?_;rotate_left 2
     ·go_simp
      constructor
      ·rfl
      ·rfl
     refine hK.out _ _ ⟨(blk_cell (blk_alloc BK163.out _) 0).trans rfl,(blk_cell (blk_alloc BK163.out _) 1).trans rfl,(blk_cell (blk_alloc BK155.out _) 0).trans rfl,(blk_cell (blk_alloc BK155.out _) 1).trans rfl,(World.cell?_alloc_lt _ _ _ (World.block_lt_of_cell? _ _ ((cO HB hw164_0)))).trans ((cO HB hw164_0))⟩ (fun hHeld => ?_);clear hK K;refine nT 44 ?_;refine oT HT_ 8 (some 45) (fun K hK => ?_);refine Kd.R_append_step (Kd.int .i64) (w0 := w) w.heap.size (by rfl) (.tmp 38) (.tmp 44) 22 2 (.int .i64 0) 8 rfl Try.underlying22 info2 rfl (by decide) (by omega) u164000 x164000_1 (rd l0_0 x10_1) [.int .i64 (rd l0_0 x10_1)] (fun k_ => some k_ ≠ (.slice Ao10 y160.length co10 : Value).ownBlock) (fun _ => False) rfl rfl ?aP (fun _ hk => hk.elim) ?aF ?aO ?aB ?aS ?aL ?_
     (case aP => exact rfl)
     (case aB => exact (bN HB))
     (case aF => exact (fun k_ hk => Kd.fresh' (Kd.R_lt (rN HO_164001)) k_ hk))
     (case aO => exact (rN HO_164000))
     (case aS => exact (below_size (bN HB)))
     (case aL => have := LMc19.out;omega)
     intro v166 w24 ho hb hg hat;rw [← Ny165.out] at ho;have n0_ := aK (Kd.R_after (ok := (fun _ => True)) (rM (Kd.R_mono HO_164001.out (fun _ hk => ⟨trivial,hk⟩))) hg hat);have n1_ := aK (blk_grown (g := gb155) (o := .cells #[.slice (some ad164) l0_0.length c0_0,.slice A0_1 l0_1.length c0_1] 27 (0,0)) (kN BK155) hg (Kd.R_ne HO_164000.out BK155.out (by decide)));have n2_ := aK (blk_grown (g := gb156) (o := .cells #[.slice none 0 0,.slice none 0 0] 27 (0,0)) (kN BK156) hg (Kd.R_ne HO_164000.out BK156.out (by decide)));have n3_ := aK (blk_grown (g := gb163) (o := .cells #[u164000,.slice Ao10 y160.length co10] 27 (0,0)) (kN BK163) hg (Kd.R_ne HO_164000.out BK163.out (by decide)));have n4_ := aK (hb);have n5_ := aK (ho);clear HO_164001;clear BK155;clear BK156;clear BK163;clear HB;clear HO_164000;have HO_164001 := n0_;have BK155 := n1_;have BK156 := n2_;have BK163 := n3_;have HB := n4_;have HO167 := n5_;clear n0_ n1_ n2_ n3_ n4_ n5_;clear ho hb hg hat;obtain ⟨Ao25,co25,eo25⟩ := Kd.R_slice HO167.out;(first | subst eo25 | (injection eo25 with f1_ f2_ f3_;have f4_ := f1_.symm;have f5_ := f3_.symm;clear f1_ f2_ f3_;subst f4_;subst f5_));refine hK.out _ _ ⟨(blk_cell BK163.out 0).trans rfl,(blk_cell BK163.out 1).trans rfl,(blk_cell BK155.out 0).trans rfl,(blk_cell BK155.out 1).trans rfl,(cO HB hw164_0)⟩ (fun hHeld => ?_);clear hK K;refine nT 45 ?_;refine pT HT_ 9 (some 46) ?_;refine last_ (i := 10) (N := none) #[true,true,true,true,true,true,true,true,true,true,true] rfl rfl (one_of HT_.out (by kernel_rfl)) (by decide) (fun K hK => ?_);have hs26 : w24.cell? ⟨gb163,0,none⟩ = some (u164000) := (blk_cell BK163.out 0).trans rfl;have hfs26 := blk_frozen BK163.out 0;have hns26_0 := NB155_163.out;have hns26_1 := NB156_163.out;have hms26_0 := NB163_155.out;have hms26_1 := NB163_156.out;refine skip_ (w1 := ?_) (by rfl) rfl ?_ ?_;rotate_left
     ·go_simp
      rfl
     refine hK.out _ _ ?_;clear hK K;refine done_ (done_of HT_.out (by kernel_rfl)) ?_
     try go_wp2
     go_roundg k1
     case measure => have := HK1.out;omega
     case rel => exact ⟨(x9_1),(wrap64 (x10_1 + 1)),(y165),(.slice Ao25 y165.length co25),rD,rD,H',⟨by have := HK1.out;omega⟩,⟨rM (Kd.R_mono (Kd.R_far (p := ⟨gb163,0,none⟩) (Kd.R_types HO167.out BK163.out (by decide)) (fun _ hk => hk.2) (.slice Ao25 y165.length co25)) (fun _ hk => hk.1))⟩,⟨rM (Kd.R_mono (Kd.R_far (p := ⟨gb163,0,none⟩) (Kd.R_types HO_164001.out BK163.out (by decide)) (fun _ hk => hk.2) (.slice Ao25 y165.length co25)) (fun _ hk => hk.1.2))⟩,⟨kZ BK155⟩,⟨kZ BK156⟩,⟨by (with_reducible repeat (first | refine blk_drewN ?_ _ | refine blk_drew ?_ | refine blk_alloc ?_ _));refine blk_put (cs := #[u164000,.slice Ao10 y160.length co10]) ?_ 0 _ rfl;(with_reducible repeat (first | refine blk_drewN ?_ _ | refine blk_drew ?_ | refine blk_alloc ?_ _));exact BK163.out⟩,⟨bN HB⟩⟩
    ·replace c17 := Bool.eq_false_iff.mpr c17;subst c17;rw [if_neg (show ¬ (false = true) by decide)] at H
     by_cases c27 : x9_1 = true
     ·subst c27;rw [if_pos rfl] at H
      by_cases c28 : 0 ≤ x10_1
      rotate_left
      ·rw [if_neg c28] at H;exact absurd H (by simp)
      rw [if_pos c28] at H;have c28b0 := decide_eq_true c28;clear c28
      by_cases c29 : x164000_1.length < 17592186044416
      rotate_left
      ·rw [if_neg c29] at H;exact absurd H (by simp)
      rw [if_pos c29] at H;have LMc29 := aK c29;clear c29;obtain ⟨y169,hy169⟩ : ∃ y_ : List Int,y_ = (x164000_1 ++ [rd l0_0 x10_1]) := ⟨_,rfl⟩;replace H : (spec_l04Without.l0 k1 false a2 true (wrap64 (x10_1 + 1)) l0_0 l0_1 y169 y160) = some (r1,r2,r3) := by first | (rw [hy169];with_reducible exact H) | (have H2_ := (Option.bind_some _ _).symm.trans H;rw [hy169];with_reducible exact H2_) | (have H2_ := (Option.bind_some _ _).symm.trans H;with_reducible exact H2_) | with_reducible exact H | (rw [hy169];exact H) | exact H
      have Ny169 := aK hy169;clear hy169;have H' := aK H;clear H;have hnb30 := NB155_156.out;have hnc30 := NB156_155.out;have hnb31 := NB155_163.out;have hnc31 := NB163_155.out;have hcz32_0 := y0 BK155;have hcz32_1 := y1 BK155;have hfz32_0 := blk_frozen BK155.out 0;have hfz32_1 := blk_frozen BK155.out 1
      try go_wp2
      have n0_ := aK (Kd.R_drew HO_164000.out);have n1_ := aK (Kd.R_drew HO_164001.out);have n2_ := aK (blk_drew BK155.out);have n3_ := aK (blk_drew BK156.out);have n4_ := aK (blk_drew BK163.out);have n5_ := aK (below_drew1 HB.out);clear HO_164000;clear HO_164001;clear BK155;clear BK156;clear BK163;clear HB;have HO_164000 := n0_;have HO_164001 := n1_;have BK155 := n2_;have BK156 := n3_;have BK163 := n4_;have HB := n5_;clear n0_ n1_ n2_ n3_ n4_ n5_;have p168 : 0 ≤ (x10_1 : Int) := dT;have q168 : x10_1 < (l0_0.length : Int) := dT;obtain ⟨ad168,e168,hx168_0⟩ := Kd.at_int HR0_0.out x10_1 p168 q168;have hw168_0 := hx168_0;cases e168;replace hx168_0 := cO HB hx168_0;replace p168 := eq_true p168;replace q168 := eq_true q168;refine start_ (n := 11) (S := fun w' => w'.cell? ⟨gb163,0,none⟩ = some (u164000) ∧ w'.cell? ⟨gb163,1,none⟩ = some (.slice Ao10 y160.length co10) ∧ w'.cell? ⟨gb155,0,none⟩ = some (.slice (some ad168) l0_0.length c0_0) ∧ w'.cell? ⟨gb155,1,none⟩ = some (.slice A0_1 l0_1.length c0_1) ∧ w'.cell? (ad168.add (x10_1).toNat) = some (.int .i64 (rd l0_0 x10_1))) (ds := [10]) #[false,false,false,false,false,false,false,false,false,false,false] (by kernel_rfl) rfl rfl ⟨(blk_cell BK163.out 0).trans rfl,(blk_cell BK163.out 1).trans rfl,(blk_cell BK155.out 0).trans rfl,(blk_cell BK155.out 1).trans rfl,(cO HB hw168_0)⟩ (fun hHeld => ?_);refine with_tabW spec_l04Without.tab7 spec_l04Without.bits7 (fun HT_ HW_ => ?_)
      generalize wr.drew = w33 at HO_164000 HO_164001 BK155 BK156 BK163 HB hx168_0 hHeld ⊢
      refine pT HT_ 0 (some 37) ?_;refine pT HT_ 2 (some 39) ?_;refine pT HT_ 4 (some 41) ?_;refine tT HT_ HW_ hHeld 1 (some 38) ?_;refine tT HT_ HW_ hHeld 3 (some 40) ?_;refine pT HT_ 5 (some 42) ?_;refine tT HT_ HW_ hHeld 6 (some 43) ?_;refine oT HT_ 7 (some 44) (fun K hK => ?_);refine value_ (w1 := ?_) (v := ?_) (by rfl) rfl ?_ ?_;rotate_left 2
      ·go_simp
       constructor
       ·rfl
       ·rfl
      refine hK.out _ _ ⟨(blk_cell (blk_alloc BK163.out _) 0).trans rfl,(blk_cell (blk_alloc BK163.out _) 1).trans rfl,(blk_cell (blk_alloc BK155.out _) 0).trans rfl,(blk_cell (blk_alloc BK155.out _) 1).trans rfl,(World.cell?_alloc_lt _ _ _ (World.block_lt_of_cell? _ _ ((cO HB hw168_0)))).trans ((cO HB hw168_0))⟩ (fun hHeld => ?_);clear hK K;refine nT 44 ?_;refine oT HT_ 8 (some 45) (fun K hK => ?_);refine Kd.R_append_step (Kd.int .i64) (w0 := w) w.heap.size (by rfl) (.tmp 38) (.tmp 44) 22 2 (.int .i64 0) 8 rfl Try.underlying22 info2 rfl (by decide) (by omega) u164000 x164000_1 (rd l0_0 x10_1) [.int .i64 (rd l0_0 x10_1)] (fun k_ => some k_ ≠ (.slice Ao10 y160.length co10 : Value).ownBlock) (fun _ => False) rfl rfl ?aP (fun _ hk => hk.elim) ?aF ?aO ?aB ?aS ?aL ?_
      (case aP => exact rfl)
      (case aB => exact (bN HB))
      (case aF => exact (fun k_ hk => Kd.fresh' (Kd.R_lt (rN HO_164001)) k_ hk))
      (case aO => exact (rN HO_164000))
      (case aS => exact (below_size (bN HB)))
      (case aL => have := LMc29.out;omega)
      intro v170 w34 ho hb hg hat;rw [← Ny169.out] at ho;have n0_ := aK (Kd.R_after (ok := (fun _ => True)) (rM (Kd.R_mono HO_164001.out (fun _ hk => ⟨trivial,hk⟩))) hg hat);have n1_ := aK (blk_grown (g := gb155) (o := .cells #[.slice (some ad168) l0_0.length c0_0,.slice A0_1 l0_1.length c0_1] 27 (0,0)) (kN BK155) hg (Kd.R_ne HO_164000.out BK155.out (by decide)));have n2_ := aK (blk_grown (g := gb156) (o := .cells #[.slice none 0 0,.slice none 0 0] 27 (0,0)) (kN BK156) hg (Kd.R_ne HO_164000.out BK156.out (by decide)));have n3_ := aK (blk_grown (g := gb163) (o := .cells #[u164000,.slice Ao10 y160.length co10] 27 (0,0)) (kN BK163) hg (Kd.R_ne HO_164000.out BK163.out (by decide)));have n4_ := aK (hb);have n5_ := aK (ho);clear HO_164001;clear BK155;clear BK156;clear BK163;clear HB;clear HO_164000;have HO_164001 := n0_;have BK155 := n1_;have BK156 := n2_;have BK163 := n3_;have HB := n4_;have HO171 := n5_;clear n0_ n1_ n2_ n3_ n4_ n5_;clear ho hb hg hat;obtain ⟨Ao35,co35,eo35⟩ := Kd.R_slice HO171.out;(first | subst eo35 | (injection eo35 with f1_ f2_ f3_;have f4_ := f1_.symm;have f5_ := f3_.symm;clear f1_ f2_ f3_;subst f4_;subst f5_));refine hK.out _ _ ⟨(blk_cell BK163.out 0).trans rfl,(blk_cell BK163.out 1).trans rfl,(blk_cell BK155.out 0).trans rfl,(blk_cell BK155.out 1).trans rfl,(cO HB hw168_0)⟩ (fun hHeld => ?_);clear hK K;refine nT 45 ?_;refine pT HT_ 9 (some 46) ?_;refine last_ (i := 10) (N := none) #[true,true,true,true,true,true,true,true,true,true,true] rfl rfl (one_of HT_.out (by kernel_rfl)) (by decide) (fun K hK => ?_);have hs36 : w34.cell? ⟨gb163,0,none⟩ = some (u164000) := (blk_cell BK163.out 0).trans rfl;have hfs36 := blk_frozen BK163.out 0;have hns36_0 := NB155_163.out;have hns36_1 := NB156_163.out;have hms36_0 := NB163_155.out;have hms36_1 := NB163_156.out;refine skip_ (w1 := ?_) (by rfl) rfl ?_ ?_;rotate_left
      ·go_simp
       rfl
      refine hK.out _ _ ?_;clear hK K;refine done_ (done_of HT_.out (by kernel_rfl)) ?_
      try go_wp2
      go_roundg k1
      case measure => have := HK1.out;omega
      case rel => exact ⟨(true),(wrap64 (x10_1 + 1)),(y169),(.slice Ao35 y169.length co35),rD,rD,H',⟨by have := HK1.out;omega⟩,⟨rM (Kd.R_mono (Kd.R_far (p := ⟨gb163,0,none⟩) (Kd.R_types HO171.out BK163.out (by decide)) (fun _ hk => hk.2) (.slice Ao35 y169.length co35)) (fun _ hk => hk.1))⟩,⟨rM (Kd.R_mono (Kd.R_far (p := ⟨gb163,0,none⟩) (Kd.R_types HO_164001.out BK163.out (by decide)) (fun _ hk => hk.2) (.slice Ao35 y169.length co35)) (fun _ hk => hk.1.2))⟩,⟨kZ BK155⟩,⟨kZ BK156⟩,⟨by (with_reducible repeat (first | refine blk_drewN ?_ _ | refine blk_drew ?_ | refine blk_alloc ?_ _));refine blk_put (cs := #[u164000,.slice Ao10 y160.length co10]) ?_ 0 _ rfl;(with_reducible repeat (first | refine blk_drewN ?_ _ | refine blk_drew ?_ | refine blk_alloc ?_ _));exact BK163.out⟩,⟨bN HB⟩⟩
     ·replace c27 := Bool.eq_false_iff.mpr c27;subst c27;rw [if_neg (show ¬ (false = true) by decide)] at H
      by_cases c37 : 0 ≤ x10_1
      rotate_left
      ·rw [if_neg c37] at H;exact absurd H (by simp)
      rw [if_pos c37] at H;have c37b0 := decide_eq_true c37;clear c37
      by_cases c38 : (rd l0_0 x10_1) = a2
      ·rw [if_pos c38] at H;have c38b0 := beq_iff_eq.mpr c38;have c38b1 := bne_eq_false_iff_eq.mpr c38;clear c38;have H' := aK H;clear H;have hnb39 := NB155_156.out;have hnc39 := NB156_155.out;have hnb40 := NB155_163.out;have hnc40 := NB163_155.out;have hcz41_0 := y0 BK155;have hcz41_1 := y1 BK155;have hfz41_0 := blk_frozen BK155.out 0;have hfz41_1 := blk_frozen BK155.out 1;have p172 : 0 ≤ (x10_1 : Int) := dT;have q172 : x10_1 < (l0_0.length : Int) := dT;obtain ⟨ad172,e172,hx172_0⟩ := Kd.at_int HR0_0.out x10_1 p172 q172;cases e172;replace hx172_0 := cO HB hx172_0;replace p172 := eq_true p172;replace q172 := eq_true q172;go_wp2
       go_roundg k1
       case measure => have := HK1.out;omega
       case rel => exact ⟨(true),(wrap64 (x10_1 + 1)),(x164000_1),(u164000),rD,rD,H',⟨by have := HK1.out;omega⟩,⟨rN HO_164000⟩,⟨rN HO_164001⟩,⟨kN BK155⟩,⟨kN BK156⟩,⟨kN BK163⟩,⟨bN HB⟩⟩
      ·rw [if_neg c38] at H;have c38b0 := beq_eq_false_iff_ne.mpr c38;have c38b1 := bne_iff_ne.mpr c38
       by_cases c42 : x164000_1.length < 17592186044416
       rotate_left
       ·rw [if_neg c42] at H;exact absurd H (by simp)
       rw [if_pos c42] at H;have LMc42 := aK c42;clear c42;obtain ⟨y174,hy174⟩ : ∃ y_ : List Int,y_ = (x164000_1 ++ [rd l0_0 x10_1]) := ⟨_,rfl⟩;replace H : (spec_l04Without.l0 k1 false a2 false (wrap64 (x10_1 + 1)) l0_0 l0_1 y174 y160) = some (r1,r2,r3) := by first | (rw [hy174];with_reducible exact H) | (have H2_ := (Option.bind_some _ _).symm.trans H;rw [hy174];with_reducible exact H2_) | (have H2_ := (Option.bind_some _ _).symm.trans H;with_reducible exact H2_) | with_reducible exact H | (rw [hy174];exact H) | exact H
       have Ny174 := aK hy174;clear hy174;have H' := aK H;clear H;have hnb43 := NB155_156.out;have hnc43 := NB156_155.out;have hnb44 := NB155_163.out;have hnc44 := NB163_155.out;have hcz45_0 := y0 BK155;have hcz45_1 := y1 BK155;have hfz45_0 := blk_frozen BK155.out 0;have hfz45_1 := blk_frozen BK155.out 1;have p172 : 0 ≤ (x10_1 : Int) := dT;have q172 : x10_1 < (l0_0.length : Int) := dT;obtain ⟨ad172,e172,hx172_0⟩ := Kd.at_int HR0_0.out x10_1 p172 q172;cases e172;replace hx172_0 := cO HB hx172_0;replace p172 := eq_true p172;replace q172 := eq_true q172
       try go_wp2
       have n0_ := aK (Kd.R_drew HO_164000.out);have n1_ := aK (Kd.R_drew HO_164001.out);have n2_ := aK (blk_drew BK155.out);have n3_ := aK (blk_drew BK156.out);have n4_ := aK (blk_drew BK163.out);have n5_ := aK (below_drew1 HB.out);clear HO_164000;clear HO_164001;clear BK155;clear BK156;clear BK163;clear HB;have HO_164000 := n0_;have HO_164001 := n1_;have BK155 := n2_;have BK156 := n3_;have BK163 := n4_;have HB := n5_;clear n0_ n1_ n2_ n3_ n4_ n5_;have p173 : 0 ≤ (x10_1 : Int) := dT;have q173 : x10_1 < (l0_0.length : Int) := dT;obtain ⟨ad173,e173,hx173_0⟩ := Kd.at_int HR0_0.out x10_1 p173 q173;have hw173_0 := hx173_0;obtain rfl : ad172 = ad173 := (by injection e173);replace hx173_0 := cO HB hx173_0;replace p173 := eq_true p173;replace q173 := eq_true q173;refine start_ (n := 11) (S := fun w' => w'.cell? ⟨gb163,0,none⟩ = some (u164000) ∧ w'.cell? ⟨gb163,1,none⟩ = some (.slice Ao10 y160.length co10) ∧ w'.cell? ⟨gb155,0,none⟩ = some (.slice (some ad172) l0_0.length c0_0) ∧ w'.cell? ⟨gb155,1,none⟩ = some (.slice A0_1 l0_1.length c0_1) ∧ w'.cell? (ad172.add (x10_1).toNat) = some (.int .i64 (rd l0_0 x10_1))) (ds := [10]) #[false,false,false,false,false,false,false,false,false,false,false] (by kernel_rfl) rfl rfl ⟨(blk_cell BK163.out 0).trans rfl,(blk_cell BK163.out 1).trans rfl,(blk_cell BK155.out 0).trans rfl,(blk_cell BK155.out 1).trans rfl,(cO HB hw173_0)⟩ (fun hHeld => ?_);refine with_tabW spec_l04Without.tab7 spec_l04Without.bits7 (fun HT_ HW_ => ?_)
       generalize wr.drew = w46 at HO_164000 HO_164001 BK155 BK156 BK163 HB hx173_0 hHeld ⊢
       refine pT HT_ 0 (some 37) ?_;refine pT HT_ 2 (some 39) ?_;refine pT HT_ 4 (some 41) ?_;refine tT HT_ HW_ hHeld 1 (some 38) ?_;refine tT HT_ HW_ hHeld 3 (some 40) ?_;refine pT HT_ 5 (some 42) ?_;refine tT HT_ HW_ hHeld 6 (some 43) ?_;refine oT HT_ 7 (some 44) (fun K hK => ?_);refine value_ (w1 := ?_) (v := ?_) (by rfl) rfl ?_ ?_;rotate_left 2
       ·go_simp
        constructor
        ·rfl
        ·rfl
       refine hK.out _ _ ⟨(blk_cell (blk_alloc BK163.out _) 0).trans rfl,(blk_cell (blk_alloc BK163.out _) 1).trans rfl,(blk_cell (blk_alloc BK155.out _) 0).trans rfl,(blk_cell (blk_alloc BK155.out _) 1).trans rfl,(World.cell?_alloc_lt _ _ _ (World.block_lt_of_cell? _ _ ((cO HB hw173_0)))).trans ((cO HB hw173_0))⟩ (fun hHeld => ?_);clear hK K;refine nT 44 ?_;refine oT HT_ 8 (some 45) (fun K hK => ?_);refine Kd.R_append_step (Kd.int .i64) (w0 := w) w.heap.size (by rfl) (.tmp 38) (.tmp 44) 22 2 (.int .i64 0) 8 rfl Try.underlying22 info2 rfl (by decide) (by omega) u164000 x164000_1 (rd l0_0 x10_1) [.int .i64 (rd l0_0 x10_1)] (fun k_ => some k_ ≠ (.slice Ao10 y160.length co10 : Value).ownBlock) (fun _ => False) rfl rfl ?aP (fun _ hk => hk.elim) ?aF ?aO ?aB ?aS ?aL ?_
       (case aP => exact rfl)
       (case aB => exact (bN HB))
       (case aF => exact (fun k_ hk => Kd.fresh' (Kd.R_lt (rN HO_164001)) k_ hk))
       (case aO => exact (rN HO_164000))
       (case aS => exact (below_size (bN HB)))
       (case aL => have := LMc42.out;omega)
       intro v175 w47 ho hb hg hat;rw [← Ny174.out] at ho;have n0_ := aK (Kd.R_after (ok := (fun _ => True)) (rM (Kd.R_mono HO_164001.out (fun _ hk => ⟨trivial,hk⟩))) hg hat);have n1_ := aK (blk_grown (g := gb155) (o := .cells #[.slice (some ad172) l0_0.length c0_0,.slice A0_1 l0_1.length c0_1] 27 (0,0)) (kN BK155) hg (Kd.R_ne HO_164000.out BK155.out (by decide)));have n2_ := aK (blk_grown (g := gb156) (o := .cells #[.slice none 0 0,.slice none 0 0] 27 (0,0)) (kN BK156) hg (Kd.R_ne HO_164000.out BK156.out (by decide)));have n3_ := aK (blk_grown (g := gb163) (o := .cells #[u164000,.slice Ao10 y160.length co10] 27 (0,0)) (kN BK163) hg (Kd.R_ne HO_164000.out BK163.out (by decide)));have n4_ := aK (hb);have n5_ := aK (ho);clear HO_164001;clear BK155;clear BK156;clear BK163;clear HB;clear HO_164000;have HO_164001 := n0_;have BK155 := n1_;have BK156 := n2_;have BK163 := n3_;have HB := n4_;have HO176 := n5_;clear n0_ n1_ n2_ n3_ n4_ n5_;clear ho hb hg hat;obtain ⟨Ao48,co48,eo48⟩ := Kd.R_slice HO176.out;(first | subst eo48 | (injection eo48 with f1_ f2_ f3_;have f4_ := f1_.symm;have f5_ := f3_.symm;clear f1_ f2_ f3_;subst f4_;subst f5_));refine hK.out _ _ ⟨(blk_cell BK163.out 0).trans rfl,(blk_cell BK163.out 1).trans rfl,(blk_cell BK155.out 0).trans rfl,(blk_cell BK155.out 1).trans rfl,(cO HB hw173_0)⟩ (fun hHeld => ?_);clear hK K;refine nT 45 ?_;refine pT HT_ 9 (some 46) ?_;refine last_ (i := 10) (N := none) #[true,true,true,true,true,true,true,true,true,true,true] rfl rfl (one_of HT_.out (by kernel_rfl)) (by decide) (fun K hK => ?_);have hs49 : w47.cell? ⟨gb163,0,none⟩ = some (u164000) := (blk_cell BK163.out 0).trans rfl;have hfs49 := blk_frozen BK163.out 0;have hns49_0 := NB155_163.out;have hns49_1 := NB156_163.out;have hms49_0 := NB163_155.out;have hms49_1 := NB163_156.out;refine skip_ (w1 := ?_) (by rfl) rfl ?_ ?_;rotate_left
       ·go_simp
        rfl
       refine hK.out _ _ ?_;clear hK K;refine done_ (done_of HT_.out (by kernel_rfl)) ?_
       try go_wp2
       go_roundg k1
       case measure => have := HK1.out;omega
       case rel => exact ⟨(false),(wrap64 (x10_1 + 1)),(y174),(.slice Ao48 y174.length co48),rD,rD,H',⟨by have := HK1.out;omega⟩,⟨rM (Kd.R_mono (Kd.R_far (p := ⟨gb163,0,none⟩) (Kd.R_types HO176.out BK163.out (by decide)) (fun _ hk => hk.2) (.slice Ao48 y174.length co48)) (fun _ hk => hk.1))⟩,⟨rM (Kd.R_mono (Kd.R_far (p := ⟨gb163,0,none⟩) (Kd.R_types HO_164001.out BK163.out (by decide)) (fun _ hk => hk.2) (.slice Ao48 y174.length co48)) (fun _ hk => hk.1.2))⟩,⟨kZ BK155⟩,⟨kZ BK156⟩,⟨by (with_reducible repeat (first | refine blk_drewN ?_ _ | refine blk_drew ?_ | refine blk_alloc ?_ _));refine blk_put (cs := #[u164000,.slice Ao10 y160.length co10]) ?_ 0 _ rfl;(with_reducible repeat (first | refine blk_drewN ?_ _ | refine blk_drew ?_ | refine blk_alloc ?_ _));exact BK163.out⟩,⟨bN HB⟩⟩
   ·rw [if_neg c16] at H;have c16b0 := decide_eq_false c16;clear c16;have H' := aK H;clear H;have hnb50 := NB155_156.out;have hnc50 := NB156_155.out;have hnb51 := NB155_163.out;have hnc51 := NB163_155.out;have hcz52_0 := y0 BK155;have hcz52_1 := y1 BK155;have hfz52_0 := blk_frozen BK155.out 0;have hfz52_1 := blk_frozen BK155.out 1;go_wp2
    go_loopg [9,11] k1 (fun kq v9 v11 w' => ∃ (x9_2 : Bool) (x11_2 : Int) (x164001_2 : List Int) (u164001 : Value),v9 = .bool x9_2 ∧ v11 = .int .i64 x11_2 ∧ Aside0 (spec_l04Without.l1 kq a1 a2 x9_2 x11_2 l0_0 l0_1 x164000_1 x164001_2 = some (r1,r2,r3)) ∧ Aside0 (kq ≤ k1) ∧ Aside0 (Kd.R (Kd.int .i64) 2 w' w.heap.size (fun k_ => some k_ ≠ (u164001 : Value).ownBlock) u164000 x164000_1) ∧ Aside0 (Kd.R (Kd.int .i64) 2 w' w.heap.size (fun k_ => some k_ ≠ (u164000 : Value).ownBlock) u164001 x164001_2) ∧ Aside0 (w'.heap[gb155]? = some (.cells #[(.slice A0_0 l0_0.length c0_0),(.slice A0_1 l0_1.length c0_1)] 27 (0,0))) ∧ Aside0 (w'.heap[gb156]? = some (.cells #[(.slice none 0 0),(.slice none 0 0)] 27 (0,0))) ∧ Aside0 (w'.heap[gb163]? = some (.cells #[u164000,u164001] 27 (0,0))) ∧ Aside0 (Below w.heap.size w w'))
    case atStart => exact ⟨(x9_1),(0),(y160),(.slice Ao10 y160.length co10),rD,rD,H',⟨Nat.le_refl _⟩,⟨rN HO_164000⟩,⟨rN HO_164001⟩,⟨kN BK155⟩,⟨kN BK156⟩,⟨kN BK163⟩,⟨bN HB⟩⟩
    case round =>
     clear H';clear c16b0 hcz52_0 hcz52_1 hfz52_0 hfz52_1;obtain ⟨x9_2,x11_2,x164001_2,u164001,rfl,rfl,HA,HK2,HO_164000,HO_164001,BK155,BK156,BK163,HB⟩ := hrel
     cases gk with
     | zero => exact absurd HA.out (by simp [spec_l04Without.l1])
     | succ k2 =>
      have H := HA.out;clear HA;simp only [spec_l04Without.l1] at H
      by_cases c53 : x11_2 < (l0_1.length : Int)
      ·rw [if_pos c53] at H;have c53b0 := decide_eq_true c53;clear c53
       by_cases c54 : a1 = true
       ·subst c54;rw [if_pos rfl] at H
        by_cases c55 : x9_2 = true
        ·subst c55;rw [if_pos rfl] at H
         by_cases c56 : 0 ≤ x11_2
         rotate_left
         ·rw [if_neg c56] at H;exact absurd H (by simp)
         rw [if_pos c56] at H;have c56b0 := decide_eq_true c56;clear c56
         by_cases c57 : x164001_2.length < 17592186044416
         rotate_left
         ·rw [if_neg c57] at H;exact absurd H (by simp)
         rw [if_pos c57] at H;have LMc57 := aK c57;clear c57;obtain ⟨y178,hy178⟩ : ∃ y_ : List Int,y_ = (x164001_2 ++ [rd l0_1 x11_2]) := ⟨_,rfl⟩;replace H : (spec_l04Without.l1 k2 true a2 true (wrap64 (x11_2 + 1)) l0_0 l0_1 x164000_1 y178) = some (r1,r2,r3) := by first | (rw [hy178];with_reducible exact H) | (have H2_ := (Option.bind_some _ _).symm.trans H;rw [hy178];with_reducible exact H2_) | (have H2_ := (Option.bind_some _ _).symm.trans H;with_reducible exact H2_) | with_reducible exact H | (rw [hy178];exact H) | exact H
         have Ny178 := aK hy178;clear hy178;have H' := aK H;clear H;have hnb58 := NB155_156.out;have hnc58 := NB156_155.out;have hnb59 := NB155_163.out;have hnc59 := NB163_155.out;have hcz60_0 := y0 BK155;have hcz60_1 := y1 BK155;have hfz60_0 := blk_frozen BK155.out 0;have hfz60_1 := blk_frozen BK155.out 1
         try go_wp2
         have n0_ := aK (Kd.R_drew HO_164000.out);have n1_ := aK (Kd.R_drew HO_164001.out);have n2_ := aK (blk_drew BK155.out);have n3_ := aK (blk_drew BK156.out);have n4_ := aK (blk_drew BK163.out);have n5_ := aK (below_drew1 HB.out);clear HO_164000;clear HO_164001;clear BK155;clear BK156;clear BK163;clear HB;have HO_164000 := n0_;have HO_164001 := n1_;have BK155 := n2_;have BK156 := n3_;have BK163 := n4_;have HB := n5_;clear n0_ n1_ n2_ n3_ n4_ n5_;have p177 : 0 ≤ (x11_2 : Int) := dT;have q177 : x11_2 < (l0_1.length : Int) := dT;obtain ⟨ad177,e177,hx177_0⟩ := Kd.at_int HR0_1.out x11_2 p177 q177;have hw177_0 := hx177_0;cases e177;replace hx177_0 := cO HB hx177_0;replace p177 := eq_true p177;replace q177 := eq_true q177;refine start_ (n := 11) (S := fun w' => w'.cell? ⟨gb163,0,none⟩ = some (u164000) ∧ w'.cell? ⟨gb163,1,none⟩ = some (u164001) ∧ w'.cell? ⟨gb155,0,none⟩ = some (.slice A0_0 l0_0.length c0_0) ∧ w'.cell? ⟨gb155,1,none⟩ = some (.slice (some ad177) l0_1.length c0_1) ∧ w'.cell? (ad177.add (x11_2).toNat) = some (.int .i64 (rd l0_1 x11_2))) (ds := [10]) #[false,false,false,false,false,false,false,false,false,false,false] (by kernel_rfl) rfl rfl ⟨(blk_cell BK163.out 0).trans rfl,(blk_cell BK163.out 1).trans rfl,(blk_cell BK155.out 0).trans rfl,(blk_cell BK155.out 1).trans rfl,(cO HB hw177_0)⟩ (fun hHeld => ?_);refine with_tabW spec_l04Without.tab13 spec_l04Without.bits13 (fun HT_ HW_ => ?_)
         generalize wr.drew = w61 at HO_164000 HO_164001 BK155 BK156 BK163 HB hx177_0 hHeld ⊢
         refine pT HT_ 0 (some 68) ?_;refine pT HT_ 2 (some 70) ?_;refine pT HT_ 4 (some 72) ?_;refine tT HT_ HW_ hHeld 1 (some 69) ?_;refine tT HT_ HW_ hHeld 3 (some 71) ?_;refine pT HT_ 5 (some 73) ?_;refine tT HT_ HW_ hHeld 6 (some 74) ?_;refine oT HT_ 7 (some 75) (fun K hK => ?_);refine value_ (w1 := ?_) (v := ?_) (by rfl) rfl ?_ ?_;rotate_left 2
         ·go_simp
          constructor
          ·rfl
          ·rfl
         refine hK.out _ _ ⟨(blk_cell (blk_alloc BK163.out _) 0).trans rfl,(blk_cell (blk_alloc BK163.out _) 1).trans rfl,(blk_cell (blk_alloc BK155.out _) 0).trans rfl,(blk_cell (blk_alloc BK155.out _) 1).trans rfl,(World.cell?_alloc_lt _ _ _ (World.block_lt_of_cell? _ _ ((cO HB hw177_0)))).trans ((cO HB hw177_0))⟩ (fun hHeld => ?_);clear hK K;refine nT 75 ?_;refine oT HT_ 8 (some 76) (fun K hK => ?_);refine Kd.R_append_step (Kd.int .i64) (w0 := w) w.heap.size (by rfl) (.tmp 69) (.tmp 75) 22 2 (.int .i64 0) 8 rfl Try.underlying22 info2 rfl (by decide) (by omega) u164001 x164001_2 (rd l0_1 x11_2) [.int .i64 (rd l0_1 x11_2)] (fun k_ => some k_ ≠ (u164000 : Value).ownBlock) (fun _ => False) rfl rfl ?aP (fun _ hk => hk.elim) ?aF ?aO ?aB ?aS ?aL ?_
         (case aP => exact rfl)
         (case aB => exact (bN HB))
         (case aF => exact (fun k_ hk => Kd.fresh' (Kd.R_lt (rN HO_164000)) k_ hk))
         (case aO => exact (rN HO_164001))
         (case aS => exact (below_size (bN HB)))
         (case aL => have := LMc57.out;omega)
         intro v179 w62 ho hb hg hat;rw [← Ny178.out] at ho;have n0_ := aK (Kd.R_after (ok := (fun _ => True)) (rM (Kd.R_mono HO_164000.out (fun _ hk => ⟨trivial,hk⟩))) hg hat);have n1_ := aK (blk_grown (g := gb155) (o := .cells #[.slice A0_0 l0_0.length c0_0,.slice (some ad177) l0_1.length c0_1] 27 (0,0)) (kN BK155) hg (Kd.R_ne HO_164001.out BK155.out (by decide)));have n2_ := aK (blk_grown (g := gb156) (o := .cells #[.slice none 0 0,.slice none 0 0] 27 (0,0)) (kN BK156) hg (Kd.R_ne HO_164001.out BK156.out (by decide)));have n3_ := aK (blk_grown (g := gb163) (o := .cells #[u164000,u164001] 27 (0,0)) (kN BK163) hg (Kd.R_ne HO_164001.out BK163.out (by decide)));have n4_ := aK (hb);have n5_ := aK (ho);clear HO_164000;clear BK155;clear BK156;clear BK163;clear HB;clear HO_164001;have HO_164000 := n0_;have BK155 := n1_;have BK156 := n2_;have BK163 := n3_;have HB := n4_;have HO180 := n5_;clear n0_ n1_ n2_ n3_ n4_ n5_;clear ho hb hg hat;obtain ⟨Ao63,co63,eo63⟩ := Kd.R_slice HO180.out;(first | subst eo63 | (injection eo63 with f1_ f2_ f3_;have f4_ := f1_.symm;have f5_ := f3_.symm;clear f1_ f2_ f3_;subst f4_;subst f5_));refine hK.out _ _ ⟨(blk_cell BK163.out 0).trans rfl,(blk_cell BK163.out 1).trans rfl,(blk_cell BK155.out 0).trans rfl,(blk_cell BK155.out 1).trans rfl,(cO HB hw177_0)⟩ (fun hHeld => ?_);clear hK K;refine nT 76 ?_;refine pT HT_ 9 (some 77) ?_;refine last_ (i := 10) (N := none) #[true,true,true,true,true,true,true,true,true,true,true] rfl rfl (one_of HT_.out (by kernel_rfl)) (by decide) (fun K hK => ?_);have hs64 : w62.cell? ⟨gb163,1,none⟩ = some (u164001) := (blk_cell BK163.out 1).trans rfl;have hfs64 := blk_frozen BK163.out 1;have hns64_0 := NB155_163.out;have hns64_1 := NB156_163.out;have hms64_0 := NB163_155.out;have hms64_1 := NB163_156.out;refine skip_ (w1 := ?_) (by rfl) rfl ?_ ?_;rotate_left
         ·go_simp
          rfl
         refine hK.out _ _ ?_;clear hK K;refine done_ (done_of HT_.out (by kernel_rfl)) ?_
         try go_wp2
         go_roundg k2
         case measure => have := HK1.out;have := HK2.out;omega
         case rel => exact ⟨(true),(wrap64 (x11_2 + 1)),(y178),(.slice Ao63 y178.length co63),rD,rD,H',⟨by have := HK1.out;have := HK2.out;omega⟩,⟨rM (Kd.R_mono (Kd.R_far (p := ⟨gb163,1,none⟩) (Kd.R_types HO_164000.out BK163.out (by decide)) (fun _ hk => hk.2) (.slice Ao63 y178.length co63)) (fun _ hk => hk.1.2))⟩,⟨rM (Kd.R_mono (Kd.R_far (p := ⟨gb163,1,none⟩) (Kd.R_types HO180.out BK163.out (by decide)) (fun _ hk => hk.2) (.slice Ao63 y178.length co63)) (fun _ hk => hk.1))⟩,⟨kZ BK155⟩,⟨kZ BK156⟩,⟨by (with_reducible repeat (first | refine blk_drewN ?_ _ | refine blk_drew ?_ | refine blk_alloc ?_ _));refine blk_put (cs := #[u164000,u164001]) ?_ 1 _ rfl;(with_reducible repeat (first | refine blk_drewN ?_ _ | refine blk_drew ?_ | refine blk_alloc ?_ _));exact BK163.out⟩,⟨bN HB⟩⟩
        ·replace c55 := Bool.eq_false_iff.mpr c55;subst c55;rw [if_neg (show ¬ (false = true) by decide)] at H
         by_cases c65 : 0 ≤ x11_2
         rotate_left
         ·rw [if_neg c65] at H;exact absurd H (by simp)
         rw [if_pos c65] at H;have c65b0 := decide_eq_true c65;clear c65
         by_cases c66 : (rd l0_1 x11_2) = a2
         ·rw [if_pos c66] at H;have c66b0 := beq_iff_eq.mpr c66;have c66b1 := bne_eq_false_iff_eq.mpr c66;clear c66;have H' := aK H;clear H;have hnb67 := NB155_156.out;have hnc67 := NB156_155.out;have hnb68 := NB155_163.out;have hnc68 := NB163_155.out;have hcz69_0 := y0 BK155;have hcz69_1 := y1 BK155;have hfz69_0 := blk_frozen BK155.out 0;have hfz69_1 := blk_frozen BK155.out 1;have p181 : 0 ≤ (x11_2 : Int) := dT;have q181 : x11_2 < (l0_1.length : Int) := dT;obtain ⟨ad181,e181,hx181_0⟩ := Kd.at_int HR0_1.out x11_2 p181 q181;cases e181;replace hx181_0 := cO HB hx181_0;replace p181 := eq_true p181;replace q181 := eq_true q181;go_wp2
          go_roundg k2
          case measure => have := HK1.out;have := HK2.out;omega
          case rel => exact ⟨(true),(wrap64 (x11_2 + 1)),(x164001_2),(u164001),rD,rD,H',⟨by have := HK1.out;have := HK2.out;omega⟩,⟨rN HO_164000⟩,⟨rN HO_164001⟩,⟨kN BK155⟩,⟨kN BK156⟩,⟨kN BK163⟩,⟨bN HB⟩⟩
         ·rw [if_neg c66] at H;have c66b0 := beq_eq_false_iff_ne.mpr c66;have c66b1 := bne_iff_ne.mpr c66
          by_cases c70 : x164001_2.length < 17592186044416
          rotate_left
          ·rw [if_neg c70] at H;exact absurd H (by simp)
          rw [if_pos c70] at H;have LMc70 := aK c70;clear c70;obtain ⟨y183,hy183⟩ : ∃ y_ : List Int,y_ = (x164001_2 ++ [rd l0_1 x11_2]) := ⟨_,rfl⟩;replace H : (spec_l04Without.l1 k2 true a2 false (wrap64 (x11_2 + 1)) l0_0 l0_1 x164000_1 y183) = some (r1,r2,r3) := by first | (rw [hy183];with_reducible exact H) | (have H2_ := (Option.bind_some _ _).symm.trans H;rw [hy183];with_reducible exact H2_) | (have H2_ := (Option.bind_some _ _).symm.trans H;with_reducible exact H2_) | with_reducible exact H | (rw [hy183];exact H) | exact H
          have Ny183 := aK hy183;clear hy183;have H' := aK H;clear H;have hnb71 := NB155_156.out;have hnc71 := NB156_155.out;have hnb72 := NB155_163.out;have hnc72 := NB163_155.out;have hcz73_0 := y0 BK155;have hcz73_1 := y1 BK155;have hfz73_0 := blk_frozen BK155.out 0;have hfz73_1 := blk_frozen BK155.out 1;have p181 : 0 ≤ (x11_2 : Int) := dT;have q181 : x11_2 < (l0_1.length : Int) := dT;obtain ⟨ad181,e181,hx181_0⟩ := Kd.at_int HR0_1.out x11_2 p181 q181;cases e181;replace hx181_0 := cO HB hx181_0;replace p181 := eq_true p181;replace q181 := eq_true q181
          try go_wp2
          have n0_ := aK (Kd.R_drew HO_164000.out);have n1_ := aK (Kd.R_drew HO_164001.out);have n2_ := aK (blk_drew BK155.out);have n3_ := aK (blk_drew BK156.out);have n4_ := aK (blk_drew BK163.out);have n5_ := aK (below_drew1 HB.out);clear HO_164000;clear HO_164001;clear BK155;clear BK156;clear BK163;clear HB;have HO_164000 := n0_;have HO_164001 := n1_;have BK155 := n2_;have BK156 := n3_;have BK163 := n4_;have HB := n5_;clear n0_ n1_ n2_ n3_ n4_ n5_;have p182 : 0 ≤ (x11_2 : Int) := dT;have q182 : x11_2 < (l0_1.length : Int) := dT;obtain ⟨ad182,e182,hx182_0⟩ := Kd.at_int HR0_1.out x11_2 p182 q182;have hw182_0 := hx182_0;obtain rfl : ad181 = ad182 := (by injection e182);replace hx182_0 := cO HB hx182_0;replace p182 := eq_true p182;replace q182 := eq_true q182;refine start_ (n := 11) (S := fun w' => w'.cell? ⟨gb163,0,none⟩ = some (u164000) ∧ w'.cell? ⟨gb163,1,none⟩ = some (u164001) ∧ w'.cell? ⟨gb155,0,none⟩ = some (.slice A0_0 l0_0.length c0_0) ∧ w'.cell? ⟨gb155,1,none⟩ = some (.slice (some ad181) l0_1.length c0_1) ∧ w'.cell? (ad181.add (x11_2).toNat) = some (.int .i64 (rd l0_1 x11_2))) (ds := [10]) #[false,false,false,false,false,false,false,false,false,false,false] (by kernel_rfl) rfl rfl ⟨(blk_cell BK163.out 0).trans rfl,(blk_cell BK163.out 1).trans rfl,(blk_cell BK155.out 0).trans rfl,(blk_cell BK155.out 1).trans rfl,(cO HB hw182_0)⟩ (fun hHeld => ?_);refine with_tabW spec_l04Without.tab13 spec_l04Without.bits13 (fun HT_ HW_ => ?_)
          generalize wr.drew = w74 at HO_164000 HO_164001 BK155 BK156 BK163 HB hx182_0 hHeld ⊢
          refine pT HT_ 0 (some 68) ?_;refine pT HT_ 2 (some 70) ?_;refine pT HT_ 4 (some 72) ?_;refine tT HT_ HW_ hHeld 1 (some 69) ?_;refine tT HT_ HW_ hHeld 3 (some 71) ?_;refine pT HT_ 5 (some 73) ?_;refine tT HT_ HW_ hHeld 6 (some 74) ?_;refine oT HT_ 7 (some 75) (fun K hK => ?_);refine value_ (w1 := ?_) (v := ?_) (by rfl) rfl ?_ ?_;rotate_left 2
          ·go_simp
           constructor
           ·rfl
           ·rfl
          refine hK.out _ _ ⟨(blk_cell (blk_alloc BK163.out _) 0).trans rfl,(blk_cell (blk_alloc BK163.out _) 1).trans rfl,(blk_cell (blk_alloc BK155.out _) 0).trans rfl,(blk_cell (blk_alloc BK155.out _) 1).trans rfl,(World.cell?_alloc_lt _ _ _ (World.block_lt_of_cell? _ _ ((cO HB hw182_0)))).trans ((cO HB hw182_0))⟩ (fun hHeld => ?_);clear hK K;refine nT 75 ?_;refine oT HT_ 8 (some 76) (fun K hK => ?_);refine Kd.R_append_step (Kd.int .i64) (w0 := w) w.heap.size (by rfl) (.tmp 69) (.tmp 75) 22 2 (.int .i64 0) 8 rfl Try.underlying22 info2 rfl (by decide) (by omega) u164001 x164001_2 (rd l0_1 x11_2) [.int .i64 (rd l0_1 x11_2)] (fun k_ => some k_ ≠ (u164000 : Value).ownBlock) (fun _ => False) rfl rfl ?aP (fun _ hk => hk.elim) ?aF ?aO ?aB ?aS ?aL ?_
          (case aP => exact rfl)
          (case aB => exact (bN HB))
          (case aF => exact (fun k_ hk => Kd.fresh' (Kd.R_lt (rN HO_164000)) k_ hk))
          (case aO => exact (rN HO_164001))
          (case aS => exact (below_size (bN HB)))
          (case aL => have := LMc70.out;omega)
          intro v184 w75 ho hb hg hat;rw [← Ny183.out] at ho;have n0_ := aK (Kd.R_after (ok := (fun _ => True)) (rM (Kd.R_mono HO_164000.out (fun _ hk => ⟨trivial,hk⟩))) hg hat);have n1_ := aK (blk_grown (g := gb155) (o := .cells #[.slice A0_0 l0_0.length c0_0,.slice (some ad181) l0_1.length c0_1] 27 (0,0)) (kN BK155) hg (Kd.R_ne HO_164001.out BK155.out (by decide)));have n2_ := aK (blk_grown (g := gb156) (o := .cells #[.slice none 0 0,.slice none 0 0] 27 (0,0)) (kN BK156) hg (Kd.R_ne HO_164001.out BK156.out (by decide)));have n3_ := aK (blk_grown (g := gb163) (o := .cells #[u164000,u164001] 27 (0,0)) (kN BK163) hg (Kd.R_ne HO_164001.out BK163.out (by decide)));have n4_ := aK (hb);have n5_ := aK (ho);clear HO_164000;clear BK155;clear BK156;clear BK163;clear HB;clear HO_164001;have HO_164000 := n0_;have BK155 := n1_;have BK156 := n2_;have BK163 := n3_;have HB := n4_;have HO185 := n5_;clear n0_ n1_ n2_ n3_ n4_ n5_;clear ho hb hg hat;obtain ⟨Ao76,co76,eo76⟩ := Kd.R_slice HO185.out;(first | subst eo76 | (injection eo76 with f1_ f2_ f3_;have f4_ := f1_.symm;have f5_ := f3_.symm;clear f1_ f2_ f3_;subst f4_;subst f5_));refine hK.out _ _ ⟨(blk_cell BK163.out 0).trans rfl,(blk_cell BK163.out 1).trans rfl,(blk_cell BK155.out 0).trans rfl,(blk_cell BK155.out 1).trans rfl,(cO HB hw182_0)⟩ (fun hHeld => ?_);clear hK K;refine nT 76 ?_;refine pT HT_ 9 (some 77) ?_;refine last_ (i := 10) (N := none) #[true,true,true,true,true,true,true,true,true,true,true] rfl rfl (one_of HT_.out (by kernel_rfl)) (by decide) (fun K hK => ?_);have hs77 : w75.cell? ⟨gb163,1,none⟩ = some (u164001) := (blk_cell BK163.out 1).trans rfl;have hfs77 := blk_frozen BK163.out 1;have hns77_0 := NB155_163.out;have hns77_1 := NB156_163.out;have hms77_0 := NB163_155.out;have hms77_1 := NB163_156.out;refine skip_ (w1 := ?_) (by rfl) rfl ?_ ?_;rotate_left
          ·go_simp
           rfl
          refine hK.out _ _ ?_;clear hK K;refine done_ (done_of HT_.out (by kernel_rfl)) ?_
          try go_wp2
          go_roundg k2
          case measure => have := HK1.out;have := HK2.out;omega
          case rel => exact ⟨(false),(wrap64 (x11_2 + 1)),(y183),(.slice Ao76 y183.length co76),rD,rD,H',⟨by have := HK1.out;have := HK2.out;omega⟩,⟨rM (Kd.R_mono (Kd.R_far (p := ⟨gb163,1,none⟩) (Kd.R_types HO_164000.out BK163.out (by decide)) (fun _ hk => hk.2) (.slice Ao76 y183.length co76)) (fun _ hk => hk.1.2))⟩,⟨rM (Kd.R_mono (Kd.R_far (p := ⟨gb163,1,none⟩) (Kd.R_types HO185.out BK163.out (by decide)) (fun _ hk => hk.2) (.slice Ao76 y183.length co76)) (fun _ hk => hk.1))⟩,⟨kZ BK155⟩,⟨kZ BK156⟩,⟨by (with_reducible repeat (first | refine blk_drewN ?_ _ | refine blk_drew ?_ | refine blk_alloc ?_ _));refine blk_put (cs := #[u164000,u164001]) ?_ 1 _ rfl;(with_reducible repeat (first | refine blk_drewN ?_ _ | refine blk_drew ?_ | refine blk_alloc ?_ _));exact BK163.out⟩,⟨bN HB⟩⟩
       ·replace c54 := Bool.eq_false_iff.mpr c54;subst c54;rw [if_neg (show ¬ (false = true) by decide)] at H
        by_cases c78 : 0 ≤ x11_2
        rotate_left
        ·rw [if_neg c78] at H;exact absurd H (by simp)
        rw [if_pos c78] at H;have c78b0 := decide_eq_true c78;clear c78
        by_cases c79 : x164001_2.length < 17592186044416
        rotate_left
        ·rw [if_neg c79] at H;exact absurd H (by simp)
        rw [if_pos c79] at H;have LMc79 := aK c79;clear c79;obtain ⟨y187,hy187⟩ : ∃ y_ : List Int,y_ = (x164001_2 ++ [rd l0_1 x11_2]) := ⟨_,rfl⟩;replace H : (spec_l04Without.l1 k2 false a2 x9_2 (wrap64 (x11_2 + 1)) l0_0 l0_1 x164000_1 y187) = some (r1,r2,r3) := by first | (rw [hy187];with_reducible exact H) | (have H2_ := (Option.bind_some _ _).symm.trans H;rw [hy187];with_reducible exact H2_) | (have H2_ := (Option.bind_some _ _).symm.trans H;with_reducible exact H2_) | with_reducible exact H | (rw [hy187];exact H) | exact H
        have Ny187 := aK hy187;clear hy187;have H' := aK H;clear H;have hnb80 := NB155_156.out;have hnc80 := NB156_155.out;have hnb81 := NB155_163.out;have hnc81 := NB163_155.out;have hcz82_0 := y0 BK155;have hcz82_1 := y1 BK155;have hfz82_0 := blk_frozen BK155.out 0;have hfz82_1 := blk_frozen BK155.out 1
        try go_wp2
        have n0_ := aK (Kd.R_drew HO_164000.out);have n1_ := aK (Kd.R_drew HO_164001.out);have n2_ := aK (blk_drew BK155.out);have n3_ := aK (blk_drew BK156.out);have n4_ := aK (blk_drew BK163.out);have n5_ := aK (below_drew1 HB.out);clear HO_164000;clear HO_164001;clear BK155;clear BK156;clear BK163;clear HB;have HO_164000 := n0_;have HO_164001 := n1_;have BK155 := n2_;have BK156 := n3_;have BK163 := n4_;have HB := n5_;clear n0_ n1_ n2_ n3_ n4_ n5_;have p186 : 0 ≤ (x11_2 : Int) := dT;have q186 : x11_2 < (l0_1.length : Int) := dT;obtain ⟨ad186,e186,hx186_0⟩ := Kd.at_int HR0_1.out x11_2 p186 q186;have hw186_0 := hx186_0;cases e186;replace hx186_0 := cO HB hx186_0;replace p186 := eq_true p186;replace q186 := eq_true q186;refine start_ (n := 11) (S := fun w' => w'.cell? ⟨gb163,0,none⟩ = some (u164000) ∧ w'.cell? ⟨gb163,1,none⟩ = some (u164001) ∧ w'.cell? ⟨gb155,0,none⟩ = some (.slice A0_0 l0_0.length c0_0) ∧ w'.cell? ⟨gb155,1,none⟩ = some (.slice (some ad186) l0_1.length c0_1) ∧ w'.cell? (ad186.add (x11_2).toNat) = some (.int .i64 (rd l0_1 x11_2))) (ds := [10]) #[false,false,false,false,false,false,false,false,false,false,false] (by kernel_rfl) rfl rfl ⟨(blk_cell BK163.out 0).trans rfl,(blk_cell BK163.out 1).trans rfl,(blk_cell BK155.out 0).trans rfl,(blk_cell BK155.out 1).trans rfl,(cO HB hw186_0)⟩ (fun hHeld => ?_);refine with_tabW spec_l04Without.tab13 spec_l04Without.bits13 (fun HT_ HW_ => ?_)
        generalize wr.drew = w83 at HO_164000 HO_164001 BK155 BK156 BK163 HB hx186_0 hHeld ⊢
        refine pT HT_ 0 (some 68) ?_;refine pT HT_ 2 (some 70) ?_;refine pT HT_ 4 (some 72) ?_;refine tT HT_ HW_ hHeld 1 (some 69) ?_;refine tT HT_ HW_ hHeld 3 (some 71) ?_;refine pT HT_ 5 (some 73) ?_;refine tT HT_ HW_ hHeld 6 (some 74) ?_;refine oT HT_ 7 (some 75) (fun K hK => ?_);refine value_ (w1 := ?_) (v := ?_) (by rfl) rfl ?_ ?_;rotate_left 2
        ·go_simp
         constructor
         ·rfl
         ·rfl
        refine hK.out _ _ ⟨(blk_cell (blk_alloc BK163.out _) 0).trans rfl,(blk_cell (blk_alloc BK163.out _) 1).trans rfl,(blk_cell (blk_alloc BK155.out _) 0).trans rfl,(blk_cell (blk_alloc BK155.out _) 1).trans rfl,(World.cell?_alloc_lt _ _ _ (World.block_lt_of_cell? _ _ ((cO HB hw186_0)))).trans ((cO HB hw186_0))⟩ (fun hHeld => ?_);clear hK K;refine nT 75 ?_;refine oT HT_ 8 (some 76) (fun K hK => ?_);refine Kd.R_append_step (Kd.int .i64) (w0 := w) w.heap.size (by rfl) (.tmp 69) (.tmp 75) 22 2 (.int .i64 0) 8 rfl Try.underlying22 info2 rfl (by decide) (by omega) u164001 x164001_2 (rd l0_1 x11_2) [.int .i64 (rd l0_1 x11_2)] (fun k_ => some k_ ≠ (u164000 : Value).ownBlock) (fun _ => False) rfl rfl ?aP (fun _ hk => hk.elim) ?aF ?aO ?aB ?aS ?aL ?_
        (case aP => exact rfl)
        (case aB => exact (bN HB))
        (case aF => exact (fun k_ hk => Kd.fresh' (Kd.R_lt (rN HO_164000)) k_ hk))
        (case aO => exact (rN HO_164001))
        (case aS => exact (below_size (bN HB)))
        (case aL => have := LMc79.out;omega)
        intro v188 w84 ho hb hg hat;rw [← Ny187.out] at ho;have n0_ := aK (Kd.R_after (ok := (fun _ => True)) (rM (Kd.R_mono HO_164000.out (fun _ hk => ⟨trivial,hk⟩))) hg hat);have n1_ := aK (blk_grown (g := gb155) (o := .cells #[.slice A0_0 l0_0.length c0_0,.slice (some ad186) l0_1.length c0_1] 27 (0,0)) (kN BK155) hg (Kd.R_ne HO_164001.out BK155.out (by decide)));have n2_ := aK (blk_grown (g := gb156) (o := .cells #[.slice none 0 0,.slice none 0 0] 27 (0,0)) (kN BK156) hg (Kd.R_ne HO_164001.out BK156.out (by decide)));have n3_ := aK (blk_grown (g := gb163) (o := .cells #[u164000,u164001] 27 (0,0)) (kN BK163) hg (Kd.R_ne HO_164001.out BK163.out (by decide)));have n4_ := aK (hb);have n5_ := aK (ho);clear HO_164000;clear BK155;clear BK156;clear BK163;clear HB;clear HO_164001;have HO_164000 := n0_;have BK155 := n1_;have BK156 := n2_;have BK163 := n3_;have HB := n4_;have HO189 := n5_;clear n0_ n1_ n2_ n3_ n4_ n5_;clear ho hb hg hat;obtain ⟨Ao85,co85,eo85⟩ := Kd.R_slice HO189.out;(first | subst eo85 | (injection eo85 with f1_ f2_ f3_;have f4_ := f1_.symm;have f5_ := f3_.symm;clear f1_ f2_ f3_;subst f4_;subst f5_));refine hK.out _ _ ⟨(blk_cell BK163.out 0).trans rfl,(blk_cell BK163.out 1).trans rfl,(blk_cell BK155.out 0).trans rfl,(blk_cell BK155.out 1).trans rfl,(cO HB hw186_0)⟩ (fun hHeld => ?_);clear hK K;refine nT 76 ?_;refine pT HT_ 9 (some 77) ?_;refine last_ (i := 10) (N := none) #[true,true,true,true,true,true,true,true,true,true,true] rfl rfl (one_of HT_.out (by kernel_rfl)) (by decide) (fun K hK => ?_);have hs86 : w84.cell? ⟨gb163,1,none⟩ = some (u164001) := (blk_cell BK163.out 1).trans rfl;have hfs86 := blk_frozen BK163.out 1;have hns86_0 := NB155_163.out;have hns86_1 := NB156_163.out;have hms86_0 := NB163_155.out;have hms86_1 := NB163_156.out;refine skip_ (w1 := ?_) (by rfl) rfl ?_ ?_;rotate_left
        ·go_simp
         rfl
        refine hK.out _ _ ?_;clear hK K;refine done_ (done_of HT_.out (by kernel_rfl)) ?_
        try go_wp2
        go_roundg k2
        case measure => have := HK1.out;have := HK2.out;omega
        case rel => exact ⟨(x9_2),(wrap64 (x11_2 + 1)),(y187),(.slice Ao85 y187.length co85),rD,rD,H',⟨by have := HK1.out;have := HK2.out;omega⟩,⟨rM (Kd.R_mono (Kd.R_far (p := ⟨gb163,1,none⟩) (Kd.R_types HO_164000.out BK163.out (by decide)) (fun _ hk => hk.2) (.slice Ao85 y187.length co85)) (fun _ hk => hk.1.2))⟩,⟨rM (Kd.R_mono (Kd.R_far (p := ⟨gb163,1,none⟩) (Kd.R_types HO189.out BK163.out (by decide)) (fun _ hk => hk.2) (.slice Ao85 y187.length co85)) (fun _ hk => hk.1))⟩,⟨kZ BK155⟩,⟨kZ BK156⟩,⟨by (with_reducible repeat (first | refine blk_drewN ?_ _ | refine blk_drew ?_ | refine blk_alloc ?_ _));refine blk_put (cs := #[u164000,u164001]) ?_ 1 _ rfl;(with_reducible repeat (first | refine blk_drewN ?_ _ | refine blk_drew ?_ | refine blk_alloc ?_ _));exact BK163.out⟩,⟨bN HB⟩⟩
      ·rw [if_neg c53] at H;have c53b0 := decide_eq_false c53;clear c53;simp only [Option.some.injEq,Prod.mk.injEq] at H;obtain ⟨rfl,rfl,rfl⟩ := H;have hnb87 := NB155_156.out;have hnc87 := NB156_155.out;have hnb88 := NB155_163.out;have hnc88 := NB163_155.out;have hcz89_0 := y0 BK155;have hcz89_1 := y1 BK155;have hfz89_0 := blk_frozen BK155.out 0;have hfz89_1 := blk_frozen BK155.out 1;have hnb90 := NB163_156.out;have hnc90 := NB156_163.out;have hcz91_0 := y0 BK163;have hcz91_1 := y1 BK163;have hfz91_0 := blk_frozen BK163.out 0;have hfz91_1 := blk_frozen BK163.out 1;obtain ⟨Ao92,co92,eo92⟩ := Kd.R_slice HO_164000.out;subst eo92;have hcz93_0 := y0 BK156;have hcz93_1 := y1 BK156;have hfz93_0 := blk_frozen BK156.out 0;have hfz93_1 := blk_frozen BK156.out 1;obtain ⟨Ao94,co94,eo94⟩ := Kd.R_slice HO_164001.out;subst eo94;go_wp2;refine bodyPost_ret (results_ct rfl _ _ gb156 27 #[.slice Ao92 x164000_1.length co92,.slice Ao94 x164001_2.length co94] (0,0) _ rfl (by (with_reducible repeat (first | refine blk_drewN ?_ _ | refine blk_drew ?_ | refine blk_alloc ?_ _));refine blk_put (cs := #[.slice Ao92 x164000_1.length co92,.slice none 0 0]) ?_ 1 _ rfl;(with_reducible repeat (first | refine blk_drewN ?_ _ | refine blk_drew ?_ | refine blk_alloc ?_ _));refine blk_put (cs := #[.slice none 0 0,.slice none 0 0]) ?_ 0 _ rfl;(with_reducible repeat (first | refine blk_drewN ?_ _ | refine blk_drew ?_ | refine blk_alloc ?_ _));exact BK156.out) Try.underlying27 rfl (by kernel_rfl)) rfl ?_;exact ⟨_,_,by first | rfl | (simp [errW_none,errW_some] <;> rfl) | (simp [*,errW_none,errW_some] <;> rfl),by (with_reducible repeat (first | apply Kd.R_alloc | apply Kd.R_drewN | apply Kd.R_drew));exact Kd.R_mono (Kd.R_far (p := ⟨gb156,1,none⟩) (Kd.R_far (p := ⟨gb156,0,none⟩) (Kd.R_types HO_164000.out BK156.out (by decide)) (fun _ hk => hk.2) (.slice Ao92 x164000_1.length co92)) (fun _ hk => hk.2) (.slice Ao94 x164001_2.length co94)) (fun _ hk => hk.1),by (with_reducible repeat (first | apply Kd.R_alloc | apply Kd.R_drewN | apply Kd.R_drew));exact Kd.R_mono (Kd.R_far (p := ⟨gb156,1,none⟩) (Kd.R_far (p := ⟨gb156,0,none⟩) (Kd.R_types HO_164001.out BK156.out (by decide)) (fun _ hk => hk.2) (.slice Ao92 x164000_1.length co92)) (fun _ hk => hk.2) (.slice Ao94 x164001_2.length co94)) (fun _ hk => hk.1),(bN HB)⟩
/-! ### spec_AfterOpening: function 26 -/
def spec_AfterOpening.f (k : Nat) (l0_0 : List Int) (l0_1 : List Int) (a1 : Bool) (a2 : Int) : Option (List Int × List Int × Int) := (spec_l04Is.f k l0_0 l0_1).bind fun t192 => (if t192 = true then ((spec_l04Without.f k l0_0 l0_1 a1 a2).bind fun bt193 => (if bt193.2.2 = true then (some (bt193.1, bt193.2.1, 0)) else (some (([] : List Int), ([] : List Int), 5)))) else (some (([] : List Int), ([] : List Int), 1)))
theorem spec_AfterOpening.mono : ∀ a0 a1 a2 a3 k, LeO (spec_AfterOpening.f k a0 a1 a2 a3) (spec_AfterOpening.f (k + 1) a0 a1 a2 a3) := by
 intro a0 a1 a2 a3 k;unfold spec_AfterOpening.f
 repeat' first
  | (with_reducible exact spec_l04Is.mono _ _ _)
  | (with_reducible exact spec_l04Without.mono _ _ _ _ _)
  | (with_reducible exact LeO.refl _)
  | (with_reducible exact LeO.none _)
  | (with_reducible refine LeO.ite ?_ ?_)
  | (with_reducible refine LeO.bind ?_ (fun _ => ?_))
  | exact spec_l04Is.mono _ _ _
  | exact spec_l04Without.mono _ _ _ _ _
  | exact LeO.none _
  | refine LeO.ite ?_ ?_
  | refine LeO.bind ?_ (fun _ => ?_)
set_option maxHeartbeats 8000000 in
set_option maxRecDepth 100000 in
theorem spec_AfterOpening.calls (k : Nat) (A0_0 : Option Addr) (c0_0 : Nat) (l0_0 : List Int) (A0_1 : Option Addr) (c0_1 : Nat) (l0_1 : List Int) (a1 : Bool) (a2 : Int) (r1 : List Int) (r2 : List Int) (r3 : Int) (w : World) (hr0_0 : Kd.C (Kd.int .i64) w A0_0 l0_0.length l0_0) (hc0_0 : l0_0.length ≤ c0_0) (hr0_1 : Kd.C (Kd.int .i64) w A0_1 l0_1.length l0_1) (hc0_1 : l0_1.length ≤ c0_1) (h : spec_AfterOpening.f k l0_0 l0_1 a1 a2 = some (r1, r2, r3)) :
 Calls Try.prog 26 #[.agg #[.slice A0_0 l0_0.length c0_0,.slice A0_1 l0_1.length c0_1],.bool a1,.int .i64 a2] w fun e w' => ∃ v0_ v1_ : Value,e = .returned (.tuple #[.agg #[v0_,v1_],.int .i64 r3]) ∧ Kd.R (Kd.int .i64) 2 w' w.heap.size (fun k_ => some k_ ≠ (v1_ : Value).ownBlock) v0_ r1 ∧ Kd.R (Kd.int .i64) 2 w' w.heap.size (fun k_ => some k_ ≠ (v0_ : Value).ownBlock) v1_ r2 ∧ Below w.heap.size w w' := by
 have hu27 := Try.underlying27;have HR0_0 := aK hr0_0;have HC0_0 := aK hc0_0;clear hr0_0 hc0_0;have HR0_1 := aK hr0_1;have HC0_1 := aK hc0_1;clear hr0_1 hc0_1;have HB := aK (Below.refl w.heap.size w);have H := h;clear h;unfold spec_AfterOpening.f at H;replace H := bE H;obtain ⟨t192,A4,H⟩ := H
 by_cases c5 : t192 = true
 ·subst c5;rw [if_pos rfl] at H;replace H := bE H;obtain ⟨⟨t193,t196,t199⟩,A6,H⟩ := H;dsimp only at H
  by_cases c7 : t199 = true
  ·subst c7;rw [if_pos rfl] at H;simp only [Option.some.injEq,Prod.mk.injEq] at H;obtain ⟨rfl,rfl,rfl⟩ := H;go_enter Try.func26,Try.ntmps26
   go_wp2_with (first | ((with_reducible refine gate_dst (N := 3) rfl ?_);refine boxE 3 #[.slice A0_0 l0_0.length c0_0,.slice A0_1 l0_1.length c0_1] 27 ?_;intro gb190 hg w8 hbox hb;have BK190 := aK (hbox);have GW190 := aK (zG HB hg);have GE190 := aK (zG HB hg);replace HB := hB HB hb;clear hb hbox hg) | ((with_reducible refine gate_dst (N := 6) rfl ?_);refine boxE 6 #[.slice none 0 0,.slice none 0 0] 27 ?_;intro gb191 hg w9 hbox hb;have BK191 := aK (hbox);have GW191 := aK (zG HB hg);have GE191 := aK (zG HB hg);replace HB := hB HB hb;have NB190_191 := aK ((by rw [hg];exact Nat.ne_of_lt (blk_lt (g := gb190) (o := .cells #[.slice A0_0 l0_0.length c0_0,.slice A0_1 l0_1.length c0_1] 27 (0,0)) (kN BK190)) : gb190 ≠ gb191));have NB191_190 := aK ((by rw [hg];exact Nat.ne_of_gt (blk_lt (g := gb190) (o := .cells #[.slice A0_0 l0_0.length c0_0,.slice A0_1 l0_1.length c0_1] 27 (0,0)) (kN BK190)) : gb191 ≠ gb190));replace BK190 := kB BK190 hb;clear hb hbox hg;have hnb10 := NB190_191.out;have hnc10 := NB191_190.out;have hcz11_0 := y0 BK190;have hcz11_1 := y1 BK190;have hfz11_0 := blk_frozen BK190.out 0;have hfz11_1 := blk_frozen BK190.out 1) | ((with_reducible refine gate_callee (f := 61) rfl ?_);refine goesE (some 11) Try.func61 #[.agg #[.slice A0_0 l0_0.length c0_0,.slice A0_1 l0_1.length c0_1]] ?_;(with_reducible refine (spec_l04Is.calls k _ _ l0_0 _ _ l0_1 true _ ?side1 ?side2 ?side3 ?side4 A4.out).mono ?_);(case side1 => exact cB HR0_0 HB);(case side2 => exact HC0_0.out);(case side3 => exact cB HR0_1 HB);(case side4 => exact HC0_1.out);rintro e w12 ⟨rfl,hb⟩;refine ⟨_,rfl,?_⟩;replace BK190 := kB BK190 hb;replace BK191 := kB BK191 hb;replace HB := hB HB hb;clear hb;have hcz13_0 := y0 BK190;have hcz13_1 := y1 BK190;have hfz13_0 := blk_frozen BK190.out 0;have hfz13_1 := blk_frozen BK190.out 1) | ((with_reducible refine gate_callee (f := 72) rfl ?_);refine goesE (some 18) Try.func72 #[.agg #[.slice A0_0 l0_0.length c0_0,.slice A0_1 l0_1.length c0_1],.bool a1,.int .i64 a2] ?_;(with_reducible refine (spec_l04Without.calls k _ _ l0_0 _ _ l0_1 a1 a2 t193 t196 true _ ?side1 ?side2 ?side3 ?side4 A6.out).mono ?_);(case side1 => exact cB HR0_0 HB);(case side2 => exact HC0_0.out);(case side3 => exact cB HR0_1 HB);(case side4 => exact HC0_1.out);rintro e w14 ⟨v194,v197,rfl,ho0,ho1,hb⟩;refine ⟨_,rfl,?_⟩;have HO195 := aK (Kd.R_lower ho0 (below_size (bN HB)));have HO198 := aK (Kd.R_lower ho1 (below_size (bN HB)));replace BK190 := kB BK190 hb;replace BK191 := kB BK191 hb;replace HB := hB HB hb;clear hb ho0 ho1) | ((with_reducible refine gate_dst (N := 8) rfl ?_);refine boxE 8 #[.slice none 0 0,.slice none 0 0] 27 ?_;intro gb200 hg w15 hbox hb;replace HO195 := rB HO195 hb;replace HO198 := rB HO198 hb;have BK200 := aK (hbox);have GW200 := aK (zG HB hg);have GE200 := aK (zG HB hg);replace HB := hB HB hb;have NB190_200 := aK ((by rw [hg];exact Nat.ne_of_lt (blk_lt (g := gb190) (o := .cells #[.slice A0_0 l0_0.length c0_0,.slice A0_1 l0_1.length c0_1] 27 (0,0)) (kN BK190)) : gb190 ≠ gb200));have NB200_190 := aK ((by rw [hg];exact Nat.ne_of_gt (blk_lt (g := gb190) (o := .cells #[.slice A0_0 l0_0.length c0_0,.slice A0_1 l0_1.length c0_1] 27 (0,0)) (kN BK190)) : gb200 ≠ gb190));replace BK190 := kB BK190 hb;have NB191_200 := aK ((by rw [hg];exact Nat.ne_of_lt (blk_lt (g := gb191) (o := .cells #[.slice none 0 0,.slice none 0 0] 27 (0,0)) (kN BK191)) : gb191 ≠ gb200));have NB200_191 := aK ((by rw [hg];exact Nat.ne_of_gt (blk_lt (g := gb191) (o := .cells #[.slice none 0 0,.slice none 0 0] 27 (0,0)) (kN BK191)) : gb200 ≠ gb191));replace BK191 := kB BK191 hb;clear hb hbox hg;obtain ⟨Ao16,co16,eo16⟩ := Kd.R_slice HO195.out;subst eo16;have hnb17 := NB200_190.out;have hnc17 := NB190_200.out;have hnb18 := NB200_191.out;have hnc18 := NB191_200.out;have hcz19_0 := y0 BK200;have hcz19_1 := y1 BK200;have hfz19_0 := blk_frozen BK200.out 0;have hfz19_1 := blk_frozen BK200.out 1;obtain ⟨Ao20,co20,eo20⟩ := Kd.R_slice HO198.out;subst eo20;have hcz21_0 := y0 BK191;have hcz21_1 := y1 BK191;have hfz21_0 := blk_frozen BK191.out 0;have hfz21_1 := blk_frozen BK191.out 1))
   refine bodyPost_ret (results_ct rfl _ _ gb191 27 #[.slice Ao16 t193.length co16,.slice Ao20 t196.length co20] (0,0) _ rfl (by (with_reducible repeat (first | refine blk_drewN ?_ _ | refine blk_drew ?_ | refine blk_alloc ?_ _));refine blk_put (cs := #[.slice Ao16 t193.length co16,.slice none 0 0]) ?_ 1 _ rfl;(with_reducible repeat (first | refine blk_drewN ?_ _ | refine blk_drew ?_ | refine blk_alloc ?_ _));refine blk_put (cs := #[.slice none 0 0,.slice none 0 0]) ?_ 0 _ rfl;(with_reducible repeat (first | refine blk_drewN ?_ _ | refine blk_drew ?_ | refine blk_alloc ?_ _));refine blk_far ?_ NB191_200.out _;(with_reducible repeat (first | refine blk_drewN ?_ _ | refine blk_drew ?_ | refine blk_alloc ?_ _));refine blk_far ?_ NB191_200.out _;(with_reducible repeat (first | refine blk_drewN ?_ _ | refine blk_drew ?_ | refine blk_alloc ?_ _));exact BK191.out) Try.underlying27 rfl (by kernel_rfl)) rfl ?_;exact ⟨_,_,by first | rfl | (simp [errW_none,errW_some] <;> rfl) | (simp [*,errW_none,errW_some] <;> rfl),by (with_reducible repeat (first | apply Kd.R_alloc | apply Kd.R_drewN | apply Kd.R_drew));exact Kd.R_mono (Kd.R_far (p := ⟨gb191,1,none⟩) (Kd.R_far (p := ⟨gb191,0,none⟩) (Kd.R_far (p := ⟨gb200,1,none⟩) (Kd.R_far (p := ⟨gb200,0,none⟩) (Kd.R_types (Kd.R_types HO195.out BK200.out (by decide)) BK191.out (by decide)) (fun _ hk => hk.1.2) (.slice Ao16 t193.length co16)) (fun _ hk => hk.1.2) (.slice Ao20 t196.length co20)) (fun _ hk => hk.2) (.slice Ao16 t193.length co16)) (fun _ hk => hk.2) (.slice Ao20 t196.length co20)) (fun _ hk => hk.1.1),by (with_reducible repeat (first | apply Kd.R_alloc | apply Kd.R_drewN | apply Kd.R_drew));exact Kd.R_mono (Kd.R_far (p := ⟨gb191,1,none⟩) (Kd.R_far (p := ⟨gb191,0,none⟩) (Kd.R_far (p := ⟨gb200,1,none⟩) (Kd.R_far (p := ⟨gb200,0,none⟩) (Kd.R_types (Kd.R_types HO198.out BK200.out (by decide)) BK191.out (by decide)) (fun _ hk => hk.1.2) (.slice Ao16 t193.length co16)) (fun _ hk => hk.1.2) (.slice Ao20 t196.length co20)) (fun _ hk => hk.2) (.slice Ao16 t193.length co16)) (fun _ hk => hk.2) (.slice Ao20 t196.length co20)) (fun _ hk => hk.1.1),(bN HB)⟩
  ·replace c7 := Bool.eq_false_iff.mpr c7;subst c7;rw [if_neg (show ¬ (false = true) by decide)] at H;simp only [Option.some.injEq,Prod.mk.injEq] at H;obtain ⟨rfl,rfl,rfl⟩ := H;go_enter Try.func26,Try.ntmps26
   go_wp2_with (first | ((with_reducible refine gate_dst (N := 3) rfl ?_);refine boxE 3 #[.slice A0_0 l0_0.length c0_0,.slice A0_1 l0_1.length c0_1] 27 ?_;intro gb190 hg w22 hbox hb;have BK190 := aK (hbox);have GW190 := aK (zG HB hg);have GE190 := aK (zG HB hg);replace HB := hB HB hb;clear hb hbox hg) | ((with_reducible refine gate_dst (N := 6) rfl ?_);refine boxE 6 #[.slice none 0 0,.slice none 0 0] 27 ?_;intro gb191 hg w23 hbox hb;have BK191 := aK (hbox);have GW191 := aK (zG HB hg);have GE191 := aK (zG HB hg);replace HB := hB HB hb;have NB190_191 := aK ((by rw [hg];exact Nat.ne_of_lt (blk_lt (g := gb190) (o := .cells #[.slice A0_0 l0_0.length c0_0,.slice A0_1 l0_1.length c0_1] 27 (0,0)) (kN BK190)) : gb190 ≠ gb191));have NB191_190 := aK ((by rw [hg];exact Nat.ne_of_gt (blk_lt (g := gb190) (o := .cells #[.slice A0_0 l0_0.length c0_0,.slice A0_1 l0_1.length c0_1] 27 (0,0)) (kN BK190)) : gb191 ≠ gb190));replace BK190 := kB BK190 hb;clear hb hbox hg;have hnb24 := NB190_191.out;have hnc24 := NB191_190.out;have hcz25_0 := y0 BK190;have hcz25_1 := y1 BK190;have hfz25_0 := blk_frozen BK190.out 0;have hfz25_1 := blk_frozen BK190.out 1) | ((with_reducible refine gate_callee (f := 61) rfl ?_);refine goesE (some 11) Try.func61 #[.agg #[.slice A0_0 l0_0.length c0_0,.slice A0_1 l0_1.length c0_1]] ?_;(with_reducible refine (spec_l04Is.calls k _ _ l0_0 _ _ l0_1 true _ ?side1 ?side2 ?side3 ?side4 A4.out).mono ?_);(case side1 => exact cB HR0_0 HB);(case side2 => exact HC0_0.out);(case side3 => exact cB HR0_1 HB);(case side4 => exact HC0_1.out);rintro e w26 ⟨rfl,hb⟩;refine ⟨_,rfl,?_⟩;replace BK190 := kB BK190 hb;replace BK191 := kB BK191 hb;replace HB := hB HB hb;clear hb;have hcz27_0 := y0 BK190;have hcz27_1 := y1 BK190;have hfz27_0 := blk_frozen BK190.out 0;have hfz27_1 := blk_frozen BK190.out 1) | ((with_reducible refine gate_callee (f := 72) rfl ?_);refine goesE (some 18) Try.func72 #[.agg #[.slice A0_0 l0_0.length c0_0,.slice A0_1 l0_1.length c0_1],.bool a1,.int .i64 a2] ?_;(with_reducible refine (spec_l04Without.calls k _ _ l0_0 _ _ l0_1 a1 a2 t193 t196 false _ ?side1 ?side2 ?side3 ?side4 A6.out).mono ?_);(case side1 => exact cB HR0_0 HB);(case side2 => exact HC0_0.out);(case side3 => exact cB HR0_1 HB);(case side4 => exact HC0_1.out);rintro e w28 ⟨v194,v197,rfl,ho0,ho1,hb⟩;refine ⟨_,rfl,?_⟩;have HO195 := aK (Kd.R_lower ho0 (below_size (bN HB)));have HO198 := aK (Kd.R_lower ho1 (below_size (bN HB)));replace BK190 := kB BK190 hb;replace BK191 := kB BK191 hb;replace HB := hB HB hb;clear hb ho0 ho1) | ((with_reducible refine gate_dst (N := 8) rfl ?_);refine boxE 8 #[.slice none 0 0,.slice none 0 0] 27 ?_;intro gb200 hg w29 hbox hb;replace HO195 := rB HO195 hb;replace HO198 := rB HO198 hb;have BK200 := aK (hbox);have GW200 := aK (zG HB hg);have GE200 := aK (zG HB hg);replace HB := hB HB hb;have NB190_200 := aK ((by rw [hg];exact Nat.ne_of_lt (blk_lt (g := gb190) (o := .cells #[.slice A0_0 l0_0.length c0_0,.slice A0_1 l0_1.length c0_1] 27 (0,0)) (kN BK190)) : gb190 ≠ gb200));have NB200_190 := aK ((by rw [hg];exact Nat.ne_of_gt (blk_lt (g := gb190) (o := .cells #[.slice A0_0 l0_0.length c0_0,.slice A0_1 l0_1.length c0_1] 27 (0,0)) (kN BK190)) : gb200 ≠ gb190));replace BK190 := kB BK190 hb;have NB191_200 := aK ((by rw [hg];exact Nat.ne_of_lt (blk_lt (g := gb191) (o := .cells #[.slice none 0 0,.slice none 0 0] 27 (0,0)) (kN BK191)) : gb191 ≠ gb200));have NB200_191 := aK ((by rw [hg];exact Nat.ne_of_gt (blk_lt (g := gb191) (o := .cells #[.slice none 0 0,.slice none 0 0] 27 (0,0)) (kN BK191)) : gb200 ≠ gb191));replace BK191 := kB BK191 hb;clear hb hbox hg;obtain ⟨Ao30,co30,eo30⟩ := Kd.R_slice HO195.out;subst eo30;have hnb31 := NB200_190.out;have hnc31 := NB190_200.out;have hnb32 := NB200_191.out;have hnc32 := NB191_200.out;have hcz33_0 := y0 BK200;have hcz33_1 := y1 BK200;have hfz33_0 := blk_frozen BK200.out 0;have hfz33_1 := blk_frozen BK200.out 1;obtain ⟨Ao34,co34,eo34⟩ := Kd.R_slice HO198.out;subst eo34;have hcz35_0 := y0 BK191;have hcz35_1 := y1 BK191;have hfz35_0 := blk_frozen BK191.out 0;have hfz35_1 := blk_frozen BK191.out 1))
   refine bodyPost_ret (results_ct rfl _ _ gb191 27 #[.slice none 0 0,.slice none 0 0] (0,0) _ rfl (by (with_reducible repeat (first | refine blk_drewN ?_ _ | refine blk_drew ?_ | refine blk_alloc ?_ _));refine blk_put (cs := #[.slice none 0 0,.slice none 0 0]) ?_ 1 _ rfl;(with_reducible repeat (first | refine blk_drewN ?_ _ | refine blk_drew ?_ | refine blk_alloc ?_ _));refine blk_put (cs := #[.slice none 0 0,.slice none 0 0]) ?_ 0 _ rfl;(with_reducible repeat (first | refine blk_drewN ?_ _ | refine blk_drew ?_ | refine blk_alloc ?_ _));refine blk_far ?_ NB191_200.out _;(with_reducible repeat (first | refine blk_drewN ?_ _ | refine blk_drew ?_ | refine blk_alloc ?_ _));refine blk_far ?_ NB191_200.out _;(with_reducible repeat (first | refine blk_drewN ?_ _ | refine blk_drew ?_ | refine blk_alloc ?_ _));exact BK191.out) Try.underlying27 rfl (by kernel_rfl)) rfl ?_;exact ⟨_,_,by first | rfl | (simp [errW_none,errW_some] <;> rfl) | (simp [*,errW_none,errW_some] <;> rfl),by first | exact Kd.R_nil _ _ _ _ _ | exact Kd.N_nil _ _ _ _ _ | exact Kd.V_nil _ _ _ _ _ | exact Kd.Q_nil _ _ _ _ _ | exact Kd.S_nil _ _ _ _ _,by first | exact Kd.R_nil _ _ _ _ _ | exact Kd.N_nil _ _ _ _ _ | exact Kd.V_nil _ _ _ _ _ | exact Kd.Q_nil _ _ _ _ _ | exact Kd.S_nil _ _ _ _ _,(bN HB)⟩
 ·replace c5 := Bool.eq_false_iff.mpr c5;subst c5;rw [if_neg (show ¬ (false = true) by decide)] at H;simp only [Option.some.injEq,Prod.mk.injEq] at H;obtain ⟨rfl,rfl,rfl⟩ := H;go_enter Try.func26,Try.ntmps26
  go_wp2_with (first | ((with_reducible refine gate_dst (N := 3) rfl ?_);refine boxE 3 #[.slice A0_0 l0_0.length c0_0,.slice A0_1 l0_1.length c0_1] 27 ?_;intro gb190 hg w36 hbox hb;have BK190 := aK (hbox);have GW190 := aK (zG HB hg);have GE190 := aK (zG HB hg);replace HB := hB HB hb;clear hb hbox hg) | ((with_reducible refine gate_dst (N := 6) rfl ?_);refine boxE 6 #[.slice none 0 0,.slice none 0 0] 27 ?_;intro gb191 hg w37 hbox hb;have BK191 := aK (hbox);have GW191 := aK (zG HB hg);have GE191 := aK (zG HB hg);replace HB := hB HB hb;have NB190_191 := aK ((by rw [hg];exact Nat.ne_of_lt (blk_lt (g := gb190) (o := .cells #[.slice A0_0 l0_0.length c0_0,.slice A0_1 l0_1.length c0_1] 27 (0,0)) (kN BK190)) : gb190 ≠ gb191));have NB191_190 := aK ((by rw [hg];exact Nat.ne_of_gt (blk_lt (g := gb190) (o := .cells #[.slice A0_0 l0_0.length c0_0,.slice A0_1 l0_1.length c0_1] 27 (0,0)) (kN BK190)) : gb191 ≠ gb190));replace BK190 := kB BK190 hb;clear hb hbox hg;have hnb38 := NB190_191.out;have hnc38 := NB191_190.out;have hcz39_0 := y0 BK190;have hcz39_1 := y1 BK190;have hfz39_0 := blk_frozen BK190.out 0;have hfz39_1 := blk_frozen BK190.out 1) | ((with_reducible refine gate_callee (f := 61) rfl ?_);refine goesE (some 11) Try.func61 #[.agg #[.slice A0_0 l0_0.length c0_0,.slice A0_1 l0_1.length c0_1]] ?_;(with_reducible refine (spec_l04Is.calls k _ _ l0_0 _ _ l0_1 false _ ?side1 ?side2 ?side3 ?side4 A4.out).mono ?_);(case side1 => exact cB HR0_0 HB);(case side2 => exact HC0_0.out);(case side3 => exact cB HR0_1 HB);(case side4 => exact HC0_1.out);rintro e w40 ⟨rfl,hb⟩;refine ⟨_,rfl,?_⟩;replace BK190 := kB BK190 hb;replace BK191 := kB BK191 hb;replace HB := hB HB hb;clear hb;have hcz41_0 := y0 BK191;have hcz41_1 := y1 BK191;have hfz41_0 := blk_frozen BK191.out 0;have hfz41_1 := blk_frozen BK191.out 1))
  refine bodyPost_ret (results_ct rfl _ _ gb191 27 #[.slice none 0 0,.slice none 0 0] (0,0) _ rfl (by (with_reducible repeat (first | refine blk_drewN ?_ _ | refine blk_drew ?_ | refine blk_alloc ?_ _));refine blk_put (cs := #[.slice none 0 0,.slice none 0 0]) ?_ 1 _ rfl;(with_reducible repeat (first | refine blk_drewN ?_ _ | refine blk_drew ?_ | refine blk_alloc ?_ _));refine blk_put (cs := #[.slice none 0 0,.slice none 0 0]) ?_ 0 _ rfl;(with_reducible repeat (first | refine blk_drewN ?_ _ | refine blk_drew ?_ | refine blk_alloc ?_ _));exact BK191.out) Try.underlying27 rfl (by kernel_rfl)) rfl ?_;exact ⟨_,_,by first | rfl | (simp [errW_none,errW_some] <;> rfl) | (simp [*,errW_none,errW_some] <;> rfl),by first | exact Kd.R_nil _ _ _ _ _ | exact Kd.N_nil _ _ _ _ _ | exact Kd.V_nil _ _ _ _ _ | exact Kd.Q_nil _ _ _ _ _ | exact Kd.S_nil _ _ _ _ _,by first | exact Kd.R_nil _ _ _ _ _ | exact Kd.N_nil _ _ _ _ _ | exact Kd.V_nil _ _ _ _ _ | exact Kd.Q_nil _ _ _ _ _ | exact Kd.S_nil _ _ _ _ _,(bN HB)⟩
/-! ### spec_l04Answer: function 81 -/
def spec_l04Answer.f (a0 : Bool) (a1 : Int) (a2 : Int) : Option (Int × Bool) := (spec_l04Taker.f a0 a1 a2).bind fun bt299 => (if bt299.2.2 = true then (if bt299.2.1 > bt299.1 then (some (bt299.2.1, true)) else (some (bt299.1, false))) else (some (bt299.1, false)))
set_option maxHeartbeats 8000000 in
set_option maxRecDepth 100000 in
theorem spec_l04Answer.calls (a0 : Bool) (a1 : Int) (a2 : Int) (r1 : Int) (r2 : Bool) (w : World) (h : spec_l04Answer.f a0 a1 a2 = some (r1, r2)) :
 Calls Try.prog 81 #[.bool a0,.int .i64 a1,.int .i64 a2] w fun e w' => e = .returned (.tuple #[.int .i64 r1,.bool r2]) ∧ Drawn0 w w' := by
 have H := h;clear h;unfold spec_l04Answer.f at H;replace H := bE H;obtain ⟨⟨t299,t300,t301⟩,A4,H⟩ := H;dsimp only at H
 by_cases c5 : t301 = true
 ·subst c5;rw [if_pos rfl] at H
  by_cases c6 : t300 > t299
  ·rw [if_pos c6] at H;have c6b0 := decide_eq_true c6;clear c6;simp only [Option.some.injEq,Prod.mk.injEq] at H;obtain ⟨rfl,rfl⟩ := H;go_enter Try.func81,Try.ntmps81
   go_wp2_with (first | ((with_reducible refine gate_callee (f := 70) rfl ?_);refine goesE (some 15) Try.func70 #[.bool a0,.int .i64 a1,.int .i64 a2] ?_;(with_reducible refine (spec_l04Taker.calls a0 a1 a2 t299 t300 true _ A4.out).mono ?_);rintro e w' ⟨rfl,⟨nd,rfl⟩⟩;refine ⟨_,rfl,?_⟩))
   go_ret2;exact ⟨rD,dD⟩
  ·rw [if_neg c6] at H;have c6b0 := decide_eq_false c6;clear c6;simp only [Option.some.injEq,Prod.mk.injEq] at H;obtain ⟨rfl,rfl⟩ := H;go_enter Try.func81,Try.ntmps81
   go_wp2_with (first | ((with_reducible refine gate_callee (f := 70) rfl ?_);refine goesE (some 15) Try.func70 #[.bool a0,.int .i64 a1,.int .i64 a2] ?_;(with_reducible refine (spec_l04Taker.calls a0 a1 a2 t299 t300 true _ A4.out).mono ?_);rintro e w' ⟨rfl,⟨nd,rfl⟩⟩;refine ⟨_,rfl,?_⟩))
   go_ret2;exact ⟨rD,dD⟩
 ·replace c5 := Bool.eq_false_iff.mpr c5;subst c5;rw [if_neg (show ¬ (false = true) by decide)] at H;simp only [Option.some.injEq,Prod.mk.injEq] at H;obtain ⟨rfl,rfl⟩ := H;go_enter Try.func81,Try.ntmps81
  go_wp2_with (first | ((with_reducible refine gate_callee (f := 70) rfl ?_);refine goesE (some 15) Try.func70 #[.bool a0,.int .i64 a1,.int .i64 a2] ?_;(with_reducible refine (spec_l04Taker.calls a0 a1 a2 t299 t300 false _ A4.out).mono ?_);rintro e w' ⟨rfl,⟨nd,rfl⟩⟩;refine ⟨_,rfl,?_⟩))
  go_ret2;exact ⟨rD,dD⟩
section
variable (V : List Int → List Int → Option Int)
mutual
def openV.l0 : Nat → Int → Bool → Int → Int → List Int → List Int → Option (Bool × Int × Int)
  | 0,_,_,_,_,_,_ => none
  | k + 1,x5,x6,x7,x8,x409000,x409001 => if x8 < 2 then (if x8 = 1 then (openV.j1 k x5 x6 x7 x8 x409001 x409000 x409001) else (openV.j1 k x5 x6 x7 x8 x409000 x409000 x409001)) else (some (x6,x7,x5))
def openV.j1 : Nat → Int → Bool → Int → Int → List Int → List Int → List Int → Option (Bool × Int × Int)
  | 0,_,_,_,_,_,_,_ => none
  | k + 1,x5,x6,x7,x8,x9,x409000,x409001 => openV.l1 k x5 x6 x7 x8 x9 0 x409000 x409001
def openV.l1 : Nat → Int → Bool → Int → Int → List Int → Int → List Int → List Int → Option (Bool × Int × Int)
  | 0,_,_,_,_,_,_,_,_ => none
  | k + 1,x5,x6,x7,x8,x9,x10,x409000,x409001 => if x10 < (x9.length : Int) then (if x10 > 0 then (if 0 ≤ x10 then (if 0 ≤ (wrap64 (x10 - 1)) then (if (wrap64 (x10 - 1)) < (x9.length : Int) then (openV.j3 k x5 x6 x7 x8 x9 x10 ((rd x9 x10) == (rd x9 (wrap64 (x10 - 1)))) x409000 x409001) else (none)) else (none)) else (none)) else (openV.j3 k x5 x6 x7 x8 x9 x10 false x409000 x409001)) else (openV.l0 k x5 x6 x7 (wrap64 (x8 + 1)) x409000 x409001)
def openV.j3 : Nat → Int → Bool → Int → Int → List Int → Int → Bool → List Int → List Int → Option (Bool × Int × Int)
  | 0,_,_,_,_,_,_,_,_,_ => none
  | k + 1,x5,x6,x7,x8,x9,x10,x44,x409000,x409001 => if x44 = true then (openV.l1 k x5 x6 x7 x8 x9 (wrap64 (x10 + 1)) x409000 x409001) else (if 0 ≤ x10 then (if x10 < (x9.length : Int) then ((spec_l04Without.f k x409000 x409001 (x8 == 1) (rd x9 x10)).bind fun bt412 => ((V bt412.1 bt412.2.1).bind fun t421 => ((spec_l04Answer.f (x8 == 1) (rd x9 x10) t421).bind fun bt422 => (if x7 = 0 then (openV.l1 k (wrap64 (-bt422.1)) (x8 == 1) (rd x9 x10) x8 x9 (wrap64 (x10 + 1)) x409000 x409001) else (if (wrap64 (-bt422.1)) > x5 then (openV.l1 k (wrap64 (-bt422.1)) (x8 == 1) (rd x9 x10) x8 x9 (wrap64 (x10 + 1)) x409000 x409001) else (openV.l1 k x5 x6 x7 x8 x9 (wrap64 (x10 + 1)) x409000 x409001)))))) else (none)) else (none))
end
def openV.f (k : Nat) (l0_0 : List Int) (l0_1 : List Int) : Option (Bool × Int × Int) := openV.l0 V k 0 false 0 0 l0_0 l0_1
end
theorem openV.mono_l (V : List Int → List Int → Option Int) : ∀ k, (∀ y0 y1 y2 y3 y4 y5, LeO (openV.l0 V k y0 y1 y2 y3 y4 y5) (openV.l0 V (k + 1) y0 y1 y2 y3 y4 y5)) ∧ (∀ y0 y1 y2 y3 y4 y5 y6, LeO (openV.j1 V k y0 y1 y2 y3 y4 y5 y6) (openV.j1 V (k + 1) y0 y1 y2 y3 y4 y5 y6)) ∧ (∀ y0 y1 y2 y3 y4 y5 y6 y7, LeO (openV.l1 V k y0 y1 y2 y3 y4 y5 y6 y7) (openV.l1 V (k + 1) y0 y1 y2 y3 y4 y5 y6 y7)) ∧ (∀ y0 y1 y2 y3 y4 y5 y6 y7 y8, LeO (openV.j3 V k y0 y1 y2 y3 y4 y5 y6 y7 y8) (openV.j3 V (k + 1) y0 y1 y2 y3 y4 y5 y6 y7 y8))
  | 0 => ⟨fun _ _ _ _ _ _ r h => by simp [openV.l0] at h,fun _ _ _ _ _ _ _ r h => by simp [openV.j1] at h,fun _ _ _ _ _ _ _ _ r h => by simp [openV.l1] at h,fun _ _ _ _ _ _ _ _ _ r h => by simp [openV.j3] at h⟩
  | k + 1 => by
    obtain ⟨ih0,ih1,ih2,ih3⟩ := openV.mono_l V k;refine ⟨?_,?_,?_,?_⟩
    · intro y0 y1 y2 y3 y4 y5
      unfold openV.l0
      repeat' first
      | (with_reducible exact ih0 _ _ _ _ _ _)
      | (with_reducible exact ih1 _ _ _ _ _ _ _)
      | (with_reducible exact ih2 _ _ _ _ _ _ _ _)
      | (with_reducible exact ih3 _ _ _ _ _ _ _ _ _)
      | (with_reducible exact spec_l04Without.mono _ _ _ _ _)
      | (with_reducible exact LeO.refl _)
      | (with_reducible exact LeO.none _)
      | (with_reducible refine LeO.ite ?_ ?_)
      | (with_reducible refine LeO.bind ?_ (fun _ => ?_))
      | exact ih0 _ _ _ _ _ _
      | exact ih1 _ _ _ _ _ _ _
      | exact ih2 _ _ _ _ _ _ _ _
      | exact ih3 _ _ _ _ _ _ _ _ _
      | exact spec_l04Without.mono _ _ _ _ _
      | exact LeO.none _
      | refine LeO.ite ?_ ?_
      | refine LeO.bind ?_ (fun _ => ?_)
    · intro y0 y1 y2 y3 y4 y5 y6
      unfold openV.j1
      repeat' first
      | (with_reducible exact ih0 _ _ _ _ _ _)
      | (with_reducible exact ih1 _ _ _ _ _ _ _)
      | (with_reducible exact ih2 _ _ _ _ _ _ _ _)
      | (with_reducible exact ih3 _ _ _ _ _ _ _ _ _)
      | (with_reducible exact spec_l04Without.mono _ _ _ _ _)
      | (with_reducible exact LeO.refl _)
      | (with_reducible exact LeO.none _)
      | (with_reducible refine LeO.ite ?_ ?_)
      | (with_reducible refine LeO.bind ?_ (fun _ => ?_))
      | exact ih0 _ _ _ _ _ _
      | exact ih1 _ _ _ _ _ _ _
      | exact ih2 _ _ _ _ _ _ _ _
      | exact ih3 _ _ _ _ _ _ _ _ _
      | exact spec_l04Without.mono _ _ _ _ _
      | exact LeO.none _
      | refine LeO.ite ?_ ?_
      | refine LeO.bind ?_ (fun _ => ?_)
    · intro y0 y1 y2 y3 y4 y5 y6 y7
      unfold openV.l1
      repeat' first
      | (with_reducible exact ih0 _ _ _ _ _ _)
      | (with_reducible exact ih1 _ _ _ _ _ _ _)
      | (with_reducible exact ih2 _ _ _ _ _ _ _ _)
      | (with_reducible exact ih3 _ _ _ _ _ _ _ _ _)
      | (with_reducible exact spec_l04Without.mono _ _ _ _ _)
      | (with_reducible exact LeO.refl _)
      | (with_reducible exact LeO.none _)
      | (with_reducible refine LeO.ite ?_ ?_)
      | (with_reducible refine LeO.bind ?_ (fun _ => ?_))
      | exact ih0 _ _ _ _ _ _
      | exact ih1 _ _ _ _ _ _ _
      | exact ih2 _ _ _ _ _ _ _ _
      | exact ih3 _ _ _ _ _ _ _ _ _
      | exact spec_l04Without.mono _ _ _ _ _
      | exact LeO.none _
      | refine LeO.ite ?_ ?_
      | refine LeO.bind ?_ (fun _ => ?_)
    · intro y0 y1 y2 y3 y4 y5 y6 y7 y8
      unfold openV.j3
      repeat' first
      | (with_reducible exact ih0 _ _ _ _ _ _)
      | (with_reducible exact ih1 _ _ _ _ _ _ _)
      | (with_reducible exact ih2 _ _ _ _ _ _ _ _)
      | (with_reducible exact ih3 _ _ _ _ _ _ _ _ _)
      | (with_reducible exact spec_l04Without.mono _ _ _ _ _)
      | (with_reducible exact LeO.refl _)
      | (with_reducible exact LeO.none _)
      | (with_reducible refine LeO.ite ?_ ?_)
      | (with_reducible refine LeO.bind ?_ (fun _ => ?_))
      | exact ih0 _ _ _ _ _ _
      | exact ih1 _ _ _ _ _ _ _
      | exact ih2 _ _ _ _ _ _ _ _
      | exact ih3 _ _ _ _ _ _ _ _ _
      | exact spec_l04Without.mono _ _ _ _ _
      | exact LeO.none _
      | refine LeO.ite ?_ ?_
      | refine LeO.bind ?_ (fun _ => ?_)
theorem openV.mono (V : List Int → List Int → Option Int) : ∀ a0 a1 k, LeO (openV.f V k a0 a1) (openV.f V (k + 1) a0 a1) := by
  intro a0 a1 k;obtain ⟨ih0,ih1,ih2,ih3⟩ := openV.mono_l V k;unfold openV.f
  repeat' first
      | (with_reducible exact ih0 _ _ _ _ _ _)
      | (with_reducible exact ih1 _ _ _ _ _ _ _)
      | (with_reducible exact ih2 _ _ _ _ _ _ _ _)
      | (with_reducible exact ih3 _ _ _ _ _ _ _ _ _)
      | (with_reducible exact spec_l04Without.mono _ _ _ _ _)
      | (with_reducible exact LeO.refl _)
      | (with_reducible exact LeO.none _)
      | (with_reducible refine LeO.ite ?_ ?_)
      | (with_reducible refine LeO.bind ?_ (fun _ => ?_))
      | exact ih0 _ _ _ _ _ _
      | exact ih1 _ _ _ _ _ _ _
      | exact ih2 _ _ _ _ _ _ _ _
      | exact ih3 _ _ _ _ _ _ _ _ _
      | exact spec_l04Without.mono _ _ _ _ _
      | exact LeO.none _
      | refine LeO.ite ?_ ?_
      | refine LeO.bind ?_ (fun _ => ?_)
theorem V_awayI {w : World} {base g e : Nat} {ok : Nat → Prop} {ad : Addr} {n c : Nat} {xs : List Int} (h : Kd.V (Kd.int .i64) e w base ok (.slice (some ad) n c) xs) (hn : 0 < n) (hok : ∀ k, ok k → k ≠ g) : some g ≠ (Value.slice (some ad) n c).ownBlock := by
  intro he;have hb : ad.block = g := by simp [Value.ownBlock] at he;exact he.symm
  obtain ⟨hx,_,hF⟩ := Kd.V_at h;have hC := hF { w with heap := w.heap.setIfInBounds g (.map #[] 0) } (fun k hk _ => by
    show (w.heap.setIfInBounds g (.map #[] 0))[k]? = w.heap[k]?;rw [Array.getElem?_setIfInBounds_ne (fun e => hok k hk e.symm)])
  obtain ⟨ad',e1,hc⟩ := Kd.at_int hC 0 (by omega) (by omega);injection e1 with e1
  subst e1;have hb2 : (ad.add (0 : Int).toNat).block = g := hb;unfold World.cell? at hc;rw [hb2] at hc
  by_cases hg : g < w.heap.size
  · rw [Array.getElem?_setIfInBounds_self_of_lt hg] at hc
    cases hc
  · rw [Array.getElem?_eq_none (by simp;omega)] at hc
    cases hc
end Go.Proofs.Ytkbjoiebaphdoaa.PA
