/- Part 6 of the texts under the row of FnAnswers (no condition). -/
import Derived.Maps.OwnSet
import Derived.Maps.Views
import Derived.Test.YtkbjoiebaphdoaaPk5FnAnswers
namespace Go.Proofs.Ytkbjoiebaphdoaa.PA
open Go.RowKit Go.Proofs.YtkbjoiebaphdoaaW.PrintWords Go.Proofs.YtkbjoiebaphdoaaW.PrintLast Go.Proofs.YtkbjoiebaphdoaaW.PrintMore
attribute [local go_sem] max2_int min2_int max_two min_two max_three min_three max_four min_four
set_option linter.unusedVariables false
set_option linter.unusedSimpArgs false
open Go.Maps (Keyed)
def byteOf (x : Int) : UInt8 := UInt8.ofNat x.toNat
def keyL (C L : List Int) : List UInt8 := C.map byteOf ++ 255 :: L.map byteOf
def okI (xs : List Int) : Prop := ∀ x ∈ xs, 1 ≤ x ∧ x ≤ 30
theorem okI_C {xs : List Int} (h : okC xs) : okI xs := h
theorem okI_L {xs : List Int} (h : okL xs) : okI xs := fun x hx => by have := h x hx; omega
theorem byteOf_nat {x : Int} (h : 1 ≤ x ∧ x ≤ 30) : (byteOf x).toNat = x.toNat := by
  unfold byteOf;rw [UInt8.toNat_ofNat'];exact Nat.mod_eq_of_lt (by omega)
theorem byteOf_inj {x y : Int} (hx : 1 ≤ x ∧ x ≤ 30) (hy : 1 ≤ y ∧ y ≤ 30) (h : byteOf x = byteOf y) : x = y := by
  have h1 := byteOf_nat hx;have h2 := byteOf_nat hy;rw [h] at h1;omega
theorem byteOf_ne {x : Int} (hx : 1 ≤ x ∧ x ≤ 30) : byteOf x ≠ 255 := fun h => by
  have h1 := byteOf_nat hx;rw [h] at h1;have h2 : (255 : UInt8).toNat = 255 := rfl;omega
theorem map_byte_inj : ∀ {L L' : List Int}, okI L → okI L' → L.map byteOf = L'.map byteOf → L = L'
  | [],[],_,_,_ => rfl
  | [],_ :: _,_,_,h => by cases h
  | _ :: _,[],_,_,h => by cases h
  | a :: L,b :: L',h1,h2,h => by
    rw [List.map_cons,List.map_cons] at h;injection h with e1 e2
    rw [byteOf_inj (h1 a List.mem_cons_self) (h2 b List.mem_cons_self) e1,map_byte_inj (fun x hx => h1 x (List.mem_cons_of_mem _ hx)) (fun x hx => h2 x (List.mem_cons_of_mem _ hx)) e2]
theorem keyL_inj : ∀ {C C' L L' : List Int}, okI C → okI L → okI C' → okI L' → keyL C L = keyL C' L' → C = C' ∧ L = L'
  | [],[],L,L',_,h1,_,h2,h => by
    unfold keyL at h;rw [List.map_nil,List.nil_append,List.nil_append] at h;injection h with _ e
    exact ⟨rfl,map_byte_inj h1 h2 e⟩
  | [],c :: C',L,L',_,_,h3,_,h => by
    unfold keyL at h;rw [List.map_nil,List.nil_append,List.map_cons,List.cons_append] at h;injection h with e _
    exact absurd e.symm (byteOf_ne (h3 c List.mem_cons_self))
  | c :: C,[],L,L',h3,_,_,_,h => by
    unfold keyL at h;rw [List.map_nil,List.nil_append,List.map_cons,List.cons_append] at h;injection h with e _
    exact absurd e (byteOf_ne (h3 c List.mem_cons_self))
  | c :: C,c' :: C',L,L',h1,h2,h3,h4,h => by
    unfold keyL at h;rw [List.map_cons,List.cons_append,List.map_cons,List.cons_append] at h;injection h with e1 e2
    obtain ⟨r1,r2⟩ := keyL_inj (C := C) (C' := C') (fun x hx => h1 x (List.mem_cons_of_mem _ hx)) h2 (fun x hx => h3 x (List.mem_cons_of_mem _ hx)) h4 e2;exact ⟨by rw [byteOf_inj (h1 c List.mem_cons_self) (h3 c' List.mem_cons_self) e1,r1],r2⟩
def memD (M : List (List Int × List Int)) : DataW Unit := M.foldl (fun D p => D.put (.string (keyL p.1 p.2)) (.lit (.int .i64 (val p.1 p.2)))) (.map [])
theorem memD_snoc (M : List (List Int × List Int)) (C L : List Int) : memD (M ++ [(C, L)]) = (memD M).put (.string (keyL C L)) (.lit (.int .i64 (val C L))) := by unfold memD; rw [List.foldl_append]; rfl
theorem memD_fold {C L : List Int} (hC : okI C) (hL : okI L) (z : DataW Unit) : ∀ (M : List (List Int × List Int)) (D : DataW Unit), (∀ p ∈ M, okI p.1 ∧ okI p.2) → Go.Maps.IsMap D →
    (Go.Maps.has D (.string (keyL C L)) = true → D.atKey (.string (keyL C L)) z = .lit (.int .i64 (val C L))) →
    Go.Maps.has (M.foldl (fun D p => D.put (.string (keyL p.1 p.2)) (.lit (.int .i64 (val p.1 p.2)))) D) (.string (keyL C L)) = true →
    (M.foldl (fun D p => D.put (.string (keyL p.1 p.2)) (.lit (.int .i64 (val p.1 p.2)))) D).atKey (.string (keyL C L)) z = .lit (.int .i64 (val C L))
  | [],D,_,_,h,hh => h hh
  | p :: M,D,hM,hD,h,hh => by
    rw [List.foldl_cons] at hh ⊢;refine memD_fold hC hL z M _ (fun q hq => hM q (List.mem_cons_of_mem _ hq)) (hD.put _ _) ?_ hh;have hp := hM p List.mem_cons_self
    by_cases e : keyL C L = keyL p.1 p.2
    · obtain ⟨e1,e2⟩ := keyL_inj hC hL hp.1 hp.2 e
      intro _;rw [e,Go.Maps.atKey_put_same hD (show Go.WideAt.IsKeyLit (.string (keyL p.1 p.2)) from trivial),e1,e2]
    · have hne : Lit.string (keyL C L) ≠ Lit.string (keyL p.1 p.2) := fun h => e (by injection h)
      rw [Go.Maps.has_put_other hne,Go.Maps.atKey_put_other hne];exact h
theorem memD_at {C L : List Int} (hC : okI C) (hL : okI L) {M : List (List Int × List Int)} (hM : ∀ p ∈ M, okI p.1 ∧ okI p.2) (z : DataW Unit) (h : Go.Maps.has (memD M) (.string (keyL C L)) = true) : (memD M).atKey (.string (keyL C L)) z = .lit (.int .i64 (val C L)) :=
  memD_fold hC hL z M (.map []) hM ⟨[],rfl⟩ (fun h => Bool.noConfusion (show false = true from h)) h
theorem keyLawS : Keyed Try.prog 9 := Go.Maps.string_keyed Try.underlying9
theorem zeroI (w : World) : (zeroValue 2).run Try.prog w = .ok (.int .i64 0) w := by kernel_rfl
def MemAt (w : World) (b : Nat) (M : List (List Int × List Int)) : Prop := w.ownsMap Try.prog 9 (plainElem (H := Unit) Try.prog 2) b M.length (memD M) ∧ ∀ p ∈ M, okI p.1 ∧ okI p.2
theorem MemAt.kept {w w' : World} {b : Nat} {M : List (List Int × List Int)} {row : Option Nat} (h : MemAt w b M) (hg : w.grownBy w' row) (hne : some b ≠ row) : MemAt w' b M := ⟨World.ownsMap.kept h.1 hg hne, h.2⟩
theorem MemAt.below {w w' : World} {B b : Nat} {M : List (List Int × List Int)} (h : MemAt w b M) (hg : Below B w w') (hb : b < B) : MemAt w' b M := by
  obtain ⟨⟨es,clock,h1,F,hs,hD⟩,h2⟩ := h;exact ⟨⟨es,clock,(hg.block b hb).trans h1,F,hs,hD⟩,h2⟩
theorem MemAt.lt {w : World} {b : Nat} {M : List (List Int × List Int)} (h : MemAt w b M) : b < w.heap.size := World.ownsMap.lt h.1
theorem MemAt.made (w : World) : MemAt (w.alloc (.map #[] 0)) w.heap.size [] := ⟨World.ownsMap_made w _ _ _, by simp⟩
section
variable {ops : Array Oper} {rest : List Oper} {o : Oper} {a : Act} {Q : Exit → Act → World → Prop} {w : World}
/-- 'out, ok := known[key]': not there, or there with the ending's value. -/
theorem mem_look (hg : o.guard = none) (m x : Operand) (hop : o.op = Op.lookup 109 m x true) (b : Nat) (M : List (List Int × List Int)) (C L : List Int) (s : ByteArray)
    (hm : a.eval m = .map (some b)) (h : MemAt w b M) (hx : a.eval x = .string s) (hs : s.data.toList = keyL C L) (hsz : s.size ≤ maxLen) (hC : okI C) (hL : okI L)
    (hK : ∀ (c : Int) (f : Bool),(f = true → c = val C L) → wpList Try.prog ops Q rest (a.put o.dst (.tuple #[.int .i64 c,.bool f])) w) : wpList Try.prog ops Q (o :: rest) a w :=
  wpList_lookup_own_ok_int w hg m x 109 hop 9 2 .i64 keyLawS Try.underlying109 Try.underlying2 (zeroI w) b M.length (memD M) hm h.1 (.string s) (.string (keyL C L)) hx (by rw [← hs];exact Go.WideMaps.keyOf_string_mk Try.underlying9 hsz)
    (fun c hc _ => hK c _ (fun hf => by
      have := memD_at hC hL h.2 (.lit (.int .i64 0)) hf;rw [hc] at this;injection this with this
      injection this))
/-- 'known[key] = best', the ending's value. -/
theorem mem_put (hg : o.guard = none) (m x v : Operand) (hop : o.op = Op.mapUpdate 109 m x v) (b : Nat) (M : List (List Int × List Int)) (C L : List Int) (s : ByteArray)
    (hm : a.eval m = .map (some b)) (h : MemAt w b M) (hn : M.length < maxLen) (hx : a.eval x = .string s) (hs : s.data.toList = keyL C L) (hsz : s.size ≤ maxLen) (hC : okI C) (hL : okI L) (hv : a.eval v = .int .i64 (val C L)) (hw : (Lit.int .i64 (val C L)).wf = true)
    (hK : ∀ w',MemAt w' b (M ++ [(C,L)]) → w.grownBy w' (some b) → wpList Try.prog ops Q rest (a.put o.dst undef) w') : wpList Try.prog ops Q (o :: rest) a w :=
  wpList_mapUpdate_own w hg m x v 109 hop 9 2 keyLawS Try.underlying109 _ b M.length (memD M) hm h.1 hn (.string s) (.int .i64 (val C L)) (.string (keyL C L)) hx hv (by rw [← hs];exact Go.WideMaps.keyOf_string_mk Try.underlying9 hsz)
    (.lit (.int .i64 (val C L))) [] (plainElem_int Try.underlying2 hw) (fun w' h1 h2 => hK w' ⟨by rw [memD_snoc,List.length_append];exact h1,fun p hp => by
      rcases List.mem_append.1 hp with hp | hp
      · exact h.2 p hp
      · rw [List.mem_singleton] at hp
        subst hp;exact ⟨hC,hL⟩⟩ h2)
set_option maxRecDepth 100000 in
theorem mem_look_run {M : List (List Int × List Int)} {C L : List Int} (hM : ∀ p ∈ M, okI p.1 ∧ okI p.2) (hC : okI C) (hL : okI L) :
    ∃ (c : Int) (f : Bool),(f = true → c = val C L) ∧ ∀ (w : World) (b : Nat) (s : ByteArray),MemAt w b M → s.data.toList = keyL C L → s.size ≤ maxLen → (Instr.lookup 109 (.map (some b)) (.string s) true).run Try.prog w = .ok (.tuple #[.int .i64 c,.bool f]) w := by
  refine ⟨(match (memD M).atKey (.string (keyL C L)) (.lit (.int .i64 0)) with | .lit (.int _ c) => c | _ => 0),Go.Maps.has (memD M) (.string (keyL C L)),fun hf => ?_,fun w b s h hs hsz => ?_⟩
  · rw [memD_at hC hL hM (.lit (.int .i64 0)) hf]
  · obtain ⟨v,ps,hrun,hv⟩ := h.1.look_ok (t := 109) keyLawS Try.underlying109 (zeroI w) (plainElem_int (a := 0) Try.underlying2 rfl) (key := .string s) (kl := .string (keyL C L)) (by rw [← hs];exact Go.WideMaps.keyOf_string_mk Try.underlying9 hsz)
    obtain ⟨c,rfl,hc,_⟩ := plainElem_int_inv Try.underlying2 hv;have h2 := congrArg Prod.fst hc;simp only at h2;rw [hrun,h2]
theorem mem_event (hgd : o.guard = none) {N : Tmp} (_hd : o.dst = some N)
    (hrun : (execOp a.eval o).run Try.prog w = .ok (.value (.map (some w.heap.size))) (w.alloc (.map #[] 0)))
    (h : ∀ g,g = w.heap.size → ∀ w1,MemAt w1 g [] → Below w.heap.size w w1 → wpList Try.prog ops Q rest (a.put o.dst (.map (some g))) w1) : wpList Try.prog ops Q (o :: rest) a w :=
  Kd.event_run hgd hrun (h _ rfl _ (MemAt.made w) (below_alloc (Below.refl _ _) _))
end
end Go.Proofs.Ytkbjoiebaphdoaa.PA
namespace Go.Proofs.Ytkbjoiebaphdoaa.PA
open Go.RowKit Go.Proofs.YtkbjoiebaphdoaaW.PrintWords Go.Proofs.YtkbjoiebaphdoaaW.PrintLast Go.Proofs.YtkbjoiebaphdoaaW.PrintMore
attribute [local go_sem] max2_int min2_int max_two min_two max_three min_three max_four min_four
set_option linter.unusedVariables false
set_option linter.unusedSimpArgs false
abbrev Opng := S75
def toS (o : Bool × Int) : Opng := ⟨o.1, o.2⟩
theorem uniqTo_len (xs : List Int) : ∀ m, (uniqTo xs m).length ≤ m
  | 0 => Nat.le_refl _
  | m + 1 => by
    have ih := uniqTo_len xs m;rw [uniqTo,List.length_append]
    split
    · simp;omega
    · simp;omega
theorem uniq_le (xs : List Int) : (uniq xs).length ≤ xs.length := uniqTo_len xs _
theorem open_l1 (U : List Int) (hU : U.length ≤ 1048576) : ∀ (d i : Nat) (acc : List Opng), i + d = U.length → acc.length + d ≤ 100000000 → Ev (fun k => impl_Ending_openings.l1 k acc U (U.length : Int) (i : Int)) (acc ++ (U.drop i).map (fun b => toS (true, b)))
  | 0,i,acc,hd,ha => by
    rw [List.drop_of_length_le (by omega),List.map_nil,List.append_nil];refine Ev.step (f := fun _ => some acc) (fun k => ?_) (Ev.now _);rw [impl_Ending_openings.l1,if_neg (by omega)]
  | d + 1,i,acc,hd,ha => by
    obtain ⟨x,hx⟩ := get_some (xs := U) (i := i) (by omega);have ih := open_l1 U hU d (i + 1) (acc ++ [(⟨true,rd U (i : Int)⟩ : Opng)]) (by omega) (by rw [List.length_append,List.length_singleton];omega);have hr : rd U (i : Int) = x := by rw [rd_nat,getD_of hx]
    rw [List.append_assoc] at ih;rw [drop_of hx,List.map_cons,show toS (true,x) = (⟨true,rd U (i : Int)⟩ : Opng) by rw [hr];rfl];refine Ev.step (fun k => ?_) ih;rw [impl_Ending_openings.l1,if_pos (by omega),if_pos (by omega),if_pos (by omega),if_pos (by omega),wrapS (i := (i : Int) + 1) (by omega) (by omega),cast_succ]
theorem open_l0 (U C L : List Int) (hU : U.length ≤ 1048576) (hL : L.length ≤ 1048576) : ∀ (d i : Nat) (acc : List Opng), i + d = U.length → acc.length + d ≤ 50000000 → Ev (fun k => impl_Ending_openings.l0 k acc U (U.length : Int) (i : Int) C L) ((acc ++ (U.drop i).map (fun b => toS (false, b))) ++ (uniq L).map (fun b => toS (true, b)))
  | 0,i,acc,hd,ha => by
    rw [List.drop_of_length_le (by omega),List.map_nil,List.append_nil];have hu := uniq_le L;have h := open_l1 (uniq L) (by omega) (uniq L).length 0 acc (by omega) (by omega);rw [List.drop_zero] at h;refine Ev.step (fun k => ?_) h;rw [impl_Ending_openings.l0,if_neg (by omega)];unfold slices_Clone_int64_int64.f slices_Compact_int64_int64.f;rw [if_pos (by omega),Option.bind_some,if_pos (by omega),Option.bind_some]
    rfl
  | d + 1,i,acc,hd,ha => by
    obtain ⟨x,hx⟩ := get_some (xs := U) (i := i) (by omega);have ih := open_l0 U C L hU hL d (i + 1) (acc ++ [(⟨false,rd U (i : Int)⟩ : Opng)]) (by omega) (by rw [List.length_append,List.length_singleton];omega);have hr : rd U (i : Int) = x := by rw [rd_nat,getD_of hx]
    rw [List.append_assoc acc] at ih;rw [drop_of hx,List.map_cons,show toS (false,x) = (⟨false,rd U (i : Int)⟩ : Opng) by rw [hr];rfl];refine Ev.step (fun k => ?_) ih;rw [impl_Ending_openings.l0,if_pos (by omega),if_pos (by omega),if_pos (by omega),if_pos (by omega),wrapS (i := (i : Int) + 1) (by omega) (by omega),cast_succ]
theorem open_ev (C L : List Int) (hC : C.length ≤ 1048576) (hL : L.length ≤ 1048576) : Ev (fun k => impl_Ending_openings.f k C L) ((opens C L).map toS) := by
  have hu := uniq_le C;have h := open_l0 (uniq C) C L (by omega) hL (uniq C).length 0 [] (by omega) (by simp;omega);rw [List.drop_zero,List.nil_append] at h;unfold opens;rw [List.map_append,List.map_map,List.map_map];refine Ev.congr (fun k => ?_) h;unfold impl_Ending_openings.f slices_Clone_int64_int64.f slices_Compact_int64_int64.f;rw [if_pos (by omega),Option.bind_some,if_pos (by omega),Option.bind_some]
  rfl
theorem key_l1 (U : List Int) (hU : U.length ≤ 1048576) : ∀ (d i : Nat) (acc : List Int), i + d = U.length → acc.length + d ≤ 100000000 → Ev (fun k => impl_Ending_key.l1 k acc U (U.length : Int) (i : Int)) (strOfNums (acc ++ (U.drop i).map (fun b => b % 256)))
  | 0,i,acc,hd,ha => by
    rw [List.drop_of_length_le (by omega),List.map_nil,List.append_nil];refine Ev.step (f := fun _ => some _) (fun k => ?_) (Ev.now _);rw [impl_Ending_key.l1,if_neg (by omega)]
  | d + 1,i,acc,hd,ha => by
    obtain ⟨x,hx⟩ := get_some (xs := U) (i := i) (by omega);have ih := key_l1 U hU d (i + 1) (acc ++ [rd U (i : Int) % 256]) (by omega) (by rw [List.length_append,List.length_singleton];omega);have hr : rd U (i : Int) = x := by rw [rd_nat,getD_of hx]
    rw [List.append_assoc] at ih;rw [drop_of hx,List.map_cons,← hr];refine Ev.step (fun k => ?_) ih;rw [impl_Ending_key.l1,if_pos (by omega),if_pos (by omega),if_pos (by omega),if_pos (by omega),wrapS (i := (i : Int) + 1) (by omega) (by omega),cast_succ]
theorem key_l0 (U C L : List Int) (hU : U.length ≤ 1048576) (hL : L.length ≤ 1048576) : ∀ (d i : Nat) (acc : List Int), i + d = U.length → acc.length + d ≤ 50000000 → Ev (fun k => impl_Ending_key.l0 k acc U (U.length : Int) (i : Int) C L) (strOfNums ((acc ++ (U.drop i).map (fun b => b % 256)) ++ 255 :: L.map (fun b => b % 256)))
  | 0,i,acc,hd,ha => by
    rw [List.drop_of_length_le (by omega),List.map_nil,List.append_nil];have h := key_l1 L hL L.length 0 (acc ++ [255]) (by omega) (by rw [List.length_append,List.length_singleton];omega);rw [List.drop_zero,List.append_assoc] at h;refine Ev.step (fun k => ?_) h;rw [impl_Ending_key.l0,if_neg (by omega),if_pos (by omega)]
    rfl
  | d + 1,i,acc,hd,ha => by
    obtain ⟨x,hx⟩ := get_some (xs := U) (i := i) (by omega);have ih := key_l0 U C L hU hL d (i + 1) (acc ++ [rd U (i : Int) % 256]) (by omega) (by rw [List.length_append,List.length_singleton];omega);have hr : rd U (i : Int) = x := by rw [rd_nat,getD_of hx]
    rw [List.append_assoc acc] at ih;rw [drop_of hx,List.map_cons,← hr];refine Ev.step (fun k => ?_) ih;rw [impl_Ending_key.l0,if_pos (by omega),if_pos (by omega),if_pos (by omega),if_pos (by omega),wrapS (i := (i : Int) + 1) (by omega) (by omega),cast_succ]
def keyS (C L : List Int) : ByteArray := strOfNums (C.map (fun b => b % 256) ++ 255 :: L.map (fun b => b % 256))
theorem key_ev (C L : List Int) (hC : C.length ≤ 1048576) (hL : L.length ≤ 1048576) : Ev (fun k => impl_Ending_key.f k C L) (keyS C L) := by
  have h := key_l0 C C L hC hL C.length 0 [] (by omega) (by simp;omega);rw [List.drop_zero,List.nil_append] at h;exact h
theorem map_mod {xs : List Int} (h : okI xs) : xs.map (fun b => b % 256) = xs := by
  have : xs.map (fun b => b % 256) = xs.map id := List.map_congr_left (fun x hx => by have := h x hx;show x % 256 = x;omega);rw [this,List.map_id]
theorem keyS_list {C L : List Int} (hC : okI C) (hL : okI L) : (keyS C L).data.toList = keyL C L := by
  unfold keyS keyL;rw [map_mod hC,map_mod hL,strOfNums_data,List.map_append,List.map_cons]
  rfl
theorem keyS_size (C L : List Int) : (keyS C L).size = C.length + L.length + 1 := by
  unfold keyS;rw [strOfNums_size]
  simp
  omega
theorem index_loop (xs : List Int) (x : Int) (hl : xs.length ≤ 1000) : ∀ (d i : Nat), i + d = xs.length → x ∈ xs.drop i → ∃ j : Nat, j < xs.length ∧ xs.take j ++ xs.drop (j + 1) = xs.take i ++ (xs.drop i).erase x ∧ Ev (fun k => slices_Index_int64_int64.l0 k xs x (xs.length : Int) (i : Int)) (j : Int)
  | 0,i,hd,hm => by rw [List.drop_of_length_le (by omega)] at hm;cases hm
  | d + 1,i,hd,hm => by
    obtain ⟨y,hy⟩ := get_some (xs := xs) (i := i) (by omega);rw [drop_of hy] at hm ⊢;have er : rd xs (i : Int) = y := by rw [rd_nat,getD_of hy]
    by_cases c : x = y
    · subst c
      refine ⟨i,by omega,by rw [List.erase_cons_head],?_⟩;refine Ev.step (f := fun _ => some (i : Int)) (fun k => ?_) (Ev.now _);rw [slices_Index_int64_int64.l0,if_pos (by omega),if_pos (by omega),if_pos (by omega),if_pos er.symm]
    · have hm2 : x ∈ xs.drop (i + 1) := by
        rcases List.mem_cons.1 hm with h | h
        · exact absurd h c
        · exact h
      obtain ⟨j,h1,h2,h3⟩ := index_loop xs x hl d (i + 1) (by omega) hm2;refine ⟨j,h1,?_,?_⟩
      · rw [h2,List.erase_cons_tail (by simpa using fun e => c e.symm),List.take_add_one,hy,List.append_assoc];rfl
      · refine Ev.step (fun k => ?_) h3
        rw [slices_Index_int64_int64.l0,if_pos (by omega),if_pos (by omega),if_pos (by omega),er,if_neg c,wrapS (i := (i : Int) + 1) (by omega) (by omega),cast_succ]
theorem index_ev (xs : List Int) (x : Int) (hl : xs.length ≤ 1000) (hm : x ∈ xs) : ∃ j : Nat, j < xs.length ∧ xs.take j ++ xs.drop (j + 1) = xs.erase x ∧ Ev (fun k => slices_Index_int64_int64.f k xs x) (j : Int) := by
  obtain ⟨j,h1,h2,h3⟩ := index_loop xs x hl xs.length 0 (by omega) (by rw [List.drop_zero];exact hm);exact ⟨j,h1,by rw [h2];simp,h3⟩
theorem without_ev (C L : List Int) (o : Bool × Int) (hC : C.length ≤ 1000) (hL : L.length ≤ 1000) (ho : o ∈ opens C L) : Ev (fun k => impl_Ending_without.f k C L o.1 o.2) (lessC C o, lessL L o) := by
  rw [opens_mem] at ho;unfold lessC lessL impl_Ending_without.f
  by_cases c : o.1 = true
  · rw [if_pos c] at ho
    rw [if_pos c,if_pos c];obtain ⟨j,h1,h2,h3⟩ := index_ev L o.2 hL ho;refine Ev.congr (fun k => if_pos c) ?_;unfold without_true.f slices_Clone_int64_int64.f;rw [if_pos (by omega),if_pos (by omega)];refine Ev.congr (f := fun k => (slices_Index_int64_int64.f k L o.2).bind fun tI => (cutAt L tI).bind fun tD => some (C,tD)) (fun k => rfl) (Ev.bind h3 ?_);refine Ev.congr (f := fun _ => some (C,L.erase o.2)) (fun k => ?_) (Ev.now _);unfold cutAt;rw [if_pos (by omega),if_pos (by omega),if_pos (by omega),Int.toNat_natCast,h2]
    rfl
  · rw [if_neg c] at ho
    rw [if_neg c,if_neg c];obtain ⟨j,h1,h2,h3⟩ := index_ev C o.2 hC ho;refine Ev.congr (fun k => if_neg c) ?_;unfold without_false.f slices_Clone_int64_int64.f;rw [if_pos (by omega),if_pos (by omega)];refine Ev.congr (f := fun k => (slices_Index_int64_int64.f k C o.2).bind fun tI => (cutAt C tI).bind fun tD => some (tD,L)) (fun k => rfl) (Ev.bind h3 ?_);refine Ev.congr (f := fun _ => some (C.erase o.2,L)) (fun k => ?_) (Ev.now _);unfold cutAt;rw [if_pos (by omega),if_pos (by omega),if_pos (by omega),Int.toNat_natCast,h2]
    rfl
def moreO (o : Bool × Int) : Int := o.2 - (if o.1 = true then 8 else 4)
def okO (o : Bool × Int) : Bool := o.1 || decide (3 ≤ o.2)
theorem sparing_of (o : Bool × Int) (h : 1 ≤ o.2 ∧ o.2 ≤ 30) : impl_opening_sparing.f o.1 o.2 = some (moreO o, okO o) := by
  unfold impl_opening_sparing.f moreO okO;obtain ⟨l,b⟩ := o
  cases l with
  | true => rw [if_pos rfl,if_pos rfl,wrapS (by show _ ≤ b - 8;have := h.1;simp only at this;omega) (by show b - 8 < _;have := h.2;simp only at this;omega)];rfl
  | false => rw [if_neg Bool.false_ne_true,if_neg Bool.false_ne_true,wrapS (by show _ ≤ b - 4;have := h.1;simp only at this;omega) (by show b - 4 < _;have := h.2;simp only at this;omega)];rfl
theorem ansOf_ok {o : Bool × Int} {r : Int} (h1 : okO o = true) (h2 : r - moreO o < -o.2 - r) : ansOf o r = (r - moreO o, true) := by
  unfold ansOf;rw [if_pos ⟨by unfold okO at h1;simpa using h1,h2⟩]
  rfl
theorem ansOf_no {o : Bool × Int} {r : Int} (h : okO o = false ∨ ¬ r - moreO o < -o.2 - r) : ansOf o r = (-o.2 - r, false) := by
  unfold ansOf;refine if_neg (fun hh => ?_);rcases h with h | h
  · have : okO o = true := by unfold okO;simpa using hh.1
    rw [h] at this;cases this
  · exact h hh.2
theorem opens_size {C L : List Int} (hC : okC C) (hL : okL L) {o : Bool × Int} (ho : o ∈ opens C L) : 1 ≤ o.2 ∧ o.2 ≤ 30 := by
  rw [opens_mem] at ho
  by_cases c : o.1 = true
  · rw [if_pos c] at ho;have := hL _ ho;omega
  · rw [if_neg c] at ho;exact hC _ ho
theorem rest_le {C L : List Int} (hC : okC C) (hL : okL L) (h8 : C.length + L.length ≤ 8) {o : Bool × Int} (ho : o ∈ opens C L) : -240 ≤ val (lessC C o) (lessL L o) ∧ val (lessC C o) (lessL L o) ≤ 240 := by
  have hl := less_len ho;have h1 := val_le (C := lessC C o) (L := lessL L o) (fun x hx => hC x (lessC_mem hx)) (fun x hx => hL x (lessL_mem hx)) _ rfl;omega
theorem less_okC {C : List Int} {o : Bool × Int} (h : okC C) : okC (lessC C o) := fun x hx => h x (lessC_mem hx)
theorem less_okL {L : List Int} {o : Bool × Int} (h : okL L) : okL (lessL L o) := fun x hx => h x (lessL_mem hx)
theorem wr_copy1 (C0 C L : List Int) (x : Int) (l f : Bool) (h : l = false ∨ f = true) (hL : L.length ≤ 1000) : ∀ (d i : Nat) (acc : List Int), i + d = L.length → acc.length + d ≤ 1000 → Ev (fun k => spec_l04Without.l1 k l x f (i : Int) C L C0 acc) (C0, acc ++ L.drop i, f)
  | 0,i,acc,hd,ha => by
    rw [List.drop_of_length_le (by omega),List.append_nil];refine Ev.step (f := fun _ => some _) (fun k => ?_) (Ev.now _);rw [spec_l04Without.l1,if_neg (by omega)]
  | d + 1,i,acc,hd,ha => by
    obtain ⟨y,hy⟩ := get_some (xs := L) (i := i) (by omega);have er : rd L (i : Int) = y := by rw [rd_nat,getD_of hy]
    have ih := wr_copy1 C0 C L x l f h hL d (i + 1) (acc ++ [y]) (by omega) (by rw [List.length_append,List.length_singleton];omega);rw [List.append_assoc] at ih;rw [drop_of hy];refine Ev.step (fun k => ?_) ih;rw [spec_l04Without.l1,if_pos (by omega),er,wrapS (i := (i : Int) + 1) (by omega) (by omega),cast_succ]
    by_cases c : l = true
    · rw [if_pos c,if_pos (h.resolve_left (by rw [c];decide)),if_pos (by omega),if_pos (by omega)]
    · rw [if_neg c,if_pos (by omega),if_pos (by omega)]
theorem wr_find1 (C0 C L : List Int) (x : Int) (hL : L.length ≤ 1000) : ∀ (d i : Nat) (acc : List Int), i + d = L.length → acc.length + d ≤ 1000 → Ev (fun k => spec_l04Without.l1 k true x false (i : Int) C L C0 acc) (C0, acc ++ (L.drop i).erase x, decide (x ∈ L.drop i))
  | 0,i,acc,hd,ha => by
    rw [List.drop_of_length_le (by omega),List.erase_nil,List.append_nil];refine Ev.step (f := fun _ => some _) (fun k => ?_) (Ev.now _);rw [spec_l04Without.l1,if_neg (by omega)]
    rfl
  | d + 1,i,acc,hd,ha => by
    obtain ⟨y,hy⟩ := get_some (xs := L) (i := i) (by omega);have er : rd L (i : Int) = y := by rw [rd_nat,getD_of hy]
    rw [drop_of hy]
    by_cases c : y = x
    · subst c
      rw [List.erase_cons_head,decide_eq_true List.mem_cons_self];have ih := wr_copy1 C0 C L y true true (.inr rfl) hL d (i + 1) acc (by omega) (by omega);refine Ev.step (fun k => ?_) ih;rw [spec_l04Without.l1,if_pos (by omega),if_pos rfl,if_neg Bool.false_ne_true,if_pos (by omega),er,if_pos rfl,wrapS (i := (i : Int) + 1) (by omega) (by omega),cast_succ]
    · have ih := wr_find1 C0 C L x hL d (i + 1) (acc ++ [y]) (by omega) (by rw [List.length_append,List.length_singleton];omega)
      rw [List.append_assoc] at ih;rw [List.erase_cons_tail (by simpa using c),decide_eq_decide.2 (show x ∈ y :: L.drop (i + 1) ↔ x ∈ L.drop (i + 1) from ⟨fun h => (List.mem_cons.1 h).resolve_left (fun e => c e.symm),fun h => List.mem_cons_of_mem _ h⟩)];refine Ev.step (fun k => ?_) ih;rw [spec_l04Without.l1,if_pos (by omega),if_pos rfl,if_neg Bool.false_ne_true,if_pos (by omega),er,if_neg c,if_pos (by omega),wrapS (i := (i : Int) + 1) (by omega) (by omega),cast_succ]
theorem wr_copy0 (C L : List Int) (x : Int) (l f : Bool) (h : l = true ∨ f = true) (hC : C.length ≤ 1000) (r : List Int × List Int × Bool) : ∀ (d i : Nat) (acc : List Int), i + d = C.length → acc.length + d ≤ 1000 → Ev (fun k => spec_l04Without.l1 k l x f 0 C L (acc ++ C.drop i) []) r → Ev (fun k => spec_l04Without.l0 k l x f (i : Int) C L acc []) r
  | 0,i,acc,hd,ha,hk => by
    rw [List.drop_of_length_le (by omega),List.append_nil] at hk;refine Ev.step (fun k => ?_) hk;rw [spec_l04Without.l0,if_neg (by omega)]
  | d + 1,i,acc,hd,ha,hk => by
    obtain ⟨y,hy⟩ := get_some (xs := C) (i := i) (by omega);have er : rd C (i : Int) = y := by rw [rd_nat,getD_of hy]
    rw [drop_of hy] at hk;have ih := wr_copy0 C L x l f h hC r d (i + 1) (acc ++ [y]) (by omega) (by rw [List.length_append,List.length_singleton];omega) (by rw [List.append_assoc];exact hk);refine Ev.step (fun k => ?_) ih;rw [spec_l04Without.l0,if_pos (by omega),er,wrapS (i := (i : Int) + 1) (by omega) (by omega),cast_succ]
    by_cases c : l = true
    · rw [if_pos c,if_pos (by omega),if_pos (by omega)]
    · rw [if_neg c,if_pos (h.resolve_left c),if_pos (by omega),if_pos (by omega)]
theorem wr_find0 (C L : List Int) (x : Int) (hC : C.length ≤ 1000) (r : List Int × List Int × Bool) : ∀ (d i : Nat) (acc : List Int), i + d = C.length → acc.length + d ≤ 1000 → Ev (fun k => spec_l04Without.l1 k false x (decide (x ∈ C.drop i)) 0 C L (acc ++ (C.drop i).erase x) []) r → Ev (fun k => spec_l04Without.l0 k false x false (i : Int) C L acc []) r
  | 0,i,acc,hd,ha,hk => by
    rw [List.drop_of_length_le (by omega),List.erase_nil,List.append_nil] at hk;refine Ev.step (fun k => ?_) hk;rw [spec_l04Without.l0,if_neg (by omega)]
    rfl
  | d + 1,i,acc,hd,ha,hk => by
    obtain ⟨y,hy⟩ := get_some (xs := C) (i := i) (by omega);have er : rd C (i : Int) = y := by rw [rd_nat,getD_of hy]
    rw [drop_of hy] at hk
    by_cases c : y = x
    · subst c
      rw [List.erase_cons_head,decide_eq_true List.mem_cons_self] at hk;have ih := wr_copy0 C L y false true (.inr rfl) hC r d (i + 1) acc (by omega) (by omega) hk;refine Ev.step (fun k => ?_) ih;rw [spec_l04Without.l0,if_pos (by omega),if_neg Bool.false_ne_true,if_neg Bool.false_ne_true,if_pos (by omega),er,if_pos rfl,wrapS (i := (i : Int) + 1) (by omega) (by omega),cast_succ]
    · rw [List.erase_cons_tail (by simpa using c),decide_eq_decide.2 (show x ∈ y :: C.drop (i + 1) ↔ x ∈ C.drop (i + 1) from ⟨fun h => (List.mem_cons.1 h).resolve_left (fun e => c e.symm),fun h => List.mem_cons_of_mem _ h⟩)] at hk
      have ih := wr_find0 C L x hC r d (i + 1) (acc ++ [y]) (by omega) (by rw [List.length_append,List.length_singleton];omega) (by rw [List.append_assoc];exact hk);refine Ev.step (fun k => ?_) ih;rw [spec_l04Without.l0,if_pos (by omega),if_neg Bool.false_ne_true,if_neg Bool.false_ne_true,if_pos (by omega),er,if_neg c,if_pos (by omega),wrapS (i := (i : Int) + 1) (by omega) (by omega),cast_succ]
def isIn (C L : List Int) (o : Bool × Int) : Bool := if o.1 = true then decide (o.2 ∈ L) else decide (o.2 ∈ C)
theorem isIn_opens {C L : List Int} {o : Bool × Int} : isIn C L o = true ↔ o ∈ opens C L := by
  rw [opens_mem];unfold isIn
  by_cases c : o.1 = true
  · rw [if_pos c,if_pos c,decide_eq_true_eq]
  · rw [if_neg c,if_neg c,decide_eq_true_eq]
theorem withoutR_ev (C L : List Int) (o : Bool × Int) (hC : C.length ≤ 1000) (hL : L.length ≤ 1000) : Ev (fun k => spec_l04Without.f k C L o.1 o.2) (lessC C o, lessL L o, isIn C L o) := by
  obtain ⟨l,x⟩ := o;unfold spec_l04Without.f lessC lessL isIn
  cases l with
  | true =>
    rw [if_pos rfl,if_pos rfl,if_pos rfl];have h1 := wr_find1 C C L x hL L.length 0 [] (by omega) (by simp;omega);rw [List.drop_zero,List.nil_append] at h1;exact wr_copy0 C L x true false (.inl rfl) hC _ C.length 0 [] (by omega) (by simp;omega) (by rw [List.drop_zero,List.nil_append];exact h1)
  | false =>
    rw [if_neg Bool.false_ne_true,if_neg Bool.false_ne_true,if_neg Bool.false_ne_true];have h1 := wr_copy1 (C.erase x) C L x false (decide (x ∈ C)) (.inl rfl) hL L.length 0 [] (by omega) (by simp;omega);rw [List.drop_zero,List.nil_append] at h1;exact wr_find0 C L x hC _ C.length 0 [] (by omega) (by simp;omega) (by rw [List.drop_zero,List.nil_append];exact h1)
theorem answerR_eq (o : Bool × Int) (v : Int) (h : 1 ≤ o.2 ∧ o.2 ≤ 30) (hv : -240 ≤ v ∧ v ≤ 240) : spec_l04Answer.f o.1 o.2 v = some (-(ansOf o v).1, (ansOf o v).2) := by
  obtain ⟨l,b⟩ := o;simp only at h;unfold spec_l04Answer.f spec_l04Taker.f;simp only;have w1 : wrap64 (b + v) = b + v := wrapS (by omega) (by omega)
  cases l with
  | true =>
    have w2 : wrap64 (b - 8) = b - 8 := wrapS (by omega) (by omega);have w3 : wrap64 (b - 8 - v) = b - 8 - v := wrapS (by omega) (by omega);rw [if_pos rfl,Option.bind_some,w1,w2,w3,if_pos rfl];have hok : okO (true,b) = true := rfl
    by_cases c : b - 8 - v > b + v
    · rw [if_pos c,ansOf_ok hok (show v - (b - 8) < -b - v by omega)]
      show some (b - 8 - v,true) = some (-(v - (b - 8)),true);rw [show -(v - (b - 8)) = b - 8 - v by omega]
    · rw [if_neg c,ansOf_no (.inr (show ¬ v - (b - 8) < -b - v by omega))]
      show some (b + v,false) = some (-(-b - v),false);rw [show -(-b - v) = b + v by omega]
  | false =>
    have w2 : wrap64 (b - 4) = b - 4 := wrapS (by omega) (by omega);have w3 : wrap64 (b - 4 - v) = b - 4 - v := wrapS (by omega) (by omega);rw [if_neg Bool.false_ne_true,Option.bind_some,w1,w2,w3]
    by_cases c0 : 3 ≤ b
    · have hok : okO (false,b) = true := by unfold okO;simp [c0]
      rw [if_pos (decide_eq_true (show b > 2 by omega))]
      by_cases c : b - 4 - v > b + v
      · rw [if_pos c,ansOf_ok hok (show v - (b - 4) < -b - v by omega)]
        show some (b - 4 - v,true) = some (-(v - (b - 4)),true);rw [show -(v - (b - 4)) = b - 4 - v by omega]
      · rw [if_neg c,ansOf_no (.inr (show ¬ v - (b - 4) < -b - v by omega))]
        show some (b + v,false) = some (-(-b - v),false);rw [show -(-b - v) = b + v by omega]
    · have hok : okO (false,b) = false := by unfold okO;simp;omega
      rw [if_neg (by rw [decide_eq_true_eq];omega),ansOf_no (.inl hok)];show some (b + v,false) = some (-(-b - v),false);rw [show -(-b - v) = b + v by omega]
def wf (C L : List Int) : Bool × Int → Int := fun o => (worth C L o).1
theorem foldl_snoc_map (f : Bool × Int → Int) (s : Int × Bool × Int) (l : Bool) (xs : List Int) (x : Int) : ((xs ++ [x]).map (fun b => (l, b))).foldl (stepO f) s = stepO f ((xs.map (fun b => (l, b))).foldl (stepO f) s) (l, x) := by
  rw [List.map_append,List.foldl_append];rfl
section
variable {V : List Int → List Int → Option Int} {C L : List Int} (hC : okC C) (hL : okL L) (h8 : C.length + L.length ≤ 8) (hV : ∀ o ∈ opens C L, V (lessC C o) (lessL L o) = some (val (lessC C o) (lessL L o)))
include hC hL h8 hV in
theorem openV_l1 (X : List Int) (l : Bool) (x8 : Int) (h18 : x8 = 0 ∨ x8 = 1) (hl : l = (x8 == 1)) (hX : ∀ x ∈ X, (l, x) ∈ opens C L) (hXl : X.length ≤ 8) (s0 : Int × Bool × Int) (r : Bool × Int × Int)
    (hk : Ev (fun k => openV.l0 V k (((uniq X).map (fun b => (l,b))).foldl (stepO (wf C L)) s0).1 (((uniq X).map (fun b => (l,b))).foldl (stepO (wf C L)) s0).2.1 (((uniq X).map (fun b => (l,b))).foldl (stepO (wf C L)) s0).2.2 (x8 + 1) C L) r) :
    ∀ (d i : Nat) (s : Int × Bool × Int),s = ((uniqTo X i).map (fun b => (l,b))).foldl (stepO (wf C L)) s0 → i + d = X.length → Ev (fun k => openV.l1 V k s.1 s.2.1 s.2.2 x8 X (i : Int) C L) r
  | 0,i,s,hs,hd => by
    have hi : i = X.length := by omega
    have e : s = ((uniq X).map (fun b => (l,b))).foldl (stepO (wf C L)) s0 := by rw [hs,hi];rfl
    rw [e];refine Ev.step (fun k => ?_) hk;rw [openV.l1,if_neg (by omega),wrapS (i := x8 + 1) (by omega) (by omega)]
  | d + 1,i,s,hs,hd => by
    have hlt : i < X.length := by omega
    obtain ⟨x,hx⟩ := get_some (xs := X) (i := i) hlt;have er : rd X (i : Int) = x := by rw [rd_nat,getD_of hx]
    have hm := hX x (List.mem_of_getElem? hx);have hsz := opens_size hC hL hm;have hr := rest_le hC hL h8 hm;have a1 : (i : Int) < (X.length : Int) := by omega
    have a0 : (0 : Int) ≤ (i : Int) := Int.natCast_nonneg i;have hw2 : wrap64 ((i : Int) + 1) = ((i + 1 : Nat) : Int) := by rw [wrapS (by omega) (by omega),cast_succ]
    -- what j3 does
    have hj3 : ∀ b,(b = !(keepAt X i)) → Ev (fun k => openV.j3 V k s.1 s.2.1 s.2.2 x8 X (i : Int) b C L) r := by
      intro b hb
      cases hkp : keepAt X i with
      | false =>
        rw [hkp] at hb;subst hb;have ih := openV_l1 X l x8 h18 hl hX hXl s0 r hk d (i + 1) s (by rw [hs,uniqTo_skip hkp]) (by omega);refine Ev.step (fun k => ?_) ih;rw [openV.j3,if_pos (show (!false) = true from rfl),hw2]
      | true =>
        rw [hkp] at hb;subst hb;have ih := openV_l1 X l x8 h18 hl hX hXl s0 r hk d (i + 1) (stepO (wf C L) s (l,x)) (by rw [uniqTo_keep hx hkp,foldl_snoc_map,← hs]) (by omega);have hw := withoutR_ev C L (l,x) (by omega) (by omega);have hval := hV (l,x) hm;have hans := answerR_eq (l,x) (val (lessC C (l,x)) (lessL L (l,x))) hsz hr;have hworth : (wf C L) (l,x) = (ansOf (l,x) (val (lessC C (l,x)) (lessL L (l,x)))).1 := rfl;have hb := worth_le hC hL h8 hm;have hneg : wrap64 (-(-(ansOf (l,x) (val (lessC C (l,x)) (lessL L (l,x)))).1)) = (wf C L) (l,x) := by
          rw [Int.neg_neg,← hworth];have hb' : -240 ≤ (wf C L) (l,x) ∧ (wf C L) (l,x) ≤ 240 := hb;exact wrapS (by omega) (by omega)
        refine Ev.step (f := fun k => (spec_l04Without.f k C L l x).bind fun bt412 => ((V bt412.1 bt412.2.1).bind fun t421 => ((spec_l04Answer.f l x t421).bind fun bt422 => (if s.2.2 = 0 then (openV.l1 V k (wrap64 (-bt422.1)) l x x8 X ((i + 1 : Nat) : Int) C L) else (if (wrap64 (-bt422.1)) > s.1 then (openV.l1 V k (wrap64 (-bt422.1)) l x x8 X ((i + 1 : Nat) : Int) C L) else (openV.l1 V k s.1 s.2.1 s.2.2 x8 X ((i + 1 : Nat) : Int) C L)))))) (fun k => ?_) (Ev.bind hw ?_)
        · rw [openV.j3,if_neg (show ¬ (!true) = true by decide),if_pos a0,if_pos a1,er,hw2,← hl]
        · refine Ev.congr (fun k => ?_) ih
          show (V (lessC C (l,x)) (lessL L (l,x))).bind _ = _;rw [hval,Option.bind_some,hans,Option.bind_some,hneg];unfold stepO
          by_cases c1 : s.2.2 = 0
          · rw [if_pos c1,if_pos (.inl c1)]
          · rw [if_neg c1]
            by_cases c2 : (wf C L) (l,x) > s.1
            · rw [if_pos c2,if_pos (.inr c2)]
            · rw [if_neg c2,if_neg (by rintro (h | h);exact c1 h;exact c2 h)]
    by_cases ci : i = 0
    · subst ci
      refine Ev.step (fun k => ?_) (hj3 false (by unfold keepAt;rfl));rw [openV.l1,if_pos a1,if_neg (by omega)]
    · obtain ⟨y,hy⟩ := get_some (xs := X) (i := i - 1) (by omega)
      have hm1 : wrap64 ((i : Int) - 1) = ((i - 1 : Nat) : Int) := by rw [wrapS (by omega) (by omega)];omega
      have ey : rd X ((i - 1 : Nat) : Int) = y := by rw [rd_nat,getD_of hy]
      refine Ev.step (fun k => ?_) (hj3 (x == y) (by rw [keepAt_eq (by omega) hx hy,Bool.not_not]));rw [openV.l1,if_pos a1,if_pos (by omega),if_pos a0,hm1,if_pos (by omega),if_pos (by omega),er,ey]
include hC hL h8 hV in
theorem openV_ev0 : Ev (fun k => openV.f V k C L) (((opens C L).foldl (stepO (wf C L)) (0, false, 0)).2.1, ((opens C L).foldl (stepO (wf C L)) (0, false, 0)).2.2, ((opens C L).foldl (stepO (wf C L)) (0, false, 0)).1) := by
  unfold openV.f;have hCm : ∀ x ∈ C,(false,x) ∈ opens C L := fun x hx => opens_mem.2 (by rw [if_neg Bool.false_ne_true];exact hx)
  have hLm : ∀ x ∈ L,(true,x) ∈ opens C L := fun x hx => opens_mem.2 (by rw [if_pos rfl];exact hx)
  have eq : (opens C L).foldl (stepO (wf C L)) (0,false,0) = ((uniq L).map (fun b => (true,b))).foldl (stepO (wf C L)) (((uniq C).map (fun b => (false,b))).foldl (stepO (wf C L)) (0,false,0)) := by
    unfold opens;rw [List.foldl_append]
  rw [eq]
  generalize hs1 : ((uniq C).map (fun b => (false,b))).foldl (stepO (wf C L)) (0,false,0) = s1
  generalize hs2 : ((uniq L).map (fun b => (true,b))).foldl (stepO (wf C L)) s1 = s2
  have e2 : Ev (fun k => openV.l0 V k s2.1 s2.2.1 s2.2.2 2 C L) (s2.2.1,s2.2.2,s2.1) := by
    refine Ev.step (f := fun _ => some _) (fun k => ?_) (Ev.now _);rw [openV.l0,if_neg (by decide)]
  have e1 := openV_l1 hC hL h8 hV L true 1 (.inr rfl) rfl hLm (by omega) s1 (s2.2.1,s2.2.2,s2.1) (by rw [hs2];exact e2) L.length 0 s1 rfl (by omega);have e1' : Ev (fun k => openV.l0 V k s1.1 s1.2.1 s1.2.2 1 C L) (s2.2.1,s2.2.2,s2.1) := by
    refine Ev.step (f := fun k => openV.j1 V k s1.1 s1.2.1 s1.2.2 1 L C L) (fun k => ?_) (Ev.step (fun k => ?_) e1)
    · rw [openV.l0,if_pos (by decide),if_pos rfl]
    · rw [openV.j1];rfl
  have e0 := openV_l1 hC hL h8 hV C false 0 (.inl rfl) rfl hCm (by omega) (0,false,0) (s2.2.1,s2.2.2,s2.1) (by rw [hs1];exact e1') C.length 0 (0,false,0) rfl (by omega);refine Ev.step (f := fun k => openV.j1 V k 0 false 0 0 C C L) (fun k => ?_) (Ev.step (fun k => ?_) e0)
  · rw [openV.l0,if_pos (by decide),if_neg (by decide)]
  · rw [openV.j1];rfl
include hC hL h8 hV in
/-- The best opening is the first one that is worth the value. -/
theorem openV_ev (hne : ¬(C = [] ∧ L = [])) : ∃ o, (opens C L).find? (fun q => (worth C L q).1 == val C L) = some o ∧ (worth C L o).1 = val C L ∧ Ev (fun k => openV.f V k C L) (o.1, o.2, val C L) := by
  have h0 := openV_ev0 hC hL h8 hV;obtain ⟨o,h1,h2,h3⟩ := stepO_best (wf C L) (opens C L) (fun e => hne (opens_nil.1 e)) (fun q hq => ⟨(opens_size hC hL hq).1,by have := worth_le hC hL h8 hq;show -1000 < (worth C L q).1;omega⟩);have hv : val C L = (wf C L) o := by rw [val_eq hne];exact h3
  rw [h1] at h0;refine ⟨o,?_,hv.symm,?_⟩
  · rw [hv];exact h2
  · rw [hv];exact h0
end
def okCb (C : List Int) : Bool := C.all fun x => decide (1 ≤ x) && decide (x ≤ 30)
def okLb (L : List Int) : Bool := L.all fun x => decide (4 ≤ x) && decide (x ≤ 30)
theorem okCb_iff {C : List Int} : okCb C = true ↔ okC C := by
 unfold okCb okC
 simp [List.all_eq_true]
theorem okLb_iff {L : List Int} : okLb L = true ↔ okL L := by
 unfold okLb okL
 simp [List.all_eq_true]
def fV (s : Nat) (C L : List Int) : Option Int := if okCb C = true ∧ okLb L = true ∧ C.length + L.length ≤ s then some (val C L) else none
theorem fV_of {s : Nat} {C L : List Int} (hC : okC C) (hL : okL L) (hs : C.length + L.length ≤ s) : fV s C L = some (val C L) := if_pos ⟨okCb_iff.2 hC, okLb_iff.2 hL, hs⟩
theorem fV_some {s : Nat} {C L : List Int} {r : Int} (h : fV s C L = some r) : okC C ∧ okL L ∧ C.length + L.length ≤ s ∧ r = val C L := by
 unfold fV at h
 split at h
 ·rename_i hh;exact ⟨okCb_iff.1 hh.1,okLb_iff.1 hh.2.1,hh.2.2,(Option.some.inj h).symm⟩
 ·cases h
abbrev ValOk (s : Nat) : Prop := ∀ (A0 : Option Addr) (c0 : Nat) (C : List Int) (A1 : Option Addr) (c1 : Nat) (L : List Int) (r : Int) (w : World), Kd.C (Kd.int .i64) w A0 C.length C → C.length ≤ c0 → Kd.C (Kd.int .i64) w A1 L.length L → L.length ≤ c1 → fV s C L = some r → Calls Try.prog 75 #[.agg #[.slice A0 C.length c0, .slice A1 L.length c1]] w fun e w' => e = .returned (.int .i64 r) ∧ Below w.heap.size w w'
set_option maxHeartbeats 16000000 in
set_option maxRecDepth 100000 in
theorem val_step (s : Nat) (h8 : s ≤ 8) (ih : ∀ t, t + 1 = s → ValOk t) : ValOk s := by
 intro A0 c0 C A1 c1 L r w hr0 hc0 hr1 hc1 h;obtain ⟨hC,hL,hs,rfl⟩ := fV_some h;clear h;have hu27 := Try.underlying27;have HR0 := aK hr0;have HC0 := aK hc0;have HR1 := aK hr1;have HC1 := aK hc1;have HB := aK (Below.refl w.heap.size w);clear hr0 hc0 hr1 hc1;have hw : wrap64 ((C.length : Int) + (L.length : Int)) = (C.length : Int) + (L.length : Int) := by unfold wrap64;omega
 have hwk : IntKind.i64.wrap ((C.length : Int) + (L.length : Int)) = (C.length : Int) + (L.length : Int) := (i64_w _).trans hw
 by_cases he : C = [] ∧ L = []
 ·have hv : val C L = 0 := by rw [he.1,he.2];rfl
  have HVL := aK hv;have h0 : ((C.length : Int) + (L.length : Int) == 0) = true := by rw [he.1,he.2];rfl
  have h1 : (C.length : Int) + (L.length : Int) = 0 := by rw [he.1,he.2];rfl
  clear he hC hL hs ih hv;go_enter Try.func75,Try.ntmps75
  go_wp2_with (first | ((with_reducible refine gate_dst (N := 1) rfl ?_);(try (refine gate_guard (by rfl) ?_;dsimp only));refine boxE 1 #[.slice A0 C.length c0,.slice A1 L.length c1] 27 ?_;intro gbx hg w2 hbox hb;have BX := aK hbox;clear hg hbox;have n0_ := aK (below_step HB.out hb);replace HB := n0_;clear n0_ hb;have hz0 : w2.cell? ⟨gbx,0,none⟩ = some (.slice A0 C.length c0) := (blk_cell BX.out 0).trans rfl;have hf0 := blk_frozen BX.out 0;have hz1 : w2.cell? ⟨gbx,1,none⟩ = some (.slice A1 L.length c1) := (blk_cell BX.out 1).trans rfl;have hf1 := blk_frozen BX.out 1))
  go_ret;exact ⟨by rw [HVL.out];rfl,HB.out⟩
 ·have hlen : ¬ ((C.length : Int) + (L.length : Int) = 0) := by
   intro e;exact he ⟨List.eq_nil_of_length_eq_zero (by omega),List.eq_nil_of_length_eq_zero (by omega)⟩
  have h0 : ((C.length : Int) + (L.length : Int) == 0) = false := beq_eq_false_iff_ne.2 hlen;obtain ⟨t,rfl⟩ : ∃ t,s = t + 1 := ⟨s - 1,by omega⟩;have HV := aK (ih t rfl);obtain ⟨o,_,_,hev⟩ := openV_ev (V := fV t) hC hL (by omega) (fun o ho => fV_of (less_okC hC) (less_okL hL) (by have := less_len ho;omega)) he;obtain ⟨k,hk⟩ := Ev.rounds hev;have HK := aK hk;clear he hC hL hs ih hk hev;go_enter Try.func75,Try.ntmps75
  go_wp2_with (first | ((with_reducible refine gate_dst (N := 1) rfl ?_);(try (refine gate_guard (by rfl) ?_;dsimp only));refine boxE 1 #[.slice A0 C.length c0,.slice A1 L.length c1] 27 ?_;intro gbx hg w2 hbox hb;have BX := aK hbox;clear hg hbox;have n0_ := aK (below_step HB.out hb);replace HB := n0_;clear n0_ hb;have hz0 : w2.cell? ⟨gbx,0,none⟩ = some (.slice A0 C.length c0) := (blk_cell BX.out 0).trans rfl;have hf0 := blk_frozen BX.out 0;have hz1 : w2.cell? ⟨gbx,1,none⟩ = some (.slice A1 L.length c1) := (blk_cell BX.out 1).trans rfl;have hf1 := blk_frozen BX.out 1) | ((with_reducible refine gate_dst (N := 16) rfl ?_);(try (refine gate_guard (by rfl) ?_;dsimp only));refine goesE (some 16) Try.func77 #[.agg #[.slice A0 C.length c0,.slice A1 L.length c1]] ?_;(with_reducible refine (openV.calls (fV t) HV.out k _ A0 c0 C _ A1 c1 L o.1 o.2 (val C L) _ (Kd.V_mk HC0.out (Kd.C_F (Kd.heap_int .i64) (Kd.C_below HR0.out HB.out))) (Kd.V_mk HC1.out (Kd.C_F (Kd.heap_int .i64) (Kd.C_below HR1.out HB.out))) HK.out).mono ?_);rintro e w3 ⟨rfl,hb⟩;refine ⟨_,rfl,?_⟩;have n0_ := aK (below_step HB.out hb);replace HB := n0_;clear n0_ hb))
  go_ret;exact ⟨rfl,HB.out⟩
theorem val_ok : ∀ s, s ≤ 8 → ValOk s
 | 0,h => val_step 0 h (fun t ht => by omega)
 | s + 1,h => val_step (s + 1) h (fun t ht => by
  have : t = s := by omega
  subst this;exact val_ok t (by omega))
def spec_l04Value.f (C L : List Int) : Option Int := fV 8 C L
theorem spec_l04Value.calls (A0_0 : Option Addr) (c0_0 : Nat) (l0_0 : List Int) (A0_1 : Option Addr) (c0_1 : Nat) (l0_1 : List Int) (r : Int) (w : World) (hr0_0 : Kd.C (Kd.int .i64) w A0_0 l0_0.length l0_0) (hc0_0 : l0_0.length ≤ c0_0) (hr0_1 : Kd.C (Kd.int .i64) w A0_1 l0_1.length l0_1) (hc0_1 : l0_1.length ≤ c0_1) (h : spec_l04Value.f l0_0 l0_1 = some r) :
 Calls Try.prog 75 #[.agg #[.slice A0_0 l0_0.length c0_0,.slice A0_1 l0_1.length c0_1]] w fun e w' => e = .returned (.int .i64 r) ∧ Below w.heap.size w w' := val_ok 8 (Nat.le_refl _) A0_0 c0_0 l0_0 A0_1 c0_1 l0_1 r w hr0_0 hc0_0 hr0_1 hc0_1 h
def spec_l04Opening.f (k : Nat) (C L : List Int) : Option (Bool × Int × Int) := openV.f (fV 8) k C L
theorem spec_l04Opening.mono : ∀ a0 a1 k, LeO (spec_l04Opening.f k a0 a1) (spec_l04Opening.f (k + 1) a0 a1) := openV.mono (fV 8)
theorem spec_l04Opening.calls (k : Nat) (P0_0_ : Nat → Prop) (A0_0 : Option Addr) (c0_0 : Nat) (l0_0 : List Int) (P0_1_ : Nat → Prop) (A0_1 : Option Addr) (c0_1 : Nat) (l0_1 : List Int) (r1 : Bool) (r2 : Int) (r3 : Int) (w : World) (hs0_0 : Kd.V (Kd.int .i64) 2 w w.heap.size (fun k_ => P0_0_ k_) (.slice A0_0 l0_0.length c0_0) l0_0) (hs0_1 : Kd.V (Kd.int .i64) 2 w w.heap.size (fun k_ => P0_1_ k_) (.slice A0_1 l0_1.length c0_1) l0_1) (h : spec_l04Opening.f k l0_0 l0_1 = some (r1, r2, r3)) :
 Calls Try.prog 77 #[.agg #[.slice A0_0 l0_0.length c0_0,.slice A0_1 l0_1.length c0_1]] w fun e w' => e = .returned (.tuple #[.bool r1,.int .i64 r2,.int .i64 r3]) ∧ Below w.heap.size w w' := openV.calls (fV 8) (val_ok 8 (Nat.le_refl _)) k P0_0_ A0_0 c0_0 l0_0 P0_1_ A0_1 c0_1 l0_1 r1 r2 r3 w hs0_0 hs0_1 h
theorem openR_ev {C L : List Int} (hC : okC C) (hL : okL L) (h8 : C.length + L.length ≤ 8) (hne : ¬(C = [] ∧ L = [])) : ∃ o, (opens C L).find? (fun q => (worth C L q).1 == val C L) = some o ∧ (worth C L o).1 = val C L ∧ Ev (fun k => spec_l04Opening.f k C L) (o.1, o.2, val C L) :=
 openV_ev hC hL h8 (fun o ho => fV_of (less_okC hC) (less_okL hL) (by have := less_len ho;omega)) hne
/-! ### spec_BestAnswer: function 34 -/
def spec_BestAnswer.f (k : Nat) (l0_0 : List Int) (l0_1 : List Int) (a1 : Bool) (a2 : Int) : Option (Bool × Int) := (spec_l04Is.f k l0_0 l0_1).bind fun t303 => (if t303 = true then ((spec_l04Without.f k l0_0 l0_1 a1 a2).bind fun bt304 => (if bt304.2.2 = true then ((spec_l04Value.f bt304.1 bt304.2.1).bind fun t312 => ((spec_l04Answer.f a1 a2 t312).bind fun bt313 => (some (bt313.2, 0)))) else (some (false, 5)))) else (some (false, 1)))
theorem spec_BestAnswer.mono : ∀ a0 a1 a2 a3 k, LeO (spec_BestAnswer.f k a0 a1 a2 a3) (spec_BestAnswer.f (k + 1) a0 a1 a2 a3) := by
 intro a0 a1 a2 a3 k;unfold spec_BestAnswer.f
 repeat' first
  | (with_reducible exact spec_l04Is.mono _ _ _)
  | (with_reducible exact spec_l04Without.mono _ _ _ _ _)
  | (with_reducible exact LeO.refl _)
  | (with_reducible exact LeO.none _)
  | (with_reducible refine LeO.ite ?_ ?_)
  | (with_reducible refine LeO.bind ?_ (fun _ => ?_))
  | exact spec_l04Is.mono _ _ _
  | exact spec_l04Without.mono _ _ _ _ _
  | exact LeO.none _
  | refine LeO.ite ?_ ?_
  | refine LeO.bind ?_ (fun _ => ?_)
set_option maxHeartbeats 8000000 in
set_option maxRecDepth 100000 in
theorem spec_BestAnswer.calls (k : Nat) (A0_0 : Option Addr) (c0_0 : Nat) (l0_0 : List Int) (A0_1 : Option Addr) (c0_1 : Nat) (l0_1 : List Int) (a1 : Bool) (a2 : Int) (r1 : Bool) (r2 : Int) (w : World) (hr0_0 : Kd.C (Kd.int .i64) w A0_0 l0_0.length l0_0) (hc0_0 : l0_0.length ≤ c0_0) (hr0_1 : Kd.C (Kd.int .i64) w A0_1 l0_1.length l0_1) (hc0_1 : l0_1.length ≤ c0_1) (h : spec_BestAnswer.f k l0_0 l0_1 a1 a2 = some (r1, r2)) :
 Calls Try.prog 34 #[.agg #[.slice A0_0 l0_0.length c0_0,.slice A0_1 l0_1.length c0_1],.bool a1,.int .i64 a2] w fun e w' => e = .returned (.tuple #[.bool r1,.int .i64 r2]) ∧ Below w.heap.size w w' := by
 have hu27 := Try.underlying27;have HR0_0 := aK hr0_0;have HC0_0 := aK hc0_0;clear hr0_0 hc0_0;have HR0_1 := aK hr0_1;have HC0_1 := aK hc0_1;clear hr0_1 hc0_1;have HB := aK (Below.refl w.heap.size w);have H := h;clear h;unfold spec_BestAnswer.f at H;replace H := bE H;obtain ⟨t303,A4,H⟩ := H
 by_cases c5 : t303 = true
 ·subst c5;rw [if_pos rfl] at H;replace H := bE H;obtain ⟨⟨t304,t307,t310⟩,A6,H⟩ := H;dsimp only at H
  by_cases c7 : t310 = true
  ·subst c7;rw [if_pos rfl] at H;replace H := bE H;obtain ⟨t312,A8,H⟩ := H;replace H := bE H;obtain ⟨⟨t313,t314⟩,A9,H⟩ := H;dsimp only at H;simp only [Option.some.injEq,Prod.mk.injEq] at H;obtain ⟨rfl,rfl⟩ := H;go_enter Try.func34,Try.ntmps34
   go_wp2_with (first | ((with_reducible refine gate_dst (N := 3) rfl ?_);refine boxE 3 #[.slice A0_0 l0_0.length c0_0,.slice A0_1 l0_1.length c0_1] 27 ?_;intro gb302 hg w10 hbox hb;have BK302 := aK (hbox);have GW302 := aK (zG HB hg);have GE302 := aK (zG HB hg);replace HB := hB HB hb;clear hb hbox hg;have hcz11_0 := y0 BK302;have hcz11_1 := y1 BK302;have hfz11_0 := blk_frozen BK302.out 0;have hfz11_1 := blk_frozen BK302.out 1) | ((with_reducible refine gate_callee (f := 61) rfl ?_);refine goesE (some 13) Try.func61 #[.agg #[.slice A0_0 l0_0.length c0_0,.slice A0_1 l0_1.length c0_1]] ?_;(with_reducible refine (spec_l04Is.calls k _ _ l0_0 _ _ l0_1 true _ ?side1 ?side2 ?side3 ?side4 A4.out).mono ?_);(case side1 => exact cB HR0_0 HB);(case side2 => exact HC0_0.out);(case side3 => exact cB HR0_1 HB);(case side4 => exact HC0_1.out);rintro e w12 ⟨rfl,hb⟩;refine ⟨_,rfl,?_⟩;replace BK302 := kB BK302 hb;replace HB := hB HB hb;clear hb;have hcz13_0 := y0 BK302;have hcz13_1 := y1 BK302;have hfz13_0 := blk_frozen BK302.out 0;have hfz13_1 := blk_frozen BK302.out 1) | ((with_reducible refine gate_callee (f := 72) rfl ?_);refine goesE (some 19) Try.func72 #[.agg #[.slice A0_0 l0_0.length c0_0,.slice A0_1 l0_1.length c0_1],.bool a1,.int .i64 a2] ?_;(with_reducible refine (spec_l04Without.calls k _ _ l0_0 _ _ l0_1 a1 a2 t304 t307 true _ ?side1 ?side2 ?side3 ?side4 A6.out).mono ?_);(case side1 => exact cB HR0_0 HB);(case side2 => exact HC0_0.out);(case side3 => exact cB HR0_1 HB);(case side4 => exact HC0_1.out);rintro e w14 ⟨v305,v308,rfl,ho0,ho1,hb⟩;refine ⟨_,rfl,?_⟩;have HO306 := aK (Kd.R_lower ho0 (below_size (bN HB)));have HO309 := aK (Kd.R_lower ho1 (below_size (bN HB)));replace BK302 := kB BK302 hb;replace HB := hB HB hb;clear hb ho0 ho1) | ((with_reducible refine gate_dst (N := 8) rfl ?_);refine boxE 8 #[.slice none 0 0,.slice none 0 0] 27 ?_;intro gb311 hg w15 hbox hb;replace HO306 := rB HO306 hb;replace HO309 := rB HO309 hb;have BK311 := aK (hbox);have GW311 := aK (zG HB hg);have GE311 := aK (zG HB hg);replace HB := hB HB hb;have NB302_311 := aK ((by rw [hg];exact Nat.ne_of_lt (blk_lt (g := gb302) (o := .cells #[.slice A0_0 l0_0.length c0_0,.slice A0_1 l0_1.length c0_1] 27 (0,0)) (kN BK302)) : gb302 ≠ gb311));have NB311_302 := aK ((by rw [hg];exact Nat.ne_of_gt (blk_lt (g := gb302) (o := .cells #[.slice A0_0 l0_0.length c0_0,.slice A0_1 l0_1.length c0_1] 27 (0,0)) (kN BK302)) : gb311 ≠ gb302));replace BK302 := kB BK302 hb;clear hb hbox hg;obtain ⟨Ao16,co16,eo16⟩ := Kd.R_slice HO306.out;subst eo16;have hnb17 := NB311_302.out;have hnc17 := NB302_311.out;have hcz18_0 := y0 BK311;have hcz18_1 := y1 BK311;have hfz18_0 := blk_frozen BK311.out 0;have hfz18_1 := blk_frozen BK311.out 1;obtain ⟨Ao19,co19,eo19⟩ := Kd.R_slice HO309.out;subst eo19) | ((with_reducible refine gate_callee (f := 75) rfl ?_);refine goesE (some 28) Try.func75 #[.agg #[.slice Ao16 t304.length co16,.slice Ao19 t307.length co19]] ?_;(with_reducible refine (spec_l04Value.calls _ _ t304 _ _ t307 t312 _ ?side1 ?side2 ?side3 ?side4 A8.out).mono ?_);(case side1 => refine (Kd.R_reads' (e := 2) (base := w.heap.size) (ok := fun k_ => some k_ ≠ (.slice Ao19 t307.length co19 : Value).ownBlock) (n := t304.length) (c := co16) ?_).2.2;exact (rM ((Kd.R_mono (Kd.R_far (p := ⟨gb311,1,none⟩) (Kd.R_far (p := ⟨gb311,0,none⟩) (Kd.R_types HO306.out BK311.out (by decide)) (fun _ hk => hk.2) (.slice Ao16 t304.length co16)) (fun _ hk => hk.2) (.slice Ao19 t307.length co19)) (fun _ h_ => h_.1)))));(case side2 => exact (Kd.R_reads' HO306.out).2.1);(case side3 => refine (Kd.R_reads' (e := 2) (base := w.heap.size) (ok := fun k_ => some k_ ≠ (.slice Ao16 t304.length co16 : Value).ownBlock) (n := t307.length) (c := co19) ?_).2.2;exact (rM ((Kd.R_mono (Kd.R_far (p := ⟨gb311,1,none⟩) (Kd.R_far (p := ⟨gb311,0,none⟩) (Kd.R_types HO309.out BK311.out (by decide)) (fun _ hk => hk.2) (.slice Ao16 t304.length co16)) (fun _ hk => hk.2) (.slice Ao19 t307.length co19)) (fun _ h_ => h_.1)))));(case side4 => exact (Kd.R_reads' HO309.out).2.1);rintro e w20 ⟨rfl,hb⟩;refine ⟨_,rfl,?_⟩;replace HO306 := aK (Kd.R_below (rM ((Kd.R_mono (Kd.R_far (p := ⟨gb311,1,none⟩) (Kd.R_far (p := ⟨gb311,0,none⟩) (Kd.R_types HO306.out BK311.out (by decide)) (fun _ hk => hk.2) (.slice Ao16 t304.length co16)) (fun _ hk => hk.2) (.slice Ao19 t307.length co19)) (fun _ h_ => h_.1)))) hb);replace HO309 := aK (Kd.R_below (rM ((Kd.R_mono (Kd.R_far (p := ⟨gb311,1,none⟩) (Kd.R_far (p := ⟨gb311,0,none⟩) (Kd.R_types HO309.out BK311.out (by decide)) (fun _ hk => hk.2) (.slice Ao16 t304.length co16)) (fun _ hk => hk.2) (.slice Ao19 t307.length co19)) (fun _ h_ => h_.1)))) hb);replace BK302 := aK (blk_below (g := gb302) (o := .cells #[.slice A0_0 l0_0.length c0_0,.slice A0_1 l0_1.length c0_1] 27 (0,0)) (kZ BK302) hb);replace BK311 := aK (blk_below (g := gb311) (o := .cells #[.slice Ao16 t304.length co16,.slice Ao19 t307.length co19] 27 (0,0)) (by (with_reducible repeat (first | refine blk_drewN ?_ _ | refine blk_drew ?_ | refine blk_alloc ?_ _));refine blk_put (cs := #[.slice Ao16 t304.length co16,.slice none 0 0]) ?_ 1 _ rfl;(with_reducible repeat (first | refine blk_drewN ?_ _ | refine blk_drew ?_ | refine blk_alloc ?_ _));refine blk_put (cs := #[.slice none 0 0,.slice none 0 0]) ?_ 0 _ rfl;(with_reducible repeat (first | refine blk_drewN ?_ _ | refine blk_drew ?_ | refine blk_alloc ?_ _));exact BK311.out) hb);replace HB := hB HB hb;clear hb) | ((with_reducible refine gate_callee (f := 81) rfl ?_);refine goesE (some 29) Try.func81 #[.bool a1,.int .i64 a2,.int .i64 t312] ?_;(with_reducible refine (spec_l04Answer.calls a1 a2 t312 t313 t314 _ A9.out).mono ?_);rintro e w' ⟨rfl,⟨nd,rfl⟩⟩;refine ⟨_,rfl,?_⟩))
   go_ret2;exact eR (bN HB)
  ·replace c7 := Bool.eq_false_iff.mpr c7;subst c7;rw [if_neg (show ¬ (false = true) by decide)] at H;simp only [Option.some.injEq,Prod.mk.injEq] at H;obtain ⟨rfl,rfl⟩ := H;go_enter Try.func34,Try.ntmps34
   go_wp2_with (first | ((with_reducible refine gate_dst (N := 3) rfl ?_);refine boxE 3 #[.slice A0_0 l0_0.length c0_0,.slice A0_1 l0_1.length c0_1] 27 ?_;intro gb302 hg w21 hbox hb;have BK302 := aK (hbox);have GW302 := aK (zG HB hg);have GE302 := aK (zG HB hg);replace HB := hB HB hb;clear hb hbox hg;have hcz22_0 := y0 BK302;have hcz22_1 := y1 BK302;have hfz22_0 := blk_frozen BK302.out 0;have hfz22_1 := blk_frozen BK302.out 1) | ((with_reducible refine gate_callee (f := 61) rfl ?_);refine goesE (some 13) Try.func61 #[.agg #[.slice A0_0 l0_0.length c0_0,.slice A0_1 l0_1.length c0_1]] ?_;(with_reducible refine (spec_l04Is.calls k _ _ l0_0 _ _ l0_1 true _ ?side1 ?side2 ?side3 ?side4 A4.out).mono ?_);(case side1 => exact cB HR0_0 HB);(case side2 => exact HC0_0.out);(case side3 => exact cB HR0_1 HB);(case side4 => exact HC0_1.out);rintro e w23 ⟨rfl,hb⟩;refine ⟨_,rfl,?_⟩;replace BK302 := kB BK302 hb;replace HB := hB HB hb;clear hb;have hcz24_0 := y0 BK302;have hcz24_1 := y1 BK302;have hfz24_0 := blk_frozen BK302.out 0;have hfz24_1 := blk_frozen BK302.out 1) | ((with_reducible refine gate_callee (f := 72) rfl ?_);refine goesE (some 19) Try.func72 #[.agg #[.slice A0_0 l0_0.length c0_0,.slice A0_1 l0_1.length c0_1],.bool a1,.int .i64 a2] ?_;(with_reducible refine (spec_l04Without.calls k _ _ l0_0 _ _ l0_1 a1 a2 t304 t307 false _ ?side1 ?side2 ?side3 ?side4 A6.out).mono ?_);(case side1 => exact cB HR0_0 HB);(case side2 => exact HC0_0.out);(case side3 => exact cB HR0_1 HB);(case side4 => exact HC0_1.out);rintro e w25 ⟨v305,v308,rfl,ho0,ho1,hb⟩;refine ⟨_,rfl,?_⟩;have HO306 := aK (Kd.R_lower ho0 (below_size (bN HB)));have HO309 := aK (Kd.R_lower ho1 (below_size (bN HB)));replace BK302 := kB BK302 hb;replace HB := hB HB hb;clear hb ho0 ho1) | ((with_reducible refine gate_dst (N := 8) rfl ?_);refine boxE 8 #[.slice none 0 0,.slice none 0 0] 27 ?_;intro gb311 hg w26 hbox hb;replace HO306 := rB HO306 hb;replace HO309 := rB HO309 hb;have BK311 := aK (hbox);have GW311 := aK (zG HB hg);have GE311 := aK (zG HB hg);replace HB := hB HB hb;have NB302_311 := aK ((by rw [hg];exact Nat.ne_of_lt (blk_lt (g := gb302) (o := .cells #[.slice A0_0 l0_0.length c0_0,.slice A0_1 l0_1.length c0_1] 27 (0,0)) (kN BK302)) : gb302 ≠ gb311));have NB311_302 := aK ((by rw [hg];exact Nat.ne_of_gt (blk_lt (g := gb302) (o := .cells #[.slice A0_0 l0_0.length c0_0,.slice A0_1 l0_1.length c0_1] 27 (0,0)) (kN BK302)) : gb311 ≠ gb302));replace BK302 := kB BK302 hb;clear hb hbox hg;obtain ⟨Ao27,co27,eo27⟩ := Kd.R_slice HO306.out;subst eo27;have hnb28 := NB311_302.out;have hnc28 := NB302_311.out;have hcz29_0 := y0 BK311;have hcz29_1 := y1 BK311;have hfz29_0 := blk_frozen BK311.out 0;have hfz29_1 := blk_frozen BK311.out 1;obtain ⟨Ao30,co30,eo30⟩ := Kd.R_slice HO309.out;subst eo30))
   go_ret2;exact eR (bN HB)
 ·replace c5 := Bool.eq_false_iff.mpr c5;subst c5;rw [if_neg (show ¬ (false = true) by decide)] at H;simp only [Option.some.injEq,Prod.mk.injEq] at H;obtain ⟨rfl,rfl⟩ := H;go_enter Try.func34,Try.ntmps34
  go_wp2_with (first | ((with_reducible refine gate_dst (N := 3) rfl ?_);refine boxE 3 #[.slice A0_0 l0_0.length c0_0,.slice A0_1 l0_1.length c0_1] 27 ?_;intro gb302 hg w31 hbox hb;have BK302 := aK (hbox);have GW302 := aK (zG HB hg);have GE302 := aK (zG HB hg);replace HB := hB HB hb;clear hb hbox hg;have hcz32_0 := y0 BK302;have hcz32_1 := y1 BK302;have hfz32_0 := blk_frozen BK302.out 0;have hfz32_1 := blk_frozen BK302.out 1) | ((with_reducible refine gate_callee (f := 61) rfl ?_);refine goesE (some 13) Try.func61 #[.agg #[.slice A0_0 l0_0.length c0_0,.slice A0_1 l0_1.length c0_1]] ?_;(with_reducible refine (spec_l04Is.calls k _ _ l0_0 _ _ l0_1 false _ ?side1 ?side2 ?side3 ?side4 A4.out).mono ?_);(case side1 => exact cB HR0_0 HB);(case side2 => exact HC0_0.out);(case side3 => exact cB HR0_1 HB);(case side4 => exact HC0_1.out);rintro e w33 ⟨rfl,hb⟩;refine ⟨_,rfl,?_⟩;replace BK302 := kB BK302 hb;replace HB := hB HB hb;clear hb))
  go_ret2;exact eR (bN HB)
/-! ### spec_BestParts: function 41 -/
mutual
def spec_BestParts.j0 : Nat → Int → Int → Bool → Option (List Int × Int)
 | 0,_,_,_ => none
 | k + 1,x0,x1,x23 => if x23 = true then (some (([] : List Int),2)) else ((spec_l04Lists.f k (([] : List Int)) x1 1 x0).bind fun t360 => (spec_BestParts.l0 k t360 0 (-1) 0))
def spec_BestParts.l0 : Nat → List (List Int) → Int → Int → Int → Option (List Int × Int)
 | 0,_,_,_,_ => none
 | k + 1,x6,x7,x8,x9 => if x9 < (x6.length : Int) then (if 0 ≤ x9 then ((spec_l04Value.f (rd_L5 x6 x9) ([] : List Int)).bind fun t364 => (if x8 < 0 then (spec_BestParts.l0 k x6 t364 x9 (wrap64 (x9 + 1))) else (if t364 > x7 then (spec_BestParts.l0 k x6 t364 x9 (wrap64 (x9 + 1))) else (spec_BestParts.l0 k x6 x7 x8 (wrap64 (x9 + 1)))))) else (none)) else (if 0 ≤ x8 then (if x8 < (x6.length : Int) then (some (rd_L5 x6 x8,0)) else (none)) else (none))
end
def spec_BestParts.f (k : Nat) (a0 : Int) (a1 : Int) : Option (List Int × Int) := (spec_l01In.f a0 1 20).bind fun t355 => (if t355 = true then ((spec_l01In.f a1 1 6).bind fun t356 => (if t356 = true then (spec_BestParts.j0 k a0 a1 (decide (a1 > a0))) else (spec_BestParts.j0 k a0 a1 true))) else (spec_BestParts.j0 k a0 a1 true))
theorem spec_BestParts.mono_l : ∀ k, (∀ y0 y1 y2, LeO (spec_BestParts.j0 k y0 y1 y2) (spec_BestParts.j0 (k + 1) y0 y1 y2)) ∧ (∀ y0 y1 y2 y3, LeO (spec_BestParts.l0 k y0 y1 y2 y3) (spec_BestParts.l0 (k + 1) y0 y1 y2 y3))
 | 0 => ⟨fun _ _ _ r h => by simp [spec_BestParts.j0] at h,fun _ _ _ _ r h => by simp [spec_BestParts.l0] at h⟩
 | k + 1 => by
  obtain ⟨ih0,ih1⟩ := spec_BestParts.mono_l k;refine ⟨?_,?_⟩
  ·intro y0 y1 y2;unfold spec_BestParts.j0
   repeat' first
   | (with_reducible exact ih0 _ _ _)
   | (with_reducible exact ih1 _ _ _ _)
   | (with_reducible exact spec_l04Lists.mono _ _ _ _ _)
   | (with_reducible exact LeO.refl _)
   | (with_reducible exact LeO.none _)
   | (with_reducible refine LeO.ite ?_ ?_)
   | (with_reducible refine LeO.bind ?_ (fun _ => ?_))
   | exact ih0 _ _ _
   | exact ih1 _ _ _ _
   | exact spec_l04Lists.mono _ _ _ _ _
   | exact LeO.none _
   | refine LeO.ite ?_ ?_
   | refine LeO.bind ?_ (fun _ => ?_)
  ·intro y0 y1 y2 y3;unfold spec_BestParts.l0
   repeat' first
   | (with_reducible exact ih0 _ _ _)
   | (with_reducible exact ih1 _ _ _ _)
   | (with_reducible exact spec_l04Lists.mono _ _ _ _ _)
   | (with_reducible exact LeO.refl _)
   | (with_reducible exact LeO.none _)
   | (with_reducible refine LeO.ite ?_ ?_)
   | (with_reducible refine LeO.bind ?_ (fun _ => ?_))
   | exact ih0 _ _ _
   | exact ih1 _ _ _ _
   | exact spec_l04Lists.mono _ _ _ _ _
   | exact LeO.none _
   | refine LeO.ite ?_ ?_
   | refine LeO.bind ?_ (fun _ => ?_)
theorem spec_BestParts.mono : ∀ a0 a1 k, LeO (spec_BestParts.f k a0 a1) (spec_BestParts.f (k + 1) a0 a1) := by
 intro a0 a1 k;obtain ⟨ih0,ih1⟩ := spec_BestParts.mono_l k;unfold spec_BestParts.f
 repeat' first
  | (with_reducible exact ih0 _ _ _)
  | (with_reducible exact ih1 _ _ _ _)
  | (with_reducible exact spec_l04Lists.mono _ _ _ _ _)
  | (with_reducible exact LeO.refl _)
  | (with_reducible exact LeO.none _)
  | (with_reducible refine LeO.ite ?_ ?_)
  | (with_reducible refine LeO.bind ?_ (fun _ => ?_))
  | exact ih0 _ _ _
  | exact ih1 _ _ _ _
  | exact spec_l04Lists.mono _ _ _ _ _
  | exact LeO.none _
  | refine LeO.ite ?_ ?_
  | refine LeO.bind ?_ (fun _ => ?_)
set_option maxHeartbeats 8000000 in
set_option maxRecDepth 100000 in
theorem spec_BestParts.calls (k : Nat) (a0 : Int) (a1 : Int) (r1 : List Int) (r2 : Int) (w : World) (h : spec_BestParts.f k a0 a1 = some (r1, r2)) :
 Calls Try.prog 41 #[.int .i64 a0,.int .i64 a1] w fun e w' => ∃ v0_ : Value,e = .returned (.tuple #[v0_,.int .i64 r2]) ∧ Kd.V (Kd.int .i64) 2 w' w.heap.size (fun k_ => (w.heap.size ≤ k_)) v0_ r1 ∧ Below w.heap.size w w' := by
 have hu27 := Try.underlying27;have HB := aK (Below.refl w.heap.size w);have H := h;clear h;unfold spec_BestParts.f at H;have HC3 := aK H;clear H;go_enter Try.func41,Try.ntmps41
 go_upto_region 1 with (fail)
 go_cut [23] (fun v23 wc => ∃ (kq : Nat) (x23_2 : Bool),v23 = .bool x23_2 ∧ Aside0 (spec_BestParts.j0 kq a0 a1 x23_2 = some (r1,r2)) ∧ Aside0 (kq ≤ k) ∧ Aside0 (Below w.heap.size w wc))
 case first =>
  have H := HC3.out;clear HC3;replace H := bE H;obtain ⟨t355,A4,H⟩ := H
  by_cases c5 : t355 = true
  ·subst c5;rw [if_pos rfl] at H;replace H := bE H;obtain ⟨t356,A6,H⟩ := H
   by_cases c7 : t356 = true
   ·subst c7;rw [if_pos rfl] at H;have H' := aK H;clear H
    go_wp2_with (first | ((with_reducible refine gate_callee (f := 84) rfl ?_);refine goesE (some 12) Try.func84 #[.int .i64 a0,.int .i64 1,.int .i64 20] ?_;(with_reducible refine (spec_l01In.calls a0 1 20 true _ A4.out).mono ?_);rintro e w' ⟨rfl,⟨nd,rfl⟩⟩;refine ⟨_,rfl,?_⟩) | (go_at_call 84;(with_reducible refine (spec_l01In.calls a1 1 6 true _ A6.out).mono ?_);rintro e w' ⟨rfl,⟨nd,rfl⟩⟩))
    go_meet
    case rel => exact ⟨_,(decide (a1 > a0)),rD,H',⟨by first | omega | exact Nat.le_refl _⟩,⟨bN HB⟩⟩
   ·replace c7 := Bool.eq_false_iff.mpr c7;subst c7;rw [if_neg (show ¬ (false = true) by decide)] at H;have H' := aK H;clear H
    go_wp2_with (first | ((with_reducible refine gate_callee (f := 84) rfl ?_);refine goesE (some 12) Try.func84 #[.int .i64 a0,.int .i64 1,.int .i64 20] ?_;(with_reducible refine (spec_l01In.calls a0 1 20 true _ A4.out).mono ?_);rintro e w' ⟨rfl,⟨nd,rfl⟩⟩;refine ⟨_,rfl,?_⟩) | (go_at_call 84;(with_reducible refine (spec_l01In.calls a1 1 6 false _ A6.out).mono ?_);rintro e w' ⟨rfl,⟨nd,rfl⟩⟩))
    go_meet
    case rel => exact ⟨_,(true),rD,H',⟨by first | omega | exact Nat.le_refl _⟩,⟨bN HB⟩⟩
  ·replace c5 := Bool.eq_false_iff.mpr c5;subst c5;rw [if_neg (show ¬ (false = true) by decide)] at H;have H' := aK H;clear H
   go_wp2_with (first | ((with_reducible refine gate_callee (f := 84) rfl ?_);refine goesE (some 12) Try.func84 #[.int .i64 a0,.int .i64 1,.int .i64 20] ?_;(with_reducible refine (spec_l01In.calls a0 1 20 false _ A4.out).mono ?_);rintro e w' ⟨rfl,⟨nd,rfl⟩⟩;refine ⟨_,rfl,?_⟩))
   go_meet
   case rel => exact ⟨_,(true),rD,H',⟨by first | omega | exact Nat.le_refl _⟩,⟨bN HB⟩⟩
 case rest =>
  clear HC3;obtain ⟨kq,x23_2,rfl,HA,HJ2,HB⟩ := hcut
  cases kq with
  | zero => exact absurd HA.out (by simp [spec_BestParts.j0])
  | succ kj2 =>
   have H := HA.out;clear HA;simp only [spec_BestParts.j0] at H
   by_cases c8 : x23_2 = true
   ·subst c8;rw [if_pos rfl] at H;simp only [Option.some.injEq,Prod.mk.injEq] at H;obtain ⟨rfl,rfl⟩ := H;go_wp2;go_ret2;exact ⟨_,by first | rfl | (simp [errW_none,errW_some] <;> rfl) | (simp [*,errW_none,errW_some] <;> rfl),(by first | exact Kd.V_nil _ _ _ _ _ | exact Kd.R_V (Kd.R_nil _ _ _ 0 _)),(bN HB)⟩
   ·replace c8 := Bool.eq_false_iff.mpr c8;subst c8;rw [if_neg (show ¬ (false = true) by decide)] at H;obtain ⟨y357,hy357⟩ : ∃ y_ : List Int,y_ = (([] : List Int)) := ⟨_,rfl⟩;replace H : ((spec_l04Lists.f kj2 y357 a1 1 a0).bind fun t360 => (spec_BestParts.l0 kj2 t360 0 (-1) 0)) = some (r1,r2) := by first | (rw [hy357];with_reducible exact H) | (have H2_ := (Option.bind_some _ _).symm.trans H;rw [hy357];with_reducible exact H2_) | (have H2_ := (Option.bind_some _ _).symm.trans H;with_reducible exact H2_) | with_reducible exact H | (rw [hy357];exact H) | exact H
    have Ny357 := aK hy357;clear hy357;replace H := bE H;obtain ⟨t360,A9,H⟩ := H;have H' := aK H;clear H
    go_wp2_with (first | ((with_reducible refine gate_dst (N := 24) rfl ?_);refine Kd.R_lit (Kd.int .i64) _ 2 ?hg (N := 24) ?hd (xs := ([] : List Int)) (inner := []) (ok := fun _ => True) (okp := fun _ => True) ?hr ?hp (fun _ hk => hk) trivial (Below.refl _ _) (Nat.le_refl _) (by simp) ?_;(case hd => rfl);(case hg => rfl);(case hr => first | (go_simp;done) | (go_simp;rfl));(case hp => exact (Reps.none _ _));intro v358 w10 ho11 hb hg_ hnew_;clear hg_ hnew_;(first | rw [← Ny357.out] at ho11 | (simp only [Int.reduceToNat] at ho11;rw [← Ny357.out] at ho11));have HO359 := aK (Kd.R_lower (Kd.R_newM (M := fun k_ => (w.heap.size ≤ k_)) ho11 (below_size (bN HB)) (fun k_ h_ => h_)) (below_size (bN HB)));replace HB := hB HB hb;clear hb ho11;obtain ⟨Ao12,co12,eo12⟩ := Kd.R_slice HO359.out;subst eo12) | ((with_reducible refine gate_callee (f := 85) rfl ?_);refine goesE (some 27) Try.func85 #[.slice Ao12 y357.length co12,.int .i64 a1,.int .i64 1,.int .i64 a0] ?_;(with_reducible refine (spec_l04Lists.calls kj2 (fun k_ => some k_ = (.slice Ao12 y357.length co12 : Value).ownBlock) _ _ y357 a1 1 a0 t360 _ ?side1 A9.out).mono ?_);(case side1 => exact Kd.R_V (Kd.R_tight rfl (HO359.out)));rintro e w13 ⟨v361,rfl,ho0,hb⟩;refine ⟨_,rfl,?_⟩;have HO362 := aK (Kd.N_lower (Kd.N_mono (ok' := fun k_ => (w.heap.size ≤ k_)) ho0 (fun k_ hk_ => Or.elim hk_ (fun hs_ => ((HO359.out).1 k_ hs_.symm).1) (fun hn_ => (Nat.le_trans (below_size (bN HB)) hn_)))) (below_size (bN HB)));replace HO359 := rB HO359 hb;replace HB := hB HB hb;clear hb ho0))
    go_loopg [7,8,9] kj2 (fun kq v7 v8 v9 w' => ∃ (x7_2 : Int) (x8_2 : Int) (x9_2 : Int),v7 = .int .i64 x7_2 ∧ v8 = .int .i64 x8_2 ∧ v9 = .int .i64 x9_2 ∧ Aside0 (spec_BestParts.l0 kq t360 x7_2 x8_2 x9_2 = some (r1,r2)) ∧ Aside0 (kq ≤ kj2) ∧ Aside0 (Kd.N (Kd.slice 2 (Kd.int .i64)) 22 w' w.heap.size (fun k_ => (w.heap.size ≤ k_)) v361 t360) ∧ Aside0 (Below w.heap.size w w'))
    case atStart => exact ⟨(0),((-1)),(0),rD,rD,rD,H',⟨Nat.le_refl _⟩,⟨nN HO362⟩,⟨bN HB⟩⟩
    case round =>
     clear H';obtain ⟨x7_2,x8_2,x9_2,rfl,rfl,rfl,HA,HK2,HO_6,HB⟩ := hrel
     cases gk with
     | zero => exact absurd HA.out (by simp [spec_BestParts.l0])
     | succ k2 =>
      have H := HA.out;clear HA;simp only [spec_BestParts.l0] at H
      by_cases c14 : x9_2 < (t360.length : Int)
      ·rw [if_pos c14] at H;have c14b0 := decide_eq_true c14;clear c14
       by_cases c15 : 0 ≤ x9_2
       rotate_left
       ·rw [if_neg c15] at H;exact absurd H (by simp)
       rw [if_pos c15] at H;have c15b0 := decide_eq_true c15;clear c15;replace H := bE H;obtain ⟨t364,A16,H⟩ := H
       by_cases c17 : x8_2 < 0
       ·rw [if_pos c17] at H;have c17b0 := decide_eq_true c17;clear c17;have H' := aK H;clear H;obtain ⟨Ao18,co18,eo18⟩ := Kd.N_slice HO_6.out;subst eo18;have p363 : 0 ≤ (x9_2 : Int) := dT;have q363 : x9_2 < (t360.length : Int) := dT;obtain ⟨ad363,A363_0,c363_0,e363,hx363_0,hl363_0,hi363_0⟩ := at_L5 (Kd.N_reads' HO_6.out).2.2 x9_2 p363 q363;cases e363;obtain ⟨ce363,hce363,hMe363,hcc363⟩ := Kd.N_get HO_6.out [] x9_2 p363 (by first | exact q363 | exact of_decide_eq_true (by first | (with_reducible assumption) | assumption) | (have e_ := (Kd.N_reads' HO_6.out).1;omega));obtain ⟨ua363_0,uc363_0,rfl,ul363_0,ge363_0⟩ := Kd.FK_slice_open hMe363;have hv363_0 := hcc363 0 _ rfl;rw [Nat.add_zero,show ((Kd.slice 2 (Kd.int .i64))).sz = 1 from rfl,Nat.mul_one] at hv363_0;replace hv363_0 := Option.some.inj (hv363_0.symm.trans hx363_0);injection hv363_0 with hva_ hvn_ hvc_
        rw [hva_] at ge363_0;rw [hvc_] at ul363_0;have HL363_0 := aK (show Kd.V (Kd.int .i64) 2 _ w.heap.size _ _ (rd_L5 t360 x9_2) from Kd.V_mk ul363_0 ge363_0);clear hva_ hvn_ hvc_ ge363_0 ul363_0;clear hcc363 hce363;have HR363_0 := aK hi363_0;have HC363_0 := aK hl363_0;clear hi363_0 hl363_0;replace p363 := eq_true p363;replace q363 := eq_true q363
        go_wp2_with (first | ((with_reducible refine gate_callee (f := 75) rfl ?_);refine goesE (some 39) Try.func75 #[.agg #[.slice A363_0 (rd_L5 t360 x9_2).length c363_0,.slice none 0 0]] ?_;(refine (spec_l04Value.calls _ _ (rd_L5 t360 x9_2) _ _ ([] : List Int) t364 _ ?side1 ?side2 ?side3 ?side4 A16.out).mono ?_);(case side1 => exact cM ((by repeat (first | (with_reducible exact HR363_0.out) | (with_reducible refine Kd.C_alloc ?_ _) | (with_reducible refine Kd.C_drewN ?_ _) | (with_reducible refine Kd.C_drew ?_) | exact HR363_0.out))));(case side2 => exact HC363_0.out);(case side3 => exact Kd.C_nil _ _);(case side4 => exact Nat.le_refl _);rintro e w19 ⟨rfl,hb⟩;refine ⟨_,rfl,?_⟩;replace HO_6 := aK (Kd.N_below (nN HO_6) hb);replace HL363_0 := vB HL363_0 hb;replace HR363_0 := aK (Kd.C_below (by repeat (first | (with_reducible exact HR363_0.out) | (with_reducible refine Kd.C_alloc ?_ _) | (with_reducible refine Kd.C_drewN ?_ _) | (with_reducible refine Kd.C_drew ?_) | exact HR363_0.out)) hb);replace HB := hB HB hb;clear hb))
        go_roundg k2
        case measure => have := HJ2.out;have := HK2.out;omega
        case rel => exact ⟨(t364),(x9_2),(wrap64 (x9_2 + 1)),rD,rD,rD,H',⟨by have := HJ2.out;have := HK2.out;omega⟩,⟨nN HO_6⟩,⟨bN HB⟩⟩
       ·rw [if_neg c17] at H;have c17b0 := decide_eq_false c17;clear c17
        by_cases c20 : t364 > x7_2
        ·rw [if_pos c20] at H;have c20b0 := decide_eq_true c20;clear c20;have H' := aK H;clear H;obtain ⟨Ao21,co21,eo21⟩ := Kd.N_slice HO_6.out;subst eo21;have p363 : 0 ≤ (x9_2 : Int) := dT;have q363 : x9_2 < (t360.length : Int) := dT;obtain ⟨ad363,A363_0,c363_0,e363,hx363_0,hl363_0,hi363_0⟩ := at_L5 (Kd.N_reads' HO_6.out).2.2 x9_2 p363 q363;cases e363;obtain ⟨ce363,hce363,hMe363,hcc363⟩ := Kd.N_get HO_6.out [] x9_2 p363 (by first | exact q363 | exact of_decide_eq_true (by first | (with_reducible assumption) | assumption) | (have e_ := (Kd.N_reads' HO_6.out).1;omega));obtain ⟨ua363_0,uc363_0,rfl,ul363_0,ge363_0⟩ := Kd.FK_slice_open hMe363;have hv363_0 := hcc363 0 _ rfl;rw [Nat.add_zero,show ((Kd.slice 2 (Kd.int .i64))).sz = 1 from rfl,Nat.mul_one] at hv363_0;replace hv363_0 := Option.some.inj (hv363_0.symm.trans hx363_0);injection hv363_0 with hva_ hvn_ hvc_
         rw [hva_] at ge363_0;rw [hvc_] at ul363_0;have HL363_0 := aK (show Kd.V (Kd.int .i64) 2 _ w.heap.size _ _ (rd_L5 t360 x9_2) from Kd.V_mk ul363_0 ge363_0);clear hva_ hvn_ hvc_ ge363_0 ul363_0;clear hcc363 hce363;have HR363_0 := aK hi363_0;have HC363_0 := aK hl363_0;clear hi363_0 hl363_0;replace p363 := eq_true p363;replace q363 := eq_true q363
         go_wp2_with (first | ((with_reducible refine gate_callee (f := 75) rfl ?_);refine goesE (some 39) Try.func75 #[.agg #[.slice A363_0 (rd_L5 t360 x9_2).length c363_0,.slice none 0 0]] ?_;(refine (spec_l04Value.calls _ _ (rd_L5 t360 x9_2) _ _ ([] : List Int) t364 _ ?side1 ?side2 ?side3 ?side4 A16.out).mono ?_);(case side1 => exact cM ((by repeat (first | (with_reducible exact HR363_0.out) | (with_reducible refine Kd.C_alloc ?_ _) | (with_reducible refine Kd.C_drewN ?_ _) | (with_reducible refine Kd.C_drew ?_) | exact HR363_0.out))));(case side2 => exact HC363_0.out);(case side3 => exact Kd.C_nil _ _);(case side4 => exact Nat.le_refl _);rintro e w22 ⟨rfl,hb⟩;refine ⟨_,rfl,?_⟩;replace HO_6 := aK (Kd.N_below (nN HO_6) hb);replace HL363_0 := vB HL363_0 hb;replace HR363_0 := aK (Kd.C_below (by repeat (first | (with_reducible exact HR363_0.out) | (with_reducible refine Kd.C_alloc ?_ _) | (with_reducible refine Kd.C_drewN ?_ _) | (with_reducible refine Kd.C_drew ?_) | exact HR363_0.out)) hb);replace HB := hB HB hb;clear hb))
         go_roundg k2
         case measure => have := HJ2.out;have := HK2.out;omega
         case rel => exact ⟨(t364),(x9_2),(wrap64 (x9_2 + 1)),rD,rD,rD,H',⟨by have := HJ2.out;have := HK2.out;omega⟩,⟨nN HO_6⟩,⟨bN HB⟩⟩
        ·rw [if_neg c20] at H;have c20b0 := decide_eq_false c20;clear c20;have H' := aK H;clear H;obtain ⟨Ao23,co23,eo23⟩ := Kd.N_slice HO_6.out;subst eo23;have p363 : 0 ≤ (x9_2 : Int) := dT;have q363 : x9_2 < (t360.length : Int) := dT;obtain ⟨ad363,A363_0,c363_0,e363,hx363_0,hl363_0,hi363_0⟩ := at_L5 (Kd.N_reads' HO_6.out).2.2 x9_2 p363 q363;cases e363;obtain ⟨ce363,hce363,hMe363,hcc363⟩ := Kd.N_get HO_6.out [] x9_2 p363 (by first | exact q363 | exact of_decide_eq_true (by first | (with_reducible assumption) | assumption) | (have e_ := (Kd.N_reads' HO_6.out).1;omega));obtain ⟨ua363_0,uc363_0,rfl,ul363_0,ge363_0⟩ := Kd.FK_slice_open hMe363;have hv363_0 := hcc363 0 _ rfl;rw [Nat.add_zero,show ((Kd.slice 2 (Kd.int .i64))).sz = 1 from rfl,Nat.mul_one] at hv363_0;replace hv363_0 := Option.some.inj (hv363_0.symm.trans hx363_0);injection hv363_0 with hva_ hvn_ hvc_
         rw [hva_] at ge363_0;rw [hvc_] at ul363_0;have HL363_0 := aK (show Kd.V (Kd.int .i64) 2 _ w.heap.size _ _ (rd_L5 t360 x9_2) from Kd.V_mk ul363_0 ge363_0);clear hva_ hvn_ hvc_ ge363_0 ul363_0;clear hcc363 hce363;have HR363_0 := aK hi363_0;have HC363_0 := aK hl363_0;clear hi363_0 hl363_0;replace p363 := eq_true p363;replace q363 := eq_true q363
         go_wp2_with (first | ((with_reducible refine gate_callee (f := 75) rfl ?_);refine goesE (some 39) Try.func75 #[.agg #[.slice A363_0 (rd_L5 t360 x9_2).length c363_0,.slice none 0 0]] ?_;(refine (spec_l04Value.calls _ _ (rd_L5 t360 x9_2) _ _ ([] : List Int) t364 _ ?side1 ?side2 ?side3 ?side4 A16.out).mono ?_);(case side1 => exact cM ((by repeat (first | (with_reducible exact HR363_0.out) | (with_reducible refine Kd.C_alloc ?_ _) | (with_reducible refine Kd.C_drewN ?_ _) | (with_reducible refine Kd.C_drew ?_) | exact HR363_0.out))));(case side2 => exact HC363_0.out);(case side3 => exact Kd.C_nil _ _);(case side4 => exact Nat.le_refl _);rintro e w24 ⟨rfl,hb⟩;refine ⟨_,rfl,?_⟩;replace HO_6 := aK (Kd.N_below (nN HO_6) hb);replace HL363_0 := vB HL363_0 hb;replace HR363_0 := aK (Kd.C_below (by repeat (first | (with_reducible exact HR363_0.out) | (with_reducible refine Kd.C_alloc ?_ _) | (with_reducible refine Kd.C_drewN ?_ _) | (with_reducible refine Kd.C_drew ?_) | exact HR363_0.out)) hb);replace HB := hB HB hb;clear hb))
         go_roundg k2
         case measure => have := HJ2.out;have := HK2.out;omega
         case rel => exact ⟨(x7_2),(x8_2),(wrap64 (x9_2 + 1)),rD,rD,rD,H',⟨by have := HJ2.out;have := HK2.out;omega⟩,⟨nN HO_6⟩,⟨bN HB⟩⟩
      ·rw [if_neg c14] at H;have c14b0 := decide_eq_false c14;clear c14
       by_cases c25 : 0 ≤ x8_2
       rotate_left
       ·rw [if_neg c25] at H;exact absurd H (by simp)
       rw [if_pos c25] at H;have c25b0 := decide_eq_true c25;clear c25
       by_cases c26 : x8_2 < (t360.length : Int)
       rotate_left
       ·rw [if_neg c26] at H;exact absurd H (by simp)
       rw [if_pos c26] at H;have c26b0 := decide_eq_true c26;clear c26;simp only [Option.some.injEq,Prod.mk.injEq] at H;obtain ⟨rfl,rfl⟩ := H;obtain ⟨Ao27,co27,eo27⟩ := Kd.N_slice HO_6.out;subst eo27;have p365 : 0 ≤ (x8_2 : Int) := dT;have q365 : x8_2 < (t360.length : Int) := dT;obtain ⟨ad365,A365_0,c365_0,e365,hx365_0,hl365_0,hi365_0⟩ := at_L5 (Kd.N_reads' HO_6.out).2.2 x8_2 p365 q365;cases e365;obtain ⟨ce365,hce365,hMe365,hcc365⟩ := Kd.N_get HO_6.out [] x8_2 p365 (by first | exact q365 | exact of_decide_eq_true (by first | (with_reducible assumption) | assumption) | (have e_ := (Kd.N_reads' HO_6.out).1;omega));obtain ⟨ua365_0,uc365_0,rfl,ul365_0,ge365_0⟩ := Kd.FK_slice_open hMe365;have hv365_0 := hcc365 0 _ rfl;rw [Nat.add_zero,show ((Kd.slice 2 (Kd.int .i64))).sz = 1 from rfl,Nat.mul_one] at hv365_0;replace hv365_0 := Option.some.inj (hv365_0.symm.trans hx365_0);injection hv365_0 with hva_ hvn_ hvc_
       rw [hva_] at ge365_0;rw [hvc_] at ul365_0;have HL365_0 := aK (show Kd.V (Kd.int .i64) 2 _ w.heap.size _ _ (rd_L5 t360 x8_2) from Kd.V_mk ul365_0 ge365_0);clear hva_ hvn_ hvc_ ge365_0 ul365_0;clear hcc365 hce365;have HR365_0 := aK hi365_0;have HC365_0 := aK hl365_0;clear hi365_0 hl365_0;replace p365 := eq_true p365;replace q365 := eq_true q365;go_wp2;go_ret2;exact ⟨_,by first | rfl | (simp [errW_none,errW_some] <;> rfl) | (simp [*,errW_none,errW_some] <;> rfl),by (with_reducible repeat (first | apply Kd.V_alloc | apply Kd.V_drewN | apply Kd.V_drew));exact Kd.V_mono HL365_0.out (fun _ hk => hk.1),(bN HB)⟩
theorem idx_loop (U : List (Bool × Int)) (hU : U.length ≤ 4194304) (o : Bool × Int) : ∀ (d i : Nat), i + d = U.length → ∃ r : Int, decide (r ≥ 0) = decide (o ∈ U.drop i) ∧ Ev (fun k => impl_opening_114.l0 k (U.map toS) ((U.map toS).length : Int) (i : Int) o.1 o.2) r
  | 0,i,hd => by
    rw [List.drop_of_length_le (by omega)];refine ⟨-1,by simp,Ev.step (f := fun _ => some (-1)) (fun k => ?_) (Ev.now _)⟩;rw [impl_opening_114.l0,if_neg (by rw [List.length_map];omega)]
  | d + 1,i,hd => by
    obtain ⟨x,hx⟩ := get_some (xs := U) (i := i) (by omega);have hl : (U.map toS).length = U.length := List.length_map ..;have hrd : rd_T75 (U.map toS) (i : Int) = toS x := by
      unfold rd_T75;rw [Int.toNat_natCast,List.getD_eq_getElem?_getD,List.getElem?_map,hx];rfl
    rw [drop_of hx]
    by_cases c : o = x
    · subst c
      refine ⟨(i : Int),?_,Ev.step (f := fun _ => some (i : Int)) (fun k => ?_) (Ev.now _)⟩
      · rw [decide_eq_true (show (i : Int) ≥ 0 by omega),decide_eq_true List.mem_cons_self]
      · rw [impl_opening_114.l0,hl,if_pos (by omega),if_pos (by omega),if_pos (by omega),hrd,if_pos (show (o.1 == (toS o).f0 && (o.2 == (toS o).f1)) = true by show (o.1 == o.1 && (o.2 == o.2)) = true;rw [beq_self_eq_true,beq_self_eq_true];rfl)]
    · obtain ⟨r,h1,h2⟩ := idx_loop U hU o d (i + 1) (by omega)
      refine ⟨r,?_,Ev.step (fun k => ?_) h2⟩
      · rw [h1]
        exact decide_eq_decide.2 ⟨fun h => List.mem_cons_of_mem _ h,fun h => (List.mem_cons.1 h).resolve_left c⟩
      · have hne : ¬ (o.1 == (toS x).f0 && (o.2 == (toS x).f1)) = true := by
          show ¬ (o.1 == x.1 && (o.2 == x.2)) = true;simp only [Bool.and_eq_true,beq_iff_eq];rintro ⟨e1,e2⟩;exact c (Prod.ext e1 e2)
        rw [impl_opening_114.l0,hl,if_pos (by omega),if_pos (by omega),if_pos (by omega),hrd,if_neg hne,wrapS (i := (i : Int) + 1) (by omega) (by omega),cast_succ]
theorem isIn_dec (C L : List Int) (o : Bool × Int) : isIn C L o = decide (o ∈ opens C L) := by
  cases h : isIn C L o with
  | true => rw [decide_eq_true (isIn_opens.1 h)]
  | false => rw [decide_eq_false (fun hh => by rw [isIn_opens.2 hh] at h;cases h)]
theorem contains_ev (C L : List Int) (o : Bool × Int) (h : C.length + L.length ≤ 2097152) : Ev (fun k => impl_opening_101.f k ((opens C L).map toS) o.1 o.2) (isIn C L o) := by
  have hol : (opens C L).length ≤ C.length + L.length := by
    unfold opens;rw [List.length_append,List.length_map,List.length_map];have := uniq_le C;have := uniq_le L;omega
  obtain ⟨r,h1,h2⟩ := idx_loop (opens C L) (by omega) o (opens C L).length 0 (by omega);rw [List.drop_zero] at h1;unfold impl_opening_101.f;rw [isIn_dec,← h1];exact Ev.bind h2 (Ev.now _)
def codeOf (C L : List Int) (o : Bool × Int) : Int := if isEnd C L = true then (if isIn C L o = true then 0 else 5) else 1
theorem code_ev (C L : List Int) (o : Bool × Int) (hC : C.length ≤ 1048576) (hL : L.length ≤ 1048576) : Ev (fun k => impl_openingCode.f k C L o.1 o.2) (codeOf C L o) := by
  have hf := first2_ev (isEnd C L) (isIn C L o) 1 5;unfold impl_openingCode.f codeOf;refine Ev.bind (IsEnding_ev C L hC hL) (Ev.bind (open_ev C L hC hL) (Ev.bind (contains_ev C L o (by omega)) (Ev.bind hf (Ev.now _))))
theorem isEnd_ok {C L : List Int} (h : isEnd C L = true) : okC C ∧ okL L ∧ C.length + L.length ≤ 8 := by
  have h8 := isEnd_len h;unfold isEnd at h;simp only [Bool.and_eq_true] at h;obtain ⟨⟨_,h1⟩,h2⟩ := h;rw [asc_eq,Bool.and_eq_true] at h1 h2;refine ⟨fun x hx => ?_,fun x hx => ?_,h8⟩
  · exact sizeOk_lo (List.all_eq_true.1 h1.2 x hx)
  · exact sizeOk_lo (List.all_eq_true.1 h2.2 x hx)
def afterOf (C L : List Int) (o : Bool × Int) : List Int × List Int × Int := if isEnd C L = true then (if isIn C L o = true then (lessC C o, lessL L o, 0) else ([], [], 5)) else ([], [], 1)
def impl_AfterOpening.f (_k : Nat) (C L : List Int) (ol : Bool) (ob : Int) : Option (List Int × List Int × Int) := if C.length ≤ 1048576 ∧ L.length ≤ 1048576 then some (afterOf C L (ol, ob)) else none
theorem impl_AfterOpening.mono : ∀ a0 a1 a2 a3 k, LeO (impl_AfterOpening.f k a0 a1 a2 a3) (impl_AfterOpening.f (k + 1) a0 a1 a2 a3) := fun _ _ _ _ _ => LeO.refl _
set_option maxHeartbeats 16000000 in
set_option maxRecDepth 100000 in
theorem impl_AfterOpening.calls (k : Nat) (A0 : Option Addr) (c0 : Nat) (C : List Int) (A1 : Option Addr) (c1 : Nat) (L : List Int) (ol : Bool) (ob : Int) (r1 : List Int) (r2 : List Int) (r3 : Int) (w : World) (hr0 : Kd.C (Kd.int .i64) w A0 C.length C) (hc0 : C.length ≤ c0) (hr1 : Kd.C (Kd.int .i64) w A1 L.length L) (hc1 : L.length ≤ c1) (h : impl_AfterOpening.f k C L ol ob = some (r1, r2, r3)) :
 Calls Try.prog 27 #[.agg #[.slice A0 C.length c0,.slice A1 L.length c1],.bool ol,.int .i64 ob] w fun e w' => ∃ v0_ v1_ : Value,e = .returned (.tuple #[.agg #[v0_,v1_],.int .i64 r3]) ∧ Kd.R (Kd.int .i64) 2 w' w.heap.size (fun k_ => some k_ ≠ (v1_ : Value).ownBlock) v0_ r1 ∧ Kd.R (Kd.int .i64) 2 w' w.heap.size (fun k_ => some k_ ≠ (v0_ : Value).ownBlock) v1_ r2 ∧ Below w.heap.size w w' := by
 have hu27 := Try.underlying27;have hu75 := Try.underlying75;have HR0 := aK hr0;have HC0 := aK hc0;have HR1 := aK hr1;have HC1 := aK hc1;have HB := aK (Below.refl w.heap.size w);clear hr0 hc0 hr1 hc1;unfold impl_AfterOpening.f at h
 split at h
 rotate_left
 ·cases h
 rename_i hsz;obtain ⟨kc,hkc⟩ := Ev.rounds (code_ev C L (ol,ob) hsz.1 hsz.2);have hco : codeOf C L (ol,ob) = 1 ∨ codeOf C L (ol,ob) = 5 ∨ (codeOf C L (ol,ob) = 0 ∧ isEnd C L = true ∧ isIn C L (ol,ob) = true) := by
  unfold codeOf
  cases isEnd C L <;> cases isIn C L (ol,ob) <;> simp
 have haf : codeOf C L (ol,ob) ≠ 0 → afterOf C L (ol,ob) = ([],[],codeOf C L (ol,ob)) := by
  unfold codeOf afterOf
  cases isEnd C L <;> cases isIn C L (ol,ob) <;> simp
 have h' := Option.some.inj h;clear h;rcases hco with hc | hc | ⟨hc,hE,hI⟩
 ·rw [haf (by rw [hc];decide),hc] at h';rw [hc] at hkc;have HCO := aK hkc;simp only [Prod.mk.injEq] at h';obtain ⟨rfl,rfl,rfl⟩ := h';clear hsz hkc haf hc;go_enter Try.func27,Try.ntmps27
  go_wp2_with (first | ((with_reducible refine gate_dst (N := 3) rfl ?_);(try (refine gate_guard (by rfl) ?_;dsimp only));refine boxE 3 #[.slice A0 C.length c0,.slice A1 L.length c1] 27 ?_;intro gbx hg w2 hbox hb;have BX := aK hbox;clear hg hbox;replace HB := aK (below_step HB.out hb);clear hb;have hz_gbx_0 := y0 BX;have hf_gbx_0 := blk_frozen BX.out 0;have hz_gbx_1 := y1 BX;have hf_gbx_1 := blk_frozen BX.out 1) | ((with_reducible refine gate_dst (N := 6) rfl ?_);(try (refine gate_guard (by rfl) ?_;dsimp only));refine boxE 6 #[.slice none 0 0,.slice none 0 0] 27 ?_;intro gbr hg w3 hbox hb;have BR := aK hbox;have GR := aK (show w.heap.size ≤ gbr by rw [hg];exact HB.out.size);have NXR := aK (show gbx ≠ gbr by rw [hg];exact Nat.ne_of_lt (blk_lt BX.out));clear hg hbox;replace BX := aK (blk_below (g := gbx) (o := .cells #[.slice A0 C.length c0,.slice A1 L.length c1] 27 (0,0)) BX.out hb);replace HB := aK (below_step HB.out hb);clear hb;replace hz_gbx_0 := y0 BX;replace hf_gbx_0 := blk_frozen BX.out 0;replace hz_gbx_1 := y1 BX;replace hf_gbx_1 := blk_frozen BX.out 1;have hz_gbr_0 := y0 BR;have hf_gbr_0 := blk_frozen BR.out 0;have hz_gbr_1 := y1 BR;have hf_gbr_1 := blk_frozen BR.out 1) | ((with_reducible refine gate_dst (N := 8) rfl ?_);(try (refine gate_guard (by rfl) ?_;dsimp only));refine boxE 8 #[.bool false,.int .i64 0] 75 ?_;intro gbo hg w4 hbox hb;have HBB := aK hb;have HGO := aK hg;have BX2 := aK (blk_below (g := gbx) (o := .cells #[.slice A0 C.length c0,.slice A1 L.length c1] 27 (0,0)) BX.out hb);have BR2 := aK (blk_below (g := gbr) (o := .cells #[.slice none 0 0,.slice none 0 0] 27 (0,0)) BR.out hb);have BO2 := aK hbox;have ne1 : gbx ≠ gbo := (by rw [hg];exact Nat.ne_of_lt (blk_lt BX.out));have ne2 : gbo ≠ gbx := Ne.symm ne1;have ne3 : gbr ≠ gbo := (by rw [hg];exact Nat.ne_of_lt (blk_lt BR.out));have ne4 : gbo ≠ gbr := Ne.symm ne3;clear hb hg hbox;replace hz_gbx_0 := y0 BX2;replace hf_gbx_0 := blk_frozen BX2.out 0;replace hz_gbx_1 := y1 BX2;replace hf_gbx_1 := blk_frozen BX2.out 1;have hz_gbo_0 := y0 BO2;have hf_gbo_0 := blk_frozen BO2.out 0;have hz_gbo_1 := y1 BO2;have hf_gbo_1 := blk_frozen BO2.out 1) | ((with_reducible refine gate_dst (N := 15) rfl ?_);(try (refine gate_guard (by rfl) ?_;dsimp only));refine goesE (some 15) Try.func73 #[.agg #[.slice A0 C.length c0,.slice A1 L.length c1],.agg #[.bool ol,.int .i64 ob]] ?_;have hBs : Below w.heap.size w ((w4.setCell ⟨gbo,0,none⟩ (.bool ol)).setCell ⟨gbo,1,none⟩ (.int .i64 ob)) := below_set (below_set (below_step HB.out HBB.out) (by rw [HGO.out];exact HB.out.size)) (by rw [HGO.out];exact HB.out.size);have hXs := blk_far (p := ⟨gbo,1,none⟩) (blk_far (p := ⟨gbo,0,none⟩) BX2.out ne1 (.bool ol)) ne1 (.int .i64 ob);have hRs := blk_far (p := ⟨gbo,1,none⟩) (blk_far (p := ⟨gbo,0,none⟩) BR2.out ne3 (.bool ol)) ne3 (.int .i64 ob);have hOs := blk_put (cs := #[.bool ol,.int .i64 0]) (blk_put (cs := #[.bool false,.int .i64 0]) BO2.out 0 (.bool ol) rfl) 1 (.int .i64 ob) rfl;(with_reducible refine (impl_openingCode.calls kc A0 c0 C A1 c1 L ol ob 1 _ ?side1 HC0.out ?side2 HC1.out HCO.out).mono ?_);(case side1 => exact Kd.C_below HR0.out hBs);(case side2 => exact Kd.C_below HR1.out hBs);rintro e w5 ⟨rfl,hb⟩;refine ⟨_,rfl,?_⟩;replace BX := aK (blk_below (g := gbx) (o := .cells #[.slice A0 C.length c0,.slice A1 L.length c1] 27 (0,0)) hXs hb);have BO := aK (blk_below (g := gbo) (o := .cells #[.bool ol,.int .i64 ob] 75 (0,0)) hOs hb);replace HB := aK (below_step hBs hb);replace BR := aK (blk_below (g := gbr) (o := .cells #[.slice none 0 0,.slice none 0 0] 27 (0,0)) hRs hb);clear BX2 BO2 BR2 HBB HGO hBs hXs hOs hRs hb;(try clear hz_gbx_0 hz_gbx_1 hf_gbx_0 hf_gbx_1 hz_gbo_0 hz_gbo_1 hf_gbo_0 hf_gbo_1 hz_gbr_0 hz_gbr_1 hf_gbr_0 hf_gbr_1);have hz_gbx_0 := y0 BX;have hf_gbx_0 := blk_frozen BX.out 0;have hz_gbx_1 := y1 BX;have hf_gbx_1 := blk_frozen BX.out 1;have hz_gbo_0 := y0 BO;have hf_gbo_0 := blk_frozen BO.out 0;have hz_gbo_1 := y1 BO;have hf_gbo_1 := blk_frozen BO.out 1;have hz_gbr_0 := y0 BR;have hf_gbr_0 := blk_frozen BR.out 0;have hz_gbr_1 := y1 BR;have hf_gbr_1 := blk_frozen BR.out 1))
  refine bodyPost_ret (results_ct rfl _ _ gbr 27 #[.slice none 0 0,.slice none 0 0] (0,0) _ rfl (by refine blk_put (cs := #[.slice none 0 0,.slice none 0 0]) ?_ 1 _ rfl;refine blk_put (cs := #[.slice none 0 0,.slice none 0 0]) ?_ 0 _ rfl;exact BR.out) Try.underlying27 rfl (by kernel_rfl)) rfl ?_;exact ⟨_,_,rfl,Kd.R_nil _ _ _ _ _,Kd.R_nil _ _ _ _ _,below_set (below_set HB.out GR.out) GR.out⟩
 ·rw [haf (by rw [hc];decide),hc] at h';rw [hc] at hkc;have HCO := aK hkc;simp only [Prod.mk.injEq] at h';obtain ⟨rfl,rfl,rfl⟩ := h';clear hsz hkc haf hc;go_enter Try.func27,Try.ntmps27
  go_wp2_with (first | ((with_reducible refine gate_dst (N := 3) rfl ?_);(try (refine gate_guard (by rfl) ?_;dsimp only));refine boxE 3 #[.slice A0 C.length c0,.slice A1 L.length c1] 27 ?_;intro gbx hg w2 hbox hb;have BX := aK hbox;clear hg hbox;replace HB := aK (below_step HB.out hb);clear hb;have hz_gbx_0 := y0 BX;have hf_gbx_0 := blk_frozen BX.out 0;have hz_gbx_1 := y1 BX;have hf_gbx_1 := blk_frozen BX.out 1) | ((with_reducible refine gate_dst (N := 6) rfl ?_);(try (refine gate_guard (by rfl) ?_;dsimp only));refine boxE 6 #[.slice none 0 0,.slice none 0 0] 27 ?_;intro gbr hg w3 hbox hb;have BR := aK hbox;have GR := aK (show w.heap.size ≤ gbr by rw [hg];exact HB.out.size);have NXR := aK (show gbx ≠ gbr by rw [hg];exact Nat.ne_of_lt (blk_lt BX.out));clear hg hbox;replace BX := aK (blk_below (g := gbx) (o := .cells #[.slice A0 C.length c0,.slice A1 L.length c1] 27 (0,0)) BX.out hb);replace HB := aK (below_step HB.out hb);clear hb;replace hz_gbx_0 := y0 BX;replace hf_gbx_0 := blk_frozen BX.out 0;replace hz_gbx_1 := y1 BX;replace hf_gbx_1 := blk_frozen BX.out 1;have hz_gbr_0 := y0 BR;have hf_gbr_0 := blk_frozen BR.out 0;have hz_gbr_1 := y1 BR;have hf_gbr_1 := blk_frozen BR.out 1) | ((with_reducible refine gate_dst (N := 8) rfl ?_);(try (refine gate_guard (by rfl) ?_;dsimp only));refine boxE 8 #[.bool false,.int .i64 0] 75 ?_;intro gbo hg w4 hbox hb;have HBB := aK hb;have HGO := aK hg;have BX2 := aK (blk_below (g := gbx) (o := .cells #[.slice A0 C.length c0,.slice A1 L.length c1] 27 (0,0)) BX.out hb);have BR2 := aK (blk_below (g := gbr) (o := .cells #[.slice none 0 0,.slice none 0 0] 27 (0,0)) BR.out hb);have BO2 := aK hbox;have ne1 : gbx ≠ gbo := (by rw [hg];exact Nat.ne_of_lt (blk_lt BX.out));have ne2 : gbo ≠ gbx := Ne.symm ne1;have ne3 : gbr ≠ gbo := (by rw [hg];exact Nat.ne_of_lt (blk_lt BR.out));have ne4 : gbo ≠ gbr := Ne.symm ne3;clear hb hg hbox;replace hz_gbx_0 := y0 BX2;replace hf_gbx_0 := blk_frozen BX2.out 0;replace hz_gbx_1 := y1 BX2;replace hf_gbx_1 := blk_frozen BX2.out 1;have hz_gbo_0 := y0 BO2;have hf_gbo_0 := blk_frozen BO2.out 0;have hz_gbo_1 := y1 BO2;have hf_gbo_1 := blk_frozen BO2.out 1) | ((with_reducible refine gate_dst (N := 15) rfl ?_);(try (refine gate_guard (by rfl) ?_;dsimp only));refine goesE (some 15) Try.func73 #[.agg #[.slice A0 C.length c0,.slice A1 L.length c1],.agg #[.bool ol,.int .i64 ob]] ?_;have hBs : Below w.heap.size w ((w4.setCell ⟨gbo,0,none⟩ (.bool ol)).setCell ⟨gbo,1,none⟩ (.int .i64 ob)) := below_set (below_set (below_step HB.out HBB.out) (by rw [HGO.out];exact HB.out.size)) (by rw [HGO.out];exact HB.out.size);have hXs := blk_far (p := ⟨gbo,1,none⟩) (blk_far (p := ⟨gbo,0,none⟩) BX2.out ne1 (.bool ol)) ne1 (.int .i64 ob);have hRs := blk_far (p := ⟨gbo,1,none⟩) (blk_far (p := ⟨gbo,0,none⟩) BR2.out ne3 (.bool ol)) ne3 (.int .i64 ob);have hOs := blk_put (cs := #[.bool ol,.int .i64 0]) (blk_put (cs := #[.bool false,.int .i64 0]) BO2.out 0 (.bool ol) rfl) 1 (.int .i64 ob) rfl;(with_reducible refine (impl_openingCode.calls kc A0 c0 C A1 c1 L ol ob 5 _ ?side1 HC0.out ?side2 HC1.out HCO.out).mono ?_);(case side1 => exact Kd.C_below HR0.out hBs);(case side2 => exact Kd.C_below HR1.out hBs);rintro e w5 ⟨rfl,hb⟩;refine ⟨_,rfl,?_⟩;replace BX := aK (blk_below (g := gbx) (o := .cells #[.slice A0 C.length c0,.slice A1 L.length c1] 27 (0,0)) hXs hb);have BO := aK (blk_below (g := gbo) (o := .cells #[.bool ol,.int .i64 ob] 75 (0,0)) hOs hb);replace HB := aK (below_step hBs hb);replace BR := aK (blk_below (g := gbr) (o := .cells #[.slice none 0 0,.slice none 0 0] 27 (0,0)) hRs hb);clear BX2 BO2 BR2 HBB HGO hBs hXs hOs hRs hb;(try clear hz_gbx_0 hz_gbx_1 hf_gbx_0 hf_gbx_1 hz_gbo_0 hz_gbo_1 hf_gbo_0 hf_gbo_1 hz_gbr_0 hz_gbr_1 hf_gbr_0 hf_gbr_1);have hz_gbx_0 := y0 BX;have hf_gbx_0 := blk_frozen BX.out 0;have hz_gbx_1 := y1 BX;have hf_gbx_1 := blk_frozen BX.out 1;have hz_gbo_0 := y0 BO;have hf_gbo_0 := blk_frozen BO.out 0;have hz_gbo_1 := y1 BO;have hf_gbo_1 := blk_frozen BO.out 1;have hz_gbr_0 := y0 BR;have hf_gbr_0 := blk_frozen BR.out 0;have hz_gbr_1 := y1 BR;have hf_gbr_1 := blk_frozen BR.out 1))
  refine bodyPost_ret (results_ct rfl _ _ gbr 27 #[.slice none 0 0,.slice none 0 0] (0,0) _ rfl (by refine blk_put (cs := #[.slice none 0 0,.slice none 0 0]) ?_ 1 _ rfl;refine blk_put (cs := #[.slice none 0 0,.slice none 0 0]) ?_ 0 _ rfl;exact BR.out) Try.underlying27 rfl (by kernel_rfl)) rfl ?_;exact ⟨_,_,rfl,Kd.R_nil _ _ _ _ _,Kd.R_nil _ _ _ _ _,below_set (below_set HB.out GR.out) GR.out⟩
 ·have hO := isEnd_ok hE;obtain ⟨kw,hkw⟩ := Ev.rounds (without_ev C L (ol,ob) (by omega) (by omega) (isIn_opens.1 hI));have HWO := aK hkw;rw [hc] at hkc;have HCO := aK hkc;unfold afterOf at h';rw [hE,hI,if_pos rfl,if_pos rfl] at h';simp only [Prod.mk.injEq] at h';obtain ⟨rfl,rfl,rfl⟩ := h';clear hsz hkc haf hc hE hI hO hkw;go_enter Try.func27,Try.ntmps27
  go_wp2_with (first | ((with_reducible refine gate_dst (N := 3) rfl ?_);(try (refine gate_guard (by rfl) ?_;dsimp only));refine boxE 3 #[.slice A0 C.length c0,.slice A1 L.length c1] 27 ?_;intro gbx hg w2 hbox hb;have BX := aK hbox;clear hg hbox;replace HB := aK (below_step HB.out hb);clear hb;have hz_gbx_0 := y0 BX;have hf_gbx_0 := blk_frozen BX.out 0;have hz_gbx_1 := y1 BX;have hf_gbx_1 := blk_frozen BX.out 1) | ((with_reducible refine gate_dst (N := 6) rfl ?_);(try (refine gate_guard (by rfl) ?_;dsimp only));refine boxE 6 #[.slice none 0 0,.slice none 0 0] 27 ?_;intro gbr hg w3 hbox hb;have BR := aK hbox;have GR := aK (show w.heap.size ≤ gbr by rw [hg];exact HB.out.size);have NXR := aK (show gbx ≠ gbr by rw [hg];exact Nat.ne_of_lt (blk_lt BX.out));clear hg hbox;replace BX := aK (blk_below (g := gbx) (o := .cells #[.slice A0 C.length c0,.slice A1 L.length c1] 27 (0,0)) BX.out hb);replace HB := aK (below_step HB.out hb);clear hb;replace hz_gbx_0 := y0 BX;replace hf_gbx_0 := blk_frozen BX.out 0;replace hz_gbx_1 := y1 BX;replace hf_gbx_1 := blk_frozen BX.out 1;have hz_gbr_0 := y0 BR;have hf_gbr_0 := blk_frozen BR.out 0;have hz_gbr_1 := y1 BR;have hf_gbr_1 := blk_frozen BR.out 1) | ((with_reducible refine gate_dst (N := 8) rfl ?_);(try (refine gate_guard (by rfl) ?_;dsimp only));refine boxE 8 #[.bool false,.int .i64 0] 75 ?_;intro gbo hg w4 hbox hb;have HBB := aK hb;have HGO := aK hg;have BX2 := aK (blk_below (g := gbx) (o := .cells #[.slice A0 C.length c0,.slice A1 L.length c1] 27 (0,0)) BX.out hb);have BR2 := aK (blk_below (g := gbr) (o := .cells #[.slice none 0 0,.slice none 0 0] 27 (0,0)) BR.out hb);have BO2 := aK hbox;have ne1 : gbx ≠ gbo := (by rw [hg];exact Nat.ne_of_lt (blk_lt BX.out));have ne2 : gbo ≠ gbx := Ne.symm ne1;have ne3 : gbr ≠ gbo := (by rw [hg];exact Nat.ne_of_lt (blk_lt BR.out));have ne4 : gbo ≠ gbr := Ne.symm ne3;clear hb hg hbox;replace hz_gbx_0 := y0 BX2;replace hf_gbx_0 := blk_frozen BX2.out 0;replace hz_gbx_1 := y1 BX2;replace hf_gbx_1 := blk_frozen BX2.out 1;have hz_gbo_0 := y0 BO2;have hf_gbo_0 := blk_frozen BO2.out 0;have hz_gbo_1 := y1 BO2;have hf_gbo_1 := blk_frozen BO2.out 1) | ((with_reducible refine gate_dst (N := 15) rfl ?_);(try (refine gate_guard (by rfl) ?_;dsimp only));refine goesE (some 15) Try.func73 #[.agg #[.slice A0 C.length c0,.slice A1 L.length c1],.agg #[.bool ol,.int .i64 ob]] ?_;have hBs : Below w.heap.size w ((w4.setCell ⟨gbo,0,none⟩ (.bool ol)).setCell ⟨gbo,1,none⟩ (.int .i64 ob)) := below_set (below_set (below_step HB.out HBB.out) (by rw [HGO.out];exact HB.out.size)) (by rw [HGO.out];exact HB.out.size);have hXs := blk_far (p := ⟨gbo,1,none⟩) (blk_far (p := ⟨gbo,0,none⟩) BX2.out ne1 (.bool ol)) ne1 (.int .i64 ob);have hRs := blk_far (p := ⟨gbo,1,none⟩) (blk_far (p := ⟨gbo,0,none⟩) BR2.out ne3 (.bool ol)) ne3 (.int .i64 ob);have hOs := blk_put (cs := #[.bool ol,.int .i64 0]) (blk_put (cs := #[.bool false,.int .i64 0]) BO2.out 0 (.bool ol) rfl) 1 (.int .i64 ob) rfl;(with_reducible refine (impl_openingCode.calls kc A0 c0 C A1 c1 L ol ob 0 _ ?side1 HC0.out ?side2 HC1.out HCO.out).mono ?_);(case side1 => exact Kd.C_below HR0.out hBs);(case side2 => exact Kd.C_below HR1.out hBs);rintro e w5 ⟨rfl,hb⟩;refine ⟨_,rfl,?_⟩;replace BX := aK (blk_below (g := gbx) (o := .cells #[.slice A0 C.length c0,.slice A1 L.length c1] 27 (0,0)) hXs hb);have BO := aK (blk_below (g := gbo) (o := .cells #[.bool ol,.int .i64 ob] 75 (0,0)) hOs hb);replace HB := aK (below_step hBs hb);replace BR := aK (blk_below (g := gbr) (o := .cells #[.slice none 0 0,.slice none 0 0] 27 (0,0)) hRs hb);clear BX2 BO2 BR2 HBB HGO hBs hXs hOs hRs hb;(try clear hz_gbx_0 hz_gbx_1 hf_gbx_0 hf_gbx_1 hz_gbo_0 hz_gbo_1 hf_gbo_0 hf_gbo_1 hz_gbr_0 hz_gbr_1 hf_gbr_0 hf_gbr_1);have hz_gbx_0 := y0 BX;have hf_gbx_0 := blk_frozen BX.out 0;have hz_gbx_1 := y1 BX;have hf_gbx_1 := blk_frozen BX.out 1;have hz_gbo_0 := y0 BO;have hf_gbo_0 := blk_frozen BO.out 0;have hz_gbo_1 := y1 BO;have hf_gbo_1 := blk_frozen BO.out 1;have hz_gbr_0 := y0 BR;have hf_gbr_0 := blk_frozen BR.out 0;have hz_gbr_1 := y1 BR;have hf_gbr_1 := blk_frozen BR.out 1) | ((with_reducible refine gate_dst (N := 22) rfl ?_);(try (refine gate_guard (by rfl) ?_;dsimp only));refine goesE (some 22) Try.func74 #[.agg #[.slice A0 C.length c0,.slice A1 L.length c1],.agg #[.bool ol,.int .i64 ob]] ?_;(with_reducible refine (impl_Ending_without.calls kw A0 c0 C A1 c1 L ol ob (lessC C (ol,ob)) (lessL L (ol,ob)) _ ?side1 HC0.out ?side2 HC1.out HWO.out).mono ?_);(case side1 => exact Kd.C_below HR0.out HB.out);(case side2 => exact Kd.C_below HR1.out HB.out);rintro e w6 ⟨v0,v1,rfl,h0,h1,hb⟩;refine ⟨_,rfl,?_⟩;obtain ⟨A2,c2,e2⟩ := Kd.R_slice h0;subst e2;obtain ⟨A3,c3,e3⟩ := Kd.R_slice h1;subst e3;have H0 := aK (Kd.R_lower h0 HB.out.size);have H1 := aK (Kd.R_lower h1 HB.out.size);clear h0 h1;replace BX := aK (blk_below (g := gbx) (o := .cells #[.slice A0 C.length c0,.slice A1 L.length c1] 27 (0,0)) BX.out hb);replace BR := aK (blk_below (g := gbr) (o := .cells #[.slice none 0 0,.slice none 0 0] 27 (0,0)) BR.out hb);replace HB := aK (below_step HB.out hb);clear hb BO;replace hz_gbx_0 := y0 BX;replace hf_gbx_0 := blk_frozen BX.out 0;replace hz_gbx_1 := y1 BX;replace hf_gbx_1 := blk_frozen BX.out 1;replace hz_gbr_0 := y0 BR;replace hf_gbr_0 := blk_frozen BR.out 0;replace hz_gbr_1 := y1 BR;replace hf_gbr_1 := blk_frozen BR.out 1))
  refine bodyPost_ret (results_ct rfl _ _ gbr 27 #[.slice A2 (lessC C (ol,ob)).length c2,.slice A3 (lessL L (ol,ob)).length c3] (0,0) _ rfl (by refine blk_put (cs := #[.slice A2 (lessC C (ol,ob)).length c2,.slice none 0 0]) ?_ 1 _ rfl;refine blk_put (cs := #[.slice none 0 0,.slice none 0 0]) ?_ 0 _ rfl;exact BR.out) Try.underlying27 rfl (by kernel_rfl)) rfl ?_;exact ⟨_,_,rfl,Kd.R_mono (Kd.R_far (p := ⟨gbr,1,none⟩) (Kd.R_far (p := ⟨gbr,0,none⟩) (Kd.R_types H0.out BR.out (by decide)) (fun _ hk => hk.2) (.slice A2 (lessC C (ol,ob)).length c2)) (fun _ hk => hk.2) (.slice A3 (lessL L (ol,ob)).length c3)) (fun _ hk => hk.1),Kd.R_mono (Kd.R_far (p := ⟨gbr,1,none⟩) (Kd.R_far (p := ⟨gbr,0,none⟩) (Kd.R_types H1.out BR.out (by decide)) (fun _ hk => hk.2) (.slice A2 (lessC C (ol,ob)).length c2)) (fun _ hk => hk.2) (.slice A3 (lessL L (ol,ob)).length c3)) (fun _ hk => hk.1),below_set (below_set HB.out GR.out) GR.out⟩
abbrev RdE (w : World) (bm : Nat) (v : Value) (xs : List Int) : Prop := Kd.V (Kd.int .i64) 2 w 0 (fun k => k ≠ bm) v xs
theorem RdE.new {w : World} {B bm : Nat} {ok : Nat → Prop} {v : Value} {xs : List Int} (h : Kd.R (Kd.int .i64) 2 w B ok v xs) (hb : bm < B) : RdE w bm v xs :=
 Kd.R_V (Kd.R_mono (Kd.R_bound h) (fun k hk e => by have h1 := hk.2.1;subst e;omega))
def Known (bm b7 bf n : Nat) (w : World) : Prop := (∃ M, M.length ≤ n ∧ MemAt w bm M) ∧ w.heap[b7]? = some (.cells #[.map (some bm)] 109 (0, 0)) ∧ w.heap[bf]? = some (.cells #[.func (.func 104) #[] #[.pointer (some ⟨b7, 0, none⟩), .pointer (some ⟨bf, 0, none⟩)]] 82 (0, 0))
theorem Known.lt {bm b7 bf n : Nat} {w : World} (h : Known bm b7 bf n w) : bm < w.heap.size := by
 obtain ⟨⟨M,_,hM⟩,_⟩ := h;exact hM.lt
theorem Known.below {bm b7 bf n : Nat} {w w' : World} (h : Known bm b7 bf n w) (hb : Below w.heap.size w w') : Known bm b7 bf n w' := by
 have hlt := h.lt;obtain ⟨⟨M,h1,hM⟩,h2,h3⟩ := h;exact ⟨⟨M,h1,hM.below hb hlt⟩,blk_below h2 hb,blk_below h3 hb⟩
theorem Known.more {bm b7 bf n m : Nat} {w : World} (h : Known bm b7 bf n w) (hm : n ≤ m) : Known bm b7 bf m w := by
 obtain ⟨⟨M,h1,hM⟩,h2⟩ := h;exact ⟨⟨M,Nat.le_trans h1 hm,hM⟩,h2⟩
theorem Known.ne {bm b7 bf n g : Nat} {w : World} {cs : Array Value} {t : TypeId} {fr : Nat × Nat} (h : Known bm b7 bf n w) (hg : w.heap[g]? = some (.cells cs t fr)) : some g ≠ some bm := by
 obtain ⟨⟨M,_,⟨⟨es,clock,h1,_⟩,_⟩⟩,_⟩ := h;intro e;cases e;rw [h1] at hg;cases hg
theorem RdE.grown {w w' : World} {bm : Nat} {v : Value} {xs : List Int} (h : RdE w bm v xs) (hg : w.grownBy w' (some bm)) : RdE w' bm v xs := Kd.V_grown h hg (fun k hk e => hk (by injection e))
/-- How many values are stored at most when one is asked for. -/
def costT : Nat → Nat
 | 0 => 1
 | s + 1 => 1 + (s + 1) * costT s
theorem find_has : HasFn 104 := ⟨_, Try.func104, by kernel_rfl, rfl⟩
def FindOk (s : Nat) : Prop := ∀ (bm b7 bf : Nat) (C L : List Int) (vC vL : Value) (n : Nat) (w : World), okC C → okL L → C.length + L.length ≤ s → RdE w bm vC C → RdE w bm vL L → Known bm b7 bf n w → n + costT s < 4294967296 →
 Calls Try.prog 104 (#[.agg #[vC,vL]] ++ #[.pointer (some ⟨b7,0,none⟩),.pointer (some ⟨bf,0,none⟩)]) w fun e w' => e = .returned (.int .i64 (val C L)) ∧ Known bm b7 bf (n + costT s) w' ∧ w.grownBy w' (some bm)
set_option maxHeartbeats 16000000 in
set_option maxRecDepth 100000 in
theorem answered.calls (s : Nat) (hF : FindOk s) (bm b7 bf : Nat) (C L : List Int) (o : Bool × Int) (vC vL : Value) (n : Nat) (w : World) (hC : okC C) (hL : okL L) (ho : o ∈ opens C L) (hs : C.length + L.length ≤ s + 1) (h8 : C.length + L.length ≤ 8)
 (rC : RdE w bm vC C) (rL : RdE w bm vL L) (hK : Known bm b7 bf n w) (hn : n + costT s < 4294967296) :
 Calls Try.prog 82 #[.agg #[vC,vL],.agg #[.bool o.1,.int .i64 o.2],.func (.func 104) #[] #[.pointer (some ⟨b7,0,none⟩),.pointer (some ⟨bf,0,none⟩)]] w fun e w' => e = .returned (.tuple #[.int .i64 (worth C L o).1,.bool (worth C L o).2]) ∧ Known bm b7 bf (n + costT s) w' ∧ w.grownBy w' (some bm) := by
 have hu27 := Try.underlying27;have hu75 := Try.underlying75;obtain ⟨A0,c0,rfl⟩ := Kd.V_slice rC;obtain ⟨A1,c1,rfl⟩ := Kd.V_slice rL;have RC := aK rC;have RL := aK rL;have KN := aK hK;have HG := aK (World.grownBy.refl w (some bm));have hsz := opens_size hC hL ho;have hr := rest_le hC hL h8 ho;have hll := less_len ho;obtain ⟨k,hk⟩ := Ev.rounds (without_ev C L o (by omega) (by omega) ho);have HW := aK hk;have HSP := aK (sparing_of o hsz);have HFF := aK (fun (vA vB : Value) (w1 : World) (h1 : RdE w1 bm vA (lessC C o)) (h2 : RdE w1 bm vB (lessL L o)) (h3 : Known bm b7 bf n w1) => hF bm b7 bf (lessC C o) (lessL L o) vA vB n w1 (less_okC hC) (less_okL hL) (by omega) h1 h2 h3 hn);have HWO : Aside0 (worth C L o = ansOf o (val (lessC C o) (lessL L o))) := ⟨rfl⟩
 generalize val (lessC C o) (lessL L o) = r at *
 have hm1 : moreO o = o.2 - 8 ∨ moreO o = o.2 - 4 := by
  unfold moreO
  split
  ·exact .inl rfl
  ·exact .inr rfl
 have ww1 : wrap64 (-o.2) = -o.2 := by unfold wrap64;omega
 have ww2 : wrap64 (-o.2 - r) = -o.2 - r := by unfold wrap64;omega
 have ww3 : wrap64 (r - moreO o) = r - moreO o := by unfold wrap64;omega
 have wk1 : IntKind.i64.wrap (-o.2) = -o.2 := (i64_w _).trans ww1;have wk2 : IntKind.i64.wrap (-o.2 - r) = -o.2 - r := (i64_w _).trans ww2;have wk3 : IntKind.i64.wrap (r - moreO o) = r - moreO o := (i64_w _).trans ww3;clear rC rL hK hk hsz hr hll hF hn hC hL ho hs h8 hm1
 cases hok : okO o with
 | false =>
  rw [hok] at HSP;have HOK := aK hok;clear hok;go_enter Try.func82,Try.ntmps82
  go_wp2_with (first | ((with_reducible refine gate_dst (N := 3) rfl ?_);(try (refine gate_guard (by rfl) ?_;dsimp only));refine boxE 3 #[.slice A0 C.length c0,.slice A1 L.length c1] 27 ?_;intro gbx hg w2 hbox hb;have BX := aK hbox;clear hg hbox;replace RC := aK (Kd.V_below RC.out hb);replace RL := aK (Kd.V_below RL.out hb);replace KN := aK (Known.below KN.out hb);replace HG := aK (HG.out.trans (grown_of_below hb _));clear hb) | ((with_reducible refine gate_dst (N := 4) rfl ?_);(try (refine gate_guard (by rfl) ?_;dsimp only));refine boxE 4 #[.bool o.1,.int .i64 o.2] 75 ?_;intro gbo hg w3 hbox hb;have BO := aK hbox;clear hg hbox;replace RC := aK (Kd.V_below RC.out hb);replace RL := aK (Kd.V_below RL.out hb);replace KN := aK (Known.below KN.out hb);replace BX := aK (blk_below (g := gbx) (o := .cells #[.slice A0 C.length c0,.slice A1 L.length c1] 27 (0,0)) BX.out hb);replace HG := aK (HG.out.trans (grown_of_below hb _));clear hb;have hz_gbx_0 := y0 BX;have hf_gbx_0 := blk_frozen BX.out 0;have hz_gbx_1 := y1 BX;have hf_gbx_1 := blk_frozen BX.out 1;have hz_gbo_0 := y0 BO;have hf_gbo_0 := blk_frozen BO.out 0;have hz_gbo_1 := y1 BO;have hf_gbo_1 := blk_frozen BO.out 1) | ((with_reducible refine gate_dst (N := 15) rfl ?_);(try (refine gate_guard (by rfl) ?_;dsimp only));refine goesE (some 15) Try.func74 #[.agg #[.slice A0 C.length c0,.slice A1 L.length c1],.agg #[.bool o.1,.int .i64 o.2]] ?_;(with_reducible refine (impl_Ending_without.calls k _ _ C _ _ L o.1 o.2 (lessC C o) (lessL L o) _ ?side1 ?side2 ?side3 ?side4 HW.out).mono ?_);(case side1 => exact (Kd.V_reads' RC.out).2.2);(case side2 => exact (Kd.V_reads' RC.out).2.1);(case side3 => exact (Kd.V_reads' RL.out).2.2);(case side4 => exact (Kd.V_reads' RL.out).2.1);rintro e w4 ⟨v0,v1,rfl,h0,h1,hb⟩;refine ⟨_,rfl,?_⟩;have S0 := aK (RdE.new h0 (Known.lt KN.out));have S1 := aK (RdE.new h1 (Known.lt KN.out));clear h0 h1;replace RC := aK (Kd.V_below RC.out hb);replace RL := aK (Kd.V_below RL.out hb);replace KN := aK (Known.below KN.out hb);replace BX := aK (blk_below (g := gbx) (o := .cells #[.slice A0 C.length c0,.slice A1 L.length c1] 27 (0,0)) BX.out hb);replace BO := aK (blk_below (g := gbo) (o := .cells #[.bool o.1,.int .i64 o.2] 75 (0,0)) BO.out hb);replace HG := aK (HG.out.trans (grown_of_below hb _));clear hb;replace hz_gbx_0 := y0 BX;replace hf_gbx_0 := blk_frozen BX.out 0;replace hz_gbx_1 := y1 BX;replace hf_gbx_1 := blk_frozen BX.out 1;replace hz_gbo_0 := y0 BO;replace hf_gbo_0 := blk_frozen BO.out 0;replace hz_gbo_1 := y1 BO;replace hf_gbo_1 := blk_frozen BO.out 1) | ((with_reducible refine gate_dst (N := 16) rfl ?_);(try (refine gate_guard (by rfl) ?_;dsimp only));refine goesV_ (some 16) rfl rfl 104 #[.pointer (some ⟨b7,0,none⟩),.pointer (some ⟨bf,0,none⟩)] find_has #[.agg #[v0,v1]] rfl rfl (by (try simp only [List.map_toArray,List.map_cons,List.map_nil]);first | done | rfl) ?_;(with_reducible refine (HFF.out v0 v1 _ S0.out S1.out KN.out).mono ?_);rintro e w5 ⟨rfl,hkn,hg⟩;refine ⟨_,rfl,?_⟩;replace RC := aK (RdE.grown RC.out hg);replace RL := aK (RdE.grown RL.out hg);replace BX := aK (blk_grown (g := gbx) (o := .cells #[.slice A0 C.length c0,.slice A1 L.length c1] 27 (0,0)) BX.out hg (Known.ne KN.out BX.out));replace BO := aK (blk_grown (g := gbo) (o := .cells #[.bool o.1,.int .i64 o.2] 75 (0,0)) BO.out hg (Known.ne KN.out BO.out));replace HG := aK (HG.out.trans hg);replace KN := aK hkn;clear hkn hg S0 S1;replace hz_gbx_0 := y0 BX;replace hf_gbx_0 := blk_frozen BX.out 0;replace hz_gbx_1 := y1 BX;replace hf_gbx_1 := blk_frozen BX.out 1;replace hz_gbo_0 := y0 BO;replace hf_gbo_0 := blk_frozen BO.out 0;replace hz_gbo_1 := y1 BO;replace hf_gbo_1 := blk_frozen BO.out 1) | ((with_reducible refine gate_dst (N := 24) rfl ?_);(try (refine gate_guard (by rfl) ?_;dsimp only));refine goesE (some 24) Try.func71 #[.agg #[.bool o.1,.int .i64 o.2]] ?_;(with_reducible refine (impl_opening_sparing.calls o.1 o.2 (moreO o) false _ HSP.out).mono ?_);rintro e w6 ⟨rfl,hb⟩;refine ⟨_,rfl,?_⟩;replace RC := aK (Kd.V_below RC.out hb);replace RL := aK (Kd.V_below RL.out hb);replace KN := aK (Known.below KN.out hb);replace BX := aK (blk_below (g := gbx) (o := .cells #[.slice A0 C.length c0,.slice A1 L.length c1] 27 (0,0)) BX.out hb);replace BO := aK (blk_below (g := gbo) (o := .cells #[.bool o.1,.int .i64 o.2] 75 (0,0)) BO.out hb);replace HG := aK (HG.out.trans (grown_of_below hb _));clear hb;replace hz_gbx_0 := y0 BX;replace hf_gbx_0 := blk_frozen BX.out 0;replace hz_gbx_1 := y1 BX;replace hf_gbx_1 := blk_frozen BX.out 1;replace hz_gbo_0 := y0 BO;replace hf_gbo_0 := blk_frozen BO.out 0;replace hz_gbo_1 := y1 BO;replace hf_gbo_1 := blk_frozen BO.out 1))
  go_ret2;exact ⟨by rw [HWO.out,ansOf_no (.inl HOK.out)];first | rfl | (simp;done),KN.out,HG.out⟩
 | true =>
  rw [hok] at HSP;have HOK := aK hok;clear hok
  by_cases hlt : r - moreO o < -o.2 - r
  ·have HLT := aK hlt;have hltb := decide_eq_true hlt;clear hlt;go_enter Try.func82,Try.ntmps82
   go_wp2_with (first | ((with_reducible refine gate_dst (N := 3) rfl ?_);(try (refine gate_guard (by rfl) ?_;dsimp only));refine boxE 3 #[.slice A0 C.length c0,.slice A1 L.length c1] 27 ?_;intro gbx hg w2 hbox hb;have BX := aK hbox;clear hg hbox;replace RC := aK (Kd.V_below RC.out hb);replace RL := aK (Kd.V_below RL.out hb);replace KN := aK (Known.below KN.out hb);replace HG := aK (HG.out.trans (grown_of_below hb _));clear hb) | ((with_reducible refine gate_dst (N := 4) rfl ?_);(try (refine gate_guard (by rfl) ?_;dsimp only));refine boxE 4 #[.bool o.1,.int .i64 o.2] 75 ?_;intro gbo hg w3 hbox hb;have BO := aK hbox;clear hg hbox;replace RC := aK (Kd.V_below RC.out hb);replace RL := aK (Kd.V_below RL.out hb);replace KN := aK (Known.below KN.out hb);replace BX := aK (blk_below (g := gbx) (o := .cells #[.slice A0 C.length c0,.slice A1 L.length c1] 27 (0,0)) BX.out hb);replace HG := aK (HG.out.trans (grown_of_below hb _));clear hb;have hz_gbx_0 := y0 BX;have hf_gbx_0 := blk_frozen BX.out 0;have hz_gbx_1 := y1 BX;have hf_gbx_1 := blk_frozen BX.out 1;have hz_gbo_0 := y0 BO;have hf_gbo_0 := blk_frozen BO.out 0;have hz_gbo_1 := y1 BO;have hf_gbo_1 := blk_frozen BO.out 1) | ((with_reducible refine gate_dst (N := 15) rfl ?_);(try (refine gate_guard (by rfl) ?_;dsimp only));refine goesE (some 15) Try.func74 #[.agg #[.slice A0 C.length c0,.slice A1 L.length c1],.agg #[.bool o.1,.int .i64 o.2]] ?_;(with_reducible refine (impl_Ending_without.calls k _ _ C _ _ L o.1 o.2 (lessC C o) (lessL L o) _ ?side1 ?side2 ?side3 ?side4 HW.out).mono ?_);(case side1 => exact (Kd.V_reads' RC.out).2.2);(case side2 => exact (Kd.V_reads' RC.out).2.1);(case side3 => exact (Kd.V_reads' RL.out).2.2);(case side4 => exact (Kd.V_reads' RL.out).2.1);rintro e w4 ⟨v0,v1,rfl,h0,h1,hb⟩;refine ⟨_,rfl,?_⟩;have S0 := aK (RdE.new h0 (Known.lt KN.out));have S1 := aK (RdE.new h1 (Known.lt KN.out));clear h0 h1;replace RC := aK (Kd.V_below RC.out hb);replace RL := aK (Kd.V_below RL.out hb);replace KN := aK (Known.below KN.out hb);replace BX := aK (blk_below (g := gbx) (o := .cells #[.slice A0 C.length c0,.slice A1 L.length c1] 27 (0,0)) BX.out hb);replace BO := aK (blk_below (g := gbo) (o := .cells #[.bool o.1,.int .i64 o.2] 75 (0,0)) BO.out hb);replace HG := aK (HG.out.trans (grown_of_below hb _));clear hb;replace hz_gbx_0 := y0 BX;replace hf_gbx_0 := blk_frozen BX.out 0;replace hz_gbx_1 := y1 BX;replace hf_gbx_1 := blk_frozen BX.out 1;replace hz_gbo_0 := y0 BO;replace hf_gbo_0 := blk_frozen BO.out 0;replace hz_gbo_1 := y1 BO;replace hf_gbo_1 := blk_frozen BO.out 1) | ((with_reducible refine gate_dst (N := 16) rfl ?_);(try (refine gate_guard (by rfl) ?_;dsimp only));refine goesV_ (some 16) rfl rfl 104 #[.pointer (some ⟨b7,0,none⟩),.pointer (some ⟨bf,0,none⟩)] find_has #[.agg #[v0,v1]] rfl rfl (by (try simp only [List.map_toArray,List.map_cons,List.map_nil]);first | done | rfl) ?_;(with_reducible refine (HFF.out v0 v1 _ S0.out S1.out KN.out).mono ?_);rintro e w5 ⟨rfl,hkn,hg⟩;refine ⟨_,rfl,?_⟩;replace RC := aK (RdE.grown RC.out hg);replace RL := aK (RdE.grown RL.out hg);replace BX := aK (blk_grown (g := gbx) (o := .cells #[.slice A0 C.length c0,.slice A1 L.length c1] 27 (0,0)) BX.out hg (Known.ne KN.out BX.out));replace BO := aK (blk_grown (g := gbo) (o := .cells #[.bool o.1,.int .i64 o.2] 75 (0,0)) BO.out hg (Known.ne KN.out BO.out));replace HG := aK (HG.out.trans hg);replace KN := aK hkn;clear hkn hg S0 S1;replace hz_gbx_0 := y0 BX;replace hf_gbx_0 := blk_frozen BX.out 0;replace hz_gbx_1 := y1 BX;replace hf_gbx_1 := blk_frozen BX.out 1;replace hz_gbo_0 := y0 BO;replace hf_gbo_0 := blk_frozen BO.out 0;replace hz_gbo_1 := y1 BO;replace hf_gbo_1 := blk_frozen BO.out 1) | ((with_reducible refine gate_dst (N := 24) rfl ?_);(try (refine gate_guard (by rfl) ?_;dsimp only));refine goesE (some 24) Try.func71 #[.agg #[.bool o.1,.int .i64 o.2]] ?_;(with_reducible refine (impl_opening_sparing.calls o.1 o.2 (moreO o) true _ HSP.out).mono ?_);rintro e w6 ⟨rfl,hb⟩;refine ⟨_,rfl,?_⟩;replace RC := aK (Kd.V_below RC.out hb);replace RL := aK (Kd.V_below RL.out hb);replace KN := aK (Known.below KN.out hb);replace BX := aK (blk_below (g := gbx) (o := .cells #[.slice A0 C.length c0,.slice A1 L.length c1] 27 (0,0)) BX.out hb);replace BO := aK (blk_below (g := gbo) (o := .cells #[.bool o.1,.int .i64 o.2] 75 (0,0)) BO.out hb);replace HG := aK (HG.out.trans (grown_of_below hb _));clear hb;replace hz_gbx_0 := y0 BX;replace hf_gbx_0 := blk_frozen BX.out 0;replace hz_gbx_1 := y1 BX;replace hf_gbx_1 := blk_frozen BX.out 1;replace hz_gbo_0 := y0 BO;replace hf_gbo_0 := blk_frozen BO.out 0;replace hz_gbo_1 := y1 BO;replace hf_gbo_1 := blk_frozen BO.out 1))
   go_ret2;exact ⟨by rw [HWO.out,ansOf_ok HOK.out HLT.out];first | rfl | (simp;done),KN.out,HG.out⟩
  ·have HLT := aK hlt;have hltb := decide_eq_false hlt;clear hlt;go_enter Try.func82,Try.ntmps82
   go_wp2_with (first | ((with_reducible refine gate_dst (N := 3) rfl ?_);(try (refine gate_guard (by rfl) ?_;dsimp only));refine boxE 3 #[.slice A0 C.length c0,.slice A1 L.length c1] 27 ?_;intro gbx hg w2 hbox hb;have BX := aK hbox;clear hg hbox;replace RC := aK (Kd.V_below RC.out hb);replace RL := aK (Kd.V_below RL.out hb);replace KN := aK (Known.below KN.out hb);replace HG := aK (HG.out.trans (grown_of_below hb _));clear hb) | ((with_reducible refine gate_dst (N := 4) rfl ?_);(try (refine gate_guard (by rfl) ?_;dsimp only));refine boxE 4 #[.bool o.1,.int .i64 o.2] 75 ?_;intro gbo hg w3 hbox hb;have BO := aK hbox;clear hg hbox;replace RC := aK (Kd.V_below RC.out hb);replace RL := aK (Kd.V_below RL.out hb);replace KN := aK (Known.below KN.out hb);replace BX := aK (blk_below (g := gbx) (o := .cells #[.slice A0 C.length c0,.slice A1 L.length c1] 27 (0,0)) BX.out hb);replace HG := aK (HG.out.trans (grown_of_below hb _));clear hb;have hz_gbx_0 := y0 BX;have hf_gbx_0 := blk_frozen BX.out 0;have hz_gbx_1 := y1 BX;have hf_gbx_1 := blk_frozen BX.out 1;have hz_gbo_0 := y0 BO;have hf_gbo_0 := blk_frozen BO.out 0;have hz_gbo_1 := y1 BO;have hf_gbo_1 := blk_frozen BO.out 1) | ((with_reducible refine gate_dst (N := 15) rfl ?_);(try (refine gate_guard (by rfl) ?_;dsimp only));refine goesE (some 15) Try.func74 #[.agg #[.slice A0 C.length c0,.slice A1 L.length c1],.agg #[.bool o.1,.int .i64 o.2]] ?_;(with_reducible refine (impl_Ending_without.calls k _ _ C _ _ L o.1 o.2 (lessC C o) (lessL L o) _ ?side1 ?side2 ?side3 ?side4 HW.out).mono ?_);(case side1 => exact (Kd.V_reads' RC.out).2.2);(case side2 => exact (Kd.V_reads' RC.out).2.1);(case side3 => exact (Kd.V_reads' RL.out).2.2);(case side4 => exact (Kd.V_reads' RL.out).2.1);rintro e w4 ⟨v0,v1,rfl,h0,h1,hb⟩;refine ⟨_,rfl,?_⟩;have S0 := aK (RdE.new h0 (Known.lt KN.out));have S1 := aK (RdE.new h1 (Known.lt KN.out));clear h0 h1;replace RC := aK (Kd.V_below RC.out hb);replace RL := aK (Kd.V_below RL.out hb);replace KN := aK (Known.below KN.out hb);replace BX := aK (blk_below (g := gbx) (o := .cells #[.slice A0 C.length c0,.slice A1 L.length c1] 27 (0,0)) BX.out hb);replace BO := aK (blk_below (g := gbo) (o := .cells #[.bool o.1,.int .i64 o.2] 75 (0,0)) BO.out hb);replace HG := aK (HG.out.trans (grown_of_below hb _));clear hb;replace hz_gbx_0 := y0 BX;replace hf_gbx_0 := blk_frozen BX.out 0;replace hz_gbx_1 := y1 BX;replace hf_gbx_1 := blk_frozen BX.out 1;replace hz_gbo_0 := y0 BO;replace hf_gbo_0 := blk_frozen BO.out 0;replace hz_gbo_1 := y1 BO;replace hf_gbo_1 := blk_frozen BO.out 1) | ((with_reducible refine gate_dst (N := 16) rfl ?_);(try (refine gate_guard (by rfl) ?_;dsimp only));refine goesV_ (some 16) rfl rfl 104 #[.pointer (some ⟨b7,0,none⟩),.pointer (some ⟨bf,0,none⟩)] find_has #[.agg #[v0,v1]] rfl rfl (by (try simp only [List.map_toArray,List.map_cons,List.map_nil]);first | done | rfl) ?_;(with_reducible refine (HFF.out v0 v1 _ S0.out S1.out KN.out).mono ?_);rintro e w5 ⟨rfl,hkn,hg⟩;refine ⟨_,rfl,?_⟩;replace RC := aK (RdE.grown RC.out hg);replace RL := aK (RdE.grown RL.out hg);replace BX := aK (blk_grown (g := gbx) (o := .cells #[.slice A0 C.length c0,.slice A1 L.length c1] 27 (0,0)) BX.out hg (Known.ne KN.out BX.out));replace BO := aK (blk_grown (g := gbo) (o := .cells #[.bool o.1,.int .i64 o.2] 75 (0,0)) BO.out hg (Known.ne KN.out BO.out));replace HG := aK (HG.out.trans hg);replace KN := aK hkn;clear hkn hg S0 S1;replace hz_gbx_0 := y0 BX;replace hf_gbx_0 := blk_frozen BX.out 0;replace hz_gbx_1 := y1 BX;replace hf_gbx_1 := blk_frozen BX.out 1;replace hz_gbo_0 := y0 BO;replace hf_gbo_0 := blk_frozen BO.out 0;replace hz_gbo_1 := y1 BO;replace hf_gbo_1 := blk_frozen BO.out 1) | ((with_reducible refine gate_dst (N := 24) rfl ?_);(try (refine gate_guard (by rfl) ?_;dsimp only));refine goesE (some 24) Try.func71 #[.agg #[.bool o.1,.int .i64 o.2]] ?_;(with_reducible refine (impl_opening_sparing.calls o.1 o.2 (moreO o) true _ HSP.out).mono ?_);rintro e w6 ⟨rfl,hb⟩;refine ⟨_,rfl,?_⟩;replace RC := aK (Kd.V_below RC.out hb);replace RL := aK (Kd.V_below RL.out hb);replace KN := aK (Known.below KN.out hb);replace BX := aK (blk_below (g := gbx) (o := .cells #[.slice A0 C.length c0,.slice A1 L.length c1] 27 (0,0)) BX.out hb);replace BO := aK (blk_below (g := gbo) (o := .cells #[.bool o.1,.int .i64 o.2] 75 (0,0)) BO.out hb);replace HG := aK (HG.out.trans (grown_of_below hb _));clear hb;replace hz_gbx_0 := y0 BX;replace hf_gbx_0 := blk_frozen BX.out 0;replace hz_gbx_1 := y1 BX;replace hf_gbx_1 := blk_frozen BX.out 1;replace hz_gbo_0 := y0 BO;replace hf_gbo_0 := blk_frozen BO.out 0;replace hz_gbo_1 := y1 BO;replace hf_gbo_1 := blk_frozen BO.out 1))
   go_ret2;exact ⟨by rw [HWO.out,ansOf_no (.inr (by have h_ := HLT.out;omega))];first | rfl | (simp;done),KN.out,HG.out⟩
abbrev RdO (w : World) (bm : Nat) (v : Value) (os : List Opng) : Prop := Kd.V k75 75 w 0 (fun k => k ≠ bm) v os
theorem RdO.new {w : World} {B bm : Nat} {ok : Nat → Prop} {v : Value} {os : List Opng} (h : Kd.R k75 75 w B ok v os) (hb : bm < B) : RdO w bm v os :=
 Kd.R_V (Kd.R_mono (Kd.R_bound h) (fun k hk e => by have h1 := hk.2.1;subst e;omega))
theorem RdO.grown {w w' : World} {bm : Nat} {v : Value} {os : List Opng} (h : RdO w bm v os) {row : Option Nat} (hg : w.grownBy w' row) (hr : row = none ∨ row = some bm) : RdO w' bm v os := Kd.V_grown h hg (fun k hk e => by rcases hr with r | r <;> subst r <;> cases e; exact hk rfl)
theorem RdE.grown0 {w w' : World} {bm : Nat} {v : Value} {xs : List Int} (h : RdE w bm v xs) (hg : w.grownBy w' none) : RdE w' bm v xs := Kd.V_grown h hg (fun k hk e => by cases e)
theorem Known.grown0 {bm b7 bf n : Nat} {w w' : World} (h : Known bm b7 bf n w) (hg : w.grownBy w' none) : Known bm b7 bf n w' := by
 obtain ⟨⟨M,h1,hM⟩,h2,h3⟩ := h;exact ⟨⟨M,h1,hM.kept hg (by simp)⟩,blk_grown h2 hg (by simp),blk_grown h3 hg (by simp)⟩
theorem grown_but {a c : World} (h : a.grownBy c none) (row : Option Nat) : a.grownBy c row := ⟨h.os, h.tape, h.output, h.size, fun i hi _ => h.block i hi (by simp)⟩
/-- A new block, written twice: what was there stays. -/
theorem grown_two {w w1 : World} {g : Nat} (hb : Below w.heap.size w w1) (hg : g = w.heap.size) (u v : Value) : w.grownBy ((w1.setCell ⟨g, 0, none⟩ u).setCell ⟨g, 1, none⟩ v) none := by
 have h1 : Below w.heap.size w ((w1.setCell ⟨g,0,none⟩ u).setCell ⟨g,1,none⟩ v) := below_set (below_set hb (by rw [hg];exact Nat.le_refl _)) (by rw [hg];exact Nat.le_refl _);exact grown_of_below h1 none
def bestN (f : Bool × Int → Int) (os : List (Bool × Int)) (i : Nat) : Int := ((os.take i).map f).foldl maxI (-1000)
theorem bestN_succ {f : Bool × Int → Int} {os : List (Bool × Int)} {i : Nat} {o : Bool × Int} (h : os[i]? = some o) : bestN f os (i + 1) = if bestN f os i < f o then f o else bestN f os i := by
 unfold bestN;rw [List.take_add_one,h,List.map_append,List.foldl_append]
 rfl
theorem opens_len (C L : List Int) : (opens C L).length ≤ C.length + L.length := by
 unfold opens;rw [List.length_append,List.length_map,List.length_map];have := uniq_le C;have := uniq_le L;omega
theorem cost_step {t i N n : Nat} (hi : i < N) (hN : N ≤ t + 1) (hn : n + costT (t + 1) < 4294967296) : n + i * costT t + costT t < 4294967296 ∧ n + i * costT t + costT t = n + (i + 1) * costT t := by
 have h1 : (i + 1) * costT t ≤ (t + 1) * costT t := Nat.mul_le_mul_right _ (by omega);have h2 : (i + 1) * costT t = i * costT t + costT t := Nat.succ_mul _ _;have h3 : costT (t + 1) = 1 + (t + 1) * costT t := rfl;omega
theorem cost_end {t N n : Nat} (hN : N ≤ t + 1) (hn : n + costT (t + 1) < 4294967296) : n + N * costT t + 1 ≤ n + costT (t + 1) ∧ n + N * costT t < 4294967296 := by
 have h1 : N * costT t ≤ (t + 1) * costT t := Nat.mul_le_mul_right _ hN;have h3 : costT (t + 1) = 1 + (t + 1) * costT t := rfl;omega
theorem val_small {C L : List Int} (hC : okC C) (hL : okL L) (h8 : C.length + L.length ≤ 8) : (Lit.int .i64 (val C L)).wf = true := by
 have := val_le hC hL _ rfl;exact WalkArith.wf_i64 (by omega)
set_option maxHeartbeats 16000000 in
set_option maxRecDepth 100000 in
theorem find_step (s : Nat) (h8 : s ≤ 8) (ih : ∀ t, t + 1 = s → FindOk t) : FindOk s := by
 intro bm b7 bf C L vC vL n w hC hL hs rC rL hK hn;show Calls Try.prog 104 #[.agg #[vC,vL],.pointer (some ⟨b7,0,none⟩),.pointer (some ⟨bf,0,none⟩)] w fun e w' => e = .returned (.int .i64 (val C L)) ∧ Known bm b7 bf (n + costT s) w' ∧ w.grownBy w' (some bm)
 have hu27 := Try.underlying27;have hu75 := Try.underlying75;obtain ⟨A0,c0,rfl⟩ := Kd.V_slice rC;obtain ⟨A1,c1,rfl⟩ := Kd.V_slice rL;have RC := aK rC;have RL := aK rL;have KN := aK hK;have HG := aK (World.grownBy.refl w (some bm));obtain ⟨kk,hkk⟩ := Ev.rounds (key_ev C L (by omega) (by omega));obtain ⟨ko,hko⟩ := Ev.rounds (open_ev C L (by omega) (by omega));have HKE := aK hkk;have HOP := aK hko;have HC := aK hC;have HL := aK hL;have HS := aK hs;have H8 := aK h8;have HN := aK hn;have hksz : (keyS C L).size ≤ maxLen := by rw [keyS_size];unfold maxLen;omega
 have HKS := aK hksz;have HIH := aK ih;clear rC rL hK hkk hko hC hL hs h8 hn hksz ih;obtain ⟨M,hM1,hM⟩ := KN.out.1;obtain ⟨c,f,hcf,hrun⟩ := mem_look_run hM.2 (okI_C HC.out) (okI_L HL.out);have HRUN := aK hrun;have KM := aK hM;clear hM1 hM hrun
 cases f with
 | true =>
  have hc := hcf rfl;subst hc;clear hcf;go_enter Try.func104,Try.ntmps104
  go_wp2_with (first | ((with_reducible refine gate_dst (N := 3) rfl ?_);(try (refine gate_guard (by rfl) ?_;dsimp only));refine boxE 3 #[.slice A0 C.length c0,.slice A1 L.length c1] 27 ?_;intro gbx hg w2 hbox hb;have BX := aK hbox;clear hg hbox;replace KM := aK (MemAt.below KM.out hb (MemAt.lt KM.out));replace RC := aK (Kd.V_below RC.out hb);replace RL := aK (Kd.V_below RL.out hb);replace KN := aK (Known.below KN.out hb);replace HG := aK (HG.out.trans (grown_of_below hb _));clear hb;have hz_gbx_0 := y0 BX;have hf_gbx_0 := blk_frozen BX.out 0;have hz_gbx_1 := y1 BX;have hf_gbx_1 := blk_frozen BX.out 1) | ((with_reducible refine gate_dst (N := 15) rfl ?_);(try (refine gate_guard (by rfl) ?_;dsimp only));refine goesE (some 15) Try.func105 #[.agg #[.slice A0 C.length c0,.slice A1 L.length c1]] ?_;(with_reducible refine (impl_Ending_key.calls kk _ _ C _ _ L (keyS C L) _ ?side1 ?side2 ?side3 ?side4 HKE.out).mono ?_);(case side1 => exact (Kd.V_reads' RC.out).2.2);(case side2 => exact (Kd.V_reads' RC.out).2.1);(case side3 => exact (Kd.V_reads' RL.out).2.2);(case side4 => exact (Kd.V_reads' RL.out).2.1);rintro e w3 ⟨rfl,hb⟩;refine ⟨_,rfl,?_⟩;replace KM := aK (MemAt.below KM.out hb (MemAt.lt KM.out));replace RC := aK (Kd.V_below RC.out hb);replace RL := aK (Kd.V_below RL.out hb);replace KN := aK (Known.below KN.out hb);replace BX := aK (blk_below (g := gbx) (o := .cells #[.slice A0 C.length c0,.slice A1 L.length c1] 27 (0,0)) BX.out hb);replace HG := aK (HG.out.trans (grown_of_below hb _));clear hb;replace hz_gbx_0 := y0 BX;replace hf_gbx_0 := blk_frozen BX.out 0;replace hz_gbx_1 := y1 BX;replace hf_gbx_1 := blk_frozen BX.out 1;(try clear hz7 hf7);have hz7 : w3.cell? ⟨b7,0,none⟩ = some (.map (some bm)) := (blk_cell KN.out.2.1 0).trans rfl;have hf7 := blk_frozen KN.out.2.1 0;have hrun := HRUN.out w3 bm (keyS C L) KM.out (keyS_list (okI_C HC.out) (okI_L HL.out)) HKS.out))
  go_ret;exact ⟨rfl,Known.more KN.out (Nat.le_add_right _ _),HG.out⟩
 | false =>
  clear hcf
  by_cases he : C = [] ∧ L = []
  ·have hv0 : val C L = 0 := by rw [he.1,he.2];rfl
   have hl1 : ((opens C L).map toS).length = 0 := by rw [he.1,he.2];rfl
   have hl0 : (((opens C L).map toS).length : Int) = 0 := by rw [hl1];rfl
   clear he;go_enter Try.func104,Try.ntmps104
   go_wp2_with (first | ((with_reducible refine gate_dst (N := 3) rfl ?_);(try (refine gate_guard (by rfl) ?_;dsimp only));refine boxE 3 #[.slice A0 C.length c0,.slice A1 L.length c1] 27 ?_;intro gbx hg w2 hbox hb;have BX := aK hbox;clear hg hbox;replace KM := aK (MemAt.below KM.out hb (MemAt.lt KM.out));replace RC := aK (Kd.V_below RC.out hb);replace RL := aK (Kd.V_below RL.out hb);replace KN := aK (Known.below KN.out hb);replace HG := aK (HG.out.trans (grown_of_below hb _));clear hb;have hz_gbx_0 := y0 BX;have hf_gbx_0 := blk_frozen BX.out 0;have hz_gbx_1 := y1 BX;have hf_gbx_1 := blk_frozen BX.out 1) | ((with_reducible refine gate_dst (N := 15) rfl ?_);(try (refine gate_guard (by rfl) ?_;dsimp only));refine goesE (some 15) Try.func105 #[.agg #[.slice A0 C.length c0,.slice A1 L.length c1]] ?_;(with_reducible refine (impl_Ending_key.calls kk _ _ C _ _ L (keyS C L) _ ?side1 ?side2 ?side3 ?side4 HKE.out).mono ?_);(case side1 => exact (Kd.V_reads' RC.out).2.2);(case side2 => exact (Kd.V_reads' RC.out).2.1);(case side3 => exact (Kd.V_reads' RL.out).2.2);(case side4 => exact (Kd.V_reads' RL.out).2.1);rintro e w3 ⟨rfl,hb⟩;refine ⟨_,rfl,?_⟩;replace KM := aK (MemAt.below KM.out hb (MemAt.lt KM.out));replace RC := aK (Kd.V_below RC.out hb);replace RL := aK (Kd.V_below RL.out hb);replace KN := aK (Known.below KN.out hb);replace BX := aK (blk_below (g := gbx) (o := .cells #[.slice A0 C.length c0,.slice A1 L.length c1] 27 (0,0)) BX.out hb);replace HG := aK (HG.out.trans (grown_of_below hb _));clear hb;replace hz_gbx_0 := y0 BX;replace hf_gbx_0 := blk_frozen BX.out 0;replace hz_gbx_1 := y1 BX;replace hf_gbx_1 := blk_frozen BX.out 1;(try clear hz7 hf7);have hz7 : w3.cell? ⟨b7,0,none⟩ = some (.map (some bm)) := (blk_cell KN.out.2.1 0).trans rfl;have hf7 := blk_frozen KN.out.2.1 0;have hrun := HRUN.out w3 bm (keyS C L) KM.out (keyS_list (okI_C HC.out) (okI_L HL.out)) HKS.out) | ((with_reducible refine gate_dst (N := 25) rfl ?_);(try (refine gate_guard (by rfl) ?_;dsimp only));refine goesE (some 25) Try.func79 #[.agg #[.slice A0 C.length c0,.slice A1 L.length c1]] ?_;(with_reducible refine (impl_Ending_openings.calls ko _ _ C _ _ L ((opens C L).map toS) _ ?side1 ?side2 ?side3 ?side4 HOP.out).mono ?_);(case side1 => exact (Kd.V_reads' RC.out).2.2);(case side2 => exact (Kd.V_reads' RC.out).2.1);(case side3 => exact (Kd.V_reads' RL.out).2.2);(case side4 => exact (Kd.V_reads' RL.out).2.1);rintro e w4 ⟨vO,rfl,ho,hb⟩;refine ⟨_,rfl,?_⟩;have RO := aK (RdO.new ho (Known.lt KN.out));clear ho;obtain ⟨A2,c2,eO⟩ := Kd.V_slice RO.out;subst eO;replace RC := aK (Kd.V_below RC.out hb);replace RL := aK (Kd.V_below RL.out hb);replace KN := aK (Known.below KN.out hb);replace BX := aK (blk_below (g := gbx) (o := .cells #[.slice A0 C.length c0,.slice A1 L.length c1] 27 (0,0)) BX.out hb);replace HG := aK (HG.out.trans (grown_of_below hb _));clear hb;replace hz_gbx_0 := y0 BX;replace hf_gbx_0 := blk_frozen BX.out 0;replace hz_gbx_1 := y1 BX;replace hf_gbx_1 := blk_frozen BX.out 1))
   go_ret;exact ⟨by rw [hv0];rfl,Known.more KN.out (Nat.le_add_right _ _),HG.out⟩
  ·have HE := aK he;have hos : opens C L ≠ [] := fun e => he (opens_nil.1 e)
   have hol := opens_len C L;have hop := List.length_pos_iff.2 hos;obtain ⟨t,rfl⟩ : ∃ t,s = t + 1 := ⟨s - 1,by have := HS.out;omega⟩;have HF := aK (HIH.out t rfl);have HNO := aK (show (opens C L).length ≤ t + 1 by have := HS.out;omega);have hml : ((opens C L).map toS).length = (opens C L).length := List.length_map ..;have HML := aK hml;have hl0 : ((((opens C L).map toS).length : Int) == 0) = false := beq_eq_false_iff_ne.2 (by omega);have hl5 : (((opens C L).length : Int) == 0) = false := beq_eq_false_iff_ne.2 (by omega);have hl2 : ¬ ((((opens C L).map toS).length : Int) = 0) := by omega
   have hl3 : ¬ (((opens C L).map toS).length = 0) := by omega
   have hl4 : ((opens C L).map toS) ≠ [] := by intro e;rw [e] at hl3;exact hl3 rfl
   clear he hos hol hop hml HIH;go_enter Try.func104,Try.ntmps104
   go_wp2_with (first | ((with_reducible refine gate_dst (N := 3) rfl ?_);(try (refine gate_guard (by rfl) ?_;dsimp only));refine boxE 3 #[.slice A0 C.length c0,.slice A1 L.length c1] 27 ?_;intro gbx hg w2 hbox hb;have BX := aK hbox;clear hg hbox;replace KM := aK (MemAt.below KM.out hb (MemAt.lt KM.out));replace RC := aK (Kd.V_below RC.out hb);replace RL := aK (Kd.V_below RL.out hb);replace KN := aK (Known.below KN.out hb);replace HG := aK (HG.out.trans (grown_of_below hb _));clear hb;have hz_gbx_0 := y0 BX;have hf_gbx_0 := blk_frozen BX.out 0;have hz_gbx_1 := y1 BX;have hf_gbx_1 := blk_frozen BX.out 1) | ((with_reducible refine gate_dst (N := 15) rfl ?_);(try (refine gate_guard (by rfl) ?_;dsimp only));refine goesE (some 15) Try.func105 #[.agg #[.slice A0 C.length c0,.slice A1 L.length c1]] ?_;(with_reducible refine (impl_Ending_key.calls kk _ _ C _ _ L (keyS C L) _ ?side1 ?side2 ?side3 ?side4 HKE.out).mono ?_);(case side1 => exact (Kd.V_reads' RC.out).2.2);(case side2 => exact (Kd.V_reads' RC.out).2.1);(case side3 => exact (Kd.V_reads' RL.out).2.2);(case side4 => exact (Kd.V_reads' RL.out).2.1);rintro e w3 ⟨rfl,hb⟩;refine ⟨_,rfl,?_⟩;replace KM := aK (MemAt.below KM.out hb (MemAt.lt KM.out));replace RC := aK (Kd.V_below RC.out hb);replace RL := aK (Kd.V_below RL.out hb);replace KN := aK (Known.below KN.out hb);replace BX := aK (blk_below (g := gbx) (o := .cells #[.slice A0 C.length c0,.slice A1 L.length c1] 27 (0,0)) BX.out hb);replace HG := aK (HG.out.trans (grown_of_below hb _));clear hb;replace hz_gbx_0 := y0 BX;replace hf_gbx_0 := blk_frozen BX.out 0;replace hz_gbx_1 := y1 BX;replace hf_gbx_1 := blk_frozen BX.out 1;(try clear hz7 hf7);have hz7 : w3.cell? ⟨b7,0,none⟩ = some (.map (some bm)) := (blk_cell KN.out.2.1 0).trans rfl;have hf7 := blk_frozen KN.out.2.1 0;have hrun := HRUN.out w3 bm (keyS C L) KM.out (keyS_list (okI_C HC.out) (okI_L HL.out)) HKS.out) | ((with_reducible refine gate_dst (N := 25) rfl ?_);(try (refine gate_guard (by rfl) ?_;dsimp only));refine goesE (some 25) Try.func79 #[.agg #[.slice A0 C.length c0,.slice A1 L.length c1]] ?_;(with_reducible refine (impl_Ending_openings.calls ko _ _ C _ _ L ((opens C L).map toS) _ ?side1 ?side2 ?side3 ?side4 HOP.out).mono ?_);(case side1 => exact (Kd.V_reads' RC.out).2.2);(case side2 => exact (Kd.V_reads' RC.out).2.1);(case side3 => exact (Kd.V_reads' RL.out).2.2);(case side4 => exact (Kd.V_reads' RL.out).2.1);rintro e w4 ⟨vO,rfl,ho,hb⟩;refine ⟨_,rfl,?_⟩;have RO := aK (RdO.new ho (Known.lt KN.out));clear ho;obtain ⟨A2,c2,eO⟩ := Kd.V_slice RO.out;subst eO;replace RC := aK (Kd.V_below RC.out hb);replace RL := aK (Kd.V_below RL.out hb);replace KN := aK (Known.below KN.out hb);replace BX := aK (blk_below (g := gbx) (o := .cells #[.slice A0 C.length c0,.slice A1 L.length c1] 27 (0,0)) BX.out hb);replace HG := aK (HG.out.trans (grown_of_below hb _));clear hb;replace hz_gbx_0 := y0 BX;replace hf_gbx_0 := blk_frozen BX.out 0;replace hz_gbx_1 := y1 BX;replace hf_gbx_1 := blk_frozen BX.out 1))
   (try clear hl0 hl2 hl3 hl4 hl5)
   go_loopg [9,31] (opens C L).length (fun gg v9 v31 w' => ∃ i : Nat,v9 = .int .i64 (bestN (fun o => (worth C L o).1) (opens C L) i) ∧ v31 = .int .i64 (i : Int) ∧ Aside0 (i ≤ (opens C L).length ∧ (opens C L).length - i ≤ gg) ∧ Aside0 (Known bm b7 bf (n + i * costT t) w') ∧ Aside0 (RdO w' bm (.slice A2 ((opens C L).map toS).length c2) ((opens C L).map toS)) ∧ Aside0 (RdE w' bm (.slice A0 C.length c0) C) ∧ Aside0 (RdE w' bm (.slice A1 L.length c1) L) ∧ Aside0 (w'.heap[gbx]? = some (.cells #[.slice A0 C.length c0,.slice A1 L.length c1] 27 (0,0))) ∧ Aside0 (w.grownBy w' (some bm)))
   case atStart => exact ⟨0,rfl,rfl,⟨Nat.zero_le _,by omega⟩,⟨by rw [Nat.zero_mul];exact KN.out⟩,RO,RC,RL,BX,HG⟩
   case round =>
    clear KN RO RC RL BX HG;(try clear hz7 hf7);(try clear hz_gbx_0 hz_gbx_1 hf_gbx_0 hf_gbx_1);obtain ⟨i,rfl,rfl,HI,KN,RO,RC,RL,BX,HG⟩ := hrel
    by_cases hlt : i < (opens C L).length
    ·obtain ⟨o,ho⟩ : ∃ o,(opens C L)[i]? = some o := ⟨_,List.getElem?_eq_getElem hlt⟩;have HO := aK ho;have HLT := aK hlt;have hml := HML.out;have hjn : decide ((i : Int) < (((opens C L).map toS).length : Int)) = true := decide_eq_true (by omega);have pj0 : 0 ≤ (i : Int) := by omega
     have qj0 : (i : Int) < (((opens C L).map toS).length : Int) := by omega
     obtain ⟨ad,e2,hx0,hx1⟩ := at_T75 (Kd.V_reads' RO.out).2.2 (i : Int) pj0 qj0;have hrd : rd_T75 ((opens C L).map toS) (i : Int) = toS o := by
      unfold rd_T75;rw [Int.toNat_natCast,List.getD_eq_getElem?_getD,List.getElem?_map,ho];rfl
     rw [hrd,Int.toNat_natCast] at hx0 hx1;replace hx0 : wr.cell? (ad.add (i * 2)) = some (.bool o.1) := hx0;replace hx1 : wr.cell? ⟨(ad.add (i * 2)).block,(ad.add (i * 2)).off + 1,none⟩ = some (.int .i64 o.2) := hx1;cases e2;have pj := eq_true pj0;have qj := eq_true qj0;have qj2 : (i < (opens C L).length) = True := eq_true hlt;have qj3 : ((i : Int) < ((opens C L).length : Int)) = True := eq_true (by omega);have hz_gbx_0 := y0 BX;have hf_gbx_0 := blk_frozen BX.out 0;have hz_gbx_1 := y1 BX;have hf_gbx_1 := blk_frozen BX.out 1;have hzf : wr.cell? ⟨bf,0,none⟩ = some (.func (.func 104) #[] #[.pointer (some ⟨b7,0,none⟩),.pointer (some ⟨bf,0,none⟩)]) := (blk_cell KN.out.2.2 0).trans rfl;have hff := blk_frozen KN.out.2.2 0;have hom := List.mem_of_getElem? ho;have HOM := aK hom;clear ho hlt hml hrd hom pj0 qj0;have HCS := aK (cost_step HLT.out HNO.out HN.out);have AN := aK (fun (vC vL : Value) (w1 : World) (a : RdE w1 bm vC C) (b : RdE w1 bm vL L) (k : Known bm b7 bf (n + i * costT t) w1) => answered.calls t HF.out bm b7 bf C L o vC vL (n + i * costT t) w1 HC.out HL.out HOM.out HS.out (Nat.le_trans HS.out H8.out) a b k HCS.out.1);have hjn2 : decide (i < (opens C L).length) = true := decide_eq_true HLT.out
     by_cases hmx : bestN (fun o => (worth C L o).1) (opens C L) i < (worth C L o).1
     ·have HMX := aK hmx
      go_wp2_with (first | ((with_reducible refine gate_dst (N := 11) rfl ?_);(try (refine gate_guard (by rfl) ?_;dsimp only));refine boxE 11 #[.bool false,.int .i64 0] 75 ?_;intro gbo hg w28 hbox hb;have HBB := aK hb;have HGO := aK hg;have BX2 := aK (blk_below (g := gbx) (o := .cells #[.slice A0 C.length c0,.slice A1 L.length c1] 27 (0,0)) BX.out hb);have KN2 := aK (Known.below KN.out hb);have BO := aK hbox;have ne1 : gbx ≠ gbo := (by rw [hg];exact Nat.ne_of_lt (blk_lt BX.out));have ne2 : gbo ≠ gbx := Ne.symm ne1;have ne3 : bf ≠ gbo := (by rw [hg];exact Nat.ne_of_lt (blk_lt KN.out.2.2));have ne4 : gbo ≠ bf := Ne.symm ne3;clear hb hg hbox;(try clear hz_gbx_0 hz_gbx_1 hf_gbx_0 hf_gbx_1 hzf hff);have hz_gbx_0 := y0 BX2;have hf_gbx_0 := blk_frozen BX2.out 0;have hz_gbx_1 := y1 BX2;have hf_gbx_1 := blk_frozen BX2.out 1;have hz_gbo_0 := y0 BO;have hf_gbo_0 := blk_frozen BO.out 0;have hz_gbo_1 := y1 BO;have hf_gbo_1 := blk_frozen BO.out 1;have hzf : w28.cell? ⟨bf,0,none⟩ = some (.func (.func 104) #[] #[.pointer (some ⟨b7,0,none⟩),.pointer (some ⟨bf,0,none⟩)]) := (blk_cell KN2.out.2.2 0).trans rfl;have hff := blk_frozen KN2.out.2.2 0) | ((with_reducible refine gate_dst (N := 39) rfl ?_);(try (refine gate_guard (by rfl) ?_;dsimp only));refine goesE (some 39) Try.func82 #[.agg #[.slice A0 C.length c0,.slice A1 L.length c1],.agg #[.bool o.1,.int .i64 o.2],.func (.func 104) #[] #[.pointer (some ⟨b7,0,none⟩),.pointer (some ⟨bf,0,none⟩)]] ?_;have hgr := grown_two HBB.out HGO.out (.bool o.1) (.int .i64 o.2);(with_reducible refine (AN.out _ _ _ (RdE.grown0 RC.out hgr) (RdE.grown0 RL.out hgr) (Known.grown0 KN.out hgr)).mono ?_);rintro e w30 ⟨rfl,hkn,hg⟩;refine ⟨_,rfl,?_⟩;have hgg := (grown_but hgr (some bm)).trans hg;replace RC := aK (RdE.grown RC.out hgg);replace RL := aK (RdE.grown RL.out hgg);replace RO := aK (RdO.grown RO.out hgg (.inr rfl));replace BX := aK (blk_grown (g := gbx) (o := .cells #[.slice A0 C.length c0,.slice A1 L.length c1] 27 (0,0)) BX.out hgg (Known.ne KN.out BX.out));replace HG := aK (HG.out.trans hgg);clear KN KN2 BX2 BO HBB HGO;have KN := aK hkn;clear hkn hg hgr hgg))
      go_roundg ((opens C L).length - (i + 1))
      case measure => have := HI.out;have := HLT.out;omega
      case rel =>
       refine ⟨i + 1,?_,?_,⟨HLT.out,by omega⟩,⟨by rw [← HCS.out.2];exact KN.out⟩,RO,RC,RL,BX,HG⟩
       ·rw [bestN_succ HO.out,if_pos HMX.out]
       ·have h1 := HLT.out;have h2 := HNO.out;have h3 := H8.out;have hj_ : wrap64 ((i : Int) + 1) = ((i + 1 : Nat) : Int) := by unfold wrap64;omega
        first | (rw [← hj_];done) | (rw [← hj_];rfl)
     ·have HMX := aK hmx;replace hmx := Int.not_lt.1 hmx
      go_wp2_with (first | ((with_reducible refine gate_dst (N := 11) rfl ?_);(try (refine gate_guard (by rfl) ?_;dsimp only));refine boxE 11 #[.bool false,.int .i64 0] 75 ?_;intro gbo hg w28 hbox hb;have HBB := aK hb;have HGO := aK hg;have BX2 := aK (blk_below (g := gbx) (o := .cells #[.slice A0 C.length c0,.slice A1 L.length c1] 27 (0,0)) BX.out hb);have KN2 := aK (Known.below KN.out hb);have BO := aK hbox;have ne1 : gbx ≠ gbo := (by rw [hg];exact Nat.ne_of_lt (blk_lt BX.out));have ne2 : gbo ≠ gbx := Ne.symm ne1;have ne3 : bf ≠ gbo := (by rw [hg];exact Nat.ne_of_lt (blk_lt KN.out.2.2));have ne4 : gbo ≠ bf := Ne.symm ne3;clear hb hg hbox;(try clear hz_gbx_0 hz_gbx_1 hf_gbx_0 hf_gbx_1 hzf hff);have hz_gbx_0 := y0 BX2;have hf_gbx_0 := blk_frozen BX2.out 0;have hz_gbx_1 := y1 BX2;have hf_gbx_1 := blk_frozen BX2.out 1;have hz_gbo_0 := y0 BO;have hf_gbo_0 := blk_frozen BO.out 0;have hz_gbo_1 := y1 BO;have hf_gbo_1 := blk_frozen BO.out 1;have hzf : w28.cell? ⟨bf,0,none⟩ = some (.func (.func 104) #[] #[.pointer (some ⟨b7,0,none⟩),.pointer (some ⟨bf,0,none⟩)]) := (blk_cell KN2.out.2.2 0).trans rfl;have hff := blk_frozen KN2.out.2.2 0) | ((with_reducible refine gate_dst (N := 39) rfl ?_);(try (refine gate_guard (by rfl) ?_;dsimp only));refine goesE (some 39) Try.func82 #[.agg #[.slice A0 C.length c0,.slice A1 L.length c1],.agg #[.bool o.1,.int .i64 o.2],.func (.func 104) #[] #[.pointer (some ⟨b7,0,none⟩),.pointer (some ⟨bf,0,none⟩)]] ?_;have hgr := grown_two HBB.out HGO.out (.bool o.1) (.int .i64 o.2);(with_reducible refine (AN.out _ _ _ (RdE.grown0 RC.out hgr) (RdE.grown0 RL.out hgr) (Known.grown0 KN.out hgr)).mono ?_);rintro e w30 ⟨rfl,hkn,hg⟩;refine ⟨_,rfl,?_⟩;have hgg := (grown_but hgr (some bm)).trans hg;replace RC := aK (RdE.grown RC.out hgg);replace RL := aK (RdE.grown RL.out hgg);replace RO := aK (RdO.grown RO.out hgg (.inr rfl));replace BX := aK (blk_grown (g := gbx) (o := .cells #[.slice A0 C.length c0,.slice A1 L.length c1] 27 (0,0)) BX.out hgg (Known.ne KN.out BX.out));replace HG := aK (HG.out.trans hgg);clear KN KN2 BX2 BO HBB HGO;have KN := aK hkn;clear hkn hg hgr hgg))
      go_roundg ((opens C L).length - (i + 1))
      case measure => have := HI.out;have := HLT.out;omega
      case rel =>
       refine ⟨i + 1,?_,?_,⟨HLT.out,by omega⟩,⟨by rw [← HCS.out.2];exact KN.out⟩,RO,RC,RL,BX,HG⟩
       ·rw [bestN_succ HO.out,if_neg (by have h_ := HMX.out;omega)]
       ·have h1 := HLT.out;have h2 := HNO.out;have h3 := H8.out;have hj_ : wrap64 ((i : Int) + 1) = ((i + 1 : Nat) : Int) := by unfold wrap64;omega
        first | (rw [← hj_];done) | (rw [← hj_];rfl)
    ·have HLT := aK hlt;have hml := HML.out;have hi := HI.out;have hil : i = (opens C L).length := by omega
     have hjn : decide ((i : Int) < (((opens C L).map toS).length : Int)) = false := decide_eq_false (by omega);have hjn2 := decide_eq_false hlt;have hfin : bestN (fun o => (worth C L o).1) (opens C L) i = val C L := by
      rw [val_eq HE.out,hil];unfold bestN;rw [List.take_length]
     have HFI := aK hfin;have HCE := aK (cost_end HNO.out HN.out);subst hil;clear hlt hml hi hfin;have hz7 : wr.cell? ⟨b7,0,none⟩ = some (.map (some bm)) := (blk_cell KN.out.2.1 0).trans rfl;have hf7 := blk_frozen KN.out.2.1 0;obtain ⟨M,hM1,hM⟩ := KN.out.1;have HM := aK hM;have HM1 := aK hM1;clear hM1 hM
     go_wp2_with (first | (at_mapUpdate;refine mem_put rfl _ _ _ rfl bm M C L (keyS C L) rfl HM.out (Nat.lt_of_le_of_lt HM1.out (Nat.lt_of_lt_of_le HCE.out.2 (by unfold maxLen;omega))) rfl (keyS_list (okI_C HC.out) (okI_L HL.out)) HKS.out (okI_C HC.out) (okI_L HL.out) (congrArg (Value.int .i64) HFI.out) (val_small HC.out HL.out (Nat.le_trans HS.out H8.out)) ?_;intro w9 hm9 hg9))
     have n0_ := aK (show Known bm b7 bf (n + costT (t + 1)) w9 from ⟨⟨_,by rw [List.length_append];have h1 := HM1.out;have h2 := HCE.out.1;simp;omega,hm9⟩,blk_grown KN.out.2.1 hg9 (Known.ne KN.out KN.out.2.1),blk_grown KN.out.2.2 hg9 (Known.ne KN.out KN.out.2.2)⟩);have n1_ := aK (HG.out.trans hg9);go_ret;exact ⟨by rw [HFI.out];rfl,n0_.out,n1_.out⟩
theorem find_ok : ∀ s, s ≤ 8 → FindOk s
 | 0,h => find_step 0 h (fun t ht => by omega)
 | s + 1,h => find_step (s + 1) h (fun t ht => by
  have : t = s := by omega
  subst this;exact find_ok t (by omega))
theorem specAfter_ev (a b : List Int) (o : Bool × Int) (ha : a.length ≤ 1048576) (hb : b.length ≤ 1048576) : Ev (fun k => spec_AfterOpening.f k a b o.1 o.2) (afterOf a b o) := by
  unfold spec_AfterOpening.f afterOf;refine Ev.bind (l04Is_ev a b ha hb) ?_
  cases hE : isEnd a b with
  | false => exact Ev.congr (f := fun _ => some ([],[],1)) (fun k => rfl) (Ev.now _)
  | true =>
    obtain ⟨hC,hL,h8⟩ := isEnd_ok hE;rw [if_pos rfl];refine Ev.congr (fun k => by rw [if_pos rfl]) (Ev.bind (withoutR_ev a b o (by omega) (by omega)) ?_)
    cases hI : isIn a b o with
    | false => exact Ev.congr (f := fun _ => some ([],[],5)) (fun k => rfl) (Ev.now _)
    | true => exact Ev.congr (f := fun _ => some (lessC a o,lessL b o,0)) (fun k => rfl) (Ev.now _)
theorem implAfter_ev (a b : List Int) (o : Bool × Int) (ha : a.length ≤ 1048576) (hb : b.length ≤ 1048576) : Ev (fun k => impl_AfterOpening.f k a b o.1 o.2) (afterOf a b o) :=
  Ev.congr (f := fun _ => some (afterOf a b o)) (fun k => if_pos ⟨ha,hb⟩) (Ev.now _)
theorem afterOf_len (a b : List Int) (o : Bool × Int) (h : (a.length : Int) + (b.length : Int) ≤ 1048576) : ((afterOf a b o).1.length : Int) + ((afterOf a b o).2.1.length : Int) ≤ 1048576 := by
  unfold afterOf
  split
  · split
    · have h1 : (lessC a o).length ≤ a.length := by
        unfold lessC
        split
        · exact Nat.le_refl _
        · exact List.length_erase_le
      have h2 : (lessL b o).length ≤ b.length := by
        unfold lessL
        split
        · exact List.length_erase_le
        · exact Nat.le_refl _
      show ((lessC a o).length : Int) + ((lessL b o).length : Int) ≤ 1048576;omega
    · show (0 : Int) + 0 ≤ 1048576
      omega
  · show (0 : Int) + 0 ≤ 1048576
    omega
end Go.Proofs.Ytkbjoiebaphdoaa.PA
