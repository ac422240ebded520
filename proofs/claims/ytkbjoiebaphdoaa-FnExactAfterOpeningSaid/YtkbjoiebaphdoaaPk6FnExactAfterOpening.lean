/- Part 6 of the texts under the row of FnExactAfterOpening (no condition). -/
import Derived.Deep.Slices
import Derived.Lib.SmallJoins
import Derived.Maps.OwnSet
import Derived.Maps.Views
import Derived.Test.YtkbjoiebaphdoaaPk5FnExactAfterOpening
/- A parameter's nested slices, read off its datum: what the row hands over, as the print's contracts ask it (no condition). -/
namespace Go.Proofs.Ytkbjoiebaphdoaa.Opens
open Go.RowKit Go.ChangeShapes Go.WideShapes Go.ChangeAt Go.Deep Go.WideElems Go.Joins Go.Proofs.YtkbjoiebaphdoaaW.PrintWords
set_option linter.unusedVariables false
set_option linter.unusedSimpArgs false
variable {H : Type} {enc : TypeId × Value → H} {P : Program} {w : World} {base : Nat} {spare : Nat → Bool} {held : Bool}

/-- What a datum of type t says: its cells read as some x of the kind d, of which Q holds. -/
def Opens (enc : TypeId × Value → H) (P : Program) (w : World) (base : Nat) (spare : Nat → Bool) (held : Bool) {α : Type} (t : TypeId) (d : Kd α) (Q : α → Prop) : Prop :=
  ∀ n cs y, DataW.trod enc P w base spare held n t cs = some y → ∃ x, d.K w x cs ∧ Q x

theorem opens_int {t : TypeId} {k : IntKind} (ht : P.underlying t = some (.int k)) : Opens enc P w base spare held t (Kd.int k) (fun x => (Lit.int k x).wf = true) := by
  intro n cs y h
  obtain ⟨x, rfl, _, hw⟩ := DataW.trod_int ht h
  exact ⟨x, rfl, hw⟩

theorem choose_list {α : Type} {R : Nat → α → Prop} : ∀ (n : Nat), (∀ i, i < n → ∃ x, R i x) → ∃ xs : List α, xs.length = n ∧ ∀ i x, xs[i]? = some x → R i x
  | 0, _ => ⟨[], rfl, fun i x h => by simp at h⟩
  | n + 1, h => by
    obtain ⟨xs, hl, hx⟩ := choose_list n (fun i hi => h i (Nat.lt_succ_of_lt hi))
    obtain ⟨x, hn⟩ := h n (Nat.lt_succ_self n)
    refine ⟨xs ++ [x], by simp [hl], fun i z hz => ?_⟩
    rcases Nat.lt_or_ge i xs.length with hi | hi
    · rw [List.getElem?_append_left hi] at hz
      exact hx i z hz
    · rw [List.getElem?_append_right hi] at hz
      have : i - xs.length = 0 := by
        rcases Nat.eq_zero_or_pos (i - xs.length) with e | e
        · exact e
        · rw [List.getElem?_eq_none (by simp; omega)] at hz
          exact absurd hz (by simp)
      rw [this] at hz
      have hz' : x = z := by simpa using hz
      subst hz'
      have : i = n := by omega
      subst this
      exact hn

theorem opens_slice {α : Type} {t e : TypeId} {d : Kd α} {Q : α → Prop} (ht : P.underlying t = some (.slice e)) (hc : P.cellsOf e = d.sz) (he : Opens enc P w base spare held e d Q) :
    Opens enc P w base spare held t (Kd.slice e d) (fun xs => xs.length ≤ 9223372036854775807 ∧ ∀ x ∈ xs, Q x) := by
  intro n cs y h
  rcases open_slice ht h with ⟨rfl, rfl⟩ | ⟨a, len, cap, m, n', D, Pl, rfl, hb, hl, hm, hmm, hx, hall⟩
  · exact ⟨[], ⟨none, 0, rfl, Nat.le_refl _, rfl, by simp, fun h => absurd h (by simp)⟩, by simp, fun x hx => by simp at hx⟩
  · have hlm : len ≤ m := by rw [hmm]; split <;> omega
    have hch : ∀ i, i < len → ∃ x : α, (∃ c, c.length = d.sz ∧ d.K w x c ∧ ∀ j u, c[j]? = some u → w.cell? (a.add (i * d.sz + j)) = some u) ∧ Q x := by
      intro i hi
      obtain ⟨cs', hcs, htr⟩ := hall i (by omega)
      obtain ⟨x, hK, hQ⟩ := he _ _ _ htr
      refine ⟨x, ⟨cs', d.K_len hK, hK, fun j u hu => ?_⟩, hQ⟩
      have hj : j < P.cellsOf e := by
        rw [hc, ← d.K_len hK]
        exact (List.getElem?_eq_some_iff.1 hu).1
      have h3 := (World.cells?_some hcs).2.2 j hj
      rw [Addr.add_add, hc] at h3
      rw [h3, hu]
    obtain ⟨xs, hlen, hxs⟩ := choose_list len hch
    subst hlen
    refine ⟨xs, ⟨some a, cap, rfl, hl, rfl, by simp only [maxLen] at hm; omega, fun _ => ⟨a, rfl, fun j p hj => (hxs j p hj).1⟩⟩, by simp only [maxLen] at hm; omega, fun x hx => ?_⟩
    obtain ⟨i, hi, hix⟩ := List.getElem_of_mem hx
    exact (hxs i x (by rw [List.getElem?_eq_getElem hi, hix])).2

/-- A field that is a slice: its value written out, and how it reads. -/
theorem opened_slice {α : Type} {t e : TypeId} {d : Kd α} {Q : α → Prop} (ht : P.underlying t = some (.slice e)) (hc : P.cellsOf e = d.sz) (he : Opens enc P w base spare held e d Q) {n : Nat} {v : Value} {y : DataW H × List MemPlace}
    (h : DataW.trod enc P w base spare held n t [v] = some y) : ∃ A c, ∃ xs : List α, v = .slice A xs.length c ∧ xs.length ≤ c ∧ Kd.C d w A xs.length xs ∧ xs.length ≤ 9223372036854775807 ∧ ∀ x ∈ xs, Q x := by
  obtain ⟨xs, ⟨A, c, e1, hl, hC⟩, hQ⟩ := opens_slice ht hc he _ _ _ h
  simp only [List.cons.injEq, and_true] at e1
  exact ⟨A, c, xs, e1, hl, hC, hQ⟩
/-- A struct of one field of one cell, by value. -/
theorem open_agg1 {r : Reach} {b0 : Nat} {t : TypeId} {f0 : Field} {v : Value} {d : DataW H} {p : List MemPlace} (hs : P.underlying t = some (.struct #[f0])) (hone : oneCellFields P #[f0] = true) (hC : P.cellsOf t = 1)
    (hv : Value.okWide P w r b0 t v) (h : DataW.Trod enc P w base spare held t v d p) :
    ∃ (v0 : Value) (y0 : DataW H × List MemPlace) (n : Nat), v = .agg #[v0] ∧ d = .agg [y0.1] ∧ p = y0.2 ∧ DataW.trod enc P w base spare held n f0.type [v0] = some y0 := by
  obtain ⟨cs, rfl, hsz⟩ := okWide_struct hs hv
  obtain ⟨c0, rfl⟩ : ∃ c0, cs = #[c0] := by
    obtain ⟨l⟩ := cs
    match l, (hsz.trans hC) with
    | [c0], _ => exact ⟨c0, rfl⟩
  obtain ⟨fuel, hf⟩ := h
  obtain ⟨xs, n, _, rfl', hl, hlen, hx⟩ := DataW.trod_struct hs hf
  match xs, hlen with
  | [y0], _ =>
    have h0 := hx 0 f0 rfl
    obtain ⟨o0, k0⟩ := hone_of hone 0 f0 rfl
    simp only [Prod.mk.injEq] at rfl'
    refine ⟨c0, y0, n, rfl, by simpa using rfl'.1, by simpa using rfl'.2, ?_⟩
    simpa [Value.cells, o0, k0] using h0
end Go.Proofs.Ytkbjoiebaphdoaa.Opens

/- The values known of endings, as a map from texts to numbers that the call made: looked up and added to, ending by ending (conditions: the endings have sizes from 1 to 30). -/
namespace Go.Proofs.Ytkbjoiebaphdoaa.PX
open Go.RowKit Go.Proofs.YtkbjoiebaphdoaaW.PrintWords Go.Proofs.YtkbjoiebaphdoaaW.PrintLast Go.Proofs.YtkbjoiebaphdoaaW.PrintMore
attribute [local go_sem] max2_int min2_int max_two min_two max_three min_three max_four min_four
set_option linter.unusedVariables false
set_option linter.unusedSimpArgs false
open Go.Maps (Keyed)
def byteOf (x : Int) : UInt8 := UInt8.ofNat x.toNat
def keyL (C L : List Int) : List UInt8 := C.map byteOf ++ 255 :: L.map byteOf
def okI (xs : List Int) : Prop := ∀ x ∈ xs, 1 ≤ x ∧ x ≤ 30
theorem okI_C {xs : List Int} (h : okC xs) : okI xs := h
theorem okI_L {xs : List Int} (h : okL xs) : okI xs := fun x hx => by have := h x hx; omega
theorem byteOf_nat {x : Int} (h : 1 ≤ x ∧ x ≤ 30) : (byteOf x).toNat = x.toNat := by
  unfold byteOf
  rw [UInt8.toNat_ofNat']
  exact Nat.mod_eq_of_lt (by omega)
theorem byteOf_inj {x y : Int} (hx : 1 ≤ x ∧ x ≤ 30) (hy : 1 ≤ y ∧ y ≤ 30) (h : byteOf x = byteOf y) : x = y := by
  have h1 := byteOf_nat hx
  have h2 := byteOf_nat hy
  rw [h] at h1
  omega
theorem byteOf_ne {x : Int} (hx : 1 ≤ x ∧ x ≤ 30) : byteOf x ≠ 255 := fun h => by
  have h1 := byteOf_nat hx
  rw [h] at h1
  have h2 : (255 : UInt8).toNat = 255 := rfl
  omega
theorem map_byte_inj : ∀ {L L' : List Int}, okI L → okI L' → L.map byteOf = L'.map byteOf → L = L'
  | [], [], _, _, _ => rfl
  | [], _ :: _, _, _, h => by cases h
  | _ :: _, [], _, _, h => by cases h
  | a :: L, b :: L', h1, h2, h => by
    rw [List.map_cons, List.map_cons] at h
    injection h with e1 e2
    rw [byteOf_inj (h1 a List.mem_cons_self) (h2 b List.mem_cons_self) e1, map_byte_inj (fun x hx => h1 x (List.mem_cons_of_mem _ hx)) (fun x hx => h2 x (List.mem_cons_of_mem _ hx)) e2]
theorem keyL_inj : ∀ {C C' L L' : List Int}, okI C → okI L → okI C' → okI L' → keyL C L = keyL C' L' → C = C' ∧ L = L'
  | [], [], L, L', _, h1, _, h2, h => by
    unfold keyL at h
    rw [List.map_nil, List.nil_append, List.nil_append] at h
    injection h with _ e
    exact ⟨rfl, map_byte_inj h1 h2 e⟩
  | [], c :: C', L, L', _, _, h3, _, h => by
    unfold keyL at h
    rw [List.map_nil, List.nil_append, List.map_cons, List.cons_append] at h
    injection h with e _
    exact absurd e.symm (byteOf_ne (h3 c List.mem_cons_self))
  | c :: C, [], L, L', h3, _, _, _, h => by
    unfold keyL at h
    rw [List.map_nil, List.nil_append, List.map_cons, List.cons_append] at h
    injection h with e _
    exact absurd e (byteOf_ne (h3 c List.mem_cons_self))
  | c :: C, c' :: C', L, L', h1, h2, h3, h4, h => by
    unfold keyL at h
    rw [List.map_cons, List.cons_append, List.map_cons, List.cons_append] at h
    injection h with e1 e2
    obtain ⟨r1, r2⟩ := keyL_inj (C := C) (C' := C') (fun x hx => h1 x (List.mem_cons_of_mem _ hx)) h2 (fun x hx => h3 x (List.mem_cons_of_mem _ hx)) h4 e2
    exact ⟨by rw [byteOf_inj (h1 c List.mem_cons_self) (h3 c' List.mem_cons_self) e1, r1], r2⟩
def memD (M : List (List Int × List Int)) : DataW Unit := M.foldl (fun D p => D.put (.string (keyL p.1 p.2)) (.lit (.int .i64 (val p.1 p.2)))) (.map [])
theorem memD_snoc (M : List (List Int × List Int)) (C L : List Int) : memD (M ++ [(C, L)]) = (memD M).put (.string (keyL C L)) (.lit (.int .i64 (val C L))) := by unfold memD; rw [List.foldl_append]; rfl
theorem memD_fold {C L : List Int} (hC : okI C) (hL : okI L) (z : DataW Unit) : ∀ (M : List (List Int × List Int)) (D : DataW Unit), (∀ p ∈ M, okI p.1 ∧ okI p.2) → Go.Maps.IsMap D →
    (Go.Maps.has D (.string (keyL C L)) = true → D.atKey (.string (keyL C L)) z = .lit (.int .i64 (val C L))) →
    Go.Maps.has (M.foldl (fun D p => D.put (.string (keyL p.1 p.2)) (.lit (.int .i64 (val p.1 p.2)))) D) (.string (keyL C L)) = true →
    (M.foldl (fun D p => D.put (.string (keyL p.1 p.2)) (.lit (.int .i64 (val p.1 p.2)))) D).atKey (.string (keyL C L)) z = .lit (.int .i64 (val C L))
  | [], D, _, _, h, hh => h hh
  | p :: M, D, hM, hD, h, hh => by
    rw [List.foldl_cons] at hh ⊢
    refine memD_fold hC hL z M _ (fun q hq => hM q (List.mem_cons_of_mem _ hq)) (hD.put _ _) ?_ hh
    have hp := hM p List.mem_cons_self
    by_cases e : keyL C L = keyL p.1 p.2
    · obtain ⟨e1, e2⟩ := keyL_inj hC hL hp.1 hp.2 e
      intro _
      rw [e, Go.Maps.atKey_put_same hD (show Go.WideAt.IsKeyLit (.string (keyL p.1 p.2)) from trivial), e1, e2]
    · have hne : Lit.string (keyL C L) ≠ Lit.string (keyL p.1 p.2) := fun h => e (by injection h)
      rw [Go.Maps.has_put_other hne, Go.Maps.atKey_put_other hne]
      exact h
theorem memD_at {C L : List Int} (hC : okI C) (hL : okI L) {M : List (List Int × List Int)} (hM : ∀ p ∈ M, okI p.1 ∧ okI p.2) (z : DataW Unit) (h : Go.Maps.has (memD M) (.string (keyL C L)) = true) : (memD M).atKey (.string (keyL C L)) z = .lit (.int .i64 (val C L)) :=
  memD_fold hC hL z M (.map []) hM ⟨[], rfl⟩ (fun h => Bool.noConfusion (show false = true from h)) h
theorem keyLawS : Keyed Try.prog 9 := Go.Maps.string_keyed Try.underlying9
theorem zeroI (w : World) : (zeroValue 2).run Try.prog w = .ok (.int .i64 0) w := by kernel_rfl
def MemAt (w : World) (b : Nat) (M : List (List Int × List Int)) : Prop := w.ownsMap Try.prog 9 (plainElem (H := Unit) Try.prog 2) b M.length (memD M) ∧ ∀ p ∈ M, okI p.1 ∧ okI p.2
theorem MemAt.kept {w w' : World} {b : Nat} {M : List (List Int × List Int)} {row : Option Nat} (h : MemAt w b M) (hg : w.grownBy w' row) (hne : some b ≠ row) : MemAt w' b M := ⟨World.ownsMap.kept h.1 hg hne, h.2⟩
theorem MemAt.below {w w' : World} {B b : Nat} {M : List (List Int × List Int)} (h : MemAt w b M) (hg : Below B w w') (hb : b < B) : MemAt w' b M := by
  obtain ⟨⟨es, clock, h1, F, hs, hD⟩, h2⟩ := h
  exact ⟨⟨es, clock, (hg.block b hb).trans h1, F, hs, hD⟩, h2⟩
theorem MemAt.lt {w : World} {b : Nat} {M : List (List Int × List Int)} (h : MemAt w b M) : b < w.heap.size := World.ownsMap.lt h.1
theorem MemAt.made (w : World) : MemAt (w.alloc (.map #[] 0)) w.heap.size [] := ⟨World.ownsMap_made w _ _ _, by simp⟩
section
variable {ops : Array Oper} {rest : List Oper} {o : Oper} {a : Act} {Q : Exit → Act → World → Prop} {w : World}
/-- 'out, ok := known[key]': not there, or there with the ending's value. -/
theorem mem_look (hg : o.guard = none) (m x : Operand) (hop : o.op = Op.lookup 109 m x true) (b : Nat) (M : List (List Int × List Int)) (C L : List Int) (s : ByteArray)
    (hm : a.eval m = .map (some b)) (h : MemAt w b M) (hx : a.eval x = .string s) (hs : s.data.toList = keyL C L) (hsz : s.size ≤ maxLen) (hC : okI C) (hL : okI L)
    (hK : ∀ (c : Int) (f : Bool), (f = true → c = val C L) → wpList Try.prog ops Q rest (a.put o.dst (.tuple #[.int .i64 c, .bool f])) w) : wpList Try.prog ops Q (o :: rest) a w :=
  wpList_lookup_own_ok_int w hg m x 109 hop 9 2 .i64 keyLawS Try.underlying109 Try.underlying2 (zeroI w) b M.length (memD M) hm h.1 (.string s) (.string (keyL C L)) hx (by rw [← hs]; exact Go.WideMaps.keyOf_string_mk Try.underlying9 hsz)
    (fun c hc _ => hK c _ (fun hf => by
      have := memD_at hC hL h.2 (.lit (.int .i64 0)) hf
      rw [hc] at this
      injection this with this
      injection this))
/-- 'known[key] = best', the ending's value. -/
theorem mem_put (hg : o.guard = none) (m x v : Operand) (hop : o.op = Op.mapUpdate 109 m x v) (b : Nat) (M : List (List Int × List Int)) (C L : List Int) (s : ByteArray)
    (hm : a.eval m = .map (some b)) (h : MemAt w b M) (hn : M.length < maxLen) (hx : a.eval x = .string s) (hs : s.data.toList = keyL C L) (hsz : s.size ≤ maxLen) (hC : okI C) (hL : okI L) (hv : a.eval v = .int .i64 (val C L)) (hw : (Lit.int .i64 (val C L)).wf = true)
    (hK : ∀ w', MemAt w' b (M ++ [(C, L)]) → w.grownBy w' (some b) → wpList Try.prog ops Q rest (a.put o.dst undef) w') : wpList Try.prog ops Q (o :: rest) a w :=
  wpList_mapUpdate_own w hg m x v 109 hop 9 2 keyLawS Try.underlying109 _ b M.length (memD M) hm h.1 hn (.string s) (.int .i64 (val C L)) (.string (keyL C L)) hx hv (by rw [← hs]; exact Go.WideMaps.keyOf_string_mk Try.underlying9 hsz)
    (.lit (.int .i64 (val C L))) [] (plainElem_int Try.underlying2 hw) (fun w' h1 h2 => hK w' ⟨by rw [memD_snoc, List.length_append]; exact h1, fun p hp => by
      rcases List.mem_append.1 hp with hp | hp
      · exact h.2 p hp
      · rw [List.mem_singleton] at hp
        subst hp
        exact ⟨hC, hL⟩⟩ h2)
set_option maxRecDepth 100000 in
theorem mem_look_run {M : List (List Int × List Int)} {C L : List Int} (hM : ∀ p ∈ M, okI p.1 ∧ okI p.2) (hC : okI C) (hL : okI L) :
    ∃ (c : Int) (f : Bool), (f = true → c = val C L) ∧ ∀ (w : World) (b : Nat) (s : ByteArray), MemAt w b M → s.data.toList = keyL C L → s.size ≤ maxLen → (Instr.lookup 109 (.map (some b)) (.string s) true).run Try.prog w = .ok (.tuple #[.int .i64 c, .bool f]) w := by
  refine ⟨(match (memD M).atKey (.string (keyL C L)) (.lit (.int .i64 0)) with | .lit (.int _ c) => c | _ => 0), Go.Maps.has (memD M) (.string (keyL C L)), fun hf => ?_, fun w b s h hs hsz => ?_⟩
  · rw [memD_at hC hL hM (.lit (.int .i64 0)) hf]
  · obtain ⟨v, ps, hrun, hv⟩ := h.1.look_ok (t := 109) keyLawS Try.underlying109 (zeroI w) (plainElem_int (a := 0) Try.underlying2 rfl) (key := .string s) (kl := .string (keyL C L)) (by rw [← hs]; exact Go.WideMaps.keyOf_string_mk Try.underlying9 hsz)
    obtain ⟨c, rfl, hc, _⟩ := plainElem_int_inv Try.underlying2 hv
    have h2 := congrArg Prod.fst hc
    simp only at h2
    rw [hrun, h2]
theorem mem_event (hgd : o.guard = none) {N : Tmp} (_hd : o.dst = some N)
    (hrun : (execOp a.eval o).run Try.prog w = .ok (.value (.map (some w.heap.size))) (w.alloc (.map #[] 0)))
    (h : ∀ g, g = w.heap.size → ∀ w1, MemAt w1 g [] → Below w.heap.size w w1 → wpList Try.prog ops Q rest (a.put o.dst (.map (some g))) w1) : wpList Try.prog ops Q (o :: rest) a w :=
  Kd.event_run hgd hrun (h _ rfl _ (MemAt.made w) (below_alloc (Below.refl _ _) _))
end

end Go.Proofs.Ytkbjoiebaphdoaa.PX

/- The openings and the key of an ending, as the program reckons them (conditions: few chains and loops, of sizes from 1 to 30). -/
namespace Go.Proofs.Ytkbjoiebaphdoaa.PX
open Go.RowKit Go.Proofs.YtkbjoiebaphdoaaW.PrintWords Go.Proofs.YtkbjoiebaphdoaaW.PrintLast Go.Proofs.YtkbjoiebaphdoaaW.PrintMore
attribute [local go_sem] max2_int min2_int max_two min_two max_three min_three max_four min_four
set_option linter.unusedVariables false
set_option linter.unusedSimpArgs false
abbrev Opng := S75
def toS (o : Bool × Int) : Opng := ⟨o.1, o.2⟩
theorem uniqTo_len (xs : List Int) : ∀ m, (uniqTo xs m).length ≤ m
  | 0 => Nat.le_refl _
  | m + 1 => by
    have ih := uniqTo_len xs m
    rw [uniqTo, List.length_append]
    split
    · simp; omega
    · simp; omega
theorem uniq_le (xs : List Int) : (uniq xs).length ≤ xs.length := uniqTo_len xs _
theorem open_l1 (U : List Int) (hU : U.length ≤ 1048576) : ∀ (d i : Nat) (acc : List Opng), i + d = U.length → acc.length + d ≤ 100000000 → Ev (fun k => impl_Ending_openings.l1 k acc U (U.length : Int) (i : Int)) (acc ++ (U.drop i).map (fun b => toS (true, b)))
  | 0, i, acc, hd, ha => by
    rw [List.drop_of_length_le (by omega), List.map_nil, List.append_nil]
    refine Ev.step (f := fun _ => some acc) (fun k => ?_) (Ev.now _)
    rw [impl_Ending_openings.l1, if_neg (by omega)]
  | d + 1, i, acc, hd, ha => by
    obtain ⟨x, hx⟩ := get_some (xs := U) (i := i) (by omega)
    have ih := open_l1 U hU d (i + 1) (acc ++ [(⟨true, rd U (i : Int)⟩ : Opng)]) (by omega) (by rw [List.length_append, List.length_singleton]; omega)
    have hr : rd U (i : Int) = x := by rw [rd_nat, getD_of hx]
    rw [List.append_assoc] at ih
    rw [drop_of hx, List.map_cons, show toS (true, x) = (⟨true, rd U (i : Int)⟩ : Opng) by rw [hr]; rfl]
    refine Ev.step (fun k => ?_) ih
    rw [impl_Ending_openings.l1, if_pos (by omega), if_pos (by omega), if_pos (by omega), if_pos (by omega), wrapS (i := (i : Int) + 1) (by omega) (by omega), cast_succ]
theorem open_l0 (U C L : List Int) (hU : U.length ≤ 1048576) (hL : L.length ≤ 1048576) : ∀ (d i : Nat) (acc : List Opng), i + d = U.length → acc.length + d ≤ 50000000 → Ev (fun k => impl_Ending_openings.l0 k acc U (U.length : Int) (i : Int) C L) ((acc ++ (U.drop i).map (fun b => toS (false, b))) ++ (uniq L).map (fun b => toS (true, b)))
  | 0, i, acc, hd, ha => by
    rw [List.drop_of_length_le (by omega), List.map_nil, List.append_nil]
    have hu := uniq_le L
    have h := open_l1 (uniq L) (by omega) (uniq L).length 0 acc (by omega) (by omega)
    rw [List.drop_zero] at h
    refine Ev.step (fun k => ?_) h
    rw [impl_Ending_openings.l0, if_neg (by omega)]
    unfold slices_Clone_int64_int64.f slices_Compact_int64_int64.f
    rw [if_pos (by omega), Option.bind_some, if_pos (by omega), Option.bind_some]
    rfl
  | d + 1, i, acc, hd, ha => by
    obtain ⟨x, hx⟩ := get_some (xs := U) (i := i) (by omega)
    have ih := open_l0 U C L hU hL d (i + 1) (acc ++ [(⟨false, rd U (i : Int)⟩ : Opng)]) (by omega) (by rw [List.length_append, List.length_singleton]; omega)
    have hr : rd U (i : Int) = x := by rw [rd_nat, getD_of hx]
    rw [List.append_assoc acc] at ih
    rw [drop_of hx, List.map_cons, show toS (false, x) = (⟨false, rd U (i : Int)⟩ : Opng) by rw [hr]; rfl]
    refine Ev.step (fun k => ?_) ih
    rw [impl_Ending_openings.l0, if_pos (by omega), if_pos (by omega), if_pos (by omega), if_pos (by omega), wrapS (i := (i : Int) + 1) (by omega) (by omega), cast_succ]
theorem open_ev (C L : List Int) (hC : C.length ≤ 1048576) (hL : L.length ≤ 1048576) : Ev (fun k => impl_Ending_openings.f k C L) ((opens C L).map toS) := by
  have hu := uniq_le C
  have h := open_l0 (uniq C) C L (by omega) hL (uniq C).length 0 [] (by omega) (by simp; omega)
  rw [List.drop_zero, List.nil_append] at h
  unfold opens
  rw [List.map_append, List.map_map, List.map_map]
  refine Ev.congr (fun k => ?_) h
  unfold impl_Ending_openings.f slices_Clone_int64_int64.f slices_Compact_int64_int64.f
  rw [if_pos (by omega), Option.bind_some, if_pos (by omega), Option.bind_some]
  rfl
theorem key_l1 (U : List Int) (hU : U.length ≤ 1048576) : ∀ (d i : Nat) (acc : List Int), i + d = U.length → acc.length + d ≤ 100000000 → Ev (fun k => impl_Ending_key.l1 k acc U (U.length : Int) (i : Int)) (strOfNums (acc ++ (U.drop i).map (fun b => b % 256)))
  | 0, i, acc, hd, ha => by
    rw [List.drop_of_length_le (by omega), List.map_nil, List.append_nil]
    refine Ev.step (f := fun _ => some _) (fun k => ?_) (Ev.now _)
    rw [impl_Ending_key.l1, if_neg (by omega)]
  | d + 1, i, acc, hd, ha => by
    obtain ⟨x, hx⟩ := get_some (xs := U) (i := i) (by omega)
    have ih := key_l1 U hU d (i + 1) (acc ++ [rd U (i : Int) % 256]) (by omega) (by rw [List.length_append, List.length_singleton]; omega)
    have hr : rd U (i : Int) = x := by rw [rd_nat, getD_of hx]
    rw [List.append_assoc] at ih
    rw [drop_of hx, List.map_cons, ← hr]
    refine Ev.step (fun k => ?_) ih
    rw [impl_Ending_key.l1, if_pos (by omega), if_pos (by omega), if_pos (by omega), if_pos (by omega), wrapS (i := (i : Int) + 1) (by omega) (by omega), cast_succ]
theorem key_l0 (U C L : List Int) (hU : U.length ≤ 1048576) (hL : L.length ≤ 1048576) : ∀ (d i : Nat) (acc : List Int), i + d = U.length → acc.length + d ≤ 50000000 → Ev (fun k => impl_Ending_key.l0 k acc U (U.length : Int) (i : Int) C L) (strOfNums ((acc ++ (U.drop i).map (fun b => b % 256)) ++ 255 :: L.map (fun b => b % 256)))
  | 0, i, acc, hd, ha => by
    rw [List.drop_of_length_le (by omega), List.map_nil, List.append_nil]
    have h := key_l1 L hL L.length 0 (acc ++ [255]) (by omega) (by rw [List.length_append, List.length_singleton]; omega)
    rw [List.drop_zero, List.append_assoc] at h
    refine Ev.step (fun k => ?_) h
    rw [impl_Ending_key.l0, if_neg (by omega), if_pos (by omega)]
    rfl
  | d + 1, i, acc, hd, ha => by
    obtain ⟨x, hx⟩ := get_some (xs := U) (i := i) (by omega)
    have ih := key_l0 U C L hU hL d (i + 1) (acc ++ [rd U (i : Int) % 256]) (by omega) (by rw [List.length_append, List.length_singleton]; omega)
    have hr : rd U (i : Int) = x := by rw [rd_nat, getD_of hx]
    rw [List.append_assoc acc] at ih
    rw [drop_of hx, List.map_cons, ← hr]
    refine Ev.step (fun k => ?_) ih
    rw [impl_Ending_key.l0, if_pos (by omega), if_pos (by omega), if_pos (by omega), if_pos (by omega), wrapS (i := (i : Int) + 1) (by omega) (by omega), cast_succ]
def keyS (C L : List Int) : ByteArray := strOfNums (C.map (fun b => b % 256) ++ 255 :: L.map (fun b => b % 256))
theorem key_ev (C L : List Int) (hC : C.length ≤ 1048576) (hL : L.length ≤ 1048576) : Ev (fun k => impl_Ending_key.f k C L) (keyS C L) := by
  have h := key_l0 C C L hC hL C.length 0 [] (by omega) (by simp; omega)
  rw [List.drop_zero, List.nil_append] at h
  exact h
theorem map_mod {xs : List Int} (h : okI xs) : xs.map (fun b => b % 256) = xs := by
  have : xs.map (fun b => b % 256) = xs.map id := List.map_congr_left (fun x hx => by have := h x hx; show x % 256 = x; omega)
  rw [this, List.map_id]
theorem keyS_list {C L : List Int} (hC : okI C) (hL : okI L) : (keyS C L).data.toList = keyL C L := by
  unfold keyS keyL
  rw [map_mod hC, map_mod hL, strOfNums_data, List.map_append, List.map_cons]
  rfl
theorem keyS_size (C L : List Int) : (keyS C L).size = C.length + L.length + 1 := by
  unfold keyS
  rw [strOfNums_size]
  simp
  omega

end Go.Proofs.Ytkbjoiebaphdoaa.PX

/- An ending without a chain or a loop, as the program and the reference take it out (conditions: the lists are short; the chain or loop is there). -/
namespace Go.Proofs.Ytkbjoiebaphdoaa.PX
open Go.RowKit Go.Proofs.YtkbjoiebaphdoaaW.PrintWords Go.Proofs.YtkbjoiebaphdoaaW.PrintLast Go.Proofs.YtkbjoiebaphdoaaW.PrintMore
attribute [local go_sem] max2_int min2_int max_two min_two max_three min_three max_four min_four
set_option linter.unusedVariables false
set_option linter.unusedSimpArgs false
theorem index_loop (xs : List Int) (x : Int) (hl : xs.length ≤ 1000) : ∀ (d i : Nat), i + d = xs.length → x ∈ xs.drop i → ∃ j : Nat, j < xs.length ∧ xs.take j ++ xs.drop (j + 1) = xs.take i ++ (xs.drop i).erase x ∧ Ev (fun k => slices_Index_int64_int64.l0 k xs x (xs.length : Int) (i : Int)) (j : Int)
  | 0, i, hd, hm => by rw [List.drop_of_length_le (by omega)] at hm; cases hm
  | d + 1, i, hd, hm => by
    obtain ⟨y, hy⟩ := get_some (xs := xs) (i := i) (by omega)
    rw [drop_of hy] at hm ⊢
    have er : rd xs (i : Int) = y := by rw [rd_nat, getD_of hy]
    by_cases c : x = y
    · subst c
      refine ⟨i, by omega, by rw [List.erase_cons_head], ?_⟩
      refine Ev.step (f := fun _ => some (i : Int)) (fun k => ?_) (Ev.now _)
      rw [slices_Index_int64_int64.l0, if_pos (by omega), if_pos (by omega), if_pos (by omega), if_pos er.symm]
    · have hm2 : x ∈ xs.drop (i + 1) := by
        rcases List.mem_cons.1 hm with h | h
        · exact absurd h c
        · exact h
      obtain ⟨j, h1, h2, h3⟩ := index_loop xs x hl d (i + 1) (by omega) hm2
      refine ⟨j, h1, ?_, ?_⟩
      · rw [h2, List.erase_cons_tail (by simpa using fun e => c e.symm), List.take_add_one, hy, List.append_assoc]; rfl
      · refine Ev.step (fun k => ?_) h3
        rw [slices_Index_int64_int64.l0, if_pos (by omega), if_pos (by omega), if_pos (by omega), er, if_neg c, wrapS (i := (i : Int) + 1) (by omega) (by omega), cast_succ]
theorem index_ev (xs : List Int) (x : Int) (hl : xs.length ≤ 1000) (hm : x ∈ xs) : ∃ j : Nat, j < xs.length ∧ xs.take j ++ xs.drop (j + 1) = xs.erase x ∧ Ev (fun k => slices_Index_int64_int64.f k xs x) (j : Int) := by
  obtain ⟨j, h1, h2, h3⟩ := index_loop xs x hl xs.length 0 (by omega) (by rw [List.drop_zero]; exact hm)
  exact ⟨j, h1, by rw [h2]; simp, h3⟩
theorem without_ev (C L : List Int) (o : Bool × Int) (hC : C.length ≤ 1000) (hL : L.length ≤ 1000) (ho : o ∈ opens C L) : Ev (fun k => impl_Ending_without.f k C L o.1 o.2) (lessC C o, lessL L o) := by
  rw [opens_mem] at ho
  unfold lessC lessL impl_Ending_without.f
  by_cases c : o.1 = true
  · rw [if_pos c] at ho
    rw [if_pos c, if_pos c]
    obtain ⟨j, h1, h2, h3⟩ := index_ev L o.2 hL ho
    refine Ev.congr (fun k => if_pos c) ?_
    unfold without_true.f slices_Clone_int64_int64.f
    rw [if_pos (by omega), if_pos (by omega)]
    refine Ev.congr (f := fun k => (slices_Index_int64_int64.f k L o.2).bind fun tI => (cutAt L tI).bind fun tD => some (C, tD)) (fun k => rfl) (Ev.bind h3 ?_)
    refine Ev.congr (f := fun _ => some (C, L.erase o.2)) (fun k => ?_) (Ev.now _)
    unfold cutAt
    rw [if_pos (by omega), if_pos (by omega), if_pos (by omega), Int.toNat_natCast, h2]
    rfl
  · rw [if_neg c] at ho
    rw [if_neg c, if_neg c]
    obtain ⟨j, h1, h2, h3⟩ := index_ev C o.2 hC ho
    refine Ev.congr (fun k => if_neg c) ?_
    unfold without_false.f slices_Clone_int64_int64.f
    rw [if_pos (by omega), if_pos (by omega)]
    refine Ev.congr (f := fun k => (slices_Index_int64_int64.f k C o.2).bind fun tI => (cutAt C tI).bind fun tD => some (tD, L)) (fun k => rfl) (Ev.bind h3 ?_)
    refine Ev.congr (f := fun _ => some (C.erase o.2, L)) (fun k => ?_) (Ev.now _)
    unfold cutAt
    rw [if_pos (by omega), if_pos (by omega), if_pos (by omega), Int.toNat_natCast, h2]
    rfl
def moreO (o : Bool × Int) : Int := o.2 - (if o.1 = true then 8 else 4)
def okO (o : Bool × Int) : Bool := o.1 || decide (3 ≤ o.2)
theorem sparing_of (o : Bool × Int) (h : 1 ≤ o.2 ∧ o.2 ≤ 30) : impl_opening_sparing.f o.1 o.2 = some (moreO o, okO o) := by
  unfold impl_opening_sparing.f moreO okO
  obtain ⟨l, b⟩ := o
  cases l with
  | true => rw [if_pos rfl, if_pos rfl, wrapS (by show _ ≤ b - 8; have := h.1; simp only at this; omega) (by show b - 8 < _; have := h.2; simp only at this; omega)]; rfl
  | false => rw [if_neg Bool.false_ne_true, if_neg Bool.false_ne_true, wrapS (by show _ ≤ b - 4; have := h.1; simp only at this; omega) (by show b - 4 < _; have := h.2; simp only at this; omega)]; rfl
theorem ansOf_ok {o : Bool × Int} {r : Int} (h1 : okO o = true) (h2 : r - moreO o < -o.2 - r) : ansOf o r = (r - moreO o, true) := by
  unfold ansOf
  rw [if_pos ⟨by unfold okO at h1; simpa using h1, h2⟩]
  rfl
theorem ansOf_no {o : Bool × Int} {r : Int} (h : okO o = false ∨ ¬ r - moreO o < -o.2 - r) : ansOf o r = (-o.2 - r, false) := by
  unfold ansOf
  refine if_neg (fun hh => ?_)
  rcases h with h | h
  · have : okO o = true := by unfold okO; simpa using hh.1
    rw [h] at this; cases this
  · exact h hh.2
theorem opens_size {C L : List Int} (hC : okC C) (hL : okL L) {o : Bool × Int} (ho : o ∈ opens C L) : 1 ≤ o.2 ∧ o.2 ≤ 30 := by
  rw [opens_mem] at ho
  by_cases c : o.1 = true
  · rw [if_pos c] at ho; have := hL _ ho; omega
  · rw [if_neg c] at ho; exact hC _ ho
theorem rest_le {C L : List Int} (hC : okC C) (hL : okL L) (h8 : C.length + L.length ≤ 8) {o : Bool × Int} (ho : o ∈ opens C L) : -240 ≤ val (lessC C o) (lessL L o) ∧ val (lessC C o) (lessL L o) ≤ 240 := by
  have hl := less_len ho
  have h1 := val_le (C := lessC C o) (L := lessL L o) (fun x hx => hC x (lessC_mem hx)) (fun x hx => hL x (lessL_mem hx)) _ rfl
  omega
theorem less_okC {C : List Int} {o : Bool × Int} (h : okC C) : okC (lessC C o) := fun x hx => h x (lessC_mem hx)
theorem less_okL {L : List Int} {o : Bool × Int} (h : okL L) : okL (lessL L o) := fun x hx => h x (lessL_mem hx)

end Go.Proofs.Ytkbjoiebaphdoaa.PX

/- The reference's endings without a chain or a loop, and its best answers, in plain terms (conditions: the lists are short; sizes from 1 to 30). -/
namespace Go.Proofs.Ytkbjoiebaphdoaa.PX
open Go.RowKit Go.Proofs.YtkbjoiebaphdoaaW.PrintWords Go.Proofs.YtkbjoiebaphdoaaW.PrintLast Go.Proofs.YtkbjoiebaphdoaaW.PrintMore
attribute [local go_sem] max2_int min2_int max_two min_two max_three min_three max_four min_four
set_option linter.unusedVariables false
set_option linter.unusedSimpArgs false
theorem wr_copy1 (C0 C L : List Int) (x : Int) (l f : Bool) (h : l = false ∨ f = true) (hL : L.length ≤ 1000) : ∀ (d i : Nat) (acc : List Int), i + d = L.length → acc.length + d ≤ 1000 → Ev (fun k => spec_l04Without.l1 k l x f (i : Int) C L C0 acc) (C0, acc ++ L.drop i, f)
  | 0, i, acc, hd, ha => by
    rw [List.drop_of_length_le (by omega), List.append_nil]
    refine Ev.step (f := fun _ => some _) (fun k => ?_) (Ev.now _)
    rw [spec_l04Without.l1, if_neg (by omega)]
  | d + 1, i, acc, hd, ha => by
    obtain ⟨y, hy⟩ := get_some (xs := L) (i := i) (by omega)
    have er : rd L (i : Int) = y := by rw [rd_nat, getD_of hy]
    have ih := wr_copy1 C0 C L x l f h hL d (i + 1) (acc ++ [y]) (by omega) (by rw [List.length_append, List.length_singleton]; omega)
    rw [List.append_assoc] at ih
    rw [drop_of hy]
    refine Ev.step (fun k => ?_) ih
    rw [spec_l04Without.l1, if_pos (by omega), er, wrapS (i := (i : Int) + 1) (by omega) (by omega), cast_succ]
    by_cases c : l = true
    · rw [if_pos c, if_pos (h.resolve_left (by rw [c]; decide)), if_pos (by omega), if_pos (by omega)]
    · rw [if_neg c, if_pos (by omega), if_pos (by omega)]
theorem wr_find1 (C0 C L : List Int) (x : Int) (hL : L.length ≤ 1000) : ∀ (d i : Nat) (acc : List Int), i + d = L.length → acc.length + d ≤ 1000 → Ev (fun k => spec_l04Without.l1 k true x false (i : Int) C L C0 acc) (C0, acc ++ (L.drop i).erase x, decide (x ∈ L.drop i))
  | 0, i, acc, hd, ha => by
    rw [List.drop_of_length_le (by omega), List.erase_nil, List.append_nil]
    refine Ev.step (f := fun _ => some _) (fun k => ?_) (Ev.now _)
    rw [spec_l04Without.l1, if_neg (by omega)]
    rfl
  | d + 1, i, acc, hd, ha => by
    obtain ⟨y, hy⟩ := get_some (xs := L) (i := i) (by omega)
    have er : rd L (i : Int) = y := by rw [rd_nat, getD_of hy]
    rw [drop_of hy]
    by_cases c : y = x
    · subst c
      rw [List.erase_cons_head, decide_eq_true List.mem_cons_self]
      have ih := wr_copy1 C0 C L y true true (.inr rfl) hL d (i + 1) acc (by omega) (by omega)
      refine Ev.step (fun k => ?_) ih
      rw [spec_l04Without.l1, if_pos (by omega), if_pos rfl, if_neg Bool.false_ne_true, if_pos (by omega), er, if_pos rfl, wrapS (i := (i : Int) + 1) (by omega) (by omega), cast_succ]
    · have ih := wr_find1 C0 C L x hL d (i + 1) (acc ++ [y]) (by omega) (by rw [List.length_append, List.length_singleton]; omega)
      rw [List.append_assoc] at ih
      rw [List.erase_cons_tail (by simpa using c), decide_eq_decide.2 (show x ∈ y :: L.drop (i + 1) ↔ x ∈ L.drop (i + 1) from ⟨fun h => (List.mem_cons.1 h).resolve_left (fun e => c e.symm), fun h => List.mem_cons_of_mem _ h⟩)]
      refine Ev.step (fun k => ?_) ih
      rw [spec_l04Without.l1, if_pos (by omega), if_pos rfl, if_neg Bool.false_ne_true, if_pos (by omega), er, if_neg c, if_pos (by omega), wrapS (i := (i : Int) + 1) (by omega) (by omega), cast_succ]
theorem wr_copy0 (C L : List Int) (x : Int) (l f : Bool) (h : l = true ∨ f = true) (hC : C.length ≤ 1000) (r : List Int × List Int × Bool) : ∀ (d i : Nat) (acc : List Int), i + d = C.length → acc.length + d ≤ 1000 → Ev (fun k => spec_l04Without.l1 k l x f 0 C L (acc ++ C.drop i) []) r → Ev (fun k => spec_l04Without.l0 k l x f (i : Int) C L acc []) r
  | 0, i, acc, hd, ha, hk => by
    rw [List.drop_of_length_le (by omega), List.append_nil] at hk
    refine Ev.step (fun k => ?_) hk
    rw [spec_l04Without.l0, if_neg (by omega)]
  | d + 1, i, acc, hd, ha, hk => by
    obtain ⟨y, hy⟩ := get_some (xs := C) (i := i) (by omega)
    have er : rd C (i : Int) = y := by rw [rd_nat, getD_of hy]
    rw [drop_of hy] at hk
    have ih := wr_copy0 C L x l f h hC r d (i + 1) (acc ++ [y]) (by omega) (by rw [List.length_append, List.length_singleton]; omega) (by rw [List.append_assoc]; exact hk)
    refine Ev.step (fun k => ?_) ih
    rw [spec_l04Without.l0, if_pos (by omega), er, wrapS (i := (i : Int) + 1) (by omega) (by omega), cast_succ]
    by_cases c : l = true
    · rw [if_pos c, if_pos (by omega), if_pos (by omega)]
    · rw [if_neg c, if_pos (h.resolve_left c), if_pos (by omega), if_pos (by omega)]
theorem wr_find0 (C L : List Int) (x : Int) (hC : C.length ≤ 1000) (r : List Int × List Int × Bool) : ∀ (d i : Nat) (acc : List Int), i + d = C.length → acc.length + d ≤ 1000 → Ev (fun k => spec_l04Without.l1 k false x (decide (x ∈ C.drop i)) 0 C L (acc ++ (C.drop i).erase x) []) r → Ev (fun k => spec_l04Without.l0 k false x false (i : Int) C L acc []) r
  | 0, i, acc, hd, ha, hk => by
    rw [List.drop_of_length_le (by omega), List.erase_nil, List.append_nil] at hk
    refine Ev.step (fun k => ?_) hk
    rw [spec_l04Without.l0, if_neg (by omega)]
    rfl
  | d + 1, i, acc, hd, ha, hk => by
    obtain ⟨y, hy⟩ := get_some (xs := C) (i := i) (by omega)
    have er : rd C (i : Int) = y := by rw [rd_nat, getD_of hy]
    rw [drop_of hy] at hk
    by_cases c : y = x
    · subst c
      rw [List.erase_cons_head, decide_eq_true List.mem_cons_self] at hk
      have ih := wr_copy0 C L y false true (.inr rfl) hC r d (i + 1) acc (by omega) (by omega) hk
      refine Ev.step (fun k => ?_) ih
      rw [spec_l04Without.l0, if_pos (by omega), if_neg Bool.false_ne_true, if_neg Bool.false_ne_true, if_pos (by omega), er, if_pos rfl, wrapS (i := (i : Int) + 1) (by omega) (by omega), cast_succ]
    · rw [List.erase_cons_tail (by simpa using c), decide_eq_decide.2 (show x ∈ y :: C.drop (i + 1) ↔ x ∈ C.drop (i + 1) from ⟨fun h => (List.mem_cons.1 h).resolve_left (fun e => c e.symm), fun h => List.mem_cons_of_mem _ h⟩)] at hk
      have ih := wr_find0 C L x hC r d (i + 1) (acc ++ [y]) (by omega) (by rw [List.length_append, List.length_singleton]; omega) (by rw [List.append_assoc]; exact hk)
      refine Ev.step (fun k => ?_) ih
      rw [spec_l04Without.l0, if_pos (by omega), if_neg Bool.false_ne_true, if_neg Bool.false_ne_true, if_pos (by omega), er, if_neg c, if_pos (by omega), wrapS (i := (i : Int) + 1) (by omega) (by omega), cast_succ]
def isIn (C L : List Int) (o : Bool × Int) : Bool := if o.1 = true then decide (o.2 ∈ L) else decide (o.2 ∈ C)
theorem isIn_opens {C L : List Int} {o : Bool × Int} : isIn C L o = true ↔ o ∈ opens C L := by
  rw [opens_mem]
  unfold isIn
  by_cases c : o.1 = true
  · rw [if_pos c, if_pos c, decide_eq_true_eq]
  · rw [if_neg c, if_neg c, decide_eq_true_eq]
theorem withoutR_ev (C L : List Int) (o : Bool × Int) (hC : C.length ≤ 1000) (hL : L.length ≤ 1000) : Ev (fun k => spec_l04Without.f k C L o.1 o.2) (lessC C o, lessL L o, isIn C L o) := by
  obtain ⟨l, x⟩ := o
  unfold spec_l04Without.f lessC lessL isIn
  cases l with
  | true =>
    rw [if_pos rfl, if_pos rfl, if_pos rfl]
    have h1 := wr_find1 C C L x hL L.length 0 [] (by omega) (by simp; omega)
    rw [List.drop_zero, List.nil_append] at h1
    exact wr_copy0 C L x true false (.inl rfl) hC _ C.length 0 [] (by omega) (by simp; omega) (by rw [List.drop_zero, List.nil_append]; exact h1)
  | false =>
    rw [if_neg Bool.false_ne_true, if_neg Bool.false_ne_true, if_neg Bool.false_ne_true]
    have h1 := wr_copy1 (C.erase x) C L x false (decide (x ∈ C)) (.inl rfl) hL L.length 0 [] (by omega) (by simp; omega)
    rw [List.drop_zero, List.nil_append] at h1
    exact wr_find0 C L x hC _ C.length 0 [] (by omega) (by simp; omega) (by rw [List.drop_zero, List.nil_append]; exact h1)
theorem answerR_eq (o : Bool × Int) (v : Int) (h : 1 ≤ o.2 ∧ o.2 ≤ 30) (hv : -240 ≤ v ∧ v ≤ 240) : spec_l04Answer.f o.1 o.2 v = some (-(ansOf o v).1, (ansOf o v).2) := by
  obtain ⟨l, b⟩ := o
  simp only at h
  unfold spec_l04Answer.f spec_l04Taker.f
  simp only
  have w1 : wrap64 (b + v) = b + v := wrapS (by omega) (by omega)
  cases l with
  | true =>
    have w2 : wrap64 (b - 8) = b - 8 := wrapS (by omega) (by omega)
    have w3 : wrap64 (b - 8 - v) = b - 8 - v := wrapS (by omega) (by omega)
    rw [if_pos rfl, Option.bind_some, w1, w2, w3, if_pos rfl]
    have hok : okO (true, b) = true := rfl
    by_cases c : b - 8 - v > b + v
    · rw [if_pos c, ansOf_ok hok (show v - (b - 8) < -b - v by omega)]
      show some (b - 8 - v, true) = some (-(v - (b - 8)), true)
      rw [show -(v - (b - 8)) = b - 8 - v by omega]
    · rw [if_neg c, ansOf_no (.inr (show ¬ v - (b - 8) < -b - v by omega))]
      show some (b + v, false) = some (-(-b - v), false)
      rw [show -(-b - v) = b + v by omega]
  | false =>
    have w2 : wrap64 (b - 4) = b - 4 := wrapS (by omega) (by omega)
    have w3 : wrap64 (b - 4 - v) = b - 4 - v := wrapS (by omega) (by omega)
    rw [if_neg Bool.false_ne_true, Option.bind_some, w1, w2, w3]
    by_cases c0 : 3 ≤ b
    · have hok : okO (false, b) = true := by unfold okO; simp [c0]
      rw [if_pos (decide_eq_true (show b > 2 by omega))]
      by_cases c : b - 4 - v > b + v
      · rw [if_pos c, ansOf_ok hok (show v - (b - 4) < -b - v by omega)]
        show some (b - 4 - v, true) = some (-(v - (b - 4)), true)
        rw [show -(v - (b - 4)) = b - 4 - v by omega]
      · rw [if_neg c, ansOf_no (.inr (show ¬ v - (b - 4) < -b - v by omega))]
        show some (b + v, false) = some (-(-b - v), false)
        rw [show -(-b - v) = b + v by omega]
    · have hok : okO (false, b) = false := by unfold okO; simp; omega
      rw [if_neg (by rw [decide_eq_true_eq]; omega), ansOf_no (.inl hok)]
      show some (b + v, false) = some (-(-b - v), false)
      rw [show -(-b - v) = b + v by omega]

end Go.Proofs.Ytkbjoiebaphdoaa.PX

/- The code of an ending and an opening, as the program reckons it (condition: lists that fit). -/
namespace Go.Proofs.Ytkbjoiebaphdoaa.PX
open Go.RowKit Go.Proofs.YtkbjoiebaphdoaaW.PrintWords Go.Proofs.YtkbjoiebaphdoaaW.PrintLast Go.Proofs.YtkbjoiebaphdoaaW.PrintMore
attribute [local go_sem] max2_int min2_int max_two min_two max_three min_three max_four min_four
set_option linter.unusedVariables false
set_option linter.unusedSimpArgs false
theorem idx_loop (U : List (Bool × Int)) (hU : U.length ≤ 4194304) (o : Bool × Int) : ∀ (d i : Nat), i + d = U.length → ∃ r : Int, decide (r ≥ 0) = decide (o ∈ U.drop i) ∧ Ev (fun k => impl_opening_114.l0 k (U.map toS) ((U.map toS).length : Int) (i : Int) o.1 o.2) r
  | 0, i, hd => by
    rw [List.drop_of_length_le (by omega)]
    refine ⟨-1, by simp, Ev.step (f := fun _ => some (-1)) (fun k => ?_) (Ev.now _)⟩
    rw [impl_opening_114.l0, if_neg (by rw [List.length_map]; omega)]
  | d + 1, i, hd => by
    obtain ⟨x, hx⟩ := get_some (xs := U) (i := i) (by omega)
    have hl : (U.map toS).length = U.length := List.length_map ..
    have hrd : rd_T75 (U.map toS) (i : Int) = toS x := by
      unfold rd_T75
      rw [Int.toNat_natCast, List.getD_eq_getElem?_getD, List.getElem?_map, hx]; rfl
    rw [drop_of hx]
    by_cases c : o = x
    · subst c
      refine ⟨(i : Int), ?_, Ev.step (f := fun _ => some (i : Int)) (fun k => ?_) (Ev.now _)⟩
      · rw [decide_eq_true (show (i : Int) ≥ 0 by omega), decide_eq_true List.mem_cons_self]
      · rw [impl_opening_114.l0, hl, if_pos (by omega), if_pos (by omega), if_pos (by omega), hrd, if_pos (show (o.1 == (toS o).f0 && (o.2 == (toS o).f1)) = true by show (o.1 == o.1 && (o.2 == o.2)) = true; rw [beq_self_eq_true, beq_self_eq_true]; rfl)]
    · obtain ⟨r, h1, h2⟩ := idx_loop U hU o d (i + 1) (by omega)
      refine ⟨r, ?_, Ev.step (fun k => ?_) h2⟩
      · rw [h1]
        exact decide_eq_decide.2 ⟨fun h => List.mem_cons_of_mem _ h, fun h => (List.mem_cons.1 h).resolve_left c⟩
      · have hne : ¬ (o.1 == (toS x).f0 && (o.2 == (toS x).f1)) = true := by
          show ¬ (o.1 == x.1 && (o.2 == x.2)) = true
          simp only [Bool.and_eq_true, beq_iff_eq]
          rintro ⟨e1, e2⟩
          exact c (Prod.ext e1 e2)
        rw [impl_opening_114.l0, hl, if_pos (by omega), if_pos (by omega), if_pos (by omega), hrd, if_neg hne, wrapS (i := (i : Int) + 1) (by omega) (by omega), cast_succ]
theorem isIn_dec (C L : List Int) (o : Bool × Int) : isIn C L o = decide (o ∈ opens C L) := by
  cases h : isIn C L o with
  | true => rw [decide_eq_true (isIn_opens.1 h)]
  | false => rw [decide_eq_false (fun hh => by rw [isIn_opens.2 hh] at h; cases h)]
theorem contains_ev (C L : List Int) (o : Bool × Int) (h : C.length + L.length ≤ 2097152) : Ev (fun k => impl_opening_101.f k ((opens C L).map toS) o.1 o.2) (isIn C L o) := by
  have hol : (opens C L).length ≤ C.length + L.length := by
    unfold opens
    rw [List.length_append, List.length_map, List.length_map]
    have := uniq_le C
    have := uniq_le L
    omega
  obtain ⟨r, h1, h2⟩ := idx_loop (opens C L) (by omega) o (opens C L).length 0 (by omega)
  rw [List.drop_zero] at h1
  unfold impl_opening_101.f
  rw [isIn_dec, ← h1]
  exact Ev.bind h2 (Ev.now _)
def codeOf (C L : List Int) (o : Bool × Int) : Int := if isEnd C L = true then (if isIn C L o = true then 0 else 5) else 1
theorem code_ev (C L : List Int) (o : Bool × Int) (hC : C.length ≤ 1048576) (hL : L.length ≤ 1048576) : Ev (fun k => impl_openingCode.f k C L o.1 o.2) (codeOf C L o) := by
  have hf := first2_ev (isEnd C L) (isIn C L o) 1 5
  unfold impl_openingCode.f codeOf
  refine Ev.bind (IsEnding_ev C L hC hL) (Ev.bind (open_ev C L hC hL) (Ev.bind (contains_ev C L o (by omega)) (Ev.bind hf (Ev.now _))))
theorem isEnd_ok {C L : List Int} (h : isEnd C L = true) : okC C ∧ okL L ∧ C.length + L.length ≤ 8 := by
  have h8 := isEnd_len h
  unfold isEnd at h
  simp only [Bool.and_eq_true] at h
  obtain ⟨⟨_, h1⟩, h2⟩ := h
  rw [asc_eq, Bool.and_eq_true] at h1 h2
  refine ⟨fun x hx => ?_, fun x hx => ?_, h8⟩
  · exact sizeOk_lo (List.all_eq_true.1 h1.2 x hx)
  · exact sizeOk_lo (List.all_eq_true.1 h2.2 x hx)

end Go.Proofs.Ytkbjoiebaphdoaa.PX

/- The walk of the program's AfterOpening (conditions: the slices read as the lists; they fit in memory). -/
namespace Go.Proofs.Ytkbjoiebaphdoaa.PX
open Go.RowKit Go.Proofs.YtkbjoiebaphdoaaW.PrintWords Go.Proofs.YtkbjoiebaphdoaaW.PrintLast Go.Proofs.YtkbjoiebaphdoaaW.PrintMore
attribute [local go_sem] max2_int min2_int max_two min_two max_three min_three max_four min_four
set_option linter.unusedVariables false
set_option linter.unusedSimpArgs false
def afterOf (C L : List Int) (o : Bool × Int) : List Int × List Int × Int := if isEnd C L = true then (if isIn C L o = true then (lessC C o, lessL L o, 0) else ([], [], 5)) else ([], [], 1)
def impl_AfterOpening.f (_k : Nat) (C L : List Int) (ol : Bool) (ob : Int) : Option (List Int × List Int × Int) := if C.length ≤ 1048576 ∧ L.length ≤ 1048576 then some (afterOf C L (ol, ob)) else none
theorem impl_AfterOpening.mono : ∀ a0 a1 a2 a3 k, LeO (impl_AfterOpening.f k a0 a1 a2 a3) (impl_AfterOpening.f (k + 1) a0 a1 a2 a3) := fun _ _ _ _ _ => LeO.refl _
set_option maxHeartbeats 16000000 in
set_option maxRecDepth 100000 in
theorem impl_AfterOpening.calls (k : Nat) (A0 : Option Addr) (c0 : Nat) (C : List Int) (A1 : Option Addr) (c1 : Nat) (L : List Int) (ol : Bool) (ob : Int) (r1 : List Int) (r2 : List Int) (r3 : Int) (w : World) (hr0 : Kd.C (Kd.int .i64) w A0 C.length C) (hc0 : C.length ≤ c0) (hr1 : Kd.C (Kd.int .i64) w A1 L.length L) (hc1 : L.length ≤ c1) (h : impl_AfterOpening.f k C L ol ob = some (r1, r2, r3)) :
    Calls Try.prog 27 #[.agg #[.slice A0 C.length c0, .slice A1 L.length c1], .bool ol, .int .i64 ob] w fun e w' => ∃ v0_ v1_ : Value, e = .returned (.tuple #[.agg #[v0_, v1_], .int .i64 r3]) ∧ Kd.R (Kd.int .i64) 2 w' w.heap.size (fun k_ => some k_ ≠ (v1_ : Value).ownBlock) v0_ r1 ∧ Kd.R (Kd.int .i64) 2 w' w.heap.size (fun k_ => some k_ ≠ (v0_ : Value).ownBlock) v1_ r2 ∧ Below w.heap.size w w' := by
  have hu27 := Try.underlying27
  have hu75 := Try.underlying75
  have HR0 := Aside0.mk hr0
  have HC0 := Aside0.mk hc0
  have HR1 := Aside0.mk hr1
  have HC1 := Aside0.mk hc1
  have HB := Aside0.mk (Below.refl w.heap.size w)
  clear hr0 hc0 hr1 hc1
  unfold impl_AfterOpening.f at h
  split at h
  rotate_left
  · cases h
  rename_i hsz
  obtain ⟨kc, hkc⟩ := Ev.rounds (code_ev C L (ol, ob) hsz.1 hsz.2)
  have hco : codeOf C L (ol, ob) = 1 ∨ codeOf C L (ol, ob) = 5 ∨ (codeOf C L (ol, ob) = 0 ∧ isEnd C L = true ∧ isIn C L (ol, ob) = true) := by
    unfold codeOf
    cases isEnd C L <;> cases isIn C L (ol, ob) <;> simp
  have haf : codeOf C L (ol, ob) ≠ 0 → afterOf C L (ol, ob) = ([], [], codeOf C L (ol, ob)) := by
    unfold codeOf afterOf
    cases isEnd C L <;> cases isIn C L (ol, ob) <;> simp
  have h' := Option.some.inj h
  clear h
  rcases hco with hc | hc | ⟨hc, hE, hI⟩
  · rw [haf (by rw [hc]; decide), hc] at h'
    rw [hc] at hkc
    have HCO := Aside0.mk hkc
    simp only [Prod.mk.injEq] at h'
    obtain ⟨rfl, rfl, rfl⟩ := h'
    clear hsz hkc haf hc
    go_enter Try.func27, Try.ntmps27
    go_wp2_with (first | ((with_reducible refine gate_dst (N := 3) rfl ?_); (try (refine gate_guard (by rfl) ?_; dsimp only)); refine box_event ?hg (N := 3) ?hd (cs := #[.slice A0 C.length c0, .slice A1 L.length c1]) (t := 27) ?hr ?_; (case hd => rfl); (case hg => rfl); (case hr => first | (go_simp; done) | (go_simp; rfl)); intro gbx hg w2 hbox hb; have BX := Aside0.mk hbox; clear hg hbox; have n0_ := Aside0.mk (below_step HB.out hb); clear HB; have HB := n0_; clear n0_; clear hb; (try clear hz_gbx_0); have hz_gbx_0 : w2.cell? ⟨gbx, 0, none⟩ = some (.slice A0 C.length c0) := (blk_cell BX.out 0).trans rfl; (try clear hf_gbx_0); have hf_gbx_0 := blk_frozen BX.out 0; (try clear hz_gbx_1); have hz_gbx_1 : w2.cell? ⟨gbx, 1, none⟩ = some (.slice A1 L.length c1) := (blk_cell BX.out 1).trans rfl; (try clear hf_gbx_1); have hf_gbx_1 := blk_frozen BX.out 1) | ((with_reducible refine gate_dst (N := 6) rfl ?_); (try (refine gate_guard (by rfl) ?_; dsimp only)); refine box_event ?hg (N := 6) ?hd (cs := #[.slice none 0 0, .slice none 0 0]) (t := 27) ?hr ?_; (case hd => rfl); (case hg => rfl); (case hr => first | (go_simp; done) | (go_simp; rfl)); intro gbr hg w3 hbox hb; have BR := Aside0.mk hbox; have GR := Aside0.mk (show w.heap.size ≤ gbr by rw [hg]; exact HB.out.size); have NXR := Aside0.mk (show gbx ≠ gbr by rw [hg]; exact Nat.ne_of_lt (blk_lt BX.out)); clear hg hbox; have n0_ := Aside0.mk (blk_below (g := gbx) (o := .cells #[.slice A0 C.length c0, .slice A1 L.length c1] 27 (0, 0)) BX.out hb); have n1_ := Aside0.mk (below_step HB.out hb); clear BX HB; have BX := n0_; have HB := n1_; clear n0_ n1_; clear hb; (try clear hz_gbx_0); have hz_gbx_0 : w3.cell? ⟨gbx, 0, none⟩ = some (.slice A0 C.length c0) := (blk_cell BX.out 0).trans rfl; (try clear hf_gbx_0); have hf_gbx_0 := blk_frozen BX.out 0; (try clear hz_gbx_1); have hz_gbx_1 : w3.cell? ⟨gbx, 1, none⟩ = some (.slice A1 L.length c1) := (blk_cell BX.out 1).trans rfl; (try clear hf_gbx_1); have hf_gbx_1 := blk_frozen BX.out 1; (try clear hz_gbr_0); have hz_gbr_0 : w3.cell? ⟨gbr, 0, none⟩ = some (.slice none 0 0) := (blk_cell BR.out 0).trans rfl; (try clear hf_gbr_0); have hf_gbr_0 := blk_frozen BR.out 0; (try clear hz_gbr_1); have hz_gbr_1 : w3.cell? ⟨gbr, 1, none⟩ = some (.slice none 0 0) := (blk_cell BR.out 1).trans rfl; (try clear hf_gbr_1); have hf_gbr_1 := blk_frozen BR.out 1) | ((with_reducible refine gate_dst (N := 8) rfl ?_); (try (refine gate_guard (by rfl) ?_; dsimp only)); refine box_event ?hg (N := 8) ?hd (cs := #[.bool false, .int .i64 0]) (t := 75) ?hr ?_; (case hd => rfl); (case hg => rfl); (case hr => first | (go_simp; done) | (go_simp; rfl)); intro gbo hg w4 hbox hb; have HBB := Aside0.mk hb; have HGO := Aside0.mk hg; have BX2 := Aside0.mk (blk_below (g := gbx) (o := .cells #[.slice A0 C.length c0, .slice A1 L.length c1] 27 (0, 0)) BX.out hb); have BR2 := Aside0.mk (blk_below (g := gbr) (o := .cells #[.slice none 0 0, .slice none 0 0] 27 (0, 0)) BR.out hb); have BO2 := Aside0.mk hbox; have ne1 : gbx ≠ gbo := (by rw [hg]; exact Nat.ne_of_lt (blk_lt BX.out)); have ne2 : gbo ≠ gbx := Ne.symm ne1; have ne3 : gbr ≠ gbo := (by rw [hg]; exact Nat.ne_of_lt (blk_lt BR.out)); have ne4 : gbo ≠ gbr := Ne.symm ne3; clear hb hg hbox; (try clear hz_gbx_0); have hz_gbx_0 : w4.cell? ⟨gbx, 0, none⟩ = some (.slice A0 C.length c0) := (blk_cell BX2.out 0).trans rfl; (try clear hf_gbx_0); have hf_gbx_0 := blk_frozen BX2.out 0; (try clear hz_gbx_1); have hz_gbx_1 : w4.cell? ⟨gbx, 1, none⟩ = some (.slice A1 L.length c1) := (blk_cell BX2.out 1).trans rfl; (try clear hf_gbx_1); have hf_gbx_1 := blk_frozen BX2.out 1; (try clear hz_gbo_0); have hz_gbo_0 : w4.cell? ⟨gbo, 0, none⟩ = some (.bool false) := (blk_cell BO2.out 0).trans rfl; (try clear hf_gbo_0); have hf_gbo_0 := blk_frozen BO2.out 0; (try clear hz_gbo_1); have hz_gbo_1 : w4.cell? ⟨gbo, 1, none⟩ = some (.int .i64 0) := (blk_cell BO2.out 1).trans rfl; (try clear hf_gbo_1); have hf_gbo_1 := blk_frozen BO2.out 1) | ((with_reducible refine gate_dst (N := 15) rfl ?_); (try (refine gate_guard (by rfl) ?_; dsimp only)); refine goesL_ (some 15) rfl rfl Try.func73 (by kernel_rfl) rfl #[.agg #[.slice A0 C.length c0, .slice A1 L.length c1], .agg #[.bool ol, .int .i64 ob]] rfl (by (try simp only [List.map_toArray, List.map_cons, List.map_nil]); first | done | rfl) ?_; have hBs : Below w.heap.size w ((w4.setCell ⟨gbo, 0, none⟩ (.bool ol)).setCell ⟨gbo, 1, none⟩ (.int .i64 ob)) := below_set (below_set (below_step HB.out HBB.out) (by rw [HGO.out]; exact HB.out.size)) (by rw [HGO.out]; exact HB.out.size); have hXs := blk_far (p := ⟨gbo, 1, none⟩) (blk_far (p := ⟨gbo, 0, none⟩) BX2.out ne1 (.bool ol)) ne1 (.int .i64 ob); have hRs := blk_far (p := ⟨gbo, 1, none⟩) (blk_far (p := ⟨gbo, 0, none⟩) BR2.out ne3 (.bool ol)) ne3 (.int .i64 ob); have hOs := blk_put (cs := #[.bool ol, .int .i64 0]) (blk_put (cs := #[.bool false, .int .i64 0]) BO2.out 0 (.bool ol) rfl) 1 (.int .i64 ob) rfl; (with_reducible refine (impl_openingCode.calls kc A0 c0 C A1 c1 L ol ob 1 _ ?side1 HC0.out ?side2 HC1.out HCO.out).mono ?_); (case side1 => exact Kd.C_below HR0.out hBs); (case side2 => exact Kd.C_below HR1.out hBs); rintro e w5 ⟨rfl, hb⟩; refine ⟨_, rfl, ?_⟩; have n0_ := Aside0.mk (blk_below (g := gbx) (o := .cells #[.slice A0 C.length c0, .slice A1 L.length c1] 27 (0, 0)) hXs hb); have n1_ := Aside0.mk (blk_below (g := gbo) (o := .cells #[.bool ol, .int .i64 ob] 75 (0, 0)) hOs hb); have n2_ := Aside0.mk (below_step hBs hb); have n3_ := Aside0.mk (blk_below (g := gbr) (o := .cells #[.slice none 0 0, .slice none 0 0] 27 (0, 0)) hRs hb); clear BX BX2 BO2 BR BR2 HB HBB HGO hBs hXs hOs hRs hb; have BX := n0_; have BO := n1_; have HB := n2_; have BR := n3_; clear n0_ n1_ n2_ n3_; (try clear hz_gbx_0 hz_gbx_1 hf_gbx_0 hf_gbx_1 hz_gbo_0 hz_gbo_1 hf_gbo_0 hf_gbo_1 hz_gbr_0 hz_gbr_1 hf_gbr_0 hf_gbr_1); (try clear hz_gbx_0); have hz_gbx_0 : w5.cell? ⟨gbx, 0, none⟩ = some (.slice A0 C.length c0) := (blk_cell BX.out 0).trans rfl; (try clear hf_gbx_0); have hf_gbx_0 := blk_frozen BX.out 0; (try clear hz_gbx_1); have hz_gbx_1 : w5.cell? ⟨gbx, 1, none⟩ = some (.slice A1 L.length c1) := (blk_cell BX.out 1).trans rfl; (try clear hf_gbx_1); have hf_gbx_1 := blk_frozen BX.out 1; (try clear hz_gbo_0); have hz_gbo_0 : w5.cell? ⟨gbo, 0, none⟩ = some (.bool ol) := (blk_cell BO.out 0).trans rfl; (try clear hf_gbo_0); have hf_gbo_0 := blk_frozen BO.out 0; (try clear hz_gbo_1); have hz_gbo_1 : w5.cell? ⟨gbo, 1, none⟩ = some (.int .i64 ob) := (blk_cell BO.out 1).trans rfl; (try clear hf_gbo_1); have hf_gbo_1 := blk_frozen BO.out 1; (try clear hz_gbr_0); have hz_gbr_0 : w5.cell? ⟨gbr, 0, none⟩ = some (.slice none 0 0) := (blk_cell BR.out 0).trans rfl; (try clear hf_gbr_0); have hf_gbr_0 := blk_frozen BR.out 0; (try clear hz_gbr_1); have hz_gbr_1 : w5.cell? ⟨gbr, 1, none⟩ = some (.slice none 0 0) := (blk_cell BR.out 1).trans rfl; (try clear hf_gbr_1); have hf_gbr_1 := blk_frozen BR.out 1))
    refine bodyPost_ret (results_ct rfl _ _ gbr 27 #[.slice none 0 0, .slice none 0 0] (0, 0) _ rfl (by refine blk_put (cs := #[.slice none 0 0, .slice none 0 0]) ?_ 1 _ rfl; refine blk_put (cs := #[.slice none 0 0, .slice none 0 0]) ?_ 0 _ rfl; exact BR.out) Try.underlying27 rfl (by kernel_rfl)) rfl ?_
    exact ⟨_, _, rfl, Kd.R_nil _ _ _ _ _, Kd.R_nil _ _ _ _ _, below_set (below_set HB.out GR.out) GR.out⟩
  · rw [haf (by rw [hc]; decide), hc] at h'
    rw [hc] at hkc
    have HCO := Aside0.mk hkc
    simp only [Prod.mk.injEq] at h'
    obtain ⟨rfl, rfl, rfl⟩ := h'
    clear hsz hkc haf hc
    go_enter Try.func27, Try.ntmps27
    go_wp2_with (first | ((with_reducible refine gate_dst (N := 3) rfl ?_); (try (refine gate_guard (by rfl) ?_; dsimp only)); refine box_event ?hg (N := 3) ?hd (cs := #[.slice A0 C.length c0, .slice A1 L.length c1]) (t := 27) ?hr ?_; (case hd => rfl); (case hg => rfl); (case hr => first | (go_simp; done) | (go_simp; rfl)); intro gbx hg w2 hbox hb; have BX := Aside0.mk hbox; clear hg hbox; have n0_ := Aside0.mk (below_step HB.out hb); clear HB; have HB := n0_; clear n0_; clear hb; (try clear hz_gbx_0); have hz_gbx_0 : w2.cell? ⟨gbx, 0, none⟩ = some (.slice A0 C.length c0) := (blk_cell BX.out 0).trans rfl; (try clear hf_gbx_0); have hf_gbx_0 := blk_frozen BX.out 0; (try clear hz_gbx_1); have hz_gbx_1 : w2.cell? ⟨gbx, 1, none⟩ = some (.slice A1 L.length c1) := (blk_cell BX.out 1).trans rfl; (try clear hf_gbx_1); have hf_gbx_1 := blk_frozen BX.out 1) | ((with_reducible refine gate_dst (N := 6) rfl ?_); (try (refine gate_guard (by rfl) ?_; dsimp only)); refine box_event ?hg (N := 6) ?hd (cs := #[.slice none 0 0, .slice none 0 0]) (t := 27) ?hr ?_; (case hd => rfl); (case hg => rfl); (case hr => first | (go_simp; done) | (go_simp; rfl)); intro gbr hg w3 hbox hb; have BR := Aside0.mk hbox; have GR := Aside0.mk (show w.heap.size ≤ gbr by rw [hg]; exact HB.out.size); have NXR := Aside0.mk (show gbx ≠ gbr by rw [hg]; exact Nat.ne_of_lt (blk_lt BX.out)); clear hg hbox; have n0_ := Aside0.mk (blk_below (g := gbx) (o := .cells #[.slice A0 C.length c0, .slice A1 L.length c1] 27 (0, 0)) BX.out hb); have n1_ := Aside0.mk (below_step HB.out hb); clear BX HB; have BX := n0_; have HB := n1_; clear n0_ n1_; clear hb; (try clear hz_gbx_0); have hz_gbx_0 : w3.cell? ⟨gbx, 0, none⟩ = some (.slice A0 C.length c0) := (blk_cell BX.out 0).trans rfl; (try clear hf_gbx_0); have hf_gbx_0 := blk_frozen BX.out 0; (try clear hz_gbx_1); have hz_gbx_1 : w3.cell? ⟨gbx, 1, none⟩ = some (.slice A1 L.length c1) := (blk_cell BX.out 1).trans rfl; (try clear hf_gbx_1); have hf_gbx_1 := blk_frozen BX.out 1; (try clear hz_gbr_0); have hz_gbr_0 : w3.cell? ⟨gbr, 0, none⟩ = some (.slice none 0 0) := (blk_cell BR.out 0).trans rfl; (try clear hf_gbr_0); have hf_gbr_0 := blk_frozen BR.out 0; (try clear hz_gbr_1); have hz_gbr_1 : w3.cell? ⟨gbr, 1, none⟩ = some (.slice none 0 0) := (blk_cell BR.out 1).trans rfl; (try clear hf_gbr_1); have hf_gbr_1 := blk_frozen BR.out 1) | ((with_reducible refine gate_dst (N := 8) rfl ?_); (try (refine gate_guard (by rfl) ?_; dsimp only)); refine box_event ?hg (N := 8) ?hd (cs := #[.bool false, .int .i64 0]) (t := 75) ?hr ?_; (case hd => rfl); (case hg => rfl); (case hr => first | (go_simp; done) | (go_simp; rfl)); intro gbo hg w4 hbox hb; have HBB := Aside0.mk hb; have HGO := Aside0.mk hg; have BX2 := Aside0.mk (blk_below (g := gbx) (o := .cells #[.slice A0 C.length c0, .slice A1 L.length c1] 27 (0, 0)) BX.out hb); have BR2 := Aside0.mk (blk_below (g := gbr) (o := .cells #[.slice none 0 0, .slice none 0 0] 27 (0, 0)) BR.out hb); have BO2 := Aside0.mk hbox; have ne1 : gbx ≠ gbo := (by rw [hg]; exact Nat.ne_of_lt (blk_lt BX.out)); have ne2 : gbo ≠ gbx := Ne.symm ne1; have ne3 : gbr ≠ gbo := (by rw [hg]; exact Nat.ne_of_lt (blk_lt BR.out)); have ne4 : gbo ≠ gbr := Ne.symm ne3; clear hb hg hbox; (try clear hz_gbx_0); have hz_gbx_0 : w4.cell? ⟨gbx, 0, none⟩ = some (.slice A0 C.length c0) := (blk_cell BX2.out 0).trans rfl; (try clear hf_gbx_0); have hf_gbx_0 := blk_frozen BX2.out 0; (try clear hz_gbx_1); have hz_gbx_1 : w4.cell? ⟨gbx, 1, none⟩ = some (.slice A1 L.length c1) := (blk_cell BX2.out 1).trans rfl; (try clear hf_gbx_1); have hf_gbx_1 := blk_frozen BX2.out 1; (try clear hz_gbo_0); have hz_gbo_0 : w4.cell? ⟨gbo, 0, none⟩ = some (.bool false) := (blk_cell BO2.out 0).trans rfl; (try clear hf_gbo_0); have hf_gbo_0 := blk_frozen BO2.out 0; (try clear hz_gbo_1); have hz_gbo_1 : w4.cell? ⟨gbo, 1, none⟩ = some (.int .i64 0) := (blk_cell BO2.out 1).trans rfl; (try clear hf_gbo_1); have hf_gbo_1 := blk_frozen BO2.out 1) | ((with_reducible refine gate_dst (N := 15) rfl ?_); (try (refine gate_guard (by rfl) ?_; dsimp only)); refine goesL_ (some 15) rfl rfl Try.func73 (by kernel_rfl) rfl #[.agg #[.slice A0 C.length c0, .slice A1 L.length c1], .agg #[.bool ol, .int .i64 ob]] rfl (by (try simp only [List.map_toArray, List.map_cons, List.map_nil]); first | done | rfl) ?_; have hBs : Below w.heap.size w ((w4.setCell ⟨gbo, 0, none⟩ (.bool ol)).setCell ⟨gbo, 1, none⟩ (.int .i64 ob)) := below_set (below_set (below_step HB.out HBB.out) (by rw [HGO.out]; exact HB.out.size)) (by rw [HGO.out]; exact HB.out.size); have hXs := blk_far (p := ⟨gbo, 1, none⟩) (blk_far (p := ⟨gbo, 0, none⟩) BX2.out ne1 (.bool ol)) ne1 (.int .i64 ob); have hRs := blk_far (p := ⟨gbo, 1, none⟩) (blk_far (p := ⟨gbo, 0, none⟩) BR2.out ne3 (.bool ol)) ne3 (.int .i64 ob); have hOs := blk_put (cs := #[.bool ol, .int .i64 0]) (blk_put (cs := #[.bool false, .int .i64 0]) BO2.out 0 (.bool ol) rfl) 1 (.int .i64 ob) rfl; (with_reducible refine (impl_openingCode.calls kc A0 c0 C A1 c1 L ol ob 5 _ ?side1 HC0.out ?side2 HC1.out HCO.out).mono ?_); (case side1 => exact Kd.C_below HR0.out hBs); (case side2 => exact Kd.C_below HR1.out hBs); rintro e w5 ⟨rfl, hb⟩; refine ⟨_, rfl, ?_⟩; have n0_ := Aside0.mk (blk_below (g := gbx) (o := .cells #[.slice A0 C.length c0, .slice A1 L.length c1] 27 (0, 0)) hXs hb); have n1_ := Aside0.mk (blk_below (g := gbo) (o := .cells #[.bool ol, .int .i64 ob] 75 (0, 0)) hOs hb); have n2_ := Aside0.mk (below_step hBs hb); have n3_ := Aside0.mk (blk_below (g := gbr) (o := .cells #[.slice none 0 0, .slice none 0 0] 27 (0, 0)) hRs hb); clear BX BX2 BO2 BR BR2 HB HBB HGO hBs hXs hOs hRs hb; have BX := n0_; have BO := n1_; have HB := n2_; have BR := n3_; clear n0_ n1_ n2_ n3_; (try clear hz_gbx_0 hz_gbx_1 hf_gbx_0 hf_gbx_1 hz_gbo_0 hz_gbo_1 hf_gbo_0 hf_gbo_1 hz_gbr_0 hz_gbr_1 hf_gbr_0 hf_gbr_1); (try clear hz_gbx_0); have hz_gbx_0 : w5.cell? ⟨gbx, 0, none⟩ = some (.slice A0 C.length c0) := (blk_cell BX.out 0).trans rfl; (try clear hf_gbx_0); have hf_gbx_0 := blk_frozen BX.out 0; (try clear hz_gbx_1); have hz_gbx_1 : w5.cell? ⟨gbx, 1, none⟩ = some (.slice A1 L.length c1) := (blk_cell BX.out 1).trans rfl; (try clear hf_gbx_1); have hf_gbx_1 := blk_frozen BX.out 1; (try clear hz_gbo_0); have hz_gbo_0 : w5.cell? ⟨gbo, 0, none⟩ = some (.bool ol) := (blk_cell BO.out 0).trans rfl; (try clear hf_gbo_0); have hf_gbo_0 := blk_frozen BO.out 0; (try clear hz_gbo_1); have hz_gbo_1 : w5.cell? ⟨gbo, 1, none⟩ = some (.int .i64 ob) := (blk_cell BO.out 1).trans rfl; (try clear hf_gbo_1); have hf_gbo_1 := blk_frozen BO.out 1; (try clear hz_gbr_0); have hz_gbr_0 : w5.cell? ⟨gbr, 0, none⟩ = some (.slice none 0 0) := (blk_cell BR.out 0).trans rfl; (try clear hf_gbr_0); have hf_gbr_0 := blk_frozen BR.out 0; (try clear hz_gbr_1); have hz_gbr_1 : w5.cell? ⟨gbr, 1, none⟩ = some (.slice none 0 0) := (blk_cell BR.out 1).trans rfl; (try clear hf_gbr_1); have hf_gbr_1 := blk_frozen BR.out 1))
    refine bodyPost_ret (results_ct rfl _ _ gbr 27 #[.slice none 0 0, .slice none 0 0] (0, 0) _ rfl (by refine blk_put (cs := #[.slice none 0 0, .slice none 0 0]) ?_ 1 _ rfl; refine blk_put (cs := #[.slice none 0 0, .slice none 0 0]) ?_ 0 _ rfl; exact BR.out) Try.underlying27 rfl (by kernel_rfl)) rfl ?_
    exact ⟨_, _, rfl, Kd.R_nil _ _ _ _ _, Kd.R_nil _ _ _ _ _, below_set (below_set HB.out GR.out) GR.out⟩
  · have hO := isEnd_ok hE
    obtain ⟨kw, hkw⟩ := Ev.rounds (without_ev C L (ol, ob) (by omega) (by omega) (isIn_opens.1 hI))
    have HWO := Aside0.mk hkw
    rw [hc] at hkc
    have HCO := Aside0.mk hkc
    unfold afterOf at h'
    rw [hE, hI, if_pos rfl, if_pos rfl] at h'
    simp only [Prod.mk.injEq] at h'
    obtain ⟨rfl, rfl, rfl⟩ := h'
    clear hsz hkc haf hc hE hI hO hkw
    go_enter Try.func27, Try.ntmps27
    go_wp2_with (first | ((with_reducible refine gate_dst (N := 3) rfl ?_); (try (refine gate_guard (by rfl) ?_; dsimp only)); refine box_event ?hg (N := 3) ?hd (cs := #[.slice A0 C.length c0, .slice A1 L.length c1]) (t := 27) ?hr ?_; (case hd => rfl); (case hg => rfl); (case hr => first | (go_simp; done) | (go_simp; rfl)); intro gbx hg w2 hbox hb; have BX := Aside0.mk hbox; clear hg hbox; have n0_ := Aside0.mk (below_step HB.out hb); clear HB; have HB := n0_; clear n0_; clear hb; (try clear hz_gbx_0); have hz_gbx_0 : w2.cell? ⟨gbx, 0, none⟩ = some (.slice A0 C.length c0) := (blk_cell BX.out 0).trans rfl; (try clear hf_gbx_0); have hf_gbx_0 := blk_frozen BX.out 0; (try clear hz_gbx_1); have hz_gbx_1 : w2.cell? ⟨gbx, 1, none⟩ = some (.slice A1 L.length c1) := (blk_cell BX.out 1).trans rfl; (try clear hf_gbx_1); have hf_gbx_1 := blk_frozen BX.out 1) | ((with_reducible refine gate_dst (N := 6) rfl ?_); (try (refine gate_guard (by rfl) ?_; dsimp only)); refine box_event ?hg (N := 6) ?hd (cs := #[.slice none 0 0, .slice none 0 0]) (t := 27) ?hr ?_; (case hd => rfl); (case hg => rfl); (case hr => first | (go_simp; done) | (go_simp; rfl)); intro gbr hg w3 hbox hb; have BR := Aside0.mk hbox; have GR := Aside0.mk (show w.heap.size ≤ gbr by rw [hg]; exact HB.out.size); have NXR := Aside0.mk (show gbx ≠ gbr by rw [hg]; exact Nat.ne_of_lt (blk_lt BX.out)); clear hg hbox; have n0_ := Aside0.mk (blk_below (g := gbx) (o := .cells #[.slice A0 C.length c0, .slice A1 L.length c1] 27 (0, 0)) BX.out hb); have n1_ := Aside0.mk (below_step HB.out hb); clear BX HB; have BX := n0_; have HB := n1_; clear n0_ n1_; clear hb; (try clear hz_gbx_0); have hz_gbx_0 : w3.cell? ⟨gbx, 0, none⟩ = some (.slice A0 C.length c0) := (blk_cell BX.out 0).trans rfl; (try clear hf_gbx_0); have hf_gbx_0 := blk_frozen BX.out 0; (try clear hz_gbx_1); have hz_gbx_1 : w3.cell? ⟨gbx, 1, none⟩ = some (.slice A1 L.length c1) := (blk_cell BX.out 1).trans rfl; (try clear hf_gbx_1); have hf_gbx_1 := blk_frozen BX.out 1; (try clear hz_gbr_0); have hz_gbr_0 : w3.cell? ⟨gbr, 0, none⟩ = some (.slice none 0 0) := (blk_cell BR.out 0).trans rfl; (try clear hf_gbr_0); have hf_gbr_0 := blk_frozen BR.out 0; (try clear hz_gbr_1); have hz_gbr_1 : w3.cell? ⟨gbr, 1, none⟩ = some (.slice none 0 0) := (blk_cell BR.out 1).trans rfl; (try clear hf_gbr_1); have hf_gbr_1 := blk_frozen BR.out 1) | ((with_reducible refine gate_dst (N := 8) rfl ?_); (try (refine gate_guard (by rfl) ?_; dsimp only)); refine box_event ?hg (N := 8) ?hd (cs := #[.bool false, .int .i64 0]) (t := 75) ?hr ?_; (case hd => rfl); (case hg => rfl); (case hr => first | (go_simp; done) | (go_simp; rfl)); intro gbo hg w4 hbox hb; have HBB := Aside0.mk hb; have HGO := Aside0.mk hg; have BX2 := Aside0.mk (blk_below (g := gbx) (o := .cells #[.slice A0 C.length c0, .slice A1 L.length c1] 27 (0, 0)) BX.out hb); have BR2 := Aside0.mk (blk_below (g := gbr) (o := .cells #[.slice none 0 0, .slice none 0 0] 27 (0, 0)) BR.out hb); have BO2 := Aside0.mk hbox; have ne1 : gbx ≠ gbo := (by rw [hg]; exact Nat.ne_of_lt (blk_lt BX.out)); have ne2 : gbo ≠ gbx := Ne.symm ne1; have ne3 : gbr ≠ gbo := (by rw [hg]; exact Nat.ne_of_lt (blk_lt BR.out)); have ne4 : gbo ≠ gbr := Ne.symm ne3; clear hb hg hbox; (try clear hz_gbx_0); have hz_gbx_0 : w4.cell? ⟨gbx, 0, none⟩ = some (.slice A0 C.length c0) := (blk_cell BX2.out 0).trans rfl; (try clear hf_gbx_0); have hf_gbx_0 := blk_frozen BX2.out 0; (try clear hz_gbx_1); have hz_gbx_1 : w4.cell? ⟨gbx, 1, none⟩ = some (.slice A1 L.length c1) := (blk_cell BX2.out 1).trans rfl; (try clear hf_gbx_1); have hf_gbx_1 := blk_frozen BX2.out 1; (try clear hz_gbo_0); have hz_gbo_0 : w4.cell? ⟨gbo, 0, none⟩ = some (.bool false) := (blk_cell BO2.out 0).trans rfl; (try clear hf_gbo_0); have hf_gbo_0 := blk_frozen BO2.out 0; (try clear hz_gbo_1); have hz_gbo_1 : w4.cell? ⟨gbo, 1, none⟩ = some (.int .i64 0) := (blk_cell BO2.out 1).trans rfl; (try clear hf_gbo_1); have hf_gbo_1 := blk_frozen BO2.out 1) | ((with_reducible refine gate_dst (N := 15) rfl ?_); (try (refine gate_guard (by rfl) ?_; dsimp only)); refine goesL_ (some 15) rfl rfl Try.func73 (by kernel_rfl) rfl #[.agg #[.slice A0 C.length c0, .slice A1 L.length c1], .agg #[.bool ol, .int .i64 ob]] rfl (by (try simp only [List.map_toArray, List.map_cons, List.map_nil]); first | done | rfl) ?_; have hBs : Below w.heap.size w ((w4.setCell ⟨gbo, 0, none⟩ (.bool ol)).setCell ⟨gbo, 1, none⟩ (.int .i64 ob)) := below_set (below_set (below_step HB.out HBB.out) (by rw [HGO.out]; exact HB.out.size)) (by rw [HGO.out]; exact HB.out.size); have hXs := blk_far (p := ⟨gbo, 1, none⟩) (blk_far (p := ⟨gbo, 0, none⟩) BX2.out ne1 (.bool ol)) ne1 (.int .i64 ob); have hRs := blk_far (p := ⟨gbo, 1, none⟩) (blk_far (p := ⟨gbo, 0, none⟩) BR2.out ne3 (.bool ol)) ne3 (.int .i64 ob); have hOs := blk_put (cs := #[.bool ol, .int .i64 0]) (blk_put (cs := #[.bool false, .int .i64 0]) BO2.out 0 (.bool ol) rfl) 1 (.int .i64 ob) rfl; (with_reducible refine (impl_openingCode.calls kc A0 c0 C A1 c1 L ol ob 0 _ ?side1 HC0.out ?side2 HC1.out HCO.out).mono ?_); (case side1 => exact Kd.C_below HR0.out hBs); (case side2 => exact Kd.C_below HR1.out hBs); rintro e w5 ⟨rfl, hb⟩; refine ⟨_, rfl, ?_⟩; have n0_ := Aside0.mk (blk_below (g := gbx) (o := .cells #[.slice A0 C.length c0, .slice A1 L.length c1] 27 (0, 0)) hXs hb); have n1_ := Aside0.mk (blk_below (g := gbo) (o := .cells #[.bool ol, .int .i64 ob] 75 (0, 0)) hOs hb); have n2_ := Aside0.mk (below_step hBs hb); have n3_ := Aside0.mk (blk_below (g := gbr) (o := .cells #[.slice none 0 0, .slice none 0 0] 27 (0, 0)) hRs hb); clear BX BX2 BO2 BR BR2 HB HBB HGO hBs hXs hOs hRs hb; have BX := n0_; have BO := n1_; have HB := n2_; have BR := n3_; clear n0_ n1_ n2_ n3_; (try clear hz_gbx_0 hz_gbx_1 hf_gbx_0 hf_gbx_1 hz_gbo_0 hz_gbo_1 hf_gbo_0 hf_gbo_1 hz_gbr_0 hz_gbr_1 hf_gbr_0 hf_gbr_1); (try clear hz_gbx_0); have hz_gbx_0 : w5.cell? ⟨gbx, 0, none⟩ = some (.slice A0 C.length c0) := (blk_cell BX.out 0).trans rfl; (try clear hf_gbx_0); have hf_gbx_0 := blk_frozen BX.out 0; (try clear hz_gbx_1); have hz_gbx_1 : w5.cell? ⟨gbx, 1, none⟩ = some (.slice A1 L.length c1) := (blk_cell BX.out 1).trans rfl; (try clear hf_gbx_1); have hf_gbx_1 := blk_frozen BX.out 1; (try clear hz_gbo_0); have hz_gbo_0 : w5.cell? ⟨gbo, 0, none⟩ = some (.bool ol) := (blk_cell BO.out 0).trans rfl; (try clear hf_gbo_0); have hf_gbo_0 := blk_frozen BO.out 0; (try clear hz_gbo_1); have hz_gbo_1 : w5.cell? ⟨gbo, 1, none⟩ = some (.int .i64 ob) := (blk_cell BO.out 1).trans rfl; (try clear hf_gbo_1); have hf_gbo_1 := blk_frozen BO.out 1; (try clear hz_gbr_0); have hz_gbr_0 : w5.cell? ⟨gbr, 0, none⟩ = some (.slice none 0 0) := (blk_cell BR.out 0).trans rfl; (try clear hf_gbr_0); have hf_gbr_0 := blk_frozen BR.out 0; (try clear hz_gbr_1); have hz_gbr_1 : w5.cell? ⟨gbr, 1, none⟩ = some (.slice none 0 0) := (blk_cell BR.out 1).trans rfl; (try clear hf_gbr_1); have hf_gbr_1 := blk_frozen BR.out 1) | ((with_reducible refine gate_dst (N := 22) rfl ?_); (try (refine gate_guard (by rfl) ?_; dsimp only)); refine goesL_ (some 22) rfl rfl Try.func74 (by kernel_rfl) rfl #[.agg #[.slice A0 C.length c0, .slice A1 L.length c1], .agg #[.bool ol, .int .i64 ob]] rfl (by (try simp only [List.map_toArray, List.map_cons, List.map_nil]); first | done | rfl) ?_; (with_reducible refine (impl_Ending_without.calls kw A0 c0 C A1 c1 L ol ob (lessC C (ol, ob)) (lessL L (ol, ob)) _ ?side1 HC0.out ?side2 HC1.out HWO.out).mono ?_); (case side1 => exact Kd.C_below HR0.out HB.out); (case side2 => exact Kd.C_below HR1.out HB.out); rintro e w6 ⟨v0, v1, rfl, h0, h1, hb⟩; refine ⟨_, rfl, ?_⟩; obtain ⟨A2, c2, e2⟩ := Kd.R_slice h0; subst e2; obtain ⟨A3, c3, e3⟩ := Kd.R_slice h1; subst e3; have H0 := Aside0.mk (Kd.R_lower h0 HB.out.size); have H1 := Aside0.mk (Kd.R_lower h1 HB.out.size); clear h0 h1; have n0_ := Aside0.mk (blk_below (g := gbx) (o := .cells #[.slice A0 C.length c0, .slice A1 L.length c1] 27 (0, 0)) BX.out hb); have n1_ := Aside0.mk (blk_below (g := gbr) (o := .cells #[.slice none 0 0, .slice none 0 0] 27 (0, 0)) BR.out hb); have n2_ := Aside0.mk (below_step HB.out hb); clear BX BR HB; have BX := n0_; have BR := n1_; have HB := n2_; clear n0_ n1_ n2_; clear hb BO; (try clear hz_gbx_0); have hz_gbx_0 : w6.cell? ⟨gbx, 0, none⟩ = some (.slice A0 C.length c0) := (blk_cell BX.out 0).trans rfl; (try clear hf_gbx_0); have hf_gbx_0 := blk_frozen BX.out 0; (try clear hz_gbx_1); have hz_gbx_1 : w6.cell? ⟨gbx, 1, none⟩ = some (.slice A1 L.length c1) := (blk_cell BX.out 1).trans rfl; (try clear hf_gbx_1); have hf_gbx_1 := blk_frozen BX.out 1; (try clear hz_gbr_0); have hz_gbr_0 : w6.cell? ⟨gbr, 0, none⟩ = some (.slice none 0 0) := (blk_cell BR.out 0).trans rfl; (try clear hf_gbr_0); have hf_gbr_0 := blk_frozen BR.out 0; (try clear hz_gbr_1); have hz_gbr_1 : w6.cell? ⟨gbr, 1, none⟩ = some (.slice none 0 0) := (blk_cell BR.out 1).trans rfl; (try clear hf_gbr_1); have hf_gbr_1 := blk_frozen BR.out 1))
    refine bodyPost_ret (results_ct rfl _ _ gbr 27 #[.slice A2 (lessC C (ol, ob)).length c2, .slice A3 (lessL L (ol, ob)).length c3] (0, 0) _ rfl (by refine blk_put (cs := #[.slice A2 (lessC C (ol, ob)).length c2, .slice none 0 0]) ?_ 1 _ rfl; refine blk_put (cs := #[.slice none 0 0, .slice none 0 0]) ?_ 0 _ rfl; exact BR.out) Try.underlying27 rfl (by kernel_rfl)) rfl ?_
    exact ⟨_, _, rfl, Kd.R_mono (Kd.R_far (p := ⟨gbr, 1, none⟩) (Kd.R_far (p := ⟨gbr, 0, none⟩) (Kd.R_types H0.out BR.out (by decide)) (fun _ hk => hk.2) (.slice A2 (lessC C (ol, ob)).length c2)) (fun _ hk => hk.2) (.slice A3 (lessL L (ol, ob)).length c3)) (fun _ hk => hk.1), Kd.R_mono (Kd.R_far (p := ⟨gbr, 1, none⟩) (Kd.R_far (p := ⟨gbr, 0, none⟩) (Kd.R_types H1.out BR.out (by decide)) (fun _ hk => hk.2) (.slice A2 (lessC C (ol, ob)).length c2)) (fun _ hk => hk.2) (.slice A3 (lessL L (ol, ob)).length c3)) (fun _ hk => hk.1), below_set (below_set HB.out GR.out) GR.out⟩

end Go.Proofs.Ytkbjoiebaphdoaa.PX
