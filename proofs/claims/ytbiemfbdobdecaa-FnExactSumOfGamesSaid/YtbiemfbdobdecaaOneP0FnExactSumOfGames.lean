/- The first part of the texts under the row of FnExactSumOfGames. -/
import Derived.Deep.Slices
import Derived.Lib.SmallJoins
import Derived.Test.YtbiemfbdobdecaaWWords
import Derived.Test.YtbiemfbdobdecaaWShare
import Derived.Test.YtbiemfbdobdecaaRows
import Derived.Test.YtbiemfbdobdecaaPXx0
import Derived.Test.YtbiemfbdobdecaaPXx9
import Derived.Test.YtbiemfbdobdecaaPXx10
import Derived.Test.YtbiemfbdobdecaaWGuard
import Derived.Test.YtbiemfbdobdecaaPXx1
import Derived.Test.YtbiemfbdobdecaaPXx6
import Derived.Test.YtbiemfbdobdecaaPXx8
import Derived.Test.YtbiemfbdobdecaaPXx5
import Derived.Test.YtbiemfbdobdecaaPXx2
import Derived.Test.YtbiemfbdobdecaaPXx7
import Derived.Test.YtbiemfbdobdecaaPXx4
import Derived.Test.YtbiemfbdobdecaaPXx3
import Derived.WalkKit
import Derived.ProofKit
import Derived.OpenShut
import Derived.ShutString
import Derived.ChangeOld
import Derived.Below
import Derived.Carry
import Derived.SizedLaws
/- A parameter's nested slices, read off its datum: what the row hands over, as the print's contracts ask it (no condition). -/
namespace Go.Proofs.Ytbiemfbdobdecaa.Opens
open Go.RowKit Go.ChangeShapes Go.WideShapes Go.ChangeAt Go.Deep Go.WideElems Go.Joins Go.Proofs.YtbiemfbdobdecaaW.PrintWords
set_option linter.unusedVariables false
set_option linter.unusedSimpArgs false
variable {H : Type} {enc : TypeId × Value → H} {P : Program} {w : World} {base : Nat} {spare : Nat → Bool} {held : Bool}

/-- What a datum of type t says: its cells read as some x of the kind d, of which Q holds. -/
def Opens (enc : TypeId × Value → H) (P : Program) (w : World) (base : Nat) (spare : Nat → Bool) (held : Bool) {α : Type} (t : TypeId) (d : Kd α) (Q : α → Prop) : Prop :=
  ∀ n cs y, DataW.trod enc P w base spare held n t cs = some y → ∃ x, d.K w x cs ∧ Q x

theorem opens_int {t : TypeId} {k : IntKind} (ht : P.underlying t = some (.int k)) : Opens enc P w base spare held t (Kd.int k) (fun x => (Lit.int k x).wf = true) := by
  intro n cs y h
  obtain ⟨x, rfl, _, hw⟩ := DataW.trod_int ht h
  exact ⟨x, rfl, hw⟩

theorem choose_list {α : Type} {R : Nat → α → Prop} : ∀ (n : Nat), (∀ i, i < n → ∃ x, R i x) → ∃ xs : List α, xs.length = n ∧ ∀ i x, xs[i]? = some x → R i x
  | 0, _ => ⟨[], rfl, fun i x h => by simp at h⟩
  | n + 1, h => by
    obtain ⟨xs, hl, hx⟩ := choose_list n (fun i hi => h i (Nat.lt_succ_of_lt hi))
    obtain ⟨x, hn⟩ := h n (Nat.lt_succ_self n)
    refine ⟨xs ++ [x], by simp [hl], fun i z hz => ?_⟩
    rcases Nat.lt_or_ge i xs.length with hi | hi
    · rw [List.getElem?_append_left hi] at hz
      exact hx i z hz
    · rw [List.getElem?_append_right hi] at hz
      have : i - xs.length = 0 := by
        rcases Nat.eq_zero_or_pos (i - xs.length) with e | e
        · exact e
        · rw [List.getElem?_eq_none (by simp; omega)] at hz
          exact absurd hz (by simp)
      rw [this] at hz
      have hz' : x = z := by simpa using hz
      subst hz'
      have : i = n := by omega
      subst this
      exact hn

theorem opens_slice {α : Type} {t e : TypeId} {d : Kd α} {Q : α → Prop} (ht : P.underlying t = some (.slice e)) (hc : P.cellsOf e = d.sz) (he : Opens enc P w base spare held e d Q) :
    Opens enc P w base spare held t (Kd.slice e d) (fun xs => xs.length ≤ 9223372036854775807 ∧ ∀ x ∈ xs, Q x) := by
  intro n cs y h
  rcases open_slice ht h with ⟨rfl, rfl⟩ | ⟨a, len, cap, m, n', D, Pl, rfl, hb, hl, hm, hmm, hx, hall⟩
  · exact ⟨[], ⟨none, 0, rfl, Nat.le_refl _, rfl, by simp, fun h => absurd h (by simp)⟩, by simp, fun x hx => by simp at hx⟩
  · have hlm : len ≤ m := by rw [hmm]; split <;> omega
    have hch : ∀ i, i < len → ∃ x : α, (∃ c, c.length = d.sz ∧ d.K w x c ∧ ∀ j u, c[j]? = some u → w.cell? (a.add (i * d.sz + j)) = some u) ∧ Q x := by
      intro i hi
      obtain ⟨cs', hcs, htr⟩ := hall i (by omega)
      obtain ⟨x, hK, hQ⟩ := he _ _ _ htr
      refine ⟨x, ⟨cs', d.K_len hK, hK, fun j u hu => ?_⟩, hQ⟩
      have hj : j < P.cellsOf e := by
        rw [hc, ← d.K_len hK]
        exact (List.getElem?_eq_some_iff.1 hu).1
      have h3 := (World.cells?_some hcs).2.2 j hj
      rw [Addr.add_add, hc] at h3
      rw [h3, hu]
    obtain ⟨xs, hlen, hxs⟩ := choose_list len hch
    subst hlen
    refine ⟨xs, ⟨some a, cap, rfl, hl, rfl, by simp only [maxLen] at hm; omega, fun _ => ⟨a, rfl, fun j p hj => (hxs j p hj).1⟩⟩, by simp only [maxLen] at hm; omega, fun x hx => ?_⟩
    obtain ⟨i, hi, hix⟩ := List.getElem_of_mem hx
    exact (hxs i x (by rw [List.getElem?_eq_getElem hi, hix])).2

/-- A field that is a slice: its value written out, and how it reads. -/
theorem opened_slice {α : Type} {t e : TypeId} {d : Kd α} {Q : α → Prop} (ht : P.underlying t = some (.slice e)) (hc : P.cellsOf e = d.sz) (he : Opens enc P w base spare held e d Q) {n : Nat} {v : Value} {y : DataW H × List MemPlace}
    (h : DataW.trod enc P w base spare held n t [v] = some y) : ∃ A c, ∃ xs : List α, v = .slice A xs.length c ∧ xs.length ≤ c ∧ Kd.C d w A xs.length xs ∧ xs.length ≤ 9223372036854775807 ∧ ∀ x ∈ xs, Q x := by
  obtain ⟨xs, ⟨A, c, e1, hl, hC⟩, hQ⟩ := opens_slice ht hc he _ _ _ h
  simp only [List.cons.injEq, and_true] at e1
  exact ⟨A, c, xs, e1, hl, hC, hQ⟩
/-- A struct of one field of one cell, by value. -/
theorem open_agg1 {r : Reach} {b0 : Nat} {t : TypeId} {f0 : Field} {v : Value} {d : DataW H} {p : List MemPlace} (hs : P.underlying t = some (.struct #[f0])) (hone : oneCellFields P #[f0] = true) (hC : P.cellsOf t = 1)
    (hv : Value.okWide P w r b0 t v) (h : DataW.Trod enc P w base spare held t v d p) :
    ∃ (v0 : Value) (y0 : DataW H × List MemPlace) (n : Nat), v = .agg #[v0] ∧ d = .agg [y0.1] ∧ p = y0.2 ∧ DataW.trod enc P w base spare held n f0.type [v0] = some y0 := by
  obtain ⟨cs, rfl, hsz⟩ := okWide_struct hs hv
  obtain ⟨c0, rfl⟩ : ∃ c0, cs = #[c0] := by
    obtain ⟨l⟩ := cs
    match l, (hsz.trans hC) with
    | [c0], _ => exact ⟨c0, rfl⟩
  obtain ⟨fuel, hf⟩ := h
  obtain ⟨xs, n, _, rfl', hl, hlen, hx⟩ := DataW.trod_struct hs hf
  match xs, hlen with
  | [y0], _ =>
    have h0 := hx 0 f0 rfl
    obtain ⟨o0, k0⟩ := hone_of hone 0 f0 rfl
    simp only [Prod.mk.injEq] at rfl'
    refine ⟨c0, y0, n, rfl, by simpa using rfl'.1, by simpa using rfl'.2, ?_⟩
    simpa [Value.cells, o0, k0] using h0
end Go.Proofs.Ytbiemfbdobdecaa.Opens

/- Blocks between two numbers: what was made by one call. -/
namespace Go.Proofs.Ytbiemfbdobdecaa.PX
open Go.RowKit Go.Proofs.YtbiemfbdobdecaaW.PrintWords Go.Proofs.YtbiemfbdobdecaaW.PrintLast Go.Proofs.YtbiemfbdobdecaaW.PrintMore
attribute [local go_sem] max2_int min2_int max_two min_two max_three min_three max_four min_four
set_option linter.unusedVariables false
set_option linter.unusedSimpArgs false
def Ivl (lo hi : Nat) : Nat → Prop := fun k => lo ≤ k ∧ k < hi
theorem R_ivl {α : Type} {d : Kd α} {e b : Nat} {W W' : World} {ok : Nat → Prop} {v : Value} {xs : List α} (h : Kd.R d e W' W.heap.size ok v xs) (hb : b ≤ W.heap.size) : Kd.R d e W' b (Ivl W.heap.size W'.heap.size) v xs :=
  Kd.R_lower (Kd.R_mono (Kd.R_bound h) (fun _ hk => ⟨hk.2.1, hk.2.2.1⟩)) hb
theorem S_ivl {α : Type} {d : Kd α} {e b : Nat} {W W' : World} {ok : Nat → Prop} {v : Value} {xs : List α} (h : Kd.S d e W' W.heap.size ok v xs) (hb : b ≤ W.heap.size) : Kd.S d e W' b (Ivl W.heap.size W'.heap.size) v xs :=
  Kd.S_lower (Kd.S_mono (Kd.S_bound h) (fun _ hk => ⟨hk.2.1, hk.2.2.1⟩)) hb
theorem calls_below {P : Program} {f : FuncId} {args : Array Value} {w : World} {x : Ending} (h : Calls P f args w fun e w' => e = x ∧ Drawn0 w w') : Calls P f args w fun e w' => e = x ∧ Below w.heap.size w w' :=
  h.mono fun _ _ h => ⟨h.1, h.2.below⟩
theorem calls_args {P : Program} {f : FuncId} {xs ys : Array Value} {w : World} {K : Ending → World → Prop} (h : xs = ys) (H : Calls P f ys w K) : Calls P f xs w K := h ▸ H

end Go.Proofs.Ytbiemfbdobdecaa.PX

/- Plain lemmas on the printed functions that many laws of games share: what wraps, what marks, what equals itself (no condition). -/
namespace Go.Proofs.Ytbiemfbdobdecaa.PX
open Go.RowKit Go.Proofs.YtbiemfbdobdecaaW.PrintWords Go.Proofs.YtbiemfbdobdecaaW.PrintLast Go.Proofs.YtbiemfbdobdecaaW.PrintMore
attribute [local go_sem] max2_int min2_int max_two min_two max_three min_three max_four min_four
set_option linter.unusedVariables false
set_option linter.unusedSimpArgs false
theorem wrapS {i : Int} (h0 : -9223372036854775808 ≤ i) (h : i < 9223372036854775808) : wrap64 i = i := by
  unfold wrap64
  omega
theorem rd_nat (xs : List Int) (i : Nat) : rd xs (i : Int) = xs.getD i 0 := by unfold rd; rfl
theorem rdL1_nat (xs : List (List Int)) (i : Nat) : rd_L1 xs (i : Int) = xs.getD i [] := by unfold rd_L1; rfl
theorem getD_of {α : Type} {xs : List α} {i : Nat} {x d : α} (h : xs[i]? = some x) : xs.getD i d = x := by rw [List.getD_eq_getElem?_getD, h]; rfl
theorem drop_of {α : Type} {xs : List α} {i : Nat} {x : α} (h : xs[i]? = some x) : xs.drop i = x :: xs.drop (i + 1) := by
  obtain ⟨hl, e⟩ := List.getElem?_eq_some_iff.1 h
  rw [List.drop_eq_getElem_cons hl, e]
theorem get_some {α : Type} {xs : List α} {i : Nat} (h : i < xs.length) : ∃ x, xs[i]? = some x := ⟨xs[i], List.getElem?_eq_getElem h⟩
theorem cast_succ (i : Nat) : ((i : Int) + 1) = ((i + 1 : Nat) : Int) := by omega

end Go.Proofs.Ytbiemfbdobdecaa.PX

/- Marks laid into lists of whole numbers, and looked for (no condition but sizes that fit). -/
namespace Go.Proofs.Ytbiemfbdobdecaa.PX
open Go.RowKit Go.Proofs.YtbiemfbdobdecaaW.PrintWords Go.Proofs.YtbiemfbdobdecaaW.PrintLast Go.Proofs.YtbiemfbdobdecaaW.PrintMore
attribute [local go_sem] max2_int min2_int max_two min_two max_three min_three max_four min_four
set_option linter.unusedVariables false
set_option linter.unusedSimpArgs false
/-- The marks that the law lays: a, a + 1, .. -/
def marks (a : Int) (n : Nat) : List Int := (List.range n).map fun (i : Nat) => a + (i : Int)
theorem marks_length (a : Int) (n : Nat) : (marks a n).length = n := by simp [marks]
theorem mark_loop (xs : List Int) (a : Int) (ha : 0 ≤ a) (hn : a + xs.length < 4611686018427387904) (d : Nat) : ∀ (i : Nat), i + d = xs.length →
    Ev (fun k => laws_markInt64S.l0 k (marks a i ++ xs.drop i) (a + i) i) (a + (xs.length : Int), marks a xs.length) := by
  induction d with
  | zero =>
    intro i hd
    have hi : i = xs.length := by omega
    subst hi
    refine Ev.step (f := fun _ => some (a + (xs.length : Int), marks a xs.length)) (fun k => ?_) (Ev.now _)
    simp only [laws_markInt64S.l0]
    rw [if_neg (by simp [marks_length])]
    simp
  | succ d ih =>
    intro i hd
    refine Ev.step (fun k => ?_) (ih (i + 1) (by omega))
    simp only [laws_markInt64S.l0]
    rw [if_pos (by simp only [List.length_append, marks_length, List.length_drop]; omega), if_pos (by omega), wrapS (by omega) (by omega), wrapS (by omega) (by omega)]
    have hs : (marks a i ++ xs.drop i).set ((i : Int)).toNat (a + i) = marks a (i + 1) ++ xs.drop (i + 1) := by
      have hl : i < xs.length := by omega
      have e1 : ((i : Int)).toNat = (marks a i).length := by rw [marks_length]; omega
      rw [List.drop_eq_getElem_cons hl, e1, List.set_append_right _ _ (Nat.le_refl _)]
      simp only [Nat.sub_self, List.set_cons_zero]
      simp [marks, List.range_succ]
    rw [hs, show a + ((i + 1 : Nat) : Int) = a + i + 1 by omega, cast_succ]
theorem mark_ev (xs : List Int) (a : Int) (ha : 0 ≤ a) (hn : a + xs.length < 4611686018427387904) : Ev (fun k => laws_markInt64S.f k xs a) (a + (xs.length : Int), marks a xs.length) := by
  refine Ev.congr (fun k => ?_) (mark_loop xs a ha hn xs.length 0 (by omega))
  unfold laws_markInt64S.f
  simp [marks]
theorem held_loop (n : Nat) (a : Int) (ha : 0 ≤ a) (hn : a + n < 4611686018427387904) (d : Nat) : ∀ (i : Nat), i + d = n →
    Ev (fun k => laws_heldInt64S.l0 k (marks a n) (a + i) i) (a + (n : Int)) := by
  induction d with
  | zero =>
    intro i hd
    have : i = n := by omega
    subst this
    refine Ev.step (f := fun _ => some (a + (i : Int))) (fun k => ?_) (Ev.now _)
    simp only [laws_heldInt64S.l0]
    rw [if_neg (by rw [marks_length]; omega)]
  | succ d ih =>
    intro i hd
    refine Ev.step (fun k => ?_) (ih (i + 1) (by omega))
    simp only [laws_heldInt64S.l0]
    have hr : rd (marks a n) (i : Int) = a + i := by
      have hl : i < n := by omega
      simp [rd, marks, hl]
    rw [if_pos (by rw [marks_length]; omega), if_pos (by omega), if_pos hr, wrapS (by omega) (by omega), wrapS (by omega) (by omega), show a + ((i + 1 : Nat) : Int) = a + i + 1 by omega, cast_succ]
theorem held_ev (n : Nat) (a : Int) (ha : 0 ≤ a) (hn : a + n < 4611686018427387904) : Ev (fun k => laws_heldInt64S.f k (marks a n) a) (a + (n : Int)) := by
  refine Ev.congr (fun k => ?_) (held_loop n a ha hn n 0 (by omega))
  unfold laws_heldInt64S.f
  simp

end Go.Proofs.Ytbiemfbdobdecaa.PX

/- What the laws do with lists of whole numbers: copied, compared, marked, held; their sizes counted (no condition but sizes that fit). -/
namespace Go.Proofs.Ytbiemfbdobdecaa.PX
open Go.RowKit Go.Proofs.YtbiemfbdobdecaaW.PrintWords Go.Proofs.YtbiemfbdobdecaaW.PrintLast Go.Proofs.YtbiemfbdobdecaaW.PrintMore
attribute [local go_sem] max2_int min2_int max_two min_two max_three min_three max_four min_four
set_option linter.unusedVariables false
set_option linter.unusedSimpArgs false
theorem ev_from {α : Type} {g : Nat → Option α} {r : α} (n : Nat) (h : ∀ m, g (n + 1 + m) = some r) : Ev g r := ⟨n + 1, fun k hk => by
  have := h (k - (n + 1))
  rw [show n + 1 + (k - (n + 1)) = k by omega] at this
  exact this⟩
theorem eqI_loop (xs : List Int) (hn : xs.length < 4611686018427387904) (d : Nat) : ∀ i : Nat, i + d = xs.length → Ev (fun k => laws_eqInt64S.l0 k xs xs (i : Int)) true := by
  induction d with
  | zero =>
    intro i hd
    refine Ev.step (f := fun _ => some true) (fun k => ?_) (Ev.now true)
    simp only [laws_eqInt64S.l0]; rw [if_neg (by omega)]
  | succ d ih =>
    intro i hd
    refine Ev.step (fun k => ?_) (ih (i + 1) (by omega))
    simp only [laws_eqInt64S.l0]; rw [if_pos (by omega), if_pos (by omega), if_pos (by omega), if_true, wrapS (by omega) (by omega), cast_succ]
theorem eqI_ev (xs : List Int) (hn : xs.length < 4611686018427387904) : Ev (fun k => laws_eqInt64S.f k xs xs) true := by
  refine Ev.congr (fun k => ?_) (eqI_loop xs hn xs.length 0 (by omega))
  unfold laws_eqInt64S.f
  rw [if_pos rfl]; rfl
theorem toI_loop (xs : List Int) (hn : xs.length < 4611686018427387904) (d : Nat) : ∀ i : Nat, i + d = xs.length → Ev (fun k => laws_toInt64S.l0 k xs (xs.take i ++ List.replicate d 0) (i : Int)) xs := by
  induction d with
  | zero =>
    intro i hd
    rw [List.take_of_length_le (by omega)]
    refine Ev.step (f := fun _ => some xs) (fun k => ?_) (Ev.now xs)
    simp only [laws_toInt64S.l0]; rw [if_neg (by omega)]; simp
  | succ d ih =>
    intro i hd
    obtain ⟨x, hx⟩ := get_some (xs := xs) (i := i) (by omega)
    have hrx : rd xs (i : Int) = x := by rw [rd_nat]; exact getD_of hx
    have hl : (xs.take i).length = i := by rw [List.length_take]; omega
    refine Ev.step (fun k => ?_) (ih (i + 1) (by omega))
    simp only [laws_toInt64S.l0]
    rw [if_pos (by omega), if_pos (by omega), if_pos (by rw [List.length_append, hl, List.length_replicate]; omega), wrapS (by omega) (by omega), hrx, cast_succ]
    have e : (xs.take i ++ List.replicate (d + 1) 0).set ((i : Int)).toNat x = xs.take (i + 1) ++ List.replicate d 0 := by
      have e1 : ((i : Int)).toNat = (xs.take i).length := by rw [hl]; omega
      rw [e1, List.set_append_right _ _ (Nat.le_refl _), Nat.sub_self, List.replicate_succ, List.set_cons_zero]
      obtain ⟨hlt, hxe⟩ := List.getElem?_eq_some_iff.1 hx
      rw [List.take_succ_eq_append_getElem hlt, hxe]
      simp
    rw [e]
theorem toI_ev (xs : List Int) (hn : xs.length ≤ 1048576) : Ev (fun k => laws_toInt64S.f k xs) xs := by
  refine Ev.congr (fun k => ?_) (toI_loop xs (by omega) xs.length 0 (by omega))
  unfold laws_toInt64S.f
  rw [if_pos (by omega), if_pos (by omega)]
  simp
theorem szI_eq (xs : List Int) (a : Int) (h0 : 0 ≤ a) (h1 : a ≤ 1048576) (hn : xs.length ≤ 9223372036854775807) : laws_szInt64S.f xs a = some (if a - xs.length < 0 then -1 else a - xs.length) := by
  unfold laws_szInt64S.f
  rw [wrapS (by omega) (by omega)]
  split <;> rfl

end Go.Proofs.Ytbiemfbdobdecaa.PX

/- What the laws do with games: sizes counted, copied, compared (no condition but sizes that fit). -/
namespace Go.Proofs.Ytbiemfbdobdecaa.PX
open Go.RowKit Go.Proofs.YtbiemfbdobdecaaW.PrintWords Go.Proofs.YtbiemfbdobdecaaW.PrintLast Go.Proofs.YtbiemfbdobdecaaW.PrintMore
attribute [local go_sem] max2_int min2_int max_two min_two max_three min_three max_four min_four
set_option linter.unusedVariables false
set_option linter.unusedSimpArgs false
def total : List (List Int) → Int
  | [] => 0
  | row :: rest => row.length + total rest
theorem total_nonneg : ∀ g : List (List Int), 0 ≤ total g
  | [] => by simp [total]
  | row :: rest => by have := total_nonneg rest; simp only [total]; omega
theorem total_mem {g : List (List Int)} {row : List Int} (h : row ∈ g) : (row.length : Int) ≤ total g := by
  induction g with
  | nil => simp at h
  | cons x rest ih =>
    simp only [total]
    have := total_nonneg rest
    rcases List.mem_cons.1 h with rfl | h
    · omega
    · have := ih h
      omega
theorem szSS_loop (g : List (List Int)) (hl : ∀ row ∈ g, row.length ≤ 9223372036854775807) (hg : g.length ≤ 1048576) (d : Nat) : ∀ (i : Nat) (a : Int), i + d = g.length → 0 ≤ a → a ≤ 1048576 →
    ∃ t, Ev (fun k => laws_szInt64SS.l0 k g a (i : Int)) t ∧ (t < 0 ∨ (0 ≤ t ∧ total (g.drop i) ≤ a ∧ t ≤ a)) := by
  induction d with
  | zero =>
    intro i a hd h0 h1
    refine ⟨a, Ev.step (f := fun _ => some a) (fun k => ?_) (Ev.now a), .inr ⟨h0, ?_⟩⟩
    · simp only [laws_szInt64SS.l0]; rw [if_neg (by omega)]
    · rw [List.drop_eq_nil_of_le (by omega)]; exact ⟨h0, Int.le_refl _⟩
  | succ d ih =>
    intro i a hd h0 h1
    obtain ⟨row, hp⟩ := get_some (xs := g) (i := i) (by omega)
    have hr : rd_L1 g (i : Int) = row := by rw [rdL1_nat]; exact getD_of hp
    have hs := szI_eq row a h0 h1 (hl row (List.mem_of_getElem? hp))
    have h2 : ∀ k, laws_szInt64SS.l0 (k + 1) g a (i : Int) = (if (if a - (row.length : Int) < 0 then -1 else a - row.length) < 0 then (some (-1)) else (laws_szInt64SS.l0 k g (if a - (row.length : Int) < 0 then -1 else a - row.length) ((i + 1 : Nat) : Int))) := fun k => by
      simp only [laws_szInt64SS.l0]
      rw [if_pos (by omega), if_pos (by omega), hr, hs, wrapS (by omega) (by omega), cast_succ]
      rfl
    rw [drop_of hp]
    simp only [total]
    by_cases c : a - (row.length : Int) < 0
    · exact ⟨-1, Ev.step (f := fun _ => some (-1)) (fun k => by rw [h2, if_pos c]; rfl) (Ev.now _), .inl (by omega)⟩
    · obtain ⟨t, ht, hor⟩ := ih (i + 1) (a - row.length) (by omega) (by omega) (by omega)
      refine ⟨t, Ev.step (fun k => by rw [h2, if_neg c, if_neg c]) ht, ?_⟩
      rcases hor with hor | hor
      · exact .inl hor
      · exact .inr ⟨hor.1, by omega, by omega⟩
/-- A game's size counted off from what is left. -/
theorem szG_evb (g : List (List Int)) (b : Int) (hb0 : 0 ≤ b) (hb : b ≤ 1048576) (hg : g.length ≤ 9223372036854775807) (hl : ∀ row ∈ g, row.length ≤ 9223372036854775807) :
    ∃ t, Ev (fun k => laws_szGame.f k g b) t ∧ (t < 0 ∨ (0 ≤ t ∧ t ≤ b ∧ g.length ≤ 1048576 ∧ total g ≤ 1048576)) := by
  by_cases c : b - g.length < 0
  · refine ⟨-1, Ev.congr (f := fun _ => some (-1)) (fun k => ?_) (Ev.now _), .inl (by omega)⟩
    unfold laws_szGame.f laws_szInt64SS.f
    rw [wrapS (by omega) (by omega), if_pos c]; rfl
  · obtain ⟨t, ht, hor⟩ := szSS_loop g hl (by omega) g.length 0 (b - g.length) (by omega) (by omega) (by omega)
    have hS : Ev (fun k => laws_szInt64SS.f k g b) t := Ev.congr (fun k => by unfold laws_szInt64SS.f; rw [wrapS (by omega) (by omega), if_neg c]; rfl) ht
    rcases hor with hor | hor
    · refine ⟨-1, ?_, .inl (by omega)⟩
      refine Ev.congr (f := fun k => (laws_szInt64SS.f k g b).bind fun t => (if t < 0 then (some (-1)) else (some t))) (fun k => rfl) (Ev.bind hS ?_)
      exact Ev.congr (f := fun _ => some (-1)) (fun k => by rw [if_pos hor]) (Ev.now _)
    · refine ⟨t, ?_, .inr ⟨hor.1, by omega, by omega, by rw [List.drop_zero] at hor; omega⟩⟩
      refine Ev.congr (f := fun k => (laws_szInt64SS.f k g b).bind fun t => (if t < 0 then (some (-1)) else (some t))) (fun k => rfl) (Ev.bind hS ?_)
      exact Ev.congr (f := fun _ => some t) (fun k => by rw [if_neg (by omega)]) (Ev.now _)
theorem szG_ev (g : List (List Int)) (hg : g.length ≤ 9223372036854775807) (hl : ∀ row ∈ g, row.length ≤ 9223372036854775807) :
    ∃ t, Ev (fun k => laws_szGame.f k g 1048576) t ∧ (t < 0 ∨ (0 ≤ t ∧ g.length ≤ 1048576 ∧ total g ≤ 1048576)) := by
  by_cases c : (1048576 : Int) - g.length < 0
  · refine ⟨-1, Ev.congr (f := fun _ => some (-1)) (fun k => ?_) (Ev.now _), .inl (by omega)⟩
    unfold laws_szGame.f laws_szInt64SS.f
    rw [wrapS (by omega) (by omega), if_pos c]; rfl
  · obtain ⟨t, ht, hor⟩ := szSS_loop g hl (by omega) g.length 0 (1048576 - g.length) (by omega) (by omega) (by omega)
    have hS : Ev (fun k => laws_szInt64SS.f k g 1048576) t := Ev.congr (fun k => by unfold laws_szInt64SS.f; rw [wrapS (by omega) (by omega), if_neg c]; rfl) ht
    rcases hor with hor | hor
    · refine ⟨-1, ?_, .inl (by omega)⟩
      refine Ev.congr (f := fun k => (laws_szInt64SS.f k g 1048576).bind fun t => (if t < 0 then (some (-1)) else (some t))) (fun k => rfl) (Ev.bind hS ?_)
      exact Ev.congr (f := fun _ => some (-1)) (fun k => by rw [if_pos hor]) (Ev.now _)
    · refine ⟨t, ?_, .inr ⟨hor.1, by omega, by rw [List.drop_zero] at hor; omega⟩⟩
      refine Ev.congr (f := fun k => (laws_szInt64SS.f k g 1048576).bind fun t => (if t < 0 then (some (-1)) else (some t))) (fun k => rfl) (Ev.bind hS ?_)
      exact Ev.congr (f := fun _ => some t) (fun k => by rw [if_neg (by omega)]) (Ev.now _)
theorem toSS_loop (g : List (List Int)) (hl : ∀ row ∈ g, row.length ≤ 1048576) (hg : g.length ≤ 1048576) (d : Nat) : ∀ i : Nat, i + d = g.length → Ev (fun k => laws_toInt64SS.l0 k g (g.take i ++ List.replicate d []) (i : Int)) g := by
  induction d with
  | zero =>
    intro i hd
    rw [List.take_of_length_le (by omega)]
    refine Ev.step (f := fun _ => some g) (fun k => ?_) (Ev.now g)
    simp only [laws_toInt64SS.l0]; rw [if_neg (by omega)]; simp
  | succ d ih =>
    intro i hd
    obtain ⟨row, hp⟩ := get_some (xs := g) (i := i) (by omega)
    have hr : rd_L1 g (i : Int) = row := by rw [rdL1_nat]; exact getD_of hp
    have hlen : (g.take i).length = i := by rw [List.length_take]; omega
    refine Ev.step (f := fun k => (laws_toInt64S.f k row).bind fun t => laws_toInt64SS.l0 k g ((g.take i ++ List.replicate (d + 1) []).set ((i : Int)).toNat t) ((i + 1 : Nat) : Int)) (fun k => ?_) (Ev.bind (toI_ev row (hl row (List.mem_of_getElem? hp))) ?_)
    · simp only [laws_toInt64SS.l0]
      rw [if_pos (by omega), if_pos (by omega), hr, wrapS (by omega) (by omega), cast_succ]
      congr 1
      funext t
      rw [if_pos (by rw [List.length_append, hlen, List.length_replicate]; omega)]
    · refine Ev.congr (fun k => ?_) (ih (i + 1) (by omega))
      have e1 : ((i : Int)).toNat = (g.take i).length := by rw [hlen]; omega
      have e : (g.take i ++ List.replicate (d + 1) []).set ((i : Int)).toNat row = g.take (i + 1) ++ List.replicate d [] := by
        rw [e1, List.set_append_right _ _ (Nat.le_refl _), Nat.sub_self, List.replicate_succ, List.set_cons_zero]
        obtain ⟨hlt, hxe⟩ := List.getElem?_eq_some_iff.1 hp
        rw [List.take_succ_eq_append_getElem hlt, hxe]
        simp
      rw [e]
theorem toG_ev (g : List (List Int)) (hg : g.length ≤ 1048576) (ht : total g ≤ 1048576) : Ev (fun k => laws_toGame.f k g) g := by
  have hl : ∀ row ∈ g, row.length ≤ 1048576 := fun row h => by have := total_mem h; omega
  have h := toSS_loop g hl hg g.length 0 (by omega)
  have hS : Ev (fun k => laws_toInt64SS.f k g) g := Ev.congr (fun k => by unfold laws_toInt64SS.f; rw [if_pos (by omega), if_pos (by omega)]; simp) h
  exact Ev.congr (f := fun k => (laws_toInt64SS.f k g).bind fun t => some t) (fun k => rfl) (Ev.bind hS (Ev.now g))
theorem eqSS_loop (g : List (List Int)) (hl : ∀ row ∈ g, row.length < 4611686018427387904) (hg : g.length < 4611686018427387904) (d : Nat) : ∀ i : Nat, i + d = g.length → Ev (fun k => laws_eqInt64SS.l0 k g g (i : Int)) true := by
  induction d with
  | zero =>
    intro i hd
    refine Ev.step (f := fun _ => some true) (fun k => ?_) (Ev.now true)
    simp only [laws_eqInt64SS.l0]; rw [if_neg (by omega)]
  | succ d ih =>
    intro i hd
    obtain ⟨row, hp⟩ := get_some (xs := g) (i := i) (by omega)
    have hr : rd_L1 g (i : Int) = row := by rw [rdL1_nat]; exact getD_of hp
    refine Ev.step (f := fun k => (laws_eqInt64S.f k row row).bind fun t => if t = true then laws_eqInt64SS.l0 k g g ((i + 1 : Nat) : Int) else some false) (fun k => ?_) (Ev.bind (eqI_ev row (hl row (List.mem_of_getElem? hp))) ?_)
    · simp only [laws_eqInt64SS.l0]
      rw [if_pos (by omega), if_pos (by omega), if_pos (by omega), hr, wrapS (by omega) (by omega), cast_succ]
    · exact Ev.congr (fun k => by simp) (ih (i + 1) (by omega))
theorem eqG_ev (g : List (List Int)) (hl : ∀ row ∈ g, row.length < 4611686018427387904) (hg : g.length < 4611686018427387904) : Ev (fun k => laws_eqGame.f k g g) true := by
  have hS : Ev (fun k => laws_eqInt64SS.f k g g) true := Ev.congr (fun k => by unfold laws_eqInt64SS.f; rw [if_pos rfl]; rfl) (eqSS_loop g hl hg g.length 0 (by omega))
  exact Ev.congr (f := fun k => (laws_eqInt64SS.f k g g).bind fun t => if t = true then some true else some false) (fun k => rfl) (Ev.bind hS (Ev.congr (f := fun _ => some true) (fun k => by simp) (Ev.now true)))

end Go.Proofs.Ytbiemfbdobdecaa.PX

/- markInt64SS, a contract: the marks a, a + 1, .. lie in rows that lie apart, and nothing else has turned (conditions: the rows are the caller's own and apart; sizes fit). -/
namespace Go.Proofs.Ytbiemfbdobdecaa.PX
open Go.RowKit Go.Proofs.YtbiemfbdobdecaaW.PrintWords Go.Proofs.YtbiemfbdobdecaaW.PrintLast Go.Proofs.YtbiemfbdobdecaaW.PrintMore
attribute [local go_sem] max2_int min2_int max_two min_two max_three min_three max_four min_four
set_option linter.unusedVariables false
set_option linter.unusedSimpArgs false
/-- The marks, row by row. -/
def markL (a : Int) : List (List Int) → List (List Int)
  | [] => []
  | row :: rest => marks a row.length :: markL (a + row.length) rest
theorem markL_length : ∀ (a : Int) (g : List (List Int)), (markL a g).length = g.length
  | _, [] => rfl
  | a, row :: rest => by simp only [markL, List.length_cons, markL_length]
theorem total_append : ∀ (g h : List (List Int)), total (g ++ h) = total g + total h
  | [], h => by simp [total]
  | row :: rest, h => by simp only [List.cons_append, total, total_append rest h]; omega
theorem markL_append : ∀ (a : Int) (g h : List (List Int)), markL a (g ++ h) = markL a g ++ markL (a + total g) h
  | a, [], h => by simp [markL, total]
  | a, row :: rest, h => by
    simp only [List.cons_append, markL, total, markL_append _ rest h]
    rw [show a + (row.length : Int) + total rest = a + (row.length + total rest) by omega]
theorem take_snoc {α : Type} {xs : List α} {j : Nat} {x : α} (h : xs[j]? = some x) : xs.take (j + 1) = xs.take j ++ [x] := by
  obtain ⟨hl, e⟩ := List.getElem?_eq_some_iff.1 h
  rw [List.take_succ_eq_append_getElem hl, e]
theorem total_take (g : List (List Int)) (j : Nat) : 0 ≤ total (g.take j) ∧ total (g.take j) ≤ total g := by
  have h1 := total_nonneg (g.take j)
  have h2 := total_nonneg (g.drop j)
  have h3 : total g = total (g.take j) + total (g.drop j) := by rw [← total_append, List.take_append_drop]
  omega
set_option maxHeartbeats 8000000 in
set_option maxRecDepth 100000 in
theorem laws_markInt64SS.calls (ok : Nat → Prop) (v : Value) (xs : List (List Int)) (a : Int) (w0 w : World) (hB : Below w0.heap.size w0 w) (ho : Kd.S (Kd.slice 2 (Kd.int .i64)) 36 w w0.heap.size ok v xs) (ha : 0 ≤ a) (hn : a + total xs < 4611686018427387904) (hl : xs.length < 4611686018427387904) :
    Calls Try.prog 35 #[v, .int .i64 a] w fun e w' => e = .returned (.int .i64 (a + total xs)) ∧ Kd.S (Kd.slice 2 (Kd.int .i64)) 36 w' w0.heap.size ok v (markL a xs) ∧ Below w0.heap.size w0 w' ∧ Kept w w' ok := by
  obtain ⟨A, c, hv⟩ := Kd.S_slice ho
  obtain ⟨n, hnl⟩ : ∃ n, n = xs.length := ⟨_, rfl⟩
  rw [← hnl] at hv
  subst hv
  have HO := Aside0.mk ho
  have HB := Aside0.mk hB
  have HN := Aside0.mk hnl
  have HA := Aside0.mk ha
  have HT := Aside0.mk hn
  have HL := Aside0.mk hl
  clear ho hB hnl ha hn hl
  go_enter Try.func35, Try.ntmps35
  go_wp2
  go_loopg [1, 5] (n + 1) (fun kq v1 v5 wr => ∃ (x1 x5 : Int), v1 = .int .i64 x1 ∧ v5 = .int .i64 x5 ∧ Aside0 (∃ j : Nat, x5 = (j : Int) ∧ x1 = a + total (xs.take j) ∧ j ≤ n ∧ kq + j = n + 1 ∧ Kd.S (Kd.slice 2 (Kd.int .i64)) 36 wr w0.heap.size ok (.slice A n c) (markL a (xs.take j) ++ xs.drop j)) ∧ Aside0 (Below w0.heap.size w0 wr) ∧ Aside0 (Kept w wr ok))
  case atStart => exact ⟨a, 0, (by first | rfl | (simp; done) | (simp [*]; done)), (by first | rfl | (simp; done) | (simp [*]; done)), ⟨0, rfl, by simp [total], Nat.zero_le _, rfl, by simpa [markL] using HO.out⟩, HB, ⟨Kept.refl _ _⟩⟩
  case round =>
    obtain ⟨x1, x5, rfl, rfl, ⟨j, h5, h1, hj, hq, hS⟩, HBr, HK⟩ := hrel
    have H5 := Aside0.mk h5
    have H1 := Aside0.mk h1
    have HJ := Aside0.mk hj
    have HQ := Aside0.mk hq
    have HS := Aside0.mk hS
    clear h5 h1 hj hq hS
    by_cases c3 : x5 < (n : Int)
    · have hjn : j < xs.length := by have := H5.out; have := HN.out; omega
      obtain ⟨row, hrow⟩ := get_some hjn
      have hlen : (markL a (xs.take j)).length = j := by rw [markL_length, List.length_take]; omega
      obtain ⟨g, cap, hg, _, _, _⟩ := Kd.S_form HS.out (by rw [List.length_append, hlen, List.length_drop]; omega)
      injection hg with hA hn_ hc
      clear hn_
      subst hA
      subst hc
      have hi0 : 0 ≤ x5 := by rw [H5.out]; omega
      obtain ⟨oki, cl, hcl, hM, hcc, hoki, hH⟩ := Kd.S_lend HS.out [] x5 hi0 c3
      obtain ⟨vj, rfl, hR⟩ := hM
      have hget : (markL a (xs.take j) ++ xs.drop j).getD x5.toNat [] = row := by
        rw [H5.out, Int.toNat_natCast]
        apply getD_of
        rw [List.getElem?_append_right (by omega), hlen, Nat.sub_self, List.getElem?_drop, Nat.add_zero, hrow]
      rw [hget] at hR
      have hx := hcc 0 vj rfl
      simp only [show ((Kd.slice 2 (Kd.int .i64))).sz = 1 from rfl, Nat.mul_one, Nat.add_zero] at hx
      have htl := total_take xs j
      have htr : total (xs.take (j + 1)) = total (xs.take j) + row.length := by rw [take_snoc hrow, total_append]; simp [total]
      have htl2 := total_take xs (j + 1)
      obtain ⟨K, hK⟩ := mark_ev row x1 (by have := H1.out; have := HA.out; omega) (by have := H1.out; have := HT.out; omega)
      have HM := Aside0.mk (hK K (Nat.le_refl _))
      have HR := Aside0.mk hR
      have HH := Aside0.mk hH
      have HOK := Aside0.mk hoki
      have HROW := Aside0.mk hrow
      have HLEN := Aside0.mk hlen
      have HTR := Aside0.mk htr
      have HTL := Aside0.mk htl
      have HTL2 := Aside0.mk htl2
      have c3b0 : decide (x5 < (n : Int)) = true := decide_eq_true c3
      have c4b0 : decide (0 ≤ x5) = true := decide_eq_true hi0
      have HJN := Aside0.mk hjn
      clear hK hR hH hoki hrow hlen htr htl htl2 hget hcl hcc hjn
      replace hi0 := eq_true hi0
      replace c3 := eq_true c3
      go_wp2_with ((with_reducible refine gate_callee (f := 20) rfl ?_); refine goesL_ (some 17) rfl rfl Try.func20 (by kernel_rfl) rfl #[vj, .int .i64 x1] rfl (by (try simp only [List.map_toArray, List.map_cons, List.map_nil]); first | done | rfl) ?_; (with_reducible refine (laws_markInt64S.calls K oki vj row x1 _ _ w0 wr HBr.out HR.out HM.out).mono ?_); rintro e w1 ⟨rfl, hy0, hb, hkp⟩; refine ⟨_, rfl, ?_⟩; have HY := Aside0.mk (Kd.R_reok rfl hy0 (fun k_ e_ => HR.out.1 k_ e_)); have HBn := Aside0.mk hb; have HKP := Aside0.mk hkp; clear hy0 hb hkp)
      go_roundg (n - j)
      case measure => have := HQ.out; have := HJ.out; have := HJN.out; have := HN.out; omega
      case rel =>
        refine ⟨x1 + (row.length : Int), wrap64 (x5 + 1), (by first | rfl | (simp; done) | (simp [*]; done)), (by first | rfl | (simp; done) | (simp [*]; done)), ⟨j + 1, ?_, ?_, ?_, ?_, ?_⟩, HBn, ⟨HK.out.then_ HKP.out (fun k hk => .inl (HOK.out k hk).1)⟩⟩
        · have := H5.out; have := HJN.out; have := HL.out; unfold wrap64; omega
        · rw [HTR.out, H1.out]; omega
        · have := HJN.out; have := HN.out; omega
        · have := HQ.out; have := HJN.out; have := HN.out; omega
        · have hb := Kd.H_back (Kd.H_kept HH.out HKP.out (fun k _ h2 h3 => h2 h3)) (x' := marks x1 row.length) ⟨vj, rfl, HY.out⟩ (fun k hk => hk)
          have e : (markL a (xs.take j) ++ xs.drop j).set x5.toNat (marks x1 row.length) = markL a (xs.take (j + 1)) ++ xs.drop (j + 1) := by
            rw [H5.out, Int.toNat_natCast, drop_of HROW.out, take_snoc HROW.out, markL_append, H1.out]
            conv => lhs; rw [show j = (markL a (xs.take j)).length from HLEN.out.symm]
            rw [HLEN.out, List.set_append_right _ _ (by rw [HLEN.out]; exact Nat.le_refl _), HLEN.out, Nat.sub_self, List.set_cons_zero]
            simp [markL]
          rw [e] at hb
          exact hb
    · have c3b0 : decide (x5 < (n : Int)) = false := decide_eq_false c3
      have HC := Aside0.mk c3
      clear c3
      go_wp2
      go_ret
      have hjn : j = n := by have := HC.out; have := H5.out; have := HJ.out; omega
      have hS := HS.out
      rw [hjn, HN.out, List.take_length, List.drop_length, List.append_nil] at hS
      have h1 := H1.out
      rw [hjn, HN.out, List.take_length] at h1
      refine ⟨?_, ?_, HBr.out, HK.out⟩
      · rw [← h1]; rfl
      · rw [HN.out]; exact hS

end Go.Proofs.Ytbiemfbdobdecaa.PX

/- markGame, a contract: the marks lie in the game's rows, and nothing else that was there has turned (conditions: the rows are the caller's own and apart; sizes fit). -/
namespace Go.Proofs.Ytbiemfbdobdecaa.PX
open Go.RowKit Go.Proofs.YtbiemfbdobdecaaW.PrintWords Go.Proofs.YtbiemfbdobdecaaW.PrintLast Go.Proofs.YtbiemfbdobdecaaW.PrintMore
attribute [local go_sem] max2_int min2_int max_two min_two max_three min_three max_four min_four
set_option linter.unusedVariables false
set_option linter.unusedSimpArgs false
set_option maxHeartbeats 8000000 in
set_option maxRecDepth 100000 in
theorem laws_markGame.calls (ok : Nat → Prop) (A : Option Addr) (n c : Nat) (xs : List (List Int)) (a : Int) (w0 w : World) (hB : Below w0.heap.size w0 w) (ho : Kd.S (Kd.slice 2 (Kd.int .i64)) 36 w w0.heap.size ok (.slice A n c) xs) (ha : 0 ≤ a) (hn : a + total xs < 4611686018427387904) (hl : xs.length < 4611686018427387904) :
    Calls Try.prog 13 #[.agg #[.slice A n c], .int .i64 a] w fun e w' => e = .returned (.int .i64 (a + total xs)) ∧ Kd.S (Kd.slice 2 (Kd.int .i64)) 36 w' w0.heap.size ok (.slice A n c) (markL a xs) ∧ Below w0.heap.size w0 w' ∧ Kept w w' ok := by
  have HO := Aside0.mk ho
  have HB := Aside0.mk hB
  have HA := Aside0.mk ha
  have HT := Aside0.mk hn
  have HL := Aside0.mk hl
  clear ho hB ha hn hl
  have huG := Try.underlying26
  go_enter Try.func13, Try.ntmps13
  go_wp2_with (first | ((with_reducible refine gate_dst (N := 2) rfl ?_); refine box_event ?hg (N := 2) ?hd (cs := #[.slice A n c]) (t := 26) ?hr ?_; (case hd => rfl); (case hg => rfl); (case hr => first | (go_simp; done) | (go_simp; rfl)); intro gb hg w2 hbox hb; have n0_ := Aside0.mk (Kd.S_below HO.out hb); have n1_ := Aside0.mk (below_then HB.out HB.out.size hb); have HK := Aside0.mk (Kept.of_below hb ok); have HBX := Aside0.mk hbox; clear HO HB hb hbox hg; have HO := n0_; have HB := n1_; clear n0_ n1_; have hcz : w2.cell? ⟨gb, 0, none⟩ = some (.slice A n c) := (blk_cell HBX.out 0).trans rfl; have hfz := blk_frozen HBX.out 0) | ((with_reducible refine gate_callee (f := 35) rfl ?_); refine goesL_ (some 8) rfl rfl Try.func35 (by kernel_rfl) rfl #[.slice A n c, .int .i64 a] rfl (by (try simp only [List.map_toArray, List.map_cons, List.map_nil]); first | done | rfl) ?_; (with_reducible refine (laws_markInt64SS.calls ok _ xs a w0 _ HB.out HO.out HA.out HT.out HL.out).mono ?_); rintro e w3 ⟨rfl, hs, hb, hk⟩; refine ⟨_, rfl, ?_⟩; have HS := Aside0.mk hs; have HB3 := Aside0.mk hb; have HK3 := Aside0.mk hk; clear hs hb hk hcz hfz))
  go_ret
  exact ⟨rfl, HS.out, HB3.out, HK.out.then_ HK3.out (fun k hk => .inl hk)⟩

end Go.Proofs.Ytbiemfbdobdecaa.PX
