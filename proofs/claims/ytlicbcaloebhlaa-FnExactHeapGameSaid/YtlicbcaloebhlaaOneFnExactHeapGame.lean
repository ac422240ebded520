/- The row of FnExactHeapGame, out of its plain law (no condition). -/
import Derived.Deep.Slices
import Derived.Lib.SmallJoins
import Derived.Test.YtlicbcaloebhlaaWWords
import Derived.Test.YtlicbcaloebhlaaWShare
import Derived.Test.YtlicbcaloebhlaaRows
import Derived.Test.YtlicbcaloebhlaaPXx0
import Derived.Test.YtlicbcaloebhlaaPXx11
import Derived.Test.YtlicbcaloebhlaaWGuard
import Derived.Test.YtlicbcaloebhlaaPXx1
import Derived.Test.YtlicbcaloebhlaaPXx3
import Derived.Test.YtlicbcaloebhlaaPXx5
import Derived.Test.YtlicbcaloebhlaaPXx4
import Derived.Test.YtlicbcaloebhlaaPXx27
import Derived.Test.YtlicbcaloebhlaaPXx28
import Derived.Test.YtlicbcaloebhlaaPXx26
import Derived.Test.YtlicbcaloebhlaaPXx25
import Derived.Test.YtlicbcaloebhlaaPXx2
import Derived.WalkKit
import Derived.ProofKit
import Derived.OpenShut
import Derived.ShutString
import Derived.ChangeOld
import Derived.Below
import Derived.Carry
import Derived.SizedLaws
/- A parameter's nested slices, read off its datum: what the row hands over, as the print's contracts ask it (no condition). -/
namespace Go.Proofs.Ytlicbcaloebhlaa.Opens
open Go.RowKit Go.ChangeShapes Go.WideShapes Go.ChangeAt Go.Deep Go.WideElems Go.Joins Go.Proofs.YtlicbcaloebhlaaW.PrintWords
set_option linter.unusedVariables false
set_option linter.unusedSimpArgs false
variable {H : Type} {enc : TypeId × Value → H} {P : Program} {w : World} {base : Nat} {spare : Nat → Bool} {held : Bool}

/-- What a datum of type t says: its cells read as some x of the kind d, of which Q holds. -/
def Opens (enc : TypeId × Value → H) (P : Program) (w : World) (base : Nat) (spare : Nat → Bool) (held : Bool) {α : Type} (t : TypeId) (d : Kd α) (Q : α → Prop) : Prop :=
  ∀ n cs y, DataW.trod enc P w base spare held n t cs = some y → ∃ x, d.K w x cs ∧ Q x

theorem opens_int {t : TypeId} {k : IntKind} (ht : P.underlying t = some (.int k)) : Opens enc P w base spare held t (Kd.int k) (fun x => (Lit.int k x).wf = true) := by
  intro n cs y h
  obtain ⟨x, rfl, _, hw⟩ := DataW.trod_int ht h
  exact ⟨x, rfl, hw⟩

theorem choose_list {α : Type} {R : Nat → α → Prop} : ∀ (n : Nat), (∀ i, i < n → ∃ x, R i x) → ∃ xs : List α, xs.length = n ∧ ∀ i x, xs[i]? = some x → R i x
  | 0, _ => ⟨[], rfl, fun i x h => by simp at h⟩
  | n + 1, h => by
    obtain ⟨xs, hl, hx⟩ := choose_list n (fun i hi => h i (Nat.lt_succ_of_lt hi))
    obtain ⟨x, hn⟩ := h n (Nat.lt_succ_self n)
    refine ⟨xs ++ [x], by simp [hl], fun i z hz => ?_⟩
    rcases Nat.lt_or_ge i xs.length with hi | hi
    · rw [List.getElem?_append_left hi] at hz
      exact hx i z hz
    · rw [List.getElem?_append_right hi] at hz
      have : i - xs.length = 0 := by
        rcases Nat.eq_zero_or_pos (i - xs.length) with e | e
        · exact e
        · rw [List.getElem?_eq_none (by simp; omega)] at hz
          exact absurd hz (by simp)
      rw [this] at hz
      have hz' : x = z := by simpa using hz
      subst hz'
      have : i = n := by omega
      subst this
      exact hn

theorem opens_slice {α : Type} {t e : TypeId} {d : Kd α} {Q : α → Prop} (ht : P.underlying t = some (.slice e)) (hc : P.cellsOf e = d.sz) (he : Opens enc P w base spare held e d Q) :
    Opens enc P w base spare held t (Kd.slice e d) (fun xs => xs.length ≤ 9223372036854775807 ∧ ∀ x ∈ xs, Q x) := by
  intro n cs y h
  rcases open_slice ht h with ⟨rfl, rfl⟩ | ⟨a, len, cap, m, n', D, Pl, rfl, hb, hl, hm, hmm, hx, hall⟩
  · exact ⟨[], ⟨none, 0, rfl, Nat.le_refl _, rfl, by simp, fun h => absurd h (by simp)⟩, by simp, fun x hx => by simp at hx⟩
  · have hlm : len ≤ m := by rw [hmm]; split <;> omega
    have hch : ∀ i, i < len → ∃ x : α, (∃ c, c.length = d.sz ∧ d.K w x c ∧ ∀ j u, c[j]? = some u → w.cell? (a.add (i * d.sz + j)) = some u) ∧ Q x := by
      intro i hi
      obtain ⟨cs', hcs, htr⟩ := hall i (by omega)
      obtain ⟨x, hK, hQ⟩ := he _ _ _ htr
      refine ⟨x, ⟨cs', d.K_len hK, hK, fun j u hu => ?_⟩, hQ⟩
      have hj : j < P.cellsOf e := by
        rw [hc, ← d.K_len hK]
        exact (List.getElem?_eq_some_iff.1 hu).1
      have h3 := (World.cells?_some hcs).2.2 j hj
      rw [Addr.add_add, hc] at h3
      rw [h3, hu]
    obtain ⟨xs, hlen, hxs⟩ := choose_list len hch
    subst hlen
    refine ⟨xs, ⟨some a, cap, rfl, hl, rfl, by simp only [maxLen] at hm; omega, fun _ => ⟨a, rfl, fun j p hj => (hxs j p hj).1⟩⟩, by simp only [maxLen] at hm; omega, fun x hx => ?_⟩
    obtain ⟨i, hi, hix⟩ := List.getElem_of_mem hx
    exact (hxs i x (by rw [List.getElem?_eq_getElem hi, hix])).2

/-- A field that is a slice: its value written out, and how it reads. -/
theorem opened_slice {α : Type} {t e : TypeId} {d : Kd α} {Q : α → Prop} (ht : P.underlying t = some (.slice e)) (hc : P.cellsOf e = d.sz) (he : Opens enc P w base spare held e d Q) {n : Nat} {v : Value} {y : DataW H × List MemPlace}
    (h : DataW.trod enc P w base spare held n t [v] = some y) : ∃ A c, ∃ xs : List α, v = .slice A xs.length c ∧ xs.length ≤ c ∧ Kd.C d w A xs.length xs ∧ xs.length ≤ 9223372036854775807 ∧ ∀ x ∈ xs, Q x := by
  obtain ⟨xs, ⟨A, c, e1, hl, hC⟩, hQ⟩ := opens_slice ht hc he _ _ _ h
  simp only [List.cons.injEq, and_true] at e1
  exact ⟨A, c, xs, e1, hl, hC, hQ⟩
/-- A struct of one field of one cell, by value. -/
theorem open_agg1 {r : Reach} {b0 : Nat} {t : TypeId} {f0 : Field} {v : Value} {d : DataW H} {p : List MemPlace} (hs : P.underlying t = some (.struct #[f0])) (hone : oneCellFields P #[f0] = true) (hC : P.cellsOf t = 1)
    (hv : Value.okWide P w r b0 t v) (h : DataW.Trod enc P w base spare held t v d p) :
    ∃ (v0 : Value) (y0 : DataW H × List MemPlace) (n : Nat), v = .agg #[v0] ∧ d = .agg [y0.1] ∧ p = y0.2 ∧ DataW.trod enc P w base spare held n f0.type [v0] = some y0 := by
  obtain ⟨cs, rfl, hsz⟩ := okWide_struct hs hv
  obtain ⟨c0, rfl⟩ : ∃ c0, cs = #[c0] := by
    obtain ⟨l⟩ := cs
    match l, (hsz.trans hC) with
    | [c0], _ => exact ⟨c0, rfl⟩
  obtain ⟨fuel, hf⟩ := h
  obtain ⟨xs, n, _, rfl', hl, hlen, hx⟩ := DataW.trod_struct hs hf
  match xs, hlen with
  | [y0], _ =>
    have h0 := hx 0 f0 rfl
    obtain ⟨o0, k0⟩ := hone_of hone 0 f0 rfl
    simp only [Prod.mk.injEq] at rfl'
    refine ⟨c0, y0, n, rfl, by simpa using rfl'.1, by simpa using rfl'.2, ?_⟩
    simpa [Value.cells, o0, k0] using h0
end Go.Proofs.Ytlicbcaloebhlaa.Opens

/- Blocks between two numbers: what was made by one call. -/
namespace Go.Proofs.Ytlicbcaloebhlaa.PX
open Go.RowKit Go.Proofs.YtlicbcaloebhlaaW.PrintWords Go.Proofs.YtlicbcaloebhlaaW.PrintLast Go.Proofs.YtlicbcaloebhlaaW.PrintMore
attribute [local go_sem] max2_int min2_int max_two min_two max_three min_three max_four min_four
set_option linter.unusedVariables false
set_option linter.unusedSimpArgs false
def Ivl (lo hi : Nat) : Nat → Prop := fun k => lo ≤ k ∧ k < hi
theorem R_ivl {α : Type} {d : Kd α} {e b : Nat} {W W' : World} {ok : Nat → Prop} {v : Value} {xs : List α} (h : Kd.R d e W' W.heap.size ok v xs) (hb : b ≤ W.heap.size) : Kd.R d e W' b (Ivl W.heap.size W'.heap.size) v xs :=
  Kd.R_lower (Kd.R_mono (Kd.R_bound h) (fun _ hk => ⟨hk.2.1, hk.2.2.1⟩)) hb
theorem S_ivl {α : Type} {d : Kd α} {e b : Nat} {W W' : World} {ok : Nat → Prop} {v : Value} {xs : List α} (h : Kd.S d e W' W.heap.size ok v xs) (hb : b ≤ W.heap.size) : Kd.S d e W' b (Ivl W.heap.size W'.heap.size) v xs :=
  Kd.S_lower (Kd.S_mono (Kd.S_bound h) (fun _ hk => ⟨hk.2.1, hk.2.2.1⟩)) hb
theorem calls_below {P : Program} {f : FuncId} {args : Array Value} {w : World} {x : Ending} (h : Calls P f args w fun e w' => e = x ∧ Drawn0 w w') : Calls P f args w fun e w' => e = x ∧ Below w.heap.size w w' :=
  h.mono fun _ _ h => ⟨h.1, h.2.below⟩

end Go.Proofs.Ytlicbcaloebhlaa.PX

/- Plain lemmas on the printed functions that many laws of games share: what wraps, what marks, what equals itself (no condition). -/
namespace Go.Proofs.Ytlicbcaloebhlaa.PX
open Go.RowKit Go.Proofs.YtlicbcaloebhlaaW.PrintWords Go.Proofs.YtlicbcaloebhlaaW.PrintLast Go.Proofs.YtlicbcaloebhlaaW.PrintMore
attribute [local go_sem] max2_int min2_int max_two min_two max_three min_three max_four min_four
set_option linter.unusedVariables false
set_option linter.unusedSimpArgs false
theorem wrapS {i : Int} (h0 : -9223372036854775808 ≤ i) (h : i < 9223372036854775808) : wrap64 i = i := by
  unfold wrap64
  omega
theorem rd_nat (xs : List Int) (i : Nat) : rd xs (i : Int) = xs.getD i 0 := by unfold rd; rfl
theorem rdL1_nat (xs : List (List Int)) (i : Nat) : rd_L1 xs (i : Int) = xs.getD i [] := by unfold rd_L1; rfl
theorem getD_of {α : Type} {xs : List α} {i : Nat} {x d : α} (h : xs[i]? = some x) : xs.getD i d = x := by rw [List.getD_eq_getElem?_getD, h]; rfl
theorem drop_of {α : Type} {xs : List α} {i : Nat} {x : α} (h : xs[i]? = some x) : xs.drop i = x :: xs.drop (i + 1) := by
  obtain ⟨hl, e⟩ := List.getElem?_eq_some_iff.1 h
  rw [List.drop_eq_getElem_cons hl, e]
theorem get_some {α : Type} {xs : List α} {i : Nat} (h : i < xs.length) : ∃ x, xs[i]? = some x := ⟨xs[i], List.getElem?_eq_getElem h⟩
theorem cast_succ (i : Nat) : ((i : Int) + 1) = ((i + 1 : Nat) : Int) := by omega

end Go.Proofs.Ytlicbcaloebhlaa.PX

/- Marks laid into lists of whole numbers, and looked for (no condition but sizes that fit). -/
namespace Go.Proofs.Ytlicbcaloebhlaa.PX
open Go.RowKit Go.Proofs.YtlicbcaloebhlaaW.PrintWords Go.Proofs.YtlicbcaloebhlaaW.PrintLast Go.Proofs.YtlicbcaloebhlaaW.PrintMore
attribute [local go_sem] max2_int min2_int max_two min_two max_three min_three max_four min_four
set_option linter.unusedVariables false
set_option linter.unusedSimpArgs false
/-- The marks that the law lays: a, a + 1, .. -/
def marks (a : Int) (n : Nat) : List Int := (List.range n).map fun (i : Nat) => a + (i : Int)
theorem marks_length (a : Int) (n : Nat) : (marks a n).length = n := by simp [marks]
theorem mark_loop (xs : List Int) (a : Int) (ha : 0 ≤ a) (hn : a + xs.length < 4611686018427387904) (d : Nat) : ∀ (i : Nat), i + d = xs.length →
    Ev (fun k => laws_markInt64S.l0 k (marks a i ++ xs.drop i) (a + i) i) (a + (xs.length : Int), marks a xs.length) := by
  induction d with
  | zero =>
    intro i hd
    have hi : i = xs.length := by omega
    subst hi
    refine Ev.step (f := fun _ => some (a + (xs.length : Int), marks a xs.length)) (fun k => ?_) (Ev.now _)
    simp only [laws_markInt64S.l0]
    rw [if_neg (by simp [marks_length])]
    simp
  | succ d ih =>
    intro i hd
    refine Ev.step (fun k => ?_) (ih (i + 1) (by omega))
    simp only [laws_markInt64S.l0]
    rw [if_pos (by simp only [List.length_append, marks_length, List.length_drop]; omega), if_pos (by omega), wrapS (by omega) (by omega), wrapS (by omega) (by omega)]
    have hs : (marks a i ++ xs.drop i).set ((i : Int)).toNat (a + i) = marks a (i + 1) ++ xs.drop (i + 1) := by
      have hl : i < xs.length := by omega
      have e1 : ((i : Int)).toNat = (marks a i).length := by rw [marks_length]; omega
      rw [List.drop_eq_getElem_cons hl, e1, List.set_append_right _ _ (Nat.le_refl _)]
      simp only [Nat.sub_self, List.set_cons_zero]
      simp [marks, List.range_succ]
    rw [hs, show a + ((i + 1 : Nat) : Int) = a + i + 1 by omega, cast_succ]
theorem mark_ev (xs : List Int) (a : Int) (ha : 0 ≤ a) (hn : a + xs.length < 4611686018427387904) : Ev (fun k => laws_markInt64S.f k xs a) (a + (xs.length : Int), marks a xs.length) := by
  refine Ev.congr (fun k => ?_) (mark_loop xs a ha hn xs.length 0 (by omega))
  unfold laws_markInt64S.f
  simp [marks]
theorem held_loop (n : Nat) (a : Int) (ha : 0 ≤ a) (hn : a + n < 4611686018427387904) (d : Nat) : ∀ (i : Nat), i + d = n →
    Ev (fun k => laws_heldInt64S.l0 k (marks a n) (a + i) i) (a + (n : Int)) := by
  induction d with
  | zero =>
    intro i hd
    have : i = n := by omega
    subst this
    refine Ev.step (f := fun _ => some (a + (i : Int))) (fun k => ?_) (Ev.now _)
    simp only [laws_heldInt64S.l0]
    rw [if_neg (by rw [marks_length]; omega)]
  | succ d ih =>
    intro i hd
    refine Ev.step (fun k => ?_) (ih (i + 1) (by omega))
    simp only [laws_heldInt64S.l0]
    have hr : rd (marks a n) (i : Int) = a + i := by
      have hl : i < n := by omega
      simp [rd, marks, hl]
    rw [if_pos (by rw [marks_length]; omega), if_pos (by omega), if_pos hr, wrapS (by omega) (by omega), wrapS (by omega) (by omega), show a + ((i + 1 : Nat) : Int) = a + i + 1 by omega, cast_succ]
theorem held_ev (n : Nat) (a : Int) (ha : 0 ≤ a) (hn : a + n < 4611686018427387904) : Ev (fun k => laws_heldInt64S.f k (marks a n) a) (a + (n : Int)) := by
  refine Ev.congr (fun k => ?_) (held_loop n a ha hn n 0 (by omega))
  unfold laws_heldInt64S.f
  simp

end Go.Proofs.Ytlicbcaloebhlaa.PX

/- What the laws do with lists of whole numbers: copied, compared, marked, held; their sizes counted (no condition but sizes that fit). -/
namespace Go.Proofs.Ytlicbcaloebhlaa.PX
open Go.RowKit Go.Proofs.YtlicbcaloebhlaaW.PrintWords Go.Proofs.YtlicbcaloebhlaaW.PrintLast Go.Proofs.YtlicbcaloebhlaaW.PrintMore
attribute [local go_sem] max2_int min2_int max_two min_two max_three min_three max_four min_four
set_option linter.unusedVariables false
set_option linter.unusedSimpArgs false
theorem ev_from {α : Type} {g : Nat → Option α} {r : α} (n : Nat) (h : ∀ m, g (n + 1 + m) = some r) : Ev g r := ⟨n + 1, fun k hk => by
  have := h (k - (n + 1))
  rw [show n + 1 + (k - (n + 1)) = k by omega] at this
  exact this⟩
theorem eqI_loop (xs : List Int) (hn : xs.length < 4611686018427387904) (d : Nat) : ∀ i : Nat, i + d = xs.length → Ev (fun k => laws_eqInt64S.l0 k xs xs (i : Int)) true := by
  induction d with
  | zero =>
    intro i hd
    refine Ev.step (f := fun _ => some true) (fun k => ?_) (Ev.now true)
    simp only [laws_eqInt64S.l0]; rw [if_neg (by omega)]
  | succ d ih =>
    intro i hd
    refine Ev.step (fun k => ?_) (ih (i + 1) (by omega))
    simp only [laws_eqInt64S.l0]; rw [if_pos (by omega), if_pos (by omega), if_pos (by omega), if_true, wrapS (by omega) (by omega), cast_succ]
theorem eqI_ev (xs : List Int) (hn : xs.length < 4611686018427387904) : Ev (fun k => laws_eqInt64S.f k xs xs) true := by
  refine Ev.congr (fun k => ?_) (eqI_loop xs hn xs.length 0 (by omega))
  unfold laws_eqInt64S.f
  rw [if_pos rfl]; rfl
theorem toI_loop (xs : List Int) (hn : xs.length < 4611686018427387904) (d : Nat) : ∀ i : Nat, i + d = xs.length → Ev (fun k => laws_toInt64S.l0 k xs (xs.take i ++ List.replicate d 0) (i : Int)) xs := by
  induction d with
  | zero =>
    intro i hd
    rw [List.take_of_length_le (by omega)]
    refine Ev.step (f := fun _ => some xs) (fun k => ?_) (Ev.now xs)
    simp only [laws_toInt64S.l0]; rw [if_neg (by omega)]; simp
  | succ d ih =>
    intro i hd
    obtain ⟨x, hx⟩ := get_some (xs := xs) (i := i) (by omega)
    have hrx : rd xs (i : Int) = x := by rw [rd_nat]; exact getD_of hx
    have hl : (xs.take i).length = i := by rw [List.length_take]; omega
    refine Ev.step (fun k => ?_) (ih (i + 1) (by omega))
    simp only [laws_toInt64S.l0]
    rw [if_pos (by omega), if_pos (by omega), if_pos (by rw [List.length_append, hl, List.length_replicate]; omega), wrapS (by omega) (by omega), hrx, cast_succ]
    have e : (xs.take i ++ List.replicate (d + 1) 0).set ((i : Int)).toNat x = xs.take (i + 1) ++ List.replicate d 0 := by
      have e1 : ((i : Int)).toNat = (xs.take i).length := by rw [hl]; omega
      rw [e1, List.set_append_right _ _ (Nat.le_refl _), Nat.sub_self, List.replicate_succ, List.set_cons_zero]
      obtain ⟨hlt, hxe⟩ := List.getElem?_eq_some_iff.1 hx
      rw [List.take_succ_eq_append_getElem hlt, hxe]
      simp
    rw [e]
theorem toI_ev (xs : List Int) (hn : xs.length ≤ 1048576) : Ev (fun k => laws_toInt64S.f k xs) xs := by
  refine Ev.congr (fun k => ?_) (toI_loop xs (by omega) xs.length 0 (by omega))
  unfold laws_toInt64S.f
  rw [if_pos (by omega), if_pos (by omega)]
  simp
theorem szI_eq (xs : List Int) (a : Int) (h0 : 0 ≤ a) (h1 : a ≤ 1048576) (hn : xs.length ≤ 9223372036854775807) : laws_szInt64S.f xs a = some (if a - xs.length < 0 then -1 else a - xs.length) := by
  unfold laws_szInt64S.f
  rw [wrapS (by omega) (by omega)]
  split <;> rfl

end Go.Proofs.Ytlicbcaloebhlaa.PX

/- What the laws do with games: sizes counted, copied, compared (no condition but sizes that fit). -/
namespace Go.Proofs.Ytlicbcaloebhlaa.PX
open Go.RowKit Go.Proofs.YtlicbcaloebhlaaW.PrintWords Go.Proofs.YtlicbcaloebhlaaW.PrintLast Go.Proofs.YtlicbcaloebhlaaW.PrintMore
attribute [local go_sem] max2_int min2_int max_two min_two max_three min_three max_four min_four
set_option linter.unusedVariables false
set_option linter.unusedSimpArgs false
def total : List (List Int) → Int
  | [] => 0
  | row :: rest => row.length + total rest
theorem total_nonneg : ∀ g : List (List Int), 0 ≤ total g
  | [] => by simp [total]
  | row :: rest => by have := total_nonneg rest; simp only [total]; omega
theorem total_mem {g : List (List Int)} {row : List Int} (h : row ∈ g) : (row.length : Int) ≤ total g := by
  induction g with
  | nil => simp at h
  | cons x rest ih =>
    simp only [total]
    have := total_nonneg rest
    rcases List.mem_cons.1 h with rfl | h
    · omega
    · have := ih h
      omega
theorem szSS_loop (g : List (List Int)) (hl : ∀ row ∈ g, row.length ≤ 9223372036854775807) (hg : g.length ≤ 1048576) (d : Nat) : ∀ (i : Nat) (a : Int), i + d = g.length → 0 ≤ a → a ≤ 1048576 →
    ∃ t, Ev (fun k => laws_szInt64SS.l0 k g a (i : Int)) t ∧ (t < 0 ∨ (0 ≤ t ∧ total (g.drop i) ≤ a)) := by
  induction d with
  | zero =>
    intro i a hd h0 h1
    refine ⟨a, Ev.step (f := fun _ => some a) (fun k => ?_) (Ev.now a), .inr ⟨h0, ?_⟩⟩
    · simp only [laws_szInt64SS.l0]; rw [if_neg (by omega)]
    · rw [List.drop_eq_nil_of_le (by omega)]; exact h0
  | succ d ih =>
    intro i a hd h0 h1
    obtain ⟨row, hp⟩ := get_some (xs := g) (i := i) (by omega)
    have hr : rd_L1 g (i : Int) = row := by rw [rdL1_nat]; exact getD_of hp
    have hs := szI_eq row a h0 h1 (hl row (List.mem_of_getElem? hp))
    have h2 : ∀ k, laws_szInt64SS.l0 (k + 1) g a (i : Int) = (if (if a - (row.length : Int) < 0 then -1 else a - row.length) < 0 then (some (-1)) else (laws_szInt64SS.l0 k g (if a - (row.length : Int) < 0 then -1 else a - row.length) ((i + 1 : Nat) : Int))) := fun k => by
      simp only [laws_szInt64SS.l0]
      rw [if_pos (by omega), if_pos (by omega), hr, hs, wrapS (by omega) (by omega), cast_succ]
      rfl
    rw [drop_of hp]
    simp only [total]
    by_cases c : a - (row.length : Int) < 0
    · exact ⟨-1, Ev.step (f := fun _ => some (-1)) (fun k => by rw [h2, if_pos c]; rfl) (Ev.now _), .inl (by omega)⟩
    · obtain ⟨t, ht, hor⟩ := ih (i + 1) (a - row.length) (by omega) (by omega) (by omega)
      refine ⟨t, Ev.step (fun k => by rw [h2, if_neg c, if_neg c]) ht, ?_⟩
      rcases hor with hor | hor
      · exact .inl hor
      · exact .inr ⟨hor.1, by omega⟩
theorem szG_ev (g : List (List Int)) (hg : g.length ≤ 9223372036854775807) (hl : ∀ row ∈ g, row.length ≤ 9223372036854775807) :
    ∃ t, Ev (fun k => laws_szGame.f k g 1048576) t ∧ (t < 0 ∨ (0 ≤ t ∧ g.length ≤ 1048576 ∧ total g ≤ 1048576)) := by
  by_cases c : (1048576 : Int) - g.length < 0
  · refine ⟨-1, Ev.congr (f := fun _ => some (-1)) (fun k => ?_) (Ev.now _), .inl (by omega)⟩
    unfold laws_szGame.f laws_szInt64SS.f
    rw [wrapS (by omega) (by omega), if_pos c]; rfl
  · obtain ⟨t, ht, hor⟩ := szSS_loop g hl (by omega) g.length 0 (1048576 - g.length) (by omega) (by omega) (by omega)
    have hS : Ev (fun k => laws_szInt64SS.f k g 1048576) t := Ev.congr (fun k => by unfold laws_szInt64SS.f; rw [wrapS (by omega) (by omega), if_neg c]; rfl) ht
    rcases hor with hor | hor
    · refine ⟨-1, ?_, .inl (by omega)⟩
      refine Ev.congr (f := fun k => (laws_szInt64SS.f k g 1048576).bind fun t => (if t < 0 then (some (-1)) else (some t))) (fun k => rfl) (Ev.bind hS ?_)
      exact Ev.congr (f := fun _ => some (-1)) (fun k => by rw [if_pos hor]) (Ev.now _)
    · refine ⟨t, ?_, .inr ⟨hor.1, by omega, by rw [List.drop_zero] at hor; omega⟩⟩
      refine Ev.congr (f := fun k => (laws_szInt64SS.f k g 1048576).bind fun t => (if t < 0 then (some (-1)) else (some t))) (fun k => rfl) (Ev.bind hS ?_)
      exact Ev.congr (f := fun _ => some t) (fun k => by rw [if_neg (by omega)]) (Ev.now _)
theorem toSS_loop (g : List (List Int)) (hl : ∀ row ∈ g, row.length ≤ 1048576) (hg : g.length ≤ 1048576) (d : Nat) : ∀ i : Nat, i + d = g.length → Ev (fun k => laws_toInt64SS.l0 k g (g.take i ++ List.replicate d []) (i : Int)) g := by
  induction d with
  | zero =>
    intro i hd
    rw [List.take_of_length_le (by omega)]
    refine Ev.step (f := fun _ => some g) (fun k => ?_) (Ev.now g)
    simp only [laws_toInt64SS.l0]; rw [if_neg (by omega)]; simp
  | succ d ih =>
    intro i hd
    obtain ⟨row, hp⟩ := get_some (xs := g) (i := i) (by omega)
    have hr : rd_L1 g (i : Int) = row := by rw [rdL1_nat]; exact getD_of hp
    have hlen : (g.take i).length = i := by rw [List.length_take]; omega
    refine Ev.step (f := fun k => (laws_toInt64S.f k row).bind fun t => laws_toInt64SS.l0 k g ((g.take i ++ List.replicate (d + 1) []).set ((i : Int)).toNat t) ((i + 1 : Nat) : Int)) (fun k => ?_) (Ev.bind (toI_ev row (hl row (List.mem_of_getElem? hp))) ?_)
    · simp only [laws_toInt64SS.l0]
      rw [if_pos (by omega), if_pos (by omega), hr, wrapS (by omega) (by omega), cast_succ]
      congr 1
      funext t
      rw [if_pos (by rw [List.length_append, hlen, List.length_replicate]; omega)]
    · refine Ev.congr (fun k => ?_) (ih (i + 1) (by omega))
      have e1 : ((i : Int)).toNat = (g.take i).length := by rw [hlen]; omega
      have e : (g.take i ++ List.replicate (d + 1) []).set ((i : Int)).toNat row = g.take (i + 1) ++ List.replicate d [] := by
        rw [e1, List.set_append_right _ _ (Nat.le_refl _), Nat.sub_self, List.replicate_succ, List.set_cons_zero]
        obtain ⟨hlt, hxe⟩ := List.getElem?_eq_some_iff.1 hp
        rw [List.take_succ_eq_append_getElem hlt, hxe]
        simp
      rw [e]
theorem toG_ev (g : List (List Int)) (hg : g.length ≤ 1048576) (ht : total g ≤ 1048576) : Ev (fun k => laws_toGame.f k g) g := by
  have hl : ∀ row ∈ g, row.length ≤ 1048576 := fun row h => by have := total_mem h; omega
  have h := toSS_loop g hl hg g.length 0 (by omega)
  have hS : Ev (fun k => laws_toInt64SS.f k g) g := Ev.congr (fun k => by unfold laws_toInt64SS.f; rw [if_pos (by omega), if_pos (by omega)]; simp) h
  exact Ev.congr (f := fun k => (laws_toInt64SS.f k g).bind fun t => some t) (fun k => rfl) (Ev.bind hS (Ev.now g))
theorem eqSS_loop (g : List (List Int)) (hl : ∀ row ∈ g, row.length < 4611686018427387904) (hg : g.length < 4611686018427387904) (d : Nat) : ∀ i : Nat, i + d = g.length → Ev (fun k => laws_eqInt64SS.l0 k g g (i : Int)) true := by
  induction d with
  | zero =>
    intro i hd
    refine Ev.step (f := fun _ => some true) (fun k => ?_) (Ev.now true)
    simp only [laws_eqInt64SS.l0]; rw [if_neg (by omega)]
  | succ d ih =>
    intro i hd
    obtain ⟨row, hp⟩ := get_some (xs := g) (i := i) (by omega)
    have hr : rd_L1 g (i : Int) = row := by rw [rdL1_nat]; exact getD_of hp
    refine Ev.step (f := fun k => (laws_eqInt64S.f k row row).bind fun t => if t = true then laws_eqInt64SS.l0 k g g ((i + 1 : Nat) : Int) else some false) (fun k => ?_) (Ev.bind (eqI_ev row (hl row (List.mem_of_getElem? hp))) ?_)
    · simp only [laws_eqInt64SS.l0]
      rw [if_pos (by omega), if_pos (by omega), if_pos (by omega), hr, wrapS (by omega) (by omega), cast_succ]
    · exact Ev.congr (fun k => by simp) (ih (i + 1) (by omega))
theorem eqG_ev (g : List (List Int)) (hl : ∀ row ∈ g, row.length < 4611686018427387904) (hg : g.length < 4611686018427387904) : Ev (fun k => laws_eqGame.f k g g) true := by
  have hS : Ev (fun k => laws_eqInt64SS.f k g g) true := Ev.congr (fun k => by unfold laws_eqInt64SS.f; rw [if_pos rfl]; rfl) (eqSS_loop g hl hg g.length 0 (by omega))
  exact Ev.congr (f := fun k => (laws_eqInt64SS.f k g g).bind fun t => if t = true then some true else some false) (fun k => rfl) (Ev.bind hS (Ev.congr (f := fun _ => some true) (fun k => by simp) (Ev.now true)))

end Go.Proofs.Ytlicbcaloebhlaa.PX

/- markInt64SS, a contract: the marks a, a + 1, .. lie in rows that lie apart, and nothing else has turned (conditions: the rows are the caller's own and apart; sizes fit). -/
namespace Go.Proofs.Ytlicbcaloebhlaa.PX
open Go.RowKit Go.Proofs.YtlicbcaloebhlaaW.PrintWords Go.Proofs.YtlicbcaloebhlaaW.PrintLast Go.Proofs.YtlicbcaloebhlaaW.PrintMore
attribute [local go_sem] max2_int min2_int max_two min_two max_three min_three max_four min_four
set_option linter.unusedVariables false
set_option linter.unusedSimpArgs false
/-- The marks, row by row. -/
def markL (a : Int) : List (List Int) → List (List Int)
  | [] => []
  | row :: rest => marks a row.length :: markL (a + row.length) rest
theorem markL_length : ∀ (a : Int) (g : List (List Int)), (markL a g).length = g.length
  | _, [] => rfl
  | a, row :: rest => by simp only [markL, List.length_cons, markL_length]
theorem total_append : ∀ (g h : List (List Int)), total (g ++ h) = total g + total h
  | [], h => by simp [total]
  | row :: rest, h => by simp only [List.cons_append, total, total_append rest h]; omega
theorem markL_append : ∀ (a : Int) (g h : List (List Int)), markL a (g ++ h) = markL a g ++ markL (a + total g) h
  | a, [], h => by simp [markL, total]
  | a, row :: rest, h => by
    simp only [List.cons_append, markL, total, markL_append _ rest h]
    rw [show a + (row.length : Int) + total rest = a + (row.length + total rest) by omega]
theorem take_snoc {α : Type} {xs : List α} {j : Nat} {x : α} (h : xs[j]? = some x) : xs.take (j + 1) = xs.take j ++ [x] := by
  obtain ⟨hl, e⟩ := List.getElem?_eq_some_iff.1 h
  rw [List.take_succ_eq_append_getElem hl, e]
theorem total_take (g : List (List Int)) (j : Nat) : 0 ≤ total (g.take j) ∧ total (g.take j) ≤ total g := by
  have h1 := total_nonneg (g.take j)
  have h2 := total_nonneg (g.drop j)
  have h3 : total g = total (g.take j) + total (g.drop j) := by rw [← total_append, List.take_append_drop]
  omega
set_option maxHeartbeats 8000000 in
set_option maxRecDepth 100000 in
theorem laws_markInt64SS.calls (ok : Nat → Prop) (v : Value) (xs : List (List Int)) (a : Int) (w0 w : World) (hB : Below w0.heap.size w0 w) (ho : Kd.S (Kd.slice 2 (Kd.int .i64)) 31 w w0.heap.size ok v xs) (ha : 0 ≤ a) (hn : a + total xs < 4611686018427387904) (hl : xs.length < 4611686018427387904) :
    Calls Try.prog 65 #[v, .int .i64 a] w fun e w' => e = .returned (.int .i64 (a + total xs)) ∧ Kd.S (Kd.slice 2 (Kd.int .i64)) 31 w' w0.heap.size ok v (markL a xs) ∧ Below w0.heap.size w0 w' ∧ Kept w w' ok := by
  obtain ⟨A, c, hv⟩ := Kd.S_slice ho
  obtain ⟨n, hnl⟩ : ∃ n, n = xs.length := ⟨_, rfl⟩
  rw [← hnl] at hv
  subst hv
  have HO := Aside0.mk ho
  have HB := Aside0.mk hB
  have HN := Aside0.mk hnl
  have HA := Aside0.mk ha
  have HT := Aside0.mk hn
  have HL := Aside0.mk hl
  clear ho hB hnl ha hn hl
  go_enter Try.func65, Try.ntmps65
  go_wp2
  go_loopg [1, 5] (n + 1) (fun kq v1 v5 wr => ∃ (x1 x5 : Int), v1 = .int .i64 x1 ∧ v5 = .int .i64 x5 ∧ Aside0 (∃ j : Nat, x5 = (j : Int) ∧ x1 = a + total (xs.take j) ∧ j ≤ n ∧ kq + j = n + 1 ∧ Kd.S (Kd.slice 2 (Kd.int .i64)) 31 wr w0.heap.size ok (.slice A n c) (markL a (xs.take j) ++ xs.drop j)) ∧ Aside0 (Below w0.heap.size w0 wr) ∧ Aside0 (Kept w wr ok))
  case atStart => exact ⟨a, 0, (by first | rfl | (simp; done) | (simp [*]; done)), (by first | rfl | (simp; done) | (simp [*]; done)), ⟨0, rfl, by simp [total], Nat.zero_le _, rfl, by simpa [markL] using HO.out⟩, HB, ⟨Kept.refl _ _⟩⟩
  case round =>
    obtain ⟨x1, x5, rfl, rfl, ⟨j, h5, h1, hj, hq, hS⟩, HBr, HK⟩ := hrel
    have H5 := Aside0.mk h5
    have H1 := Aside0.mk h1
    have HJ := Aside0.mk hj
    have HQ := Aside0.mk hq
    have HS := Aside0.mk hS
    clear h5 h1 hj hq hS
    by_cases c3 : x5 < (n : Int)
    · have hjn : j < xs.length := by have := H5.out; have := HN.out; omega
      obtain ⟨row, hrow⟩ := get_some hjn
      have hlen : (markL a (xs.take j)).length = j := by rw [markL_length, List.length_take]; omega
      obtain ⟨g, cap, hg, _, _, _⟩ := Kd.S_form HS.out (by rw [List.length_append, hlen, List.length_drop]; omega)
      injection hg with hA hn_ hc
      clear hn_
      subst hA
      subst hc
      have hi0 : 0 ≤ x5 := by rw [H5.out]; omega
      obtain ⟨oki, cl, hcl, hM, hcc, hoki, hH⟩ := Kd.S_lend HS.out [] x5 hi0 c3
      obtain ⟨vj, rfl, hR⟩ := hM
      have hget : (markL a (xs.take j) ++ xs.drop j).getD x5.toNat [] = row := by
        rw [H5.out, Int.toNat_natCast]
        apply getD_of
        rw [List.getElem?_append_right (by omega), hlen, Nat.sub_self, List.getElem?_drop, Nat.add_zero, hrow]
      rw [hget] at hR
      have hx := hcc 0 vj rfl
      simp only [show ((Kd.slice 2 (Kd.int .i64))).sz = 1 from rfl, Nat.mul_one, Nat.add_zero] at hx
      have htl := total_take xs j
      have htr : total (xs.take (j + 1)) = total (xs.take j) + row.length := by rw [take_snoc hrow, total_append]; simp [total]
      have htl2 := total_take xs (j + 1)
      obtain ⟨K, hK⟩ := mark_ev row x1 (by have := H1.out; have := HA.out; omega) (by have := H1.out; have := HT.out; omega)
      have HM := Aside0.mk (hK K (Nat.le_refl _))
      have HR := Aside0.mk hR
      have HH := Aside0.mk hH
      have HOK := Aside0.mk hoki
      have HROW := Aside0.mk hrow
      have HLEN := Aside0.mk hlen
      have HTR := Aside0.mk htr
      have HTL := Aside0.mk htl
      have HTL2 := Aside0.mk htl2
      have c3b0 : decide (x5 < (n : Int)) = true := decide_eq_true c3
      have c4b0 : decide (0 ≤ x5) = true := decide_eq_true hi0
      have HJN := Aside0.mk hjn
      clear hK hR hH hoki hrow hlen htr htl htl2 hget hcl hcc hjn
      replace hi0 := eq_true hi0
      replace c3 := eq_true c3
      go_wp2_with ((with_reducible refine gate_callee (f := 29) rfl ?_); refine goesL_ (some 17) rfl rfl Try.func29 (by kernel_rfl) rfl #[vj, .int .i64 x1] rfl (by (try simp only [List.map_toArray, List.map_cons, List.map_nil]); first | done | rfl) ?_; (with_reducible refine (laws_markInt64S.calls K oki vj row x1 _ _ w0 wr HBr.out HR.out HM.out).mono ?_); rintro e w1 ⟨rfl, hy0, hb, hkp⟩; refine ⟨_, rfl, ?_⟩; have HY := Aside0.mk (Kd.R_reok rfl hy0 (fun k_ e_ => HR.out.1 k_ e_)); have HBn := Aside0.mk hb; have HKP := Aside0.mk hkp; clear hy0 hb hkp)
      go_roundg (n - j)
      case measure => have := HQ.out; have := HJ.out; have := HJN.out; have := HN.out; omega
      case rel =>
        refine ⟨x1 + (row.length : Int), wrap64 (x5 + 1), (by first | rfl | (simp; done) | (simp [*]; done)), (by first | rfl | (simp; done) | (simp [*]; done)), ⟨j + 1, ?_, ?_, ?_, ?_, ?_⟩, HBn, ⟨HK.out.then_ HKP.out (fun k hk => .inl (HOK.out k hk).1)⟩⟩
        · have := H5.out; have := HJN.out; have := HL.out; unfold wrap64; omega
        · rw [HTR.out, H1.out]; omega
        · have := HJN.out; have := HN.out; omega
        · have := HQ.out; have := HJN.out; have := HN.out; omega
        · have hb := Kd.H_back (Kd.H_kept HH.out HKP.out (fun k _ h2 h3 => h2 h3)) (x' := marks x1 row.length) ⟨vj, rfl, HY.out⟩ (fun k hk => hk)
          have e : (markL a (xs.take j) ++ xs.drop j).set x5.toNat (marks x1 row.length) = markL a (xs.take (j + 1)) ++ xs.drop (j + 1) := by
            rw [H5.out, Int.toNat_natCast, drop_of HROW.out, take_snoc HROW.out, markL_append, H1.out]
            conv => lhs; rw [show j = (markL a (xs.take j)).length from HLEN.out.symm]
            rw [HLEN.out, List.set_append_right _ _ (by rw [HLEN.out]; exact Nat.le_refl _), HLEN.out, Nat.sub_self, List.set_cons_zero]
            simp [markL]
          rw [e] at hb
          exact hb
    · have c3b0 : decide (x5 < (n : Int)) = false := decide_eq_false c3
      have HC := Aside0.mk c3
      clear c3
      go_wp2
      go_ret
      have hjn : j = n := by have := HC.out; have := H5.out; have := HJ.out; omega
      have hS := HS.out
      rw [hjn, HN.out, List.take_length, List.drop_length, List.append_nil] at hS
      have h1 := H1.out
      rw [hjn, HN.out, List.take_length] at h1
      refine ⟨?_, ?_, HBr.out, HK.out⟩
      · rw [← h1]; rfl
      · rw [HN.out]; exact hS

end Go.Proofs.Ytlicbcaloebhlaa.PX

/- markGame, a contract: the marks lie in the game's rows, and nothing else that was there has turned (conditions: the rows are the caller's own and apart; sizes fit). -/
namespace Go.Proofs.Ytlicbcaloebhlaa.PX
open Go.RowKit Go.Proofs.YtlicbcaloebhlaaW.PrintWords Go.Proofs.YtlicbcaloebhlaaW.PrintLast Go.Proofs.YtlicbcaloebhlaaW.PrintMore
attribute [local go_sem] max2_int min2_int max_two min_two max_three min_three max_four min_four
set_option linter.unusedVariables false
set_option linter.unusedSimpArgs false
set_option maxHeartbeats 8000000 in
set_option maxRecDepth 100000 in
theorem laws_markGame.calls (ok : Nat → Prop) (A : Option Addr) (n c : Nat) (xs : List (List Int)) (a : Int) (w0 w : World) (hB : Below w0.heap.size w0 w) (ho : Kd.S (Kd.slice 2 (Kd.int .i64)) 31 w w0.heap.size ok (.slice A n c) xs) (ha : 0 ≤ a) (hn : a + total xs < 4611686018427387904) (hl : xs.length < 4611686018427387904) :
    Calls Try.prog 28 #[.agg #[.slice A n c], .int .i64 a] w fun e w' => e = .returned (.int .i64 (a + total xs)) ∧ Kd.S (Kd.slice 2 (Kd.int .i64)) 31 w' w0.heap.size ok (.slice A n c) (markL a xs) ∧ Below w0.heap.size w0 w' ∧ Kept w w' ok := by
  have HO := Aside0.mk ho
  have HB := Aside0.mk hB
  have HA := Aside0.mk ha
  have HT := Aside0.mk hn
  have HL := Aside0.mk hl
  clear ho hB ha hn hl
  have huG := Try.underlying27
  go_enter Try.func28, Try.ntmps28
  go_wp2_with (first | ((with_reducible refine gate_dst (N := 2) rfl ?_); refine box_event ?hg (N := 2) ?hd (cs := #[.slice A n c]) (t := 27) ?hr ?_; (case hd => rfl); (case hg => rfl); (case hr => first | (go_simp; done) | (go_simp; rfl)); intro gb hg w2 hbox hb; have n0_ := Aside0.mk (Kd.S_below HO.out hb); have n1_ := Aside0.mk (below_then HB.out HB.out.size hb); have HK := Aside0.mk (Kept.of_below hb ok); have HBX := Aside0.mk hbox; clear HO HB hb hbox hg; have HO := n0_; have HB := n1_; clear n0_ n1_; have hcz : w2.cell? ⟨gb, 0, none⟩ = some (.slice A n c) := (blk_cell HBX.out 0).trans rfl; have hfz := blk_frozen HBX.out 0) | ((with_reducible refine gate_callee (f := 65) rfl ?_); refine goesL_ (some 8) rfl rfl Try.func65 (by kernel_rfl) rfl #[.slice A n c, .int .i64 a] rfl (by (try simp only [List.map_toArray, List.map_cons, List.map_nil]); first | done | rfl) ?_; (with_reducible refine (laws_markInt64SS.calls ok _ xs a w0 _ HB.out HO.out HA.out HT.out HL.out).mono ?_); rintro e w3 ⟨rfl, hs, hb, hk⟩; refine ⟨_, rfl, ?_⟩; have HS := Aside0.mk hs; have HB3 := Aside0.mk hb; have HK3 := Aside0.mk hk; clear hs hb hk hcz hfz))
  go_ret
  exact ⟨rfl, HS.out, HB3.out, HK.out.then_ HK3.out (fun k hk => .inl hk)⟩

end Go.Proofs.Ytlicbcaloebhlaa.PX

/- The law FnExactHeapGame along its good road: where the callees answer alike, it returns true and leaves all old memory as it was. -/
namespace Go.Proofs.Ytlicbcaloebhlaa.PX
open Go.RowKit Go.Proofs.YtlicbcaloebhlaaW.PrintWords Go.Proofs.YtlicbcaloebhlaaW.PrintLast Go.Proofs.YtlicbcaloebhlaaW.PrintMore
attribute [local go_sem] max2_int min2_int max_two min_two max_three min_three max_four min_four
set_option linter.unusedVariables false
set_option linter.unusedSimpArgs false

set_option maxHeartbeats 16000000 in
set_option maxRecDepth 100000 in
theorem laws_FnExactHeapGame.good (k : Nat) (a0 : Int) (A1 : Option Addr) (c1 : Nat) (l1 : List Int) (r0 : List (List Int)) (r1 : Int) (tm0 : Int) (tm1 : Int) (w : World) (hr1 : Kd.C (Kd.int .i64) w A1 l1.length l1) (hc1 : l1.length ≤ c1) (D_len1 : decide (1048576 < (l1.length : Int)) = false) (E_laws_toInt64S_3_h : laws_toInt64S.f k l1 = some l1) (E_spec_HeapGame_11_h : spec_HeapGame.f k a0 l1 = some (r0, r1)) (E_impl_HeapGame_34_h : impl_HeapGame.f k a0 l1 = some (r0, r1)) (E_laws_eqGame_50_h : laws_eqGame.f k r0 r0 = some true) (E_laws_eqInt64S_60_h : laws_eqInt64S.f k l1 l1 = some true) (D_tm0 : decide (tm0 < 0) = false) (E_laws_markInt64S_63_h : laws_markInt64S.f k l1 1 = some (tm0, marks 1 l1.length)) (D_tm1 : decide (tm1 < 0) = false) (HM1_F39_h : 1 + total r0 < 4611686018427387904) (HM2_F39_h : r0.length < 4611686018427387904) (tm1_eq_h : 1 + total r0 = tm1) (E_laws_heldGame_70_h : laws_heldGame.f k (markL 1 r0) 1 = some tm1) :
    Calls Try.prog 14 #[.int .i64 a0, .slice A1 l1.length c1] w fun e w' => e = .returned (.bool true) ∧ Below w.heap.size w w' := by
  have HR1 := Aside0.mk hr1
  have HC1 := Aside0.mk hc1
  clear hr1 hc1
  have E_laws_toInt64S_3 := Aside0.mk E_laws_toInt64S_3_h
  clear E_laws_toInt64S_3_h
  have E_spec_HeapGame_11 := Aside0.mk E_spec_HeapGame_11_h
  clear E_spec_HeapGame_11_h
  have E_impl_HeapGame_34 := Aside0.mk E_impl_HeapGame_34_h
  clear E_impl_HeapGame_34_h
  have E_laws_eqGame_50 := Aside0.mk E_laws_eqGame_50_h
  clear E_laws_eqGame_50_h
  have E_laws_eqInt64S_60 := Aside0.mk E_laws_eqInt64S_60_h
  clear E_laws_eqInt64S_60_h
  have E_laws_markInt64S_63 := Aside0.mk E_laws_markInt64S_63_h
  clear E_laws_markInt64S_63_h
  have HM1_F39 := Aside0.mk HM1_F39_h
  clear HM1_F39_h
  have HM2_F39 := Aside0.mk HM2_F39_h
  clear HM2_F39_h
  have tm1_eq := Aside0.mk tm1_eq_h
  clear tm1_eq_h
  have E_laws_heldGame_70 := Aside0.mk E_laws_heldGame_70_h
  clear E_laws_heldGame_70_h
  have hu27 := Try.underlying27
  have HB := Aside0.mk (Below.refl w.heap.size w)
  go_enter Try.func14, Try.ntmps14
  go_wp2_with (first | ((with_reducible refine gate_dst (N := 21) rfl ?_); (try (refine gate_guard (by rfl) ?_; dsimp only)); refine goesL_ (some 21) rfl rfl Try.func21 (by kernel_rfl) rfl #[.slice A1 l1.length c1] rfl (by (try simp only [List.map_toArray, List.map_cons, List.map_nil]); first | done | rfl) ?_; (with_reducible refine (laws_toInt64S.calls k _ _ l1 l1 _ ?side1 ?side2 E_laws_toInt64S_3.out).mono ?_); (case side1 => exact Kd.C_below HR1.out HB.out); (case side2 => exact HC1.out); rintro e w2 ⟨v4, rfl, ho5, hb⟩; refine ⟨_, rfl, ?_⟩; obtain ⟨Ao6, co7, e_Ao6⟩ := Kd.R_slice ho5; subst e_Ao6; have F8 := Aside0.mk (R_ivl ho5 HB.out.size); have Z9 : Aside0 (w.heap.size ≤ w2.heap.size) := Aside0.mk (hb.size); have n0_ := Aside0.mk (below_then HB.out HB.out.size hb); clear HB; have HB := n0_; clear n0_; (try clear hb ho5)) | ((with_reducible refine gate_dst (N := 22) rfl ?_); (try (refine gate_guard (by rfl) ?_; dsimp only)); refine goesL_ (some 22) rfl rfl Try.func48 (by kernel_rfl) rfl #[.int .i64 a0, .slice Ao6 l1.length co7] rfl (by (try simp only [List.map_toArray, List.map_cons, List.map_nil]); first | done | rfl) ?_; (with_reducible refine (spec_HeapGame.calls k a0 _ _ l1 r0 r1 _ ?side1 ?side2 E_spec_HeapGame_11.out).mono ?_); (case side1 => exact (Kd.R_reads' F8.out).2.2); (case side2 => exact (Kd.R_reads' F8.out).2.1); rintro e w10 ⟨v12, rfl, ho13, hb⟩; refine ⟨_, rfl, ?_⟩; obtain ⟨Ao14, co15, e_Ao14⟩ := Kd.S_slice ho13; subst e_Ao14; have F16 := Aside0.mk (S_ivl ho13 HB.out.size); have Z17 : Aside0 (w2.heap.size ≤ w10.heap.size) := Aside0.mk (hb.size); have n0_ := Aside0.mk (below_then HB.out HB.out.size hb); have n1_ := Aside0.mk (Kd.R_below F8.out hb); clear HB F8; have HB := n0_; have F8 := n1_; clear n0_ n1_; (try clear hb ho13)) | ((with_reducible refine gate_dst (N := 5) rfl ?_); (try (refine gate_guard (by rfl) ?_; dsimp only)); refine box_event ?hg (N := 5) ?hd (cs := #[.slice none 0 0]) (t := 27) ?hr ?_; (case hd => rfl); (case hg => rfl); (case hr => first | (go_simp; done) | (go_simp; rfl)); intro gb18 hg w19 hbox hb; have Z22 : Aside0 (w10.heap.size ≤ w19.heap.size) := Aside0.mk (hb.size); have BK20 := Aside0.mk hbox; have GP21 := Aside0.mk hg; have Z23 : Aside0 (gb18 < w19.heap.size) := Aside0.mk (blk_lt hbox); have n0_ := Aside0.mk (below_then HB.out HB.out.size hb); have n1_ := Aside0.mk (Kd.R_below F8.out hb); have n2_ := Aside0.mk (Kd.S_below F16.out hb); clear HB F8 F16; have HB := n0_; have F8 := n1_; have F16 := n2_; clear n0_ n1_ n2_; clear hb hbox hg; (try clear hz_gb18_0); have hz_gb18_0 : w19.cell? ⟨gb18, 0, none⟩ = some (.slice none 0 0) := (blk_cell BK20.out 0).trans rfl; (try clear hf_gb18_0); have hf_gb18_0 := blk_frozen BK20.out 0) | ((with_reducible refine gate_store (t := 27) (p := 5) rfl ?_); (try (refine gate_guard (by rfl) ?_; dsimp only)); refine store_event (t := 27) (p := 5) (v := ?vo_w24) (w1 := (w19.setCell ⟨gb18, 0, none⟩ (.slice Ao14 r0.length co15))) ?hg ?ho ?hn ?hr ?_; (case ho => rfl); (case hg => rfl); (case hn => rfl); (case hr => first | (go_simp; done) | (go_simp; rfl)); intro w24 hw; have Z25 : Aside0 (w19.heap.size ≤ w24.heap.size) := Aside0.mk (by rw [hw]; simp [World.setCell]); have n0_ := Aside0.mk ((by rw [hw]; exact below_set (HB.out) (by have z0_ := Z9.out; have z1_ := Z17.out; have z2_ := Z22.out; have z3_ := Z23.out; have g_ := GP21.out; have hb_ := HB.out.size; omega) : Below w.heap.size w w24)); have n1_ := Aside0.mk (hw.symm ▸ (Kd.R_far (p := ⟨gb18, 0, none⟩) (F8.out) (fun k_ h_ => by have z0_ := Z9.out; have z1_ := Z17.out; have z2_ := Z22.out; have z3_ := Z23.out; have g_ := GP21.out; unfold Ivl at h_; show k_ ≠ gb18; omega) _)); have n2_ := Aside0.mk (hw.symm ▸ (Kd.S_far (p := ⟨gb18, 0, none⟩) (F16.out) (fun k_ h_ => by have z0_ := Z9.out; have z1_ := Z17.out; have z2_ := Z22.out; have z3_ := Z23.out; have g_ := GP21.out; unfold Ivl at h_; show k_ ≠ gb18; omega) _)); have n3_ := Aside0.mk ((by rw [hw]; exact blk_put (cs := #[.slice none 0 0]) (BK20.out) 0 _ rfl : w24.heap[gb18]? = some (.cells #[.slice Ao14 r0.length co15] 27 (0, 0)))); clear HB F8 F16 BK20; have HB := n0_; have F8 := n1_; have F16 := n2_; have BK20 := n3_; clear n0_ n1_ n2_ n3_; clear hw; (try clear hz_gb18_0); have hz_gb18_0 : w24.cell? ⟨gb18, 0, none⟩ = some (.slice Ao14 r0.length co15) := (blk_cell BK20.out 0).trans rfl; (try clear hf_gb18_0); have hf_gb18_0 := blk_frozen BK20.out 0) | ((with_reducible refine gate_dst (N := 26) rfl ?_); (try (refine gate_guard (by rfl) ?_; dsimp only)); refine goesL_ (some 26) rfl rfl Try.func21 (by kernel_rfl) rfl #[.slice A1 l1.length c1] rfl (by (try simp only [List.map_toArray, List.map_cons, List.map_nil]); first | done | rfl) ?_; (with_reducible refine (laws_toInt64S.calls k _ _ l1 l1 _ ?side1 ?side2 E_laws_toInt64S_3.out).mono ?_); (case side1 => exact Kd.C_below HR1.out HB.out); (case side2 => exact HC1.out); rintro e w26 ⟨v27, rfl, ho28, hb⟩; refine ⟨_, rfl, ?_⟩; obtain ⟨Ao29, co30, e_Ao29⟩ := Kd.R_slice ho28; subst e_Ao29; have F31 := Aside0.mk (R_ivl ho28 HB.out.size); have Z32 : Aside0 (w24.heap.size ≤ w26.heap.size) := Aside0.mk (hb.size); have n0_ := Aside0.mk (below_then HB.out HB.out.size hb); have n1_ := Aside0.mk (Kd.R_below F8.out hb); have n2_ := Aside0.mk (Kd.S_below F16.out hb); have n3_ := Aside0.mk (blk_below (g := gb18) (o := .cells #[.slice Ao14 r0.length co15] 27 (0, 0)) BK20.out hb); clear HB F8 F16 BK20; have HB := n0_; have F8 := n1_; have F16 := n2_; have BK20 := n3_; clear n0_ n1_ n2_ n3_; (try clear hb ho28); (try clear hz_gb18_0); have hz_gb18_0 : w26.cell? ⟨gb18, 0, none⟩ = some (.slice Ao14 r0.length co15) := (blk_cell BK20.out 0).trans rfl; (try clear hf_gb18_0); have hf_gb18_0 := blk_frozen BK20.out 0) | ((with_reducible refine gate_dst (N := 30) rfl ?_); (try (refine gate_guard (by rfl) ?_; dsimp only)); refine goesL_ (some 30) rfl rfl Try.func49 (by kernel_rfl) rfl #[.int .i64 a0, .slice Ao29 l1.length co30] rfl (by (try simp only [List.map_toArray, List.map_cons, List.map_nil]); first | done | rfl) ?_; (with_reducible refine (impl_HeapGame.calls k a0 _ _ l1 r0 r1 _ ?side1 ?side2 E_impl_HeapGame_34.out).mono ?_); (case side1 => exact (Kd.R_reads' F31.out).2.2); (case side2 => exact (Kd.R_reads' F31.out).2.1); rintro e w33 ⟨v35, rfl, ho36, hb⟩; refine ⟨_, rfl, ?_⟩; obtain ⟨Ao37, co38, e_Ao37⟩ := Kd.S_slice ho36; subst e_Ao37; have F39 := Aside0.mk (S_ivl ho36 HB.out.size); have Z40 : Aside0 (w26.heap.size ≤ w33.heap.size) := Aside0.mk (hb.size); have n0_ := Aside0.mk (below_then HB.out HB.out.size hb); have n1_ := Aside0.mk (Kd.R_below F8.out hb); have n2_ := Aside0.mk (Kd.S_below F16.out hb); have n3_ := Aside0.mk (blk_below (g := gb18) (o := .cells #[.slice Ao14 r0.length co15] 27 (0, 0)) BK20.out hb); have n4_ := Aside0.mk (Kd.R_below F31.out hb); clear HB F8 F16 BK20 F31; have HB := n0_; have F8 := n1_; have F16 := n2_; have BK20 := n3_; have F31 := n4_; clear n0_ n1_ n2_ n3_ n4_; (try clear hb ho36); (try clear hz_gb18_0); have hz_gb18_0 : w33.cell? ⟨gb18, 0, none⟩ = some (.slice Ao14 r0.length co15) := (blk_cell BK20.out 0).trans rfl; (try clear hf_gb18_0); have hf_gb18_0 := blk_frozen BK20.out 0) | ((with_reducible refine gate_dst (N := 8) rfl ?_); (try (refine gate_guard (by rfl) ?_; dsimp only)); refine box_event ?hg (N := 8) ?hd (cs := #[.slice none 0 0]) (t := 27) ?hr ?_; (case hd => rfl); (case hg => rfl); (case hr => first | (go_simp; done) | (go_simp; rfl)); intro gb41 hg w42 hbox hb; have Z45 : Aside0 (w33.heap.size ≤ w42.heap.size) := Aside0.mk (hb.size); have BK43 := Aside0.mk hbox; have GP44 := Aside0.mk hg; have Z46 : Aside0 (gb41 < w42.heap.size) := Aside0.mk (blk_lt hbox); have n0_ := Aside0.mk (below_then HB.out HB.out.size hb); have n1_ := Aside0.mk (Kd.R_below F8.out hb); have n2_ := Aside0.mk (Kd.S_below F16.out hb); have n3_ := Aside0.mk (blk_below (g := gb18) (o := .cells #[.slice Ao14 r0.length co15] 27 (0, 0)) BK20.out hb); have n4_ := Aside0.mk (Kd.R_below F31.out hb); have n5_ := Aside0.mk (Kd.S_below F39.out hb); clear HB F8 F16 BK20 F31 F39; have HB := n0_; have F8 := n1_; have F16 := n2_; have BK20 := n3_; have F31 := n4_; have F39 := n5_; clear n0_ n1_ n2_ n3_ n4_ n5_; clear hb hbox hg; (try clear hz_gb18_0); have hz_gb18_0 : w42.cell? ⟨gb18, 0, none⟩ = some (.slice Ao14 r0.length co15) := (blk_cell BK20.out 0).trans rfl; (try clear hf_gb18_0); have hf_gb18_0 := blk_frozen BK20.out 0; (try clear hz_gb41_0); have hz_gb41_0 : w42.cell? ⟨gb41, 0, none⟩ = some (.slice none 0 0) := (blk_cell BK43.out 0).trans rfl; (try clear hf_gb41_0); have hf_gb41_0 := blk_frozen BK43.out 0) | ((with_reducible refine gate_store (t := 27) (p := 8) rfl ?_); (try (refine gate_guard (by rfl) ?_; dsimp only)); refine store_event (t := 27) (p := 8) (v := ?vo_w47) (w1 := (w42.setCell ⟨gb41, 0, none⟩ (.slice Ao37 r0.length co38))) ?hg ?ho ?hn ?hr ?_; (case ho => rfl); (case hg => rfl); (case hn => rfl); (case hr => first | (go_simp; done) | (go_simp; rfl)); intro w47 hw; have Z48 : Aside0 (w42.heap.size ≤ w47.heap.size) := Aside0.mk (by rw [hw]; simp [World.setCell]); have n0_ := Aside0.mk ((by rw [hw]; exact below_set (HB.out) (by have z0_ := Z9.out; have z1_ := Z17.out; have z2_ := Z22.out; have z3_ := Z23.out; have z4_ := Z25.out; have z5_ := Z32.out; have z6_ := Z40.out; have z7_ := Z45.out; have z8_ := Z46.out; have g_ := GP44.out; have hb_ := HB.out.size; omega) : Below w.heap.size w w47)); have n1_ := Aside0.mk (hw.symm ▸ (Kd.R_far (p := ⟨gb41, 0, none⟩) (F8.out) (fun k_ h_ => by have z0_ := Z9.out; have z1_ := Z17.out; have z2_ := Z22.out; have z3_ := Z23.out; have z4_ := Z25.out; have z5_ := Z32.out; have z6_ := Z40.out; have z7_ := Z45.out; have z8_ := Z46.out; have g_ := GP44.out; unfold Ivl at h_; show k_ ≠ gb41; omega) _)); have n2_ := Aside0.mk (hw.symm ▸ (Kd.S_far (p := ⟨gb41, 0, none⟩) (F16.out) (fun k_ h_ => by have z0_ := Z9.out; have z1_ := Z17.out; have z2_ := Z22.out; have z3_ := Z23.out; have z4_ := Z25.out; have z5_ := Z32.out; have z6_ := Z40.out; have z7_ := Z45.out; have z8_ := Z46.out; have g_ := GP44.out; unfold Ivl at h_; show k_ ≠ gb41; omega) _)); have n3_ := Aside0.mk ((by rw [hw]; exact blk_far (BK20.out) (by have z0_ := Z9.out; have z1_ := Z17.out; have z2_ := Z22.out; have z3_ := Z23.out; have z4_ := Z25.out; have z5_ := Z32.out; have z6_ := Z40.out; have z7_ := Z45.out; have z8_ := Z46.out; have g1_ := GP21.out; have g2_ := GP44.out; show gb18 ≠ gb41; omega) _ : w47.heap[gb18]? = some (.cells #[.slice Ao14 r0.length co15] 27 (0, 0)))); have n4_ := Aside0.mk (hw.symm ▸ (Kd.R_far (p := ⟨gb41, 0, none⟩) (F31.out) (fun k_ h_ => by have z0_ := Z9.out; have z1_ := Z17.out; have z2_ := Z22.out; have z3_ := Z23.out; have z4_ := Z25.out; have z5_ := Z32.out; have z6_ := Z40.out; have z7_ := Z45.out; have z8_ := Z46.out; have g_ := GP44.out; unfold Ivl at h_; show k_ ≠ gb41; omega) _)); have n5_ := Aside0.mk (hw.symm ▸ (Kd.S_far (p := ⟨gb41, 0, none⟩) (F39.out) (fun k_ h_ => by have z0_ := Z9.out; have z1_ := Z17.out; have z2_ := Z22.out; have z3_ := Z23.out; have z4_ := Z25.out; have z5_ := Z32.out; have z6_ := Z40.out; have z7_ := Z45.out; have z8_ := Z46.out; have g_ := GP44.out; unfold Ivl at h_; show k_ ≠ gb41; omega) _)); have n6_ := Aside0.mk ((by rw [hw]; exact blk_put (cs := #[.slice none 0 0]) (BK43.out) 0 _ rfl : w47.heap[gb41]? = some (.cells #[.slice Ao37 r0.length co38] 27 (0, 0)))); clear HB F8 F16 BK20 F31 F39 BK43; have HB := n0_; have F8 := n1_; have F16 := n2_; have BK20 := n3_; have F31 := n4_; have F39 := n5_; have BK43 := n6_; clear n0_ n1_ n2_ n3_ n4_ n5_ n6_; clear hw; (try clear hz_gb18_0); have hz_gb18_0 : w47.cell? ⟨gb18, 0, none⟩ = some (.slice Ao14 r0.length co15) := (blk_cell BK20.out 0).trans rfl; (try clear hf_gb18_0); have hf_gb18_0 := blk_frozen BK20.out 0; (try clear hz_gb41_0); have hz_gb41_0 : w47.cell? ⟨gb41, 0, none⟩ = some (.slice Ao37 r0.length co38) := (blk_cell BK43.out 0).trans rfl; (try clear hf_gb41_0); have hf_gb41_0 := blk_frozen BK43.out 0) | ((with_reducible refine gate_dst (N := 35) rfl ?_); (try (refine gate_guard (by rfl) ?_; dsimp only)); refine goesL_ (some 35) rfl rfl Try.func19 (by kernel_rfl) rfl #[.agg #[.slice Ao37 r0.length co38], .agg #[.slice Ao14 r0.length co15]] rfl (by (try simp only [List.map_toArray, List.map_cons, List.map_nil]); first | done | rfl) ?_; (with_reducible refine (laws_eqGame.calls k _ _ r0 _ _ r0 true _ ?side1 ?side2 ?side3 ?side4 E_laws_eqGame_50.out).mono ?_); (case side1 => exact (Kd.S_reads' F39.out).2.2); (case side2 => exact (Kd.S_reads' F39.out).2.1); (case side3 => exact (Kd.S_reads' F16.out).2.2); (case side4 => exact (Kd.S_reads' F16.out).2.1); rintro e w49 ⟨rfl, hb⟩; refine ⟨_, rfl, ?_⟩; have Z51 : Aside0 (w47.heap.size ≤ w49.heap.size) := Aside0.mk (hb.size); have n0_ := Aside0.mk (below_then HB.out HB.out.size hb); have n1_ := Aside0.mk (Kd.R_below F8.out hb); have n2_ := Aside0.mk (Kd.S_below F16.out hb); have n3_ := Aside0.mk (blk_below (g := gb18) (o := .cells #[.slice Ao14 r0.length co15] 27 (0, 0)) BK20.out hb); have n4_ := Aside0.mk (Kd.R_below F31.out hb); have n5_ := Aside0.mk (Kd.S_below F39.out hb); have n6_ := Aside0.mk (blk_below (g := gb41) (o := .cells #[.slice Ao37 r0.length co38] 27 (0, 0)) BK43.out hb); clear HB F8 F16 BK20 F31 F39 BK43; have HB := n0_; have F8 := n1_; have F16 := n2_; have BK20 := n3_; have F31 := n4_; have F39 := n5_; have BK43 := n6_; clear n0_ n1_ n2_ n3_ n4_ n5_ n6_; (try clear hb); (try clear hz_gb18_0); have hz_gb18_0 : w49.cell? ⟨gb18, 0, none⟩ = some (.slice Ao14 r0.length co15) := (blk_cell BK20.out 0).trans rfl; (try clear hf_gb18_0); have hf_gb18_0 := blk_frozen BK20.out 0; (try clear hz_gb41_0); have hz_gb41_0 : w49.cell? ⟨gb41, 0, none⟩ = some (.slice Ao37 r0.length co38) := (blk_cell BK43.out 0).trans rfl; (try clear hf_gb41_0); have hf_gb41_0 := blk_frozen BK43.out 0) | ((with_reducible refine gate_dst (N := 44) rfl ?_); (try (refine gate_guard (by rfl) ?_; dsimp only)); refine goesL_ (some 44) rfl rfl Try.func21 (by kernel_rfl) rfl #[.slice A1 l1.length c1] rfl (by (try simp only [List.map_toArray, List.map_cons, List.map_nil]); first | done | rfl) ?_; (with_reducible refine (laws_toInt64S.calls k _ _ l1 l1 _ ?side1 ?side2 E_laws_toInt64S_3.out).mono ?_); (case side1 => exact Kd.C_below HR1.out HB.out); (case side2 => exact HC1.out); rintro e w52 ⟨v53, rfl, ho54, hb⟩; refine ⟨_, rfl, ?_⟩; obtain ⟨Ao55, co56, e_Ao55⟩ := Kd.R_slice ho54; subst e_Ao55; have F57 := Aside0.mk (R_ivl ho54 HB.out.size); have Z58 : Aside0 (w49.heap.size ≤ w52.heap.size) := Aside0.mk (hb.size); have n0_ := Aside0.mk (below_then HB.out HB.out.size hb); have n1_ := Aside0.mk (Kd.R_below F8.out hb); have n2_ := Aside0.mk (Kd.S_below F16.out hb); have n3_ := Aside0.mk (blk_below (g := gb18) (o := .cells #[.slice Ao14 r0.length co15] 27 (0, 0)) BK20.out hb); have n4_ := Aside0.mk (Kd.R_below F31.out hb); have n5_ := Aside0.mk (Kd.S_below F39.out hb); have n6_ := Aside0.mk (blk_below (g := gb41) (o := .cells #[.slice Ao37 r0.length co38] 27 (0, 0)) BK43.out hb); clear HB F8 F16 BK20 F31 F39 BK43; have HB := n0_; have F8 := n1_; have F16 := n2_; have BK20 := n3_; have F31 := n4_; have F39 := n5_; have BK43 := n6_; clear n0_ n1_ n2_ n3_ n4_ n5_ n6_; (try clear hb ho54); (try clear hz_gb18_0); have hz_gb18_0 : w52.cell? ⟨gb18, 0, none⟩ = some (.slice Ao14 r0.length co15) := (blk_cell BK20.out 0).trans rfl; (try clear hf_gb18_0); have hf_gb18_0 := blk_frozen BK20.out 0; (try clear hz_gb41_0); have hz_gb41_0 : w52.cell? ⟨gb41, 0, none⟩ = some (.slice Ao37 r0.length co38) := (blk_cell BK43.out 0).trans rfl; (try clear hf_gb41_0); have hf_gb41_0 := blk_frozen BK43.out 0) | ((with_reducible refine gate_dst (N := 45) rfl ?_); (try (refine gate_guard (by rfl) ?_; dsimp only)); refine goesL_ (some 45) rfl rfl Try.func23 (by kernel_rfl) rfl #[.slice Ao29 l1.length co30, .slice Ao55 l1.length co56] rfl (by (try simp only [List.map_toArray, List.map_cons, List.map_nil]); first | done | rfl) ?_; (with_reducible refine (calls_below (laws_eqInt64S.calls k _ _ l1 _ _ l1 true _ ?side1 ?side2 ?side3 ?side4 E_laws_eqInt64S_60.out)).mono ?_); (case side1 => exact (Kd.R_reads' F31.out).2.2); (case side2 => exact (Kd.R_reads' F31.out).2.1); (case side3 => exact (Kd.R_reads' F57.out).2.2); (case side4 => exact (Kd.R_reads' F57.out).2.1); rintro e w59 ⟨rfl, hb⟩; refine ⟨_, rfl, ?_⟩; have Z61 : Aside0 (w52.heap.size ≤ w59.heap.size) := Aside0.mk (hb.size); have n0_ := Aside0.mk (below_then HB.out HB.out.size hb); have n1_ := Aside0.mk (Kd.R_below F8.out hb); have n2_ := Aside0.mk (Kd.S_below F16.out hb); have n3_ := Aside0.mk (blk_below (g := gb18) (o := .cells #[.slice Ao14 r0.length co15] 27 (0, 0)) BK20.out hb); have n4_ := Aside0.mk (Kd.R_below F31.out hb); have n5_ := Aside0.mk (Kd.S_below F39.out hb); have n6_ := Aside0.mk (blk_below (g := gb41) (o := .cells #[.slice Ao37 r0.length co38] 27 (0, 0)) BK43.out hb); have n7_ := Aside0.mk (Kd.R_below F57.out hb); clear HB F8 F16 BK20 F31 F39 BK43 F57; have HB := n0_; have F8 := n1_; have F16 := n2_; have BK20 := n3_; have F31 := n4_; have F39 := n5_; have BK43 := n6_; have F57 := n7_; clear n0_ n1_ n2_ n3_ n4_ n5_ n6_ n7_; (try clear hb); (try clear hz_gb18_0); have hz_gb18_0 : w59.cell? ⟨gb18, 0, none⟩ = some (.slice Ao14 r0.length co15) := (blk_cell BK20.out 0).trans rfl; (try clear hf_gb18_0); have hf_gb18_0 := blk_frozen BK20.out 0; (try clear hz_gb41_0); have hz_gb41_0 : w59.cell? ⟨gb41, 0, none⟩ = some (.slice Ao37 r0.length co38) := (blk_cell BK43.out 0).trans rfl; (try clear hf_gb41_0); have hf_gb41_0 := blk_frozen BK43.out 0) | ((with_reducible refine gate_dst (N := 49) rfl ?_); (try (refine gate_guard (by rfl) ?_; dsimp only)); refine goesL_ (some 49) rfl rfl Try.func29 (by kernel_rfl) rfl #[.slice Ao29 l1.length co30, .int .i64 1] rfl (by (try simp only [List.map_toArray, List.map_cons, List.map_nil]); first | done | rfl) ?_; (with_reducible refine (laws_markInt64S.calls k (Ivl w24.heap.size w26.heap.size) _ l1 1 tm0 _ w _ HB.out F31.out E_laws_markInt64S_63.out).mono ?_); rintro e w62 ⟨rfl, hs, hB, hk⟩; refine ⟨_, rfl, ?_⟩; have Z64 : Aside0 (w59.heap.size ≤ w62.heap.size) := Aside0.mk (hk.1); have n0_ := Aside0.mk (hB); have n1_ := Aside0.mk (Kd.R_kept F8.out hk (fun k_ h1_ h2_ => by have z0_ := Z9.out; have z1_ := Z17.out; have z2_ := Z22.out; have z3_ := Z23.out; have z4_ := Z25.out; have z5_ := Z32.out; have z6_ := Z40.out; have z7_ := Z45.out; have z8_ := Z46.out; have z9_ := Z48.out; have z10_ := Z51.out; have z11_ := Z58.out; have z12_ := Z61.out; unfold Ivl at h1_ h2_; omega)); have n2_ := Aside0.mk (Kd.S_kept F16.out hk (fun k_ h1_ h2_ => by have z0_ := Z9.out; have z1_ := Z17.out; have z2_ := Z22.out; have z3_ := Z23.out; have z4_ := Z25.out; have z5_ := Z32.out; have z6_ := Z40.out; have z7_ := Z45.out; have z8_ := Z46.out; have z9_ := Z48.out; have z10_ := Z51.out; have z11_ := Z58.out; have z12_ := Z61.out; unfold Ivl at h1_ h2_; omega)); have n3_ := Aside0.mk (blk_kept BK20.out hk (fun h_ => by have z0_ := Z9.out; have z1_ := Z17.out; have z2_ := Z22.out; have z3_ := Z23.out; have z4_ := Z25.out; have z5_ := Z32.out; have z6_ := Z40.out; have z7_ := Z45.out; have z8_ := Z46.out; have z9_ := Z48.out; have z10_ := Z51.out; have z11_ := Z58.out; have z12_ := Z61.out; have g_ := GP21.out; unfold Ivl at h_; omega)); have n4_ := Aside0.mk (Kd.S_kept F39.out hk (fun k_ h1_ h2_ => by have z0_ := Z9.out; have z1_ := Z17.out; have z2_ := Z22.out; have z3_ := Z23.out; have z4_ := Z25.out; have z5_ := Z32.out; have z6_ := Z40.out; have z7_ := Z45.out; have z8_ := Z46.out; have z9_ := Z48.out; have z10_ := Z51.out; have z11_ := Z58.out; have z12_ := Z61.out; unfold Ivl at h1_ h2_; omega)); have n5_ := Aside0.mk (blk_kept BK43.out hk (fun h_ => by have z0_ := Z9.out; have z1_ := Z17.out; have z2_ := Z22.out; have z3_ := Z23.out; have z4_ := Z25.out; have z5_ := Z32.out; have z6_ := Z40.out; have z7_ := Z45.out; have z8_ := Z46.out; have z9_ := Z48.out; have z10_ := Z51.out; have z11_ := Z58.out; have z12_ := Z61.out; have g_ := GP44.out; unfold Ivl at h_; omega)); have n6_ := Aside0.mk (Kd.R_kept F57.out hk (fun k_ h1_ h2_ => by have z0_ := Z9.out; have z1_ := Z17.out; have z2_ := Z22.out; have z3_ := Z23.out; have z4_ := Z25.out; have z5_ := Z32.out; have z6_ := Z40.out; have z7_ := Z45.out; have z8_ := Z46.out; have z9_ := Z48.out; have z10_ := Z51.out; have z11_ := Z58.out; have z12_ := Z61.out; unfold Ivl at h1_ h2_; omega)); have n7_ := Aside0.mk (Kd.R_reok rfl hs (fun k_ e_ => F31.out.1 k_ e_)); clear HB F8 F16 BK20 F39 BK43 F57 F31; have HB := n0_; have F8 := n1_; have F16 := n2_; have BK20 := n3_; have F39 := n4_; have BK43 := n5_; have F57 := n6_; have F31 := n7_; clear n0_ n1_ n2_ n3_ n4_ n5_ n6_ n7_; (try clear hs hB hk); (try clear hz_gb18_0); have hz_gb18_0 : w62.cell? ⟨gb18, 0, none⟩ = some (.slice Ao14 r0.length co15) := (blk_cell BK20.out 0).trans rfl; (try clear hf_gb18_0); have hf_gb18_0 := blk_frozen BK20.out 0; (try clear hz_gb41_0); have hz_gb41_0 : w62.cell? ⟨gb41, 0, none⟩ = some (.slice Ao37 r0.length co38) := (blk_cell BK43.out 0).trans rfl; (try clear hf_gb41_0); have hf_gb41_0 := blk_frozen BK43.out 0) | ((with_reducible refine gate_dst (N := 55) rfl ?_); (try (refine gate_guard (by rfl) ?_; dsimp only)); refine goesL_ (some 55) rfl rfl Try.func19 (by kernel_rfl) rfl #[.agg #[.slice Ao37 r0.length co38], .agg #[.slice Ao14 r0.length co15]] rfl (by (try simp only [List.map_toArray, List.map_cons, List.map_nil]); first | done | rfl) ?_; (with_reducible refine (laws_eqGame.calls k _ _ r0 _ _ r0 true _ ?side1 ?side2 ?side3 ?side4 E_laws_eqGame_50.out).mono ?_); (case side1 => exact (Kd.S_reads' F39.out).2.2); (case side2 => exact (Kd.S_reads' F39.out).2.1); (case side3 => exact (Kd.S_reads' F16.out).2.2); (case side4 => exact (Kd.S_reads' F16.out).2.1); rintro e w65 ⟨rfl, hb⟩; refine ⟨_, rfl, ?_⟩; have Z66 : Aside0 (w62.heap.size ≤ w65.heap.size) := Aside0.mk (hb.size); have n0_ := Aside0.mk (below_then HB.out HB.out.size hb); have n1_ := Aside0.mk (Kd.R_below F8.out hb); have n2_ := Aside0.mk (Kd.S_below F16.out hb); have n3_ := Aside0.mk (blk_below (g := gb18) (o := .cells #[.slice Ao14 r0.length co15] 27 (0, 0)) BK20.out hb); have n4_ := Aside0.mk (Kd.R_below F31.out hb); have n5_ := Aside0.mk (Kd.S_below F39.out hb); have n6_ := Aside0.mk (blk_below (g := gb41) (o := .cells #[.slice Ao37 r0.length co38] 27 (0, 0)) BK43.out hb); have n7_ := Aside0.mk (Kd.R_below F57.out hb); clear HB F8 F16 BK20 F31 F39 BK43 F57; have HB := n0_; have F8 := n1_; have F16 := n2_; have BK20 := n3_; have F31 := n4_; have F39 := n5_; have BK43 := n6_; have F57 := n7_; clear n0_ n1_ n2_ n3_ n4_ n5_ n6_ n7_; (try clear hb); (try clear hz_gb18_0); have hz_gb18_0 : w65.cell? ⟨gb18, 0, none⟩ = some (.slice Ao14 r0.length co15) := (blk_cell BK20.out 0).trans rfl; (try clear hf_gb18_0); have hf_gb18_0 := blk_frozen BK20.out 0; (try clear hz_gb41_0); have hz_gb41_0 : w65.cell? ⟨gb41, 0, none⟩ = some (.slice Ao37 r0.length co38) := (blk_cell BK43.out 0).trans rfl; (try clear hf_gb41_0); have hf_gb41_0 := blk_frozen BK43.out 0) | ((with_reducible refine gate_dst (N := 65) rfl ?_); (try (refine gate_guard (by rfl) ?_; dsimp only)); refine goesL_ (some 65) rfl rfl Try.func28 (by kernel_rfl) rfl #[.agg #[.slice Ao37 r0.length co38], .int .i64 1] rfl (by (try simp only [List.map_toArray, List.map_cons, List.map_nil]); first | done | rfl) ?_; (with_reducible refine (laws_markGame.calls (Ivl w26.heap.size w33.heap.size) _ _ _ r0 1 w _ HB.out F39.out (by decide) HM1_F39.out HM2_F39.out).mono ?_); rintro e w67 ⟨rfl, hs, hB, hk⟩; refine ⟨_, rfl, ?_⟩; rw [tm1_eq.out]; have Z68 : Aside0 (w65.heap.size ≤ w67.heap.size) := Aside0.mk (hk.1); have n0_ := Aside0.mk (hB); have n1_ := Aside0.mk (Kd.R_kept F8.out hk (fun k_ h1_ h2_ => by have z0_ := Z9.out; have z1_ := Z17.out; have z2_ := Z22.out; have z3_ := Z23.out; have z4_ := Z25.out; have z5_ := Z32.out; have z6_ := Z40.out; have z7_ := Z45.out; have z8_ := Z46.out; have z9_ := Z48.out; have z10_ := Z51.out; have z11_ := Z58.out; have z12_ := Z61.out; have z13_ := Z64.out; have z14_ := Z66.out; unfold Ivl at h1_ h2_; omega)); have n2_ := Aside0.mk (Kd.S_kept F16.out hk (fun k_ h1_ h2_ => by have z0_ := Z9.out; have z1_ := Z17.out; have z2_ := Z22.out; have z3_ := Z23.out; have z4_ := Z25.out; have z5_ := Z32.out; have z6_ := Z40.out; have z7_ := Z45.out; have z8_ := Z46.out; have z9_ := Z48.out; have z10_ := Z51.out; have z11_ := Z58.out; have z12_ := Z61.out; have z13_ := Z64.out; have z14_ := Z66.out; unfold Ivl at h1_ h2_; omega)); have n3_ := Aside0.mk (blk_kept BK20.out hk (fun h_ => by have z0_ := Z9.out; have z1_ := Z17.out; have z2_ := Z22.out; have z3_ := Z23.out; have z4_ := Z25.out; have z5_ := Z32.out; have z6_ := Z40.out; have z7_ := Z45.out; have z8_ := Z46.out; have z9_ := Z48.out; have z10_ := Z51.out; have z11_ := Z58.out; have z12_ := Z61.out; have z13_ := Z64.out; have z14_ := Z66.out; have g_ := GP21.out; unfold Ivl at h_; omega)); have n4_ := Aside0.mk (Kd.R_kept F31.out hk (fun k_ h1_ h2_ => by have z0_ := Z9.out; have z1_ := Z17.out; have z2_ := Z22.out; have z3_ := Z23.out; have z4_ := Z25.out; have z5_ := Z32.out; have z6_ := Z40.out; have z7_ := Z45.out; have z8_ := Z46.out; have z9_ := Z48.out; have z10_ := Z51.out; have z11_ := Z58.out; have z12_ := Z61.out; have z13_ := Z64.out; have z14_ := Z66.out; unfold Ivl at h1_ h2_; omega)); have n5_ := Aside0.mk (blk_kept BK43.out hk (fun h_ => by have z0_ := Z9.out; have z1_ := Z17.out; have z2_ := Z22.out; have z3_ := Z23.out; have z4_ := Z25.out; have z5_ := Z32.out; have z6_ := Z40.out; have z7_ := Z45.out; have z8_ := Z46.out; have z9_ := Z48.out; have z10_ := Z51.out; have z11_ := Z58.out; have z12_ := Z61.out; have z13_ := Z64.out; have z14_ := Z66.out; have g_ := GP44.out; unfold Ivl at h_; omega)); have n6_ := Aside0.mk (Kd.R_kept F57.out hk (fun k_ h1_ h2_ => by have z0_ := Z9.out; have z1_ := Z17.out; have z2_ := Z22.out; have z3_ := Z23.out; have z4_ := Z25.out; have z5_ := Z32.out; have z6_ := Z40.out; have z7_ := Z45.out; have z8_ := Z46.out; have z9_ := Z48.out; have z10_ := Z51.out; have z11_ := Z58.out; have z12_ := Z61.out; have z13_ := Z64.out; have z14_ := Z66.out; unfold Ivl at h1_ h2_; omega)); have n7_ := Aside0.mk (hs); clear HB F8 F16 BK20 F31 BK43 F57 F39; have HB := n0_; have F8 := n1_; have F16 := n2_; have BK20 := n3_; have F31 := n4_; have BK43 := n5_; have F57 := n6_; have F39 := n7_; clear n0_ n1_ n2_ n3_ n4_ n5_ n6_ n7_; (try clear hs hB hk); (try clear hz_gb18_0); have hz_gb18_0 : w67.cell? ⟨gb18, 0, none⟩ = some (.slice Ao14 r0.length co15) := (blk_cell BK20.out 0).trans rfl; (try clear hf_gb18_0); have hf_gb18_0 := blk_frozen BK20.out 0; (try clear hz_gb41_0); have hz_gb41_0 : w67.cell? ⟨gb41, 0, none⟩ = some (.slice Ao37 r0.length co38) := (blk_cell BK43.out 0).trans rfl; (try clear hf_gb41_0); have hf_gb41_0 := blk_frozen BK43.out 0) | ((with_reducible refine gate_dst (N := 68) rfl ?_); (try (refine gate_guard (by rfl) ?_; dsimp only)); refine goesL_ (some 68) rfl rfl Try.func50 (by kernel_rfl) rfl #[.agg #[.slice Ao37 (markL 1 r0).length co38], .int .i64 1] rfl (by (try simp only [List.map_toArray, List.map_cons, List.map_nil]); first | done | (rw [show (markL 1 r0).length = r0.length from markL_length _ _] <;> rfl) | rfl) ?_; (with_reducible refine (laws_heldGame.calls k _ _ (markL 1 r0) 1 tm1 _ ?side1 ?side2 E_laws_heldGame_70.out).mono ?_); (case side1 => first | (exact (Kd.S_reads' F39.out).2.2) | (rw [show (markL 1 r0).length = r0.length from markL_length _ _]; exact (Kd.S_reads' F39.out).2.2)); (case side2 => first | (exact (Kd.S_reads' F39.out).2.1) | (rw [show (markL 1 r0).length = r0.length from markL_length _ _]; exact (Kd.S_reads' F39.out).2.1)); rintro e w69 ⟨rfl, hb⟩; refine ⟨_, rfl, ?_⟩; have Z71 : Aside0 (w67.heap.size ≤ w69.heap.size) := Aside0.mk (hb.size); have n0_ := Aside0.mk (below_then HB.out HB.out.size hb); have n1_ := Aside0.mk (Kd.R_below F8.out hb); have n2_ := Aside0.mk (Kd.S_below F16.out hb); have n3_ := Aside0.mk (blk_below (g := gb18) (o := .cells #[.slice Ao14 r0.length co15] 27 (0, 0)) BK20.out hb); have n4_ := Aside0.mk (Kd.R_below F31.out hb); have n5_ := Aside0.mk (Kd.S_below F39.out hb); have n6_ := Aside0.mk (blk_below (g := gb41) (o := .cells #[.slice Ao37 r0.length co38] 27 (0, 0)) BK43.out hb); have n7_ := Aside0.mk (Kd.R_below F57.out hb); clear HB F8 F16 BK20 F31 F39 BK43 F57; have HB := n0_; have F8 := n1_; have F16 := n2_; have BK20 := n3_; have F31 := n4_; have F39 := n5_; have BK43 := n6_; have F57 := n7_; clear n0_ n1_ n2_ n3_ n4_ n5_ n6_ n7_; (try clear hb); (try clear hz_gb18_0); have hz_gb18_0 : w69.cell? ⟨gb18, 0, none⟩ = some (.slice Ao14 r0.length co15) := (blk_cell BK20.out 0).trans rfl; (try clear hf_gb18_0); have hf_gb18_0 := blk_frozen BK20.out 0; (try clear hz_gb41_0); have hz_gb41_0 : w69.cell? ⟨gb41, 0, none⟩ = some (.slice Ao37 r0.length co38) := (blk_cell BK43.out 0).trans rfl; (try clear hf_gb41_0); have hf_gb41_0 := blk_frozen BK43.out 0) | ((with_reducible refine gate_dst (N := 77) rfl ?_); (try (refine gate_guard (by rfl) ?_; dsimp only)); refine goesL_ (some 77) rfl rfl Try.func21 (by kernel_rfl) rfl #[.slice A1 l1.length c1] rfl (by (try simp only [List.map_toArray, List.map_cons, List.map_nil]); first | done | rfl) ?_; (with_reducible refine (laws_toInt64S.calls k _ _ l1 l1 _ ?side1 ?side2 E_laws_toInt64S_3.out).mono ?_); (case side1 => exact Kd.C_below HR1.out HB.out); (case side2 => exact HC1.out); rintro e w72 ⟨v73, rfl, ho74, hb⟩; refine ⟨_, rfl, ?_⟩; obtain ⟨Ao75, co76, e_Ao75⟩ := Kd.R_slice ho74; subst e_Ao75; have F77 := Aside0.mk (R_ivl ho74 HB.out.size); have Z78 : Aside0 (w69.heap.size ≤ w72.heap.size) := Aside0.mk (hb.size); have n0_ := Aside0.mk (below_then HB.out HB.out.size hb); have n1_ := Aside0.mk (Kd.R_below F8.out hb); have n2_ := Aside0.mk (Kd.S_below F16.out hb); have n3_ := Aside0.mk (blk_below (g := gb18) (o := .cells #[.slice Ao14 r0.length co15] 27 (0, 0)) BK20.out hb); have n4_ := Aside0.mk (Kd.R_below F31.out hb); have n5_ := Aside0.mk (Kd.S_below F39.out hb); have n6_ := Aside0.mk (blk_below (g := gb41) (o := .cells #[.slice Ao37 r0.length co38] 27 (0, 0)) BK43.out hb); have n7_ := Aside0.mk (Kd.R_below F57.out hb); clear HB F8 F16 BK20 F31 F39 BK43 F57; have HB := n0_; have F8 := n1_; have F16 := n2_; have BK20 := n3_; have F31 := n4_; have F39 := n5_; have BK43 := n6_; have F57 := n7_; clear n0_ n1_ n2_ n3_ n4_ n5_ n6_ n7_; (try clear hb ho74); (try clear hz_gb18_0); have hz_gb18_0 : w72.cell? ⟨gb18, 0, none⟩ = some (.slice Ao14 r0.length co15) := (blk_cell BK20.out 0).trans rfl; (try clear hf_gb18_0); have hf_gb18_0 := blk_frozen BK20.out 0; (try clear hz_gb41_0); have hz_gb41_0 : w72.cell? ⟨gb41, 0, none⟩ = some (.slice Ao37 r0.length co38) := (blk_cell BK43.out 0).trans rfl; (try clear hf_gb41_0); have hf_gb41_0 := blk_frozen BK43.out 0) | ((with_reducible refine gate_dst (N := 78) rfl ?_); (try (refine gate_guard (by rfl) ?_; dsimp only)); refine goesL_ (some 78) rfl rfl Try.func49 (by kernel_rfl) rfl #[.int .i64 a0, .slice Ao75 l1.length co76] rfl (by (try simp only [List.map_toArray, List.map_cons, List.map_nil]); first | done | rfl) ?_; (with_reducible refine (impl_HeapGame.calls k a0 _ _ l1 r0 r1 _ ?side1 ?side2 E_impl_HeapGame_34.out).mono ?_); (case side1 => exact (Kd.R_reads' F77.out).2.2); (case side2 => exact (Kd.R_reads' F77.out).2.1); rintro e w79 ⟨v80, rfl, ho81, hb⟩; refine ⟨_, rfl, ?_⟩; obtain ⟨Ao82, co83, e_Ao82⟩ := Kd.S_slice ho81; subst e_Ao82; have F84 := Aside0.mk (S_ivl ho81 HB.out.size); have Z85 : Aside0 (w72.heap.size ≤ w79.heap.size) := Aside0.mk (hb.size); have n0_ := Aside0.mk (below_then HB.out HB.out.size hb); have n1_ := Aside0.mk (Kd.R_below F8.out hb); have n2_ := Aside0.mk (Kd.S_below F16.out hb); have n3_ := Aside0.mk (blk_below (g := gb18) (o := .cells #[.slice Ao14 r0.length co15] 27 (0, 0)) BK20.out hb); have n4_ := Aside0.mk (Kd.R_below F31.out hb); have n5_ := Aside0.mk (Kd.S_below F39.out hb); have n6_ := Aside0.mk (blk_below (g := gb41) (o := .cells #[.slice Ao37 r0.length co38] 27 (0, 0)) BK43.out hb); have n7_ := Aside0.mk (Kd.R_below F57.out hb); have n8_ := Aside0.mk (Kd.R_below F77.out hb); clear HB F8 F16 BK20 F31 F39 BK43 F57 F77; have HB := n0_; have F8 := n1_; have F16 := n2_; have BK20 := n3_; have F31 := n4_; have F39 := n5_; have BK43 := n6_; have F57 := n7_; have F77 := n8_; clear n0_ n1_ n2_ n3_ n4_ n5_ n6_ n7_ n8_; (try clear hb ho81); (try clear hz_gb18_0); have hz_gb18_0 : w79.cell? ⟨gb18, 0, none⟩ = some (.slice Ao14 r0.length co15) := (blk_cell BK20.out 0).trans rfl; (try clear hf_gb18_0); have hf_gb18_0 := blk_frozen BK20.out 0; (try clear hz_gb41_0); have hz_gb41_0 : w79.cell? ⟨gb41, 0, none⟩ = some (.slice Ao37 r0.length co38) := (blk_cell BK43.out 0).trans rfl; (try clear hf_gb41_0); have hf_gb41_0 := blk_frozen BK43.out 0) | ((with_reducible refine gate_dst (N := 13) rfl ?_); (try (refine gate_guard (by rfl) ?_; dsimp only)); refine box_event ?hg (N := 13) ?hd (cs := #[.slice none 0 0]) (t := 27) ?hr ?_; (case hd => rfl); (case hg => rfl); (case hr => first | (go_simp; done) | (go_simp; rfl)); intro gb86 hg w87 hbox hb; have Z90 : Aside0 (w79.heap.size ≤ w87.heap.size) := Aside0.mk (hb.size); have BK88 := Aside0.mk hbox; have GP89 := Aside0.mk hg; have Z91 : Aside0 (gb86 < w87.heap.size) := Aside0.mk (blk_lt hbox); have n0_ := Aside0.mk (below_then HB.out HB.out.size hb); have n1_ := Aside0.mk (Kd.R_below F8.out hb); have n2_ := Aside0.mk (Kd.S_below F16.out hb); have n3_ := Aside0.mk (blk_below (g := gb18) (o := .cells #[.slice Ao14 r0.length co15] 27 (0, 0)) BK20.out hb); have n4_ := Aside0.mk (Kd.R_below F31.out hb); have n5_ := Aside0.mk (Kd.S_below F39.out hb); have n6_ := Aside0.mk (blk_below (g := gb41) (o := .cells #[.slice Ao37 r0.length co38] 27 (0, 0)) BK43.out hb); have n7_ := Aside0.mk (Kd.R_below F57.out hb); have n8_ := Aside0.mk (Kd.R_below F77.out hb); have n9_ := Aside0.mk (Kd.S_below F84.out hb); clear HB F8 F16 BK20 F31 F39 BK43 F57 F77 F84; have HB := n0_; have F8 := n1_; have F16 := n2_; have BK20 := n3_; have F31 := n4_; have F39 := n5_; have BK43 := n6_; have F57 := n7_; have F77 := n8_; have F84 := n9_; clear n0_ n1_ n2_ n3_ n4_ n5_ n6_ n7_ n8_ n9_; clear hb hbox hg; (try clear hz_gb18_0); have hz_gb18_0 : w87.cell? ⟨gb18, 0, none⟩ = some (.slice Ao14 r0.length co15) := (blk_cell BK20.out 0).trans rfl; (try clear hf_gb18_0); have hf_gb18_0 := blk_frozen BK20.out 0; (try clear hz_gb41_0); have hz_gb41_0 : w87.cell? ⟨gb41, 0, none⟩ = some (.slice Ao37 r0.length co38) := (blk_cell BK43.out 0).trans rfl; (try clear hf_gb41_0); have hf_gb41_0 := blk_frozen BK43.out 0; (try clear hz_gb86_0); have hz_gb86_0 : w87.cell? ⟨gb86, 0, none⟩ = some (.slice none 0 0) := (blk_cell BK88.out 0).trans rfl; (try clear hf_gb86_0); have hf_gb86_0 := blk_frozen BK88.out 0) | ((with_reducible refine gate_store (t := 27) (p := 13) rfl ?_); (try (refine gate_guard (by rfl) ?_; dsimp only)); refine store_event (t := 27) (p := 13) (v := ?vo_w92) (w1 := (w87.setCell ⟨gb86, 0, none⟩ (.slice Ao82 r0.length co83))) ?hg ?ho ?hn ?hr ?_; (case ho => rfl); (case hg => rfl); (case hn => rfl); (case hr => first | (go_simp; done) | (go_simp; rfl)); intro w92 hw; have Z93 : Aside0 (w87.heap.size ≤ w92.heap.size) := Aside0.mk (by rw [hw]; simp [World.setCell]); have n0_ := Aside0.mk ((by rw [hw]; exact below_set (HB.out) (by have z0_ := Z9.out; have z1_ := Z17.out; have z2_ := Z22.out; have z3_ := Z23.out; have z4_ := Z25.out; have z5_ := Z32.out; have z6_ := Z40.out; have z7_ := Z45.out; have z8_ := Z46.out; have z9_ := Z48.out; have z10_ := Z51.out; have z11_ := Z58.out; have z12_ := Z61.out; have z13_ := Z64.out; have z14_ := Z66.out; have z15_ := Z68.out; have z16_ := Z71.out; have z17_ := Z78.out; have z18_ := Z85.out; have z19_ := Z90.out; have z20_ := Z91.out; have g_ := GP89.out; have hb_ := HB.out.size; omega) : Below w.heap.size w w92)); have n1_ := Aside0.mk (hw.symm ▸ (Kd.R_far (p := ⟨gb86, 0, none⟩) (F8.out) (fun k_ h_ => by have z0_ := Z9.out; have z1_ := Z17.out; have z2_ := Z22.out; have z3_ := Z23.out; have z4_ := Z25.out; have z5_ := Z32.out; have z6_ := Z40.out; have z7_ := Z45.out; have z8_ := Z46.out; have z9_ := Z48.out; have z10_ := Z51.out; have z11_ := Z58.out; have z12_ := Z61.out; have z13_ := Z64.out; have z14_ := Z66.out; have z15_ := Z68.out; have z16_ := Z71.out; have z17_ := Z78.out; have z18_ := Z85.out; have z19_ := Z90.out; have z20_ := Z91.out; have g_ := GP89.out; unfold Ivl at h_; show k_ ≠ gb86; omega) _)); have n2_ := Aside0.mk (hw.symm ▸ (Kd.S_far (p := ⟨gb86, 0, none⟩) (F16.out) (fun k_ h_ => by have z0_ := Z9.out; have z1_ := Z17.out; have z2_ := Z22.out; have z3_ := Z23.out; have z4_ := Z25.out; have z5_ := Z32.out; have z6_ := Z40.out; have z7_ := Z45.out; have z8_ := Z46.out; have z9_ := Z48.out; have z10_ := Z51.out; have z11_ := Z58.out; have z12_ := Z61.out; have z13_ := Z64.out; have z14_ := Z66.out; have z15_ := Z68.out; have z16_ := Z71.out; have z17_ := Z78.out; have z18_ := Z85.out; have z19_ := Z90.out; have z20_ := Z91.out; have g_ := GP89.out; unfold Ivl at h_; show k_ ≠ gb86; omega) _)); have n3_ := Aside0.mk ((by rw [hw]; exact blk_far (BK20.out) (by have z0_ := Z9.out; have z1_ := Z17.out; have z2_ := Z22.out; have z3_ := Z23.out; have z4_ := Z25.out; have z5_ := Z32.out; have z6_ := Z40.out; have z7_ := Z45.out; have z8_ := Z46.out; have z9_ := Z48.out; have z10_ := Z51.out; have z11_ := Z58.out; have z12_ := Z61.out; have z13_ := Z64.out; have z14_ := Z66.out; have z15_ := Z68.out; have z16_ := Z71.out; have z17_ := Z78.out; have z18_ := Z85.out; have z19_ := Z90.out; have z20_ := Z91.out; have g1_ := GP21.out; have g2_ := GP89.out; show gb18 ≠ gb86; omega) _ : w92.heap[gb18]? = some (.cells #[.slice Ao14 r0.length co15] 27 (0, 0)))); have n4_ := Aside0.mk (hw.symm ▸ (Kd.R_far (p := ⟨gb86, 0, none⟩) (F31.out) (fun k_ h_ => by have z0_ := Z9.out; have z1_ := Z17.out; have z2_ := Z22.out; have z3_ := Z23.out; have z4_ := Z25.out; have z5_ := Z32.out; have z6_ := Z40.out; have z7_ := Z45.out; have z8_ := Z46.out; have z9_ := Z48.out; have z10_ := Z51.out; have z11_ := Z58.out; have z12_ := Z61.out; have z13_ := Z64.out; have z14_ := Z66.out; have z15_ := Z68.out; have z16_ := Z71.out; have z17_ := Z78.out; have z18_ := Z85.out; have z19_ := Z90.out; have z20_ := Z91.out; have g_ := GP89.out; unfold Ivl at h_; show k_ ≠ gb86; omega) _)); have n5_ := Aside0.mk (hw.symm ▸ (Kd.S_far (p := ⟨gb86, 0, none⟩) (F39.out) (fun k_ h_ => by have z0_ := Z9.out; have z1_ := Z17.out; have z2_ := Z22.out; have z3_ := Z23.out; have z4_ := Z25.out; have z5_ := Z32.out; have z6_ := Z40.out; have z7_ := Z45.out; have z8_ := Z46.out; have z9_ := Z48.out; have z10_ := Z51.out; have z11_ := Z58.out; have z12_ := Z61.out; have z13_ := Z64.out; have z14_ := Z66.out; have z15_ := Z68.out; have z16_ := Z71.out; have z17_ := Z78.out; have z18_ := Z85.out; have z19_ := Z90.out; have z20_ := Z91.out; have g_ := GP89.out; unfold Ivl at h_; show k_ ≠ gb86; omega) _)); have n6_ := Aside0.mk ((by rw [hw]; exact blk_far (BK43.out) (by have z0_ := Z9.out; have z1_ := Z17.out; have z2_ := Z22.out; have z3_ := Z23.out; have z4_ := Z25.out; have z5_ := Z32.out; have z6_ := Z40.out; have z7_ := Z45.out; have z8_ := Z46.out; have z9_ := Z48.out; have z10_ := Z51.out; have z11_ := Z58.out; have z12_ := Z61.out; have z13_ := Z64.out; have z14_ := Z66.out; have z15_ := Z68.out; have z16_ := Z71.out; have z17_ := Z78.out; have z18_ := Z85.out; have z19_ := Z90.out; have z20_ := Z91.out; have g1_ := GP44.out; have g2_ := GP89.out; show gb41 ≠ gb86; omega) _ : w92.heap[gb41]? = some (.cells #[.slice Ao37 r0.length co38] 27 (0, 0)))); have n7_ := Aside0.mk (hw.symm ▸ (Kd.R_far (p := ⟨gb86, 0, none⟩) (F57.out) (fun k_ h_ => by have z0_ := Z9.out; have z1_ := Z17.out; have z2_ := Z22.out; have z3_ := Z23.out; have z4_ := Z25.out; have z5_ := Z32.out; have z6_ := Z40.out; have z7_ := Z45.out; have z8_ := Z46.out; have z9_ := Z48.out; have z10_ := Z51.out; have z11_ := Z58.out; have z12_ := Z61.out; have z13_ := Z64.out; have z14_ := Z66.out; have z15_ := Z68.out; have z16_ := Z71.out; have z17_ := Z78.out; have z18_ := Z85.out; have z19_ := Z90.out; have z20_ := Z91.out; have g_ := GP89.out; unfold Ivl at h_; show k_ ≠ gb86; omega) _)); have n8_ := Aside0.mk (hw.symm ▸ (Kd.R_far (p := ⟨gb86, 0, none⟩) (F77.out) (fun k_ h_ => by have z0_ := Z9.out; have z1_ := Z17.out; have z2_ := Z22.out; have z3_ := Z23.out; have z4_ := Z25.out; have z5_ := Z32.out; have z6_ := Z40.out; have z7_ := Z45.out; have z8_ := Z46.out; have z9_ := Z48.out; have z10_ := Z51.out; have z11_ := Z58.out; have z12_ := Z61.out; have z13_ := Z64.out; have z14_ := Z66.out; have z15_ := Z68.out; have z16_ := Z71.out; have z17_ := Z78.out; have z18_ := Z85.out; have z19_ := Z90.out; have z20_ := Z91.out; have g_ := GP89.out; unfold Ivl at h_; show k_ ≠ gb86; omega) _)); have n9_ := Aside0.mk (hw.symm ▸ (Kd.S_far (p := ⟨gb86, 0, none⟩) (F84.out) (fun k_ h_ => by have z0_ := Z9.out; have z1_ := Z17.out; have z2_ := Z22.out; have z3_ := Z23.out; have z4_ := Z25.out; have z5_ := Z32.out; have z6_ := Z40.out; have z7_ := Z45.out; have z8_ := Z46.out; have z9_ := Z48.out; have z10_ := Z51.out; have z11_ := Z58.out; have z12_ := Z61.out; have z13_ := Z64.out; have z14_ := Z66.out; have z15_ := Z68.out; have z16_ := Z71.out; have z17_ := Z78.out; have z18_ := Z85.out; have z19_ := Z90.out; have z20_ := Z91.out; have g_ := GP89.out; unfold Ivl at h_; show k_ ≠ gb86; omega) _)); have n10_ := Aside0.mk ((by rw [hw]; exact blk_put (cs := #[.slice none 0 0]) (BK88.out) 0 _ rfl : w92.heap[gb86]? = some (.cells #[.slice Ao82 r0.length co83] 27 (0, 0)))); clear HB F8 F16 BK20 F31 F39 BK43 F57 F77 F84 BK88; have HB := n0_; have F8 := n1_; have F16 := n2_; have BK20 := n3_; have F31 := n4_; have F39 := n5_; have BK43 := n6_; have F57 := n7_; have F77 := n8_; have F84 := n9_; have BK88 := n10_; clear n0_ n1_ n2_ n3_ n4_ n5_ n6_ n7_ n8_ n9_ n10_; clear hw; (try clear hz_gb18_0); have hz_gb18_0 : w92.cell? ⟨gb18, 0, none⟩ = some (.slice Ao14 r0.length co15) := (blk_cell BK20.out 0).trans rfl; (try clear hf_gb18_0); have hf_gb18_0 := blk_frozen BK20.out 0; (try clear hz_gb41_0); have hz_gb41_0 : w92.cell? ⟨gb41, 0, none⟩ = some (.slice Ao37 r0.length co38) := (blk_cell BK43.out 0).trans rfl; (try clear hf_gb41_0); have hf_gb41_0 := blk_frozen BK43.out 0; (try clear hz_gb86_0); have hz_gb86_0 : w92.cell? ⟨gb86, 0, none⟩ = some (.slice Ao82 r0.length co83) := (blk_cell BK88.out 0).trans rfl; (try clear hf_gb86_0); have hf_gb86_0 := blk_frozen BK88.out 0) | ((with_reducible refine gate_dst (N := 83) rfl ?_); (try (refine gate_guard (by rfl) ?_; dsimp only)); refine goesL_ (some 83) rfl rfl Try.func19 (by kernel_rfl) rfl #[.agg #[.slice Ao82 r0.length co83], .agg #[.slice Ao14 r0.length co15]] rfl (by (try simp only [List.map_toArray, List.map_cons, List.map_nil]); first | done | rfl) ?_; (with_reducible refine (laws_eqGame.calls k _ _ r0 _ _ r0 true _ ?side1 ?side2 ?side3 ?side4 E_laws_eqGame_50.out).mono ?_); (case side1 => exact (Kd.S_reads' F84.out).2.2); (case side2 => exact (Kd.S_reads' F84.out).2.1); (case side3 => exact (Kd.S_reads' F16.out).2.2); (case side4 => exact (Kd.S_reads' F16.out).2.1); rintro e w94 ⟨rfl, hb⟩; refine ⟨_, rfl, ?_⟩; have Z95 : Aside0 (w92.heap.size ≤ w94.heap.size) := Aside0.mk (hb.size); have n0_ := Aside0.mk (below_then HB.out HB.out.size hb); have n1_ := Aside0.mk (Kd.R_below F8.out hb); have n2_ := Aside0.mk (Kd.S_below F16.out hb); have n3_ := Aside0.mk (blk_below (g := gb18) (o := .cells #[.slice Ao14 r0.length co15] 27 (0, 0)) BK20.out hb); have n4_ := Aside0.mk (Kd.R_below F31.out hb); have n5_ := Aside0.mk (Kd.S_below F39.out hb); have n6_ := Aside0.mk (blk_below (g := gb41) (o := .cells #[.slice Ao37 r0.length co38] 27 (0, 0)) BK43.out hb); have n7_ := Aside0.mk (Kd.R_below F57.out hb); have n8_ := Aside0.mk (Kd.R_below F77.out hb); have n9_ := Aside0.mk (Kd.S_below F84.out hb); have n10_ := Aside0.mk (blk_below (g := gb86) (o := .cells #[.slice Ao82 r0.length co83] 27 (0, 0)) BK88.out hb); clear HB F8 F16 BK20 F31 F39 BK43 F57 F77 F84 BK88; have HB := n0_; have F8 := n1_; have F16 := n2_; have BK20 := n3_; have F31 := n4_; have F39 := n5_; have BK43 := n6_; have F57 := n7_; have F77 := n8_; have F84 := n9_; have BK88 := n10_; clear n0_ n1_ n2_ n3_ n4_ n5_ n6_ n7_ n8_ n9_ n10_; (try clear hb); (try clear hz_gb18_0); have hz_gb18_0 : w94.cell? ⟨gb18, 0, none⟩ = some (.slice Ao14 r0.length co15) := (blk_cell BK20.out 0).trans rfl; (try clear hf_gb18_0); have hf_gb18_0 := blk_frozen BK20.out 0; (try clear hz_gb41_0); have hz_gb41_0 : w94.cell? ⟨gb41, 0, none⟩ = some (.slice Ao37 r0.length co38) := (blk_cell BK43.out 0).trans rfl; (try clear hf_gb41_0); have hf_gb41_0 := blk_frozen BK43.out 0; (try clear hz_gb86_0); have hz_gb86_0 : w94.cell? ⟨gb86, 0, none⟩ = some (.slice Ao82 r0.length co83) := (blk_cell BK88.out 0).trans rfl; (try clear hf_gb86_0); have hf_gb86_0 := blk_frozen BK88.out 0) | ((with_reducible refine gate_dst (N := 92) rfl ?_); (try (refine gate_guard (by rfl) ?_; dsimp only)); refine goesL_ (some 92) rfl rfl Try.func50 (by kernel_rfl) rfl #[.agg #[.slice Ao37 (markL 1 r0).length co38], .int .i64 1] rfl (by (try simp only [List.map_toArray, List.map_cons, List.map_nil]); first | done | (rw [show (markL 1 r0).length = r0.length from markL_length _ _] <;> rfl) | rfl) ?_; (with_reducible refine (laws_heldGame.calls k _ _ (markL 1 r0) 1 tm1 _ ?side1 ?side2 E_laws_heldGame_70.out).mono ?_); (case side1 => first | (exact (Kd.S_reads' F39.out).2.2) | (rw [show (markL 1 r0).length = r0.length from markL_length _ _]; exact (Kd.S_reads' F39.out).2.2)); (case side2 => first | (exact (Kd.S_reads' F39.out).2.1) | (rw [show (markL 1 r0).length = r0.length from markL_length _ _]; exact (Kd.S_reads' F39.out).2.1)); rintro e w96 ⟨rfl, hb⟩; refine ⟨_, rfl, ?_⟩; have Z97 : Aside0 (w94.heap.size ≤ w96.heap.size) := Aside0.mk (hb.size); have n0_ := Aside0.mk (below_then HB.out HB.out.size hb); have n1_ := Aside0.mk (Kd.R_below F8.out hb); have n2_ := Aside0.mk (Kd.S_below F16.out hb); have n3_ := Aside0.mk (blk_below (g := gb18) (o := .cells #[.slice Ao14 r0.length co15] 27 (0, 0)) BK20.out hb); have n4_ := Aside0.mk (Kd.R_below F31.out hb); have n5_ := Aside0.mk (Kd.S_below F39.out hb); have n6_ := Aside0.mk (blk_below (g := gb41) (o := .cells #[.slice Ao37 r0.length co38] 27 (0, 0)) BK43.out hb); have n7_ := Aside0.mk (Kd.R_below F57.out hb); have n8_ := Aside0.mk (Kd.R_below F77.out hb); have n9_ := Aside0.mk (Kd.S_below F84.out hb); have n10_ := Aside0.mk (blk_below (g := gb86) (o := .cells #[.slice Ao82 r0.length co83] 27 (0, 0)) BK88.out hb); clear HB F8 F16 BK20 F31 F39 BK43 F57 F77 F84 BK88; have HB := n0_; have F8 := n1_; have F16 := n2_; have BK20 := n3_; have F31 := n4_; have F39 := n5_; have BK43 := n6_; have F57 := n7_; have F77 := n8_; have F84 := n9_; have BK88 := n10_; clear n0_ n1_ n2_ n3_ n4_ n5_ n6_ n7_ n8_ n9_ n10_; (try clear hb); (try clear hz_gb18_0); have hz_gb18_0 : w96.cell? ⟨gb18, 0, none⟩ = some (.slice Ao14 r0.length co15) := (blk_cell BK20.out 0).trans rfl; (try clear hf_gb18_0); have hf_gb18_0 := blk_frozen BK20.out 0; (try clear hz_gb41_0); have hz_gb41_0 : w96.cell? ⟨gb41, 0, none⟩ = some (.slice Ao37 r0.length co38) := (blk_cell BK43.out 0).trans rfl; (try clear hf_gb41_0); have hf_gb41_0 := blk_frozen BK43.out 0; (try clear hz_gb86_0); have hz_gb86_0 : w96.cell? ⟨gb86, 0, none⟩ = some (.slice Ao82 r0.length co83) := (blk_cell BK88.out 0).trans rfl; (try clear hf_gb86_0); have hf_gb86_0 := blk_frozen BK88.out 0))
  go_ret
  exact ⟨rfl, HB.out⟩

theorem laws_FnExactHeapGame.good_of (a0 : Int) (A1 : Option Addr) (c1 : Nat) (l1 : List Int) (r0 : List (List Int)) (r1 : Int) (tm0 : Int) (tm1 : Int) (w : World) (hr1 : Kd.C (Kd.int .i64) w A1 l1.length l1) (hc1 : l1.length ≤ c1) (D_len1 : decide (1048576 < (l1.length : Int)) = false) (E_laws_toInt64S_3_h : Ev (fun k => laws_toInt64S.f k l1) (l1)) (E_spec_HeapGame_11_h : Ev (fun k => spec_HeapGame.f k a0 l1) ((r0, r1))) (E_impl_HeapGame_34_h : Ev (fun k => impl_HeapGame.f k a0 l1) ((r0, r1))) (E_laws_eqGame_50_h : Ev (fun k => laws_eqGame.f k r0 r0) (true)) (E_laws_eqInt64S_60_h : Ev (fun k => laws_eqInt64S.f k l1 l1) (true)) (D_tm0 : decide (tm0 < 0) = false) (E_laws_markInt64S_63_h : Ev (fun k => laws_markInt64S.f k l1 1) ((tm0, marks 1 l1.length))) (D_tm1 : decide (tm1 < 0) = false) (HM1_F39_h : 1 + total r0 < 4611686018427387904) (HM2_F39_h : r0.length < 4611686018427387904) (tm1_eq_h : 1 + total r0 = tm1) (E_laws_heldGame_70_h : Ev (fun k => laws_heldGame.f k (markL 1 r0) 1) (tm1)) :
    Calls Try.prog 14 #[.int .i64 a0, .slice A1 l1.length c1] w fun e w' => e = .returned (.bool true) ∧ Below w.heap.size w w' := by
  obtain ⟨k0, e0⟩ := E_laws_toInt64S_3_h
  obtain ⟨k1, e1⟩ := E_spec_HeapGame_11_h
  obtain ⟨k2, e2⟩ := E_impl_HeapGame_34_h
  obtain ⟨k3, e3⟩ := E_laws_eqGame_50_h
  obtain ⟨k4, e4⟩ := E_laws_eqInt64S_60_h
  obtain ⟨k5, e5⟩ := E_laws_markInt64S_63_h
  obtain ⟨k6, e6⟩ := E_laws_heldGame_70_h
  exact laws_FnExactHeapGame.good (k0 + k1 + k2 + k3 + k4 + k5 + k6) a0 A1 c1 l1 r0 r1 tm0 tm1 w hr1 hc1 D_len1 (e0 _ (by omega)) (e1 _ (by omega)) (e2 _ (by omega)) (e3 _ (by omega)) (e4 _ (by omega)) D_tm0 (e5 _ (by omega)) D_tm1 HM1_F39_h HM2_F39_h tm1_eq_h (e6 _ (by omega))

set_option maxHeartbeats 16000000 in
set_option maxRecDepth 100000 in
theorem laws_FnExactHeapGame.early0 (k : Nat) (a0 : Int) (A1 : Option Addr) (c1 : Nat) (l1 : List Int)  (w : World) (hr1 : Kd.C (Kd.int .i64) w A1 l1.length l1) (hc1 : l1.length ≤ c1) (D_len1 : decide (1048576 < (l1.length : Int)) = true) :
    Calls Try.prog 14 #[.int .i64 a0, .slice A1 l1.length c1] w fun e w' => e = .returned (.bool true) ∧ Below w.heap.size w w' := by
  have HR1 := Aside0.mk hr1
  have HC1 := Aside0.mk hc1
  clear hr1 hc1
  have HB := Aside0.mk (Below.refl w.heap.size w)
  go_enter Try.func14, Try.ntmps14
  go_wp2
  go_ret
  exact ⟨rfl, HB.out⟩

theorem laws_FnExactHeapGame.early0_of (a0 : Int) (A1 : Option Addr) (c1 : Nat) (l1 : List Int)  (w : World) (hr1 : Kd.C (Kd.int .i64) w A1 l1.length l1) (hc1 : l1.length ≤ c1) (D_len1 : decide (1048576 < (l1.length : Int)) = true) :
    Calls Try.prog 14 #[.int .i64 a0, .slice A1 l1.length c1] w fun e w' => e = .returned (.bool true) ∧ Below w.heap.size w w' := by
  exact laws_FnExactHeapGame.early0 (0) a0 A1 c1 l1  w hr1 hc1 D_len1

end Go.Proofs.Ytlicbcaloebhlaa.PX

/- Marks laid into a game are found again (no condition but sizes that fit). -/
namespace Go.Proofs.Ytlicbcaloebhlaa.PX
open Go.RowKit Go.Proofs.YtlicbcaloebhlaaW.PrintWords Go.Proofs.YtlicbcaloebhlaaW.PrintLast Go.Proofs.YtlicbcaloebhlaaW.PrintMore
attribute [local go_sem] max2_int min2_int max_two min_two max_three min_three max_four min_four
set_option linter.unusedVariables false
set_option linter.unusedSimpArgs false
theorem heldSS_loop (g : List (List Int)) (a : Int) (ha : 0 ≤ a) (hn : a + total g < 4611686018427387904) (hg : g.length < 4611686018427387904) (d : Nat) : ∀ (i : Nat), i + d = g.length →
    Ev (fun k => laws_heldInt64SS.l0 k (markL a g) (a + total (g.take i)) i) (a + total g) := by
  induction d with
  | zero =>
    intro i hd
    have e : i = g.length := by omega
    subst e
    refine Ev.step (f := fun _ => some (a + total g)) (fun k => ?_) (Ev.now _)
    simp only [laws_heldInt64SS.l0]
    rw [if_neg (by rw [markL_length]; omega), List.take_length]
  | succ d ih =>
    intro i hd
    obtain ⟨row, hp⟩ := get_some (xs := g) (i := i) (by omega)
    have hx := ih (i + 1) (by omega)
    have et : total (g.take (i + 1)) = total (g.take i) + row.length := by
      rw [List.take_add_one, hp]
      have : ∀ (x y : List (List Int)), total (x ++ y) = total x + total y := fun x y => by
        induction x with
        | nil => simp [total]
        | cons z r ihx => simp only [List.cons_append, total, ihx]; omega
      rw [this]
      simp [total]
    have hb : total (g.take i) + row.length + total (g.drop (i + 1)) = total g := by
      have : ∀ (x y : List (List Int)), total (x ++ y) = total x + total y := fun x y => by
        induction x with
        | nil => simp [total]
        | cons z r ihx => simp only [List.cons_append, total, ihx]; omega
      have e := congrArg total (List.take_append_drop i g)
      rw [this, drop_of hp] at e
      simp only [total] at e
      omega
    have h0 := total_nonneg (g.take i)
    have h1 := total_nonneg (g.drop (i + 1))
    have hget : rd_L1 (markL a g) (i : Int) = marks (a + total (g.take i)) row.length := by
      rw [rdL1_nat]
      have e : markL a g = markL a (g.take i) ++ markL (a + total (g.take i)) (g.drop i) := by rw [← markL_append, List.take_append_drop]
      rw [e, drop_of hp, List.getD_eq_getElem?_getD, List.getElem?_append_right (by rw [markL_length, List.length_take]; omega), markL_length, List.length_take, show i - min i g.length = 0 by omega]
      rfl
    have hh := held_ev row.length (a + total (g.take i)) (by omega) (by omega)
    rw [et, ← Int.add_assoc] at hx
    refine Ev.step (fun k => by simp only [laws_heldInt64SS.l0]; rw [if_pos (by rw [markL_length]; omega), if_pos (by omega), hget]) (Ev.bind hh (Ev.congr (fun k => ?_) hx))
    rw [if_neg (by omega), wrapS (by omega) (by omega), cast_succ]
theorem heldG_ev (g : List (List Int)) (a : Int) (ha : 0 ≤ a) (hn : a + total g < 4611686018427387904) (hg : g.length < 4611686018427387904) : Ev (fun k => laws_heldGame.f k (markL a g) a) (a + total g) := by
  have h := heldSS_loop g a ha hn hg g.length 0 (by omega)
  have h0 := total_nonneg g
  have e : a + total (g.take 0) = a := by simp [total]
  rw [e] at h
  unfold laws_heldGame.f
  refine Ev.bind (g := fun k => laws_heldInt64SS.f k (markL a g) a) (Ev.congr (fun k => rfl) h) (Ev.congr (f := fun _ => some (a + total g)) (fun k => ?_) (Ev.now _))
  rw [if_neg (by omega)]
theorem total_le (n : Nat) : ∀ g : List (List Int), (∀ row ∈ g, row.length ≤ n) → total g ≤ (g.length : Int) * n
  | [], _ => by simp [total]
  | row :: rest, h => by
    have := total_le n rest (fun r hr => h r (by simp [hr]))
    have h1 := h row (by simp)
    simp only [total, List.length_cons]
    have e : (((rest.length + 1 : Nat) : Int)) * (n : Int) = (rest.length : Int) * n + n := by rw [Int.natCast_add, Int.add_mul]; simp
    omega

end Go.Proofs.Ytlicbcaloebhlaa.PX

/- Numbers within bounds, and the first of two checks that fails (no condition). -/
namespace Go.Proofs.Ytlicbcaloebhlaa.PX
open Go.RowKit Go.Proofs.YtlicbcaloebhlaaW.PrintWords Go.Proofs.YtlicbcaloebhlaaW.PrintLast Go.Proofs.YtlicbcaloebhlaaW.PrintMore
attribute [local go_sem] max2_int min2_int max_two min_two max_three min_three max_four min_four
set_option linter.unusedVariables false
set_option linter.unusedSimpArgs false
theorem l01In_eq (a b c : Int) : spec_l01In.f a b c = some (decide (b ≤ a) && decide (a ≤ c)) := by
  unfold spec_l01In.f
  by_cases h : b ≤ a <;> simp [h]
theorem within_eq (a b c : Int) : impl_within.f a b c = some (decide (b ≤ a) && decide (a ≤ c)) := by
  unfold impl_within.f
  by_cases h : b ≤ a <;> simp [h]
theorem ev_add {α : Type} {g f : Nat → Option α} {r : α} (n : Nat) (h : ∀ k, g (k + n) = f k) (k : Ev f r) : Ev g r := by
  obtain ⟨K, hK⟩ := k
  refine ⟨K + n, fun m hm => ?_⟩
  obtain ⟨d, rfl⟩ : ∃ d, m = d + n := ⟨m - n, by omega⟩
  rw [h]
  exact hK d (by omega)

end Go.Proofs.Ytlicbcaloebhlaa.PX

/- The program's IsGame and the reference's l01Is tell the same, on every list of lists of sizes that fit in memory. -/
namespace Go.Proofs.Ytlicbcaloebhlaa.PX
open Go.RowKit Go.Proofs.YtlicbcaloebhlaaW.PrintWords Go.Proofs.YtlicbcaloebhlaaW.PrintLast Go.Proofs.YtlicbcaloebhlaaW.PrintMore
attribute [local go_sem] max2_int min2_int max_two min_two max_three min_three max_four min_four
set_option linter.unusedVariables false
set_option linter.unusedSimpArgs false
def okRow (last n : Int) : List Int → Bool
  | [] => true
  | x :: r => decide (last < x) && (decide (x < n) && okRow x n r)
def okRows (n : Int) : Int → List (List Int) → Bool
  | _, [] => true
  | p, row :: rest => okRow p n row && okRows n (p + 1) rest
def isGame (g : List (List Int)) : Bool := decide (1 ≤ g.length) && (decide (g.length ≤ 40) && okRows g.length 0 g)
theorem is_row (g : List (List Int)) (row : List Int) (p : Nat) (hp : g[p]? = some row) (hl : row.length < 4611686018427387904) (hg : g.length < 4611686018427387904) (v : Bool)
    (hv : Ev (fun k => spec_l01Is.l0 k (g.length : Int) ((p + 1 : Nat) : Int) g) v) (d : Nat) :
    ∀ (i : Nat) (last : Int), i + d = row.length → Ev (fun k => spec_l01Is.l1 k (g.length : Int) (p : Int) last (i : Int) g) (okRow last g.length (row.drop i) && v) := by
  have hpl : p < g.length := (List.getElem?_eq_some_iff.1 hp).1
  have hr : rd_L1 g (p : Int) = row := by rw [rdL1_nat]; exact getD_of hp
  induction d with
  | zero =>
    intro i last hd
    have e : row.drop i = [] := List.drop_eq_nil_of_le (by omega)
    rw [e]
    refine Ev.step (fun k => ?_) (r := v) (show Ev _ _ from hv)
    simp only [spec_l01Is.l1]
    rw [if_pos (by omega), if_pos (by omega), hr, if_neg (by omega), wrapS (by omega) (by omega), cast_succ]
  | succ d ih =>
    intro i last hd
    obtain ⟨x, hx⟩ := get_some (xs := row) (i := i) (by omega)
    have hrx : rd row (i : Int) = x := by rw [rd_nat]; exact getD_of hx
    have h1 : ∀ k, spec_l01Is.l1 (k + 1) (g.length : Int) (p : Int) last (i : Int) g = (if x ≤ last then (some false) else (if x ≥ (g.length : Int) then (some false) else (spec_l01Is.l1 k (g.length : Int) (p : Int) x ((i + 1 : Nat) : Int) g))) := fun k => by
      simp only [spec_l01Is.l1]
      rw [if_pos (by omega), if_pos (by omega), hr, if_pos (by omega), if_pos (by omega), hrx, wrapS (by omega) (by omega), cast_succ]
    rw [drop_of hx]
    simp only [okRow]
    by_cases c1 : x ≤ last
    · have : (decide (last < x)) = false := by simp; omega
      rw [this]
      exact Ev.step (fun k => by rw [h1, if_pos c1]) (Ev.now false)
    · have : (decide (last < x)) = true := by simp; omega
      rw [this]
      by_cases c2 : x ≥ (g.length : Int)
      · have : (decide (x < (g.length : Int))) = false := by simp; omega
        rw [this]
        exact Ev.step (fun k => by rw [h1, if_neg c1, if_pos c2]) (Ev.now false)
      · have : (decide (x < (g.length : Int))) = true := by simp; omega
        rw [this]
        simp only [Bool.true_and]
        exact Ev.step (fun k => by rw [h1, if_neg c1, if_neg c2]) (ih (i + 1) x (by omega))
theorem is_rows (g : List (List Int)) (hl : ∀ row ∈ g, row.length < 4611686018427387904) (hg : g.length < 4611686018427387904) (d : Nat) :
    ∀ p : Nat, p + d = g.length → Ev (fun k => spec_l01Is.l0 k (g.length : Int) (p : Int) g) (okRows g.length p (g.drop p)) := by
  induction d with
  | zero =>
    intro p hd
    rw [List.drop_eq_nil_of_le (by omega)]
    refine Ev.step (f := fun _ => some true) (fun k => ?_) (Ev.now true)
    simp only [spec_l01Is.l0]; rw [if_neg (by omega)]
  | succ d ih =>
    intro p hd
    obtain ⟨row, hp⟩ := get_some (xs := g) (i := p) (by omega)
    rw [drop_of hp]
    simp only [okRows, cast_succ]
    refine Ev.step (fun k => ?_) (is_row g row p hp (hl row (List.mem_of_getElem? hp)) hg _ (ih (p + 1) (by omega)) row.length 0 (p : Int) (by omega))
    simp only [spec_l01Is.l0]; rw [if_pos (by omega)]; rfl
theorem l01Is_ev (g : List (List Int)) (hl : ∀ row ∈ g, row.length < 4611686018427387904) (hg : g.length < 4611686018427387904) : Ev (fun k => spec_l01Is.f k g) (isGame g) := by
  have hin : spec_l01In.f (g.length : Int) 1 40 = some (decide (1 ≤ g.length) && decide (g.length ≤ 40)) := by
    unfold spec_l01In.f
    by_cases h : (g.length : Int) ≥ 1
    · rw [if_pos h]
      have : decide (1 ≤ g.length) = true := decide_eq_true (by omega)
      have e2 : decide ((g.length : Int) ≤ 40) = decide (g.length ≤ 40) := by rw [decide_eq_decide]; omega
      rw [this, Bool.true_and, e2]
    · rw [if_neg h]
      have : decide (1 ≤ g.length) = false := decide_eq_false (by omega)
      rw [this]; rfl
  unfold isGame
  by_cases h1 : (decide (1 ≤ g.length) && decide (g.length ≤ 40)) = true
  · have h2 : (decide (1 ≤ g.length) = true) ∧ (decide (g.length ≤ 40) = true) := by simpa using h1
    rw [h2.1, h2.2]
    simp only [Bool.true_and]
    refine Ev.congr (fun k => ?_) (is_rows g hl hg g.length 0 (by omega))
    unfold spec_l01Is.f spec_l01N.f
    simp only [Option.bind_some, hin]
    rw [if_pos h1]; rfl
  · have h2 : (decide (1 ≤ g.length) && (decide (g.length ≤ 40) && okRows (g.length : Int) 0 g)) = false := by
      cases a : decide (1 ≤ g.length) <;> cases b : decide (g.length ≤ 40) <;> simp_all
    rw [h2]
    refine Ev.congr (f := fun _ => some false) (fun k => ?_) (Ev.now false)
    unfold spec_l01Is.f spec_l01N.f
    simp only [Option.bind_some, hin]
    rw [if_neg h1]
theorem rising_loop (xs : List Int) (lo hi : Int) (hl : xs.length < 4611686018427387904) (d : Nat) :
    ∀ (i : Nat) (last : Int), i + d = xs.length → (if i = 0 then last = lo - 1 else xs[i - 1]? = some last) → lo - 1 ≤ last → Ev (fun k => impl_isRising.l0 k xs lo hi xs (xs.length : Int) (i : Int)) (okRow last (hi + 1) (xs.drop i)) := by
  have hw : ∀ a b c : Int, impl_within.f a b c = some (decide (b ≤ a) && decide (a ≤ c)) := by
    intro a b c
    unfold impl_within.f
    by_cases h : b ≤ a <;> simp [h]
  induction d with
  | zero =>
    intro i last hd _ _
    rw [List.drop_eq_nil_of_le (by omega)]
    refine Ev.step (f := fun _ => some true) (fun k => ?_) (Ev.now true)
    simp only [impl_isRising.l0]; rw [if_neg (by omega)]
  | succ d ih =>
    intro i last hd hlast hge
    obtain ⟨x, hx⟩ := get_some (xs := xs) (i := i) (by omega)
    have hrx : rd xs (i : Int) = x := by rw [rd_nat]; exact getD_of hx
    rw [drop_of hx]
    simp only [okRow]
    have hn := ih (i + 1) x (by omega) (by rw [if_neg (by omega)]; simpa using hx)
    by_cases h0 : i = 0
    · subst h0
      rw [if_pos rfl] at hlast
      subst hlast
      have h1 : ∀ k, impl_isRising.l0 (k + 1) xs lo hi xs (xs.length : Int) ((0 : Nat) : Int) = (if (decide (lo ≤ x) && decide (x ≤ hi)) = true then (impl_isRising.l0 k xs lo hi xs (xs.length : Int) ((0 + 1 : Nat) : Int)) else (some false)) := fun k => by
        simp only [impl_isRising.l0]
        rw [if_pos (by omega), if_pos (by omega), if_pos (by omega), hrx, hw]
        simp only [Option.bind_some]
        rw [if_neg (show ¬ (((0 : Nat) : Int) > 0) by omega), wrapS (by omega) (by omega), cast_succ]
      by_cases c : (decide (lo ≤ x) && decide (x ≤ hi)) = true
      · have c' : lo ≤ x ∧ x ≤ hi := by simpa using c
        have e1 : decide (lo - 1 < x) = true := by simp; omega
        have e2 : decide (x < hi + 1) = true := by simp; omega
        rw [e1, e2]
        simp only [Bool.true_and]
        exact Ev.step (fun k => by rw [h1, if_pos c]) (hn (by omega))
      · have e : (decide (lo - 1 < x) && (decide (x < hi + 1) && okRow x (hi + 1) (xs.drop (0 + 1)))) = false := by
          cases a : decide (lo - 1 < x) <;> cases b : decide (x < hi + 1) <;> simp_all <;> omega
        rw [e]
        exact Ev.step (fun k => by rw [h1, if_neg c]) (Ev.now false)
    · rw [if_neg h0] at hlast
      have hw1 : wrap64 ((i : Int) - 1) = ((i - 1 : Nat) : Int) := by rw [wrapS (by omega) (by omega)]; omega
      have hrl : rd xs ((i - 1 : Nat) : Int) = last := by
        rw [rd_nat]
        exact getD_of hlast
      have h1 : ∀ k, impl_isRising.l0 (k + 1) xs lo hi xs (xs.length : Int) (i : Int) = (if (decide (lo ≤ x) && decide (x ≤ hi)) = true then (if x ≤ last then (some false) else (impl_isRising.l0 k xs lo hi xs (xs.length : Int) ((i + 1 : Nat) : Int))) else (some false)) := fun k => by
        simp only [impl_isRising.l0]
        rw [if_pos (by omega), if_pos (by omega), if_pos (by omega), hrx, hw]
        simp only [Option.bind_some]
        rw [if_pos (show ((i : Int) > 0) by omega), hw1, if_pos (show (0 : Int) ≤ ((i - 1 : Nat) : Int) by omega), if_pos (show ((i - 1 : Nat) : Int) < (xs.length : Int) by omega), hrl, wrapS (by omega) (by omega), cast_succ]
      by_cases c1 : x ≤ last
      · have e : decide (last < x) = false := by simp; omega
        rw [e]
        refine Ev.step (f := fun _ => some false) (fun k => ?_) (Ev.now false)
        rw [h1, if_pos c1]; split <;> rfl
      · have e : decide (last < x) = true := by simp; omega
        rw [e]
        simp only [Bool.true_and]
        by_cases c2 : x ≤ hi
        · have e2 : decide (x < hi + 1) = true := by simp; omega
          rw [e2]
          simp only [Bool.true_and]
          exact Ev.step (fun k => by rw [h1, if_pos (by simp; omega), if_neg c1]) (hn (by omega))
        · have e2 : decide (x < hi + 1) = false := by simp; omega
          rw [e2]
          exact Ev.step (fun k => by rw [h1, if_neg (by simp; omega)]) (Ev.now false)
theorem rising_ev (xs : List Int) (lo hi : Int) (hl : xs.length < 4611686018427387904) : Ev (fun k => impl_isRising.f k xs lo hi) (okRow (lo - 1) (hi + 1) xs) := by
  have := rising_loop xs lo hi hl xs.length 0 (lo - 1) (by omega) (by simp) (by omega)
  exact this
theorem isg_loop (g : List (List Int)) (hl : ∀ row ∈ g, row.length < 4611686018427387904) (hg : g.length < 4611686018427387904) (d : Nat) :
    ∀ p : Nat, p + d = g.length → Ev (fun k => impl_IsGame.l0 k (g.length : Int) g (g.length : Int) (p : Int)) (okRows g.length p (g.drop p) && (decide (1 ≤ g.length) && decide (g.length ≤ 40))) := by
  induction d with
  | zero =>
    intro p hd
    rw [List.drop_eq_nil_of_le (by omega)]
    refine Ev.step (f := fun _ => some (decide (1 ≤ g.length) && decide (g.length ≤ 40))) (fun k => ?_) (by simp only [okRows, Bool.true_and]; exact Ev.now _)
    simp only [impl_IsGame.l0]; rw [if_neg (by omega)]
    unfold impl_within.f
    by_cases h : (1 : Int) ≤ (g.length : Int)
    · rw [if_pos h]
      have e : decide (1 ≤ g.length) = true := decide_eq_true (by omega)
      rw [e]; simp; omega
    · rw [if_neg h]
      have e : decide (1 ≤ g.length) = false := decide_eq_false (by omega)
      rw [e]; simp
  | succ d ih =>
    intro p hd
    obtain ⟨row, hp⟩ := get_some (xs := g) (i := p) (by omega)
    have hr : rd_L1 g (p : Int) = row := by rw [rdL1_nat]; exact getD_of hp
    rw [drop_of hp]
    simp only [okRows, cast_succ]
    have hrow := rising_ev row (wrap64 ((p : Int) + 1)) (wrap64 ((g.length : Int) - 1)) (hl row (List.mem_of_getElem? hp))
    rw [wrapS (by omega) (by omega), wrapS (by omega) (by omega), show (p : Int) + 1 - 1 = (p : Int) by omega, show (g.length : Int) - 1 + 1 = (g.length : Int) by omega] at hrow
    have hn := ih (p + 1) (by omega)
    refine Ev.step (f := fun k => (impl_isRising.f k row ((p : Int) + 1) ((g.length : Int) - 1)).bind fun t => if t = true then (impl_IsGame.l0 k (g.length : Int) g (g.length : Int) ((p + 1 : Nat) : Int)) else (some false)) (fun k => ?_) (Ev.bind hrow ?_)
    · simp only [impl_IsGame.l0]
      rw [if_pos (by omega), if_pos (by omega), if_pos (by omega), hr, wrapS (i := (p : Int) + 1) (by omega) (by omega), wrapS (i := (g.length : Int) - 1) (by omega) (by omega), cast_succ]
    · cases okRow (p : Int) (g.length : Int) row with
      | true => simp only [Bool.true_and]; exact Ev.congr (fun k => by simp) hn
      | false => exact Ev.congr (f := fun _ => some false) (fun k => by simp) (Ev.now false)
theorem IsGame_ev (g : List (List Int)) (hl : ∀ row ∈ g, row.length < 4611686018427387904) (hg : g.length < 4611686018427387904) : Ev (fun k => impl_IsGame.f k g) (isGame g) := by
  have := isg_loop g hl hg g.length 0 (by omega)
  have e : isGame g = (okRows (g.length : Int) ((0 : Nat) : Int) (g.drop 0) && (decide (1 ≤ g.length) && decide (g.length ≤ 40))) := by
    unfold isGame
    rw [List.drop_zero]
    cases decide (1 ≤ g.length) <;> cases decide (g.length ≤ 40) <;> simp
  rw [e]
  exact this

end Go.Proofs.Ytlicbcaloebhlaa.PX

/- Values of the places of a game, from the last place to the first; what a game that is told to be one gives (no condition). -/
namespace Go.Proofs.Ytlicbcaloebhlaa.PX
open Go.RowKit Go.Proofs.YtlicbcaloebhlaaW.PrintWords Go.Proofs.YtlicbcaloebhlaaW.PrintLast Go.Proofs.YtlicbcaloebhlaaW.PrintMore
attribute [local go_sem] max2_int min2_int max_two min_two max_three min_three max_four min_four
set_option linter.unusedVariables false
set_option linter.unusedSimpArgs false
theorem okRow_mem {n : Int} : ∀ {xs : List Int} {last : Int}, okRow last n xs = true → ∀ q ∈ xs, last < q ∧ q < n
  | [], _, _, q, h => by simp at h
  | x :: r, last, h, q, hq => by
    simp only [okRow, Bool.and_eq_true, decide_eq_true_eq] at h
    rcases List.mem_cons.1 hq with rfl | hq
    · exact ⟨h.1, h.2.1⟩
    · have := okRow_mem h.2.2 q hq
      exact ⟨by omega, this.2⟩
theorem okRow_len {n : Int} : ∀ {xs : List Int} {last : Int}, okRow last n xs = true → last < n → (xs.length : Int) ≤ n - 1 - last
  | [], last, _, h => by simp only [List.length_nil]; omega
  | x :: r, last, h, hl => by
    simp only [okRow, Bool.and_eq_true, decide_eq_true_eq] at h
    have := okRow_len h.2.2 h.2.1
    simp only [List.length_cons]
    omega
theorem okRows_get {n : Int} : ∀ {g : List (List Int)} {p : Int} {i : Nat} {row : List Int}, okRows n p g = true → g[i]? = some row → okRow (p + i) n row = true
  | [], _, _, _, _, h => by simp at h
  | x :: r, p, i, row, h, hi => by
    simp only [okRows, Bool.and_eq_true] at h
    cases i with
    | zero =>
      simp only [List.getElem?_cons_zero, Option.some.injEq] at hi
      subst hi
      simpa using h.1
    | succ i =>
      simp only [List.getElem?_cons_succ] at hi
      have := okRows_get h.2 hi
      rw [show p + ((i + 1 : Nat) : Int) = p + 1 + i by omega]
      exact this
theorem game_row {g : List (List Int)} (h : isGame g = true) {p : Nat} {row : List Int} (hp : g[p]? = some row) :
    (∀ q ∈ row, (p : Int) < q ∧ q < g.length) ∧ row.length ≤ 40 := by
  simp only [isGame, Bool.and_eq_true, decide_eq_true_eq] at h
  have hr := okRows_get h.2.2 hp
  have hl : p < g.length := (List.getElem?_eq_some_iff.1 hp).1
  have h1 := okRow_mem hr
  have h2 := okRow_len hr (by omega)
  exact ⟨fun q hq => ⟨by have := h1 q hq; omega, (h1 q hq).2⟩, by omega⟩
theorem game_len {g : List (List Int)} (h : isGame g = true) : 1 ≤ g.length ∧ g.length ≤ 40 := by
  simp only [isGame, Bool.and_eq_true, decide_eq_true_eq] at h
  exact ⟨h.1, h.2.1⟩
/-- The values of the last d places, the first of them first. -/
def backAt {α : Type} (sem : List α → α) (z : α) (g : List (List Int)) : Nat → List α
  | 0 => []
  | d + 1 => sem ((g.getD (g.length - (d + 1)) []).map fun q => (backAt sem z g d).getD (q.toNat - (g.length - d)) z) :: backAt sem z g d
theorem backAt_length {α : Type} (sem : List α → α) (z : α) (g : List (List Int)) : ∀ d, (backAt sem z g d).length = d
  | 0 => rfl
  | d + 1 => by simp only [backAt, List.length_cons, backAt_length sem z g d]
def backs {α : Type} (sem : List α → α) (z : α) (g : List (List Int)) : List α := backAt sem z g g.length
/-- What the places after p lead a row to. -/
def seen {α : Type} (sem : List α → α) (z : α) (g : List (List Int)) (p d : Nat) (row : List Int) : List α := row.map fun q => (backAt sem z g d).getD (q.toNat - (p + 1)) z
theorem backAt_succ {α : Type} (sem : List α → α) (z : α) (g : List (List Int)) (p d : Nat) (row : List Int) (hg : g.length = p + 1 + d) (hp : g[p]? = some row) :
    backAt sem z g (d + 1) = sem (seen sem z g p d row) :: backAt sem z g d := by
  simp only [backAt, seen]
  rw [show g.length - (d + 1) = p by omega, show g.length - d = p + 1 by omega, getD_of hp]
theorem arr_get {α : Type} (z : α) (m : Nat) (bs : List α) (q : Nat) (h : m ≤ q) : (List.replicate m z ++ bs).getD q z = bs.getD (q - m) z := by
  rw [List.getD_eq_getElem?_getD, List.getD_eq_getElem?_getD, List.getElem?_append_right (by simpa using h), List.length_replicate]
theorem arr_set {α : Type} (z v : α) (p : Nat) (bs : List α) : (List.replicate (p + 1) z ++ bs).set p v = List.replicate p z ++ v :: bs := by
  rw [List.replicate_succ', List.append_assoc, List.set_append_right _ _ (by simp)]
  simp
/-- What holds of every value of the later places holds of what a row is led to. -/
theorem seen_all {α : Type} (sem : List α → α) (z : α) (Q : α → Prop) (g : List (List Int)) (p d : Nat) (row : List Int) (hg : g.length = p + 1 + d)
    (hq : ∀ q ∈ row, (p : Int) < q ∧ q < g.length) (hb : ∀ x ∈ backAt sem z g d, Q x) : ∀ x ∈ seen sem z g p d row, Q x := by
  intro x hx
  obtain ⟨q, hm, rfl⟩ := List.mem_map.1 hx
  have h := hq q hm
  have hl : q.toNat - (p + 1) < (backAt sem z g d).length := by rw [backAt_length]; omega
  rw [List.getD_eq_getElem?_getD, List.getElem?_eq_getElem hl]
  exact hb _ (List.getElem_mem hl)
theorem backAt_all {α : Type} (sem : List α → α) (z : α) (Q : α → Prop) (g : List (List Int)) (h : isGame g = true) (hs : ∀ xs : List α, xs.length ≤ 40 → (∀ x ∈ xs, Q x) → Q (sem xs)) :
    ∀ d, d ≤ g.length → ∀ x ∈ backAt sem z g d, Q x
  | 0, _, x, hx => by simp [backAt] at hx
  | d + 1, hd, x, hx => by
    obtain ⟨p, hp⟩ : ∃ p, g.length = p + 1 + d := ⟨g.length - (d + 1), by omega⟩
    obtain ⟨row, hr⟩ := get_some (xs := g) (i := p) (by omega)
    have ih := backAt_all sem z Q g h hs d (by omega)
    have hw := game_row h hr
    rw [backAt_succ sem z g p d row hp hr] at hx
    rcases List.mem_cons.1 hx with rfl | hx
    · exact hs _ (by simp only [seen, List.length_map]; exact hw.2) (seen_all sem z Q g p d row hp hw.1 ih)
    · exact ih x hx

end Go.Proofs.Ytlicbcaloebhlaa.PX

/- The game of a heap, as the reference and the program make it (no condition but sizes that fit). -/
namespace Go.Proofs.Ytlicbcaloebhlaa.PX
open Go.RowKit Go.Proofs.YtlicbcaloebhlaaW.PrintWords Go.Proofs.YtlicbcaloebhlaaW.PrintLast Go.Proofs.YtlicbcaloebhlaaW.PrintMore
attribute [local go_sem] max2_int min2_int max_two min_two max_three min_three max_four min_four
set_option linter.unusedVariables false
set_option linter.unusedSimpArgs false
def heapRow (k : Int) (list : List Int) (i : Int) : List Int := (list.filter fun n => decide (i + n ≤ k)).map fun n => i + n
def heapRows (k : Int) (list : List Int) (m : Nat) : List (List Int) := (List.range m).map fun (i : Nat) => heapRow k list (i : Int)
theorem heapRow_len (k : Int) (list : List Int) (i : Int) : (heapRow k list i).length ≤ list.length := by
  unfold heapRow
  rw [List.length_map]
  exact List.length_filter_le _ _
theorem heapRow_take (k : Int) (list : List Int) (i : Int) (j : Nat) (n : Int) (h : list[j]? = some n) : heapRow k (list.take (j + 1)) i = if i + n ≤ k then heapRow k (list.take j) i ++ [i + n] else heapRow k (list.take j) i := by
  unfold heapRow
  rw [List.take_add_one, h, List.filter_append, List.map_append]
  by_cases c : i + n ≤ k
  · rw [if_pos c]
    simp [c]
  · rw [if_neg c]
    simp [c]
theorem heapRows_succ (k : Int) (list : List Int) (m : Nat) : heapRows k list (m + 1) = heapRows k list m ++ [heapRow k list (m : Int)] := by
  unfold heapRows
  rw [List.range_succ, List.map_append]
  rfl
theorem heapRows_len (k : Int) (list : List Int) (m : Nat) : (heapRows k list m).length = m := by unfold heapRows; simp
theorem heap_row (k : Int) (list : List Int) (hk : k ≤ 39) (hl : list.length ≤ 39) (hb : ∀ n ∈ list, 0 < n ∧ n < 40) (i : Nat) (hi : (i : Int) ≤ k) (r : List (List Int))
    (next : Ev (fun m => spec_l01Heap.l0 m k list ((i + 1 : Nat) : Int) (heapRows k list (i + 1))) r) (d : Nat) : ∀ j : Nat, j + d = list.length →
    Ev (fun m => spec_l01Heap.l1 m k list (i : Int) (heapRow k (list.take j) (i : Int)) (j : Int) (heapRows k list i)) r := by
  induction d with
  | zero =>
    intro j hj
    have e : j = list.length := by omega
    subst e
    rw [List.take_length]
    refine Ev.step (fun m => ?_) next
    simp only [spec_l01Heap.l1]
    rw [if_neg (by omega), if_pos (by rw [heapRows_len]; omega), wrapS (by omega) (by omega), cast_succ, heapRows_succ]
  | succ d ih =>
    intro j hj
    obtain ⟨n, hn⟩ := get_some (xs := list) (i := j) (by omega)
    have hr : rd list (j : Int) = n := by rw [rd_nat]; exact getD_of hn
    have hb' := hb n (List.mem_of_getElem? hn)
    have hx := ih (j + 1) (by omega)
    rw [heapRow_take k list (i : Int) j n hn] at hx
    have hlen := heapRow_len k (list.take j) (i : Int)
    have hlt : (list.take j).length ≤ 39 := by rw [List.length_take]; omega
    refine Ev.step (fun m => ?_) hx
    simp only [spec_l01Heap.l1]
    rw [if_pos (by omega), if_pos (by omega), hr, wrapS (i := (i : Int) + n) (by omega) (by omega), wrapS (i := (j : Int) + 1) (by omega) (by omega), cast_succ]
    by_cases c : (i : Int) + n ≤ k
    · rw [if_pos c, if_pos c, if_pos (by omega)]
    · rw [if_neg c, if_neg c]
theorem heap_loop (k : Int) (list : List Int) (hk0 : 0 ≤ k) (hk : k ≤ 39) (hl : list.length ≤ 39) (hb : ∀ n ∈ list, 0 < n ∧ n < 40) (d : Nat) : ∀ i : Nat, (i : Int) + d = k + 1 →
    Ev (fun m => spec_l01Heap.l0 m k list (i : Int) (heapRows k list i)) (heapRows k list (k + 1).toNat) := by
  induction d with
  | zero =>
    intro i hd
    refine Ev.step (f := fun _ => some (heapRows k list (k + 1).toNat)) (fun m => ?_) (Ev.now _)
    simp only [spec_l01Heap.l0]
    rw [if_neg (by omega), show (k + 1).toNat = i by omega]
  | succ d ih =>
    intro i hd
    refine Ev.step (fun m => ?_) (heap_row k list hk hl hb i (by omega) _ (ih (i + 1) (by omega)) list.length 0 (by omega))
    simp only [spec_l01Heap.l0]
    rw [if_pos (by omega)]
    rfl
theorem iheap_row (k : Int) (list : List Int) (hk : k ≤ 39) (hl : list.length ≤ 39) (hb : ∀ n ∈ list, 0 < n ∧ n < 40) (i : Nat) (hi : (i : Int) ≤ k) (r : List (List Int) × Int)
    (next : Ev (fun m => impl_HeapGame.l0 m k list (k + 1) ((i + 1 : Nat) : Int) (heapRows k list (i + 1))) r) (d : Nat) : ∀ j : Nat, j + d = list.length →
    Ev (fun m => impl_HeapGame.l1 m k list (i : Int) (heapRow k (list.take j) (i : Int)) (k + 1) (i : Int) list (list.length : Int) (j : Int) (heapRows k list i)) r := by
  induction d with
  | zero =>
    intro j hj
    have e : j = list.length := by omega
    subst e
    rw [List.take_length]
    refine Ev.step (fun m => ?_) next
    simp only [impl_HeapGame.l1]
    rw [if_neg (by omega), if_pos (by rw [heapRows_len]; omega), wrapS (by omega) (by omega), cast_succ, heapRows_succ]
  | succ d ih =>
    intro j hj
    obtain ⟨n, hn⟩ := get_some (xs := list) (i := j) (by omega)
    have hr : rd list (j : Int) = n := by rw [rd_nat]; exact getD_of hn
    have hb' := hb n (List.mem_of_getElem? hn)
    have hx := ih (j + 1) (by omega)
    rw [heapRow_take k list (i : Int) j n hn] at hx
    have hlen := heapRow_len k (list.take j) (i : Int)
    have hlt : (list.take j).length ≤ 39 := by rw [List.length_take]; omega
    refine Ev.step (fun m => ?_) hx
    simp only [impl_HeapGame.l1]
    rw [if_pos (by omega), if_pos (by omega), if_pos (by omega), hr, wrapS (i := (i : Int) + n) (by omega) (by omega), wrapS (i := (j : Int) + 1) (by omega) (by omega), cast_succ]
    by_cases c : (i : Int) + n ≤ k
    · rw [if_pos c, if_pos c, if_pos (by omega)]
    · rw [if_neg c, if_neg c]
theorem iheap_loop (k : Int) (list : List Int) (hk0 : 0 ≤ k) (hk : k ≤ 39) (hl : list.length ≤ 39) (hb : ∀ n ∈ list, 0 < n ∧ n < 40) (d : Nat) : ∀ i : Nat, (i : Int) + d = k + 1 →
    Ev (fun m => impl_HeapGame.l0 m k list (k + 1) (i : Int) (heapRows k list i)) (heapRows k list (k + 1).toNat, 0) := by
  induction d with
  | zero =>
    intro i hd
    refine Ev.step (f := fun _ => some (heapRows k list (k + 1).toNat, 0)) (fun m => ?_) (Ev.now _)
    simp only [impl_HeapGame.l0]
    rw [if_neg (by omega), show (k + 1).toNat = i by omega]
  | succ d ih =>
    intro i hd
    refine Ev.step (fun m => ?_) (iheap_row k list hk hl hb i (by omega) _ (ih (i + 1) (by omega)) list.length 0 (by omega))
    simp only [impl_HeapGame.l0]
    rw [if_pos (by omega)]
    rfl
def heapOf (k : Int) (list : List Int) : List (List Int) × Int := if 0 ≤ k ∧ k ≤ 39 ∧ okRow 0 40 list = true then (heapRows k list (k + 1).toNat, 0) else ([], 2)
theorem rows_ok {list : List Int} (h : okRow 0 40 list = true) : list.length ≤ 39 ∧ ∀ n ∈ list, 0 < n ∧ n < 40 := by
  have := okRow_len h (by omega)
  exact ⟨by omega, okRow_mem h⟩
theorem spec_checks (k : Int) (list : List Int) (hk0 : 0 ≤ k) (hk : k ≤ 39) (hn : list.length < 4611686018427387904) (d : Nat) : ∀ (i : Nat) (last : Int), i + d = list.length → (i = 0 → last = 0) → (∀ p : Nat, i = p + 1 → list.getD p 0 = last ∧ 0 < last) →
    Ev (fun m => spec_HeapGame.l0 m k list (i : Int)) (if okRow last 40 (list.drop i) = true then (if okRow 0 40 list = true then (heapRows k list (k + 1).toNat, 0) else ([], 7)) else ([], 2)) ∨ (okRow last 40 (list.drop i) = true ∧ ¬ okRow 0 40 list = true) := by
  induction d with
  | zero =>
    intro i last hd h0 h1
    rw [List.drop_eq_nil_of_le (by omega), show okRow last 40 [] = true from rfl]
    by_cases c : okRow 0 40 list = true
    · refine .inl ?_
      have hr := rows_ok c
      rw [if_pos rfl, if_pos c]
      refine Ev.step (fun m => by simp only [spec_HeapGame.l0]; rw [if_neg (by omega)]) (Ev.bind (Ev.congr (fun m => ?_) (heap_loop k list hk0 hk hr.1 hr.2 (k + 1).toNat 0 (by omega))) (Ev.now _))
      rfl
    · exact .inr ⟨rfl, c⟩
  | succ d ih =>
    intro i last hd h0 h1
    obtain ⟨n, hi⟩ := get_some (xs := list) (i := i) (by omega)
    have hr : rd list (i : Int) = n := by rw [rd_nat]; exact getD_of hi
    rw [drop_of hi]
    have hlast : 0 ≤ last := by
      cases i with
      | zero => rw [h0 rfl]; decide
      | succ p => have := (h1 p rfl).2; omega
    have hd0 : okRow last 40 (n :: list.drop (i + 1)) = (decide (last < n) && (decide (n < 40) && okRow n 40 (list.drop (i + 1)))) := rfl
    rw [hd0]
    have hin : spec_l01In.f n 1 39 = some (decide (1 ≤ n) && decide (n ≤ 39)) := l01In_eq n 1 39
    by_cases c1 : 1 ≤ n ∧ n ≤ 39
    · have e1 : (decide (1 ≤ n) && decide (n ≤ 39)) = true := by simp [c1.1, c1.2]
      rw [e1] at hin
      by_cases c2 : last < n
      · rw [decide_eq_true c2, decide_eq_true (show n < 40 by omega), Bool.true_and, Bool.true_and]
        have hx := ih (i + 1) n (by omega) (by omega) (fun p hp => by
          obtain rfl : i = p := by omega
          exact ⟨getD_of hi, by omega⟩)
        rcases hx with hx | hx
        · refine .inl (Ev.step (fun m => ?_) hx)
          simp only [spec_HeapGame.l0]
          rw [if_pos (by omega), if_pos (by omega), hr, hin, Option.bind_some, if_pos rfl, wrapS (i := (i : Int) + 1) (by omega) (by omega), cast_succ]
          cases i with
          | zero => rw [if_neg (by omega)]
          | succ p =>
            have h1' := h1 p rfl
            have ep : rd list (wrap64 (((p + 1 : Nat) : Int) - 1)) = last := by rw [wrapS (by omega) (by omega), show ((p + 1 : Nat) : Int) - 1 = (p : Int) by omega, rd_nat]; exact h1'.1
            rw [if_pos (by omega), ep, if_pos (by rw [wrapS (by omega) (by omega)]; omega), if_pos (by rw [wrapS (by omega) (by omega)]; omega), if_neg (by omega)]
        · exact .inr hx
      · refine .inl ?_
        rw [decide_eq_false c2, Bool.false_and, if_neg (by decide)]
        refine Ev.step (f := fun _ => some ([], 2)) (fun m => ?_) (Ev.now _)
        simp only [spec_HeapGame.l0]
        rw [if_pos (by omega), if_pos (by omega), hr, hin, Option.bind_some, if_pos rfl]
        cases i with
        | zero => have := h0 rfl; omega
        | succ p =>
          have h1' := h1 p rfl
          have ep : rd list (wrap64 (((p + 1 : Nat) : Int) - 1)) = last := by rw [wrapS (by omega) (by omega), show ((p + 1 : Nat) : Int) - 1 = (p : Int) by omega, rd_nat]; exact h1'.1
          rw [if_pos (by omega), ep, if_pos (by rw [wrapS (by omega) (by omega)]; omega), if_pos (by rw [wrapS (by omega) (by omega)]; omega), if_pos (by omega)]
    · refine .inl ?_
      have e1 : (decide (1 ≤ n) && decide (n ≤ 39)) = false := by
        rw [← Bool.decide_and, decide_eq_false c1]
      rw [e1] at hin
      have e2 : (decide (last < n) && (decide (n < 40) && okRow n 40 (list.drop (i + 1)))) = false := by
        by_cases c2 : last < n
        · rw [decide_eq_false (show ¬ n < 40 by omega), Bool.false_and, Bool.and_false]
        · rw [decide_eq_false c2, Bool.false_and]
      rw [e2, if_neg (by decide)]
      refine Ev.step (f := fun _ => some ([], 2)) (fun m => ?_) (Ev.now _)
      simp only [spec_HeapGame.l0]
      rw [if_pos (by omega), if_pos (by omega), hr, hin, Option.bind_some, if_neg (by decide)]
theorem specHeap_ev (k : Int) (list : List Int) (hn : list.length < 4611686018427387904) : Ev (fun m => spec_HeapGame.f m k list) (heapOf k list) := by
  unfold spec_HeapGame.f heapOf
  rw [l01In_eq]
  refine Ev.bind (Ev.now _) ?_
  by_cases c : 0 ≤ k ∧ k ≤ 39
  · have e : (decide (0 ≤ k) && decide (k ≤ 39)) = true := by simp [c.1, c.2]
    rw [e]
    refine Ev.congr (fun m => by rw [if_pos rfl]) ?_
    rcases spec_checks k list c.1 c.2 hn list.length 0 0 (by omega) (fun _ => rfl) (fun p hp => by omega) with h | h
    · rw [List.drop_zero] at h
      by_cases o : okRow 0 40 list = true
      · rw [if_pos o, if_pos o] at h
        rw [if_pos ⟨c.1, c.2, o⟩]
        exact h
      · rw [if_neg o] at h
        rw [if_neg (fun x => o x.2.2)]
        exact h
    · rw [List.drop_zero] at h
      exact absurd h.1 h.2
  · have e : (decide (0 ≤ k) && decide (k ≤ 39)) = false := by rw [← Bool.decide_and, decide_eq_false c]
    rw [e, if_neg (fun x => c ⟨x.1, x.2.1⟩)]
    exact Ev.congr (f := fun _ => some ([], 2)) (fun m => by rw [if_neg (by decide)]) (Ev.now _)
theorem implHeap_ev (k : Int) (list : List Int) (hn : list.length < 4611686018427387904) : Ev (fun m => impl_HeapGame.f m k list) (heapOf k list) := by
  unfold impl_HeapGame.f heapOf
  rw [within_eq]
  refine Ev.bind (Ev.now _) ?_
  have bad : Ev (fun m => impl_HeapGame.j0 m k list true) ([], 2) := by
    refine Ev.step (f := fun _ => some ([], 2)) (fun m => ?_) (Ev.now _)
    simp only [impl_HeapGame.j0]
    rw [if_pos trivial]
  by_cases c : 0 ≤ k ∧ k ≤ 39
  · have e : (decide (0 ≤ k) && decide (k ≤ 39)) = true := by simp [c.1, c.2]
    rw [e]
    have hr := rising_ev list 1 39 hn
    refine Ev.congr (fun m => by rw [if_pos rfl]) (Ev.bind hr ?_)
    by_cases o : okRow 0 40 list = true
    · rw [if_pos ⟨c.1, c.2, o⟩, show okRow (1 - 1) (39 + 1) list = true from o]
      have hq := rows_ok o
      refine Ev.step (fun m => ?_) (iheap_loop k list c.1 c.2 hq.1 hq.2 (k + 1).toNat 0 (by omega))
      simp only [impl_HeapGame.j0]
      rw [if_neg (by decide), wrapS (by omega) (by omega)]
      rfl
    · have of_ : okRow 0 40 list = false := by simpa using o
      rw [if_neg (fun x => o x.2.2), show okRow (1 - 1) (39 + 1) list = false from of_]
      exact bad
  · have e : (decide (0 ≤ k) && decide (k ≤ 39)) = false := by rw [← Bool.decide_and, decide_eq_false c]
    rw [e, if_neg (fun x => c ⟨x.1, x.2.1⟩)]
    exact Ev.congr (fun m => by rw [if_neg (by decide)]) bad
theorem heapOf_size (k : Int) (list : List Int) : (heapOf k list).1.length ≤ 40 ∧ ∀ row ∈ (heapOf k list).1, row.length ≤ 39 := by
  unfold heapOf
  by_cases c : 0 ≤ k ∧ k ≤ 39 ∧ okRow 0 40 list = true
  · rw [if_pos c]
    refine ⟨by show (heapRows k list (k + 1).toNat).length ≤ 40; rw [heapRows_len]; omega, fun row hr => ?_⟩
    obtain ⟨i, _, rfl⟩ := List.mem_map.1 hr
    have := heapRow_len k list (i : Int)
    have := (rows_ok c.2.2).1
    omega
  · rw [if_neg c]
    exact ⟨by simp, fun row hr => by simp at hr⟩

end Go.Proofs.Ytlicbcaloebhlaa.PX

/- The law FnExactHeapGame holds of every number and list: both sides tell the same. -/
namespace Go.Proofs.Ytlicbcaloebhlaa.PX
open Go.RowKit Go.Proofs.YtlicbcaloebhlaaW.PrintWords Go.Proofs.YtlicbcaloebhlaaW.PrintLast Go.Proofs.YtlicbcaloebhlaaW.PrintMore
theorem laws_FnExactHeapGame.done (a0 : Int) (A1 : Option Addr) (c1 : Nat) (l1 : List Int) (w : World) (hr1 : Kd.C (Kd.int .i64) w A1 l1.length l1) (hc1 : l1.length ≤ c1)
    (_hw0 : (Lit.int .i64 a0).wf = true) (hW : (l1.length ≤ 9223372036854775807 ∧ ∀ x0 ∈ l1, (Lit.int .i64 x0).wf = true)) :
    Calls Try.prog 14 #[.int .i64 a0, .slice A1 l1.length c1] w fun e w' => e = .returned (.bool true) ∧ Below w.heap.size w w' := by
  by_cases hn : 1048576 < (l1.length : Int)
  · exact laws_FnExactHeapGame.early0_of a0 A1 c1 l1 w hr1 hc1 (decide_eq_true hn)
  · have hs := heapOf_size a0 l1
    have ht := total_le 39 (heapOf a0 l1).1 hs.2
    have h0 := total_nonneg (heapOf a0 l1).1
    have hT := toI_ev l1 (by omega)
    exact laws_FnExactHeapGame.good_of a0 A1 c1 l1 (heapOf a0 l1).1 (heapOf a0 l1).2 (1 + (l1.length : Int)) (1 + total (heapOf a0 l1).1) w hr1 hc1 (decide_eq_false hn) hT (specHeap_ev a0 l1 (by omega)) (implHeap_ev a0 l1 (by omega))
      (eqG_ev _ (fun row hr => by have := hs.2 row hr; omega) (by omega)) (eqI_ev l1 (by omega)) (by simp; omega) (mark_ev l1 1 (by omega) (by omega)) (by simp; omega) (by omega) (by omega) rfl (heldG_ev _ 1 (by omega) (by omega) (by omega))

end Go.Proofs.Ytlicbcaloebhlaa.PX

/- The row of FnExactHeapGame, out of its plain law (no condition). -/
namespace Go.Proofs.Ytlicbcaloebhlaa.fnExactHeapGame
open Go.ChangeShapes Go.WideShapes Go.ChangeAt Go.RowKit
open Go.ChangeMaps (open_string shut_string)
set_option linter.unusedVariables false
theorem own : ownKnob Try.prog.godebug = none := by kernel_rfl
theorem laid : laidOutB Try.prog = true := by kernel_rfl
set_option maxRecDepth 100000 in
theorem lifted (os : Os) (started : os.Started) (H : Type) (enc : TypeId × Value → H) :
    ReturnsInHanded {} Try.checked os 14 .any (Rows.fnExactHeapGameSpec.pre6 enc Try.prog Try.f14 Rows.fnExactHeapGameRow.domain false) (Rows.fnExactHeapGameSpec.post enc Try.prog Try.f14 false true false false) := by
  refine returnsInHanded_of_change_sized (C := Try.checked) own started (by kernel_rfl) Try.func14
    (ChangeSpec.witness6 (enc := enc) (C := Try.checked) false ⟨#[], #[.int .i64 0, .slice none 0 0], []⟩ 8 (by kernel_rfl) (by kernel_rfl) (by kernel_rfl) (by kernel_rfl)) ?_
  intro W base args ds gs before hval0 hW hcnd hsz0 _
  have hsz : (DataW.weightsEach Try.prog (Try.f14.params.toList ++ Rows.fnExactHeapGameSpec.plain.varTypes Try.prog) (ds ++ gs)).all (· ≤ reachBytes) = true := hsz0
  have hval : ∀ (j : Nat) t v, Try.f14.params[j]? = some t → args[j]? = some v → Value.okWide Try.prog W .any base t v := hval0
  have hW' := hW
  obtain ⟨p, q, hA0, hV, rfl, hfz, hnd⟩ := hW
  have hA : DataW.TrodAll enc Try.prog W 0 (fun _ => true) true Try.f14.params.toList args.toList ds p := hA0
  rw [Try.params14] at hA hval hsz
  obtain ⟨v0, vs0, d0, ds0, p0, q0, hargs, rfl, rfl, h0, r0⟩ := trodAll_cons hA
  obtain ⟨v1, vs1, d1, ds1, p1, q1, rfl, rfl, rfl, h1, r1⟩ := trodAll_cons r0
  obtain ⟨rfl, rfl, rfl⟩ := trodAll_nil r1
  obtain rfl : args = #[v0, v1] := by cases args; simp_all
  obtain ⟨rfl, rfl⟩ := trodVars_none hV
  have hk1 := h1
  have hlt1 : ∀ x ∈ p1, x.block < W.heap.size := fun x hx => hW'.lt x (by simp [hx])
  obtain ⟨a0, rfl, rfl, rfl, w0⟩ := open_int Try.underlying2 (hval 0 2 v0 rfl rfl) h0
  obtain ⟨fu1, hf1⟩ := h1
  obtain ⟨aa1, ll1, cc1, rfl⟩ := okWide_slice Try.underlying31 (hval 1 31 v1 rfl rfl)
  obtain ⟨A1, n1, l1, e1, hc1, hr1, w1⟩ := Go.Proofs.Ytlicbcaloebhlaa.Opens.opened_slice Try.underlying31 (by kernel_rfl) (Go.Proofs.Ytlicbcaloebhlaa.Opens.opens_int Try.underlying2) (show DataW.trod enc Try.prog W 0 (fun _ => true) true fu1 31 [.slice aa1 ll1 cc1] = _ from hf1)
  obtain ⟨rfl, rfl, rfl⟩ : aa1 = A1 ∧ ll1 = l1.length ∧ cc1 = n1 := by simpa using e1
  clear hA0 hval0 hsz0 hsz
  refine (PX.laws_FnExactHeapGame.done a0 _ _ l1 W hr1 hc1 w0 w1).mono fun e W' ⟨he, bel0⟩ => ?_
  have bel : Below W.heap.size W W' := bel0
  subst he
  exact ⟨_, rfl, _, _, _, [], _, [], hW', trodAll_mk1 (shut_bool Try.underlying4 _), (trodAll_cons_mk (shut_int Try.underlying2 w0) (trodAll_cons_mk (Below.trod laid (by kernel_rfl) (of_decide_eq_true (by kernel_rfl)) hk1 bel hlt1) trodAll_mk0)), rfl, bel.frame _, fun h => by cases h⟩
theorem over : Rows.fnExactHeapGameRow.holds Try.pinned (OpenSpec.ofChange Rows.fnExactHeapGameSpec) :=
  OpenClaim.holds_of_wide 14 Try.f14 rfl rfl rfl rfl rfl rfl rfl ⟨rfl, rfl, rfl, rfl, rfl⟩ rfl rfl rfl rfl rfl (by kernel_rfl) Try.func14 (by kernel_rfl)
    (of_decide_eq_true (by kernel_rfl)) (by unfold Func.isWrapper; first | (rw [if_pos (by decide +kernel)]; kernel_rfl) | (rw [if_neg (by decide +kernel)]; exact ⟨rfl, rfl⟩))
    (fun os started H enc _ => lifted os started H enc)
theorem proved : Rows.FnExactHeapGameSaid := over
#print axioms proved
end Go.Proofs.Ytlicbcaloebhlaa.fnExactHeapGame
namespace Go.Proofs.Ytlicbcaloebhlaa
/-- The row, under a short name, for the claim. -/
theorem fnExactHeapGame_holds : Rows.FnExactHeapGameSaid := fnExactHeapGame.proved
end Go.Proofs.Ytlicbcaloebhlaa
