/- The row of FnExactLengthsOf, out of its plain law (no condition). -/
import Derived.Deep.Slices
import Derived.Lib.SmallJoins
import Derived.Test.YtlicbcaloebhlaaWWords
import Derived.Test.YtlicbcaloebhlaaWShare
import Derived.Test.YtlicbcaloebhlaaRows
import Derived.Test.YtlicbcaloebhlaaPXx0
import Derived.Test.YtlicbcaloebhlaaPXx11
import Derived.Test.YtlicbcaloebhlaaWGuard
import Derived.Test.YtlicbcaloebhlaaPXx1
import Derived.Test.YtlicbcaloebhlaaPXx3
import Derived.Test.YtlicbcaloebhlaaPXx5
import Derived.Test.YtlicbcaloebhlaaPXx4
import Derived.Test.YtlicbcaloebhlaaFunLib
import Derived.Test.YtlicbcaloebhlaaPXx24
import Derived.Test.YtlicbcaloebhlaaPXx2
import Derived.Test.YtlicbcaloebhlaaPXx12
import Derived.Test.YtlicbcaloebhlaaPXx13
import Derived.Test.YtlicbcaloebhlaaPXx14
import Derived.Test.YtlicbcaloebhlaaPXx15
import Derived.Test.YtlicbcaloebhlaaGBackB
import Derived.Test.YtlicbcaloebhlaaPXx9
import Derived.Test.YtlicbcaloebhlaaPXx7
import Derived.Test.YtlicbcaloebhlaaGareNumbers
import Derived.WalkKit
import Derived.ProofKit
import Derived.OpenShut
import Derived.ShutString
import Derived.ChangeOld
import Derived.Below
import Derived.Carry
import Derived.SizedLaws
/- A parameter's nested slices, read off its datum: what the row hands over, as the print's contracts ask it (no condition). -/
namespace Go.Proofs.Ytlicbcaloebhlaa.Opens
open Go.RowKit Go.ChangeShapes Go.WideShapes Go.ChangeAt Go.Deep Go.WideElems Go.Joins Go.Proofs.YtlicbcaloebhlaaW.PrintWords
set_option linter.unusedVariables false
set_option linter.unusedSimpArgs false
variable {H : Type} {enc : TypeId × Value → H} {P : Program} {w : World} {base : Nat} {spare : Nat → Bool} {held : Bool}

/-- What a datum of type t says: its cells read as some x of the kind d, of which Q holds. -/
def Opens (enc : TypeId × Value → H) (P : Program) (w : World) (base : Nat) (spare : Nat → Bool) (held : Bool) {α : Type} (t : TypeId) (d : Kd α) (Q : α → Prop) : Prop :=
  ∀ n cs y, DataW.trod enc P w base spare held n t cs = some y → ∃ x, d.K w x cs ∧ Q x

theorem opens_int {t : TypeId} {k : IntKind} (ht : P.underlying t = some (.int k)) : Opens enc P w base spare held t (Kd.int k) (fun x => (Lit.int k x).wf = true) := by
  intro n cs y h
  obtain ⟨x, rfl, _, hw⟩ := DataW.trod_int ht h
  exact ⟨x, rfl, hw⟩

theorem choose_list {α : Type} {R : Nat → α → Prop} : ∀ (n : Nat), (∀ i, i < n → ∃ x, R i x) → ∃ xs : List α, xs.length = n ∧ ∀ i x, xs[i]? = some x → R i x
  | 0, _ => ⟨[], rfl, fun i x h => by simp at h⟩
  | n + 1, h => by
    obtain ⟨xs, hl, hx⟩ := choose_list n (fun i hi => h i (Nat.lt_succ_of_lt hi))
    obtain ⟨x, hn⟩ := h n (Nat.lt_succ_self n)
    refine ⟨xs ++ [x], by simp [hl], fun i z hz => ?_⟩
    rcases Nat.lt_or_ge i xs.length with hi | hi
    · rw [List.getElem?_append_left hi] at hz
      exact hx i z hz
    · rw [List.getElem?_append_right hi] at hz
      have : i - xs.length = 0 := by
        rcases Nat.eq_zero_or_pos (i - xs.length) with e | e
        · exact e
        · rw [List.getElem?_eq_none (by simp; omega)] at hz
          exact absurd hz (by simp)
      rw [this] at hz
      have hz' : x = z := by simpa using hz
      subst hz'
      have : i = n := by omega
      subst this
      exact hn

theorem opens_slice {α : Type} {t e : TypeId} {d : Kd α} {Q : α → Prop} (ht : P.underlying t = some (.slice e)) (hc : P.cellsOf e = d.sz) (he : Opens enc P w base spare held e d Q) :
    Opens enc P w base spare held t (Kd.slice e d) (fun xs => xs.length ≤ 9223372036854775807 ∧ ∀ x ∈ xs, Q x) := by
  intro n cs y h
  rcases open_slice ht h with ⟨rfl, rfl⟩ | ⟨a, len, cap, m, n', D, Pl, rfl, hb, hl, hm, hmm, hx, hall⟩
  · exact ⟨[], ⟨none, 0, rfl, Nat.le_refl _, rfl, by simp, fun h => absurd h (by simp)⟩, by simp, fun x hx => by simp at hx⟩
  · have hlm : len ≤ m := by rw [hmm]; split <;> omega
    have hch : ∀ i, i < len → ∃ x : α, (∃ c, c.length = d.sz ∧ d.K w x c ∧ ∀ j u, c[j]? = some u → w.cell? (a.add (i * d.sz + j)) = some u) ∧ Q x := by
      intro i hi
      obtain ⟨cs', hcs, htr⟩ := hall i (by omega)
      obtain ⟨x, hK, hQ⟩ := he _ _ _ htr
      refine ⟨x, ⟨cs', d.K_len hK, hK, fun j u hu => ?_⟩, hQ⟩
      have hj : j < P.cellsOf e := by
        rw [hc, ← d.K_len hK]
        exact (List.getElem?_eq_some_iff.1 hu).1
      have h3 := (World.cells?_some hcs).2.2 j hj
      rw [Addr.add_add, hc] at h3
      rw [h3, hu]
    obtain ⟨xs, hlen, hxs⟩ := choose_list len hch
    subst hlen
    refine ⟨xs, ⟨some a, cap, rfl, hl, rfl, by simp only [maxLen] at hm; omega, fun _ => ⟨a, rfl, fun j p hj => (hxs j p hj).1⟩⟩, by simp only [maxLen] at hm; omega, fun x hx => ?_⟩
    obtain ⟨i, hi, hix⟩ := List.getElem_of_mem hx
    exact (hxs i x (by rw [List.getElem?_eq_getElem hi, hix])).2

/-- A field that is a slice: its value written out, and how it reads. -/
theorem opened_slice {α : Type} {t e : TypeId} {d : Kd α} {Q : α → Prop} (ht : P.underlying t = some (.slice e)) (hc : P.cellsOf e = d.sz) (he : Opens enc P w base spare held e d Q) {n : Nat} {v : Value} {y : DataW H × List MemPlace}
    (h : DataW.trod enc P w base spare held n t [v] = some y) : ∃ A c, ∃ xs : List α, v = .slice A xs.length c ∧ xs.length ≤ c ∧ Kd.C d w A xs.length xs ∧ xs.length ≤ 9223372036854775807 ∧ ∀ x ∈ xs, Q x := by
  obtain ⟨xs, ⟨A, c, e1, hl, hC⟩, hQ⟩ := opens_slice ht hc he _ _ _ h
  simp only [List.cons.injEq, and_true] at e1
  exact ⟨A, c, xs, e1, hl, hC, hQ⟩
/-- A struct of one field of one cell, by value. -/
theorem open_agg1 {r : Reach} {b0 : Nat} {t : TypeId} {f0 : Field} {v : Value} {d : DataW H} {p : List MemPlace} (hs : P.underlying t = some (.struct #[f0])) (hone : oneCellFields P #[f0] = true) (hC : P.cellsOf t = 1)
    (hv : Value.okWide P w r b0 t v) (h : DataW.Trod enc P w base spare held t v d p) :
    ∃ (v0 : Value) (y0 : DataW H × List MemPlace) (n : Nat), v = .agg #[v0] ∧ d = .agg [y0.1] ∧ p = y0.2 ∧ DataW.trod enc P w base spare held n f0.type [v0] = some y0 := by
  obtain ⟨cs, rfl, hsz⟩ := okWide_struct hs hv
  obtain ⟨c0, rfl⟩ : ∃ c0, cs = #[c0] := by
    obtain ⟨l⟩ := cs
    match l, (hsz.trans hC) with
    | [c0], _ => exact ⟨c0, rfl⟩
  obtain ⟨fuel, hf⟩ := h
  obtain ⟨xs, n, _, rfl', hl, hlen, hx⟩ := DataW.trod_struct hs hf
  match xs, hlen with
  | [y0], _ =>
    have h0 := hx 0 f0 rfl
    obtain ⟨o0, k0⟩ := hone_of hone 0 f0 rfl
    simp only [Prod.mk.injEq] at rfl'
    refine ⟨c0, y0, n, rfl, by simpa using rfl'.1, by simpa using rfl'.2, ?_⟩
    simpa [Value.cells, o0, k0] using h0
end Go.Proofs.Ytlicbcaloebhlaa.Opens

/- Blocks between two numbers: what was made by one call. -/
namespace Go.Proofs.Ytlicbcaloebhlaa.PX
open Go.RowKit Go.Proofs.YtlicbcaloebhlaaW.PrintWords Go.Proofs.YtlicbcaloebhlaaW.PrintLast Go.Proofs.YtlicbcaloebhlaaW.PrintMore
attribute [local go_sem] max2_int min2_int max_two min_two max_three min_three max_four min_four
set_option linter.unusedVariables false
set_option linter.unusedSimpArgs false
def Ivl (lo hi : Nat) : Nat → Prop := fun k => lo ≤ k ∧ k < hi
theorem R_ivl {α : Type} {d : Kd α} {e b : Nat} {W W' : World} {ok : Nat → Prop} {v : Value} {xs : List α} (h : Kd.R d e W' W.heap.size ok v xs) (hb : b ≤ W.heap.size) : Kd.R d e W' b (Ivl W.heap.size W'.heap.size) v xs :=
  Kd.R_lower (Kd.R_mono (Kd.R_bound h) (fun _ hk => ⟨hk.2.1, hk.2.2.1⟩)) hb
theorem S_ivl {α : Type} {d : Kd α} {e b : Nat} {W W' : World} {ok : Nat → Prop} {v : Value} {xs : List α} (h : Kd.S d e W' W.heap.size ok v xs) (hb : b ≤ W.heap.size) : Kd.S d e W' b (Ivl W.heap.size W'.heap.size) v xs :=
  Kd.S_lower (Kd.S_mono (Kd.S_bound h) (fun _ hk => ⟨hk.2.1, hk.2.2.1⟩)) hb
theorem calls_below {P : Program} {f : FuncId} {args : Array Value} {w : World} {x : Ending} (h : Calls P f args w fun e w' => e = x ∧ Drawn0 w w') : Calls P f args w fun e w' => e = x ∧ Below w.heap.size w w' :=
  h.mono fun _ _ h => ⟨h.1, h.2.below⟩

end Go.Proofs.Ytlicbcaloebhlaa.PX

/- Plain lemmas on the printed functions that many laws of games share: what wraps, what marks, what equals itself (no condition). -/
namespace Go.Proofs.Ytlicbcaloebhlaa.PX
open Go.RowKit Go.Proofs.YtlicbcaloebhlaaW.PrintWords Go.Proofs.YtlicbcaloebhlaaW.PrintLast Go.Proofs.YtlicbcaloebhlaaW.PrintMore
attribute [local go_sem] max2_int min2_int max_two min_two max_three min_three max_four min_four
set_option linter.unusedVariables false
set_option linter.unusedSimpArgs false
theorem wrapS {i : Int} (h0 : -9223372036854775808 ≤ i) (h : i < 9223372036854775808) : wrap64 i = i := by
  unfold wrap64
  omega
theorem rd_nat (xs : List Int) (i : Nat) : rd xs (i : Int) = xs.getD i 0 := by unfold rd; rfl
theorem rdL1_nat (xs : List (List Int)) (i : Nat) : rd_L1 xs (i : Int) = xs.getD i [] := by unfold rd_L1; rfl
theorem getD_of {α : Type} {xs : List α} {i : Nat} {x d : α} (h : xs[i]? = some x) : xs.getD i d = x := by rw [List.getD_eq_getElem?_getD, h]; rfl
theorem drop_of {α : Type} {xs : List α} {i : Nat} {x : α} (h : xs[i]? = some x) : xs.drop i = x :: xs.drop (i + 1) := by
  obtain ⟨hl, e⟩ := List.getElem?_eq_some_iff.1 h
  rw [List.drop_eq_getElem_cons hl, e]
theorem get_some {α : Type} {xs : List α} {i : Nat} (h : i < xs.length) : ∃ x, xs[i]? = some x := ⟨xs[i], List.getElem?_eq_getElem h⟩
theorem cast_succ (i : Nat) : ((i : Int) + 1) = ((i + 1 : Nat) : Int) := by omega

end Go.Proofs.Ytlicbcaloebhlaa.PX

/- Marks laid into lists of whole numbers, and looked for (no condition but sizes that fit). -/
namespace Go.Proofs.Ytlicbcaloebhlaa.PX
open Go.RowKit Go.Proofs.YtlicbcaloebhlaaW.PrintWords Go.Proofs.YtlicbcaloebhlaaW.PrintLast Go.Proofs.YtlicbcaloebhlaaW.PrintMore
attribute [local go_sem] max2_int min2_int max_two min_two max_three min_three max_four min_four
set_option linter.unusedVariables false
set_option linter.unusedSimpArgs false
/-- The marks that the law lays: a, a + 1, .. -/
def marks (a : Int) (n : Nat) : List Int := (List.range n).map fun (i : Nat) => a + (i : Int)
theorem marks_length (a : Int) (n : Nat) : (marks a n).length = n := by simp [marks]
theorem mark_loop (xs : List Int) (a : Int) (ha : 0 ≤ a) (hn : a + xs.length < 4611686018427387904) (d : Nat) : ∀ (i : Nat), i + d = xs.length →
    Ev (fun k => laws_markInt64S.l0 k (marks a i ++ xs.drop i) (a + i) i) (a + (xs.length : Int), marks a xs.length) := by
  induction d with
  | zero =>
    intro i hd
    have hi : i = xs.length := by omega
    subst hi
    refine Ev.step (f := fun _ => some (a + (xs.length : Int), marks a xs.length)) (fun k => ?_) (Ev.now _)
    simp only [laws_markInt64S.l0]
    rw [if_neg (by simp [marks_length])]
    simp
  | succ d ih =>
    intro i hd
    refine Ev.step (fun k => ?_) (ih (i + 1) (by omega))
    simp only [laws_markInt64S.l0]
    rw [if_pos (by simp only [List.length_append, marks_length, List.length_drop]; omega), if_pos (by omega), wrapS (by omega) (by omega), wrapS (by omega) (by omega)]
    have hs : (marks a i ++ xs.drop i).set ((i : Int)).toNat (a + i) = marks a (i + 1) ++ xs.drop (i + 1) := by
      have hl : i < xs.length := by omega
      have e1 : ((i : Int)).toNat = (marks a i).length := by rw [marks_length]; omega
      rw [List.drop_eq_getElem_cons hl, e1, List.set_append_right _ _ (Nat.le_refl _)]
      simp only [Nat.sub_self, List.set_cons_zero]
      simp [marks, List.range_succ]
    rw [hs, show a + ((i + 1 : Nat) : Int) = a + i + 1 by omega, cast_succ]
theorem mark_ev (xs : List Int) (a : Int) (ha : 0 ≤ a) (hn : a + xs.length < 4611686018427387904) : Ev (fun k => laws_markInt64S.f k xs a) (a + (xs.length : Int), marks a xs.length) := by
  refine Ev.congr (fun k => ?_) (mark_loop xs a ha hn xs.length 0 (by omega))
  unfold laws_markInt64S.f
  simp [marks]
theorem held_loop (n : Nat) (a : Int) (ha : 0 ≤ a) (hn : a + n < 4611686018427387904) (d : Nat) : ∀ (i : Nat), i + d = n →
    Ev (fun k => laws_heldInt64S.l0 k (marks a n) (a + i) i) (a + (n : Int)) := by
  induction d with
  | zero =>
    intro i hd
    have : i = n := by omega
    subst this
    refine Ev.step (f := fun _ => some (a + (i : Int))) (fun k => ?_) (Ev.now _)
    simp only [laws_heldInt64S.l0]
    rw [if_neg (by rw [marks_length]; omega)]
  | succ d ih =>
    intro i hd
    refine Ev.step (fun k => ?_) (ih (i + 1) (by omega))
    simp only [laws_heldInt64S.l0]
    have hr : rd (marks a n) (i : Int) = a + i := by
      have hl : i < n := by omega
      simp [rd, marks, hl]
    rw [if_pos (by rw [marks_length]; omega), if_pos (by omega), if_pos hr, wrapS (by omega) (by omega), wrapS (by omega) (by omega), show a + ((i + 1 : Nat) : Int) = a + i + 1 by omega, cast_succ]
theorem held_ev (n : Nat) (a : Int) (ha : 0 ≤ a) (hn : a + n < 4611686018427387904) : Ev (fun k => laws_heldInt64S.f k (marks a n) a) (a + (n : Int)) := by
  refine Ev.congr (fun k => ?_) (held_loop n a ha hn n 0 (by omega))
  unfold laws_heldInt64S.f
  simp

end Go.Proofs.Ytlicbcaloebhlaa.PX

/- What the laws do with lists of whole numbers: copied, compared, marked, held; their sizes counted (no condition but sizes that fit). -/
namespace Go.Proofs.Ytlicbcaloebhlaa.PX
open Go.RowKit Go.Proofs.YtlicbcaloebhlaaW.PrintWords Go.Proofs.YtlicbcaloebhlaaW.PrintLast Go.Proofs.YtlicbcaloebhlaaW.PrintMore
attribute [local go_sem] max2_int min2_int max_two min_two max_three min_three max_four min_four
set_option linter.unusedVariables false
set_option linter.unusedSimpArgs false
theorem ev_from {α : Type} {g : Nat → Option α} {r : α} (n : Nat) (h : ∀ m, g (n + 1 + m) = some r) : Ev g r := ⟨n + 1, fun k hk => by
  have := h (k - (n + 1))
  rw [show n + 1 + (k - (n + 1)) = k by omega] at this
  exact this⟩
theorem eqI_loop (xs : List Int) (hn : xs.length < 4611686018427387904) (d : Nat) : ∀ i : Nat, i + d = xs.length → Ev (fun k => laws_eqInt64S.l0 k xs xs (i : Int)) true := by
  induction d with
  | zero =>
    intro i hd
    refine Ev.step (f := fun _ => some true) (fun k => ?_) (Ev.now true)
    simp only [laws_eqInt64S.l0]; rw [if_neg (by omega)]
  | succ d ih =>
    intro i hd
    refine Ev.step (fun k => ?_) (ih (i + 1) (by omega))
    simp only [laws_eqInt64S.l0]; rw [if_pos (by omega), if_pos (by omega), if_pos (by omega), if_true, wrapS (by omega) (by omega), cast_succ]
theorem eqI_ev (xs : List Int) (hn : xs.length < 4611686018427387904) : Ev (fun k => laws_eqInt64S.f k xs xs) true := by
  refine Ev.congr (fun k => ?_) (eqI_loop xs hn xs.length 0 (by omega))
  unfold laws_eqInt64S.f
  rw [if_pos rfl]; rfl
theorem toI_loop (xs : List Int) (hn : xs.length < 4611686018427387904) (d : Nat) : ∀ i : Nat, i + d = xs.length → Ev (fun k => laws_toInt64S.l0 k xs (xs.take i ++ List.replicate d 0) (i : Int)) xs := by
  induction d with
  | zero =>
    intro i hd
    rw [List.take_of_length_le (by omega)]
    refine Ev.step (f := fun _ => some xs) (fun k => ?_) (Ev.now xs)
    simp only [laws_toInt64S.l0]; rw [if_neg (by omega)]; simp
  | succ d ih =>
    intro i hd
    obtain ⟨x, hx⟩ := get_some (xs := xs) (i := i) (by omega)
    have hrx : rd xs (i : Int) = x := by rw [rd_nat]; exact getD_of hx
    have hl : (xs.take i).length = i := by rw [List.length_take]; omega
    refine Ev.step (fun k => ?_) (ih (i + 1) (by omega))
    simp only [laws_toInt64S.l0]
    rw [if_pos (by omega), if_pos (by omega), if_pos (by rw [List.length_append, hl, List.length_replicate]; omega), wrapS (by omega) (by omega), hrx, cast_succ]
    have e : (xs.take i ++ List.replicate (d + 1) 0).set ((i : Int)).toNat x = xs.take (i + 1) ++ List.replicate d 0 := by
      have e1 : ((i : Int)).toNat = (xs.take i).length := by rw [hl]; omega
      rw [e1, List.set_append_right _ _ (Nat.le_refl _), Nat.sub_self, List.replicate_succ, List.set_cons_zero]
      obtain ⟨hlt, hxe⟩ := List.getElem?_eq_some_iff.1 hx
      rw [List.take_succ_eq_append_getElem hlt, hxe]
      simp
    rw [e]
theorem toI_ev (xs : List Int) (hn : xs.length ≤ 1048576) : Ev (fun k => laws_toInt64S.f k xs) xs := by
  refine Ev.congr (fun k => ?_) (toI_loop xs (by omega) xs.length 0 (by omega))
  unfold laws_toInt64S.f
  rw [if_pos (by omega), if_pos (by omega)]
  simp
theorem szI_eq (xs : List Int) (a : Int) (h0 : 0 ≤ a) (h1 : a ≤ 1048576) (hn : xs.length ≤ 9223372036854775807) : laws_szInt64S.f xs a = some (if a - xs.length < 0 then -1 else a - xs.length) := by
  unfold laws_szInt64S.f
  rw [wrapS (by omega) (by omega)]
  split <;> rfl

end Go.Proofs.Ytlicbcaloebhlaa.PX

/- What the laws do with games: sizes counted, copied, compared (no condition but sizes that fit). -/
namespace Go.Proofs.Ytlicbcaloebhlaa.PX
open Go.RowKit Go.Proofs.YtlicbcaloebhlaaW.PrintWords Go.Proofs.YtlicbcaloebhlaaW.PrintLast Go.Proofs.YtlicbcaloebhlaaW.PrintMore
attribute [local go_sem] max2_int min2_int max_two min_two max_three min_three max_four min_four
set_option linter.unusedVariables false
set_option linter.unusedSimpArgs false
def total : List (List Int) → Int
  | [] => 0
  | row :: rest => row.length + total rest
theorem total_nonneg : ∀ g : List (List Int), 0 ≤ total g
  | [] => by simp [total]
  | row :: rest => by have := total_nonneg rest; simp only [total]; omega
theorem total_mem {g : List (List Int)} {row : List Int} (h : row ∈ g) : (row.length : Int) ≤ total g := by
  induction g with
  | nil => simp at h
  | cons x rest ih =>
    simp only [total]
    have := total_nonneg rest
    rcases List.mem_cons.1 h with rfl | h
    · omega
    · have := ih h
      omega
theorem szSS_loop (g : List (List Int)) (hl : ∀ row ∈ g, row.length ≤ 9223372036854775807) (hg : g.length ≤ 1048576) (d : Nat) : ∀ (i : Nat) (a : Int), i + d = g.length → 0 ≤ a → a ≤ 1048576 →
    ∃ t, Ev (fun k => laws_szInt64SS.l0 k g a (i : Int)) t ∧ (t < 0 ∨ (0 ≤ t ∧ total (g.drop i) ≤ a)) := by
  induction d with
  | zero =>
    intro i a hd h0 h1
    refine ⟨a, Ev.step (f := fun _ => some a) (fun k => ?_) (Ev.now a), .inr ⟨h0, ?_⟩⟩
    · simp only [laws_szInt64SS.l0]; rw [if_neg (by omega)]
    · rw [List.drop_eq_nil_of_le (by omega)]; exact h0
  | succ d ih =>
    intro i a hd h0 h1
    obtain ⟨row, hp⟩ := get_some (xs := g) (i := i) (by omega)
    have hr : rd_L1 g (i : Int) = row := by rw [rdL1_nat]; exact getD_of hp
    have hs := szI_eq row a h0 h1 (hl row (List.mem_of_getElem? hp))
    have h2 : ∀ k, laws_szInt64SS.l0 (k + 1) g a (i : Int) = (if (if a - (row.length : Int) < 0 then -1 else a - row.length) < 0 then (some (-1)) else (laws_szInt64SS.l0 k g (if a - (row.length : Int) < 0 then -1 else a - row.length) ((i + 1 : Nat) : Int))) := fun k => by
      simp only [laws_szInt64SS.l0]
      rw [if_pos (by omega), if_pos (by omega), hr, hs, wrapS (by omega) (by omega), cast_succ]
      rfl
    rw [drop_of hp]
    simp only [total]
    by_cases c : a - (row.length : Int) < 0
    · exact ⟨-1, Ev.step (f := fun _ => some (-1)) (fun k => by rw [h2, if_pos c]; rfl) (Ev.now _), .inl (by omega)⟩
    · obtain ⟨t, ht, hor⟩ := ih (i + 1) (a - row.length) (by omega) (by omega) (by omega)
      refine ⟨t, Ev.step (fun k => by rw [h2, if_neg c, if_neg c]) ht, ?_⟩
      rcases hor with hor | hor
      · exact .inl hor
      · exact .inr ⟨hor.1, by omega⟩
theorem szG_ev (g : List (List Int)) (hg : g.length ≤ 9223372036854775807) (hl : ∀ row ∈ g, row.length ≤ 9223372036854775807) :
    ∃ t, Ev (fun k => laws_szGame.f k g 1048576) t ∧ (t < 0 ∨ (0 ≤ t ∧ g.length ≤ 1048576 ∧ total g ≤ 1048576)) := by
  by_cases c : (1048576 : Int) - g.length < 0
  · refine ⟨-1, Ev.congr (f := fun _ => some (-1)) (fun k => ?_) (Ev.now _), .inl (by omega)⟩
    unfold laws_szGame.f laws_szInt64SS.f
    rw [wrapS (by omega) (by omega), if_pos c]; rfl
  · obtain ⟨t, ht, hor⟩ := szSS_loop g hl (by omega) g.length 0 (1048576 - g.length) (by omega) (by omega) (by omega)
    have hS : Ev (fun k => laws_szInt64SS.f k g 1048576) t := Ev.congr (fun k => by unfold laws_szInt64SS.f; rw [wrapS (by omega) (by omega), if_neg c]; rfl) ht
    rcases hor with hor | hor
    · refine ⟨-1, ?_, .inl (by omega)⟩
      refine Ev.congr (f := fun k => (laws_szInt64SS.f k g 1048576).bind fun t => (if t < 0 then (some (-1)) else (some t))) (fun k => rfl) (Ev.bind hS ?_)
      exact Ev.congr (f := fun _ => some (-1)) (fun k => by rw [if_pos hor]) (Ev.now _)
    · refine ⟨t, ?_, .inr ⟨hor.1, by omega, by rw [List.drop_zero] at hor; omega⟩⟩
      refine Ev.congr (f := fun k => (laws_szInt64SS.f k g 1048576).bind fun t => (if t < 0 then (some (-1)) else (some t))) (fun k => rfl) (Ev.bind hS ?_)
      exact Ev.congr (f := fun _ => some t) (fun k => by rw [if_neg (by omega)]) (Ev.now _)
theorem toSS_loop (g : List (List Int)) (hl : ∀ row ∈ g, row.length ≤ 1048576) (hg : g.length ≤ 1048576) (d : Nat) : ∀ i : Nat, i + d = g.length → Ev (fun k => laws_toInt64SS.l0 k g (g.take i ++ List.replicate d []) (i : Int)) g := by
  induction d with
  | zero =>
    intro i hd
    rw [List.take_of_length_le (by omega)]
    refine Ev.step (f := fun _ => some g) (fun k => ?_) (Ev.now g)
    simp only [laws_toInt64SS.l0]; rw [if_neg (by omega)]; simp
  | succ d ih =>
    intro i hd
    obtain ⟨row, hp⟩ := get_some (xs := g) (i := i) (by omega)
    have hr : rd_L1 g (i : Int) = row := by rw [rdL1_nat]; exact getD_of hp
    have hlen : (g.take i).length = i := by rw [List.length_take]; omega
    refine Ev.step (f := fun k => (laws_toInt64S.f k row).bind fun t => laws_toInt64SS.l0 k g ((g.take i ++ List.replicate (d + 1) []).set ((i : Int)).toNat t) ((i + 1 : Nat) : Int)) (fun k => ?_) (Ev.bind (toI_ev row (hl row (List.mem_of_getElem? hp))) ?_)
    · simp only [laws_toInt64SS.l0]
      rw [if_pos (by omega), if_pos (by omega), hr, wrapS (by omega) (by omega), cast_succ]
      congr 1
      funext t
      rw [if_pos (by rw [List.length_append, hlen, List.length_replicate]; omega)]
    · refine Ev.congr (fun k => ?_) (ih (i + 1) (by omega))
      have e1 : ((i : Int)).toNat = (g.take i).length := by rw [hlen]; omega
      have e : (g.take i ++ List.replicate (d + 1) []).set ((i : Int)).toNat row = g.take (i + 1) ++ List.replicate d [] := by
        rw [e1, List.set_append_right _ _ (Nat.le_refl _), Nat.sub_self, List.replicate_succ, List.set_cons_zero]
        obtain ⟨hlt, hxe⟩ := List.getElem?_eq_some_iff.1 hp
        rw [List.take_succ_eq_append_getElem hlt, hxe]
        simp
      rw [e]
theorem toG_ev (g : List (List Int)) (hg : g.length ≤ 1048576) (ht : total g ≤ 1048576) : Ev (fun k => laws_toGame.f k g) g := by
  have hl : ∀ row ∈ g, row.length ≤ 1048576 := fun row h => by have := total_mem h; omega
  have h := toSS_loop g hl hg g.length 0 (by omega)
  have hS : Ev (fun k => laws_toInt64SS.f k g) g := Ev.congr (fun k => by unfold laws_toInt64SS.f; rw [if_pos (by omega), if_pos (by omega)]; simp) h
  exact Ev.congr (f := fun k => (laws_toInt64SS.f k g).bind fun t => some t) (fun k => rfl) (Ev.bind hS (Ev.now g))
theorem eqSS_loop (g : List (List Int)) (hl : ∀ row ∈ g, row.length < 4611686018427387904) (hg : g.length < 4611686018427387904) (d : Nat) : ∀ i : Nat, i + d = g.length → Ev (fun k => laws_eqInt64SS.l0 k g g (i : Int)) true := by
  induction d with
  | zero =>
    intro i hd
    refine Ev.step (f := fun _ => some true) (fun k => ?_) (Ev.now true)
    simp only [laws_eqInt64SS.l0]; rw [if_neg (by omega)]
  | succ d ih =>
    intro i hd
    obtain ⟨row, hp⟩ := get_some (xs := g) (i := i) (by omega)
    have hr : rd_L1 g (i : Int) = row := by rw [rdL1_nat]; exact getD_of hp
    refine Ev.step (f := fun k => (laws_eqInt64S.f k row row).bind fun t => if t = true then laws_eqInt64SS.l0 k g g ((i + 1 : Nat) : Int) else some false) (fun k => ?_) (Ev.bind (eqI_ev row (hl row (List.mem_of_getElem? hp))) ?_)
    · simp only [laws_eqInt64SS.l0]
      rw [if_pos (by omega), if_pos (by omega), if_pos (by omega), hr, wrapS (by omega) (by omega), cast_succ]
    · exact Ev.congr (fun k => by simp) (ih (i + 1) (by omega))
theorem eqG_ev (g : List (List Int)) (hl : ∀ row ∈ g, row.length < 4611686018427387904) (hg : g.length < 4611686018427387904) : Ev (fun k => laws_eqGame.f k g g) true := by
  have hS : Ev (fun k => laws_eqInt64SS.f k g g) true := Ev.congr (fun k => by unfold laws_eqInt64SS.f; rw [if_pos rfl]; rfl) (eqSS_loop g hl hg g.length 0 (by omega))
  exact Ev.congr (f := fun k => (laws_eqInt64SS.f k g g).bind fun t => if t = true then some true else some false) (fun k => rfl) (Ev.bind hS (Ev.congr (f := fun _ => some true) (fun k => by simp) (Ev.now true)))

end Go.Proofs.Ytlicbcaloebhlaa.PX

/- markInt64SS, a contract: the marks a, a + 1, .. lie in rows that lie apart, and nothing else has turned (conditions: the rows are the caller's own and apart; sizes fit). -/
namespace Go.Proofs.Ytlicbcaloebhlaa.PX
open Go.RowKit Go.Proofs.YtlicbcaloebhlaaW.PrintWords Go.Proofs.YtlicbcaloebhlaaW.PrintLast Go.Proofs.YtlicbcaloebhlaaW.PrintMore
attribute [local go_sem] max2_int min2_int max_two min_two max_three min_three max_four min_four
set_option linter.unusedVariables false
set_option linter.unusedSimpArgs false
/-- The marks, row by row. -/
def markL (a : Int) : List (List Int) → List (List Int)
  | [] => []
  | row :: rest => marks a row.length :: markL (a + row.length) rest
theorem markL_length : ∀ (a : Int) (g : List (List Int)), (markL a g).length = g.length
  | _, [] => rfl
  | a, row :: rest => by simp only [markL, List.length_cons, markL_length]
theorem total_append : ∀ (g h : List (List Int)), total (g ++ h) = total g + total h
  | [], h => by simp [total]
  | row :: rest, h => by simp only [List.cons_append, total, total_append rest h]; omega
theorem markL_append : ∀ (a : Int) (g h : List (List Int)), markL a (g ++ h) = markL a g ++ markL (a + total g) h
  | a, [], h => by simp [markL, total]
  | a, row :: rest, h => by
    simp only [List.cons_append, markL, total, markL_append _ rest h]
    rw [show a + (row.length : Int) + total rest = a + (row.length + total rest) by omega]
theorem take_snoc {α : Type} {xs : List α} {j : Nat} {x : α} (h : xs[j]? = some x) : xs.take (j + 1) = xs.take j ++ [x] := by
  obtain ⟨hl, e⟩ := List.getElem?_eq_some_iff.1 h
  rw [List.take_succ_eq_append_getElem hl, e]
theorem total_take (g : List (List Int)) (j : Nat) : 0 ≤ total (g.take j) ∧ total (g.take j) ≤ total g := by
  have h1 := total_nonneg (g.take j)
  have h2 := total_nonneg (g.drop j)
  have h3 : total g = total (g.take j) + total (g.drop j) := by rw [← total_append, List.take_append_drop]
  omega
set_option maxHeartbeats 8000000 in
set_option maxRecDepth 100000 in
theorem laws_markInt64SS.calls (ok : Nat → Prop) (v : Value) (xs : List (List Int)) (a : Int) (w0 w : World) (hB : Below w0.heap.size w0 w) (ho : Kd.S (Kd.slice 2 (Kd.int .i64)) 31 w w0.heap.size ok v xs) (ha : 0 ≤ a) (hn : a + total xs < 4611686018427387904) (hl : xs.length < 4611686018427387904) :
    Calls Try.prog 65 #[v, .int .i64 a] w fun e w' => e = .returned (.int .i64 (a + total xs)) ∧ Kd.S (Kd.slice 2 (Kd.int .i64)) 31 w' w0.heap.size ok v (markL a xs) ∧ Below w0.heap.size w0 w' ∧ Kept w w' ok := by
  obtain ⟨A, c, hv⟩ := Kd.S_slice ho
  obtain ⟨n, hnl⟩ : ∃ n, n = xs.length := ⟨_, rfl⟩
  rw [← hnl] at hv
  subst hv
  have HO := Aside0.mk ho
  have HB := Aside0.mk hB
  have HN := Aside0.mk hnl
  have HA := Aside0.mk ha
  have HT := Aside0.mk hn
  have HL := Aside0.mk hl
  clear ho hB hnl ha hn hl
  go_enter Try.func65, Try.ntmps65
  go_wp2
  go_loopg [1, 5] (n + 1) (fun kq v1 v5 wr => ∃ (x1 x5 : Int), v1 = .int .i64 x1 ∧ v5 = .int .i64 x5 ∧ Aside0 (∃ j : Nat, x5 = (j : Int) ∧ x1 = a + total (xs.take j) ∧ j ≤ n ∧ kq + j = n + 1 ∧ Kd.S (Kd.slice 2 (Kd.int .i64)) 31 wr w0.heap.size ok (.slice A n c) (markL a (xs.take j) ++ xs.drop j)) ∧ Aside0 (Below w0.heap.size w0 wr) ∧ Aside0 (Kept w wr ok))
  case atStart => exact ⟨a, 0, (by first | rfl | (simp; done) | (simp [*]; done)), (by first | rfl | (simp; done) | (simp [*]; done)), ⟨0, rfl, by simp [total], Nat.zero_le _, rfl, by simpa [markL] using HO.out⟩, HB, ⟨Kept.refl _ _⟩⟩
  case round =>
    obtain ⟨x1, x5, rfl, rfl, ⟨j, h5, h1, hj, hq, hS⟩, HBr, HK⟩ := hrel
    have H5 := Aside0.mk h5
    have H1 := Aside0.mk h1
    have HJ := Aside0.mk hj
    have HQ := Aside0.mk hq
    have HS := Aside0.mk hS
    clear h5 h1 hj hq hS
    by_cases c3 : x5 < (n : Int)
    · have hjn : j < xs.length := by have := H5.out; have := HN.out; omega
      obtain ⟨row, hrow⟩ := get_some hjn
      have hlen : (markL a (xs.take j)).length = j := by rw [markL_length, List.length_take]; omega
      obtain ⟨g, cap, hg, _, _, _⟩ := Kd.S_form HS.out (by rw [List.length_append, hlen, List.length_drop]; omega)
      injection hg with hA hn_ hc
      clear hn_
      subst hA
      subst hc
      have hi0 : 0 ≤ x5 := by rw [H5.out]; omega
      obtain ⟨oki, cl, hcl, hM, hcc, hoki, hH⟩ := Kd.S_lend HS.out [] x5 hi0 c3
      obtain ⟨vj, rfl, hR⟩ := hM
      have hget : (markL a (xs.take j) ++ xs.drop j).getD x5.toNat [] = row := by
        rw [H5.out, Int.toNat_natCast]
        apply getD_of
        rw [List.getElem?_append_right (by omega), hlen, Nat.sub_self, List.getElem?_drop, Nat.add_zero, hrow]
      rw [hget] at hR
      have hx := hcc 0 vj rfl
      simp only [show ((Kd.slice 2 (Kd.int .i64))).sz = 1 from rfl, Nat.mul_one, Nat.add_zero] at hx
      have htl := total_take xs j
      have htr : total (xs.take (j + 1)) = total (xs.take j) + row.length := by rw [take_snoc hrow, total_append]; simp [total]
      have htl2 := total_take xs (j + 1)
      obtain ⟨K, hK⟩ := mark_ev row x1 (by have := H1.out; have := HA.out; omega) (by have := H1.out; have := HT.out; omega)
      have HM := Aside0.mk (hK K (Nat.le_refl _))
      have HR := Aside0.mk hR
      have HH := Aside0.mk hH
      have HOK := Aside0.mk hoki
      have HROW := Aside0.mk hrow
      have HLEN := Aside0.mk hlen
      have HTR := Aside0.mk htr
      have HTL := Aside0.mk htl
      have HTL2 := Aside0.mk htl2
      have c3b0 : decide (x5 < (n : Int)) = true := decide_eq_true c3
      have c4b0 : decide (0 ≤ x5) = true := decide_eq_true hi0
      have HJN := Aside0.mk hjn
      clear hK hR hH hoki hrow hlen htr htl htl2 hget hcl hcc hjn
      replace hi0 := eq_true hi0
      replace c3 := eq_true c3
      go_wp2_with ((with_reducible refine gate_callee (f := 29) rfl ?_); refine goesL_ (some 17) rfl rfl Try.func29 (by kernel_rfl) rfl #[vj, .int .i64 x1] rfl (by (try simp only [List.map_toArray, List.map_cons, List.map_nil]); first | done | rfl) ?_; (with_reducible refine (laws_markInt64S.calls K oki vj row x1 _ _ w0 wr HBr.out HR.out HM.out).mono ?_); rintro e w1 ⟨rfl, hy0, hb, hkp⟩; refine ⟨_, rfl, ?_⟩; have HY := Aside0.mk (Kd.R_reok rfl hy0 (fun k_ e_ => HR.out.1 k_ e_)); have HBn := Aside0.mk hb; have HKP := Aside0.mk hkp; clear hy0 hb hkp)
      go_roundg (n - j)
      case measure => have := HQ.out; have := HJ.out; have := HJN.out; have := HN.out; omega
      case rel =>
        refine ⟨x1 + (row.length : Int), wrap64 (x5 + 1), (by first | rfl | (simp; done) | (simp [*]; done)), (by first | rfl | (simp; done) | (simp [*]; done)), ⟨j + 1, ?_, ?_, ?_, ?_, ?_⟩, HBn, ⟨HK.out.then_ HKP.out (fun k hk => .inl (HOK.out k hk).1)⟩⟩
        · have := H5.out; have := HJN.out; have := HL.out; unfold wrap64; omega
        · rw [HTR.out, H1.out]; omega
        · have := HJN.out; have := HN.out; omega
        · have := HQ.out; have := HJN.out; have := HN.out; omega
        · have hb := Kd.H_back (Kd.H_kept HH.out HKP.out (fun k _ h2 h3 => h2 h3)) (x' := marks x1 row.length) ⟨vj, rfl, HY.out⟩ (fun k hk => hk)
          have e : (markL a (xs.take j) ++ xs.drop j).set x5.toNat (marks x1 row.length) = markL a (xs.take (j + 1)) ++ xs.drop (j + 1) := by
            rw [H5.out, Int.toNat_natCast, drop_of HROW.out, take_snoc HROW.out, markL_append, H1.out]
            conv => lhs; rw [show j = (markL a (xs.take j)).length from HLEN.out.symm]
            rw [HLEN.out, List.set_append_right _ _ (by rw [HLEN.out]; exact Nat.le_refl _), HLEN.out, Nat.sub_self, List.set_cons_zero]
            simp [markL]
          rw [e] at hb
          exact hb
    · have c3b0 : decide (x5 < (n : Int)) = false := decide_eq_false c3
      have HC := Aside0.mk c3
      clear c3
      go_wp2
      go_ret
      have hjn : j = n := by have := HC.out; have := H5.out; have := HJ.out; omega
      have hS := HS.out
      rw [hjn, HN.out, List.take_length, List.drop_length, List.append_nil] at hS
      have h1 := H1.out
      rw [hjn, HN.out, List.take_length] at h1
      refine ⟨?_, ?_, HBr.out, HK.out⟩
      · rw [← h1]; rfl
      · rw [HN.out]; exact hS

end Go.Proofs.Ytlicbcaloebhlaa.PX

/- markGame, a contract: the marks lie in the game's rows, and nothing else that was there has turned (conditions: the rows are the caller's own and apart; sizes fit). -/
namespace Go.Proofs.Ytlicbcaloebhlaa.PX
open Go.RowKit Go.Proofs.YtlicbcaloebhlaaW.PrintWords Go.Proofs.YtlicbcaloebhlaaW.PrintLast Go.Proofs.YtlicbcaloebhlaaW.PrintMore
attribute [local go_sem] max2_int min2_int max_two min_two max_three min_three max_four min_four
set_option linter.unusedVariables false
set_option linter.unusedSimpArgs false
set_option maxHeartbeats 8000000 in
set_option maxRecDepth 100000 in
theorem laws_markGame.calls (ok : Nat → Prop) (A : Option Addr) (n c : Nat) (xs : List (List Int)) (a : Int) (w0 w : World) (hB : Below w0.heap.size w0 w) (ho : Kd.S (Kd.slice 2 (Kd.int .i64)) 31 w w0.heap.size ok (.slice A n c) xs) (ha : 0 ≤ a) (hn : a + total xs < 4611686018427387904) (hl : xs.length < 4611686018427387904) :
    Calls Try.prog 28 #[.agg #[.slice A n c], .int .i64 a] w fun e w' => e = .returned (.int .i64 (a + total xs)) ∧ Kd.S (Kd.slice 2 (Kd.int .i64)) 31 w' w0.heap.size ok (.slice A n c) (markL a xs) ∧ Below w0.heap.size w0 w' ∧ Kept w w' ok := by
  have HO := Aside0.mk ho
  have HB := Aside0.mk hB
  have HA := Aside0.mk ha
  have HT := Aside0.mk hn
  have HL := Aside0.mk hl
  clear ho hB ha hn hl
  have huG := Try.underlying27
  go_enter Try.func28, Try.ntmps28
  go_wp2_with (first | ((with_reducible refine gate_dst (N := 2) rfl ?_); refine box_event ?hg (N := 2) ?hd (cs := #[.slice A n c]) (t := 27) ?hr ?_; (case hd => rfl); (case hg => rfl); (case hr => first | (go_simp; done) | (go_simp; rfl)); intro gb hg w2 hbox hb; have n0_ := Aside0.mk (Kd.S_below HO.out hb); have n1_ := Aside0.mk (below_then HB.out HB.out.size hb); have HK := Aside0.mk (Kept.of_below hb ok); have HBX := Aside0.mk hbox; clear HO HB hb hbox hg; have HO := n0_; have HB := n1_; clear n0_ n1_; have hcz : w2.cell? ⟨gb, 0, none⟩ = some (.slice A n c) := (blk_cell HBX.out 0).trans rfl; have hfz := blk_frozen HBX.out 0) | ((with_reducible refine gate_callee (f := 65) rfl ?_); refine goesL_ (some 8) rfl rfl Try.func65 (by kernel_rfl) rfl #[.slice A n c, .int .i64 a] rfl (by (try simp only [List.map_toArray, List.map_cons, List.map_nil]); first | done | rfl) ?_; (with_reducible refine (laws_markInt64SS.calls ok _ xs a w0 _ HB.out HO.out HA.out HT.out HL.out).mono ?_); rintro e w3 ⟨rfl, hs, hb, hk⟩; refine ⟨_, rfl, ?_⟩; have HS := Aside0.mk hs; have HB3 := Aside0.mk hb; have HK3 := Aside0.mk hk; clear hs hb hk hcz hfz))
  go_ret
  exact ⟨rfl, HS.out, HB3.out, HK.out.then_ HK3.out (fun k hk => .inl hk)⟩

end Go.Proofs.Ytlicbcaloebhlaa.PX

/- Rows of the lengths of places (given: how the struct lies in memory). -/
namespace Go.Proofs.Ytlicbcaloebhlaa.PX
open Go.RowKit Go.Proofs.YtlicbcaloebhlaaW.PrintWords Go.Proofs.YtlicbcaloebhlaaW.PrintLast Go.Proofs.YtlicbcaloebhlaaW.PrintMore
attribute [local go_sem] max2_int min2_int max_two min_two max_three min_three max_four min_four
set_option linter.unusedVariables false
set_option linter.unusedSimpArgs false
theorem info69 : (Try.prog.info? 69).map (fun i => (i.zero, i.size, i.bytes)) = some (some (.agg #[(.bool false), (.int .i64 0)]), 2, 16) := by kernel_rfl
structure S69 where
  f0 : Bool
  f1 : Int
def z69 : S69 := ⟨false, (0 : Int)⟩
def k69 : Kd S69 := Kd.iso (Kd.pair Kd.bool (Kd.int .i64)) (fun x : S69 => (x.f0, x.f1))
theorem k69_open {w : World} {x : S69} {cs : List Value} (h : k69.K w x cs) : cs = [.bool x.f0, .int .i64 x.f1] := by
  obtain ⟨_, _, rfl, rfl, rfl⟩ := h
  exact rfl
theorem k69_openM {w : World} {base : Nat} {ok : Nat → Prop} {x : S69} {cs : List Value} (h : k69.M w base ok x cs) : cs = [.bool x.f0, .int .i64 x.f1] := by
  obtain ⟨_, _, rfl, rfl, rfl⟩ := h
  exact rfl
theorem k69_mk (w : World) (x : S69)  : k69.K w x [.bool x.f0, .int .i64 x.f1] := ⟨[.bool x.f0], [.int .i64 x.f1], rfl, rfl, rfl⟩
theorem k69_mkM (w : World) (base : Nat) (ok : Nat → Prop) (x : S69)  : k69.M w base ok x [.bool x.f0, .int .i64 x.f1] := ⟨[.bool x.f0], [.int .i64 x.f1], rfl, rfl, rfl⟩
def rd_T69 (xs : List S69) (i : Int) : S69 := xs.getD i.toNat z69
theorem at_T69 {w : World} {A : Option Addr} {n : Nat} {xs : List S69} (h : Kd.C k69 w A n xs) (i : Int) (h0 : 0 ≤ i) (h1 : i < n) : ∃ ad , A = some ad ∧ w.cell? (ad.add (i.toNat * 2)) = some (.bool (rd_T69 xs i).f0) ∧ w.cell? ⟨(ad.add (i.toNat * 2)).block, (ad.add (i.toNat * 2)).off + 1, none⟩ = some (.int .i64 (rd_T69 xs i).f1) := by
  obtain ⟨ad, c, e, _, hK, hc0⟩ := Kd.C_get h z69 i h0 h1
  have hc : ∀ j u, c[j]? = some u → w.cell? (ad.add (i.toNat * 2 + j)) = some u := hc0
  obtain rfl := k69_open hK
  exact ⟨ad, e, hc 0 _ rfl, by rw [← add_field _ _ 1 (by omega)]; exact hc 1 _ rfl⟩

end Go.Proofs.Ytlicbcaloebhlaa.PX

/- The program's backward over lengths, for any function value that answers V and leaves memory as it is. -/
namespace Go.Proofs.Ytlicbcaloebhlaa.PX
open Go.RowKit Go.Proofs.YtlicbcaloebhlaaW.PrintWords Go.Proofs.YtlicbcaloebhlaaW.PrintLast Go.Proofs.YtlicbcaloebhlaaW.PrintMore
attribute [local go_sem] max2_int min2_int max_two min_two max_three min_three max_four min_four
set_option linter.unusedVariables false
set_option linter.unusedSimpArgs false
section
variable (V : Nat → List S69 → Option (Bool × Int))
mutual
def impl_length.l0 : Nat → List (S69) → Int → List (List Int) → Option ((List (S69)) × Int)
  | 0, _, _, _ => none
  | k + 1, x6, x7, x197000 => if x7 ≥ 0 then (if 0 ≤ x7 then (if x7 < (x197000.length : Int) then (impl_length.l1 k x6 x7 (([] : List (S69))) (rd_L1 x197000 x7) ((rd_L1 x197000 x7).length : Int) 0 x197000) else (none)) else (none)) else (some (x6, 0))
def impl_length.l1 : Nat → List (S69) → Int → List (S69) → List Int → Int → Int → List (List Int) → Option ((List (S69)) × Int)
  | 0, _, _, _, _, _, _, _ => none
  | k + 1, x6, x7, x8, x30, x31, x32, x197000 => if x32 < x31 then (if 0 ≤ x32 then (if x32 < (x30.length : Int) then (if 0 ≤ (rd x30 x32) then (if (rd x30 x32) < (x6.length : Int) then (if x8.length < 8796093022208 then (impl_length.l1 k x6 x7 (x8 ++ [(⟨(rd_T69 x6 (rd x30 x32)).f0, (rd_T69 x6 (rd x30 x32)).f1⟩ : S69)]) x30 x31 (wrap64 (x32 + 1)) x197000) else (none)) else (none)) else (none)) else (none)) else (none)) else ((V k x8).bind fun bt210 => (if 0 ≤ x7 then (if x7 < (x6.length : Int) then (impl_length.l0 k (x6.set (x7 : Int).toNat (⟨bt210.1, bt210.2⟩ : S69)) (wrap64 (x7 - 1)) x197000) else (none)) else (none)))
end
def impl_length.f (k : Nat) (l0_0 : List (List Int)) : Option ((List (S69)) × Int) := (impl_IsGame.f k l0_0).bind fun t197 => (if t197 = true then (if 0 ≤ (l0_0.length : Int) then (if ((l0_0.length : Int) : Int).toNat ≤ 17592186044416 then ((some (List.replicate ((l0_0.length : Int) : Int).toNat z69 : List (S69))).bind fun y198 => (impl_length.l0 V k y198 (wrap64 ((y198.length : Int) - 1)) l0_0)) else (none)) else (none)) else (some (([] : List (S69)), 1)))
end
theorem impl_length.mono_l (V : Nat → List S69 → Option (Bool × Int)) (hm : ∀ a k, LeO (V k a) (V (k + 1) a)) : ∀ k, (∀ y0 y1 y2, LeO (impl_length.l0 V k y0 y1 y2) (impl_length.l0 V (k + 1) y0 y1 y2)) ∧ (∀ y0 y1 y2 y3 y4 y5 y6, LeO (impl_length.l1 V k y0 y1 y2 y3 y4 y5 y6) (impl_length.l1 V (k + 1) y0 y1 y2 y3 y4 y5 y6))
  | 0 => ⟨fun _ _ _ r h => by simp [impl_length.l0] at h, fun _ _ _ _ _ _ _ r h => by simp [impl_length.l1] at h⟩
  | k + 1 => by
    obtain ⟨ih0, ih1⟩ := impl_length.mono_l V hm k
    refine ⟨?_, ?_⟩
    · intro y0 y1 y2
      unfold impl_length.l0
      repeat' first
      | (with_reducible exact ih0 _ _ _)
      | (with_reducible exact ih1 _ _ _ _ _ _ _)
      | (with_reducible exact impl_IsGame.mono _ _)
      | (with_reducible exact hm _ _)
      | (with_reducible exact LeO.refl _)
      | (with_reducible exact LeO.none _)
      | (with_reducible refine LeO.ite ?_ ?_)
      | (with_reducible refine LeO.bind ?_ (fun _ => ?_))
      | exact ih0 _ _ _
      | exact ih1 _ _ _ _ _ _ _
      | exact impl_IsGame.mono _ _
      | exact hm _ _
      | exact LeO.none _
      | refine LeO.ite ?_ ?_
      | refine LeO.bind ?_ (fun _ => ?_)
    · intro y0 y1 y2 y3 y4 y5 y6
      unfold impl_length.l1
      repeat' first
      | (with_reducible exact ih0 _ _ _)
      | (with_reducible exact ih1 _ _ _ _ _ _ _)
      | (with_reducible exact impl_IsGame.mono _ _)
      | (with_reducible exact hm _ _)
      | (with_reducible exact LeO.refl _)
      | (with_reducible exact LeO.none _)
      | (with_reducible refine LeO.ite ?_ ?_)
      | (with_reducible refine LeO.bind ?_ (fun _ => ?_))
      | exact ih0 _ _ _
      | exact ih1 _ _ _ _ _ _ _
      | exact impl_IsGame.mono _ _
      | exact hm _ _
      | exact LeO.none _
      | refine LeO.ite ?_ ?_
      | refine LeO.bind ?_ (fun _ => ?_)
theorem impl_length.mono (V : Nat → List S69 → Option (Bool × Int)) (hm : ∀ a k, LeO (V k a) (V (k + 1) a)) : ∀ a0 k, LeO (impl_length.f V k a0) (impl_length.f V (k + 1) a0) := by
  intro a0 k
  obtain ⟨ih0, ih1⟩ := impl_length.mono_l V hm k
  unfold impl_length.f
  repeat' first
      | (with_reducible exact ih0 _ _ _)
      | (with_reducible exact ih1 _ _ _ _ _ _ _)
      | (with_reducible exact impl_IsGame.mono _ _)
      | (with_reducible exact hm _ _)
      | (with_reducible exact LeO.refl _)
      | (with_reducible exact LeO.none _)
      | (with_reducible refine LeO.ite ?_ ?_)
      | (with_reducible refine LeO.bind ?_ (fun _ => ?_))
      | exact ih0 _ _ _
      | exact ih1 _ _ _ _ _ _ _
      | exact impl_IsGame.mono _ _
      | exact hm _ _
      | exact LeO.none _
      | refine LeO.ite ?_ ?_
      | refine LeO.bind ?_ (fun _ => ?_)
set_option maxHeartbeats 8000000 in
set_option maxRecDepth 100000 in
theorem impl_length.calls (V : Nat → List S69 → Option (Bool × Int)) (cf : FuncId) (cap : Array Value) (hF : HasFn cf) (hV : ∀ (k : Nat) (A : Option Addr) (c : Nat) (xs : List S69) (r1 : Bool) (r2 : Int) (w : World), Kd.C k69 w A xs.length xs → xs.length ≤ c → V k xs = some (r1, r2) → Calls Try.prog cf (#[.slice A xs.length c] ++ cap) w fun e w' => e = .returned (.agg #[.bool r1, .int .i64 r2]) ∧ Below w.heap.size w w') (k : Nat) (A0_0 : Option Addr) (c0_0 : Nat) (l0_0 : List (List Int)) (r1 : List (S69)) (r2 : Int) (w : World) (hr0_0 : Kd.C (Kd.slice 2 (Kd.int .i64)) w A0_0 l0_0.length l0_0) (hc0_0 : l0_0.length ≤ c0_0) (h : impl_length.f V k l0_0 = some (r1, r2)) :
    Calls Try.prog 78 #[.agg #[.slice A0_0 l0_0.length c0_0], .func (.func cf) #[] cap] w fun e w' => ∃ v0_ : Value, e = .returned (.tuple #[v0_, .int .i64 r2]) ∧ Kd.R k69 69 w' w.heap.size (fun _ => True) v0_ r1 ∧ Below w.heap.size w w' := by
  have HF := Aside0.mk hF
  have HV := Aside0.mk hV
  clear hF hV
  have hu27 := Try.underlying27
  have hu69 := Try.underlying69
  have HR0_0 := Aside0.mk hr0_0
  have HC0_0 := Aside0.mk hc0_0
  clear hr0_0 hc0_0
  have HB := Aside0.mk (Below.refl w.heap.size w)
  have H : ((impl_IsGame.f k l0_0).bind fun t197 => (if t197 = true then (if 0 ≤ (l0_0.length : Int) then (if ((l0_0.length : Int) : Int).toNat ≤ 17592186044416 then ((some (List.replicate ((l0_0.length : Int) : Int).toNat z69 : List (S69))).bind fun y198 => (impl_length.l0 V k y198 (wrap64 ((y198.length : Int) - 1)) l0_0)) else (none)) else (none)) else (some (([] : List (S69)), 1)))) = some (r1, r2) := h
  clear h
  replace H := Option.bind_eq_some_iff.mp H
  obtain ⟨t197, A30, H⟩ := H
  replace H : (if t197 = true then (if 0 ≤ (l0_0.length : Int) then (if ((l0_0.length : Int) : Int).toNat ≤ 17592186044416 then ((some (List.replicate ((l0_0.length : Int) : Int).toNat z69 : List (S69))).bind fun y198 => (impl_length.l0 V k y198 (wrap64 ((y198.length : Int) - 1)) l0_0)) else (none)) else (none)) else (some (([] : List (S69)), 1))) = some (r1, r2) := H
  have A3 := Aside0.mk A30
  clear A30
  by_cases c4 : t197 = true
  · subst c4
    have H1 : (if 0 ≤ (l0_0.length : Int) then (if ((l0_0.length : Int) : Int).toNat ≤ 17592186044416 then ((some (List.replicate ((l0_0.length : Int) : Int).toNat z69 : List (S69))).bind fun y198 => (impl_length.l0 V k y198 (wrap64 ((y198.length : Int) - 1)) l0_0)) else (none)) else (none)) = some (r1, r2) := by rw [if_pos rfl] at H; exact H
    clear H
    have H := H1
    clear H1
    by_cases c5 : 0 ≤ (l0_0.length : Int)
    · rw [if_pos c5] at H
      have c5b0 := eq_true c5
      have c5b1 : decide (0 ≤ (l0_0.length : Int)) = true := decide_eq_true c5
      clear c5
      by_cases c6 : ((l0_0.length : Int) : Int).toNat ≤ 17592186044416
      · rw [if_pos c6] at H
        have c6b0 := eq_true c6
        have c6b1 : decide (((l0_0.length : Int) : Int).toNat ≤ 17592186044416) = true := decide_eq_true c6
        clear c6
        obtain ⟨y198, hy198⟩ : ∃ y_ : List (S69), y_ = (List.replicate ((l0_0.length : Int) : Int).toNat z69) := ⟨_, rfl⟩
        replace H : (impl_length.l0 V k y198 (wrap64 ((y198.length : Int) - 1)) l0_0) = some (r1, r2) := by first | (rw [hy198]; with_reducible exact H) | (have H2_ := (Option.bind_some _ _).symm.trans H; rw [hy198]; with_reducible exact H2_) | (have H2_ := (Option.bind_some _ _).symm.trans H; with_reducible exact H2_) | with_reducible exact H | (rw [hy198]; exact H) | exact H
        have Ny198 := Aside0.mk hy198
        clear hy198
        have H' := Aside0.mk H
        clear H
        go_enter Try.func78, Try.ntmps78
        go_wp2_with (first | ((with_reducible refine gate_dst (N := 2) rfl ?_); refine box_event ?hg (N := 2) ?hd (cs := #[.slice A0_0 l0_0.length c0_0]) (t := 27) ?hr ?_; (case hd => rfl); (case hg => rfl); (case hr => first | (go_simp; done) | (go_simp; rfl)); intro gb196 hg w7 hbox hb; have n0_ := Aside0.mk (below_step (by repeat (first | (with_reducible first | exact HB.out | apply below_alloc | apply pw_below_drewN | apply below_drew1) | exact HB.out)) hb); have n1_ := Aside0.mk (hbox); have n2_ := Aside0.mk ((by rw [hg]; exact (below_size (by repeat (first | (with_reducible first | exact HB.out | apply below_alloc | apply pw_below_drewN | apply below_drew1) | exact HB.out))) : w.heap.size ≤ gb196)); have n3_ := Aside0.mk ((by rw [hg]; exact (below_size (by repeat (first | (with_reducible first | exact HB.out | apply below_alloc | apply pw_below_drewN | apply below_drew1) | exact HB.out))) : w.heap.size ≤ gb196)); clear HB; have HB := n0_; have BK196 := n1_; have GW196 := n2_; have GE196 := n3_; clear n0_ n1_ n2_ n3_; clear hb hbox hg; have hcz8_0 : w7.cell? ⟨gb196, 0, none⟩ = some (.slice A0_0 l0_0.length c0_0) := (blk_cell BK196.out 0).trans rfl; have hfz8_0 := blk_frozen BK196.out 0) | ((with_reducible refine gate_callee (f := 18) rfl ?_); refine goesL_ (some 12) rfl rfl Try.func18 (by kernel_rfl) rfl #[.agg #[.slice A0_0 l0_0.length c0_0]] rfl (by (try simp only [List.map_toArray, List.map_cons, List.map_nil]); first | done | rfl | (simp only [List.length_drop, List.length_take]; rfl)) ?_; (with_reducible refine (impl_IsGame.calls k _ _ l0_0 true _ ?side1 ?side2 A3.out).mono ?_); (case side1 => repeat (first | exact (Kd.C_below HR0_0.out HB.out) | (with_reducible refine Kd.C_alloc ?_ _) | (with_reducible refine Kd.C_drewN ?_ _) | (with_reducible refine Kd.C_drew ?_))); (case side2 => exact HC0_0.out); rintro e w9 ⟨rfl, hb⟩; refine ⟨_, rfl, ?_⟩; have n0_ := Aside0.mk (blk_below (g := gb196) (o := .cells #[.slice A0_0 l0_0.length c0_0] 27 (0, 0)) (by (with_reducible repeat (first | refine blk_drewN ?_ _ | refine blk_drew ?_ | refine blk_alloc ?_ _)); exact BK196.out) hb); have n1_ := Aside0.mk (below_step (by repeat (first | (with_reducible first | exact HB.out | apply below_alloc | apply pw_below_drewN | apply below_drew1 | refine below_set ?_ GE196.out) | exact HB.out)) hb); clear BK196; clear HB; have BK196 := n0_; have HB := n1_; clear n0_ n1_; (try clear hb); (try clear hb2); (try clear hk); (try clear hi); have hcz10_0 : w9.cell? ⟨gb196, 0, none⟩ = some (.slice A0_0 l0_0.length c0_0) := (blk_cell BK196.out 0).trans rfl; have hfz10_0 := blk_frozen BK196.out 0) | ((with_reducible refine gate_dst (N := 17) rfl ?_); refine Kd.R_make k69 _ 69 rfl (N := 17) rfl 65 _ _ rfl (l0_0.length : Int) rfl rfl Try.underlying65 (.agg #[(.bool false), (.int .i64 0)]) 16 info69 rfl (by decide) (by omega) z69 (ok := fun _ => True) (okp := fun _ => True) (k69_mkM _ _ _ z69 ) (fun _ hk => hk) trivial (of_decide_eq_true (by first | (with_reducible assumption) | assumption)) (Nat.le_trans (Nat.mul_le_mul_right _ (of_decide_eq_true (by first | (with_reducible assumption) | assumption) : (l0_0.length : Int).toNat ≤ 17592186044416)) (by omega)) (Below.refl _ _) (Nat.le_refl _) ?_; intro v199 w11 ho12 hb hg_ hnew_; clear hg_ hnew_; (first | rw [← Ny198.out] at ho12 | (simp only [Int.reduceToNat] at ho12; rw [← Ny198.out] at ho12)); have n0_ := Aside0.mk (Kd.R_lower ho12 (below_size (by repeat (first | (with_reducible first | exact HB.out | apply below_alloc | apply pw_below_drewN | apply below_drew1 | refine below_set ?_ GE196.out) | exact HB.out)))); have n1_ := Aside0.mk (blk_below (g := gb196) (o := .cells #[.slice A0_0 l0_0.length c0_0] 27 (0, 0)) (by (with_reducible repeat (first | refine blk_drewN ?_ _ | refine blk_drew ?_ | refine blk_alloc ?_ _)); exact BK196.out) hb); have n2_ := Aside0.mk (below_step (by repeat (first | (with_reducible first | exact HB.out | apply below_alloc | apply pw_below_drewN | apply below_drew1 | refine below_set ?_ GE196.out) | exact HB.out)) hb); clear BK196; clear HB; have HO200 := n0_; have BK196 := n1_; have HB := n2_; clear n0_ n1_ n2_; clear hb ho12; obtain ⟨Ao13, co13, eo13⟩ := Kd.R_slice HO200.out; subst eo13))
        go_loopg [7] k (fun kq v7 w' => ∃ (x6_1 : List (S69)) (x7_1 : Int), v7 = .int .i64 x7_1 ∧ Aside0 (impl_length.l0 V kq x6_1 x7_1 l0_0 = some (r1, r2)) ∧ Aside0 (kq ≤ k) ∧ Aside0 (Kd.R k69 69 w' w.heap.size (fun _ => True) (.slice Ao13 y198.length co13) x6_1) ∧ Aside0 (w'.heap[gb196]? = some (.cells #[(.slice A0_0 l0_0.length c0_0)] 27 (0, 0))) ∧ Aside0 (Below w.heap.size w w'))
        case atStart => exact ⟨(y198), (wrap64 ((y198.length : Int) - 1)), (by first | rfl | (simp; done) | (simp [*]; done)), H', ⟨Nat.le_refl _⟩, ⟨by (with_reducible repeat (first | apply Kd.R_alloc | apply Kd.R_drewN | apply Kd.R_drew)); exact HO200.out⟩, ⟨by (with_reducible repeat (first | refine blk_drewN ?_ _ | refine blk_drew ?_ | refine blk_alloc ?_ _)); exact BK196.out⟩, ⟨by repeat (first | (with_reducible first | exact HB.out | apply below_alloc | apply pw_below_drewN | apply below_drew1 | refine below_set ?_ GE196.out) | exact HB.out)⟩⟩
        case round =>
          clear H'
          try clear c1
          try clear p2
          try clear c4
          try clear c5
          try clear c5b0
          try clear c5b1
          try clear c6
          try clear c6b0
          try clear c6b1
          try clear p6
          try clear c7
          try clear hcz10_0
          try clear hcz8_0
          try clear hfz10_0
          try clear hfz8_0
          obtain ⟨x6_1, x7_1, rfl, HA, HK1, HO_6, BK196, HB⟩ := hrel
          have hl6_1 := (Kd.R_reads' HO_6.out).1
          rw [hl6_1] at HO_6
          (try simp only [hl6_1])
          (try simp only [hl6_1] at BK196)
          cases gk with
          | zero => exact absurd HA.out (by simp [impl_length.l0])
          | succ k1 =>
            have H := HA.out
            clear HA
            simp only [impl_length.l0] at H
            by_cases c14 : x7_1 ≥ 0
            · rw [if_pos c14] at H
              have c14b0 : decide (0 ≤ x7_1) = true := decide_eq_true c14
              clear c14
              obtain ⟨y201, hy201⟩ : ∃ y_ : List (S69), y_ = (([] : List (S69))) := ⟨_, rfl⟩
              replace H : (if 0 ≤ x7_1 then (if x7_1 < (l0_0.length : Int) then (impl_length.l1 V k1 x6_1 x7_1 y201 (rd_L1 l0_0 x7_1) ((rd_L1 l0_0 x7_1).length : Int) 0 l0_0) else (none)) else (none)) = some (r1, r2) := by first | (rw [hy201]; with_reducible exact H) | (have H2_ := (Option.bind_some _ _).symm.trans H; rw [hy201]; with_reducible exact H2_) | (have H2_ := (Option.bind_some _ _).symm.trans H; with_reducible exact H2_) | with_reducible exact H | (rw [hy201]; exact H) | exact H
              have Ny201 := Aside0.mk hy201
              clear hy201
              by_cases c15 : 0 ≤ x7_1
              · rw [if_pos c15] at H
                have c15b0 : decide (0 ≤ x7_1) = true := decide_eq_true c15
                clear c15
                by_cases c16 : x7_1 < (l0_0.length : Int)
                · rw [if_pos c16] at H
                  have c16b0 : decide (x7_1 < (l0_0.length : Int)) = true := decide_eq_true c16
                  clear c16
                  have H' := Aside0.mk H
                  clear H
                  go_wp2_with (first | ((with_reducible refine gate_dst (N := 25) rfl ?_); refine Kd.R_lit k69 _ 69 ?hg (N := 25) ?hd (xs := ([] : List (S69))) (inner := []) (ok := fun _ => True) (okp := fun _ => True) ?hr ?hp (fun _ hk => hk) trivial (Below.refl _ _) (Nat.le_refl _) (by simp) ?_; (case hd => rfl); (case hg => rfl); (case hr => first | (go_simp; done) | (go_simp; rfl)); (case hp => exact (Reps.none _ _)); intro v202 w17 ho18 hb hg_ hnew_; clear hg_ hnew_; (first | rw [← Ny201.out] at ho18 | (simp only [Int.reduceToNat] at ho18; rw [← Ny201.out] at ho18)); have n0_ := Aside0.mk (Kd.R_elder' (by (with_reducible repeat (first | apply Kd.R_alloc | apply Kd.R_drewN | apply Kd.R_drew)); exact HO_6.out) (Kd.R_base ho18) hb); have n1_ := Aside0.mk (Kd.R_lower (Kd.R_new' ho18 (Kd.R_lt (by (with_reducible repeat (first | apply Kd.R_alloc | apply Kd.R_drewN | apply Kd.R_drew)); exact HO_6.out))) (below_size (by repeat (first | (with_reducible first | exact HB.out | apply below_alloc | apply pw_below_drewN | apply below_drew1 | refine below_set ?_ GE196.out) | exact HB.out)))); have n2_ := Aside0.mk (blk_below (g := gb196) (o := .cells #[.slice A0_0 l0_0.length c0_0] 27 (0, 0)) (by (with_reducible repeat (first | refine blk_drewN ?_ _ | refine blk_drew ?_ | refine blk_alloc ?_ _)); exact BK196.out) hb); have n3_ := Aside0.mk (below_step (by repeat (first | (with_reducible first | exact HB.out | apply below_alloc | apply pw_below_drewN | apply below_drew1 | refine below_set ?_ GE196.out) | exact HB.out)) hb); clear HO_6; clear BK196; clear HB; have HO_6 := n0_; have HO203 := n1_; have BK196 := n2_; have HB := n3_; clear n0_ n1_ n2_ n3_; clear hb ho18; have hcz19_0 : w17.cell? ⟨gb196, 0, none⟩ = some (.slice A0_0 l0_0.length c0_0) := (blk_cell BK196.out 0).trans rfl; have hfz19_0 := blk_frozen BK196.out 0; have p204 : 0 ≤ (x7_1 : Int) := of_decide_eq_true (by first | (with_reducible assumption) | assumption); have q204 : x7_1 < (l0_0.length : Int) := of_decide_eq_true (by first | (with_reducible assumption) | assumption); obtain ⟨ad204, A204_0, c204_0, e204, hx204_0, hl204_0, hi204_0⟩ := at_L1 HR0_0.out x7_1 p204 q204; cases e204; replace hx204_0 := (HB.out.cell (World.block_lt_of_cell? w _ hx204_0)).trans hx204_0; have HR204_0 := Aside0.mk hi204_0; have HC204_0 := Aside0.mk hl204_0; clear hi204_0 hl204_0; replace p204 := eq_true p204; replace q204 := eq_true q204))
                  go_loopg [8, 32] k1 (fun kq v8 v32 w' => ∃ (x8_2 : List (S69)) (x32_2 : Int), v32 = .int .i64 x32_2 ∧ Aside0 (impl_length.l1 V kq x6_1 x7_1 x8_2 (rd_L1 l0_0 x7_1) ((rd_L1 l0_0 x7_1).length : Int) x32_2 l0_0 = some (r1, r2)) ∧ Aside0 (kq ≤ k1) ∧ Aside0 (Kd.R k69 69 w' w.heap.size (fun k_ => some k_ ≠ (v8 : Value).ownBlock) (.slice Ao13 x6_1.length co13) x6_1) ∧ Aside0 (Kd.R k69 69 w' w.heap.size (fun k_ => some k_ ≠ ((.slice Ao13 x6_1.length co13) : Value).ownBlock) v8 x8_2) ∧ Aside0 (w'.heap[gb196]? = some (.cells #[(.slice (some ad204) l0_0.length c0_0)] 27 (0, 0))) ∧ Aside0 (Below w.heap.size w w'))
                  case atStart => exact ⟨(y201), (0), (by first | rfl | (simp; done) | (simp [*]; done)), H', ⟨Nat.le_refl _⟩, ⟨by (try simp only [hl6_1]); (with_reducible repeat (first | apply Kd.R_alloc | apply Kd.R_drewN | apply Kd.R_drew)); exact Kd.R_mono HO_6.out (fun _ hk => hk.2)⟩, ⟨by (try simp only [hl6_1]); (with_reducible repeat (first | apply Kd.R_alloc | apply Kd.R_drewN | apply Kd.R_drew)); exact Kd.R_mono HO203.out (fun _ hk => hk.2)⟩, ⟨by (try simp only [hl6_1]); (with_reducible repeat (first | refine blk_drewN ?_ _ | refine blk_drew ?_ | refine blk_alloc ?_ _)); exact BK196.out⟩, ⟨by repeat (first | (with_reducible first | exact HB.out | apply below_alloc | apply pw_below_drewN | apply below_drew1 | refine below_set ?_ GE196.out) | exact HB.out)⟩⟩
                  case round =>
                    clear H'
                    try clear c1
                    try clear c2
                    try clear p2
                    try clear q2
                    try clear hx2
                    try clear c4
                    try clear c5
                    try clear c5b0
                    try clear c5b1
                    try clear c6
                    try clear c6b0
                    try clear c6b1
                    try clear p6
                    try clear c7
                    try clear c14
                    try clear c14b0
                    try clear c15
                    try clear c15b0
                    try clear c16
                    try clear c16b0
                    try clear c18
                    try clear hcz10_0
                    try clear hcz19_0
                    try clear hcz8_0
                    try clear hfz10_0
                    try clear hfz19_0
                    try clear hfz8_0
                    try clear hx204_0
                    try clear p2
                    try clear p204
                    try clear p6
                    try clear q204
                    obtain ⟨x8_2, x32_2, rfl, HA, HK2, HO_6, HO_8, BK196, HB⟩ := hrel
                    cases gk with
                    | zero => exact absurd HA.out (by simp [impl_length.l1])
                    | succ k2 =>
                      have H := HA.out
                      clear HA
                      simp only [impl_length.l1] at H
                      by_cases c20 : x32_2 < ((rd_L1 l0_0 x7_1).length : Int)
                      · rw [if_pos c20] at H
                        have c20b0 : decide (x32_2 < ((rd_L1 l0_0 x7_1).length : Int)) = true := decide_eq_true c20
                        clear c20
                        by_cases c21 : 0 ≤ x32_2
                        · rw [if_pos c21] at H
                          have c21b0 : decide (0 ≤ x32_2) = true := decide_eq_true c21
                          clear c21
                          by_cases c22 : x32_2 < ((rd_L1 l0_0 x7_1).length : Int)
                          · rw [if_pos c22] at H
                            have c22b0 : decide (x32_2 < ((rd_L1 l0_0 x7_1).length : Int)) = true := decide_eq_true c22
                            clear c22
                            by_cases c23 : 0 ≤ (rd (rd_L1 l0_0 x7_1) x32_2)
                            · rw [if_pos c23] at H
                              have c23b0 : decide (0 ≤ (rd (rd_L1 l0_0 x7_1) x32_2)) = true := decide_eq_true c23
                              clear c23
                              by_cases c24 : (rd (rd_L1 l0_0 x7_1) x32_2) < (x6_1.length : Int)
                              · rw [if_pos c24] at H
                                have c24b0 : decide ((rd (rd_L1 l0_0 x7_1) x32_2) < (x6_1.length : Int)) = true := decide_eq_true c24
                                clear c24
                                by_cases c25 : x8_2.length < 8796093022208
                                · rw [if_pos c25] at H
                                  have LMc25 := Aside0.mk c25
                                  clear c25
                                  obtain ⟨y207, hy207⟩ : ∃ y_ : List (S69), y_ = (x8_2 ++ [(⟨(rd_T69 x6_1 (rd (rd_L1 l0_0 x7_1) x32_2)).f0, (rd_T69 x6_1 (rd (rd_L1 l0_0 x7_1) x32_2)).f1⟩ : S69)]) := ⟨_, rfl⟩
                                  replace H : (impl_length.l1 V k2 x6_1 x7_1 y207 (rd_L1 l0_0 x7_1) ((rd_L1 l0_0 x7_1).length : Int) (wrap64 (x32_2 + 1)) l0_0) = some (r1, r2) := by first | (rw [hy207]; with_reducible exact H) | (have H2_ := (Option.bind_some _ _).symm.trans H; rw [hy207]; with_reducible exact H2_) | (have H2_ := (Option.bind_some _ _).symm.trans H; with_reducible exact H2_) | with_reducible exact H | (rw [hy207]; exact H) | exact H
                                  have Ny207 := Aside0.mk hy207
                                  clear hy207
                                  have H' := Aside0.mk H
                                  clear H
                                  have p205 : 0 ≤ (x32_2 : Int) := of_decide_eq_true (by first | (with_reducible assumption) | assumption)
                                  have q205 : x32_2 < ((rd_L1 l0_0 x7_1).length : Int) := of_decide_eq_true (by first | (with_reducible assumption) | assumption)
                                  obtain ⟨ad205, e205, hx205_0⟩ := Kd.at_int HR204_0.out x32_2 p205 q205
                                  cases e205
                                  replace hx205_0 := (HB.out.cell (World.block_lt_of_cell? w _ hx205_0)).trans hx205_0
                                  replace p205 := eq_true p205
                                  replace q205 := eq_true q205
                                  have p206 : 0 ≤ ((rd (rd_L1 l0_0 x7_1) x32_2) : Int) := of_decide_eq_true (by first | (with_reducible assumption) | assumption)
                                  have q206 : (rd (rd_L1 l0_0 x7_1) x32_2) < (x6_1.length : Int) := of_decide_eq_true (by first | (with_reducible assumption) | assumption)
                                  obtain ⟨ad206, e206, hx206_0, hx206_1⟩ := at_T69 (Kd.R_reads' HO_6.out).2.2 (rd (rd_L1 l0_0 x7_1) x32_2) p206 q206
                                  cases e206
                                  replace p206 := eq_true p206
                                  replace q206 := eq_true q206
                                  go_wp2_with (first | ((with_reducible refine gate_builtin (b := .append) (xs := #[.tmp 36, .tmp 41]) rfl ?_); at_builtin; refine Kd.R_append k69 (w0 := w) w.heap.size rfl (.tmp 36) (.tmp 41) 65 69 (.agg #[(.bool false), (.int .i64 0)]) 16 rfl Try.underlying65 info69 rfl (by decide) (by omega) u8 x8_2 (⟨(rd_T69 x6_1 (rd (rd_L1 l0_0 x7_1) x32_2)).f0, (rd_T69 x6_1 (rd (rd_L1 l0_0 x7_1) x32_2)).f1⟩ : S69) [.bool ((rd_T69 x6_1 (rd (rd_L1 l0_0 x7_1) x32_2)).f0), .int .i64 ((rd_T69 x6_1 (rd (rd_L1 l0_0 x7_1) x32_2)).f1)] (fun k_ => some k_ ≠ (.slice (some ad206) x6_1.length co13 : Value).ownBlock) (fun _ => False) rfl rfl ?aP (fun _ hk => hk.elim) ?aF ?aO ?aB ?aS ?aL ?_; (case aP => exact k69_mkM _ _ _ (⟨(rd_T69 x6_1 (rd (rd_L1 l0_0 x7_1) x32_2)).f0, (rd_T69 x6_1 (rd (rd_L1 l0_0 x7_1) x32_2)).f1⟩ : S69)); (case aB => exact (by repeat (first | (with_reducible first | exact HB.out | apply below_alloc | apply pw_below_drewN | apply below_drew1 | refine below_set ?_ GE196.out) | exact HB.out))); (case aF => exact (fun k_ hk => Kd.fresh' (Kd.R_lt (by (with_reducible repeat (first | apply Kd.R_alloc | apply Kd.R_drewN | apply Kd.R_drew)); exact HO_6.out)) k_ hk)); (case aO => exact (by (with_reducible repeat (first | apply Kd.R_alloc | apply Kd.R_drewN | apply Kd.R_drew)); exact HO_8.out)); (case aS => exact (below_size (by repeat (first | (with_reducible first | exact HB.out | apply below_alloc | apply pw_below_drewN | apply below_drew1 | refine below_set ?_ GE196.out) | exact HB.out)))); (case aL => have := LMc25.out; omega); intro v208 w26 ho hb hg hat; rw [← Ny207.out] at ho; have n0_ := Aside0.mk (Kd.R_after (ok := (fun _ => True)) (by (with_reducible repeat (first | apply Kd.R_alloc | apply Kd.R_drewN | apply Kd.R_drew)); exact Kd.R_mono HO_6.out (fun _ hk => ⟨trivial, hk⟩)) hg hat); have n1_ := Aside0.mk (blk_grown (g := gb196) (o := .cells #[.slice (some ad204) l0_0.length c0_0] 27 (0, 0)) (by (with_reducible repeat (first | refine blk_drewN ?_ _ | refine blk_drew ?_ | refine blk_alloc ?_ _)); exact BK196.out) hg (Kd.R_ne HO_8.out BK196.out (by decide))); have n2_ := Aside0.mk (hb); have n3_ := Aside0.mk (ho); clear HO_6; clear BK196; clear HB; clear HO_8; have HO_6 := n0_; have BK196 := n1_; have HB := n2_; have HO209 := n3_; clear n0_ n1_ n2_ n3_; clear ho hb hg hat))
                                  go_roundg k2
                                  case measure => have := HK1.out; have := HK2.out; omega
                                  case rel => exact ⟨(y207), (wrap64 (x32_2 + 1)), (by first | rfl | (simp; done) | (simp [*]; done)), H', ⟨by have := HK1.out; have := HK2.out; omega⟩, ⟨by (try simp only [hl6_1]); (with_reducible repeat (first | apply Kd.R_alloc | apply Kd.R_drewN | apply Kd.R_drew)); exact Kd.R_mono HO_6.out (fun _ hk => hk.2)⟩, ⟨by (try simp only [hl6_1]); (with_reducible repeat (first | apply Kd.R_alloc | apply Kd.R_drewN | apply Kd.R_drew)); exact HO209.out⟩, ⟨by (try simp only [hl6_1]); (with_reducible repeat (first | refine blk_drewN ?_ _ | refine blk_drew ?_ | refine blk_alloc ?_ _)); exact BK196.out⟩, ⟨by repeat (first | (with_reducible first | exact HB.out | apply below_alloc | apply pw_below_drewN | apply below_drew1 | refine below_set ?_ GE196.out) | exact HB.out)⟩⟩
                                · rw [if_neg c25] at H
                                  exact absurd H (by simp)
                              · rw [if_neg c24] at H
                                exact absurd H (by simp)
                            · rw [if_neg c23] at H
                              exact absurd H (by simp)
                          · rw [if_neg c22] at H
                            exact absurd H (by simp)
                        · rw [if_neg c21] at H
                          exact absurd H (by simp)
                      · rw [if_neg c20] at H
                        have c20b0 : decide (x32_2 < ((rd_L1 l0_0 x7_1).length : Int)) = false := decide_eq_false c20
                        clear c20
                        replace H := Option.bind_eq_some_iff.mp H
                        obtain ⟨⟨t210, t211⟩, A270, H⟩ := H
                        replace H : (if 0 ≤ x7_1 then (if x7_1 < (x6_1.length : Int) then (impl_length.l0 V k2 (x6_1.set (x7_1 : Int).toNat (⟨t210, t211⟩ : S69)) (wrap64 (x7_1 - 1)) l0_0) else (none)) else (none)) = some (r1, r2) := H
                        have A27 := Aside0.mk A270
                        clear A270
                        by_cases c28 : 0 ≤ x7_1
                        · rw [if_pos c28] at H
                          have c28b0 : decide (0 ≤ x7_1) = true := decide_eq_true c28
                          clear c28
                          by_cases c29 : x7_1 < (x6_1.length : Int)
                          · rw [if_pos c29] at H
                            have c29b0 : decide (x7_1 < (x6_1.length : Int)) = true := decide_eq_true c29
                            clear c29
                            obtain ⟨y212, hy212⟩ : ∃ y_ : List (S69), y_ = (x6_1.set (x7_1 : Int).toNat (⟨t210, t211⟩ : S69)) := ⟨_, rfl⟩
                            replace H : (impl_length.l0 V k2 y212 (wrap64 (x7_1 - 1)) l0_0) = some (r1, r2) := by first | (rw [hy212]; with_reducible exact H) | (have H2_ := (Option.bind_some _ _).symm.trans H; rw [hy212]; with_reducible exact H2_) | (have H2_ := (Option.bind_some _ _).symm.trans H; with_reducible exact H2_) | with_reducible exact H | (rw [hy212]; exact H) | exact H
                            have Ny212 := Aside0.mk hy212
                            clear hy212
                            have H' := Aside0.mk H
                            clear H
                            obtain ⟨Ao31, co31, eo31⟩ := Kd.R_slice HO_8.out
                            subst eo31
                            go_wp2_with (first | ((with_reducible refine gate_dst (N := 48) rfl ?_); refine goesV_ (some 48) rfl rfl cf cap HF.out #[.slice Ao31 x8_2.length co31] rfl rfl (by (try simp only [List.map_toArray, List.map_cons, List.map_nil]); first | done | rfl | (simp only [List.length_drop, List.length_take]; rfl)) ?_; (with_reducible refine (HV.out k2 _ _ x8_2 t210 t211 _ ?side1 ?side2 A27.out).mono ?_); (case side1 => repeat (first | exact (Kd.R_reads' HO_8.out).2.2 | (with_reducible refine Kd.C_alloc ?_ _) | (with_reducible refine Kd.C_drewN ?_ _) | (with_reducible refine Kd.C_drew ?_))); (case side2 => exact (Kd.R_reads' HO_8.out).2.1); rintro e w32 ⟨rfl, hb⟩; refine ⟨_, rfl, ?_⟩; have n0_ := Aside0.mk (Kd.R_below (by (with_reducible repeat (first | apply Kd.R_alloc | apply Kd.R_drewN | apply Kd.R_drew)); exact HO_6.out) hb); have n1_ := Aside0.mk (Kd.R_below (by (with_reducible repeat (first | apply Kd.R_alloc | apply Kd.R_drewN | apply Kd.R_drew)); exact HO_8.out) hb); have n2_ := Aside0.mk (blk_below (g := gb196) (o := .cells #[.slice (some ad204) l0_0.length c0_0] 27 (0, 0)) (by (with_reducible repeat (first | refine blk_drewN ?_ _ | refine blk_drew ?_ | refine blk_alloc ?_ _)); exact BK196.out) hb); have n3_ := Aside0.mk (below_step (by repeat (first | (with_reducible first | exact HB.out | apply below_alloc | apply pw_below_drewN | apply below_drew1 | refine below_set ?_ GE196.out) | exact HB.out)) hb); clear HO_6; clear HO_8; clear BK196; clear HB; have HO_6 := n0_; have HO_8 := n1_; have BK196 := n2_; have HB := n3_; clear n0_ n1_ n2_ n3_; (try clear hb); (try clear hb2); (try clear hk); (try clear hi); have p30 : 0 ≤ (x7_1 : Int) := of_decide_eq_true (by first | (with_reducible assumption) | assumption); have q30 : (x7_1 : Int) < ((x6_1.length : Int) : Int) := of_decide_eq_true (by first | (with_reducible assumption) | assumption); obtain ⟨go30, co30, eo30, gb30, gl30, cl30, HG30⟩ := Kd.R_form HO_6.out (by omega); (first | cases eo30 | (injection eo30 with ea_ en_ ec_; (first | subst ea_ | (injection ea_ with ea_; subst ea_)); subst ec_; clear en_)); have GB30 := Aside0.mk gb30; have GG30 := Aside0.mk HG30; clear gb30 gl30 HG30; obtain ⟨ce30, hcl30, hM30, hcc30, hfr30⟩ := Kd.R_elem HO_6.out z69 (x7_1 : Int) p30 q30; obtain rfl := k69_openM hM30; have hx30_0 : w32.cell? ⟨go30, (x7_1 : Int).toNat * 2, none⟩ = some (.bool ((rd_T69 x6_1 x7_1).f0)) := hcc30 0 _ rfl; have hx30_1 : w32.cell? ⟨go30, (x7_1 : Int).toNat * 2 + 1, none⟩ = some (.int .i64 ((rd_T69 x6_1 x7_1).f1)) := hcc30 1 _ rfl; have hf30_0 : w32.frozen? ⟨go30, (x7_1 : Int).toNat * 2, none⟩ = false := hfr30 0; have hf30_1 : w32.frozen? ⟨go30, (x7_1 : Int).toNat * 2 + 1, none⟩ = false := hfr30 1; (try clear hM30); clear hcl30 hcc30 hfr30; replace p30 := eq_true p30; replace q30 := eq_true q30; have HX33 := Aside0.mk (show Kd.R k69 69 w32 w.heap.size (fun k_ => some k_ ≠ (.slice Ao31 x8_2.length co31 : Value).ownBlock) (.slice (some ⟨go30, 0, none⟩) x6_1.length co13) x6_1 from (by (with_reducible repeat (first | apply Kd.R_alloc | apply Kd.R_drewN | apply Kd.R_drew)); exact HO_6.out)); obtain ⟨ce33, hcl33, hM33, hcc33, hfr33⟩ := Kd.R_elem HX33.out z69 (x7_1 : Int) (of_decide_eq_true (by first | (with_reducible assumption) | assumption)) (by have h_ : (x7_1 : Int) < ((x6_1.length : Int) : Int) := of_decide_eq_true (by first | (with_reducible assumption) | assumption); first | exact h_ | (have e_ := (Kd.R_reads' HO_6.out).1; omega) | simpa using h_); obtain rfl := k69_openM hM33; have HP33 := Kd.R_seg HX33.out (x7_1 : Int) (of_decide_eq_true (by first | (with_reducible assumption) | assumption)) (by have h_ : (x7_1 : Int) < ((x6_1.length : Int) : Int) := of_decide_eq_true (by first | (with_reducible assumption) | assumption); first | exact h_ | (have e_ := (Kd.R_reads' HO_6.out).1; omega) | simpa using h_) (seg := [.bool t210, .int .i64 t211]) (j := 0) hcl33 hcc33 (show 2 ≤ 2 from by decide) (x' := (⟨t210, t211⟩ : S69)) (k69_mkM _ _ _ (⟨t210, t211⟩ : S69) ) (fun _ hk => hk); have hx33_0 := hcc33 0 _ rfl; (try simp only [show (k69).sz = 2 from rfl, Nat.mul_one, Nat.add_zero] at hx33_0); have hf33_0 := hfr33 0; (try simp only [show (k69).sz = 2 from rfl, Nat.mul_one, Nat.add_zero] at hf33_0); have hx33_1 := hcc33 1 _ rfl; (try simp only [show (k69).sz = 2 from rfl, Nat.mul_one, Nat.add_zero] at hx33_1); have hf33_1 := hfr33 1; (try simp only [show (k69).sz = 2 from rfl, Nat.mul_one, Nat.add_zero] at hf33_1); (try clear hM33); clear hcl33 hcc33 hfr33) | ((with_reducible refine gate_store (t := 69) (p := 49) rfl ?_); refine store_event (t := 69) (p := 49) (v := ?vo_w34) (w1 := ((w32.setCell ⟨go30, (x7_1 : Int).toNat * 2, none⟩ (.bool t210)).setCell ⟨go30, (x7_1 : Int).toNat * 2 + 1, none⟩ (.int .i64 t211))) ?hg ?ho ?hn ?hr ?_; (case ho => rfl); (case hg => rfl); (case hn => rfl); (case hr => first | (go_simp; done) | (go_simp; rfl)); intro w34 hw; have hg : w32.grownBy w34 (some go30) := (by rw [hw]; exact HP33.2); have hp_ : Kd.R k69 69 w34 w.heap.size (fun k_ => some k_ ≠ (.slice Ao31 x8_2.length co31 : Value).ownBlock) (.slice (some ⟨go30, 0, none⟩) x6_1.length co13) y212 := (by rw [hw, Ny212.out]; exact HP33.1); clear HP33; have n0_ := Aside0.mk (hp_); have n1_ := Aside0.mk (Kd.R_after (v := (.slice (some ⟨go30, 0, none⟩) x6_1.length co13)) (v1 := (.slice (some ⟨go30, 0, none⟩) x6_1.length co13)) (ok := (fun _ => True)) (by (with_reducible repeat (first | apply Kd.R_alloc | apply Kd.R_drewN | apply Kd.R_drew)); exact Kd.R_mono HO_8.out (fun _ hk => ⟨trivial, hk⟩)) hg (.inl rfl)); have n2_ := Aside0.mk (blk_grown (g := gb196) (o := .cells #[.slice (some ad204) l0_0.length c0_0] 27 (0, 0)) (by (with_reducible repeat (first | refine blk_drewN ?_ _ | refine blk_drew ?_ | refine blk_alloc ?_ _)); exact BK196.out) hg (Kd.R_ne HO_6.out BK196.out (by decide))); have n3_ := Aside0.mk ((by rw [hw]; exact below_set (below_set (HB.out) GB30.out) GB30.out : Below w.heap.size w w34)); clear HO_6; clear HO_8; clear BK196; clear HB; have HO_6 := n0_; have HO_8 := n1_; have BK196 := n2_; have HB := n3_; clear n0_ n1_ n2_ n3_; clear hg hw hp_))
                            (try simp only [← hl6_1])
                            go_roundg k2
                            case measure => have := HK1.out; have := HK2.out; omega
                            case rel => exact ⟨(y212), (wrap64 (x7_1 - 1)), (by first | rfl | (simp; done) | (simp [*]; done)), H', ⟨by have := HK1.out; have := HK2.out; omega⟩, ⟨by (try simp only [hl6_1]); (with_reducible repeat (first | apply Kd.R_alloc | apply Kd.R_drewN | apply Kd.R_drew)); exact Kd.R_mono HO_6.out (fun _ hk => trivial)⟩, ⟨by (try simp only [hl6_1]); (with_reducible repeat (first | refine blk_drewN ?_ _ | refine blk_drew ?_ | refine blk_alloc ?_ _)); exact BK196.out⟩, ⟨by repeat (first | (with_reducible first | exact HB.out | apply below_alloc | apply pw_below_drewN | apply below_drew1 | refine below_set ?_ GE196.out) | exact HB.out)⟩⟩
                          · rw [if_neg c29] at H
                            exact absurd H (by simp)
                        · rw [if_neg c28] at H
                          exact absurd H (by simp)
                · rw [if_neg c16] at H
                  exact absurd H (by simp)
              · rw [if_neg c15] at H
                exact absurd H (by simp)
            · rw [if_neg c14] at H
              have c14b0 : decide (0 ≤ x7_1) = false := decide_eq_false c14
              clear c14
              simp only [Option.some.injEq, Prod.mk.injEq] at H
              obtain ⟨rfl, rfl⟩ := H
              go_wp2
              go_ret2
              exact ⟨_, by first | rfl | (simp [errW_none, errW_some] <;> rfl) | (simp [*, errW_none, errW_some] <;> rfl), by (with_reducible repeat (first | apply Kd.R_alloc | apply Kd.R_drewN | apply Kd.R_drew)); exact HO_6.out, by repeat (first | (with_reducible first | exact HB.out | apply below_alloc | apply pw_below_drewN | apply below_drew1 | refine below_set ?_ GE196.out) | exact HB.out)⟩
      · rw [if_neg c6] at H
        exact absurd H (by simp)
    · rw [if_neg c5] at H
      exact absurd H (by simp)
  · replace c4 := Bool.eq_false_iff.mpr c4
    subst c4
    have H1 : (some (([] : List (S69)), 1)) = some (r1, r2) := by rw [if_neg (show ¬ (false = true) by decide)] at H; exact H
    clear H
    have H := H1
    clear H1
    simp only [Option.some.injEq, Prod.mk.injEq] at H
    obtain ⟨rfl, rfl⟩ := H
    go_enter Try.func78, Try.ntmps78
    go_wp2_with (first | ((with_reducible refine gate_dst (N := 2) rfl ?_); refine box_event ?hg (N := 2) ?hd (cs := #[.slice A0_0 l0_0.length c0_0]) (t := 27) ?hr ?_; (case hd => rfl); (case hg => rfl); (case hr => first | (go_simp; done) | (go_simp; rfl)); intro gb196 hg w35 hbox hb; have n0_ := Aside0.mk (below_step (by repeat (first | (with_reducible first | exact HB.out | apply below_alloc | apply pw_below_drewN | apply below_drew1) | exact HB.out)) hb); have n1_ := Aside0.mk (hbox); have n2_ := Aside0.mk ((by rw [hg]; exact (below_size (by repeat (first | (with_reducible first | exact HB.out | apply below_alloc | apply pw_below_drewN | apply below_drew1) | exact HB.out))) : w.heap.size ≤ gb196)); have n3_ := Aside0.mk ((by rw [hg]; exact (below_size (by repeat (first | (with_reducible first | exact HB.out | apply below_alloc | apply pw_below_drewN | apply below_drew1) | exact HB.out))) : w.heap.size ≤ gb196)); clear HB; have HB := n0_; have BK196 := n1_; have GW196 := n2_; have GE196 := n3_; clear n0_ n1_ n2_ n3_; clear hb hbox hg; have hcz36_0 : w35.cell? ⟨gb196, 0, none⟩ = some (.slice A0_0 l0_0.length c0_0) := (blk_cell BK196.out 0).trans rfl; have hfz36_0 := blk_frozen BK196.out 0) | ((with_reducible refine gate_callee (f := 18) rfl ?_); refine goesL_ (some 12) rfl rfl Try.func18 (by kernel_rfl) rfl #[.agg #[.slice A0_0 l0_0.length c0_0]] rfl (by (try simp only [List.map_toArray, List.map_cons, List.map_nil]); first | done | rfl | (simp only [List.length_drop, List.length_take]; rfl)) ?_; (with_reducible refine (impl_IsGame.calls k _ _ l0_0 false _ ?side1 ?side2 A3.out).mono ?_); (case side1 => repeat (first | exact (Kd.C_below HR0_0.out HB.out) | (with_reducible refine Kd.C_alloc ?_ _) | (with_reducible refine Kd.C_drewN ?_ _) | (with_reducible refine Kd.C_drew ?_))); (case side2 => exact HC0_0.out); rintro e w37 ⟨rfl, hb⟩; refine ⟨_, rfl, ?_⟩; have n0_ := Aside0.mk (blk_below (g := gb196) (o := .cells #[.slice A0_0 l0_0.length c0_0] 27 (0, 0)) (by (with_reducible repeat (first | refine blk_drewN ?_ _ | refine blk_drew ?_ | refine blk_alloc ?_ _)); exact BK196.out) hb); have n1_ := Aside0.mk (below_step (by repeat (first | (with_reducible first | exact HB.out | apply below_alloc | apply pw_below_drewN | apply below_drew1 | refine below_set ?_ GE196.out) | exact HB.out)) hb); clear BK196; clear HB; have BK196 := n0_; have HB := n1_; clear n0_ n1_; (try clear hb); (try clear hb2); (try clear hk); (try clear hi)))
    go_ret2
    exact ⟨_, by first | rfl | (simp [errW_none, errW_some] <;> rfl) | (simp [*, errW_none, errW_some] <;> rfl), by first | exact Kd.R_nil _ _ _ _ _ | exact Kd.N_nil _ _ _ _ _ | exact Kd.V_nil _ _ _ _ _ | exact Kd.Q_nil _ _ _ _ _ | exact Kd.S_nil _ _ _ _ _, by repeat (first | (with_reducible first | exact HB.out | apply below_alloc | apply pw_below_drewN | apply below_drew1 | refine below_set ?_ GE196.out) | exact HB.out)⟩

end Go.Proofs.Ytlicbcaloebhlaa.PX

/- The walk of the program's lengthOf. -/
namespace Go.Proofs.Ytlicbcaloebhlaa.PX
open Go.RowKit Go.Proofs.YtlicbcaloebhlaaW.PrintWords Go.Proofs.YtlicbcaloebhlaaW.PrintLast Go.Proofs.YtlicbcaloebhlaaW.PrintMore
attribute [local go_sem] max2_int min2_int max_two min_two max_three min_three max_four min_four
set_option linter.unusedVariables false
set_option linter.unusedSimpArgs false
mutual
def impl_lengthOf.l0 : Nat → List (S69) → Int → Int → Bool → Int → Option (Bool × Int)
  | 0, _, _, _, _, _ => none
  | k + 1, x7, x8, x9, x194000, x194001 => if x9 < x8 then (if 0 ≤ x9 then (if x9 < (x7.length : Int) then (if ((rd_T69 x7 x9).f0 = true) then (impl_lengthOf.j1 k x7 x8 x9 false x194000 x194001 ((rd_T69 x7 x9).f0) ((rd_T69 x7 x9).f1)) else (if x194000 = true then (impl_lengthOf.j1 k x7 x8 x9 (decide ((wrap64 (((rd_T69 x7 x9).f1) + 1)) < x194001)) x194000 x194001 ((rd_T69 x7 x9).f0) ((rd_T69 x7 x9).f1)) else (impl_lengthOf.j1 k x7 x8 x9 true x194000 x194001 ((rd_T69 x7 x9).f0) ((rd_T69 x7 x9).f1)))) else (none)) else (none)) else (some (x194000, x194001))
def impl_lengthOf.j1 : Nat → List (S69) → Int → Int → Bool → Bool → Int → Bool → Int → Option (Bool × Int)
  | 0, _, _, _, _, _, _, _, _ => none
  | k + 1, x7, x8, x9, x13, x194000, x194001, x196000, x196001 => if x13 = true then (impl_lengthOf.l0 k x7 x8 (wrap64 (x9 + 1)) true (wrap64 (x196001 + 1))) else (if x196000 = true then (if x194000 = true then (impl_lengthOf.l0 k x7 x8 (wrap64 (x9 + 1)) x194000 x194001) else (impl_lengthOf.l0 k x7 x8 (wrap64 (x9 + 1)) x194000 (mx x194001 (wrap64 (x196001 + 1))))) else (impl_lengthOf.l0 k x7 x8 (wrap64 (x9 + 1)) x194000 x194001))
end
def impl_lengthOf.f (k : Nat) (l0 : List (S69)) : Option (Bool × Int) := impl_lengthOf.l0 k l0 (l0.length : Int) 0 false 0
theorem impl_lengthOf.mono_l : ∀ k, (∀ y0 y1 y2 y3 y4, LeO (impl_lengthOf.l0 k y0 y1 y2 y3 y4) (impl_lengthOf.l0 (k + 1) y0 y1 y2 y3 y4)) ∧ (∀ y0 y1 y2 y3 y4 y5 y6 y7, LeO (impl_lengthOf.j1 k y0 y1 y2 y3 y4 y5 y6 y7) (impl_lengthOf.j1 (k + 1) y0 y1 y2 y3 y4 y5 y6 y7))
  | 0 => ⟨fun _ _ _ _ _ r h => by simp [impl_lengthOf.l0] at h, fun _ _ _ _ _ _ _ _ r h => by simp [impl_lengthOf.j1] at h⟩
  | k + 1 => by
    obtain ⟨ih0, ih1⟩ := impl_lengthOf.mono_l k
    refine ⟨?_, ?_⟩
    · intro y0 y1 y2 y3 y4
      unfold impl_lengthOf.l0
      repeat' first
      | (with_reducible exact ih0 _ _ _ _ _)
      | (with_reducible exact ih1 _ _ _ _ _ _ _ _)
      | (with_reducible exact LeO.refl _)
      | (with_reducible exact LeO.none _)
      | (with_reducible refine LeO.ite ?_ ?_)
      | (with_reducible refine LeO.bind ?_ (fun _ => ?_))
      | exact ih0 _ _ _ _ _
      | exact ih1 _ _ _ _ _ _ _ _
      | exact LeO.none _
      | refine LeO.ite ?_ ?_
      | refine LeO.bind ?_ (fun _ => ?_)
    · intro y0 y1 y2 y3 y4 y5 y6 y7
      unfold impl_lengthOf.j1
      repeat' first
      | (with_reducible exact ih0 _ _ _ _ _)
      | (with_reducible exact ih1 _ _ _ _ _ _ _ _)
      | (with_reducible exact LeO.refl _)
      | (with_reducible exact LeO.none _)
      | (with_reducible refine LeO.ite ?_ ?_)
      | (with_reducible refine LeO.bind ?_ (fun _ => ?_))
      | exact ih0 _ _ _ _ _
      | exact ih1 _ _ _ _ _ _ _ _
      | exact LeO.none _
      | refine LeO.ite ?_ ?_
      | refine LeO.bind ?_ (fun _ => ?_)
theorem impl_lengthOf.mono : ∀ a0 k, LeO (impl_lengthOf.f k a0) (impl_lengthOf.f (k + 1) a0) := by
  intro a0 k
  obtain ⟨ih0, ih1⟩ := impl_lengthOf.mono_l k
  unfold impl_lengthOf.f
  repeat' first
      | (with_reducible exact ih0 _ _ _ _ _)
      | (with_reducible exact ih1 _ _ _ _ _ _ _ _)
      | (with_reducible exact LeO.refl _)
      | (with_reducible exact LeO.none _)
      | (with_reducible refine LeO.ite ?_ ?_)
      | (with_reducible refine LeO.bind ?_ (fun _ => ?_))
      | exact ih0 _ _ _ _ _
      | exact ih1 _ _ _ _ _ _ _ _
      | exact LeO.none _
      | refine LeO.ite ?_ ?_
      | refine LeO.bind ?_ (fun _ => ?_)
set_option maxHeartbeats 8000000 in
set_option maxRecDepth 100000 in
theorem impl_lengthOf.calls (k : Nat) (A0 : Option Addr) (c0 : Nat) (l0 : List (S69)) (r1 : Bool) (r2 : Int) (w : World) (hr0 : Kd.C k69 w A0 l0.length l0) (hc0 : l0.length ≤ c0) (h : impl_lengthOf.f k l0 = some (r1, r2)) :
    Calls Try.prog 79 #[.slice A0 l0.length c0] w fun e w' => e = .returned (.agg #[.bool r1, .int .i64 r2]) ∧ Below w.heap.size w w' := by
  have hu69 := Try.underlying69
  have HR0 := Aside0.mk hr0
  have HC0 := Aside0.mk hc0
  clear hr0 hc0
  have HB := Aside0.mk (Below.refl w.heap.size w)
  have H : (impl_lengthOf.l0 k l0 (l0.length : Int) 0 false 0) = some (r1, r2) := h
  clear h
  have H' := Aside0.mk H
  clear H
  go_enter Try.func79, Try.ntmps79
  go_wp2_with (first | ((with_reducible refine gate_dst (N := 2) rfl ?_); refine box_event ?hg (N := 2) ?hd (cs := #[.bool false, .int .i64 0]) (t := 69) ?hr ?_; (case hd => rfl); (case hg => rfl); (case hr => first | (go_simp; done) | (go_simp; rfl)); intro gb192 hg w2 hbox hb; have n0_ := Aside0.mk (below_step (by repeat (first | (with_reducible first | exact HB.out | apply below_alloc | apply pw_below_drewN | apply below_drew1) | exact HB.out)) hb); have n1_ := Aside0.mk (hbox); have n2_ := Aside0.mk ((by rw [hg]; exact (below_size (by repeat (first | (with_reducible first | exact HB.out | apply below_alloc | apply pw_below_drewN | apply below_drew1) | exact HB.out))) : w.heap.size ≤ gb192)); have n3_ := Aside0.mk ((by rw [hg]; exact (below_size (by repeat (first | (with_reducible first | exact HB.out | apply below_alloc | apply pw_below_drewN | apply below_drew1) | exact HB.out))) : w.heap.size ≤ gb192)); clear HB; have HB := n0_; have BK192 := n1_; have GW192 := n2_; have GE192 := n3_; clear n0_ n1_ n2_ n3_; clear hb hbox hg) | ((with_reducible refine gate_dst (N := 3) rfl ?_); refine box_event ?hg (N := 3) ?hd (cs := #[.bool false, .int .i64 0]) (t := 69) ?hr ?_; (case hd => rfl); (case hg => rfl); (case hr => first | (go_simp; done) | (go_simp; rfl)); intro gb193 hg w3 hbox hb; have n0_ := Aside0.mk (blk_below (g := gb192) (o := .cells #[.bool false, .int .i64 0] 69 (0, 0)) (by (with_reducible repeat (first | refine blk_drewN ?_ _ | refine blk_drew ?_ | refine blk_alloc ?_ _)); exact BK192.out) hb); have n1_ := Aside0.mk (below_step (by repeat (first | (with_reducible first | exact HB.out | apply below_alloc | apply pw_below_drewN | apply below_drew1 | refine below_set ?_ GE192.out) | exact HB.out)) hb); have n2_ := Aside0.mk (hbox); have n3_ := Aside0.mk ((by rw [hg]; exact (below_size (by repeat (first | (with_reducible first | exact HB.out | apply below_alloc | apply pw_below_drewN | apply below_drew1 | refine below_set ?_ GE192.out) | exact HB.out))) : w.heap.size ≤ gb193)); have n4_ := Aside0.mk ((by rw [hg]; exact (below_size (by repeat (first | (with_reducible first | exact HB.out | apply below_alloc | apply pw_below_drewN | apply below_drew1 | refine below_set ?_ GE192.out) | exact HB.out))) : w.heap.size ≤ gb193)); have n5_ := Aside0.mk ((by rw [hg]; exact Nat.ne_of_lt (blk_lt (g := gb192) (o := .cells #[.bool false, .int .i64 0] 69 (0, 0)) (by (with_reducible repeat (first | refine blk_drewN ?_ _ | refine blk_drew ?_ | refine blk_alloc ?_ _)); exact BK192.out)) : gb192 ≠ gb193)); have n6_ := Aside0.mk ((by rw [hg]; exact Nat.ne_of_gt (blk_lt (g := gb192) (o := .cells #[.bool false, .int .i64 0] 69 (0, 0)) (by (with_reducible repeat (first | refine blk_drewN ?_ _ | refine blk_drew ?_ | refine blk_alloc ?_ _)); exact BK192.out)) : gb193 ≠ gb192)); clear BK192; clear HB; have BK192 := n0_; have HB := n1_; have BK193 := n2_; have GW193 := n3_; have GE193 := n4_; have NB192_193 := n5_; have NB193_192 := n6_; clear n0_ n1_ n2_ n3_ n4_ n5_ n6_; clear hb hbox hg; have hnb4 := NB193_192.out; have hnc4 := NB192_193.out; have hcz5_0 : w3.cell? ⟨gb193, 0, none⟩ = some (.bool false) := (blk_cell BK193.out 0).trans rfl; have hcz5_1 : w3.cell? ⟨gb193, 1, none⟩ = some (.int .i64 0) := (blk_cell BK193.out 1).trans rfl; have hfz5_0 := blk_frozen BK193.out 0; have hfz5_1 := blk_frozen BK193.out 1))
  go_loopg [9] k (fun kq v9 w' => ∃ (x9_1 : Int) (x194000_1 : Bool) (x194001_1 : Int), v9 = .int .i64 x9_1 ∧ Aside0 (impl_lengthOf.l0 kq l0 (l0.length : Int) x9_1 x194000_1 x194001_1 = some (r1, r2)) ∧ Aside0 (kq ≤ k) ∧ Aside0 (w'.heap[gb192]? = some (.cells #[.bool false, .int .i64 0] 69 (0, 0))) ∧ Aside0 (w'.heap[gb193]? = some (.cells #[.bool x194000_1, .int .i64 x194001_1] 69 (0, 0))) ∧ Aside0 (Below w.heap.size w w'))
  case atStart => exact ⟨(0), (false), (0), (by first | rfl | (simp; done) | (simp [*]; done)), H', ⟨Nat.le_refl _⟩, ⟨by (with_reducible repeat (first | refine blk_drewN ?_ _ | refine blk_drew ?_ | refine blk_alloc ?_ _)); refine blk_far ?_ NB192_193.out _; (with_reducible repeat (first | refine blk_drewN ?_ _ | refine blk_drew ?_ | refine blk_alloc ?_ _)); refine blk_far ?_ NB192_193.out _; (with_reducible repeat (first | refine blk_drewN ?_ _ | refine blk_drew ?_ | refine blk_alloc ?_ _)); exact BK192.out⟩, ⟨by (with_reducible repeat (first | refine blk_drewN ?_ _ | refine blk_drew ?_ | refine blk_alloc ?_ _)); refine blk_put (cs := #[.bool false, .int .i64 0]) ?_ 1 _ rfl; (with_reducible repeat (first | refine blk_drewN ?_ _ | refine blk_drew ?_ | refine blk_alloc ?_ _)); refine blk_put (cs := #[.bool false, .int .i64 0]) ?_ 0 _ rfl; (with_reducible repeat (first | refine blk_drewN ?_ _ | refine blk_drew ?_ | refine blk_alloc ?_ _)); exact BK193.out⟩, ⟨by repeat (first | (with_reducible first | exact HB.out | apply below_alloc | apply pw_below_drewN | apply below_drew1 | refine below_set ?_ GE192.out | refine below_set ?_ GE193.out) | exact HB.out)⟩⟩
  case round =>
    clear H'
    try clear p2
    try clear c4
    try clear hcz5_0
    try clear hcz5_1
    try clear hfz5_0
    try clear hfz5_1
    obtain ⟨x9_1, x194000_1, x194001_1, rfl, HA, HK1, BK192, BK193, HB⟩ := hrel
    cases gk with
    | zero => exact absurd HA.out (by simp [impl_lengthOf.l0])
    | succ k1 =>
      have H := HA.out
      clear HA
      simp only [impl_lengthOf.l0] at H
      by_cases c6 : x9_1 < (l0.length : Int)
      · rw [if_pos c6] at H
        have c6b0 : decide (x9_1 < (l0.length : Int)) = true := decide_eq_true c6
        clear c6
        by_cases c7 : 0 ≤ x9_1
        · rw [if_pos c7] at H
          have c7b0 : decide (0 ≤ x9_1) = true := decide_eq_true c7
          clear c7
          by_cases c8 : x9_1 < (l0.length : Int)
          · rw [if_pos c8] at H
            have c8b0 : decide (x9_1 < (l0.length : Int)) = true := decide_eq_true c8
            clear c8
            have HC9 := Aside0.mk H
            clear H
            have p194 : 0 ≤ (x9_1 : Int) := of_decide_eq_true (by first | (with_reducible assumption) | assumption)
            have q194 : x9_1 < (l0.length : Int) := of_decide_eq_true (by first | (with_reducible assumption) | assumption)
            obtain ⟨ad194, e194, hx194_0, hx194_1⟩ := at_T69 HR0.out x9_1 p194 q194
            cases e194
            replace hx194_0 := (HB.out.cell (World.block_lt_of_cell? w _ hx194_0)).trans hx194_0
            replace hx194_1 := (HB.out.cell (World.block_lt_of_cell? w _ hx194_1)).trans hx194_1
            replace p194 := eq_true p194
            replace q194 := eq_true q194
            go_upto_region 5 with (first | ((with_reducible refine gate_dst (N := 5) rfl ?_); refine box_event ?hg (N := 5) ?hd (cs := #[.bool false, .int .i64 0]) (t := 69) ?hr ?_; (case hd => rfl); (case hg => rfl); (case hr => first | (go_simp; done) | (go_simp; rfl)); intro gb195 hg w10 hbox hb; have n0_ := Aside0.mk (blk_below (g := gb192) (o := .cells #[.bool false, .int .i64 0] 69 (0, 0)) (by (with_reducible repeat (first | refine blk_drewN ?_ _ | refine blk_drew ?_ | refine blk_alloc ?_ _)); exact BK192.out) hb); have n1_ := Aside0.mk (blk_below (g := gb193) (o := .cells #[.bool x194000_1, .int .i64 x194001_1] 69 (0, 0)) (by (with_reducible repeat (first | refine blk_drewN ?_ _ | refine blk_drew ?_ | refine blk_alloc ?_ _)); exact BK193.out) hb); have n2_ := Aside0.mk (below_step (by repeat (first | (with_reducible first | exact HB.out | apply below_alloc | apply pw_below_drewN | apply below_drew1 | refine below_set ?_ GE192.out | refine below_set ?_ GE193.out) | exact HB.out)) hb); have n3_ := Aside0.mk (hbox); have n4_ := Aside0.mk ((by rw [hg]; exact (below_size (by repeat (first | (with_reducible first | exact HB.out | apply below_alloc | apply pw_below_drewN | apply below_drew1 | refine below_set ?_ GE192.out | refine below_set ?_ GE193.out) | exact HB.out))) : w.heap.size ≤ gb195)); have n5_ := Aside0.mk ((by rw [hg]; exact (below_size (by repeat (first | (with_reducible first | exact HB.out | apply below_alloc | apply pw_below_drewN | apply below_drew1 | refine below_set ?_ GE192.out | refine below_set ?_ GE193.out) | exact HB.out))) : w.heap.size ≤ gb195)); have n6_ := Aside0.mk ((by rw [hg]; exact Nat.ne_of_lt (blk_lt (g := gb192) (o := .cells #[.bool false, .int .i64 0] 69 (0, 0)) (by (with_reducible repeat (first | refine blk_drewN ?_ _ | refine blk_drew ?_ | refine blk_alloc ?_ _)); exact BK192.out)) : gb192 ≠ gb195)); have n7_ := Aside0.mk ((by rw [hg]; exact Nat.ne_of_gt (blk_lt (g := gb192) (o := .cells #[.bool false, .int .i64 0] 69 (0, 0)) (by (with_reducible repeat (first | refine blk_drewN ?_ _ | refine blk_drew ?_ | refine blk_alloc ?_ _)); exact BK192.out)) : gb195 ≠ gb192)); have n8_ := Aside0.mk ((by rw [hg]; exact Nat.ne_of_lt (blk_lt (g := gb193) (o := .cells #[.bool x194000_1, .int .i64 x194001_1] 69 (0, 0)) (by (with_reducible repeat (first | refine blk_drewN ?_ _ | refine blk_drew ?_ | refine blk_alloc ?_ _)); exact BK193.out)) : gb193 ≠ gb195)); have n9_ := Aside0.mk ((by rw [hg]; exact Nat.ne_of_gt (blk_lt (g := gb193) (o := .cells #[.bool x194000_1, .int .i64 x194001_1] 69 (0, 0)) (by (with_reducible repeat (first | refine blk_drewN ?_ _ | refine blk_drew ?_ | refine blk_alloc ?_ _)); exact BK193.out)) : gb195 ≠ gb193)); clear BK192; clear BK193; clear HB; have BK192 := n0_; have BK193 := n1_; have HB := n2_; have BK195 := n3_; have GW195 := n4_; have GE195 := n5_; have NB192_195 := n6_; have NB195_192 := n7_; have NB193_195 := n8_; have NB195_193 := n9_; clear n0_ n1_ n2_ n3_ n4_ n5_ n6_ n7_ n8_ n9_; clear hb hbox hg; have hnb11 := NB195_192.out; have hnc11 := NB192_195.out; have hnb12 := NB195_193.out; have hnc12 := NB193_195.out; have hcz13_0 : w10.cell? ⟨gb195, 0, none⟩ = some (.bool false) := (blk_cell BK195.out 0).trans rfl; have hcz13_1 : w10.cell? ⟨gb195, 1, none⟩ = some (.int .i64 0) := (blk_cell BK195.out 1).trans rfl; have hfz13_0 := blk_frozen BK195.out 0; have hfz13_1 := blk_frozen BK195.out 1))
            (try simp only [Act.put, List.setIfInBounds_toArray, List.set_cons_zero, List.set_cons_succ])
            go_cut [13] (fun v13 wc => ∃ (kq : Nat) (x13_8 : Bool), v13 = .bool x13_8 ∧ Aside0 (impl_lengthOf.j1 kq l0 (l0.length : Int) x9_1 x13_8 x194000_1 x194001_1 ((rd_T69 l0 x9_1).f0) ((rd_T69 l0 x9_1).f1) = some (r1, r2)) ∧ Aside0 (kq ≤ k1) ∧ Aside0 (wc.heap[gb192]? = some (.cells #[.bool false, .int .i64 0] 69 (0, 0))) ∧ Aside0 (wc.heap[gb193]? = some (.cells #[.bool x194000_1, .int .i64 x194001_1] 69 (0, 0))) ∧ Aside0 (wc.heap[gb195]? = some (.cells #[.bool ((rd_T69 l0 x9_1).f0), .int .i64 ((rd_T69 l0 x9_1).f1)] 69 (0, 0))) ∧ Aside0 (Below w.heap.size w wc))
            case first =>
              have H := HC9.out
              clear HC9
              obtain ⟨bq14, hbq14⟩ : ∃ b_ : Bool, b_ = ((rd_T69 l0 x9_1).f0) := ⟨_, rfl⟩
              replace H : (if (bq14 = true) then (impl_lengthOf.j1 k1 l0 (l0.length : Int) x9_1 false x194000_1 x194001_1 bq14 ((rd_T69 l0 x9_1).f1)) else (if x194000_1 = true then (impl_lengthOf.j1 k1 l0 (l0.length : Int) x9_1 (decide ((wrap64 (((rd_T69 l0 x9_1).f1) + 1)) < x194001_1)) x194000_1 x194001_1 bq14 ((rd_T69 l0 x9_1).f1)) else (impl_lengthOf.j1 k1 l0 (l0.length : Int) x9_1 true x194000_1 x194001_1 bq14 ((rd_T69 l0 x9_1).f1)))) = some (r1, r2) := by rw [← hbq14] at H; exact H
              have Nbq14 := Aside0.mk hbq14
              clear hbq14
              (try rw [← Nbq14.out])
              by_cases c15 : (bq14 = true)
              · subst c15
                have H1 : (impl_lengthOf.j1 k1 l0 (l0.length : Int) x9_1 false x194000_1 x194001_1 true ((rd_T69 l0 x9_1).f1)) = some (r1, r2) := by rw [if_pos rfl] at H; exact H
                clear H
                have H := H1
                clear H1
                have H' := Aside0.mk H
                clear H
                have hnb16 := NB195_192.out
                have hnc16 := NB192_195.out
                have hnb17 := NB195_193.out
                have hnc17 := NB193_195.out
                have hcz18_0 : w10.cell? ⟨gb195, 0, none⟩ = some (.bool false) := (blk_cell BK195.out 0).trans rfl
                have hcz18_1 : w10.cell? ⟨gb195, 1, none⟩ = some (.int .i64 0) := (blk_cell BK195.out 1).trans rfl
                have hfz18_0 := blk_frozen BK195.out 0
                have hfz18_1 := blk_frozen BK195.out 1
                go_wp2
                go_meet
                case rel => (try rw [← Nbq14.out]); exact ⟨_, (false), (by first | rfl | (simp; done) | (simp [*]; done)), H', ⟨by have := HK1.out; first | omega | exact Nat.le_refl _⟩, ⟨by (with_reducible repeat (first | refine blk_drewN ?_ _ | refine blk_drew ?_ | refine blk_alloc ?_ _)); refine blk_far ?_ NB192_195.out _; (with_reducible repeat (first | refine blk_drewN ?_ _ | refine blk_drew ?_ | refine blk_alloc ?_ _)); refine blk_far ?_ NB192_195.out _; (with_reducible repeat (first | refine blk_drewN ?_ _ | refine blk_drew ?_ | refine blk_alloc ?_ _)); exact BK192.out⟩, ⟨by (with_reducible repeat (first | refine blk_drewN ?_ _ | refine blk_drew ?_ | refine blk_alloc ?_ _)); refine blk_far ?_ NB193_195.out _; (with_reducible repeat (first | refine blk_drewN ?_ _ | refine blk_drew ?_ | refine blk_alloc ?_ _)); refine blk_far ?_ NB193_195.out _; (with_reducible repeat (first | refine blk_drewN ?_ _ | refine blk_drew ?_ | refine blk_alloc ?_ _)); exact BK193.out⟩, ⟨by (with_reducible repeat (first | refine blk_drewN ?_ _ | refine blk_drew ?_ | refine blk_alloc ?_ _)); refine blk_put (cs := #[.bool (true), .int .i64 0]) ?_ 1 _ rfl; (with_reducible repeat (first | refine blk_drewN ?_ _ | refine blk_drew ?_ | refine blk_alloc ?_ _)); refine blk_put (cs := #[.bool false, .int .i64 0]) ?_ 0 _ rfl; (with_reducible repeat (first | refine blk_drewN ?_ _ | refine blk_drew ?_ | refine blk_alloc ?_ _)); exact BK195.out⟩, ⟨by repeat (first | (with_reducible first | exact HB.out | apply below_alloc | apply pw_below_drewN | apply below_drew1 | refine below_set ?_ GE192.out | refine below_set ?_ GE193.out | refine below_set ?_ GE195.out) | exact HB.out)⟩⟩
              · replace c15 := Bool.eq_false_iff.mpr c15
                subst c15
                have H1 : (if x194000_1 = true then (impl_lengthOf.j1 k1 l0 (l0.length : Int) x9_1 (decide ((wrap64 (((rd_T69 l0 x9_1).f1) + 1)) < x194001_1)) x194000_1 x194001_1 false ((rd_T69 l0 x9_1).f1)) else (impl_lengthOf.j1 k1 l0 (l0.length : Int) x9_1 true x194000_1 x194001_1 false ((rd_T69 l0 x9_1).f1))) = some (r1, r2) := by rw [if_neg (show ¬ (false = true) by decide)] at H; exact H
                clear H
                have H := H1
                clear H1
                by_cases c19 : x194000_1 = true
                · subst c19
                  have H1 : (impl_lengthOf.j1 k1 l0 (l0.length : Int) x9_1 (decide ((wrap64 (((rd_T69 l0 x9_1).f1) + 1)) < x194001_1)) true x194001_1 false ((rd_T69 l0 x9_1).f1)) = some (r1, r2) := by rw [if_pos rfl] at H; exact H
                  clear H
                  have H := H1
                  clear H1
                  have H' := Aside0.mk H
                  clear H
                  have hnb20 := NB195_192.out
                  have hnc20 := NB192_195.out
                  have hnb21 := NB195_193.out
                  have hnc21 := NB193_195.out
                  have hcz22_0 : w10.cell? ⟨gb195, 0, none⟩ = some (.bool false) := (blk_cell BK195.out 0).trans rfl
                  have hcz22_1 : w10.cell? ⟨gb195, 1, none⟩ = some (.int .i64 0) := (blk_cell BK195.out 1).trans rfl
                  have hfz22_0 := blk_frozen BK195.out 0
                  have hfz22_1 := blk_frozen BK195.out 1
                  have hnb23 := NB193_192.out
                  have hnc23 := NB192_193.out
                  have hcz24_0 : w10.cell? ⟨gb193, 0, none⟩ = some (.bool true) := (blk_cell BK193.out 0).trans rfl
                  have hcz24_1 : w10.cell? ⟨gb193, 1, none⟩ = some (.int .i64 x194001_1) := (blk_cell BK193.out 1).trans rfl
                  have hfz24_0 := blk_frozen BK193.out 0
                  have hfz24_1 := blk_frozen BK193.out 1
                  go_wp2
                  go_meet
                  case rel => (try rw [← Nbq14.out]); exact ⟨_, (decide ((wrap64 (((rd_T69 l0 x9_1).f1) + 1)) < x194001_1)), (by first | rfl | (simp; done) | (simp [*]; done)), H', ⟨by have := HK1.out; first | omega | exact Nat.le_refl _⟩, ⟨by (with_reducible repeat (first | refine blk_drewN ?_ _ | refine blk_drew ?_ | refine blk_alloc ?_ _)); refine blk_far ?_ NB192_195.out _; (with_reducible repeat (first | refine blk_drewN ?_ _ | refine blk_drew ?_ | refine blk_alloc ?_ _)); refine blk_far ?_ NB192_195.out _; (with_reducible repeat (first | refine blk_drewN ?_ _ | refine blk_drew ?_ | refine blk_alloc ?_ _)); exact BK192.out⟩, ⟨by (with_reducible repeat (first | refine blk_drewN ?_ _ | refine blk_drew ?_ | refine blk_alloc ?_ _)); refine blk_far ?_ NB193_195.out _; (with_reducible repeat (first | refine blk_drewN ?_ _ | refine blk_drew ?_ | refine blk_alloc ?_ _)); refine blk_far ?_ NB193_195.out _; (with_reducible repeat (first | refine blk_drewN ?_ _ | refine blk_drew ?_ | refine blk_alloc ?_ _)); exact BK193.out⟩, ⟨by (with_reducible repeat (first | refine blk_drewN ?_ _ | refine blk_drew ?_ | refine blk_alloc ?_ _)); refine blk_put (cs := #[.bool (false), .int .i64 0]) ?_ 1 _ rfl; (with_reducible repeat (first | refine blk_drewN ?_ _ | refine blk_drew ?_ | refine blk_alloc ?_ _)); refine blk_put (cs := #[.bool false, .int .i64 0]) ?_ 0 _ rfl; (with_reducible repeat (first | refine blk_drewN ?_ _ | refine blk_drew ?_ | refine blk_alloc ?_ _)); exact BK195.out⟩, ⟨by repeat (first | (with_reducible first | exact HB.out | apply below_alloc | apply pw_below_drewN | apply below_drew1 | refine below_set ?_ GE192.out | refine below_set ?_ GE193.out | refine below_set ?_ GE195.out) | exact HB.out)⟩⟩
                · replace c19 := Bool.eq_false_iff.mpr c19
                  subst c19
                  have H1 : (impl_lengthOf.j1 k1 l0 (l0.length : Int) x9_1 true false x194001_1 false ((rd_T69 l0 x9_1).f1)) = some (r1, r2) := by rw [if_neg (show ¬ (false = true) by decide)] at H; exact H
                  clear H
                  have H := H1
                  clear H1
                  have H' := Aside0.mk H
                  clear H
                  have hnb25 := NB195_192.out
                  have hnc25 := NB192_195.out
                  have hnb26 := NB195_193.out
                  have hnc26 := NB193_195.out
                  have hcz27_0 : w10.cell? ⟨gb195, 0, none⟩ = some (.bool false) := (blk_cell BK195.out 0).trans rfl
                  have hcz27_1 : w10.cell? ⟨gb195, 1, none⟩ = some (.int .i64 0) := (blk_cell BK195.out 1).trans rfl
                  have hfz27_0 := blk_frozen BK195.out 0
                  have hfz27_1 := blk_frozen BK195.out 1
                  have hnb28 := NB193_192.out
                  have hnc28 := NB192_193.out
                  have hcz29_0 : w10.cell? ⟨gb193, 0, none⟩ = some (.bool false) := (blk_cell BK193.out 0).trans rfl
                  have hcz29_1 : w10.cell? ⟨gb193, 1, none⟩ = some (.int .i64 x194001_1) := (blk_cell BK193.out 1).trans rfl
                  have hfz29_0 := blk_frozen BK193.out 0
                  have hfz29_1 := blk_frozen BK193.out 1
                  go_wp2
                  go_meet
                  case rel => (try rw [← Nbq14.out]); exact ⟨_, (true), (by first | rfl | (simp; done) | (simp [*]; done)), H', ⟨by have := HK1.out; first | omega | exact Nat.le_refl _⟩, ⟨by (with_reducible repeat (first | refine blk_drewN ?_ _ | refine blk_drew ?_ | refine blk_alloc ?_ _)); refine blk_far ?_ NB192_195.out _; (with_reducible repeat (first | refine blk_drewN ?_ _ | refine blk_drew ?_ | refine blk_alloc ?_ _)); refine blk_far ?_ NB192_195.out _; (with_reducible repeat (first | refine blk_drewN ?_ _ | refine blk_drew ?_ | refine blk_alloc ?_ _)); exact BK192.out⟩, ⟨by (with_reducible repeat (first | refine blk_drewN ?_ _ | refine blk_drew ?_ | refine blk_alloc ?_ _)); refine blk_far ?_ NB193_195.out _; (with_reducible repeat (first | refine blk_drewN ?_ _ | refine blk_drew ?_ | refine blk_alloc ?_ _)); refine blk_far ?_ NB193_195.out _; (with_reducible repeat (first | refine blk_drewN ?_ _ | refine blk_drew ?_ | refine blk_alloc ?_ _)); exact BK193.out⟩, ⟨by (with_reducible repeat (first | refine blk_drewN ?_ _ | refine blk_drew ?_ | refine blk_alloc ?_ _)); refine blk_put (cs := #[.bool (false), .int .i64 0]) ?_ 1 _ rfl; (with_reducible repeat (first | refine blk_drewN ?_ _ | refine blk_drew ?_ | refine blk_alloc ?_ _)); refine blk_put (cs := #[.bool false, .int .i64 0]) ?_ 0 _ rfl; (with_reducible repeat (first | refine blk_drewN ?_ _ | refine blk_drew ?_ | refine blk_alloc ?_ _)); exact BK195.out⟩, ⟨by repeat (first | (with_reducible first | exact HB.out | apply below_alloc | apply pw_below_drewN | apply below_drew1 | refine below_set ?_ GE192.out | refine below_set ?_ GE193.out | refine below_set ?_ GE195.out) | exact HB.out)⟩⟩
            case rest =>
              clear HC9
              try clear c1
              try clear p1
              try clear q1
              try clear hx1
              try clear c2
              try clear p2
              try clear c4
              try clear c6
              try clear c6b0
              try clear p6
              try clear c7
              try clear c7b0
              try clear c8
              try clear c8b0
              try clear c11
              try clear c12
              try clear q14
              try clear c15
              try clear c16
              try clear c17
              try clear c19
              try clear p19
              try clear q19
              try clear hx19
              try clear c20
              try clear c21
              try clear c23
              try clear c25
              try clear c26
              try clear c28
              try clear hcz13_0
              try clear hcz13_1
              try clear hcz18_0
              try clear hcz18_1
              try clear hcz22_0
              try clear hcz22_1
              try clear hcz24_0
              try clear hcz24_1
              try clear hcz27_0
              try clear hcz27_1
              try clear hcz29_0
              try clear hcz29_1
              try clear hcz5_0
              try clear hcz5_1
              try clear hfz13_0
              try clear hfz13_1
              try clear hfz18_0
              try clear hfz18_1
              try clear hfz22_0
              try clear hfz22_1
              try clear hfz24_0
              try clear hfz24_1
              try clear hfz27_0
              try clear hfz27_1
              try clear hfz29_0
              try clear hfz29_1
              try clear hfz5_0
              try clear hfz5_1
              try clear hx194_0
              try clear hx194_1
              try clear p194
              try clear p2
              try clear q194
              obtain ⟨kq, x13_8, rfl, HA, HJ8, BK192, BK193, BK195, HB⟩ := hcut
              cases kq with
              | zero => exact absurd HA.out (by simp [impl_lengthOf.j1])
              | succ kj8 =>
                have H := HA.out
                clear HA
                simp only [impl_lengthOf.j1] at H
                by_cases c30 : x13_8 = true
                · subst c30
                  have H1 : (impl_lengthOf.l0 kj8 l0 (l0.length : Int) (wrap64 (x9_1 + 1)) true (wrap64 (((rd_T69 l0 x9_1).f1) + 1))) = some (r1, r2) := by rw [if_pos rfl] at H; exact H
                  clear H
                  have H := H1
                  clear H1
                  have H' := Aside0.mk H
                  clear H
                  have hnb31 := NB195_192.out
                  have hnc31 := NB192_195.out
                  have hnb32 := NB195_193.out
                  have hnc32 := NB193_195.out
                  have hcz33_0 : wc.cell? ⟨gb195, 0, none⟩ = some (.bool ((rd_T69 l0 x9_1).f0)) := (blk_cell BK195.out 0).trans rfl
                  have hcz33_1 : wc.cell? ⟨gb195, 1, none⟩ = some (.int .i64 ((rd_T69 l0 x9_1).f1)) := (blk_cell BK195.out 1).trans rfl
                  have hfz33_0 := blk_frozen BK195.out 0
                  have hfz33_1 := blk_frozen BK195.out 1
                  have hnb34 := NB193_192.out
                  have hnc34 := NB192_193.out
                  have hcz35_0 : wc.cell? ⟨gb193, 0, none⟩ = some (.bool x194000_1) := (blk_cell BK193.out 0).trans rfl
                  have hcz35_1 : wc.cell? ⟨gb193, 1, none⟩ = some (.int .i64 x194001_1) := (blk_cell BK193.out 1).trans rfl
                  have hfz35_0 := blk_frozen BK193.out 0
                  have hfz35_1 := blk_frozen BK193.out 1
                  go_wp2
                  go_roundg kj8
                  case measure => have := HK1.out; have := HJ8.out; omega
                  case rel => (try rw [← Nbq14.out]); exact ⟨(wrap64 (x9_1 + 1)), (true), (wrap64 (((rd_T69 l0 x9_1).f1) + 1)), (by first | rfl | (simp; done) | (simp [*]; done)), H', ⟨by have := HK1.out; have := HJ8.out; omega⟩, ⟨by (with_reducible repeat (first | refine blk_drewN ?_ _ | refine blk_drew ?_ | refine blk_alloc ?_ _)); refine blk_far ?_ NB192_193.out _; (with_reducible repeat (first | refine blk_drewN ?_ _ | refine blk_drew ?_ | refine blk_alloc ?_ _)); refine blk_far ?_ NB192_193.out _; (with_reducible repeat (first | refine blk_drewN ?_ _ | refine blk_drew ?_ | refine blk_alloc ?_ _)); exact BK192.out⟩, ⟨by (with_reducible repeat (first | refine blk_drewN ?_ _ | refine blk_drew ?_ | refine blk_alloc ?_ _)); refine blk_put (cs := #[.bool true, .int .i64 x194001_1]) ?_ 1 _ rfl; (with_reducible repeat (first | refine blk_drewN ?_ _ | refine blk_drew ?_ | refine blk_alloc ?_ _)); refine blk_put (cs := #[.bool x194000_1, .int .i64 x194001_1]) ?_ 0 _ rfl; (with_reducible repeat (first | refine blk_drewN ?_ _ | refine blk_drew ?_ | refine blk_alloc ?_ _)); exact BK193.out⟩, ⟨by repeat (first | (with_reducible first | exact HB.out | apply below_alloc | apply pw_below_drewN | apply below_drew1 | refine below_set ?_ GE192.out | refine below_set ?_ GE193.out | refine below_set ?_ GE195.out) | exact HB.out)⟩⟩
                · replace c30 := Bool.eq_false_iff.mpr c30
                  subst c30
                  have H1 : (if ((rd_T69 l0 x9_1).f0) = true then (if x194000_1 = true then (impl_lengthOf.l0 kj8 l0 (l0.length : Int) (wrap64 (x9_1 + 1)) x194000_1 x194001_1) else (impl_lengthOf.l0 kj8 l0 (l0.length : Int) (wrap64 (x9_1 + 1)) x194000_1 (mx x194001_1 (wrap64 (((rd_T69 l0 x9_1).f1) + 1))))) else (impl_lengthOf.l0 kj8 l0 (l0.length : Int) (wrap64 (x9_1 + 1)) x194000_1 x194001_1)) = some (r1, r2) := by rw [if_neg (show ¬ (false = true) by decide)] at H; exact H
                  clear H
                  have H := H1
                  clear H1
                  by_cases c36 : ((rd_T69 l0 x9_1).f0) = true
                  · rw [if_pos c36] at H
                    have c36b0 : ((rd_T69 l0 x9_1).f0) = true := c36
                    clear c36
                    by_cases c37 : x194000_1 = true
                    · subst c37
                      have H1 : (impl_lengthOf.l0 kj8 l0 (l0.length : Int) (wrap64 (x9_1 + 1)) true x194001_1) = some (r1, r2) := by rw [if_pos rfl] at H; exact H
                      clear H
                      have H := H1
                      clear H1
                      have H' := Aside0.mk H
                      clear H
                      have hnb38 := NB195_192.out
                      have hnc38 := NB192_195.out
                      have hnb39 := NB195_193.out
                      have hnc39 := NB193_195.out
                      have hcz40_0 : wc.cell? ⟨gb195, 0, none⟩ = some (.bool ((rd_T69 l0 x9_1).f0)) := (blk_cell BK195.out 0).trans rfl
                      have hcz40_1 : wc.cell? ⟨gb195, 1, none⟩ = some (.int .i64 ((rd_T69 l0 x9_1).f1)) := (blk_cell BK195.out 1).trans rfl
                      have hfz40_0 := blk_frozen BK195.out 0
                      have hfz40_1 := blk_frozen BK195.out 1
                      have hnb41 := NB193_192.out
                      have hnc41 := NB192_193.out
                      have hcz42_0 : wc.cell? ⟨gb193, 0, none⟩ = some (.bool true) := (blk_cell BK193.out 0).trans rfl
                      have hcz42_1 : wc.cell? ⟨gb193, 1, none⟩ = some (.int .i64 x194001_1) := (blk_cell BK193.out 1).trans rfl
                      have hfz42_0 := blk_frozen BK193.out 0
                      have hfz42_1 := blk_frozen BK193.out 1
                      go_wp2
                      go_roundg kj8
                      case measure => have := HK1.out; have := HJ8.out; omega
                      case rel => (try rw [← Nbq14.out]); exact ⟨(wrap64 (x9_1 + 1)), (true), (x194001_1), (by first | rfl | (simp; done) | (simp [*]; done)), H', ⟨by have := HK1.out; have := HJ8.out; omega⟩, ⟨by (with_reducible repeat (first | refine blk_drewN ?_ _ | refine blk_drew ?_ | refine blk_alloc ?_ _)); exact BK192.out⟩, ⟨by (with_reducible repeat (first | refine blk_drewN ?_ _ | refine blk_drew ?_ | refine blk_alloc ?_ _)); exact BK193.out⟩, ⟨by repeat (first | (with_reducible first | exact HB.out | apply below_alloc | apply pw_below_drewN | apply below_drew1 | refine below_set ?_ GE192.out | refine below_set ?_ GE193.out | refine below_set ?_ GE195.out) | exact HB.out)⟩⟩
                    · replace c37 := Bool.eq_false_iff.mpr c37
                      subst c37
                      have H1 : (impl_lengthOf.l0 kj8 l0 (l0.length : Int) (wrap64 (x9_1 + 1)) false (mx x194001_1 (wrap64 (((rd_T69 l0 x9_1).f1) + 1)))) = some (r1, r2) := by rw [if_neg (show ¬ (false = true) by decide)] at H; exact H
                      clear H
                      have H := H1
                      clear H1
                      obtain ⟨ji43, hji43⟩ : ∃ j_ : Int, (mx x194001_1 (wrap64 (((rd_T69 l0 x9_1).f1) + 1))) = j_ := ⟨_, rfl⟩
                      replace H : (impl_lengthOf.l0 kj8 l0 (l0.length : Int) (wrap64 (x9_1 + 1)) false ji43) = some (r1, r2) := by first | (rw [hji43] at H; exact H) | (simp only [hji43] at H ⊢; exact H)
                      have hji43_ : (if x194001_1 < (wrap64 (((rd_T69 l0 x9_1).f1) + 1)) then (wrap64 (((rd_T69 l0 x9_1).f1) + 1)) else x194001_1) = ji43 := hji43
                      have H' := Aside0.mk H
                      clear H
                      have hnb44 := NB195_192.out
                      have hnc44 := NB192_195.out
                      have hnb45 := NB195_193.out
                      have hnc45 := NB193_195.out
                      have hcz46_0 : wc.cell? ⟨gb195, 0, none⟩ = some (.bool ((rd_T69 l0 x9_1).f0)) := (blk_cell BK195.out 0).trans rfl
                      have hcz46_1 : wc.cell? ⟨gb195, 1, none⟩ = some (.int .i64 ((rd_T69 l0 x9_1).f1)) := (blk_cell BK195.out 1).trans rfl
                      have hfz46_0 := blk_frozen BK195.out 0
                      have hfz46_1 := blk_frozen BK195.out 1
                      have hnb47 := NB193_192.out
                      have hnc47 := NB192_193.out
                      have hcz48_0 : wc.cell? ⟨gb193, 0, none⟩ = some (.bool false) := (blk_cell BK193.out 0).trans rfl
                      have hcz48_1 : wc.cell? ⟨gb193, 1, none⟩ = some (.int .i64 x194001_1) := (blk_cell BK193.out 1).trans rfl
                      have hfz48_0 := blk_frozen BK193.out 0
                      have hfz48_1 := blk_frozen BK193.out 1
                      go_wp2
                      go_roundg kj8
                      case measure => have := HK1.out; have := HJ8.out; omega
                      case rel => (try rw [← Nbq14.out]); exact ⟨(wrap64 (x9_1 + 1)), (false), (ji43), (by first | rfl | (simp; done) | (simp [*]; done)), H', ⟨by have := HK1.out; have := HJ8.out; omega⟩, ⟨by (with_reducible repeat (first | refine blk_drewN ?_ _ | refine blk_drew ?_ | refine blk_alloc ?_ _)); refine blk_far ?_ NB192_193.out _; (with_reducible repeat (first | refine blk_drewN ?_ _ | refine blk_drew ?_ | refine blk_alloc ?_ _)); exact BK192.out⟩, ⟨by (with_reducible repeat (first | refine blk_drewN ?_ _ | refine blk_drew ?_ | refine blk_alloc ?_ _)); refine blk_put (cs := #[.bool false, .int .i64 x194001_1]) ?_ 1 _ rfl; (with_reducible repeat (first | refine blk_drewN ?_ _ | refine blk_drew ?_ | refine blk_alloc ?_ _)); exact BK193.out⟩, ⟨by repeat (first | (with_reducible first | exact HB.out | apply below_alloc | apply pw_below_drewN | apply below_drew1 | refine below_set ?_ GE192.out | refine below_set ?_ GE193.out | refine below_set ?_ GE195.out) | exact HB.out)⟩⟩
                  · rw [if_neg c36] at H
                    have c36b0 : ((rd_T69 l0 x9_1).f0) = false := by simpa using c36
                    clear c36
                    have H' := Aside0.mk H
                    clear H
                    have hnb49 := NB195_192.out
                    have hnc49 := NB192_195.out
                    have hnb50 := NB195_193.out
                    have hnc50 := NB193_195.out
                    have hcz51_0 : wc.cell? ⟨gb195, 0, none⟩ = some (.bool ((rd_T69 l0 x9_1).f0)) := (blk_cell BK195.out 0).trans rfl
                    have hcz51_1 : wc.cell? ⟨gb195, 1, none⟩ = some (.int .i64 ((rd_T69 l0 x9_1).f1)) := (blk_cell BK195.out 1).trans rfl
                    have hfz51_0 := blk_frozen BK195.out 0
                    have hfz51_1 := blk_frozen BK195.out 1
                    go_wp2
                    go_roundg kj8
                    case measure => have := HK1.out; have := HJ8.out; omega
                    case rel => (try rw [← Nbq14.out]); exact ⟨(wrap64 (x9_1 + 1)), (x194000_1), (x194001_1), (by first | rfl | (simp; done) | (simp [*]; done)), H', ⟨by have := HK1.out; have := HJ8.out; omega⟩, ⟨by (with_reducible repeat (first | refine blk_drewN ?_ _ | refine blk_drew ?_ | refine blk_alloc ?_ _)); exact BK192.out⟩, ⟨by (with_reducible repeat (first | refine blk_drewN ?_ _ | refine blk_drew ?_ | refine blk_alloc ?_ _)); exact BK193.out⟩, ⟨by repeat (first | (with_reducible first | exact HB.out | apply below_alloc | apply pw_below_drewN | apply below_drew1 | refine below_set ?_ GE192.out | refine below_set ?_ GE193.out | refine below_set ?_ GE195.out) | exact HB.out)⟩⟩
          · rw [if_neg c8] at H
            exact absurd H (by simp)
        · rw [if_neg c7] at H
          exact absurd H (by simp)
      · rw [if_neg c6] at H
        have c6b0 : decide (x9_1 < (l0.length : Int)) = false := decide_eq_false c6
        clear c6
        simp only [Option.some.injEq, Prod.mk.injEq] at H
        obtain ⟨rfl, rfl⟩ := H
        have hnb52 := NB193_192.out
        have hnc52 := NB192_193.out
        have hcz53_0 : wr.cell? ⟨gb193, 0, none⟩ = some (.bool x194000_1) := (blk_cell BK193.out 0).trans rfl
        have hcz53_1 : wr.cell? ⟨gb193, 1, none⟩ = some (.int .i64 x194001_1) := (blk_cell BK193.out 1).trans rfl
        have hfz53_0 := blk_frozen BK193.out 0
        have hfz53_1 := blk_frozen BK193.out 1
        have hcz54_0 : wr.cell? ⟨gb192, 0, none⟩ = some (.bool false) := (blk_cell BK192.out 0).trans rfl
        have hcz54_1 : wr.cell? ⟨gb192, 1, none⟩ = some (.int .i64 0) := (blk_cell BK192.out 1).trans rfl
        have hfz54_0 := blk_frozen BK192.out 0
        have hfz54_1 := blk_frozen BK192.out 1
        go_wp2
        refine bodyPost_ret (results_cell_row rfl _ _ gb192 69 #[.bool x194000_1, .int .i64 x194001_1] (0, 0) _ rfl (by (with_reducible repeat (first | refine blk_drewN ?_ _ | refine blk_drew ?_ | refine blk_alloc ?_ _)); refine blk_put (cs := #[.bool x194000_1, .int .i64 0]) ?_ 1 _ rfl; (with_reducible repeat (first | refine blk_drewN ?_ _ | refine blk_drew ?_ | refine blk_alloc ?_ _)); refine blk_put (cs := #[.bool false, .int .i64 0]) ?_ 0 _ rfl; (with_reducible repeat (first | refine blk_drewN ?_ _ | refine blk_drew ?_ | refine blk_alloc ?_ _)); exact BK192.out) Try.underlying69 rfl (by kernel_rfl)) rfl ?_
        exact ⟨by first | rfl | (simp [errW_none, errW_some] <;> rfl) | (simp [*, errW_none, errW_some] <;> rfl), by repeat (first | (with_reducible first | exact HB.out | apply below_alloc | apply pw_below_drewN | apply below_drew1 | refine below_set ?_ GE192.out | refine below_set ?_ GE193.out) | exact HB.out)⟩

end Go.Proofs.Ytlicbcaloebhlaa.PX

/- The walk of the program's LengthsOf. -/
namespace Go.Proofs.Ytlicbcaloebhlaa.PX
open Go.RowKit Go.Proofs.YtlicbcaloebhlaaW.PrintWords Go.Proofs.YtlicbcaloebhlaaW.PrintLast Go.Proofs.YtlicbcaloebhlaaW.PrintMore
attribute [local go_sem] max2_int min2_int max_two min_two max_three min_three max_four min_four
set_option linter.unusedVariables false
set_option linter.unusedSimpArgs false
theorem impl_LengthsOf.has79 : HasFn 79 := ⟨_, Try.func79, by kernel_rfl, rfl⟩
theorem impl_LengthsOf.hv79 : ∀ (k : Nat) (A : Option Addr) (c : Nat) (xs : List S69) (r1 : Bool) (r2 : Int) (w : World), Kd.C k69 w A xs.length xs → xs.length ≤ c → impl_lengthOf.f k xs = some (r1, r2) → Calls Try.prog 79 (#[.slice A xs.length c] ++ #[]) w fun e w' => e = .returned (.agg #[.bool r1, .int .i64 r2]) ∧ Below w.heap.size w w' := by
  intro k A c xs r1 r2 w hr hc h
  rw [Array.append_empty]
  exact impl_lengthOf.calls k A c xs r1 r2 w hr hc h
def impl_LengthsOf.l0 : Nat → Int → List Int → List (S69) → Int → Int → Option (List Int × Int)
  | 0, _, _, _, _, _ => none
  | k + 1, x5, x6, x15, x16, x17 => if x17 < x16 then (if 0 ≤ x17 then (if x17 < (x15.length : Int) then (if x6.length < 17592186044416 then (impl_LengthsOf.l0 k x5 (x6 ++ [(rd_T69 x15 x17).f1]) x15 x16 (wrap64 (x17 + 1))) else (none)) else (none)) else (none)) else (some (x6, x5))
def impl_LengthsOf.f (k : Nat) (l0_0 : List (List Int)) : Option (List Int × Int) := (impl_length.f impl_lengthOf.f k l0_0).bind fun bt214 => (impl_LengthsOf.l0 k bt214.2 (([] : List Int)) bt214.1 (bt214.1.length : Int) 0)
theorem impl_LengthsOf.mono_l : ∀ k, (∀ y0 y1 y2 y3 y4, LeO (impl_LengthsOf.l0 k y0 y1 y2 y3 y4) (impl_LengthsOf.l0 (k + 1) y0 y1 y2 y3 y4))
  | 0 => fun _ _ _ _ _ r h => by simp [impl_LengthsOf.l0] at h
  | k + 1 => by
    have ih0 := impl_LengthsOf.mono_l k
    · intro y0 y1 y2 y3 y4
      unfold impl_LengthsOf.l0
      repeat' first
      | (with_reducible exact ih0 _ _ _ _ _)
      | (with_reducible exact impl_length.mono impl_lengthOf.f impl_lengthOf.mono _ _)
      | (with_reducible exact LeO.refl _)
      | (with_reducible exact LeO.none _)
      | (with_reducible refine LeO.ite ?_ ?_)
      | (with_reducible refine LeO.bind ?_ (fun _ => ?_))
      | exact ih0 _ _ _ _ _
      | exact impl_length.mono impl_lengthOf.f impl_lengthOf.mono _ _
      | exact LeO.none _
      | refine LeO.ite ?_ ?_
      | refine LeO.bind ?_ (fun _ => ?_)
theorem impl_LengthsOf.mono : ∀ a0 k, LeO (impl_LengthsOf.f k a0) (impl_LengthsOf.f (k + 1) a0) := by
  intro a0 k
  have ih0 := impl_LengthsOf.mono_l k
  unfold impl_LengthsOf.f
  repeat' first
      | (with_reducible exact ih0 _ _ _ _ _)
      | (with_reducible exact impl_length.mono impl_lengthOf.f impl_lengthOf.mono _ _)
      | (with_reducible exact LeO.refl _)
      | (with_reducible exact LeO.none _)
      | (with_reducible refine LeO.ite ?_ ?_)
      | (with_reducible refine LeO.bind ?_ (fun _ => ?_))
      | exact ih0 _ _ _ _ _
      | exact impl_length.mono impl_lengthOf.f impl_lengthOf.mono _ _
      | exact LeO.none _
      | refine LeO.ite ?_ ?_
      | refine LeO.bind ?_ (fun _ => ?_)
set_option maxHeartbeats 8000000 in
set_option maxRecDepth 100000 in
theorem impl_LengthsOf.calls (k : Nat) (A0_0 : Option Addr) (c0_0 : Nat) (l0_0 : List (List Int)) (r1 : List Int) (r2 : Int) (w : World) (hr0_0 : Kd.C (Kd.slice 2 (Kd.int .i64)) w A0_0 l0_0.length l0_0) (hc0_0 : l0_0.length ≤ c0_0) (h : impl_LengthsOf.f k l0_0 = some (r1, r2)) :
    Calls Try.prog 47 #[.agg #[.slice A0_0 l0_0.length c0_0]] w fun e w' => ∃ v0_ : Value, e = .returned (.tuple #[v0_, .int .i64 r2]) ∧ Kd.R (Kd.int .i64) 2 w' w.heap.size (fun _ => True) v0_ r1 ∧ Below w.heap.size w w' := by
  have hu27 := Try.underlying27
  have hu69 := Try.underlying69
  have HR0_0 := Aside0.mk hr0_0
  have HC0_0 := Aside0.mk hc0_0
  clear hr0_0 hc0_0
  have HB := Aside0.mk (Below.refl w.heap.size w)
  have H : ((impl_length.f impl_lengthOf.f k l0_0).bind fun bt214 => (impl_LengthsOf.l0 k bt214.2 (([] : List Int)) bt214.1 (bt214.1.length : Int) 0)) = some (r1, r2) := h
  clear h
  replace H := Option.bind_eq_some_iff.mp H
  obtain ⟨⟨t214, t217⟩, A20, H⟩ := H
  replace H : (impl_LengthsOf.l0 k t217 (([] : List Int)) t214 (t214.length : Int) 0) = some (r1, r2) := H
  have A2 := Aside0.mk A20
  clear A20
  obtain ⟨y218, hy218⟩ : ∃ y_ : List Int, y_ = (([] : List Int)) := ⟨_, rfl⟩
  replace H : (impl_LengthsOf.l0 k t217 y218 t214 (t214.length : Int) 0) = some (r1, r2) := by first | (rw [hy218]; with_reducible exact H) | (have H2_ := (Option.bind_some _ _).symm.trans H; rw [hy218]; with_reducible exact H2_) | (have H2_ := (Option.bind_some _ _).symm.trans H; with_reducible exact H2_) | with_reducible exact H | (rw [hy218]; exact H) | exact H
  have Ny218 := Aside0.mk hy218
  clear hy218
  have H' := Aside0.mk H
  clear H
  go_enter Try.func47, Try.ntmps47
  go_wp2_with (first | ((with_reducible refine gate_dst (N := 1) rfl ?_); refine box_event ?hg (N := 1) ?hd (cs := #[.slice A0_0 l0_0.length c0_0]) (t := 27) ?hr ?_; (case hd => rfl); (case hg => rfl); (case hr => first | (go_simp; done) | (go_simp; rfl)); intro gb213 hg w3 hbox hb; have n0_ := Aside0.mk (below_step (by repeat (first | (with_reducible first | exact HB.out | apply below_alloc | apply pw_below_drewN | apply below_drew1) | exact HB.out)) hb); have n1_ := Aside0.mk (hbox); have n2_ := Aside0.mk ((by rw [hg]; exact (below_size (by repeat (first | (with_reducible first | exact HB.out | apply below_alloc | apply pw_below_drewN | apply below_drew1) | exact HB.out))) : w.heap.size ≤ gb213)); have n3_ := Aside0.mk ((by rw [hg]; exact (below_size (by repeat (first | (with_reducible first | exact HB.out | apply below_alloc | apply pw_below_drewN | apply below_drew1) | exact HB.out))) : w.heap.size ≤ gb213)); clear HB; have HB := n0_; have BK213 := n1_; have GW213 := n2_; have GE213 := n3_; clear n0_ n1_ n2_ n3_; clear hb hbox hg; have hcz4_0 : w3.cell? ⟨gb213, 0, none⟩ = some (.slice A0_0 l0_0.length c0_0) := (blk_cell BK213.out 0).trans rfl; have hfz4_0 := blk_frozen BK213.out 0) | ((with_reducible refine gate_callee (f := 78) rfl ?_); refine goesL_ (some 11) rfl rfl Try.func78 (by kernel_rfl) rfl #[.agg #[.slice A0_0 l0_0.length c0_0], .func (.func 79) #[] #[]] rfl (by (try simp only [List.map_toArray, List.map_cons, List.map_nil]); first | done | rfl | (simp only [List.length_drop, List.length_take]; rfl)) ?_; (with_reducible refine (impl_length.calls impl_lengthOf.f 79 #[] impl_LengthsOf.has79 impl_LengthsOf.hv79 k _ _ l0_0 t214 t217 _ ?side1 ?side2 A2.out).mono ?_); (case side1 => repeat (first | exact (Kd.C_below HR0_0.out HB.out) | (with_reducible refine Kd.C_alloc ?_ _) | (with_reducible refine Kd.C_drewN ?_ _) | (with_reducible refine Kd.C_drew ?_))); (case side2 => exact HC0_0.out); rintro e w5 ⟨v215, rfl, ho0, hb⟩; refine ⟨_, rfl, ?_⟩; have n0_ := Aside0.mk (Kd.R_lower ho0 (below_size (by repeat (first | (with_reducible first | exact HB.out | apply below_alloc | apply pw_below_drewN | apply below_drew1 | refine below_set ?_ GE213.out) | exact HB.out)))); have n1_ := Aside0.mk (blk_below (g := gb213) (o := .cells #[.slice A0_0 l0_0.length c0_0] 27 (0, 0)) (by (with_reducible repeat (first | refine blk_drewN ?_ _ | refine blk_drew ?_ | refine blk_alloc ?_ _)); exact BK213.out) hb); have n2_ := Aside0.mk (below_step (by repeat (first | (with_reducible first | exact HB.out | apply below_alloc | apply pw_below_drewN | apply below_drew1 | refine below_set ?_ GE213.out) | exact HB.out)) hb); clear BK213; clear HB; have HO216 := n0_; have BK213 := n1_; have HB := n2_; clear n0_ n1_ n2_; (try clear hb); (try clear hb2); (try clear hk); (try clear hi); (try clear ho0)) | ((with_reducible refine gate_dst (N := 14) rfl ?_); refine Kd.R_lit (Kd.int .i64) _ 2 ?hg (N := 14) ?hd (xs := ([] : List Int)) (inner := []) (ok := fun _ => True) (okp := fun _ => True) ?hr ?hp (fun _ hk => hk) trivial (Below.refl _ _) (Nat.le_refl _) (by simp) ?_; (case hd => rfl); (case hg => rfl); (case hr => first | (go_simp; done) | (go_simp; rfl)); (case hp => exact (Reps.none _ _)); intro v219 w6 ho7 hb hg_ hnew_; clear hg_ hnew_; (first | rw [← Ny218.out] at ho7 | (simp only [Int.reduceToNat] at ho7; rw [← Ny218.out] at ho7)); have n0_ := Aside0.mk (Kd.R_below (by (with_reducible repeat (first | apply Kd.R_alloc | apply Kd.R_drewN | apply Kd.R_drew)); exact HO216.out) hb); have n1_ := Aside0.mk (Kd.R_lower ho7 (below_size (by repeat (first | (with_reducible first | exact HB.out | apply below_alloc | apply pw_below_drewN | apply below_drew1 | refine below_set ?_ GE213.out) | exact HB.out)))); have n2_ := Aside0.mk (blk_below (g := gb213) (o := .cells #[.slice A0_0 l0_0.length c0_0] 27 (0, 0)) (by (with_reducible repeat (first | refine blk_drewN ?_ _ | refine blk_drew ?_ | refine blk_alloc ?_ _)); exact BK213.out) hb); have n3_ := Aside0.mk (below_step (by repeat (first | (with_reducible first | exact HB.out | apply below_alloc | apply pw_below_drewN | apply below_drew1 | refine below_set ?_ GE213.out) | exact HB.out)) hb); clear HO216; clear BK213; clear HB; have HO216 := n0_; have HO220 := n1_; have BK213 := n2_; have HB := n3_; clear n0_ n1_ n2_ n3_; clear hb ho7; obtain ⟨Ao8, co8, eo8⟩ := Kd.R_slice HO216.out; subst eo8))
  go_loopg [6, 17] k (fun kq v6 v17 w' => ∃ (x6_1 : List Int) (x17_1 : Int), v17 = .int .i64 x17_1 ∧ Aside0 (impl_LengthsOf.l0 kq t217 x6_1 t214 (t214.length : Int) x17_1 = some (r1, r2)) ∧ Aside0 (kq ≤ k) ∧ Aside0 (Kd.R (Kd.int .i64) 2 w' w.heap.size (fun _ => True) v6 x6_1) ∧ Aside0 (Kd.R k69 69 w' w.heap.size (fun _ => True) (.slice Ao8 t214.length co8) t214) ∧ Aside0 (w'.heap[gb213]? = some (.cells #[(.slice A0_0 l0_0.length c0_0)] 27 (0, 0))) ∧ Aside0 (Below w.heap.size w w'))
  case atStart => exact ⟨(y218), (0), (by first | rfl | (simp; done) | (simp [*]; done)), H', ⟨Nat.le_refl _⟩, ⟨by (with_reducible repeat (first | apply Kd.R_alloc | apply Kd.R_drewN | apply Kd.R_drew)); exact HO220.out⟩, ⟨by (with_reducible repeat (first | apply Kd.R_alloc | apply Kd.R_drewN | apply Kd.R_drew)); exact HO216.out⟩, ⟨by (with_reducible repeat (first | refine blk_drewN ?_ _ | refine blk_drew ?_ | refine blk_alloc ?_ _)); exact BK213.out⟩, ⟨by repeat (first | (with_reducible first | exact HB.out | apply below_alloc | apply pw_below_drewN | apply below_drew1 | refine below_set ?_ GE213.out) | exact HB.out)⟩⟩
  case round =>
    clear H'
    try clear p2
    try clear c4
    try clear c7
    try clear hcz4_0
    try clear hfz4_0
    obtain ⟨x6_1, x17_1, rfl, HA, HK1, HO_6, HO_15, BK213, HB⟩ := hrel
    cases gk with
    | zero => exact absurd HA.out (by simp [impl_LengthsOf.l0])
    | succ k1 =>
      have H := HA.out
      clear HA
      simp only [impl_LengthsOf.l0] at H
      by_cases c9 : x17_1 < (t214.length : Int)
      · rw [if_pos c9] at H
        have c9b0 : decide (x17_1 < (t214.length : Int)) = true := decide_eq_true c9
        clear c9
        by_cases c10 : 0 ≤ x17_1
        · rw [if_pos c10] at H
          have c10b0 : decide (0 ≤ x17_1) = true := decide_eq_true c10
          clear c10
          by_cases c11 : x17_1 < (t214.length : Int)
          · rw [if_pos c11] at H
            have c11b0 : decide (x17_1 < (t214.length : Int)) = true := decide_eq_true c11
            clear c11
            by_cases c12 : x6_1.length < 17592186044416
            · rw [if_pos c12] at H
              have LMc12 := Aside0.mk c12
              clear c12
              obtain ⟨y223, hy223⟩ : ∃ y_ : List Int, y_ = (x6_1 ++ [(rd_T69 t214 x17_1).f1]) := ⟨_, rfl⟩
              replace H : (impl_LengthsOf.l0 k1 t217 y223 t214 (t214.length : Int) (wrap64 (x17_1 + 1))) = some (r1, r2) := by first | (rw [hy223]; with_reducible exact H) | (have H2_ := (Option.bind_some _ _).symm.trans H; rw [hy223]; with_reducible exact H2_) | (have H2_ := (Option.bind_some _ _).symm.trans H; with_reducible exact H2_) | with_reducible exact H | (rw [hy223]; exact H) | exact H
              have Ny223 := Aside0.mk hy223
              clear hy223
              have H' := Aside0.mk H
              clear H
              have p221 : 0 ≤ (x17_1 : Int) := of_decide_eq_true (by first | (with_reducible assumption) | assumption)
              have q221 : x17_1 < (t214.length : Int) := of_decide_eq_true (by first | (with_reducible assumption) | assumption)
              obtain ⟨ad221, e221, hx221_0, hx221_1⟩ := at_T69 (Kd.R_reads' HO_15.out).2.2 x17_1 p221 q221
              cases e221
              replace p221 := eq_true p221
              replace q221 := eq_true q221
              go_wp2_with (first | ((with_reducible refine gate_dst (N := 8) rfl ?_); refine box_event ?hg (N := 8) ?hd (cs := #[.bool false, .int .i64 0]) (t := 69) ?hr ?_; (case hd => rfl); (case hg => rfl); (case hr => first | (go_simp; done) | (go_simp; rfl)); intro gb222 hg w13 hbox hb; have n0_ := Aside0.mk (Kd.R_below (by (with_reducible repeat (first | apply Kd.R_alloc | apply Kd.R_drewN | apply Kd.R_drew)); exact HO_6.out) hb); have n1_ := Aside0.mk (Kd.R_below (Kd.R_elderB (by (with_reducible repeat (first | apply Kd.R_alloc | apply Kd.R_drewN | apply Kd.R_drew)); exact HO_15.out) gb222 (Nat.le_of_eq hg.symm)) hb); have n2_ := Aside0.mk (blk_below (g := gb213) (o := .cells #[.slice A0_0 l0_0.length c0_0] 27 (0, 0)) (by (with_reducible repeat (first | refine blk_drewN ?_ _ | refine blk_drew ?_ | refine blk_alloc ?_ _)); exact BK213.out) hb); have n3_ := Aside0.mk (below_step (by repeat (first | (with_reducible first | exact HB.out | apply below_alloc | apply pw_below_drewN | apply below_drew1 | refine below_set ?_ GE213.out) | exact HB.out)) hb); have n4_ := Aside0.mk (hbox); have n5_ := Aside0.mk ((by rw [hg]; exact (below_size (by repeat (first | (with_reducible first | exact HB.out | apply below_alloc | apply pw_below_drewN | apply below_drew1 | refine below_set ?_ GE213.out) | exact HB.out))) : w.heap.size ≤ gb222)); have n6_ := Aside0.mk ((by rw [hg]; exact (below_size (by repeat (first | (with_reducible first | exact HB.out | apply below_alloc | apply pw_below_drewN | apply below_drew1 | refine below_set ?_ GE213.out) | exact HB.out))) : w.heap.size ≤ gb222)); have n7_ := Aside0.mk ((by rw [hg]; exact Nat.ne_of_lt (blk_lt (g := gb213) (o := .cells #[.slice A0_0 l0_0.length c0_0] 27 (0, 0)) (by (with_reducible repeat (first | refine blk_drewN ?_ _ | refine blk_drew ?_ | refine blk_alloc ?_ _)); exact BK213.out)) : gb213 ≠ gb222)); have n8_ := Aside0.mk ((by rw [hg]; exact Nat.ne_of_gt (blk_lt (g := gb213) (o := .cells #[.slice A0_0 l0_0.length c0_0] 27 (0, 0)) (by (with_reducible repeat (first | refine blk_drewN ?_ _ | refine blk_drew ?_ | refine blk_alloc ?_ _)); exact BK213.out)) : gb222 ≠ gb213)); clear HO_6; clear HO_15; clear BK213; clear HB; have HO_6 := n0_; have HO_15 := n1_; have BK213 := n2_; have HB := n3_; have BK222 := n4_; have GW222 := n5_; have GE222 := n6_; have NB213_222 := n7_; have NB222_213 := n8_; clear n0_ n1_ n2_ n3_ n4_ n5_ n6_ n7_ n8_; clear hb hbox hg; have hnb14 := NB222_213.out; have hnc14 := NB213_222.out; have hcz15_0 : w13.cell? ⟨gb222, 0, none⟩ = some (.bool false) := (blk_cell BK222.out 0).trans rfl; have hcz15_1 : w13.cell? ⟨gb222, 1, none⟩ = some (.int .i64 0) := (blk_cell BK222.out 1).trans rfl; have hfz15_0 := blk_frozen BK222.out 0; have hfz15_1 := blk_frozen BK222.out 1) | ((with_reducible refine gate_builtin (b := .append) (xs := #[.tmp 21, .tmp 24]) rfl ?_); at_builtin; refine Kd.R_append (Kd.int .i64) (w0 := w) w.heap.size rfl (.tmp 21) (.tmp 24) 31 2 (.int .i64 0) 8 rfl Try.underlying31 info2 rfl (by decide) (by omega) u6 x6_1 ((rd_T69 t214 x17_1).f1) [.int .i64 ((rd_T69 t214 x17_1).f1)] (fun _ => True) (fun _ => False) rfl (by first | (go_simp; done) | (go_simp; rfl)) ?aP (fun _ hk => hk.elim) ?aF ?aO ?aB ?aS ?aL ?_; (case aP => exact rfl); (case aB => exact (by repeat (first | (with_reducible first | exact HB.out | apply below_alloc | apply pw_below_drewN | apply below_drew1 | refine below_set ?_ GE213.out | refine below_set ?_ GE222.out) | exact HB.out))); (case aF => exact (fun _ _ => trivial)); (case aO => exact (by (with_reducible repeat (first | apply Kd.R_alloc | apply Kd.R_drewN | apply Kd.R_drew)); exact Kd.R_mono (Kd.R_far (p := ⟨gb222, 1, none⟩) (Kd.R_far (p := ⟨gb222, 0, none⟩) (Kd.R_types HO_6.out BK222.out (by decide)) (fun _ hk => hk.2) (.bool ((rd_T69 t214 x17_1).f0))) (fun _ hk => hk.2) (.int .i64 ((rd_T69 t214 x17_1).f1))) (fun _ hk => trivial))); (case aS => exact (below_size (by repeat (first | (with_reducible first | exact HB.out | apply below_alloc | apply pw_below_drewN | apply below_drew1 | refine below_set ?_ GE213.out | refine below_set ?_ GE222.out) | exact HB.out)))); (case aL => have := LMc12.out; omega); intro v224 w16 ho hb hg hat; rw [← Ny223.out] at ho; have n0_ := Aside0.mk (Kd.R_over' (by (with_reducible repeat (first | apply Kd.R_alloc | apply Kd.R_drewN | apply Kd.R_drew)); exact (Kd.R_mono (Kd.R_far (p := ⟨gb222, 1, none⟩) (Kd.R_far (p := ⟨gb222, 0, none⟩) (Kd.R_mono HO_15.out (fun k_ hk => (⟨hk, hk.2⟩ : _ ∧ k_ ≠ gb222))) (fun _ hk => hk.2) (.bool ((rd_T69 t214 x17_1).f0))) (fun _ hk => hk.2) (.int .i64 ((rd_T69 t214 x17_1).f1))) (fun _ h_ => h_.1))) (Kd.R_typed (by (with_reducible repeat (first | apply Kd.R_alloc | apply Kd.R_drewN | apply Kd.R_drew)); exact (Kd.R_mono (Kd.R_far (p := ⟨gb222, 1, none⟩) (Kd.R_far (p := ⟨gb222, 0, none⟩) (Kd.R_types HO_6.out BK222.out (by decide)) (fun _ hk => hk.2) (.bool ((rd_T69 t214 x17_1).f0))) (fun _ hk => hk.2) (.int .i64 ((rd_T69 t214 x17_1).f1))) (fun _ h_ => h_.1)))) (by decide) hg); have n1_ := Aside0.mk (blk_grown (g := gb213) (o := .cells #[.slice A0_0 l0_0.length c0_0] 27 (0, 0)) (by (with_reducible repeat (first | refine blk_drewN ?_ _ | refine blk_drew ?_ | refine blk_alloc ?_ _)); refine blk_far ?_ NB213_222.out _; (with_reducible repeat (first | refine blk_drewN ?_ _ | refine blk_drew ?_ | refine blk_alloc ?_ _)); refine blk_far ?_ NB213_222.out _; (with_reducible repeat (first | refine blk_drewN ?_ _ | refine blk_drew ?_ | refine blk_alloc ?_ _)); exact BK213.out) hg (Kd.R_ne HO_6.out BK213.out (by decide))); have n2_ := Aside0.mk (blk_grown (g := gb222) (o := .cells #[.bool ((rd_T69 t214 x17_1).f0), .int .i64 ((rd_T69 t214 x17_1).f1)] 69 (0, 0)) (by (with_reducible repeat (first | refine blk_drewN ?_ _ | refine blk_drew ?_ | refine blk_alloc ?_ _)); refine blk_put (cs := #[.bool ((rd_T69 t214 x17_1).f0), .int .i64 0]) ?_ 1 _ rfl; (with_reducible repeat (first | refine blk_drewN ?_ _ | refine blk_drew ?_ | refine blk_alloc ?_ _)); refine blk_put (cs := #[.bool false, .int .i64 0]) ?_ 0 _ rfl; (with_reducible repeat (first | refine blk_drewN ?_ _ | refine blk_drew ?_ | refine blk_alloc ?_ _)); exact BK222.out) hg (Kd.R_ne HO_6.out BK222.out (by decide))); have n3_ := Aside0.mk (hb); have n4_ := Aside0.mk (ho); clear HO_15; clear BK213; clear BK222; clear HB; clear HO_6; have HO_15 := n0_; have BK213 := n1_; have BK222 := n2_; have HB := n3_; have HO225 := n4_; clear n0_ n1_ n2_ n3_ n4_; clear ho hb hg hat))
              go_roundg k1
              case measure => have := HK1.out; omega
              case rel => exact ⟨(y223), (wrap64 (x17_1 + 1)), (by first | rfl | (simp; done) | (simp [*]; done)), H', ⟨by have := HK1.out; omega⟩, ⟨by (with_reducible repeat (first | apply Kd.R_alloc | apply Kd.R_drewN | apply Kd.R_drew)); exact HO225.out⟩, ⟨by (with_reducible repeat (first | apply Kd.R_alloc | apply Kd.R_drewN | apply Kd.R_drew)); exact Kd.R_mono HO_15.out (fun _ hk => trivial)⟩, ⟨by (with_reducible repeat (first | refine blk_drewN ?_ _ | refine blk_drew ?_ | refine blk_alloc ?_ _)); exact BK213.out⟩, ⟨by repeat (first | (with_reducible first | exact HB.out | apply below_alloc | apply pw_below_drewN | apply below_drew1 | refine below_set ?_ GE213.out | refine below_set ?_ GE222.out) | exact HB.out)⟩⟩
            · rw [if_neg c12] at H
              exact absurd H (by simp)
          · rw [if_neg c11] at H
            exact absurd H (by simp)
        · rw [if_neg c10] at H
          exact absurd H (by simp)
      · rw [if_neg c9] at H
        have c9b0 : decide (x17_1 < (t214.length : Int)) = false := decide_eq_false c9
        clear c9
        simp only [Option.some.injEq, Prod.mk.injEq] at H
        obtain ⟨rfl, rfl⟩ := H
        go_wp2
        go_ret2
        exact ⟨_, by first | rfl | (simp [errW_none, errW_some] <;> rfl) | (simp [*, errW_none, errW_some] <;> rfl), by (with_reducible repeat (first | apply Kd.R_alloc | apply Kd.R_drewN | apply Kd.R_drew)); exact HO_6.out, by repeat (first | (with_reducible first | exact HB.out | apply below_alloc | apply pw_below_drewN | apply below_drew1 | refine below_set ?_ GE213.out) | exact HB.out)⟩

-- NOT PRINTED: function 13 (laws_FnExactLengthsOf)

end Go.Proofs.Ytlicbcaloebhlaa.PX

/- The law FnExactLengthsOf along its good road: where the callees answer alike, it returns true and leaves all old memory as it was. -/
namespace Go.Proofs.Ytlicbcaloebhlaa.PX
open Go.RowKit Go.Proofs.YtlicbcaloebhlaaW.PrintWords Go.Proofs.YtlicbcaloebhlaaW.PrintLast Go.Proofs.YtlicbcaloebhlaaW.PrintMore
attribute [local go_sem] max2_int min2_int max_two min_two max_three min_three max_four min_four
set_option linter.unusedVariables false
set_option linter.unusedSimpArgs false

set_option maxHeartbeats 16000000 in
set_option maxRecDepth 100000 in
theorem laws_FnExactLengthsOf.good (k : Nat) (A0_0 : Option Addr) (c0_0 : Nat) (l0_0 : List (List Int)) (tsz0 : Int) (r0 : List Int) (r1 : Int) (tm0 : Int) (tm1 : Int) (w : World) (hr0_0 : Kd.C (Kd.slice 2 (Kd.int .i64)) w A0_0 l0_0.length l0_0) (hc0_0 : l0_0.length ≤ c0_0) (D_tsz0 : decide (tsz0 < 0) = false) (E_laws_szGame_8_h : laws_szGame.f k l0_0 1048576 = some tsz0) (E_laws_toGame_11_h : laws_toGame.f k l0_0 = some l0_0) (E_spec_LengthsOf_19_h : spec_LengthsOf.f k l0_0 = some (r0, r1)) (E_impl_LengthsOf_42_h : impl_LengthsOf.f k l0_0 = some (r0, r1)) (E_laws_eqInt64S_50_h : laws_eqInt64S.f k r0 r0 = some true) (E_laws_eqGame_62_h : laws_eqGame.f k l0_0 l0_0 = some true) (D_tm0 : decide (tm0 < 0) = false) (HM1_F31_h : 1 + total l0_0 < 4611686018427387904) (HM2_F31_h : l0_0.length < 4611686018427387904) (tm0_eq_h : 1 + total l0_0 = tm0) (D_tm1 : decide (tm1 < 0) = false) (E_laws_markInt64S_69_h : laws_markInt64S.f k r0 1 = some (tm1, marks 1 r0.length)) (E_laws_heldInt64S_72_h : laws_heldInt64S.f k (marks 1 r0.length) 1 = some tm1) :
    Calls Try.prog 13 #[.agg #[.slice A0_0 l0_0.length c0_0]] w fun e w' => e = .returned (.bool true) ∧ Below w.heap.size w w' := by
  have HR0_0 := Aside0.mk hr0_0
  have HC0_0 := Aside0.mk hc0_0
  clear hr0_0 hc0_0
  have E_laws_szGame_8 := Aside0.mk E_laws_szGame_8_h
  clear E_laws_szGame_8_h
  have E_laws_toGame_11 := Aside0.mk E_laws_toGame_11_h
  clear E_laws_toGame_11_h
  have E_spec_LengthsOf_19 := Aside0.mk E_spec_LengthsOf_19_h
  clear E_spec_LengthsOf_19_h
  have E_impl_LengthsOf_42 := Aside0.mk E_impl_LengthsOf_42_h
  clear E_impl_LengthsOf_42_h
  have E_laws_eqInt64S_50 := Aside0.mk E_laws_eqInt64S_50_h
  clear E_laws_eqInt64S_50_h
  have E_laws_eqGame_62 := Aside0.mk E_laws_eqGame_62_h
  clear E_laws_eqGame_62_h
  have HM1_F31 := Aside0.mk HM1_F31_h
  clear HM1_F31_h
  have HM2_F31 := Aside0.mk HM2_F31_h
  clear HM2_F31_h
  have tm0_eq := Aside0.mk tm0_eq_h
  clear tm0_eq_h
  have E_laws_markInt64S_69 := Aside0.mk E_laws_markInt64S_69_h
  clear E_laws_markInt64S_69_h
  have E_laws_heldInt64S_72 := Aside0.mk E_laws_heldInt64S_72_h
  clear E_laws_heldInt64S_72_h
  have hu24 := Try.underlying24
  have hu27 := Try.underlying27
  have HB := Aside0.mk (Below.refl w.heap.size w)
  go_enter Try.func13, Try.ntmps13
  go_wp2_with (first | ((with_reducible refine gate_dst (N := 1) rfl ?_); (try (refine gate_guard (by rfl) ?_; dsimp only)); refine box_event ?hg (N := 1) ?hd (cs := #[.slice A0_0 l0_0.length c0_0]) (t := 24) ?hr ?_; (case hd => rfl); (case hg => rfl); (case hr => first | (go_simp; done) | (go_simp; rfl)); intro gb1 hg w2 hbox hb; have Z5 : Aside0 (w.heap.size ≤ w2.heap.size) := Aside0.mk (hb.size); have BK3 := Aside0.mk hbox; have GP4 := Aside0.mk hg; have Z6 : Aside0 (gb1 < w2.heap.size) := Aside0.mk (blk_lt hbox); have n0_ := Aside0.mk (below_then HB.out HB.out.size hb); clear HB; have HB := n0_; clear n0_; clear hb hbox hg; (try clear hz_gb1_0); have hz_gb1_0 : w2.cell? ⟨gb1, 0, none⟩ = some (.slice A0_0 l0_0.length c0_0) := (blk_cell BK3.out 0).trans rfl; (try clear hf_gb1_0); have hf_gb1_0 := blk_frozen BK3.out 0) | ((with_reducible refine gate_dst (N := 16) rfl ?_); (try (refine gate_guard (by rfl) ?_; dsimp only)); refine goesL_ (some 16) rfl rfl Try.func15 (by kernel_rfl) rfl #[.agg #[.slice A0_0 l0_0.length c0_0], .int .i64 1048576] rfl (by (try simp only [List.map_toArray, List.map_cons, List.map_nil]); first | done | rfl) ?_; (with_reducible refine (laws_szGame.calls k _ _ l0_0 1048576 tsz0 _ ?side1 ?side2 E_laws_szGame_8.out).mono ?_); (case side1 => exact Kd.C_below HR0_0.out HB.out); (case side2 => exact HC0_0.out); rintro e w7 ⟨rfl, hb⟩; refine ⟨_, rfl, ?_⟩; have Z9 : Aside0 (w2.heap.size ≤ w7.heap.size) := Aside0.mk (hb.size); have n0_ := Aside0.mk (below_then HB.out HB.out.size hb); have n1_ := Aside0.mk (blk_below (g := gb1) (o := .cells #[.slice A0_0 l0_0.length c0_0] 24 (0, 0)) BK3.out hb); clear HB BK3; have HB := n0_; have BK3 := n1_; clear n0_ n1_; (try clear hb); (try clear hz_gb1_0); have hz_gb1_0 : w7.cell? ⟨gb1, 0, none⟩ = some (.slice A0_0 l0_0.length c0_0) := (blk_cell BK3.out 0).trans rfl; (try clear hf_gb1_0); have hf_gb1_0 := blk_frozen BK3.out 0) | ((with_reducible refine gate_dst (N := 21) rfl ?_); (try (refine gate_guard (by rfl) ?_; dsimp only)); refine goesL_ (some 21) rfl rfl Try.func17 (by kernel_rfl) rfl #[.agg #[.slice A0_0 l0_0.length c0_0]] rfl (by (try simp only [List.map_toArray, List.map_cons, List.map_nil]); first | done | rfl) ?_; (with_reducible refine (laws_toGame.calls k _ _ l0_0 l0_0 _ ?side1 ?side2 E_laws_toGame_11.out).mono ?_); (case side1 => exact Kd.C_below HR0_0.out HB.out); (case side2 => exact HC0_0.out); rintro e w10 ⟨v12, rfl, ho13, hb⟩; refine ⟨_, rfl, ?_⟩; obtain ⟨Ao14, co15, e_Ao14⟩ := Kd.S_slice ho13; subst e_Ao14; have F16 := Aside0.mk (S_ivl ho13 HB.out.size); have Z17 : Aside0 (w7.heap.size ≤ w10.heap.size) := Aside0.mk (hb.size); have n0_ := Aside0.mk (below_then HB.out HB.out.size hb); have n1_ := Aside0.mk (blk_below (g := gb1) (o := .cells #[.slice A0_0 l0_0.length c0_0] 24 (0, 0)) BK3.out hb); clear HB BK3; have HB := n0_; have BK3 := n1_; clear n0_ n1_; (try clear hb ho13); (try clear hz_gb1_0); have hz_gb1_0 : w10.cell? ⟨gb1, 0, none⟩ = some (.slice A0_0 l0_0.length c0_0) := (blk_cell BK3.out 0).trans rfl; (try clear hf_gb1_0); have hf_gb1_0 := blk_frozen BK3.out 0) | ((with_reducible refine gate_dst (N := 22) rfl ?_); (try (refine gate_guard (by rfl) ?_; dsimp only)); refine goesL_ (some 22) rfl rfl Try.func46 (by kernel_rfl) rfl #[.agg #[.slice Ao14 l0_0.length co15]] rfl (by (try simp only [List.map_toArray, List.map_cons, List.map_nil]); first | done | rfl) ?_; (with_reducible refine (spec_LengthsOf.calls k _ _ l0_0 r0 r1 _ ?side1 ?side2 E_spec_LengthsOf_19.out).mono ?_); (case side1 => exact (Kd.S_reads' F16.out).2.2); (case side2 => exact (Kd.S_reads' F16.out).2.1); rintro e w18 ⟨v20, rfl, ho21, hb⟩; refine ⟨_, rfl, ?_⟩; obtain ⟨Ao22, co23, e_Ao22⟩ := Kd.R_slice ho21; subst e_Ao22; have F24 := Aside0.mk (R_ivl ho21 HB.out.size); have Z25 : Aside0 (w10.heap.size ≤ w18.heap.size) := Aside0.mk (hb.size); have n0_ := Aside0.mk (below_then HB.out HB.out.size hb); have n1_ := Aside0.mk (blk_below (g := gb1) (o := .cells #[.slice A0_0 l0_0.length c0_0] 24 (0, 0)) BK3.out hb); have n2_ := Aside0.mk (Kd.S_below F16.out hb); clear HB BK3 F16; have HB := n0_; have BK3 := n1_; have F16 := n2_; clear n0_ n1_ n2_; (try clear hb ho21); (try clear hz_gb1_0); have hz_gb1_0 : w18.cell? ⟨gb1, 0, none⟩ = some (.slice A0_0 l0_0.length c0_0) := (blk_cell BK3.out 0).trans rfl; (try clear hf_gb1_0); have hf_gb1_0 := blk_frozen BK3.out 0) | ((with_reducible refine gate_dst (N := 26) rfl ?_); (try (refine gate_guard (by rfl) ?_; dsimp only)); refine goesL_ (some 26) rfl rfl Try.func17 (by kernel_rfl) rfl #[.agg #[.slice A0_0 l0_0.length c0_0]] rfl (by (try simp only [List.map_toArray, List.map_cons, List.map_nil]); first | done | rfl) ?_; (with_reducible refine (laws_toGame.calls k _ _ l0_0 l0_0 _ ?side1 ?side2 E_laws_toGame_11.out).mono ?_); (case side1 => exact Kd.C_below HR0_0.out HB.out); (case side2 => exact HC0_0.out); rintro e w26 ⟨v27, rfl, ho28, hb⟩; refine ⟨_, rfl, ?_⟩; obtain ⟨Ao29, co30, e_Ao29⟩ := Kd.S_slice ho28; subst e_Ao29; have F31 := Aside0.mk (S_ivl ho28 HB.out.size); have Z32 : Aside0 (w18.heap.size ≤ w26.heap.size) := Aside0.mk (hb.size); have n0_ := Aside0.mk (below_then HB.out HB.out.size hb); have n1_ := Aside0.mk (blk_below (g := gb1) (o := .cells #[.slice A0_0 l0_0.length c0_0] 24 (0, 0)) BK3.out hb); have n2_ := Aside0.mk (Kd.S_below F16.out hb); have n3_ := Aside0.mk (Kd.R_below F24.out hb); clear HB BK3 F16 F24; have HB := n0_; have BK3 := n1_; have F16 := n2_; have F24 := n3_; clear n0_ n1_ n2_ n3_; (try clear hb ho28); (try clear hz_gb1_0); have hz_gb1_0 : w26.cell? ⟨gb1, 0, none⟩ = some (.slice A0_0 l0_0.length c0_0) := (blk_cell BK3.out 0).trans rfl; (try clear hf_gb1_0); have hf_gb1_0 := blk_frozen BK3.out 0) | ((with_reducible refine gate_dst (N := 6) rfl ?_); (try (refine gate_guard (by rfl) ?_; dsimp only)); refine box_event ?hg (N := 6) ?hd (cs := #[.slice none 0 0]) (t := 27) ?hr ?_; (case hd => rfl); (case hg => rfl); (case hr => first | (go_simp; done) | (go_simp; rfl)); intro gb33 hg w34 hbox hb; have Z37 : Aside0 (w26.heap.size ≤ w34.heap.size) := Aside0.mk (hb.size); have BK35 := Aside0.mk hbox; have GP36 := Aside0.mk hg; have Z38 : Aside0 (gb33 < w34.heap.size) := Aside0.mk (blk_lt hbox); have n0_ := Aside0.mk (below_then HB.out HB.out.size hb); have n1_ := Aside0.mk (blk_below (g := gb1) (o := .cells #[.slice A0_0 l0_0.length c0_0] 24 (0, 0)) BK3.out hb); have n2_ := Aside0.mk (Kd.S_below F16.out hb); have n3_ := Aside0.mk (Kd.R_below F24.out hb); have n4_ := Aside0.mk (Kd.S_below F31.out hb); clear HB BK3 F16 F24 F31; have HB := n0_; have BK3 := n1_; have F16 := n2_; have F24 := n3_; have F31 := n4_; clear n0_ n1_ n2_ n3_ n4_; clear hb hbox hg; (try clear hz_gb1_0); have hz_gb1_0 : w34.cell? ⟨gb1, 0, none⟩ = some (.slice A0_0 l0_0.length c0_0) := (blk_cell BK3.out 0).trans rfl; (try clear hf_gb1_0); have hf_gb1_0 := blk_frozen BK3.out 0; (try clear hz_gb33_0); have hz_gb33_0 : w34.cell? ⟨gb33, 0, none⟩ = some (.slice none 0 0) := (blk_cell BK35.out 0).trans rfl; (try clear hf_gb33_0); have hf_gb33_0 := blk_frozen BK35.out 0) | ((with_reducible refine gate_store (t := 27) (p := 6) rfl ?_); (try (refine gate_guard (by rfl) ?_; dsimp only)); refine store_event (t := 27) (p := 6) (v := ?vo_w39) (w1 := (w34.setCell ⟨gb33, 0, none⟩ (.slice Ao29 l0_0.length co30))) ?hg ?ho ?hn ?hr ?_; (case ho => rfl); (case hg => rfl); (case hn => rfl); (case hr => first | (go_simp; done) | (go_simp; rfl)); intro w39 hw; have Z40 : Aside0 (w34.heap.size ≤ w39.heap.size) := Aside0.mk (by rw [hw]; simp [World.setCell]); have n0_ := Aside0.mk ((by rw [hw]; exact below_set (HB.out) (by have z0_ := Z5.out; have z1_ := Z6.out; have z2_ := Z9.out; have z3_ := Z17.out; have z4_ := Z25.out; have z5_ := Z32.out; have z6_ := Z37.out; have z7_ := Z38.out; have g_ := GP36.out; have hb_ := HB.out.size; omega) : Below w.heap.size w w39)); have n1_ := Aside0.mk ((by rw [hw]; exact blk_far (BK3.out) (by have z0_ := Z5.out; have z1_ := Z6.out; have z2_ := Z9.out; have z3_ := Z17.out; have z4_ := Z25.out; have z5_ := Z32.out; have z6_ := Z37.out; have z7_ := Z38.out; have g1_ := GP4.out; have g2_ := GP36.out; show gb1 ≠ gb33; omega) _ : w39.heap[gb1]? = some (.cells #[.slice A0_0 l0_0.length c0_0] 24 (0, 0)))); have n2_ := Aside0.mk (hw.symm ▸ (Kd.S_far (p := ⟨gb33, 0, none⟩) (F16.out) (fun k_ h_ => by have z0_ := Z5.out; have z1_ := Z6.out; have z2_ := Z9.out; have z3_ := Z17.out; have z4_ := Z25.out; have z5_ := Z32.out; have z6_ := Z37.out; have z7_ := Z38.out; have g_ := GP36.out; unfold Ivl at h_; show k_ ≠ gb33; omega) _)); have n3_ := Aside0.mk (hw.symm ▸ (Kd.R_far (p := ⟨gb33, 0, none⟩) (F24.out) (fun k_ h_ => by have z0_ := Z5.out; have z1_ := Z6.out; have z2_ := Z9.out; have z3_ := Z17.out; have z4_ := Z25.out; have z5_ := Z32.out; have z6_ := Z37.out; have z7_ := Z38.out; have g_ := GP36.out; unfold Ivl at h_; show k_ ≠ gb33; omega) _)); have n4_ := Aside0.mk (hw.symm ▸ (Kd.S_far (p := ⟨gb33, 0, none⟩) (F31.out) (fun k_ h_ => by have z0_ := Z5.out; have z1_ := Z6.out; have z2_ := Z9.out; have z3_ := Z17.out; have z4_ := Z25.out; have z5_ := Z32.out; have z6_ := Z37.out; have z7_ := Z38.out; have g_ := GP36.out; unfold Ivl at h_; show k_ ≠ gb33; omega) _)); have n5_ := Aside0.mk ((by rw [hw]; exact blk_put (cs := #[.slice none 0 0]) (BK35.out) 0 _ rfl : w39.heap[gb33]? = some (.cells #[.slice Ao29 l0_0.length co30] 27 (0, 0)))); clear HB BK3 F16 F24 F31 BK35; have HB := n0_; have BK3 := n1_; have F16 := n2_; have F24 := n3_; have F31 := n4_; have BK35 := n5_; clear n0_ n1_ n2_ n3_ n4_ n5_; clear hw; (try clear hz_gb1_0); have hz_gb1_0 : w39.cell? ⟨gb1, 0, none⟩ = some (.slice A0_0 l0_0.length c0_0) := (blk_cell BK3.out 0).trans rfl; (try clear hf_gb1_0); have hf_gb1_0 := blk_frozen BK3.out 0; (try clear hz_gb33_0); have hz_gb33_0 : w39.cell? ⟨gb33, 0, none⟩ = some (.slice Ao29 l0_0.length co30) := (blk_cell BK35.out 0).trans rfl; (try clear hf_gb33_0); have hf_gb33_0 := blk_frozen BK35.out 0) | ((with_reducible refine gate_dst (N := 29) rfl ?_); (try (refine gate_guard (by rfl) ?_; dsimp only)); refine goesL_ (some 29) rfl rfl Try.func47 (by kernel_rfl) rfl #[.agg #[.slice Ao29 l0_0.length co30]] rfl (by (try simp only [List.map_toArray, List.map_cons, List.map_nil]); first | done | rfl) ?_; (with_reducible refine (impl_LengthsOf.calls k _ _ l0_0 r0 r1 _ ?side1 ?side2 E_impl_LengthsOf_42.out).mono ?_); (case side1 => exact (Kd.S_reads' F31.out).2.2); (case side2 => exact (Kd.S_reads' F31.out).2.1); rintro e w41 ⟨v43, rfl, ho44, hb⟩; refine ⟨_, rfl, ?_⟩; obtain ⟨Ao45, co46, e_Ao45⟩ := Kd.R_slice ho44; subst e_Ao45; have F47 := Aside0.mk (R_ivl ho44 HB.out.size); have Z48 : Aside0 (w39.heap.size ≤ w41.heap.size) := Aside0.mk (hb.size); have n0_ := Aside0.mk (below_then HB.out HB.out.size hb); have n1_ := Aside0.mk (blk_below (g := gb1) (o := .cells #[.slice A0_0 l0_0.length c0_0] 24 (0, 0)) BK3.out hb); have n2_ := Aside0.mk (Kd.S_below F16.out hb); have n3_ := Aside0.mk (Kd.R_below F24.out hb); have n4_ := Aside0.mk (Kd.S_below F31.out hb); have n5_ := Aside0.mk (blk_below (g := gb33) (o := .cells #[.slice Ao29 l0_0.length co30] 27 (0, 0)) BK35.out hb); clear HB BK3 F16 F24 F31 BK35; have HB := n0_; have BK3 := n1_; have F16 := n2_; have F24 := n3_; have F31 := n4_; have BK35 := n5_; clear n0_ n1_ n2_ n3_ n4_ n5_; (try clear hb ho44); (try clear hz_gb1_0); have hz_gb1_0 : w41.cell? ⟨gb1, 0, none⟩ = some (.slice A0_0 l0_0.length c0_0) := (blk_cell BK3.out 0).trans rfl; (try clear hf_gb1_0); have hf_gb1_0 := blk_frozen BK3.out 0; (try clear hz_gb33_0); have hz_gb33_0 : w41.cell? ⟨gb33, 0, none⟩ = some (.slice Ao29 l0_0.length co30) := (blk_cell BK35.out 0).trans rfl; (try clear hf_gb33_0); have hf_gb33_0 := blk_frozen BK35.out 0) | ((with_reducible refine gate_dst (N := 34) rfl ?_); (try (refine gate_guard (by rfl) ?_; dsimp only)); refine goesL_ (some 34) rfl rfl Try.func23 (by kernel_rfl) rfl #[.slice Ao45 r0.length co46, .slice Ao22 r0.length co23] rfl (by (try simp only [List.map_toArray, List.map_cons, List.map_nil]); first | done | rfl) ?_; (with_reducible refine (calls_below (laws_eqInt64S.calls k _ _ r0 _ _ r0 true _ ?side1 ?side2 ?side3 ?side4 E_laws_eqInt64S_50.out)).mono ?_); (case side1 => exact (Kd.R_reads' F47.out).2.2); (case side2 => exact (Kd.R_reads' F47.out).2.1); (case side3 => exact (Kd.R_reads' F24.out).2.2); (case side4 => exact (Kd.R_reads' F24.out).2.1); rintro e w49 ⟨rfl, hb⟩; refine ⟨_, rfl, ?_⟩; have Z51 : Aside0 (w41.heap.size ≤ w49.heap.size) := Aside0.mk (hb.size); have n0_ := Aside0.mk (below_then HB.out HB.out.size hb); have n1_ := Aside0.mk (blk_below (g := gb1) (o := .cells #[.slice A0_0 l0_0.length c0_0] 24 (0, 0)) BK3.out hb); have n2_ := Aside0.mk (Kd.S_below F16.out hb); have n3_ := Aside0.mk (Kd.R_below F24.out hb); have n4_ := Aside0.mk (Kd.S_below F31.out hb); have n5_ := Aside0.mk (blk_below (g := gb33) (o := .cells #[.slice Ao29 l0_0.length co30] 27 (0, 0)) BK35.out hb); have n6_ := Aside0.mk (Kd.R_below F47.out hb); clear HB BK3 F16 F24 F31 BK35 F47; have HB := n0_; have BK3 := n1_; have F16 := n2_; have F24 := n3_; have F31 := n4_; have BK35 := n5_; have F47 := n6_; clear n0_ n1_ n2_ n3_ n4_ n5_ n6_; (try clear hb); (try clear hz_gb1_0); have hz_gb1_0 : w49.cell? ⟨gb1, 0, none⟩ = some (.slice A0_0 l0_0.length c0_0) := (blk_cell BK3.out 0).trans rfl; (try clear hf_gb1_0); have hf_gb1_0 := blk_frozen BK3.out 0; (try clear hz_gb33_0); have hz_gb33_0 : w49.cell? ⟨gb33, 0, none⟩ = some (.slice Ao29 l0_0.length co30) := (blk_cell BK35.out 0).trans rfl; (try clear hf_gb33_0); have hf_gb33_0 := blk_frozen BK35.out 0))
  refine start_ (n := 5) (S := fun w' => w'.cell? ⟨gb1, 0, none⟩ = some (.slice A0_0 l0_0.length c0_0) ∧ w'.cell? ⟨gb33, 0, none⟩ = some (.slice Ao29 l0_0.length co30)) (ds := []) #[false, false, false, false, false] (by kernel_rfl) rfl rfl ⟨(blk_cell BK3.out 0).trans rfl, (blk_cell BK35.out 0).trans rfl⟩ (fun hHeld => ?_)
  have Z53 : Aside0 (w49.heap.size ≤ w49.drew.heap.size) := Aside0.mk (Nat.le_refl _)
  have n0_ := Aside0.mk (below_drew HB.out)
  have n1_ := Aside0.mk (blk_drew BK3.out)
  have n2_ := Aside0.mk (Kd.S_drew F16.out)
  have n3_ := Aside0.mk (Kd.R_drew F24.out)
  have n4_ := Aside0.mk (Kd.S_drew F31.out)
  have n5_ := Aside0.mk (blk_drew BK35.out)
  have n6_ := Aside0.mk (Kd.R_drew F47.out)
  clear HB BK3 F16 F24 F31 BK35 F47
  have HB := n0_
  have BK3 := n1_
  have F16 := n2_
  have F24 := n3_
  have F31 := n4_
  have BK35 := n5_
  have F47 := n6_
  clear n0_ n1_ n2_ n3_ n4_ n5_ n6_
  generalize w49.drew = w52 at HB BK3 F16 F24 F31 BK35 F47 Z53 hHeld ⊢
  refine take_ (i := 0) (N := some 41) (v := ?_) (a' := ?_) #[true, false, false, false, false] rfl rfl (by kernel_rfl) (fun _ _ _ h => h) (Or.inl ⟨by rfl, ?_⟩) hHeld ?_ ?_
  rotate_left
  · rintro w' ⟨s0_, s1_⟩
    go_simp
    with_reducible rfl
  rotate_left
  · simp only [Act.put, List.setIfInBounds_toArray, List.set_cons_zero, List.set_cons_succ, i64_w, i32_w]
    rfl
  refine take_ (i := 1) (N := some 42) (v := ?_) (a' := ?_) #[true, true, false, false, false] rfl rfl (by kernel_rfl) (fun _ _ _ h => h) (Or.inl ⟨by rfl, ?_⟩) hHeld ?_ ?_
  rotate_left
  · rintro w' ⟨s0_, s1_⟩
    go_simp
    with_reducible rfl
  rotate_left
  · simp only [Act.put, List.setIfInBounds_toArray, List.set_cons_zero, List.set_cons_succ, i64_w, i32_w]
    rfl
  refine one_ (i := 2) (N := some 43) #[true, true, true, false, false] rfl rfl (by kernel_rfl) (by decide) (fun K hK => ?_)
  refine goes_ Try.func17 (by kernel_rfl) rfl #[.agg #[.slice A0_0 l0_0.length c0_0]] (by rfl) rfl rfl (by (try simp only [List.map_toArray, List.map_cons, List.map_nil]); first | done | rfl) ?_
  with_reducible refine (laws_toGame.calls k _ _ l0_0 l0_0 _ ?side1 ?side2 E_laws_toGame_11.out).mono ?_
  (case side1 => exact Kd.C_below HR0_0.out HB.out)
  (case side2 => exact HC0_0.out)
  rintro e w54 ⟨v55, rfl, ho56, hb⟩
  refine ⟨_, rfl, ?_⟩
  obtain ⟨Ao57, co58, e_Ao57⟩ := Kd.S_slice ho56
  subst e_Ao57
  have F59 := Aside0.mk (S_ivl ho56 HB.out.size)
  have Z60 : Aside0 (w52.heap.size ≤ w54.heap.size) := Aside0.mk (hb.size)
  have n0_ := Aside0.mk (below_then HB.out HB.out.size hb)
  have n1_ := Aside0.mk (blk_below (g := gb1) (o := .cells #[.slice A0_0 l0_0.length c0_0] 24 (0, 0)) BK3.out hb)
  have n2_ := Aside0.mk (Kd.S_below F16.out hb)
  have n3_ := Aside0.mk (Kd.R_below F24.out hb)
  have n4_ := Aside0.mk (Kd.S_below F31.out hb)
  have n5_ := Aside0.mk (blk_below (g := gb33) (o := .cells #[.slice Ao29 l0_0.length co30] 27 (0, 0)) BK35.out hb)
  have n6_ := Aside0.mk (Kd.R_below F47.out hb)
  clear HB BK3 F16 F24 F31 BK35 F47
  have HB := n0_
  have BK3 := n1_
  have F16 := n2_
  have F24 := n3_
  have F31 := n4_
  have BK35 := n5_
  have F47 := n6_
  clear n0_ n1_ n2_ n3_ n4_ n5_ n6_
  (try clear hb ho56)
  refine hK.out _ _ ⟨(blk_cell BK3.out 0).trans rfl, (blk_cell BK35.out 0).trans rfl⟩ (fun hHeld => ?_)
  clear hK K
  refine norm_ (a' := ?_) ?_ ?_
  rotate_left
  · show Act.put _ (some 43) _ = _
    simp only [Act.put, List.setIfInBounds_toArray, List.set_cons_zero, List.set_cons_succ, i64_w, i32_w]
    rfl
  refine one_ (i := 3) (N := some 44) #[true, true, true, true, false] rfl rfl (by kernel_rfl) (by decide) (fun K hK => ?_)
  refine goes_ Try.func19 (by kernel_rfl) rfl #[.agg #[.slice Ao29 l0_0.length co30], .agg #[.slice Ao57 l0_0.length co58]] (by rfl) rfl rfl (by (try simp only [List.map_toArray, List.map_cons, List.map_nil]); first | done | rfl) ?_
  with_reducible refine (laws_eqGame.calls k _ _ l0_0 _ _ l0_0 true _ ?side1 ?side2 ?side3 ?side4 E_laws_eqGame_62.out).mono ?_
  (case side1 => exact (Kd.S_reads' F31.out).2.2)
  (case side2 => exact (Kd.S_reads' F31.out).2.1)
  (case side3 => exact (Kd.S_reads' F59.out).2.2)
  (case side4 => exact (Kd.S_reads' F59.out).2.1)
  rintro e w61 ⟨rfl, hb⟩
  refine ⟨_, rfl, ?_⟩
  have Z63 : Aside0 (w54.heap.size ≤ w61.heap.size) := Aside0.mk (hb.size)
  have n0_ := Aside0.mk (below_then HB.out HB.out.size hb)
  have n1_ := Aside0.mk (blk_below (g := gb1) (o := .cells #[.slice A0_0 l0_0.length c0_0] 24 (0, 0)) BK3.out hb)
  have n2_ := Aside0.mk (Kd.S_below F16.out hb)
  have n3_ := Aside0.mk (Kd.R_below F24.out hb)
  have n4_ := Aside0.mk (Kd.S_below F31.out hb)
  have n5_ := Aside0.mk (blk_below (g := gb33) (o := .cells #[.slice Ao29 l0_0.length co30] 27 (0, 0)) BK35.out hb)
  have n6_ := Aside0.mk (Kd.R_below F47.out hb)
  have n7_ := Aside0.mk (Kd.S_below F59.out hb)
  clear HB BK3 F16 F24 F31 BK35 F47 F59
  have HB := n0_
  have BK3 := n1_
  have F16 := n2_
  have F24 := n3_
  have F31 := n4_
  have BK35 := n5_
  have F47 := n6_
  have F59 := n7_
  clear n0_ n1_ n2_ n3_ n4_ n5_ n6_ n7_
  (try clear hb)
  refine hK.out _ _ ⟨(blk_cell BK3.out 0).trans rfl, (blk_cell BK35.out 0).trans rfl⟩ (fun hHeld => ?_)
  clear hK K
  refine norm_ (a' := ?_) ?_ ?_
  rotate_left
  · show Act.put _ (some 44) _ = _
    simp only [Act.put, List.setIfInBounds_toArray, List.set_cons_zero, List.set_cons_succ, i64_w, i32_w]
    rfl
  refine pure_ (i := 4) (N := some 45) (v := ?_) (a' := ?_) #[true, true, true, true, true] rfl rfl (by kernel_rfl) (fun _ _ _ h => h) (Or.inl ⟨by rfl, ?_⟩) ?_ ?_
  rotate_left
  · intro w'
    go_simp
    with_reducible rfl
  rotate_left
  · simp only [Act.put, List.setIfInBounds_toArray, List.set_cons_zero, List.set_cons_succ, i64_w, i32_w]
    rfl
  refine done_ (by kernel_rfl) ?_
  (try clear hz_gb1_0)
  have hz_gb1_0 : w61.cell? ⟨gb1, 0, none⟩ = some (.slice A0_0 l0_0.length c0_0) := (blk_cell BK3.out 0).trans rfl
  (try clear hf_gb1_0)
  have hf_gb1_0 := blk_frozen BK3.out 0
  (try clear hz_gb33_0)
  have hz_gb33_0 : w61.cell? ⟨gb33, 0, none⟩ = some (.slice Ao29 l0_0.length co30) := (blk_cell BK35.out 0).trans rfl
  (try clear hf_gb33_0)
  have hf_gb33_0 := blk_frozen BK35.out 0
  go_wp2_with (first | ((with_reducible refine gate_dst (N := 48) rfl ?_); (try (refine gate_guard (by rfl) ?_; dsimp only)); refine goesL_ (some 48) rfl rfl Try.func28 (by kernel_rfl) rfl #[.agg #[.slice Ao29 l0_0.length co30], .int .i64 1] rfl (by (try simp only [List.map_toArray, List.map_cons, List.map_nil]); first | done | rfl) ?_; (with_reducible refine (laws_markGame.calls (Ivl w18.heap.size w26.heap.size) _ _ _ l0_0 1 w _ HB.out F31.out (by decide) HM1_F31.out HM2_F31.out).mono ?_); rintro e w64 ⟨rfl, hs, hB, hk⟩; refine ⟨_, rfl, ?_⟩; rw [tm0_eq.out]; have Z65 : Aside0 (w61.heap.size ≤ w64.heap.size) := Aside0.mk (hk.1); have n0_ := Aside0.mk (hB); have n1_ := Aside0.mk (blk_kept BK3.out hk (fun h_ => by have z0_ := Z5.out; have z1_ := Z6.out; have z2_ := Z9.out; have z3_ := Z17.out; have z4_ := Z25.out; have z5_ := Z32.out; have z6_ := Z37.out; have z7_ := Z38.out; have z8_ := Z40.out; have z9_ := Z48.out; have z10_ := Z51.out; have z11_ := Z53.out; have z12_ := Z60.out; have z13_ := Z63.out; have g_ := GP4.out; unfold Ivl at h_; omega)); have n2_ := Aside0.mk (Kd.S_kept F16.out hk (fun k_ h1_ h2_ => by have z0_ := Z5.out; have z1_ := Z6.out; have z2_ := Z9.out; have z3_ := Z17.out; have z4_ := Z25.out; have z5_ := Z32.out; have z6_ := Z37.out; have z7_ := Z38.out; have z8_ := Z40.out; have z9_ := Z48.out; have z10_ := Z51.out; have z11_ := Z53.out; have z12_ := Z60.out; have z13_ := Z63.out; unfold Ivl at h1_ h2_; omega)); have n3_ := Aside0.mk (Kd.R_kept F24.out hk (fun k_ h1_ h2_ => by have z0_ := Z5.out; have z1_ := Z6.out; have z2_ := Z9.out; have z3_ := Z17.out; have z4_ := Z25.out; have z5_ := Z32.out; have z6_ := Z37.out; have z7_ := Z38.out; have z8_ := Z40.out; have z9_ := Z48.out; have z10_ := Z51.out; have z11_ := Z53.out; have z12_ := Z60.out; have z13_ := Z63.out; unfold Ivl at h1_ h2_; omega)); have n4_ := Aside0.mk (blk_kept BK35.out hk (fun h_ => by have z0_ := Z5.out; have z1_ := Z6.out; have z2_ := Z9.out; have z3_ := Z17.out; have z4_ := Z25.out; have z5_ := Z32.out; have z6_ := Z37.out; have z7_ := Z38.out; have z8_ := Z40.out; have z9_ := Z48.out; have z10_ := Z51.out; have z11_ := Z53.out; have z12_ := Z60.out; have z13_ := Z63.out; have g_ := GP36.out; unfold Ivl at h_; omega)); have n5_ := Aside0.mk (Kd.R_kept F47.out hk (fun k_ h1_ h2_ => by have z0_ := Z5.out; have z1_ := Z6.out; have z2_ := Z9.out; have z3_ := Z17.out; have z4_ := Z25.out; have z5_ := Z32.out; have z6_ := Z37.out; have z7_ := Z38.out; have z8_ := Z40.out; have z9_ := Z48.out; have z10_ := Z51.out; have z11_ := Z53.out; have z12_ := Z60.out; have z13_ := Z63.out; unfold Ivl at h1_ h2_; omega)); have n6_ := Aside0.mk (Kd.S_kept F59.out hk (fun k_ h1_ h2_ => by have z0_ := Z5.out; have z1_ := Z6.out; have z2_ := Z9.out; have z3_ := Z17.out; have z4_ := Z25.out; have z5_ := Z32.out; have z6_ := Z37.out; have z7_ := Z38.out; have z8_ := Z40.out; have z9_ := Z48.out; have z10_ := Z51.out; have z11_ := Z53.out; have z12_ := Z60.out; have z13_ := Z63.out; unfold Ivl at h1_ h2_; omega)); have n7_ := Aside0.mk (hs); clear HB BK3 F16 F24 BK35 F47 F59 F31; have HB := n0_; have BK3 := n1_; have F16 := n2_; have F24 := n3_; have BK35 := n4_; have F47 := n5_; have F59 := n6_; have F31 := n7_; clear n0_ n1_ n2_ n3_ n4_ n5_ n6_ n7_; (try clear hs hB hk); (try clear hz_gb1_0); have hz_gb1_0 : w64.cell? ⟨gb1, 0, none⟩ = some (.slice A0_0 l0_0.length c0_0) := (blk_cell BK3.out 0).trans rfl; (try clear hf_gb1_0); have hf_gb1_0 := blk_frozen BK3.out 0; (try clear hz_gb33_0); have hz_gb33_0 : w64.cell? ⟨gb33, 0, none⟩ = some (.slice Ao29 l0_0.length co30) := (blk_cell BK35.out 0).trans rfl; (try clear hf_gb33_0); have hf_gb33_0 := blk_frozen BK35.out 0) | ((with_reducible refine gate_dst (N := 54) rfl ?_); (try (refine gate_guard (by rfl) ?_; dsimp only)); refine goesL_ (some 54) rfl rfl Try.func23 (by kernel_rfl) rfl #[.slice Ao45 r0.length co46, .slice Ao22 r0.length co23] rfl (by (try simp only [List.map_toArray, List.map_cons, List.map_nil]); first | done | rfl) ?_; (with_reducible refine (calls_below (laws_eqInt64S.calls k _ _ r0 _ _ r0 true _ ?side1 ?side2 ?side3 ?side4 E_laws_eqInt64S_50.out)).mono ?_); (case side1 => exact (Kd.R_reads' F47.out).2.2); (case side2 => exact (Kd.R_reads' F47.out).2.1); (case side3 => exact (Kd.R_reads' F24.out).2.2); (case side4 => exact (Kd.R_reads' F24.out).2.1); rintro e w66 ⟨rfl, hb⟩; refine ⟨_, rfl, ?_⟩; have Z67 : Aside0 (w64.heap.size ≤ w66.heap.size) := Aside0.mk (hb.size); have n0_ := Aside0.mk (below_then HB.out HB.out.size hb); have n1_ := Aside0.mk (blk_below (g := gb1) (o := .cells #[.slice A0_0 l0_0.length c0_0] 24 (0, 0)) BK3.out hb); have n2_ := Aside0.mk (Kd.S_below F16.out hb); have n3_ := Aside0.mk (Kd.R_below F24.out hb); have n4_ := Aside0.mk (Kd.S_below F31.out hb); have n5_ := Aside0.mk (blk_below (g := gb33) (o := .cells #[.slice Ao29 l0_0.length co30] 27 (0, 0)) BK35.out hb); have n6_ := Aside0.mk (Kd.R_below F47.out hb); have n7_ := Aside0.mk (Kd.S_below F59.out hb); clear HB BK3 F16 F24 F31 BK35 F47 F59; have HB := n0_; have BK3 := n1_; have F16 := n2_; have F24 := n3_; have F31 := n4_; have BK35 := n5_; have F47 := n6_; have F59 := n7_; clear n0_ n1_ n2_ n3_ n4_ n5_ n6_ n7_; (try clear hb); (try clear hz_gb1_0); have hz_gb1_0 : w66.cell? ⟨gb1, 0, none⟩ = some (.slice A0_0 l0_0.length c0_0) := (blk_cell BK3.out 0).trans rfl; (try clear hf_gb1_0); have hf_gb1_0 := blk_frozen BK3.out 0; (try clear hz_gb33_0); have hz_gb33_0 : w66.cell? ⟨gb33, 0, none⟩ = some (.slice Ao29 l0_0.length co30) := (blk_cell BK35.out 0).trans rfl; (try clear hf_gb33_0); have hf_gb33_0 := blk_frozen BK35.out 0) | ((with_reducible refine gate_dst (N := 64) rfl ?_); (try (refine gate_guard (by rfl) ?_; dsimp only)); refine goesL_ (some 64) rfl rfl Try.func29 (by kernel_rfl) rfl #[.slice Ao45 r0.length co46, .int .i64 1] rfl (by (try simp only [List.map_toArray, List.map_cons, List.map_nil]); first | done | rfl) ?_; (with_reducible refine (laws_markInt64S.calls k (Ivl w39.heap.size w41.heap.size) _ r0 1 tm1 _ w _ HB.out F47.out E_laws_markInt64S_69.out).mono ?_); rintro e w68 ⟨rfl, hs, hB, hk⟩; refine ⟨_, rfl, ?_⟩; have Z70 : Aside0 (w66.heap.size ≤ w68.heap.size) := Aside0.mk (hk.1); have n0_ := Aside0.mk (hB); have n1_ := Aside0.mk (blk_kept BK3.out hk (fun h_ => by have z0_ := Z5.out; have z1_ := Z6.out; have z2_ := Z9.out; have z3_ := Z17.out; have z4_ := Z25.out; have z5_ := Z32.out; have z6_ := Z37.out; have z7_ := Z38.out; have z8_ := Z40.out; have z9_ := Z48.out; have z10_ := Z51.out; have z11_ := Z53.out; have z12_ := Z60.out; have z13_ := Z63.out; have z14_ := Z65.out; have z15_ := Z67.out; have g_ := GP4.out; unfold Ivl at h_; omega)); have n2_ := Aside0.mk (Kd.S_kept F16.out hk (fun k_ h1_ h2_ => by have z0_ := Z5.out; have z1_ := Z6.out; have z2_ := Z9.out; have z3_ := Z17.out; have z4_ := Z25.out; have z5_ := Z32.out; have z6_ := Z37.out; have z7_ := Z38.out; have z8_ := Z40.out; have z9_ := Z48.out; have z10_ := Z51.out; have z11_ := Z53.out; have z12_ := Z60.out; have z13_ := Z63.out; have z14_ := Z65.out; have z15_ := Z67.out; unfold Ivl at h1_ h2_; omega)); have n3_ := Aside0.mk (Kd.R_kept F24.out hk (fun k_ h1_ h2_ => by have z0_ := Z5.out; have z1_ := Z6.out; have z2_ := Z9.out; have z3_ := Z17.out; have z4_ := Z25.out; have z5_ := Z32.out; have z6_ := Z37.out; have z7_ := Z38.out; have z8_ := Z40.out; have z9_ := Z48.out; have z10_ := Z51.out; have z11_ := Z53.out; have z12_ := Z60.out; have z13_ := Z63.out; have z14_ := Z65.out; have z15_ := Z67.out; unfold Ivl at h1_ h2_; omega)); have n4_ := Aside0.mk (Kd.S_kept F31.out hk (fun k_ h1_ h2_ => by have z0_ := Z5.out; have z1_ := Z6.out; have z2_ := Z9.out; have z3_ := Z17.out; have z4_ := Z25.out; have z5_ := Z32.out; have z6_ := Z37.out; have z7_ := Z38.out; have z8_ := Z40.out; have z9_ := Z48.out; have z10_ := Z51.out; have z11_ := Z53.out; have z12_ := Z60.out; have z13_ := Z63.out; have z14_ := Z65.out; have z15_ := Z67.out; unfold Ivl at h1_ h2_; omega)); have n5_ := Aside0.mk (blk_kept BK35.out hk (fun h_ => by have z0_ := Z5.out; have z1_ := Z6.out; have z2_ := Z9.out; have z3_ := Z17.out; have z4_ := Z25.out; have z5_ := Z32.out; have z6_ := Z37.out; have z7_ := Z38.out; have z8_ := Z40.out; have z9_ := Z48.out; have z10_ := Z51.out; have z11_ := Z53.out; have z12_ := Z60.out; have z13_ := Z63.out; have z14_ := Z65.out; have z15_ := Z67.out; have g_ := GP36.out; unfold Ivl at h_; omega)); have n6_ := Aside0.mk (Kd.S_kept F59.out hk (fun k_ h1_ h2_ => by have z0_ := Z5.out; have z1_ := Z6.out; have z2_ := Z9.out; have z3_ := Z17.out; have z4_ := Z25.out; have z5_ := Z32.out; have z6_ := Z37.out; have z7_ := Z38.out; have z8_ := Z40.out; have z9_ := Z48.out; have z10_ := Z51.out; have z11_ := Z53.out; have z12_ := Z60.out; have z13_ := Z63.out; have z14_ := Z65.out; have z15_ := Z67.out; unfold Ivl at h1_ h2_; omega)); have n7_ := Aside0.mk (Kd.R_reok rfl hs (fun k_ e_ => F47.out.1 k_ e_)); clear HB BK3 F16 F24 F31 BK35 F59 F47; have HB := n0_; have BK3 := n1_; have F16 := n2_; have F24 := n3_; have F31 := n4_; have BK35 := n5_; have F59 := n6_; have F47 := n7_; clear n0_ n1_ n2_ n3_ n4_ n5_ n6_ n7_; (try clear hs hB hk); (try clear hz_gb1_0); have hz_gb1_0 : w68.cell? ⟨gb1, 0, none⟩ = some (.slice A0_0 l0_0.length c0_0) := (blk_cell BK3.out 0).trans rfl; (try clear hf_gb1_0); have hf_gb1_0 := blk_frozen BK3.out 0; (try clear hz_gb33_0); have hz_gb33_0 : w68.cell? ⟨gb33, 0, none⟩ = some (.slice Ao29 l0_0.length co30) := (blk_cell BK35.out 0).trans rfl; (try clear hf_gb33_0); have hf_gb33_0 := blk_frozen BK35.out 0) | ((with_reducible refine gate_dst (N := 67) rfl ?_); (try (refine gate_guard (by rfl) ?_; dsimp only)); refine goesL_ (some 67) rfl rfl Try.func30 (by kernel_rfl) rfl #[.slice Ao45 (marks 1 r0.length).length co46, .int .i64 1] rfl (by (try simp only [List.map_toArray, List.map_cons, List.map_nil]); first | done | (rw [show (marks 1 r0.length).length = r0.length from marks_length _ _] <;> rfl) | rfl) ?_; (with_reducible refine (calls_below (laws_heldInt64S.calls k _ _ (marks 1 r0.length) 1 tm1 _ ?side1 ?side2 E_laws_heldInt64S_72.out)).mono ?_); (case side1 => first | (exact (Kd.R_reads' F47.out).2.2) | (rw [show (marks 1 r0.length).length = r0.length from marks_length _ _]; exact (Kd.R_reads' F47.out).2.2)); (case side2 => first | (exact (Kd.R_reads' F47.out).2.1) | (rw [show (marks 1 r0.length).length = r0.length from marks_length _ _]; exact (Kd.R_reads' F47.out).2.1)); rintro e w71 ⟨rfl, hb⟩; refine ⟨_, rfl, ?_⟩; have Z73 : Aside0 (w68.heap.size ≤ w71.heap.size) := Aside0.mk (hb.size); have n0_ := Aside0.mk (below_then HB.out HB.out.size hb); have n1_ := Aside0.mk (blk_below (g := gb1) (o := .cells #[.slice A0_0 l0_0.length c0_0] 24 (0, 0)) BK3.out hb); have n2_ := Aside0.mk (Kd.S_below F16.out hb); have n3_ := Aside0.mk (Kd.R_below F24.out hb); have n4_ := Aside0.mk (Kd.S_below F31.out hb); have n5_ := Aside0.mk (blk_below (g := gb33) (o := .cells #[.slice Ao29 l0_0.length co30] 27 (0, 0)) BK35.out hb); have n6_ := Aside0.mk (Kd.R_below F47.out hb); have n7_ := Aside0.mk (Kd.S_below F59.out hb); clear HB BK3 F16 F24 F31 BK35 F47 F59; have HB := n0_; have BK3 := n1_; have F16 := n2_; have F24 := n3_; have F31 := n4_; have BK35 := n5_; have F47 := n6_; have F59 := n7_; clear n0_ n1_ n2_ n3_ n4_ n5_ n6_ n7_; (try clear hb); (try clear hz_gb1_0); have hz_gb1_0 : w71.cell? ⟨gb1, 0, none⟩ = some (.slice A0_0 l0_0.length c0_0) := (blk_cell BK3.out 0).trans rfl; (try clear hf_gb1_0); have hf_gb1_0 := blk_frozen BK3.out 0; (try clear hz_gb33_0); have hz_gb33_0 : w71.cell? ⟨gb33, 0, none⟩ = some (.slice Ao29 l0_0.length co30) := (blk_cell BK35.out 0).trans rfl; (try clear hf_gb33_0); have hf_gb33_0 := blk_frozen BK35.out 0) | ((with_reducible refine gate_dst (N := 75) rfl ?_); (try (refine gate_guard (by rfl) ?_; dsimp only)); refine goesL_ (some 75) rfl rfl Try.func17 (by kernel_rfl) rfl #[.agg #[.slice A0_0 l0_0.length c0_0]] rfl (by (try simp only [List.map_toArray, List.map_cons, List.map_nil]); first | done | rfl) ?_; (with_reducible refine (laws_toGame.calls k _ _ l0_0 l0_0 _ ?side1 ?side2 E_laws_toGame_11.out).mono ?_); (case side1 => exact Kd.C_below HR0_0.out HB.out); (case side2 => exact HC0_0.out); rintro e w74 ⟨v75, rfl, ho76, hb⟩; refine ⟨_, rfl, ?_⟩; obtain ⟨Ao77, co78, e_Ao77⟩ := Kd.S_slice ho76; subst e_Ao77; have F79 := Aside0.mk (S_ivl ho76 HB.out.size); have Z80 : Aside0 (w71.heap.size ≤ w74.heap.size) := Aside0.mk (hb.size); have n0_ := Aside0.mk (below_then HB.out HB.out.size hb); have n1_ := Aside0.mk (blk_below (g := gb1) (o := .cells #[.slice A0_0 l0_0.length c0_0] 24 (0, 0)) BK3.out hb); have n2_ := Aside0.mk (Kd.S_below F16.out hb); have n3_ := Aside0.mk (Kd.R_below F24.out hb); have n4_ := Aside0.mk (Kd.S_below F31.out hb); have n5_ := Aside0.mk (blk_below (g := gb33) (o := .cells #[.slice Ao29 l0_0.length co30] 27 (0, 0)) BK35.out hb); have n6_ := Aside0.mk (Kd.R_below F47.out hb); have n7_ := Aside0.mk (Kd.S_below F59.out hb); clear HB BK3 F16 F24 F31 BK35 F47 F59; have HB := n0_; have BK3 := n1_; have F16 := n2_; have F24 := n3_; have F31 := n4_; have BK35 := n5_; have F47 := n6_; have F59 := n7_; clear n0_ n1_ n2_ n3_ n4_ n5_ n6_ n7_; (try clear hb ho76); (try clear hz_gb1_0); have hz_gb1_0 : w74.cell? ⟨gb1, 0, none⟩ = some (.slice A0_0 l0_0.length c0_0) := (blk_cell BK3.out 0).trans rfl; (try clear hf_gb1_0); have hf_gb1_0 := blk_frozen BK3.out 0; (try clear hz_gb33_0); have hz_gb33_0 : w74.cell? ⟨gb33, 0, none⟩ = some (.slice Ao29 l0_0.length co30) := (blk_cell BK35.out 0).trans rfl; (try clear hf_gb33_0); have hf_gb33_0 := blk_frozen BK35.out 0) | ((with_reducible refine gate_dst (N := 76) rfl ?_); (try (refine gate_guard (by rfl) ?_; dsimp only)); refine goesL_ (some 76) rfl rfl Try.func47 (by kernel_rfl) rfl #[.agg #[.slice Ao77 l0_0.length co78]] rfl (by (try simp only [List.map_toArray, List.map_cons, List.map_nil]); first | done | rfl) ?_; (with_reducible refine (impl_LengthsOf.calls k _ _ l0_0 r0 r1 _ ?side1 ?side2 E_impl_LengthsOf_42.out).mono ?_); (case side1 => exact (Kd.S_reads' F79.out).2.2); (case side2 => exact (Kd.S_reads' F79.out).2.1); rintro e w81 ⟨v82, rfl, ho83, hb⟩; refine ⟨_, rfl, ?_⟩; obtain ⟨Ao84, co85, e_Ao84⟩ := Kd.R_slice ho83; subst e_Ao84; have F86 := Aside0.mk (R_ivl ho83 HB.out.size); have Z87 : Aside0 (w74.heap.size ≤ w81.heap.size) := Aside0.mk (hb.size); have n0_ := Aside0.mk (below_then HB.out HB.out.size hb); have n1_ := Aside0.mk (blk_below (g := gb1) (o := .cells #[.slice A0_0 l0_0.length c0_0] 24 (0, 0)) BK3.out hb); have n2_ := Aside0.mk (Kd.S_below F16.out hb); have n3_ := Aside0.mk (Kd.R_below F24.out hb); have n4_ := Aside0.mk (Kd.S_below F31.out hb); have n5_ := Aside0.mk (blk_below (g := gb33) (o := .cells #[.slice Ao29 l0_0.length co30] 27 (0, 0)) BK35.out hb); have n6_ := Aside0.mk (Kd.R_below F47.out hb); have n7_ := Aside0.mk (Kd.S_below F59.out hb); have n8_ := Aside0.mk (Kd.S_below F79.out hb); clear HB BK3 F16 F24 F31 BK35 F47 F59 F79; have HB := n0_; have BK3 := n1_; have F16 := n2_; have F24 := n3_; have F31 := n4_; have BK35 := n5_; have F47 := n6_; have F59 := n7_; have F79 := n8_; clear n0_ n1_ n2_ n3_ n4_ n5_ n6_ n7_ n8_; (try clear hb ho83); (try clear hz_gb1_0); have hz_gb1_0 : w81.cell? ⟨gb1, 0, none⟩ = some (.slice A0_0 l0_0.length c0_0) := (blk_cell BK3.out 0).trans rfl; (try clear hf_gb1_0); have hf_gb1_0 := blk_frozen BK3.out 0; (try clear hz_gb33_0); have hz_gb33_0 : w81.cell? ⟨gb33, 0, none⟩ = some (.slice Ao29 l0_0.length co30) := (blk_cell BK35.out 0).trans rfl; (try clear hf_gb33_0); have hf_gb33_0 := blk_frozen BK35.out 0) | ((with_reducible refine gate_dst (N := 81) rfl ?_); (try (refine gate_guard (by rfl) ?_; dsimp only)); refine goesL_ (some 81) rfl rfl Try.func23 (by kernel_rfl) rfl #[.slice Ao84 r0.length co85, .slice Ao22 r0.length co23] rfl (by (try simp only [List.map_toArray, List.map_cons, List.map_nil]); first | done | rfl) ?_; (with_reducible refine (calls_below (laws_eqInt64S.calls k _ _ r0 _ _ r0 true _ ?side1 ?side2 ?side3 ?side4 E_laws_eqInt64S_50.out)).mono ?_); (case side1 => exact (Kd.R_reads' F86.out).2.2); (case side2 => exact (Kd.R_reads' F86.out).2.1); (case side3 => exact (Kd.R_reads' F24.out).2.2); (case side4 => exact (Kd.R_reads' F24.out).2.1); rintro e w88 ⟨rfl, hb⟩; refine ⟨_, rfl, ?_⟩; have Z89 : Aside0 (w81.heap.size ≤ w88.heap.size) := Aside0.mk (hb.size); have n0_ := Aside0.mk (below_then HB.out HB.out.size hb); have n1_ := Aside0.mk (blk_below (g := gb1) (o := .cells #[.slice A0_0 l0_0.length c0_0] 24 (0, 0)) BK3.out hb); have n2_ := Aside0.mk (Kd.S_below F16.out hb); have n3_ := Aside0.mk (Kd.R_below F24.out hb); have n4_ := Aside0.mk (Kd.S_below F31.out hb); have n5_ := Aside0.mk (blk_below (g := gb33) (o := .cells #[.slice Ao29 l0_0.length co30] 27 (0, 0)) BK35.out hb); have n6_ := Aside0.mk (Kd.R_below F47.out hb); have n7_ := Aside0.mk (Kd.S_below F59.out hb); have n8_ := Aside0.mk (Kd.S_below F79.out hb); have n9_ := Aside0.mk (Kd.R_below F86.out hb); clear HB BK3 F16 F24 F31 BK35 F47 F59 F79 F86; have HB := n0_; have BK3 := n1_; have F16 := n2_; have F24 := n3_; have F31 := n4_; have BK35 := n5_; have F47 := n6_; have F59 := n7_; have F79 := n8_; have F86 := n9_; clear n0_ n1_ n2_ n3_ n4_ n5_ n6_ n7_ n8_ n9_; (try clear hb); (try clear hz_gb1_0); have hz_gb1_0 : w88.cell? ⟨gb1, 0, none⟩ = some (.slice A0_0 l0_0.length c0_0) := (blk_cell BK3.out 0).trans rfl; (try clear hf_gb1_0); have hf_gb1_0 := blk_frozen BK3.out 0; (try clear hz_gb33_0); have hz_gb33_0 : w88.cell? ⟨gb33, 0, none⟩ = some (.slice Ao29 l0_0.length co30) := (blk_cell BK35.out 0).trans rfl; (try clear hf_gb33_0); have hf_gb33_0 := blk_frozen BK35.out 0) | ((with_reducible refine gate_dst (N := 90) rfl ?_); (try (refine gate_guard (by rfl) ?_; dsimp only)); refine goesL_ (some 90) rfl rfl Try.func30 (by kernel_rfl) rfl #[.slice Ao45 (marks 1 r0.length).length co46, .int .i64 1] rfl (by (try simp only [List.map_toArray, List.map_cons, List.map_nil]); first | done | (rw [show (marks 1 r0.length).length = r0.length from marks_length _ _] <;> rfl) | rfl) ?_; (with_reducible refine (calls_below (laws_heldInt64S.calls k _ _ (marks 1 r0.length) 1 tm1 _ ?side1 ?side2 E_laws_heldInt64S_72.out)).mono ?_); (case side1 => first | (exact (Kd.R_reads' F47.out).2.2) | (rw [show (marks 1 r0.length).length = r0.length from marks_length _ _]; exact (Kd.R_reads' F47.out).2.2)); (case side2 => first | (exact (Kd.R_reads' F47.out).2.1) | (rw [show (marks 1 r0.length).length = r0.length from marks_length _ _]; exact (Kd.R_reads' F47.out).2.1)); rintro e w90 ⟨rfl, hb⟩; refine ⟨_, rfl, ?_⟩; have Z91 : Aside0 (w88.heap.size ≤ w90.heap.size) := Aside0.mk (hb.size); have n0_ := Aside0.mk (below_then HB.out HB.out.size hb); have n1_ := Aside0.mk (blk_below (g := gb1) (o := .cells #[.slice A0_0 l0_0.length c0_0] 24 (0, 0)) BK3.out hb); have n2_ := Aside0.mk (Kd.S_below F16.out hb); have n3_ := Aside0.mk (Kd.R_below F24.out hb); have n4_ := Aside0.mk (Kd.S_below F31.out hb); have n5_ := Aside0.mk (blk_below (g := gb33) (o := .cells #[.slice Ao29 l0_0.length co30] 27 (0, 0)) BK35.out hb); have n6_ := Aside0.mk (Kd.R_below F47.out hb); have n7_ := Aside0.mk (Kd.S_below F59.out hb); have n8_ := Aside0.mk (Kd.S_below F79.out hb); have n9_ := Aside0.mk (Kd.R_below F86.out hb); clear HB BK3 F16 F24 F31 BK35 F47 F59 F79 F86; have HB := n0_; have BK3 := n1_; have F16 := n2_; have F24 := n3_; have F31 := n4_; have BK35 := n5_; have F47 := n6_; have F59 := n7_; have F79 := n8_; have F86 := n9_; clear n0_ n1_ n2_ n3_ n4_ n5_ n6_ n7_ n8_ n9_; (try clear hb); (try clear hz_gb1_0); have hz_gb1_0 : w90.cell? ⟨gb1, 0, none⟩ = some (.slice A0_0 l0_0.length c0_0) := (blk_cell BK3.out 0).trans rfl; (try clear hf_gb1_0); have hf_gb1_0 := blk_frozen BK3.out 0; (try clear hz_gb33_0); have hz_gb33_0 : w90.cell? ⟨gb33, 0, none⟩ = some (.slice Ao29 l0_0.length co30) := (blk_cell BK35.out 0).trans rfl; (try clear hf_gb33_0); have hf_gb33_0 := blk_frozen BK35.out 0))
  go_ret
  exact ⟨rfl, HB.out⟩

theorem laws_FnExactLengthsOf.good_of (A0_0 : Option Addr) (c0_0 : Nat) (l0_0 : List (List Int)) (tsz0 : Int) (r0 : List Int) (r1 : Int) (tm0 : Int) (tm1 : Int) (w : World) (hr0_0 : Kd.C (Kd.slice 2 (Kd.int .i64)) w A0_0 l0_0.length l0_0) (hc0_0 : l0_0.length ≤ c0_0) (D_tsz0 : decide (tsz0 < 0) = false) (E_laws_szGame_8_h : Ev (fun k => laws_szGame.f k l0_0 1048576) (tsz0)) (E_laws_toGame_11_h : Ev (fun k => laws_toGame.f k l0_0) (l0_0)) (E_spec_LengthsOf_19_h : Ev (fun k => spec_LengthsOf.f k l0_0) ((r0, r1))) (E_impl_LengthsOf_42_h : Ev (fun k => impl_LengthsOf.f k l0_0) ((r0, r1))) (E_laws_eqInt64S_50_h : Ev (fun k => laws_eqInt64S.f k r0 r0) (true)) (E_laws_eqGame_62_h : Ev (fun k => laws_eqGame.f k l0_0 l0_0) (true)) (D_tm0 : decide (tm0 < 0) = false) (HM1_F31_h : 1 + total l0_0 < 4611686018427387904) (HM2_F31_h : l0_0.length < 4611686018427387904) (tm0_eq_h : 1 + total l0_0 = tm0) (D_tm1 : decide (tm1 < 0) = false) (E_laws_markInt64S_69_h : Ev (fun k => laws_markInt64S.f k r0 1) ((tm1, marks 1 r0.length))) (E_laws_heldInt64S_72_h : Ev (fun k => laws_heldInt64S.f k (marks 1 r0.length) 1) (tm1)) :
    Calls Try.prog 13 #[.agg #[.slice A0_0 l0_0.length c0_0]] w fun e w' => e = .returned (.bool true) ∧ Below w.heap.size w w' := by
  obtain ⟨k0, e0⟩ := E_laws_szGame_8_h
  obtain ⟨k1, e1⟩ := E_laws_toGame_11_h
  obtain ⟨k2, e2⟩ := E_spec_LengthsOf_19_h
  obtain ⟨k3, e3⟩ := E_impl_LengthsOf_42_h
  obtain ⟨k4, e4⟩ := E_laws_eqInt64S_50_h
  obtain ⟨k5, e5⟩ := E_laws_eqGame_62_h
  obtain ⟨k6, e6⟩ := E_laws_markInt64S_69_h
  obtain ⟨k7, e7⟩ := E_laws_heldInt64S_72_h
  exact laws_FnExactLengthsOf.good (k0 + k1 + k2 + k3 + k4 + k5 + k6 + k7) A0_0 c0_0 l0_0 tsz0 r0 r1 tm0 tm1 w hr0_0 hc0_0 D_tsz0 (e0 _ (by omega)) (e1 _ (by omega)) (e2 _ (by omega)) (e3 _ (by omega)) (e4 _ (by omega)) (e5 _ (by omega)) D_tm0 HM1_F31_h HM2_F31_h tm0_eq_h D_tm1 (e6 _ (by omega)) (e7 _ (by omega))

set_option maxHeartbeats 16000000 in
set_option maxRecDepth 100000 in
theorem laws_FnExactLengthsOf.early0 (k : Nat) (A0_0 : Option Addr) (c0_0 : Nat) (l0_0 : List (List Int)) (tsz0 : Int) (w : World) (hr0_0 : Kd.C (Kd.slice 2 (Kd.int .i64)) w A0_0 l0_0.length l0_0) (hc0_0 : l0_0.length ≤ c0_0) (D_tsz0 : decide (tsz0 < 0) = true) (E_laws_szGame_8_h : laws_szGame.f k l0_0 1048576 = some tsz0) :
    Calls Try.prog 13 #[.agg #[.slice A0_0 l0_0.length c0_0]] w fun e w' => e = .returned (.bool true) ∧ Below w.heap.size w w' := by
  have HR0_0 := Aside0.mk hr0_0
  have HC0_0 := Aside0.mk hc0_0
  clear hr0_0 hc0_0
  have E_laws_szGame_8 := Aside0.mk E_laws_szGame_8_h
  clear E_laws_szGame_8_h
  have hu24 := Try.underlying24
  have HB := Aside0.mk (Below.refl w.heap.size w)
  go_enter Try.func13, Try.ntmps13
  go_wp2_with (first | ((with_reducible refine gate_dst (N := 1) rfl ?_); (try (refine gate_guard (by rfl) ?_; dsimp only)); refine box_event ?hg (N := 1) ?hd (cs := #[.slice A0_0 l0_0.length c0_0]) (t := 24) ?hr ?_; (case hd => rfl); (case hg => rfl); (case hr => first | (go_simp; done) | (go_simp; rfl)); intro gb1 hg w2 hbox hb; have Z5 : Aside0 (w.heap.size ≤ w2.heap.size) := Aside0.mk (hb.size); have BK3 := Aside0.mk hbox; have GP4 := Aside0.mk hg; have Z6 : Aside0 (gb1 < w2.heap.size) := Aside0.mk (blk_lt hbox); have n0_ := Aside0.mk (below_then HB.out HB.out.size hb); clear HB; have HB := n0_; clear n0_; clear hb hbox hg; (try clear hz_gb1_0); have hz_gb1_0 : w2.cell? ⟨gb1, 0, none⟩ = some (.slice A0_0 l0_0.length c0_0) := (blk_cell BK3.out 0).trans rfl; (try clear hf_gb1_0); have hf_gb1_0 := blk_frozen BK3.out 0) | ((with_reducible refine gate_dst (N := 16) rfl ?_); (try (refine gate_guard (by rfl) ?_; dsimp only)); refine goesL_ (some 16) rfl rfl Try.func15 (by kernel_rfl) rfl #[.agg #[.slice A0_0 l0_0.length c0_0], .int .i64 1048576] rfl (by (try simp only [List.map_toArray, List.map_cons, List.map_nil]); first | done | rfl) ?_; (with_reducible refine (laws_szGame.calls k _ _ l0_0 1048576 tsz0 _ ?side1 ?side2 E_laws_szGame_8.out).mono ?_); (case side1 => exact Kd.C_below HR0_0.out HB.out); (case side2 => exact HC0_0.out); rintro e w7 ⟨rfl, hb⟩; refine ⟨_, rfl, ?_⟩; have Z9 : Aside0 (w2.heap.size ≤ w7.heap.size) := Aside0.mk (hb.size); have n0_ := Aside0.mk (below_then HB.out HB.out.size hb); have n1_ := Aside0.mk (blk_below (g := gb1) (o := .cells #[.slice A0_0 l0_0.length c0_0] 24 (0, 0)) BK3.out hb); clear HB BK3; have HB := n0_; have BK3 := n1_; clear n0_ n1_; (try clear hb); (try clear hz_gb1_0); have hz_gb1_0 : w7.cell? ⟨gb1, 0, none⟩ = some (.slice A0_0 l0_0.length c0_0) := (blk_cell BK3.out 0).trans rfl; (try clear hf_gb1_0); have hf_gb1_0 := blk_frozen BK3.out 0))
  go_ret
  exact ⟨rfl, HB.out⟩

theorem laws_FnExactLengthsOf.early0_of (A0_0 : Option Addr) (c0_0 : Nat) (l0_0 : List (List Int)) (tsz0 : Int) (w : World) (hr0_0 : Kd.C (Kd.slice 2 (Kd.int .i64)) w A0_0 l0_0.length l0_0) (hc0_0 : l0_0.length ≤ c0_0) (D_tsz0 : decide (tsz0 < 0) = true) (E_laws_szGame_8_h : Ev (fun k => laws_szGame.f k l0_0 1048576) (tsz0)) :
    Calls Try.prog 13 #[.agg #[.slice A0_0 l0_0.length c0_0]] w fun e w' => e = .returned (.bool true) ∧ Below w.heap.size w w' := by
  obtain ⟨k0, e0⟩ := E_laws_szGame_8_h
  exact laws_FnExactLengthsOf.early0 (k0) A0_0 c0_0 l0_0 tsz0 w hr0_0 hc0_0 D_tsz0 (e0 _ (by omega))

end Go.Proofs.Ytlicbcaloebhlaa.PX

/- The program's IsGame and the reference's l01Is tell the same, on every list of lists of sizes that fit in memory. -/
namespace Go.Proofs.Ytlicbcaloebhlaa.PX
open Go.RowKit Go.Proofs.YtlicbcaloebhlaaW.PrintWords Go.Proofs.YtlicbcaloebhlaaW.PrintLast Go.Proofs.YtlicbcaloebhlaaW.PrintMore
attribute [local go_sem] max2_int min2_int max_two min_two max_three min_three max_four min_four
set_option linter.unusedVariables false
set_option linter.unusedSimpArgs false
def okRow (last n : Int) : List Int → Bool
  | [] => true
  | x :: r => decide (last < x) && (decide (x < n) && okRow x n r)
def okRows (n : Int) : Int → List (List Int) → Bool
  | _, [] => true
  | p, row :: rest => okRow p n row && okRows n (p + 1) rest
def isGame (g : List (List Int)) : Bool := decide (1 ≤ g.length) && (decide (g.length ≤ 40) && okRows g.length 0 g)
theorem is_row (g : List (List Int)) (row : List Int) (p : Nat) (hp : g[p]? = some row) (hl : row.length < 4611686018427387904) (hg : g.length < 4611686018427387904) (v : Bool)
    (hv : Ev (fun k => spec_l01Is.l0 k (g.length : Int) ((p + 1 : Nat) : Int) g) v) (d : Nat) :
    ∀ (i : Nat) (last : Int), i + d = row.length → Ev (fun k => spec_l01Is.l1 k (g.length : Int) (p : Int) last (i : Int) g) (okRow last g.length (row.drop i) && v) := by
  have hpl : p < g.length := (List.getElem?_eq_some_iff.1 hp).1
  have hr : rd_L1 g (p : Int) = row := by rw [rdL1_nat]; exact getD_of hp
  induction d with
  | zero =>
    intro i last hd
    have e : row.drop i = [] := List.drop_eq_nil_of_le (by omega)
    rw [e]
    refine Ev.step (fun k => ?_) (r := v) (show Ev _ _ from hv)
    simp only [spec_l01Is.l1]
    rw [if_pos (by omega), if_pos (by omega), hr, if_neg (by omega), wrapS (by omega) (by omega), cast_succ]
  | succ d ih =>
    intro i last hd
    obtain ⟨x, hx⟩ := get_some (xs := row) (i := i) (by omega)
    have hrx : rd row (i : Int) = x := by rw [rd_nat]; exact getD_of hx
    have h1 : ∀ k, spec_l01Is.l1 (k + 1) (g.length : Int) (p : Int) last (i : Int) g = (if x ≤ last then (some false) else (if x ≥ (g.length : Int) then (some false) else (spec_l01Is.l1 k (g.length : Int) (p : Int) x ((i + 1 : Nat) : Int) g))) := fun k => by
      simp only [spec_l01Is.l1]
      rw [if_pos (by omega), if_pos (by omega), hr, if_pos (by omega), if_pos (by omega), hrx, wrapS (by omega) (by omega), cast_succ]
    rw [drop_of hx]
    simp only [okRow]
    by_cases c1 : x ≤ last
    · have : (decide (last < x)) = false := by simp; omega
      rw [this]
      exact Ev.step (fun k => by rw [h1, if_pos c1]) (Ev.now false)
    · have : (decide (last < x)) = true := by simp; omega
      rw [this]
      by_cases c2 : x ≥ (g.length : Int)
      · have : (decide (x < (g.length : Int))) = false := by simp; omega
        rw [this]
        exact Ev.step (fun k => by rw [h1, if_neg c1, if_pos c2]) (Ev.now false)
      · have : (decide (x < (g.length : Int))) = true := by simp; omega
        rw [this]
        simp only [Bool.true_and]
        exact Ev.step (fun k => by rw [h1, if_neg c1, if_neg c2]) (ih (i + 1) x (by omega))
theorem is_rows (g : List (List Int)) (hl : ∀ row ∈ g, row.length < 4611686018427387904) (hg : g.length < 4611686018427387904) (d : Nat) :
    ∀ p : Nat, p + d = g.length → Ev (fun k => spec_l01Is.l0 k (g.length : Int) (p : Int) g) (okRows g.length p (g.drop p)) := by
  induction d with
  | zero =>
    intro p hd
    rw [List.drop_eq_nil_of_le (by omega)]
    refine Ev.step (f := fun _ => some true) (fun k => ?_) (Ev.now true)
    simp only [spec_l01Is.l0]; rw [if_neg (by omega)]
  | succ d ih =>
    intro p hd
    obtain ⟨row, hp⟩ := get_some (xs := g) (i := p) (by omega)
    rw [drop_of hp]
    simp only [okRows, cast_succ]
    refine Ev.step (fun k => ?_) (is_row g row p hp (hl row (List.mem_of_getElem? hp)) hg _ (ih (p + 1) (by omega)) row.length 0 (p : Int) (by omega))
    simp only [spec_l01Is.l0]; rw [if_pos (by omega)]; rfl
theorem l01Is_ev (g : List (List Int)) (hl : ∀ row ∈ g, row.length < 4611686018427387904) (hg : g.length < 4611686018427387904) : Ev (fun k => spec_l01Is.f k g) (isGame g) := by
  have hin : spec_l01In.f (g.length : Int) 1 40 = some (decide (1 ≤ g.length) && decide (g.length ≤ 40)) := by
    unfold spec_l01In.f
    by_cases h : (g.length : Int) ≥ 1
    · rw [if_pos h]
      have : decide (1 ≤ g.length) = true := decide_eq_true (by omega)
      have e2 : decide ((g.length : Int) ≤ 40) = decide (g.length ≤ 40) := by rw [decide_eq_decide]; omega
      rw [this, Bool.true_and, e2]
    · rw [if_neg h]
      have : decide (1 ≤ g.length) = false := decide_eq_false (by omega)
      rw [this]; rfl
  unfold isGame
  by_cases h1 : (decide (1 ≤ g.length) && decide (g.length ≤ 40)) = true
  · have h2 : (decide (1 ≤ g.length) = true) ∧ (decide (g.length ≤ 40) = true) := by simpa using h1
    rw [h2.1, h2.2]
    simp only [Bool.true_and]
    refine Ev.congr (fun k => ?_) (is_rows g hl hg g.length 0 (by omega))
    unfold spec_l01Is.f spec_l01N.f
    simp only [Option.bind_some, hin]
    rw [if_pos h1]; rfl
  · have h2 : (decide (1 ≤ g.length) && (decide (g.length ≤ 40) && okRows (g.length : Int) 0 g)) = false := by
      cases a : decide (1 ≤ g.length) <;> cases b : decide (g.length ≤ 40) <;> simp_all
    rw [h2]
    refine Ev.congr (f := fun _ => some false) (fun k => ?_) (Ev.now false)
    unfold spec_l01Is.f spec_l01N.f
    simp only [Option.bind_some, hin]
    rw [if_neg h1]
theorem rising_loop (xs : List Int) (lo hi : Int) (hl : xs.length < 4611686018427387904) (d : Nat) :
    ∀ (i : Nat) (last : Int), i + d = xs.length → (if i = 0 then last = lo - 1 else xs[i - 1]? = some last) → lo - 1 ≤ last → Ev (fun k => impl_isRising.l0 k xs lo hi xs (xs.length : Int) (i : Int)) (okRow last (hi + 1) (xs.drop i)) := by
  have hw : ∀ a b c : Int, impl_within.f a b c = some (decide (b ≤ a) && decide (a ≤ c)) := by
    intro a b c
    unfold impl_within.f
    by_cases h : b ≤ a <;> simp [h]
  induction d with
  | zero =>
    intro i last hd _ _
    rw [List.drop_eq_nil_of_le (by omega)]
    refine Ev.step (f := fun _ => some true) (fun k => ?_) (Ev.now true)
    simp only [impl_isRising.l0]; rw [if_neg (by omega)]
  | succ d ih =>
    intro i last hd hlast hge
    obtain ⟨x, hx⟩ := get_some (xs := xs) (i := i) (by omega)
    have hrx : rd xs (i : Int) = x := by rw [rd_nat]; exact getD_of hx
    rw [drop_of hx]
    simp only [okRow]
    have hn := ih (i + 1) x (by omega) (by rw [if_neg (by omega)]; simpa using hx)
    by_cases h0 : i = 0
    · subst h0
      rw [if_pos rfl] at hlast
      subst hlast
      have h1 : ∀ k, impl_isRising.l0 (k + 1) xs lo hi xs (xs.length : Int) ((0 : Nat) : Int) = (if (decide (lo ≤ x) && decide (x ≤ hi)) = true then (impl_isRising.l0 k xs lo hi xs (xs.length : Int) ((0 + 1 : Nat) : Int)) else (some false)) := fun k => by
        simp only [impl_isRising.l0]
        rw [if_pos (by omega), if_pos (by omega), if_pos (by omega), hrx, hw]
        simp only [Option.bind_some]
        rw [if_neg (show ¬ (((0 : Nat) : Int) > 0) by omega), wrapS (by omega) (by omega), cast_succ]
      by_cases c : (decide (lo ≤ x) && decide (x ≤ hi)) = true
      · have c' : lo ≤ x ∧ x ≤ hi := by simpa using c
        have e1 : decide (lo - 1 < x) = true := by simp; omega
        have e2 : decide (x < hi + 1) = true := by simp; omega
        rw [e1, e2]
        simp only [Bool.true_and]
        exact Ev.step (fun k => by rw [h1, if_pos c]) (hn (by omega))
      · have e : (decide (lo - 1 < x) && (decide (x < hi + 1) && okRow x (hi + 1) (xs.drop (0 + 1)))) = false := by
          cases a : decide (lo - 1 < x) <;> cases b : decide (x < hi + 1) <;> simp_all <;> omega
        rw [e]
        exact Ev.step (fun k => by rw [h1, if_neg c]) (Ev.now false)
    · rw [if_neg h0] at hlast
      have hw1 : wrap64 ((i : Int) - 1) = ((i - 1 : Nat) : Int) := by rw [wrapS (by omega) (by omega)]; omega
      have hrl : rd xs ((i - 1 : Nat) : Int) = last := by
        rw [rd_nat]
        exact getD_of hlast
      have h1 : ∀ k, impl_isRising.l0 (k + 1) xs lo hi xs (xs.length : Int) (i : Int) = (if (decide (lo ≤ x) && decide (x ≤ hi)) = true then (if x ≤ last then (some false) else (impl_isRising.l0 k xs lo hi xs (xs.length : Int) ((i + 1 : Nat) : Int))) else (some false)) := fun k => by
        simp only [impl_isRising.l0]
        rw [if_pos (by omega), if_pos (by omega), if_pos (by omega), hrx, hw]
        simp only [Option.bind_some]
        rw [if_pos (show ((i : Int) > 0) by omega), hw1, if_pos (show (0 : Int) ≤ ((i - 1 : Nat) : Int) by omega), if_pos (show ((i - 1 : Nat) : Int) < (xs.length : Int) by omega), hrl, wrapS (by omega) (by omega), cast_succ]
      by_cases c1 : x ≤ last
      · have e : decide (last < x) = false := by simp; omega
        rw [e]
        refine Ev.step (f := fun _ => some false) (fun k => ?_) (Ev.now false)
        rw [h1, if_pos c1]; split <;> rfl
      · have e : decide (last < x) = true := by simp; omega
        rw [e]
        simp only [Bool.true_and]
        by_cases c2 : x ≤ hi
        · have e2 : decide (x < hi + 1) = true := by simp; omega
          rw [e2]
          simp only [Bool.true_and]
          exact Ev.step (fun k => by rw [h1, if_pos (by simp; omega), if_neg c1]) (hn (by omega))
        · have e2 : decide (x < hi + 1) = false := by simp; omega
          rw [e2]
          exact Ev.step (fun k => by rw [h1, if_neg (by simp; omega)]) (Ev.now false)
theorem rising_ev (xs : List Int) (lo hi : Int) (hl : xs.length < 4611686018427387904) : Ev (fun k => impl_isRising.f k xs lo hi) (okRow (lo - 1) (hi + 1) xs) := by
  have := rising_loop xs lo hi hl xs.length 0 (lo - 1) (by omega) (by simp) (by omega)
  exact this
theorem isg_loop (g : List (List Int)) (hl : ∀ row ∈ g, row.length < 4611686018427387904) (hg : g.length < 4611686018427387904) (d : Nat) :
    ∀ p : Nat, p + d = g.length → Ev (fun k => impl_IsGame.l0 k (g.length : Int) g (g.length : Int) (p : Int)) (okRows g.length p (g.drop p) && (decide (1 ≤ g.length) && decide (g.length ≤ 40))) := by
  induction d with
  | zero =>
    intro p hd
    rw [List.drop_eq_nil_of_le (by omega)]
    refine Ev.step (f := fun _ => some (decide (1 ≤ g.length) && decide (g.length ≤ 40))) (fun k => ?_) (by simp only [okRows, Bool.true_and]; exact Ev.now _)
    simp only [impl_IsGame.l0]; rw [if_neg (by omega)]
    unfold impl_within.f
    by_cases h : (1 : Int) ≤ (g.length : Int)
    · rw [if_pos h]
      have e : decide (1 ≤ g.length) = true := decide_eq_true (by omega)
      rw [e]; simp; omega
    · rw [if_neg h]
      have e : decide (1 ≤ g.length) = false := decide_eq_false (by omega)
      rw [e]; simp
  | succ d ih =>
    intro p hd
    obtain ⟨row, hp⟩ := get_some (xs := g) (i := p) (by omega)
    have hr : rd_L1 g (p : Int) = row := by rw [rdL1_nat]; exact getD_of hp
    rw [drop_of hp]
    simp only [okRows, cast_succ]
    have hrow := rising_ev row (wrap64 ((p : Int) + 1)) (wrap64 ((g.length : Int) - 1)) (hl row (List.mem_of_getElem? hp))
    rw [wrapS (by omega) (by omega), wrapS (by omega) (by omega), show (p : Int) + 1 - 1 = (p : Int) by omega, show (g.length : Int) - 1 + 1 = (g.length : Int) by omega] at hrow
    have hn := ih (p + 1) (by omega)
    refine Ev.step (f := fun k => (impl_isRising.f k row ((p : Int) + 1) ((g.length : Int) - 1)).bind fun t => if t = true then (impl_IsGame.l0 k (g.length : Int) g (g.length : Int) ((p + 1 : Nat) : Int)) else (some false)) (fun k => ?_) (Ev.bind hrow ?_)
    · simp only [impl_IsGame.l0]
      rw [if_pos (by omega), if_pos (by omega), if_pos (by omega), hr, wrapS (i := (p : Int) + 1) (by omega) (by omega), wrapS (i := (g.length : Int) - 1) (by omega) (by omega), cast_succ]
    · cases okRow (p : Int) (g.length : Int) row with
      | true => simp only [Bool.true_and]; exact Ev.congr (fun k => by simp) hn
      | false => exact Ev.congr (f := fun _ => some false) (fun k => by simp) (Ev.now false)
theorem IsGame_ev (g : List (List Int)) (hl : ∀ row ∈ g, row.length < 4611686018427387904) (hg : g.length < 4611686018427387904) : Ev (fun k => impl_IsGame.f k g) (isGame g) := by
  have := isg_loop g hl hg g.length 0 (by omega)
  have e : isGame g = (okRows (g.length : Int) ((0 : Nat) : Int) (g.drop 0) && (decide (1 ≤ g.length) && decide (g.length ≤ 40))) := by
    unfold isGame
    rw [List.drop_zero]
    cases decide (1 ≤ g.length) <;> cases decide (g.length ≤ 40) <;> simp
  rw [e]
  exact this

end Go.Proofs.Ytlicbcaloebhlaa.PX

/- Values of the places of a game, from the last place to the first; what a game that is told to be one gives (no condition). -/
namespace Go.Proofs.Ytlicbcaloebhlaa.PX
open Go.RowKit Go.Proofs.YtlicbcaloebhlaaW.PrintWords Go.Proofs.YtlicbcaloebhlaaW.PrintLast Go.Proofs.YtlicbcaloebhlaaW.PrintMore
attribute [local go_sem] max2_int min2_int max_two min_two max_three min_three max_four min_four
set_option linter.unusedVariables false
set_option linter.unusedSimpArgs false
theorem okRow_mem {n : Int} : ∀ {xs : List Int} {last : Int}, okRow last n xs = true → ∀ q ∈ xs, last < q ∧ q < n
  | [], _, _, q, h => by simp at h
  | x :: r, last, h, q, hq => by
    simp only [okRow, Bool.and_eq_true, decide_eq_true_eq] at h
    rcases List.mem_cons.1 hq with rfl | hq
    · exact ⟨h.1, h.2.1⟩
    · have := okRow_mem h.2.2 q hq
      exact ⟨by omega, this.2⟩
theorem okRow_len {n : Int} : ∀ {xs : List Int} {last : Int}, okRow last n xs = true → last < n → (xs.length : Int) ≤ n - 1 - last
  | [], last, _, h => by simp only [List.length_nil]; omega
  | x :: r, last, h, hl => by
    simp only [okRow, Bool.and_eq_true, decide_eq_true_eq] at h
    have := okRow_len h.2.2 h.2.1
    simp only [List.length_cons]
    omega
theorem okRows_get {n : Int} : ∀ {g : List (List Int)} {p : Int} {i : Nat} {row : List Int}, okRows n p g = true → g[i]? = some row → okRow (p + i) n row = true
  | [], _, _, _, _, h => by simp at h
  | x :: r, p, i, row, h, hi => by
    simp only [okRows, Bool.and_eq_true] at h
    cases i with
    | zero =>
      simp only [List.getElem?_cons_zero, Option.some.injEq] at hi
      subst hi
      simpa using h.1
    | succ i =>
      simp only [List.getElem?_cons_succ] at hi
      have := okRows_get h.2 hi
      rw [show p + ((i + 1 : Nat) : Int) = p + 1 + i by omega]
      exact this
theorem game_row {g : List (List Int)} (h : isGame g = true) {p : Nat} {row : List Int} (hp : g[p]? = some row) :
    (∀ q ∈ row, (p : Int) < q ∧ q < g.length) ∧ row.length ≤ 40 := by
  simp only [isGame, Bool.and_eq_true, decide_eq_true_eq] at h
  have hr := okRows_get h.2.2 hp
  have hl : p < g.length := (List.getElem?_eq_some_iff.1 hp).1
  have h1 := okRow_mem hr
  have h2 := okRow_len hr (by omega)
  exact ⟨fun q hq => ⟨by have := h1 q hq; omega, (h1 q hq).2⟩, by omega⟩
theorem game_len {g : List (List Int)} (h : isGame g = true) : 1 ≤ g.length ∧ g.length ≤ 40 := by
  simp only [isGame, Bool.and_eq_true, decide_eq_true_eq] at h
  exact ⟨h.1, h.2.1⟩
/-- The values of the last d places, the first of them first. -/
def backAt {α : Type} (sem : List α → α) (z : α) (g : List (List Int)) : Nat → List α
  | 0 => []
  | d + 1 => sem ((g.getD (g.length - (d + 1)) []).map fun q => (backAt sem z g d).getD (q.toNat - (g.length - d)) z) :: backAt sem z g d
theorem backAt_length {α : Type} (sem : List α → α) (z : α) (g : List (List Int)) : ∀ d, (backAt sem z g d).length = d
  | 0 => rfl
  | d + 1 => by simp only [backAt, List.length_cons, backAt_length sem z g d]
def backs {α : Type} (sem : List α → α) (z : α) (g : List (List Int)) : List α := backAt sem z g g.length
/-- What the places after p lead a row to. -/
def seen {α : Type} (sem : List α → α) (z : α) (g : List (List Int)) (p d : Nat) (row : List Int) : List α := row.map fun q => (backAt sem z g d).getD (q.toNat - (p + 1)) z
theorem backAt_succ {α : Type} (sem : List α → α) (z : α) (g : List (List Int)) (p d : Nat) (row : List Int) (hg : g.length = p + 1 + d) (hp : g[p]? = some row) :
    backAt sem z g (d + 1) = sem (seen sem z g p d row) :: backAt sem z g d := by
  simp only [backAt, seen]
  rw [show g.length - (d + 1) = p by omega, show g.length - d = p + 1 by omega, getD_of hp]
theorem arr_get {α : Type} (z : α) (m : Nat) (bs : List α) (q : Nat) (h : m ≤ q) : (List.replicate m z ++ bs).getD q z = bs.getD (q - m) z := by
  rw [List.getD_eq_getElem?_getD, List.getD_eq_getElem?_getD, List.getElem?_append_right (by simpa using h), List.length_replicate]
theorem arr_set {α : Type} (z v : α) (p : Nat) (bs : List α) : (List.replicate (p + 1) z ++ bs).set p v = List.replicate p z ++ v :: bs := by
  rw [List.replicate_succ', List.append_assoc, List.set_append_right _ _ (by simp)]
  simp
/-- What holds of every value of the later places holds of what a row is led to. -/
theorem seen_all {α : Type} (sem : List α → α) (z : α) (Q : α → Prop) (g : List (List Int)) (p d : Nat) (row : List Int) (hg : g.length = p + 1 + d)
    (hq : ∀ q ∈ row, (p : Int) < q ∧ q < g.length) (hb : ∀ x ∈ backAt sem z g d, Q x) : ∀ x ∈ seen sem z g p d row, Q x := by
  intro x hx
  obtain ⟨q, hm, rfl⟩ := List.mem_map.1 hx
  have h := hq q hm
  have hl : q.toNat - (p + 1) < (backAt sem z g d).length := by rw [backAt_length]; omega
  rw [List.getD_eq_getElem?_getD, List.getElem?_eq_getElem hl]
  exact hb _ (List.getElem_mem hl)
theorem backAt_all {α : Type} (sem : List α → α) (z : α) (Q : α → Prop) (g : List (List Int)) (h : isGame g = true) (hs : ∀ xs : List α, xs.length ≤ 40 → (∀ x ∈ xs, Q x) → Q (sem xs)) :
    ∀ d, d ≤ g.length → ∀ x ∈ backAt sem z g d, Q x
  | 0, _, x, hx => by simp [backAt] at hx
  | d + 1, hd, x, hx => by
    obtain ⟨p, hp⟩ : ∃ p, g.length = p + 1 + d := ⟨g.length - (d + 1), by omega⟩
    obtain ⟨row, hr⟩ := get_some (xs := g) (i := p) (by omega)
    have ih := backAt_all sem z Q g h hs d (by omega)
    have hw := game_row h hr
    rw [backAt_succ sem z g p d row hp hr] at hx
    rcases List.mem_cons.1 hx with rfl | hx
    · exact hs _ (by simp only [seen, List.length_map]; exact hw.2) (seen_all sem z Q g p d row hp hw.1 ih)
    · exact ih x hx

end Go.Proofs.Ytlicbcaloebhlaa.PX

/- The program's 'backward' tells the values of the places, whatever tells a place's value from those it leads to (no condition). -/
namespace Go.Proofs.Ytlicbcaloebhlaa.PX
open Go.RowKit Go.Proofs.YtlicbcaloebhlaaW.PrintWords Go.Proofs.YtlicbcaloebhlaaW.PrintLast Go.Proofs.YtlicbcaloebhlaaW.PrintMore
attribute [local go_sem] max2_int min2_int max_two min_two max_three min_three max_four min_four
set_option linter.unusedVariables false
set_option linter.unusedSimpArgs false
/-- A length as the program's functions return it. -/
def pv (v : S69) : Bool × Int := (v.f0, v.f1)
theorem rdT69_nat (xs : List S69) (i : Nat) : rd_T69 xs (i : Int) = xs.getD i z69 := by unfold rd_T69; rfl
theorem backL_inner (V : Nat → List S69 → Option (Bool × Int)) (sem : List S69 → S69) (g : List (List Int)) (p d : Nat) (row : List Int) (v : S69) (r : List S69 × Int) (hg : g.length = p + 1 + d) (h40 : g.length ≤ 40)
    (hrow : g[p]? = some row) (hq : ∀ q ∈ row, (p : Int) < q ∧ q < g.length) (hl : row.length ≤ 40) (hV : Ev (fun k => V k (seen sem z69 g p d row)) (pv v))
    (next : Ev (fun k => impl_length.l0 V k (List.replicate p z69 ++ v :: backAt sem z69 g d) ((p : Int) - 1) g) r) (e : Nat) : ∀ j : Nat, j + e = row.length →
    Ev (fun k => impl_length.l1 V k (List.replicate (p + 1) z69 ++ backAt sem z69 g d) (p : Int) (seen sem z69 g p d (row.take j)) row (row.length : Int) (j : Int) g) r := by
  induction e with
  | zero =>
    intro j hj
    have ej : j = row.length := by omega
    subst ej
    rw [List.take_length]
    refine Ev.step (fun k => by simp only [impl_length.l1]; rw [if_neg (by omega)]) (Ev.bind hV ?_)
    refine Ev.congr (fun k => ?_) next
    · rw [if_pos (by omega), if_pos (by simp only [List.length_append, List.length_replicate]; omega), Int.toNat_natCast, arr_set, wrapS (by omega) (by omega)]
      rfl
  | succ e ih =>
    intro j hj
    obtain ⟨q, hjq⟩ := get_some (xs := row) (i := j) (by omega)
    have hm := hq q (List.mem_of_getElem? hjq)
    have eq1 : rd row (j : Int) = q := by rw [rd_nat, getD_of hjq]
    have e2 : rd_T69 (List.replicate (p + 1) z69 ++ backAt sem z69 g d) q = (backAt sem z69 g d).getD (q.toNat - (p + 1)) z69 := by
      obtain ⟨n, rfl⟩ : ∃ n : Nat, q = (n : Int) := ⟨q.toNat, by omega⟩
      rw [rdT69_nat, arr_get _ _ _ _ (by omega), Int.toNat_natCast]
    refine Ev.step (fun k => ?_) (ih (j + 1) (by omega))
    simp only [impl_length.l1]
    rw [if_pos (by omega), if_pos (by omega), if_pos (by omega), eq1, if_pos (by omega), if_pos (by simp only [List.length_append, List.length_replicate, backAt_length]; omega),
      if_pos (by simp only [seen, List.length_map, List.length_take]; omega), e2, wrapS (by omega) (by omega), cast_succ]
    congr 1
    simp only [seen]
    rw [List.take_add_one, hjq]
    first | (simp; done) | (simp; rfl)
theorem backL_loop (V : Nat → List S69 → Option (Bool × Int)) (sem : List S69 → S69) (Q : S69 → Prop) (g : List (List Int)) (h : isGame g = true)
    (hV : ∀ xs : List S69, xs.length ≤ 40 → (∀ x ∈ xs, Q x) → Ev (fun k => V k xs) (pv (sem xs)) ∧ Q (sem xs)) :
    ∀ (m d : Nat), g.length = m + d → Ev (fun k => impl_length.l0 V k (List.replicate m z69 ++ backAt sem z69 g d) ((m : Int) - 1) g) (backs sem z69 g, 0)
  | 0, d, hg => by
    refine Ev.step (f := fun _ => some (backs sem z69 g, 0)) (fun k => ?_) (Ev.now _)
    simp only [impl_length.l0]
    rw [if_neg (by omega), backs, show g.length = d by omega]
    rfl
  | p + 1, d, hg => by
    obtain ⟨row, hr⟩ := get_some (xs := g) (i := p) (by omega)
    have hw := game_row h hr
    have hn := game_len h
    have hall := backAt_all sem z69 Q g h (fun xs h1 h2 => (hV xs h1 h2).2) d (by omega)
    have hv := (hV (seen sem z69 g p d row) (by simp only [seen, List.length_map]; exact hw.2) (seen_all sem z69 Q g p d row hg hw.1 hall)).1
    have next := backL_loop V sem Q g h hV p (d + 1) (by omega)
    rw [backAt_succ sem z69 g p d row hg hr] at next
    refine Ev.step (fun k => ?_) (backL_inner V sem g p d row _ _ hg hn.2 hr hw.1 hw.2 hv next row.length 0 (by omega))
    simp only [impl_length.l0]
    rw [show ((p + 1 : Nat) : Int) - 1 = (p : Int) by omega, if_pos (by omega), if_pos (by omega), if_pos (by omega), rdL1_nat, getD_of hr]
    rfl
theorem backL_ev (V : Nat → List S69 → Option (Bool × Int)) (sem : List S69 → S69) (Q : S69 → Prop) (g : List (List Int)) (hl : ∀ row ∈ g, row.length < 4611686018427387904) (hg : g.length < 4611686018427387904)
    (hV : ∀ xs : List S69, xs.length ≤ 40 → (∀ x ∈ xs, Q x) → Ev (fun k => V k xs) (pv (sem xs)) ∧ Q (sem xs)) :
    Ev (fun k => impl_length.f V k g) (if isGame g = true then (backs sem z69 g, 0) else ([], 1)) := by
  have hi := IsGame_ev g hl hg
  by_cases h : isGame g = true
  · rw [if_pos h]
    rw [h] at hi
    have hn := game_len h
    have hb := backL_loop V sem Q g h hV g.length 0 (by omega)
    simp only [backAt, List.append_nil] at hb
    unfold impl_length.f
    refine Ev.bind hi (Ev.congr (fun k => ?_) hb)
    rw [if_pos rfl, if_pos (by omega), if_pos (by omega), Option.bind_some, List.length_replicate, Int.toNat_natCast, wrapS (by omega) (by omega)]
  · rw [if_neg h]
    have hf : isGame g = false := by simpa using h
    rw [hf] at hi
    unfold impl_length.f
    exact Ev.bind hi (Ev.congr (f := fun _ => some (([] : List S69), (1 : Int))) (fun k => by rw [if_neg (by decide)]) (Ev.now _))

end Go.Proofs.Ytlicbcaloebhlaa.PX

/- areNumbers, nim sums and the mex, of the program and of the reference: each comes to one plain value (no condition but sizes that fit). -/
namespace Go.Proofs.Ytlicbcaloebhlaa.PX
open Go.RowKit Go.Proofs.YtlicbcaloebhlaaW.PrintWords Go.Proofs.YtlicbcaloebhlaaW.PrintLast Go.Proofs.YtlicbcaloebhlaaW.PrintMore
attribute [local go_sem] max2_int min2_int max_two min_two max_three min_three max_four min_four
set_option linter.unusedVariables false
set_option linter.unusedSimpArgs false
def areNum (xs : List Int) : Bool := decide ((xs.length : Int) ≤ 1000) && !(xs.any fun x => decide (x < 0))
theorem areNum_le {xs : List Int} (h : areNum xs = true) : xs.length ≤ 1000 := by
  simp only [areNum, Bool.and_eq_true, decide_eq_true_eq] at h
  omega
theorem areNum_pos {xs : List Int} (h : areNum xs = true) : ∀ x ∈ xs, 0 ≤ x := by
  simp only [areNum, Bool.and_eq_true, Bool.not_eq_true', List.any_eq_false, decide_eq_true_eq] at h
  intro x hx
  have := h.2 x hx
  omega
theorem num_loop (xs : List Int) (hn : xs.length < 4611686018427387904) (d : Nat) : ∀ i : Nat, i + d = xs.length → Ev (fun k => spec_l01Numbers.l0 k xs (i : Int)) (decide ((xs.length : Int) ≤ 1000) && !((xs.drop i).any fun x => decide (x < 0))) := by
  induction d with
  | zero =>
    intro i hd
    rw [List.drop_eq_nil_of_le (by omega)]
    refine Ev.step (f := fun _ => some (decide ((xs.length : Int) ≤ 1000))) (fun k => ?_) (by simp only [List.any_nil, Bool.not_false, Bool.and_true]; exact Ev.now _)
    simp only [spec_l01Numbers.l0]; rw [if_neg (by omega)]
  | succ d ih =>
    intro i hd
    obtain ⟨x, hx⟩ := get_some (xs := xs) (i := i) (by omega)
    have hrx : rd xs (i : Int) = x := by rw [rd_nat]; exact getD_of hx
    rw [drop_of hx, List.any_cons]
    by_cases c : x < 0
    · rw [decide_eq_true c, Bool.true_or, Bool.not_true, Bool.and_false]
      refine Ev.step (f := fun _ => some false) (fun k => ?_) (Ev.now false)
      simp only [spec_l01Numbers.l0]; rw [if_pos (by omega), if_pos (by omega), hrx, if_pos c]
    · rw [decide_eq_false c, Bool.false_or]
      refine Ev.step (fun k => ?_) (ih (i + 1) (by omega))
      simp only [spec_l01Numbers.l0]; rw [if_pos (by omega), if_pos (by omega), hrx, if_neg c, wrapS (by omega) (by omega), cast_succ]
theorem num_ev (xs : List Int) (hn : xs.length < 4611686018427387904) : Ev (fun k => spec_l01Numbers.f k xs) (areNum xs) := num_loop xs hn xs.length 0 (by omega)
theorem are_ev (xs : List Int) : Ev (fun k => impl_areNumbers.f k xs) (areNum xs) := Ev.now _
/-- The nim sum. -/
def nimFrom (a : Int) : List Int → Int
  | [] => a
  | x :: r => nimFrom (Go.bits .xor .i64 a x) r

end Go.Proofs.Ytlicbcaloebhlaa.PX

/- The mex, of the program and of the reference: the least number that is missing. -/
namespace Go.Proofs.Ytlicbcaloebhlaa.PX
open Go.RowKit Go.Proofs.YtlicbcaloebhlaaW.PrintWords Go.Proofs.YtlicbcaloebhlaaW.PrintLast Go.Proofs.YtlicbcaloebhlaaW.PrintMore
attribute [local go_sem] max2_int min2_int max_two min_two max_three min_three max_four min_four
set_option linter.unusedVariables false
set_option linter.unusedSimpArgs false
theorem len_le {l : List Nat} : ∀ {l' : List Nat}, l.Nodup → (∀ x ∈ l, x ∈ l') → l.length ≤ l'.length := by
  induction l with
  | nil => intro l' _ _; simp
  | cons x t ih =>
    intro l' nd h
    have hx : x ∈ l' := h x List.mem_cons_self
    have nd' := List.nodup_cons.1 nd
    have := ih (l' := l'.erase x) nd'.2 (fun y hy => by
      have hne : y ≠ x := fun e => nd'.1 (e ▸ hy)
      exact (List.mem_erase_of_ne hne).2 (h y (List.mem_cons_of_mem _ hy)))
    rw [List.length_erase_of_mem hx] at this
    have hp : 0 < l'.length := List.length_pos_of_mem hx
    simp only [List.length_cons]
    omega
/-- Some number up to the length is missing. -/
theorem missing (xs : List Int) : ∃ n : Nat, n ≤ xs.length ∧ (n : Int) ∉ xs := by
  apply Classical.byContradiction
  intro hc
  have h : ∀ n : Nat, n ≤ xs.length → (n : Int) ∈ xs := fun n hn => Classical.byContradiction fun h => hc ⟨n, hn, h⟩
  have := len_le (l := List.range (xs.length + 1)) (l' := xs.map Int.toNat) List.nodup_range (fun n hn => by
    rw [List.mem_range] at hn
    exact List.mem_map.2 ⟨(n : Int), h n (by omega), by simp⟩)
  simp at this; omega
/-- The least missing number. -/
def IsMex (xs : List Int) (n : Nat) : Prop := n ≤ xs.length ∧ (n : Int) ∉ xs ∧ ∀ m : Nat, m < n → (m : Int) ∈ xs
theorem mex_ex (xs : List Int) : ∃ n, IsMex xs n := by
  obtain ⟨n, hn, hm⟩ := missing xs
  have : ∀ d : Nat, ∀ j : Nat, j + d = n → (∀ m : Nat, m < j → (m : Int) ∈ xs) → ∃ n, IsMex xs n := by
    intro d
    induction d with
    | zero =>
      intro j hj hb
      have : j = n := by omega
      subst this
      exact ⟨j, hn, hm, hb⟩
    | succ d ih =>
      intro j hj hb
      by_cases c : (j : Int) ∈ xs
      · exact ih (j + 1) (by omega) (fun m hm => by
          rcases Nat.lt_or_ge m j with h | h
          · exact hb m h
          · have : m = j := by omega
            subst this; exact c)
      · exact ⟨j, by omega, c, hb⟩
  exact this n 0 (by omega) (fun m hm => absurd hm (Nat.not_lt_zero _))
noncomputable def mexOf (xs : List Int) : Nat := Classical.choose (mex_ex xs)
theorem mexOf_is (xs : List Int) : IsMex xs (mexOf xs) := Classical.choose_spec (mex_ex xs)
theorem mexOf_eq {xs : List Int} {n : Nat} (h1 : (n : Int) ∉ xs) (h2 : ∀ m : Nat, m < n → (m : Int) ∈ xs) : mexOf xs = n := by
  obtain ⟨_, a, b⟩ := mexOf_is xs
  rcases Nat.lt_trichotomy (mexOf xs) n with h | h | h
  · exact absurd (h2 _ h) a
  · exact h
  · exact absurd (b _ h) h1
theorem index_loop (xs : List Int) (x : Int) (hn : xs.length < 4611686018427387904) (d : Nat) : ∀ i : Nat, i + d = xs.length → ∃ t, Ev (fun k => slices_Index_int64_int64.l0 k xs x (xs.length : Int) (i : Int)) t ∧ decide (t ≥ 0) = decide (x ∈ xs.drop i) := by
  induction d with
  | zero =>
    intro i hd
    refine ⟨-1, Ev.step (f := fun _ => some (-1)) (fun k => ?_) (Ev.now _), ?_⟩
    · simp only [slices_Index_int64_int64.l0]; rw [if_neg (by omega)]
    · rw [List.drop_eq_nil_of_le (by omega)]; simp
  | succ d ih =>
    intro i hd
    obtain ⟨y, hy⟩ := get_some (xs := xs) (i := i) (by omega)
    have hrx : rd xs (i : Int) = y := by rw [rd_nat]; exact getD_of hy
    rw [drop_of hy]
    by_cases c : x = y
    · refine ⟨(i : Int), Ev.step (f := fun _ => some (i : Int)) (fun k => ?_) (Ev.now _), ?_⟩
      · simp only [slices_Index_int64_int64.l0]; rw [if_pos (by omega), if_pos (by omega), if_pos (by omega), hrx, if_pos c]
      · rw [decide_eq_true (show x ∈ y :: xs.drop (i + 1) by rw [c]; exact List.mem_cons_self), decide_eq_true (by omega)]
    · obtain ⟨t, ht, he⟩ := ih (i + 1) (by omega)
      refine ⟨t, Ev.step (fun k => ?_) ht, ?_⟩
      · simp only [slices_Index_int64_int64.l0]; rw [if_pos (by omega), if_pos (by omega), if_pos (by omega), hrx, if_neg c, wrapS (by omega) (by omega), cast_succ]
      · rw [he, decide_eq_decide]
        simp [c]
theorem contains_ev (xs : List Int) (x : Int) (hn : xs.length < 4611686018427387904) : Ev (fun k => slices_Contains_int64_int64.f k xs x) (decide (x ∈ xs)) := by
  obtain ⟨t, ht, he⟩ := index_loop xs x hn xs.length 0 (by omega)
  rw [List.drop_zero] at he
  rw [← he]
  exact Ev.congr (f := fun k => (slices_Index_int64_int64.f k xs x).bind fun t => (some (decide (t ≥ 0)))) (fun k => rfl) (Ev.bind ht (Ev.now _))
theorem mexi_loop (xs : List Int) (hn : xs.length < 4611686018427387904) (d : Nat) : ∀ i : Nat, i + d = mexOf xs → Ev (fun k => impl_mex.l0 k xs (i : Int)) (mexOf xs : Int) := by
  obtain ⟨hl, a, b⟩ := mexOf_is xs
  have st : ∀ i : Nat, ∀ k, impl_mex.l0 (k + 1) xs (i : Int) = (slices_Contains_int64_int64.f k xs (i : Int)).bind fun t => (if t = true then (impl_mex.l0 k xs (wrap64 ((i : Int) + 1))) else (some (i : Int))) := fun i k => rfl
  induction d with
  | zero =>
    intro i hd
    have : i = mexOf xs := by omega
    rw [← this] at a ⊢
    refine Ev.step (st i) (Ev.bind (contains_ev xs (i : Int) hn) ?_)
    exact Ev.congr (f := fun _ => some (i : Int)) (fun k => by rw [if_neg (by simp [a])]) (Ev.now _)
  | succ d ih =>
    intro i hd
    refine Ev.step (st i) (Ev.bind (contains_ev xs (i : Int) hn) ?_)
    exact Ev.congr (fun k => by rw [if_pos (by simp [b i (by omega)]), wrapS (by omega) (by omega), cast_succ]) (ih (i + 1) (by omega))
theorem mexi_ev (xs : List Int) (hn : xs.length < 4611686018427387904) : Ev (fun k => impl_mex.f k xs) (mexOf xs : Int) := mexi_loop xs hn (mexOf xs) 0 (by omega)
theorem rdOf_nat (xs : List Bool) (i : Nat) : rdOf false xs (i : Int) = xs.getD i false := by unfold rdOf; rfl
/-- What has been met among the first numbers. -/
def MetOf (xs : List Int) (i n : Nat) (met : List Bool) : Prop := met.length = n ∧ ∀ j : Nat, j < n → met.getD j false = decide ((j : Int) ∈ xs.take i)
theorem mexs_end (xs : List Int) (met : List Bool) (hm : MetOf xs xs.length (xs.length + 1) met) (hn : xs.length < 4611686018427387904) (d : Nat) : ∀ i : Nat, i + d = mexOf xs → Ev (fun k => spec_l01Mex.l1 k met (i : Int)) (mexOf xs : Int) := by
  obtain ⟨hl, a, b⟩ := mexOf_is xs
  obtain ⟨m1, m2⟩ := hm
  rw [List.take_length] at m2
  induction d with
  | zero =>
    intro i hd
    have : i = mexOf xs := by omega
    rw [← this] at a ⊢
    refine Ev.step (f := fun _ => some (i : Int)) (fun k => ?_) (Ev.now _)
    simp only [spec_l01Mex.l1]
    rw [if_pos (by omega), if_pos (by omega), rdOf_nat, m2 i (by omega), decide_eq_false a]
    rfl
  | succ d ih =>
    intro i hd
    refine Ev.step (fun k => ?_) (ih (i + 1) (by omega))
    simp only [spec_l01Mex.l1]
    rw [if_pos (by omega), if_pos (by omega), rdOf_nat, m2 i (by omega), decide_eq_true (b i (by omega)), if_pos rfl, wrapS (by omega) (by omega), cast_succ]
theorem mexs_loop (xs : List Int) (hp : ∀ x ∈ xs, 0 ≤ x) (hn : xs.length < 4611686018427387904) (d : Nat) : ∀ (i : Nat) (met : List Bool), i + d = xs.length → MetOf xs i (xs.length + 1) met → Ev (fun k => spec_l01Mex.l0 k xs met (i : Int)) (mexOf xs : Int) := by
  induction d with
  | zero =>
    intro i met hd hm
    have : i = xs.length := by omega
    subst this
    refine Ev.step (fun k => ?_) (mexs_end xs met hm hn (mexOf xs) 0 (by omega))
    simp only [spec_l01Mex.l0]; rw [if_neg (by omega)]; rfl
  | succ d ih =>
    intro i met hd hm
    obtain ⟨x, hx⟩ := get_some (xs := xs) (i := i) (by omega)
    have hrx : rd xs (i : Int) = x := by rw [rd_nat]; exact getD_of hx
    have hx0 : 0 ≤ x := hp x (List.mem_of_getElem? hx)
    obtain ⟨m1, m2⟩ := hm
    have htk : ∀ j : Nat, ((j : Int) ∈ xs.take (i + 1)) ↔ ((j : Int) ∈ xs.take i ∨ (j : Int) = x) := fun j => by
      obtain ⟨hlt, hxe⟩ := List.getElem?_eq_some_iff.1 hx
      rw [List.take_succ_eq_append_getElem hlt, hxe, List.mem_append, List.mem_singleton]
    by_cases c : x < (met.length : Int)
    · refine Ev.step (fun k => ?_) (ih (i + 1) (met.set x.toNat true) (by omega) ⟨by rw [List.length_set, m1], fun j hj => ?_⟩)
      · simp only [spec_l01Mex.l0]; rw [if_pos (by omega), if_pos (by omega), hrx, if_pos c, if_pos hx0, wrapS (by omega) (by omega), cast_succ]
      · rw [List.getD_eq_getElem?_getD, List.getElem?_set]
        by_cases e : x.toNat = j
        · rw [if_pos e, if_pos (by omega)]
          rw [decide_eq_true ((htk j).2 (.inr (by omega)))]; rfl
        · rw [if_neg e, ← List.getD_eq_getElem?_getD, m2 j hj, decide_eq_decide, htk j]
          constructor
          · exact .inl
          · rintro (h | h)
            · exact h
            · omega
    · refine Ev.step (fun k => ?_) (ih (i + 1) met (by omega) ⟨m1, fun j hj => ?_⟩)
      · simp only [spec_l01Mex.l0]; rw [if_pos (by omega), if_pos (by omega), hrx, if_neg c, wrapS (by omega) (by omega), cast_succ]
      · rw [m2 j hj, decide_eq_decide, htk j]
        constructor
        · exact .inl
        · rintro (h | h)
          · exact h
          · omega
theorem mexs_ev (xs : List Int) (hp : ∀ x ∈ xs, 0 ≤ x) (hn : xs.length ≤ 1000000) : Ev (fun k => spec_l01Mex.f k xs) (mexOf xs : Int) := by
  have h := mexs_loop xs hp (by omega) xs.length 0 (List.replicate (xs.length + 1) false) (by omega) ⟨by simp, fun j hj => by
    rw [List.getD_eq_getElem?_getD, List.getElem?_replicate, if_pos hj]; simp⟩
  refine Ev.congr (fun k => ?_) h
  unfold spec_l01Mex.f
  rw [wrapS (by omega) (by omega), if_pos (by omega), cast_succ, Int.toNat_natCast, if_pos (by omega)]
  rfl
noncomputable def mexPair (xs : List Int) : Int × Int := if areNum xs = true then ((mexOf xs : Int), 0) else (0, 2)

end Go.Proofs.Ytlicbcaloebhlaa.PX

/- The program's 'backward' tells the values of the places, whatever tells a place's value from those it leads to (no condition). -/
namespace Go.Proofs.Ytlicbcaloebhlaa.PX
open Go.RowKit Go.Proofs.YtlicbcaloebhlaaW.PrintWords Go.Proofs.YtlicbcaloebhlaaW.PrintLast Go.Proofs.YtlicbcaloebhlaaW.PrintMore
attribute [local go_sem] max2_int min2_int max_two min_two max_three min_three max_four min_four
set_option linter.unusedVariables false
set_option linter.unusedSimpArgs false
theorem backB_inner (V : Nat → List Bool → Option Bool) (sem : List Bool → Bool) (g : List (List Int)) (p d : Nat) (row : List Int) (v : Bool) (r : List Bool × Int) (hg : g.length = p + 1 + d) (h40 : g.length ≤ 40)
    (hrow : g[p]? = some row) (hq : ∀ q ∈ row, (p : Int) < q ∧ q < g.length) (hl : row.length ≤ 40) (hV : Ev (fun k => V k (seen sem false g p d row)) v)
    (next : Ev (fun k => impl_backward_bool.l0 V k (List.replicate p false ++ v :: backAt sem false g d) ((p : Int) - 1) g) r) (e : Nat) : ∀ j : Nat, j + e = row.length →
    Ev (fun k => impl_backward_bool.l1 V k (List.replicate (p + 1) false ++ backAt sem false g d) (p : Int) (seen sem false g p d (row.take j)) row (row.length : Int) (j : Int) g) r := by
  induction e with
  | zero =>
    intro j hj
    have ej : j = row.length := by omega
    subst ej
    rw [List.take_length]
    refine Ev.step (fun k => by simp only [impl_backward_bool.l1]; rw [if_neg (by omega)]) (Ev.bind hV ?_)
    refine Ev.congr (fun k => ?_) next
    · rw [if_pos (by omega), if_pos (by simp only [List.length_append, List.length_replicate]; omega), Int.toNat_natCast, arr_set, wrapS (by omega) (by omega)]
  | succ e ih =>
    intro j hj
    obtain ⟨q, hjq⟩ := get_some (xs := row) (i := j) (by omega)
    have hm := hq q (List.mem_of_getElem? hjq)
    have eq1 : rd row (j : Int) = q := by rw [rd_nat, getD_of hjq]
    have e2 : rdOf false (List.replicate (p + 1) false ++ backAt sem false g d) q = (backAt sem false g d).getD (q.toNat - (p + 1)) false := by
      obtain ⟨n, rfl⟩ : ∃ n : Nat, q = (n : Int) := ⟨q.toNat, by omega⟩
      rw [rdOf_nat, arr_get _ _ _ _ (by omega), Int.toNat_natCast]
    refine Ev.step (fun k => ?_) (ih (j + 1) (by omega))
    simp only [impl_backward_bool.l1]
    rw [if_pos (by omega), if_pos (by omega), if_pos (by omega), eq1, if_pos (by omega), if_pos (by simp only [List.length_append, List.length_replicate, backAt_length]; omega),
      if_pos (by simp only [seen, List.length_map, List.length_take]; omega), e2, wrapS (by omega) (by omega), cast_succ]
    congr 1
    simp only [seen]
    rw [List.take_add_one, hjq]
    simp
theorem backB_loop (V : Nat → List Bool → Option Bool) (sem : List Bool → Bool) (Q : Bool → Prop) (g : List (List Int)) (h : isGame g = true)
    (hV : ∀ xs : List Bool, xs.length ≤ 40 → (∀ x ∈ xs, Q x) → Ev (fun k => V k xs) (sem xs) ∧ Q (sem xs)) :
    ∀ (m d : Nat), g.length = m + d → Ev (fun k => impl_backward_bool.l0 V k (List.replicate m false ++ backAt sem false g d) ((m : Int) - 1) g) (backs sem false g, 0)
  | 0, d, hg => by
    refine Ev.step (f := fun _ => some (backs sem false g, 0)) (fun k => ?_) (Ev.now _)
    simp only [impl_backward_bool.l0]
    rw [if_neg (by omega), backs, show g.length = d by omega]
    rfl
  | p + 1, d, hg => by
    obtain ⟨row, hr⟩ := get_some (xs := g) (i := p) (by omega)
    have hw := game_row h hr
    have hn := game_len h
    have hall := backAt_all sem false Q g h (fun xs h1 h2 => (hV xs h1 h2).2) d (by omega)
    have hv := (hV (seen sem false g p d row) (by simp only [seen, List.length_map]; exact hw.2) (seen_all sem false Q g p d row hg hw.1 hall)).1
    have next := backB_loop V sem Q g h hV p (d + 1) (by omega)
    rw [backAt_succ sem false g p d row hg hr] at next
    refine Ev.step (fun k => ?_) (backB_inner V sem g p d row _ _ hg hn.2 hr hw.1 hw.2 hv next row.length 0 (by omega))
    simp only [impl_backward_bool.l0]
    rw [show ((p + 1 : Nat) : Int) - 1 = (p : Int) by omega, if_pos (by omega), if_pos (by omega), if_pos (by omega), rdL1_nat, getD_of hr]
    rfl
theorem backB_ev (V : Nat → List Bool → Option Bool) (sem : List Bool → Bool) (Q : Bool → Prop) (g : List (List Int)) (hl : ∀ row ∈ g, row.length < 4611686018427387904) (hg : g.length < 4611686018427387904)
    (hV : ∀ xs : List Bool, xs.length ≤ 40 → (∀ x ∈ xs, Q x) → Ev (fun k => V k xs) (sem xs) ∧ Q (sem xs)) :
    Ev (fun k => impl_backward_bool.f V k g) (if isGame g = true then (backs sem false g, 0) else ([], 1)) := by
  have hi := IsGame_ev g hl hg
  by_cases h : isGame g = true
  · rw [if_pos h]
    rw [h] at hi
    have hn := game_len h
    have hb := backB_loop V sem Q g h hV g.length 0 (by omega)
    simp only [backAt, List.append_nil] at hb
    unfold impl_backward_bool.f
    refine Ev.bind hi (Ev.congr (fun k => ?_) hb)
    rw [if_pos rfl, if_pos (by omega), if_pos (by omega), Option.bind_some, List.length_replicate, Int.toNat_natCast, wrapS (by omega) (by omega)]
  · rw [if_neg h]
    have hf : isGame g = false := by simpa using h
    rw [hf] at hi
    unfold impl_backward_bool.f
    exact Ev.bind hi (Ev.congr (f := fun _ => some (([] : List Bool), (1 : Int))) (fun k => by rw [if_neg (by decide)]) (Ev.now _))

end Go.Proofs.Ytlicbcaloebhlaa.PX

/- A row whose own place is being told: what stands there, and what stands behind it (no condition). -/
namespace Go.Proofs.Ytlicbcaloebhlaa.PX
open Go.RowKit Go.Proofs.YtlicbcaloebhlaaW.PrintWords Go.Proofs.YtlicbcaloebhlaaW.PrintLast Go.Proofs.YtlicbcaloebhlaaW.PrintMore
attribute [local go_sem] max2_int min2_int max_two min_two max_three min_three max_four min_four
set_option linter.unusedVariables false
set_option linter.unusedSimpArgs false
theorem mid_self {α : Type} (z a : α) (p : Nat) (bs : List α) : (List.replicate p z ++ a :: bs).getD p z = a := by
  rw [List.getD_eq_getElem?_getD, List.getElem?_append_right (by simp), List.length_replicate, Nat.sub_self]
  rfl
theorem mid_get {α : Type} (z a : α) (p : Nat) (bs : List α) (q : Nat) (h : p + 1 ≤ q) : (List.replicate p z ++ a :: bs).getD q z = bs.getD (q - (p + 1)) z := by
  rw [List.getD_eq_getElem?_getD, List.getD_eq_getElem?_getD, List.getElem?_append_right (by simp only [List.length_replicate]; omega), List.length_replicate, show q - p = (q - (p + 1)) + 1 by omega, List.getElem?_cons_succ]
theorem mid_set {α : Type} (z a v : α) (p : Nat) (bs : List α) : (List.replicate p z ++ a :: bs).set p v = List.replicate p z ++ v :: bs := by
  rw [List.set_append_right _ _ (by simp)]
  simp
theorem mid_len {α : Type} (z a : α) (p : Nat) (bs : List α) : (List.replicate p z ++ a :: bs).length = p + 1 + bs.length := by
  simp only [List.length_append, List.length_replicate, List.length_cons]
  omega
theorem start_mid {α : Type} (z : α) (p : Nat) (bs : List α) : List.replicate (p + 1) z ++ bs = List.replicate p z ++ z :: bs := by
  rw [List.replicate_succ', List.append_assoc]
  rfl
theorem seen_take {α : Type} (sem : List α → α) (z : α) (g : List (List Int)) (p d : Nat) (row : List Int) (j : Nat) (q : Int) (hj : row[j]? = some q) :
    seen sem z g p d (row.take (j + 1)) = seen sem z g p d (row.take j) ++ [(backAt sem z g d).getD (q.toNat - (p + 1)) z] := by
  simp only [seen]
  rw [List.take_add_one, hj]
  simp
/-- What holds of the values, told with how many places are behind. -/
theorem backAt_allN {α : Type} (sem : List α → α) (z : α) (Q : Nat → α → Prop) (g : List (List Int)) (h : isGame g = true) (hm : ∀ d x, Q d x → Q (d + 1) x)
    (hs : ∀ d, ∀ xs : List α, xs.length ≤ 40 → (∀ x ∈ xs, Q d x) → Q (d + 1) (sem xs)) :
    ∀ d, d ≤ g.length → ∀ x ∈ backAt sem z g d, Q d x
  | 0, _, x, hx => by simp [backAt] at hx
  | d + 1, hd, x, hx => by
    obtain ⟨p, hp⟩ : ∃ p, g.length = p + 1 + d := ⟨g.length - (d + 1), by omega⟩
    obtain ⟨row, hr⟩ := get_some (xs := g) (i := p) (by omega)
    have ih := backAt_allN sem z Q g h hm hs d (by omega)
    have hw := game_row h hr
    rw [backAt_succ sem z g p d row hp hr] at hx
    rcases List.mem_cons.1 hx with rfl | hx
    · exact hs d _ (by simp only [seen, List.length_map]; exact hw.2) (seen_all sem z (Q d) g p d row hp hw.1 ih)
    · exact hm d x (ih x hx)

end Go.Proofs.Ytlicbcaloebhlaa.PX

/- The places that are won, as the reference and the program tell them, in both kinds of play (no condition but sizes that fit). -/
namespace Go.Proofs.Ytlicbcaloebhlaa.PX
open Go.RowKit Go.Proofs.YtlicbcaloebhlaaW.PrintWords Go.Proofs.YtlicbcaloebhlaaW.PrintLast Go.Proofs.YtlicbcaloebhlaaW.PrintMore
attribute [local go_sem] max2_int min2_int max_two min_two max_three min_three max_four min_four
set_option linter.unusedVariables false
set_option linter.unusedSimpArgs false
/-- Whether a place is won, told from those it leads to; ends are won if 'ends' says so. -/
def wonOf (ends : Bool) (xs : List Bool) : Bool := (ends && decide (xs.length = 0)) || xs.any (fun x => !x)
theorem won_inner (ends : Bool) (g : List (List Int)) (p d : Nat) (row : List Int) (r : List Bool) (hg : g.length = p + 1 + d) (h40 : g.length ≤ 40)
    (hrow : g[p]? = some row) (hq : ∀ q ∈ row, (p : Int) < q ∧ q < g.length) (hl : row.length ≤ 40)
    (next : Ev (fun k => spec_l01Won.l0 k ends (List.replicate p false ++ wonOf ends (seen (wonOf ends) false g p d row) :: backAt (wonOf ends) false g d) ((p : Int) - 1) g) r) (e : Nat) : ∀ j : Nat, j + e = row.length →
    Ev (fun k => spec_l01Won.l1 k ends (List.replicate p false ++ ((ends && decide (row.length = 0)) || (seen (wonOf ends) false g p d (row.take j)).any (fun x => !x)) :: backAt (wonOf ends) false g d) (p : Int) (j : Int) g) r := by
  have er : rd_L1 g (p : Int) = row := by rw [rdL1_nat, getD_of hrow]
  induction e with
  | zero =>
    intro j hj
    have ej : j = row.length := by omega
    subst ej
    rw [List.take_length]
    refine Ev.step (fun k => ?_) next
    simp only [spec_l01Won.l1]
    rw [if_pos (by omega), if_pos (by omega), er, if_neg (by omega), wrapS (by omega) (by omega)]
    simp only [wonOf, seen, List.length_map]
  | succ e ih =>
    intro j hj
    obtain ⟨q, hjq⟩ := get_some (xs := row) (i := j) (by omega)
    have hm := hq q (List.mem_of_getElem? hjq)
    have eq1 : rd row (j : Int) = q := by rw [rd_nat, getD_of hjq]
    have hx := ih (j + 1) (by omega)
    rw [seen_take (wonOf ends) false g p d row j q hjq] at hx
    generalize hA : seen (wonOf ends) false g p d (row.take j) = A at hx ⊢
    have e2 : ∀ a, rdOf false (List.replicate p false ++ a :: backAt (wonOf ends) false g d) q = (backAt (wonOf ends) false g d).getD (q.toNat - (p + 1)) false := by
      intro a
      obtain ⟨n, rfl⟩ : ∃ n : Nat, q = (n : Int) := ⟨q.toNat, by omega⟩
      rw [rdOf_nat, mid_get _ _ _ _ _ (by omega), Int.toNat_natCast]
    have e3 : ∀ a, rdOf false (List.replicate p false ++ a :: backAt (wonOf ends) false g d) (p : Int) = a := fun a => by rw [rdOf_nat, mid_self]
    generalize hy : (backAt (wonOf ends) false g d).getD (q.toNat - (p + 1)) false = y at hx e2
    refine Ev.step (fun k => ?_) hx
    simp only [spec_l01Won.l1]
    rw [if_pos (by omega), if_pos (by omega), er, if_pos (by omega), if_pos (by rw [mid_len]; omega), e3, eq1, e2, wrapS (by omega) (by omega), cast_succ, Int.toNat_natCast, mid_set, mid_set]
    rw [List.any_append]
    cases hc : ((ends && decide (row.length = 0)) || A.any (fun x => !x))
    · rw [if_neg (by decide), if_pos (by omega), if_pos (by omega), if_pos (by rw [mid_len, backAt_length]; omega)]
      rw [← Bool.or_assoc, hc]
      simp
    · rw [if_pos rfl, ← Bool.or_assoc, hc]
      simp
theorem won_loop (ends : Bool) (g : List (List Int)) (h : isGame g = true) :
    ∀ (m d : Nat), g.length = m + d → Ev (fun k => spec_l01Won.l0 k ends (List.replicate m false ++ backAt (wonOf ends) false g d) ((m : Int) - 1) g) (backs (wonOf ends) false g)
  | 0, d, hg => by
    refine Ev.step (f := fun _ => some (backs (wonOf ends) false g)) (fun k => ?_) (Ev.now _)
    simp only [spec_l01Won.l0]
    rw [if_neg (by omega), backs, show g.length = d by omega]
    rfl
  | p + 1, d, hg => by
    obtain ⟨row, hr⟩ := get_some (xs := g) (i := p) (by omega)
    have hw := game_row h hr
    have hn := game_len h
    have next := won_loop ends g h p (d + 1) (by omega)
    rw [backAt_succ (wonOf ends) false g p d row hg hr] at next
    have er : rd_L1 g (p : Int) = row := by rw [rdL1_nat, getD_of hr]
    have hi := won_inner ends g p d row _ hg hn.2 hr hw.1 hw.2 next row.length 0 (by omega)
    refine Ev.step (fun k => ?_) (Ev.step (g := fun k => spec_l01Won.j1 k ends (List.replicate p false ++ (ends && decide (row.length = 0)) :: backAt (wonOf ends) false g d) (p : Int) g) (fun k => ?_) hi)
    · simp only [spec_l01Won.l0]
      rw [show ((p + 1 : Nat) : Int) - 1 = (p : Int) by omega, if_pos (by omega), start_mid, Int.toNat_natCast, mid_set, mid_set, er]
      cases ends
      · rw [if_neg (by decide), if_pos (by omega), if_pos (by rw [mid_len]; omega)]
        rfl
      · rw [if_pos rfl, if_pos (by omega), if_pos (by omega), if_pos (by rw [mid_len]; omega)]
        congr 3
        by_cases c : row.length = 0
        · rw [c]; rfl
        · rw [Bool.true_and, decide_eq_false c]
          exact beq_false_of_ne (by omega)
    · simp only [spec_l01Won.j1]
      simp [seen]
theorem l01Won_ev (ends : Bool) (g : List (List Int)) (h : isGame g = true) : Ev (fun k => spec_l01Won.f k g ends) (backs (wonOf ends) false g) := by
  have hn := game_len h
  have hb := won_loop ends g h g.length 0 (by omega)
  simp only [backAt, List.append_nil] at hb
  unfold spec_l01Won.f spec_l01N.f
  refine Ev.congr (fun k => ?_) hb
  rw [Option.bind_some, if_pos (by omega), if_pos (by omega), Option.bind_some, Int.toNat_natCast, wrapS (by omega) (by omega)]
def wons (ends : Bool) (g : List (List Int)) : List Bool × Int := if isGame g = true then (backs (wonOf ends) false g, 0) else ([], 1)
theorem wons_len (ends : Bool) (g : List (List Int)) : (wons ends g).1.length ≤ 40 := by
  unfold wons
  by_cases h : isGame g = true
  · rw [if_pos h]
    have := game_len h
    simp only [backs, backAt_length]
    omega
  · rw [if_neg h]
    simp
theorem specWon_ev (g : List (List Int)) (hl : ∀ row ∈ g, row.length < 4611686018427387904) (hg : g.length < 4611686018427387904) : Ev (fun k => spec_WonPlaces.f k g) (wons false g) := by
  have hi := l01Is_ev g hl hg
  unfold wons spec_WonPlaces.f
  by_cases h : isGame g = true
  · rw [if_pos h]
    rw [h] at hi
    exact Ev.bind hi (Ev.congr (fun k => by rw [if_pos rfl]) (Ev.bind (l01Won_ev false g h) (Ev.now _)))
  · rw [if_neg h]
    have hf : isGame g = false := by simpa using h
    rw [hf] at hi
    exact Ev.bind hi (Ev.congr (f := fun _ => some (([] : List Bool), (1 : Int))) (fun k => by rw [if_neg (by decide)]) (Ev.now _))
theorem specMis_ev (g : List (List Int)) (hl : ∀ row ∈ g, row.length < 4611686018427387904) (hg : g.length < 4611686018427387904) : Ev (fun k => spec_WonInMisere.f k g) (wons true g) := by
  have hi := l01Is_ev g hl hg
  unfold wons spec_WonInMisere.f
  by_cases h : isGame g = true
  · rw [if_pos h]
    rw [h] at hi
    exact Ev.bind hi (Ev.congr (fun k => by rw [if_pos rfl]) (Ev.bind (l01Won_ev true g h) (Ev.now _)))
  · rw [if_neg h]
    have hf : isGame g = false := by simpa using h
    rw [hf] at hi
    exact Ev.bind hi (Ev.congr (f := fun _ => some (([] : List Bool), (1 : Int))) (fun k => by rw [if_neg (by decide)]) (Ev.now _))
theorem indexB_loop (xs : List Bool) (x : Bool) (hn : xs.length < 4611686018427387904) (d : Nat) : ∀ i : Nat, i + d = xs.length → ∃ t, Ev (fun k => slices_Index_bool_bool.l0 k xs x (xs.length : Int) (i : Int)) t ∧ decide (t ≥ 0) = decide (x ∈ xs.drop i) := by
  induction d with
  | zero =>
    intro i hd
    refine ⟨-1, Ev.step (f := fun _ => some (-1)) (fun k => ?_) (Ev.now _), ?_⟩
    · simp only [slices_Index_bool_bool.l0]; rw [if_neg (by omega)]
    · rw [List.drop_eq_nil_of_le (by omega)]; simp
  | succ d ih =>
    intro i hd
    obtain ⟨y, hy⟩ := get_some (xs := xs) (i := i) (by omega)
    have hrx : rdOf false xs (i : Int) = y := by rw [rdOf_nat]; exact getD_of hy
    rw [drop_of hy]
    by_cases c : x = y
    · refine ⟨(i : Int), Ev.step (f := fun _ => some (i : Int)) (fun k => ?_) (Ev.now _), ?_⟩
      · simp only [slices_Index_bool_bool.l0]; rw [if_pos (by omega), if_pos (by omega), if_pos (by omega), hrx, if_pos (by rw [c]; exact beq_self_eq_true y)]
      · rw [decide_eq_true (show x ∈ y :: xs.drop (i + 1) by rw [c]; exact List.mem_cons_self), decide_eq_true (by omega)]
    · obtain ⟨t, ht, he⟩ := ih (i + 1) (by omega)
      refine ⟨t, Ev.step (fun k => ?_) ht, ?_⟩
      · simp only [slices_Index_bool_bool.l0]; rw [if_pos (by omega), if_pos (by omega), if_pos (by omega), hrx, if_neg (by simpa using c), wrapS (by omega) (by omega), cast_succ]
      · rw [he, decide_eq_decide]
        simp [c]
theorem containsB_ev (xs : List Bool) (x : Bool) (hn : xs.length < 4611686018427387904) : Ev (fun k => slices_Contains_bool_bool.f k xs x) (decide (x ∈ xs)) := by
  obtain ⟨t, ht, he⟩ := indexB_loop xs x hn xs.length 0 (by omega)
  rw [List.drop_zero] at he
  rw [← he]
  exact Ev.congr (f := fun k => (slices_Index_bool_bool.f k xs x).bind fun t => (some (decide (t ≥ 0)))) (fun k => rfl) (Ev.bind ht (Ev.now _))
theorem any_not : ∀ xs : List Bool, xs.any (fun x => !x) = decide (false ∈ xs)
  | [] => by simp
  | x :: r => by
    rw [List.any_cons, any_not r]
    cases x <;> simp
theorem wonV_ev (xs : List Bool) (hn : xs.length < 4611686018427387904) : Ev (fun k => impl_WonPlaces_1.f k xs) (wonOf false xs) := by
  unfold impl_WonPlaces_1.f wonOf
  rw [Bool.false_and, Bool.false_or, any_not]
  exact Ev.bind (containsB_ev xs false hn) (Ev.now _)
theorem misV_ev (xs : List Bool) (hn : xs.length < 4611686018427387904) : Ev (fun k => impl_WonInMisere_1.f k xs) (wonOf true xs) := by
  unfold impl_WonInMisere_1.f wonOf
  rw [Bool.true_and, any_not]
  by_cases c : xs.length = 0
  · refine Ev.congr (f := fun _ => some true) (fun k => by rw [if_pos (by omega)]) ?_
    rw [decide_eq_true c, Bool.true_or]
    exact Ev.now _
  · refine Ev.congr (fun k => by rw [if_neg (by omega)]) ?_
    rw [decide_eq_false c, Bool.false_or]
    exact Ev.bind (containsB_ev xs false hn) (Ev.now _)
theorem implWon_ev (g : List (List Int)) (hl : ∀ row ∈ g, row.length < 4611686018427387904) (hg : g.length < 4611686018427387904) : Ev (fun k => impl_WonPlaces.f k g) (wons false g) := by
  unfold impl_WonPlaces.f
  exact Ev.bind (backB_ev impl_WonPlaces_1.f (wonOf false) (fun _ => True) g hl hg (fun xs h1 _ => ⟨wonV_ev xs (by omega), trivial⟩)) (Ev.now _)
theorem implMis_ev (g : List (List Int)) (hl : ∀ row ∈ g, row.length < 4611686018427387904) (hg : g.length < 4611686018427387904) : Ev (fun k => impl_WonInMisere.f k g) (wons true g) := by
  unfold impl_WonInMisere.f
  exact Ev.bind (backB_ev impl_WonInMisere_1.f (wonOf true) (fun _ => True) g hl hg (fun xs h1 _ => ⟨misV_ev xs (by omega), trivial⟩)) (Ev.now _)

end Go.Proofs.Ytlicbcaloebhlaa.PX

/- The lengths of the places of a game, as the reference and the program tell them (no condition but sizes that fit). -/
namespace Go.Proofs.Ytlicbcaloebhlaa.PX
open Go.RowKit Go.Proofs.YtlicbcaloebhlaaW.PrintWords Go.Proofs.YtlicbcaloebhlaaW.PrintLast Go.Proofs.YtlicbcaloebhlaaW.PrintMore
attribute [local go_sem] max2_int min2_int max_two min_two max_three min_three max_four min_four
set_option linter.unusedVariables false
set_option linter.unusedSimpArgs false
def lenUp (a x : S69) : S69 := if x.f0 = true then (if a.f0 = true then a else ⟨a.f0, mx a.f1 (wrap64 (x.f1 + 1))⟩) else (if a.f0 = true then (if wrap64 (x.f1 + 1) < a.f1 then ⟨true, wrap64 (x.f1 + 1)⟩ else a) else ⟨true, wrap64 (x.f1 + 1)⟩)
theorem lenUp_tw (m : Int) (x : S69) (h : x.f0 = true) : lenUp ⟨true, m⟩ x = ⟨true, m⟩ := by unfold lenUp; simp [h]
theorem lenUp_fw (m : Int) (x : S69) (h : x.f0 = true) : lenUp ⟨false, m⟩ x = ⟨false, mx m (wrap64 (x.f1 + 1))⟩ := by unfold lenUp; simp [h]
theorem lenUp_tl (m : Int) (x : S69) (h : ¬ x.f0 = true) : lenUp ⟨true, m⟩ x = if wrap64 (x.f1 + 1) < m then ⟨true, wrap64 (x.f1 + 1)⟩ else ⟨true, m⟩ := by unfold lenUp; simp [h]
theorem lenUp_fl (m : Int) (x : S69) (h : ¬ x.f0 = true) : lenUp ⟨false, m⟩ x = ⟨true, wrap64 (x.f1 + 1)⟩ := by unfold lenUp; simp [h]
def lenOf (xs : List S69) : S69 := xs.foldl lenUp z69
def bestUp (W : Bool) (b : Int) (x : S69) : Int := if W = true then (if x.f0 = true then b else if b < 0 then x.f1 else if x.f1 < b then x.f1 else b) else (if x.f1 > b then x.f1 else b)
theorem len_won (N : Int) (hN : N ≤ 40) : ∀ (xs : List S69) (b : Int), (∀ x ∈ xs, x.f0 = true ∧ 0 ≤ x.f1 ∧ x.f1 ≤ N) → -1 ≤ b → b ≤ N →
    xs.foldl lenUp ⟨false, b + 1⟩ = ⟨false, xs.foldl (bestUp false) b + 1⟩ ∧ -1 ≤ xs.foldl (bestUp false) b ∧ xs.foldl (bestUp false) b ≤ N
  | [], b, _, h0, h1 => ⟨rfl, h0, h1⟩
  | x :: r, b, h, h0, h1 => by
    have hx := h x (by simp)
    have e : lenUp ⟨false, b + 1⟩ x = ⟨false, bestUp false b x + 1⟩ := by
      rw [lenUp_fw _ _ hx.1, wrapS (by omega) (by omega)]
      unfold bestUp mx
      rw [if_neg (show ¬ (false = true) by decide)]
      by_cases c : x.f1 > b
      · rw [if_pos c, if_pos (show b + 1 < x.f1 + 1 by omega)]
      · rw [if_neg c, if_neg (show ¬ b + 1 < x.f1 + 1 by omega)]
    simp only [List.foldl_cons]
    rw [e]
    refine len_won N hN r _ (fun y hy => h y (by simp [hy])) ?_ ?_
    · unfold bestUp
      rw [if_neg (by decide)]
      by_cases c : x.f1 > b
      · rw [if_pos c]; omega
      · rw [if_neg c]; omega
    · unfold bestUp
      rw [if_neg (by decide)]
      by_cases c : x.f1 > b
      · rw [if_pos c]; omega
      · rw [if_neg c]; omega
theorem len_lost (N : Int) (hN : N ≤ 40) : ∀ (xs : List S69) (b : Int), (∀ x ∈ xs, 0 ≤ x.f1 ∧ x.f1 ≤ N) → 0 ≤ b → b ≤ N →
    xs.foldl lenUp ⟨true, b + 1⟩ = ⟨true, xs.foldl (bestUp true) b + 1⟩ ∧ 0 ≤ xs.foldl (bestUp true) b ∧ xs.foldl (bestUp true) b ≤ N
  | [], b, _, h0, h1 => ⟨rfl, h0, h1⟩
  | x :: r, b, h, h0, h1 => by
    have hx := h x (by simp)
    have e : lenUp ⟨true, b + 1⟩ x = ⟨true, bestUp true b x + 1⟩ := by
      by_cases f : x.f0 = true
      · rw [lenUp_tw _ _ f]
        unfold bestUp
        rw [if_pos rfl, if_pos f]
      · rw [lenUp_tl _ _ f, wrapS (by omega) (by omega)]
        unfold bestUp
        rw [if_pos rfl, if_neg f, if_neg (show ¬ b < 0 by omega)]
        by_cases c : x.f1 < b
        · rw [if_pos c, if_pos (show x.f1 + 1 < b + 1 by omega)]
        · rw [if_neg c, if_neg (show ¬ x.f1 + 1 < b + 1 by omega)]
    simp only [List.foldl_cons]
    rw [e]
    refine len_lost N hN r _ (fun y hy => h y (by simp [hy])) ?_ ?_
    · unfold bestUp
      rw [if_pos rfl]
      by_cases f : x.f0 = true
      · rw [if_pos f]; omega
      · rw [if_neg f, if_neg (by omega)]
        by_cases c : x.f1 < b
        · rw [if_pos c]; omega
        · rw [if_neg c]; omega
    · unfold bestUp
      rw [if_pos rfl]
      by_cases f : x.f0 = true
      · rw [if_pos f]; omega
      · rw [if_neg f, if_neg (by omega)]
        by_cases c : x.f1 < b
        · rw [if_pos c]; omega
        · rw [if_neg c]; omega
theorem len_mixed (N : Int) (hN : N ≤ 40) : ∀ (xs : List S69) (m : Int), (∀ x ∈ xs, 0 ≤ x.f1 ∧ x.f1 ≤ N) → xs.any (fun x => !x.f0) = true →
    xs.foldl lenUp ⟨false, m⟩ = ⟨true, xs.foldl (bestUp true) (-1) + 1⟩ ∧ 0 ≤ xs.foldl (bestUp true) (-1) ∧ xs.foldl (bestUp true) (-1) ≤ N
  | [], m, _, h => by simp at h
  | x :: r, m, h, ha => by
    have hx := h x (by simp)
    simp only [List.foldl_cons]
    by_cases f : x.f0 = true
    · have e : lenUp ⟨false, m⟩ x = ⟨false, mx m (wrap64 (x.f1 + 1))⟩ := by
        exact lenUp_fw _ _ f
      have e2 : bestUp true (-1) x = -1 := by
        unfold bestUp
        rw [if_pos rfl, if_pos f]
      rw [e, e2]
      exact len_mixed N hN r _ (fun y hy => h y (by simp [hy])) (by simpa [f] using ha)
    · have e : lenUp ⟨false, m⟩ x = ⟨true, x.f1 + 1⟩ := by
        rw [lenUp_fl _ _ f, wrapS (by omega) (by omega)]
      have e2 : bestUp true (-1) x = x.f1 := by
        unfold bestUp
        rw [if_pos rfl, if_neg f, if_pos (by decide)]
      rw [e, e2]
      exact len_lost N hN r _ (fun y hy => h y (by simp [hy])) hx.1 hx.2
def isWon (xs : List S69) : Bool := xs.any (fun x => !x.f0)
theorem len_is (N : Int) (h0 : 0 ≤ N) (hN : N ≤ 40) (xs : List S69) (h : ∀ x ∈ xs, 0 ≤ x.f1 ∧ x.f1 ≤ N) :
    lenOf xs = ⟨isWon xs, xs.foldl (bestUp (isWon xs)) (-1) + 1⟩ ∧ -1 ≤ xs.foldl (bestUp (isWon xs)) (-1) ∧ xs.foldl (bestUp (isWon xs)) (-1) ≤ N := by
  cases hw : isWon xs
  · have ha : ∀ x ∈ xs, x.f0 = true := by
      intro x hx
      unfold isWon at hw
      rw [List.any_eq_false] at hw
      simpa using hw x hx
    exact len_won N hN xs (-1) (fun x hx => ⟨ha x hx, h x hx⟩) (by omega) (by omega)
  · have := len_mixed N hN xs 0 h hw
    exact ⟨this.1, by omega, this.2.2⟩
theorem len_bounds (g : List (List Int)) (h : isGame g = true) : ∀ d, d ≤ g.length → ∀ x ∈ backAt lenOf z69 g d, 0 ≤ x.f1 ∧ x.f1 ≤ (d : Int) := by
  intro d hd x hx
  have hn := game_len h
  have hall := backAt_allN lenOf z69 (fun d x => d ≤ 40 → 0 ≤ x.f1 ∧ x.f1 ≤ (d : Int)) g h (fun d x hx hd => by have := hx (by omega); omega)
    (fun d xs _ hx hd => by
      have := len_is (d : Int) (by omega) (by omega) xs (fun y hy => hx y hy (by omega))
      rw [this.1]
      show 0 ≤ _ + 1 ∧ _ + 1 ≤ _
      omega) d hd
  exact hall x hx (by omega)
theorem getD_map {α β : Type} (f : α → β) (xs : List α) (i : Nat) (z : α) : (xs.map f).getD i (f z) = f (xs.getD i z) := by
  rw [List.getD_eq_getElem?_getD, List.getD_eq_getElem?_getD, List.getElem?_map]
  cases xs[i]? <;> rfl
theorem won_map (xs : List S69) : wonOf false (xs.map S69.f0) = isWon xs := by
  unfold wonOf isWon
  rw [Bool.false_and, Bool.false_or, List.any_map]
  rfl
theorem backAt_won (g : List (List Int)) (h : isGame g = true) : ∀ d, d ≤ g.length → (backAt lenOf z69 g d).map S69.f0 = backAt (wonOf false) false g d
  | 0, _ => rfl
  | d + 1, hd => by
    obtain ⟨p, hp⟩ : ∃ p, g.length = p + 1 + d := ⟨g.length - (d + 1), by omega⟩
    obtain ⟨row, hr⟩ := get_some (xs := g) (i := p) (by omega)
    have ih := backAt_won g h d (by omega)
    have hw := game_row h hr
    have hn := game_len h
    rw [backAt_succ lenOf z69 g p d row hp hr, backAt_succ (wonOf false) false g p d row hp hr, List.map_cons, ih]
    congr 1
    have hs := seen_all lenOf z69 (fun x => 0 ≤ x.f1 ∧ x.f1 ≤ (d : Int)) g p d row hp hw.1 (len_bounds g h d (by omega))
    rw [(len_is (d : Int) (by omega) (by omega) _ hs).1, ← won_map]
    show wonOf false _ = wonOf false _
    congr 1
    unfold seen
    rw [List.map_map, ← ih]
    apply List.map_congr_left
    intro q _
    show _ = ((backAt lenOf z69 g d).map S69.f0).getD (q.toNat - (p + 1)) (S69.f0 z69)
    rw [getD_map]
    rfl
theorem backAt_drop {α : Type} (sem : List α → α) (z : α) (g : List (List Int)) (d : Nat) : ∀ m, (backAt sem z g (m + d)).drop m = backAt sem z g d
  | 0 => by simp
  | m + 1 => by
    rw [show m + 1 + d = (m + d) + 1 by omega]
    simp only [backAt, List.drop_succ_cons]
    exact backAt_drop sem z g d m
theorem backs_get {α : Type} (sem : List α → α) (z : α) (g : List (List Int)) (m d q : Nat) (hg : g.length = m + d) (hq : m ≤ q) : (backs sem z g).getD q z = (backAt sem z g d).getD (q - m) z := by
  rw [← backAt_drop sem z g d m, List.getD_eq_getElem?_getD, List.getD_eq_getElem?_getD, List.getElem?_drop, backs, hg, show m + (q - m) = q by omega]
theorem len_inner (g : List (List Int)) (h : isGame g = true) (p d : Nat) (row : List Int) (r : List Int × Int) (hg : g.length = p + 1 + d) (h40 : g.length ≤ 40)
    (hrow : g[p]? = some row) (hq : ∀ q ∈ row, (p : Int) < q ∧ q < g.length) (hl : row.length ≤ 40)
    (next : Ev (fun k => spec_LengthsOf.l0 k (backs (wonOf false) false g) (List.replicate p 0 ++ wrap64 ((seen lenOf z69 g p d row).foldl (bestUp (isWon (seen lenOf z69 g p d row))) (-1) + 1) :: (backAt lenOf z69 g d).map S69.f1) ((p : Int) - 1) g) r) (e : Nat) : ∀ j : Nat, j + e = row.length →
    Ev (fun k => spec_LengthsOf.l1 k (backs (wonOf false) false g) (List.replicate (p + 1) 0 ++ (backAt lenOf z69 g d).map S69.f1) (p : Int) ((seen lenOf z69 g p d (row.take j)).foldl (bestUp (isWon (seen lenOf z69 g p d row))) (-1)) (j : Int) g) r := by
  have er : rd_L1 g (p : Int) = row := by rw [rdL1_nat, getD_of hrow]
  have hwl : (backs (wonOf false) false g).length = g.length := by rw [backs, backAt_length]
  have hol : (List.replicate (p + 1) 0 ++ (backAt lenOf z69 g d).map S69.f1 : List Int).length = g.length := by simp only [List.length_append, List.length_replicate, List.length_map, backAt_length]; omega
  have hwp : rdOf false (backs (wonOf false) false g) (p : Int) = isWon (seen lenOf z69 g p d row) := by
    rw [rdOf_nat, backs_get (wonOf false) false g p (d + 1) p (by omega) (Nat.le_refl p), Nat.sub_self, ← backAt_won g h (d + 1) (by omega), backAt_succ lenOf z69 g p d row hg hrow]
    have hs := seen_all lenOf z69 (fun x => 0 ≤ x.f1 ∧ x.f1 ≤ (d : Int)) g p d row hg hq (len_bounds g h d (by omega))
    rw [(len_is (d : Int) (by omega) (by omega) _ hs).1]
    rfl
  generalize hW : isWon (seen lenOf z69 g p d row) = W at next hwp ⊢
  induction e with
  | zero =>
    intro j hj
    have ej : j = row.length := by omega
    subst ej
    rw [List.take_length]
    refine Ev.step (fun k => ?_) next
    simp only [spec_LengthsOf.l1]
    rw [if_pos (by omega), if_pos (by omega), er, if_neg (by omega), if_pos (by rw [hol]; omega), Int.toNat_natCast, arr_set, wrapS (i := (p : Int) - 1) (by omega) (by omega)]
  | succ e ih =>
    intro j hj
    obtain ⟨q, hjq⟩ := get_some (xs := row) (i := j) (by omega)
    have hm := hq q (List.mem_of_getElem? hjq)
    have eq1 : rd row (j : Int) = q := by rw [rd_nat, getD_of hjq]
    have hx := ih (j + 1) (by omega)
    rw [seen_take lenOf z69 g p d row j q hjq, List.foldl_append] at hx
    generalize hB : (seen lenOf z69 g p d (row.take j)).foldl (bestUp W) (-1) = b at hx ⊢
    have e2 : rd (List.replicate (p + 1) 0 ++ (backAt lenOf z69 g d).map S69.f1) q = ((backAt lenOf z69 g d).getD (q.toNat - (p + 1)) z69).f1 := by
      obtain ⟨n, rfl⟩ : ∃ n : Nat, q = (n : Int) := ⟨q.toNat, by omega⟩
      rw [rd_nat, arr_get _ _ _ _ (by omega), Int.toNat_natCast]
      exact getD_map S69.f1 _ _ z69
    have e3 : rdOf false (backs (wonOf false) false g) q = ((backAt lenOf z69 g d).getD (q.toNat - (p + 1)) z69).f0 := by
      obtain ⟨n, rfl⟩ : ∃ n : Nat, q = (n : Int) := ⟨q.toNat, by omega⟩
      rw [rdOf_nat, backs_get (wonOf false) false g (p + 1) d n (by omega) (by omega), ← backAt_won g h d (by omega), Int.toNat_natCast]
      exact getD_map S69.f0 _ _ z69
    generalize hy : (backAt lenOf z69 g d).getD (q.toNat - (p + 1)) z69 = y at hx e2 e3
    generalize hO : (List.replicate (p + 1) 0 ++ (backAt lenOf z69 g d).map S69.f1 : List Int) = O at hx e2 hol ⊢
    generalize hV : backs (wonOf false) false g = V at hx e3 hwl hwp ⊢
    have jj : ∀ B : Bool, (B = true → y.f1 = bestUp W b y) → (B = false → (if W = true then b else if y.f1 > b then y.f1 else b) = bestUp W b y) → Ev (fun k => spec_LengthsOf.j2 k V O (p : Int) b (j : Int) q B g) r := by
      intro B h1 h2
      refine Ev.step (fun k => ?_) hx
      simp only [spec_LengthsOf.j2]
      rw [e2, hwp, wrapS (i := (j : Int) + 1) (by omega) (by omega), cast_succ]
      cases B
      · rw [if_neg (by decide), if_pos (by omega), if_pos (by omega)]
        have h2 := h2 rfl
        by_cases w : W = true
        · rw [if_pos w]
          rw [if_pos w] at h2
          rw [List.foldl_cons, List.foldl_nil, ← h2]
        · rw [if_neg w, if_pos (by omega), if_pos (by omega)]
          rw [if_neg w] at h2
          rw [List.foldl_cons, List.foldl_nil, ← h2]
          by_cases c : y.f1 > b
          · rw [if_pos c, if_pos c]
          · rw [if_neg c, if_neg c]
      · rw [if_pos rfl, if_pos (by omega), if_pos (by omega), List.foldl_cons, List.foldl_nil, ← h1 rfl]
    by_cases w : W = true
    · by_cases f : y.f0 = true
      · refine Ev.step (fun k => ?_) (jj false (fun h => by cases h) (fun _ => ?_))
        · simp only [spec_LengthsOf.l1]
          rw [if_pos (by omega), if_pos (by omega), er, if_pos (by omega), if_pos (by omega), if_pos (by omega), hwp, if_pos w, eq1, if_pos (by omega), if_pos (by omega), e3, if_pos f]
        · unfold bestUp
          rw [if_pos w, if_pos w, if_pos f]
      · by_cases c : b < 0
        · refine Ev.step (fun k => ?_) (jj true (fun _ => ?_) (fun h => by cases h))
          · simp only [spec_LengthsOf.l1]
            rw [if_pos (by omega), if_pos (by omega), er, if_pos (by omega), if_pos (by omega), if_pos (by omega), hwp, if_pos w, eq1, if_pos (by omega), if_pos (by omega), e3, if_neg f, if_pos c]
          · unfold bestUp
            rw [if_pos w, if_neg f, if_pos c]
        · refine Ev.step (fun k => ?_) (jj (decide (y.f1 < b)) (fun hc => ?_) (fun hc => ?_))
          · simp only [spec_LengthsOf.l1]
            rw [if_pos (by omega), if_pos (by omega), er, if_pos (by omega), if_pos (by omega), if_pos (by omega), hwp, if_pos w, eq1, if_pos (by omega), if_pos (by omega), e3, if_neg f, if_neg c, if_pos (by omega), e2]
          · unfold bestUp
            rw [if_pos w, if_neg f, if_neg c, if_pos (of_decide_eq_true hc)]
          · unfold bestUp
            rw [if_pos w, if_pos w, if_neg f, if_neg c, if_neg (of_decide_eq_false hc)]
    · refine Ev.step (fun k => ?_) (jj false (fun h => by cases h) (fun _ => ?_))
      · simp only [spec_LengthsOf.l1]
        rw [if_pos (by omega), if_pos (by omega), er, if_pos (by omega), if_pos (by omega), if_pos (by omega), hwp, if_neg w, eq1]
      · unfold bestUp
        rw [if_neg w, if_neg w]
theorem len_loop (g : List (List Int)) (h : isGame g = true) :
    ∀ (m d : Nat), g.length = m + d → Ev (fun k => spec_LengthsOf.l0 k (backs (wonOf false) false g) (List.replicate m 0 ++ (backAt lenOf z69 g d).map S69.f1) ((m : Int) - 1) g) ((backs lenOf z69 g).map S69.f1, 0)
  | 0, d, hg => by
    refine Ev.step (f := fun _ => some ((backs lenOf z69 g).map S69.f1, 0)) (fun k => ?_) (Ev.now _)
    simp only [spec_LengthsOf.l0]
    rw [if_neg (by omega), backs, show g.length = d by omega]
    rfl
  | p + 1, d, hg => by
    obtain ⟨row, hr⟩ := get_some (xs := g) (i := p) (by omega)
    have hw := game_row h hr
    have hn := game_len h
    have next := len_loop g h p (d + 1) (by omega)
    rw [backAt_succ lenOf z69 g p d row hg hr, List.map_cons] at next
    have hs := seen_all lenOf z69 (fun x => 0 ≤ x.f1 ∧ x.f1 ≤ (d : Int)) g p d row hg hw.1 (len_bounds g h d (by omega))
    have hi := len_is (d : Int) (by omega) (by omega) _ hs
    have hin := len_inner g h p d row _ hg hn.2 hr hw.1 hw.2 (by rw [wrapS (by omega) (by omega)]; rw [hi.1] at next; exact next) row.length 0 (by omega)
    refine Ev.step (fun k => ?_) hin
    simp only [spec_LengthsOf.l0]
    rw [show ((p + 1 : Nat) : Int) - 1 = (p : Int) by omega, if_pos (by omega)]
    rfl
theorem lenV_loop (xs : List S69) (hn : xs.length < 4611686018427387904) (d : Nat) : ∀ (i : Nat) (a : S69), i + d = xs.length → Ev (fun k => impl_lengthOf.l0 k xs (xs.length : Int) (i : Int) a.f0 a.f1) (pv ((xs.drop i).foldl lenUp a)) := by
  induction d with
  | zero =>
    intro i a hd
    rw [List.drop_eq_nil_of_le (by omega)]
    refine Ev.step (f := fun _ => some (pv a)) (fun k => ?_) (Ev.now _)
    simp only [impl_lengthOf.l0]
    rw [if_neg (by omega)]
    rfl
  | succ d ih =>
    intro i a hd
    obtain ⟨y, hy⟩ := get_some (xs := xs) (i := i) (by omega)
    have hrx : rd_T69 xs (i : Int) = y := by rw [rdT69_nat]; exact getD_of hy
    rw [drop_of hy, List.foldl_cons]
    have hx := ih (i + 1) (lenUp a y) (by omega)
    generalize pv ((xs.drop (i + 1)).foldl lenUp (lenUp a y)) = v at hx ⊢
    by_cases f : y.f0 = true
    · refine Ev.step (f := fun k => impl_lengthOf.j1 k xs (xs.length : Int) (i : Int) false a.f0 a.f1 y.f0 y.f1) (fun k => ?_) (Ev.step (fun k => ?_) hx)
      · simp only [impl_lengthOf.l0]
        rw [if_pos (by omega), if_pos (by omega), if_pos (by omega), hrx, if_pos f]
      · simp only [impl_lengthOf.j1]
        rw [if_neg (by decide), if_pos f, wrapS (i := (i : Int) + 1) (by omega) (by omega), cast_succ]
        unfold lenUp
        rw [if_pos f]
        by_cases w : a.f0 = true
        · rw [if_pos w, if_pos w]
        · rw [if_neg w, if_neg w]
    · by_cases w : a.f0 = true
      · refine Ev.step (f := fun k => impl_lengthOf.j1 k xs (xs.length : Int) (i : Int) (decide (wrap64 (y.f1 + 1) < a.f1)) a.f0 a.f1 y.f0 y.f1) (fun k => ?_) (Ev.step (fun k => ?_) hx)
        · simp only [impl_lengthOf.l0]
          rw [if_pos (by omega), if_pos (by omega), if_pos (by omega), hrx, if_neg f, if_pos w]
        · simp only [impl_lengthOf.j1]
          rw [wrapS (i := (i : Int) + 1) (by omega) (by omega), cast_succ]
          unfold lenUp
          rw [if_neg f, if_pos w, if_neg f]
          by_cases c : wrap64 (y.f1 + 1) < a.f1
          · rw [if_pos (decide_eq_true c), if_pos c, if_pos w]
          · rw [if_neg (by rw [decide_eq_false c]; decide), if_neg c, if_pos w]
      · refine Ev.step (f := fun k => impl_lengthOf.j1 k xs (xs.length : Int) (i : Int) true a.f0 a.f1 y.f0 y.f1) (fun k => ?_) (Ev.step (fun k => ?_) hx)
        · simp only [impl_lengthOf.l0]
          rw [if_pos (by omega), if_pos (by omega), if_pos (by omega), hrx, if_neg f, if_neg w]
        · simp only [impl_lengthOf.j1]
          rw [if_pos trivial, wrapS (i := (i : Int) + 1) (by omega) (by omega), cast_succ]
          unfold lenUp
          rw [if_neg f, if_neg w]
theorem lenV_ev (xs : List S69) (hn : xs.length < 4611686018427387904) : Ev (fun k => impl_lengthOf.f k xs) (pv (lenOf xs)) := lenV_loop xs hn xs.length 0 z69 (by omega)
theorem many_loop (xs : List S69) (c : Int) (hn : xs.length ≤ 40) (d : Nat) : ∀ i : Nat, i + d = xs.length → Ev (fun k => impl_LengthsOf.l0 k c ((xs.take i).map S69.f1) xs (xs.length : Int) (i : Int)) (xs.map S69.f1, c) := by
  induction d with
  | zero =>
    intro i hd
    refine Ev.step (f := fun _ => some (xs.map S69.f1, c)) (fun k => ?_) (Ev.now _)
    simp only [impl_LengthsOf.l0]
    rw [if_neg (by omega), show i = xs.length by omega, List.take_length]
  | succ d ih =>
    intro i hd
    obtain ⟨y, hy⟩ := get_some (xs := xs) (i := i) (by omega)
    have hrx : rd_T69 xs (i : Int) = y := by rw [rdT69_nat]; exact getD_of hy
    have hx := ih (i + 1) (by omega)
    rw [List.take_add_one, hy, List.map_append] at hx
    refine Ev.step (fun k => ?_) hx
    simp only [impl_LengthsOf.l0]
    rw [if_pos (by omega), if_pos (by omega), if_pos (by omega), if_pos (by simp only [List.length_map, List.length_take]; omega), hrx, wrapS (i := (i : Int) + 1) (by omega) (by omega), cast_succ]
    rfl
def lens (g : List (List Int)) : List Int × Int := if isGame g = true then ((backs lenOf z69 g).map S69.f1, 0) else ([], 1)
theorem lens_len (g : List (List Int)) : (lens g).1.length ≤ 40 := by
  unfold lens
  by_cases h : isGame g = true
  · rw [if_pos h]
    have := game_len h
    simp only [backs, List.length_map, backAt_length]
    omega
  · rw [if_neg h]
    simp
theorem specLens_ev (g : List (List Int)) (hl : ∀ row ∈ g, row.length < 4611686018427387904) (hg : g.length < 4611686018427387904) : Ev (fun k => spec_LengthsOf.f k g) (lens g) := by
  have hi := l01Is_ev g hl hg
  unfold lens spec_LengthsOf.f spec_l01N.f
  by_cases h : isGame g = true
  · rw [if_pos h]
    rw [h] at hi
    have hn := game_len h
    have hb := len_loop g h g.length 0 (by omega)
    simp only [backAt, List.map_nil, List.append_nil] at hb
    refine Ev.bind hi (Ev.congr (fun k => by rw [if_pos rfl]) (Ev.bind (l01Won_ev false g h) (Ev.congr (fun k => ?_) hb)))
    rw [Option.bind_some, if_pos (by omega), if_pos (by omega), Option.bind_some, Int.toNat_natCast, wrapS (by omega) (by omega)]
  · rw [if_neg h]
    have hf : isGame g = false := by simpa using h
    rw [hf] at hi
    exact Ev.bind hi (Ev.congr (f := fun _ => some (([] : List Int), (1 : Int))) (fun k => by rw [if_neg (by decide)]) (Ev.now _))
theorem implLens_ev (g : List (List Int)) (hl : ∀ row ∈ g, row.length < 4611686018427387904) (hg : g.length < 4611686018427387904) : Ev (fun k => impl_LengthsOf.f k g) (lens g) := by
  unfold impl_LengthsOf.f lens
  have hb := backL_ev impl_lengthOf.f lenOf (fun _ => True) g hl hg (fun xs h1 _ => ⟨lenV_ev xs (by omega), trivial⟩)
  by_cases h : isGame g = true
  · rw [if_pos h]
    rw [if_pos h] at hb
    have hn := game_len h
    refine Ev.bind hb ?_
    have := many_loop (backs lenOf z69 g) 0 (by rw [backs, backAt_length]; omega) (backs lenOf z69 g).length 0 (by omega)
    exact this
  · rw [if_neg h]
    rw [if_neg h] at hb
    refine Ev.bind hb ?_
    exact many_loop [] 1 (by simp) 0 0 rfl

end Go.Proofs.Ytlicbcaloebhlaa.PX

/- The law FnExactLengthsOf holds of every game: both sides tell the same. -/
namespace Go.Proofs.Ytlicbcaloebhlaa.PX
open Go.RowKit Go.Proofs.YtlicbcaloebhlaaW.PrintWords Go.Proofs.YtlicbcaloebhlaaW.PrintLast Go.Proofs.YtlicbcaloebhlaaW.PrintMore
theorem laws_FnExactLengthsOf.done (A0_0 : Option Addr) (c0_0 : Nat) (l0_0 : List (List Int)) (w : World) (hr0_0 : Kd.C (Kd.slice 2 (Kd.int .i64)) w A0_0 l0_0.length l0_0) (hc0_0 : l0_0.length ≤ c0_0)
    (hW : (l0_0.length ≤ 9223372036854775807 ∧ ∀ x0 ∈ l0_0, x0.length ≤ 9223372036854775807 ∧ ∀ x1 ∈ x0, (Lit.int .i64 x1).wf = true)) :
    Calls Try.prog 13 #[.agg #[.slice A0_0 l0_0.length c0_0]] w fun e w' => e = .returned (.bool true) ∧ Below w.heap.size w w' := by
  obtain ⟨t, ht, hor⟩ := szG_ev l0_0 hW.1 (fun row h => (hW.2 row h).1)
  rcases hor with hn | ⟨h0, h1, h2⟩
  · exact laws_FnExactLengthsOf.early0_of A0_0 c0_0 l0_0 t w hr0_0 hc0_0 (decide_eq_true hn) ht
  · have hl : ∀ row ∈ l0_0, row.length < 4611686018427387904 := fun row h => by have := total_mem h; omega
    have hT := toG_ev l0_0 h1 h2
    have hp := total_nonneg l0_0
    have hn := lens_len l0_0
    have hm := mark_ev (lens l0_0).1 1 (by omega) (by omega)
    have hh := held_ev (lens l0_0).1.length 1 (by omega) (by omega)
    exact laws_FnExactLengthsOf.good_of A0_0 c0_0 l0_0 t (lens l0_0).1 (lens l0_0).2 (1 + total l0_0) (1 + ((lens l0_0).1.length : Int)) w hr0_0 hc0_0 (by simp; omega) ht hT (specLens_ev l0_0 hl (by omega)) (implLens_ev l0_0 hl (by omega))
      (eqI_ev _ (by omega)) (eqG_ev l0_0 hl (by omega)) (by simp; omega) (by omega) (by omega) rfl (by simp; omega) hm hh

end Go.Proofs.Ytlicbcaloebhlaa.PX

/- The row of FnExactLengthsOf, out of its plain law (no condition). -/
namespace Go.Proofs.Ytlicbcaloebhlaa.fnExactLengthsOf
open Go.ChangeShapes Go.WideShapes Go.ChangeAt Go.RowKit
open Go.ChangeMaps (open_string shut_string)
set_option linter.unusedVariables false
theorem own : ownKnob Try.prog.godebug = none := by kernel_rfl
theorem laid : laidOutB Try.prog = true := by kernel_rfl
set_option maxRecDepth 100000 in
theorem lifted (os : Os) (started : os.Started) (H : Type) (enc : TypeId × Value → H) :
    ReturnsInHanded {} Try.checked os 13 .any (Rows.fnExactLengthsOfSpec.pre6 enc Try.prog Try.f13 Rows.fnExactLengthsOfRow.domain false) (Rows.fnExactLengthsOfSpec.post enc Try.prog Try.f13 false true false false) := by
  refine returnsInHanded_of_change_sized (C := Try.checked) own started (by kernel_rfl) Try.func13
    (ChangeSpec.witness6 (enc := enc) (C := Try.checked) false ⟨#[], #[.agg #[.slice none 0 0]], []⟩ 8 (by kernel_rfl) (by kernel_rfl) (by kernel_rfl) (by kernel_rfl)) ?_
  intro W base args ds gs before hval0 hW hcnd hsz0 _
  have hsz : (DataW.weightsEach Try.prog (Try.f13.params.toList ++ Rows.fnExactLengthsOfSpec.plain.varTypes Try.prog) (ds ++ gs)).all (· ≤ reachBytes) = true := hsz0
  have hval : ∀ (j : Nat) t v, Try.f13.params[j]? = some t → args[j]? = some v → Value.okWide Try.prog W .any base t v := hval0
  have hW' := hW
  obtain ⟨p, q, hA0, hV, rfl, hfz, hnd⟩ := hW
  have hA : DataW.TrodAll enc Try.prog W 0 (fun _ => true) true Try.f13.params.toList args.toList ds p := hA0
  rw [Try.params13] at hA hval hsz
  obtain ⟨v0, vs0, d0, ds0, p0, q0, hargs, rfl, rfl, h0, r0⟩ := trodAll_cons hA
  obtain ⟨rfl, rfl, rfl⟩ := trodAll_nil r0
  obtain rfl : args = #[v0] := by cases args; simp_all
  obtain ⟨rfl, rfl⟩ := trodVars_none hV
  have hk0 := h0
  have hlt0 : ∀ x ∈ p0, x.block < W.heap.size := fun x hx => hW'.lt x (by simp [hx])
  obtain ⟨c0_0, y0_0, m0, rfl, rfl, rfl, g0_0⟩ := Go.Proofs.Ytlicbcaloebhlaa.Opens.open_agg1 Try.underlying24 (by kernel_rfl) (by kernel_rfl) (hval 0 24 v0 rfl rfl) h0
  obtain ⟨A0_0, n0_0, l0_0, rfl, hc0_0, hr0_0, w0_0⟩ := Go.Proofs.Ytlicbcaloebhlaa.Opens.opened_slice Try.underlying22 (by kernel_rfl) (Go.Proofs.Ytlicbcaloebhlaa.Opens.opens_slice Try.underlying31 (by kernel_rfl) (Go.Proofs.Ytlicbcaloebhlaa.Opens.opens_int Try.underlying2)) g0_0
  clear hA0 hval0 hsz0 hsz
  refine (PX.laws_FnExactLengthsOf.done _ _ l0_0 W hr0_0 hc0_0 w0_0).mono fun e W' ⟨he, bel0⟩ => ?_
  have bel : Below W.heap.size W W' := bel0
  subst he
  exact ⟨_, rfl, _, _, _, [], _, [], hW', trodAll_mk1 (shut_bool Try.underlying4 _), (trodAll_cons_mk (Below.trod laid (by kernel_rfl) (of_decide_eq_true (by kernel_rfl)) hk0 bel hlt0) trodAll_mk0), rfl, bel.frame _, fun h => by cases h⟩
theorem over : Rows.fnExactLengthsOfRow.holds Try.pinned (OpenSpec.ofChange Rows.fnExactLengthsOfSpec) :=
  OpenClaim.holds_of_wide 13 Try.f13 rfl rfl rfl rfl rfl rfl rfl ⟨rfl, rfl, rfl, rfl, rfl⟩ rfl rfl rfl rfl rfl (by kernel_rfl) Try.func13 (by kernel_rfl)
    (of_decide_eq_true (by kernel_rfl)) (by unfold Func.isWrapper; first | (rw [if_pos (by decide +kernel)]; kernel_rfl) | (rw [if_neg (by decide +kernel)]; exact ⟨rfl, rfl⟩))
    (fun os started H enc _ => lifted os started H enc)
theorem proved : Rows.FnExactLengthsOfSaid := over
#print axioms proved
end Go.Proofs.Ytlicbcaloebhlaa.fnExactLengthsOf
namespace Go.Proofs.Ytlicbcaloebhlaa
/-- The row, under a short name, for the claim. -/
theorem fnExactLengthsOf_holds : Rows.FnExactLengthsOfSaid := fnExactLengthsOf.proved
end Go.Proofs.Ytlicbcaloebhlaa
