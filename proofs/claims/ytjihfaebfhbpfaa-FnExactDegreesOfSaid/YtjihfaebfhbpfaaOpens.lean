/- A parameter's nested slices, read off its datum: what the row hands over, as the print's contracts ask it (no condition). -/
import Derived.Deep.Slices
import Derived.Lib.SmallJoins
import Derived.Test.YtjihfaebfhbpfaaWWords
import Derived.Test.YtjihfaebfhbpfaaWShare
namespace Go.Proofs.Ytjihfaebfhbpfaa.Opens
open Go.RowKit Go.ChangeShapes Go.WideShapes Go.ChangeAt Go.Deep Go.WideElems Go.Joins Go.Proofs.YtjihfaebfhbpfaaW.PrintWords
set_option linter.unusedVariables false
set_option linter.unusedSimpArgs false
variable {H : Type} {enc : TypeId × Value → H} {P : Program} {w : World} {base : Nat} {spare : Nat → Bool} {held : Bool}

/-- What a datum of type t says: its cells read as some x of the kind d, of which Q holds. -/
def Opens (enc : TypeId × Value → H) (P : Program) (w : World) (base : Nat) (spare : Nat → Bool) (held : Bool) {α : Type} (t : TypeId) (d : Kd α) (Q : α → Prop) : Prop :=
  ∀ n cs y, DataW.trod enc P w base spare held n t cs = some y → ∃ x, d.K w x cs ∧ Q x

theorem opens_int {t : TypeId} {k : IntKind} (ht : P.underlying t = some (.int k)) : Opens enc P w base spare held t (Kd.int k) (fun x => (Lit.int k x).wf = true) := by
  intro n cs y h
  obtain ⟨x, rfl, _, hw⟩ := DataW.trod_int ht h
  exact ⟨x, rfl, hw⟩

theorem choose_list {α : Type} {R : Nat → α → Prop} : ∀ (n : Nat), (∀ i, i < n → ∃ x, R i x) → ∃ xs : List α, xs.length = n ∧ ∀ i x, xs[i]? = some x → R i x
  | 0, _ => ⟨[], rfl, fun i x h => by simp at h⟩
  | n + 1, h => by
    obtain ⟨xs, hl, hx⟩ := choose_list n (fun i hi => h i (Nat.lt_succ_of_lt hi))
    obtain ⟨x, hn⟩ := h n (Nat.lt_succ_self n)
    refine ⟨xs ++ [x], by simp [hl], fun i z hz => ?_⟩
    rcases Nat.lt_or_ge i xs.length with hi | hi
    · rw [List.getElem?_append_left hi] at hz
      exact hx i z hz
    · rw [List.getElem?_append_right hi] at hz
      have : i - xs.length = 0 := by
        rcases Nat.eq_zero_or_pos (i - xs.length) with e | e
        · exact e
        · rw [List.getElem?_eq_none (by simp; omega)] at hz
          exact absurd hz (by simp)
      rw [this] at hz
      have hz' : x = z := by simpa using hz
      subst hz'
      have : i = n := by omega
      subst this
      exact hn

theorem opens_slice {α : Type} {t e : TypeId} {d : Kd α} {Q : α → Prop} (ht : P.underlying t = some (.slice e)) (hc : P.cellsOf e = d.sz) (he : Opens enc P w base spare held e d Q) :
    Opens enc P w base spare held t (Kd.slice e d) (fun xs => xs.length ≤ 9223372036854775807 ∧ ∀ x ∈ xs, Q x) := by
  intro n cs y h
  rcases open_slice ht h with ⟨rfl, rfl⟩ | ⟨a, len, cap, m, n', D, Pl, rfl, hb, hl, hm, hmm, hx, hall⟩
  · exact ⟨[], ⟨none, 0, rfl, Nat.le_refl _, rfl, by simp, fun h => absurd h (by simp)⟩, by simp, fun x hx => by simp at hx⟩
  · have hlm : len ≤ m := by rw [hmm]; split <;> omega
    have hch : ∀ i, i < len → ∃ x : α, (∃ c, c.length = d.sz ∧ d.K w x c ∧ ∀ j u, c[j]? = some u → w.cell? (a.add (i * d.sz + j)) = some u) ∧ Q x := by
      intro i hi
      obtain ⟨cs', hcs, htr⟩ := hall i (by omega)
      obtain ⟨x, hK, hQ⟩ := he _ _ _ htr
      refine ⟨x, ⟨cs', d.K_len hK, hK, fun j u hu => ?_⟩, hQ⟩
      have hj : j < P.cellsOf e := by
        rw [hc, ← d.K_len hK]
        exact (List.getElem?_eq_some_iff.1 hu).1
      have h3 := (World.cells?_some hcs).2.2 j hj
      rw [Addr.add_add, hc] at h3
      rw [h3, hu]
    obtain ⟨xs, hlen, hxs⟩ := choose_list len hch
    subst hlen
    refine ⟨xs, ⟨some a, cap, rfl, hl, rfl, by simp only [maxLen] at hm; omega, fun _ => ⟨a, rfl, fun j p hj => (hxs j p hj).1⟩⟩, by simp only [maxLen] at hm; omega, fun x hx => ?_⟩
    obtain ⟨i, hi, hix⟩ := List.getElem_of_mem hx
    exact (hxs i x (by rw [List.getElem?_eq_getElem hi, hix])).2

/-- A field that is a slice: its value written out, and how it reads. -/
theorem opened_slice {α : Type} {t e : TypeId} {d : Kd α} {Q : α → Prop} (ht : P.underlying t = some (.slice e)) (hc : P.cellsOf e = d.sz) (he : Opens enc P w base spare held e d Q) {n : Nat} {v : Value} {y : DataW H × List MemPlace}
    (h : DataW.trod enc P w base spare held n t [v] = some y) : ∃ A c, ∃ xs : List α, v = .slice A xs.length c ∧ xs.length ≤ c ∧ Kd.C d w A xs.length xs ∧ xs.length ≤ 9223372036854775807 ∧ ∀ x ∈ xs, Q x := by
  obtain ⟨xs, ⟨A, c, e1, hl, hC⟩, hQ⟩ := opens_slice ht hc he _ _ _ h
  simp only [List.cons.injEq, and_true] at e1
  exact ⟨A, c, xs, e1, hl, hC, hQ⟩
/-- A struct of one field of one cell, by value. -/
theorem open_agg1 {r : Reach} {b0 : Nat} {t : TypeId} {f0 : Field} {v : Value} {d : DataW H} {p : List MemPlace} (hs : P.underlying t = some (.struct #[f0])) (hone : oneCellFields P #[f0] = true) (hC : P.cellsOf t = 1)
    (hv : Value.okWide P w r b0 t v) (h : DataW.Trod enc P w base spare held t v d p) :
    ∃ (v0 : Value) (y0 : DataW H × List MemPlace) (n : Nat), v = .agg #[v0] ∧ d = .agg [y0.1] ∧ p = y0.2 ∧ DataW.trod enc P w base spare held n f0.type [v0] = some y0 := by
  obtain ⟨cs, rfl, hsz⟩ := okWide_struct hs hv
  obtain ⟨c0, rfl⟩ : ∃ c0, cs = #[c0] := by
    obtain ⟨l⟩ := cs
    match l, (hsz.trans hC) with
    | [c0], _ => exact ⟨c0, rfl⟩
  obtain ⟨fuel, hf⟩ := h
  obtain ⟨xs, n, _, rfl', hl, hlen, hx⟩ := DataW.trod_struct hs hf
  match xs, hlen with
  | [y0], _ =>
    have h0 := hx 0 f0 rfl
    obtain ⟨o0, k0⟩ := hone_of hone 0 f0 rfl
    simp only [Prod.mk.injEq] at rfl'
    refine ⟨c0, y0, n, rfl, by simpa using rfl'.1, by simpa using rfl'.2, ?_⟩
    simpa [Value.cells, o0, k0] using h0
end Go.Proofs.Ytjihfaebfhbpfaa.Opens
