/- The row of FnExactReachedFrom, out of its plain law (no condition). -/
import Derived.Deep.Slices
import Derived.Lib.SmallJoins
import Derived.Test.YtbiemfbdobdecaaWWords
import Derived.Test.YtbiemfbdobdecaaWShare
import Derived.Test.YtbiemfbdobdecaaRows
import Derived.Test.YtbiemfbdobdecaaPXx0
import Derived.Test.YtbiemfbdobdecaaIvl
import Derived.Test.YtbiemfbdobdecaaPXx9
import Derived.Test.YtbiemfbdobdecaaPXx10
import Derived.Test.YtbiemfbdobdecaaWGuard
import Derived.Test.YtbiemfbdobdecaaPXx1
import Derived.Test.YtbiemfbdobdecaaPXx6
import Derived.Test.YtbiemfbdobdecaaFunLib
import Derived.Maps.OwnSet
import Derived.Test.YtbiemfbdobdecaaPXx19
import Derived.Test.YtbiemfbdobdecaaPXx18
import Derived.Test.YtbiemfbdobdecaaPXx17
import Derived.Test.YtbiemfbdobdecaaPXx20
import Derived.Test.YtbiemfbdobdecaaPXx22
import Derived.Test.YtbiemfbdobdecaaPXx7
import Derived.Test.YtbiemfbdobdecaaPXx2
import Derived.Test.YtbiemfbdobdecaaPXx21
import Derived.Test.YtbiemfbdobdecaaPXx23
import Derived.Test.YtbiemfbdobdecaaGBackB
import Derived.Test.YtbiemfbdobdecaaPXx13
import Derived.Test.YtbiemfbdobdecaaDelFunc
import Derived.Test.YtbiemfbdobdecaaClone
import Derived.WalkKit
import Derived.ProofKit
import Derived.OpenShut
import Derived.ShutString
import Derived.ChangeOld
import Derived.Below
import Derived.Carry
import Derived.SizedLaws
/- A parameter's nested slices, read off its datum: what the row hands over, as the print's contracts ask it (no condition). -/
namespace Go.Proofs.Ytbiemfbdobdecaa.Opens
open Go.RowKit Go.ChangeShapes Go.WideShapes Go.ChangeAt Go.Deep Go.WideElems Go.Joins Go.Proofs.YtbiemfbdobdecaaW.PrintWords
set_option linter.unusedVariables false
set_option linter.unusedSimpArgs false
variable {H : Type} {enc : TypeId × Value → H} {P : Program} {w : World} {base : Nat} {spare : Nat → Bool} {held : Bool}

/-- What a datum of type t says: its cells read as some x of the kind d, of which Q holds. -/
def Opens (enc : TypeId × Value → H) (P : Program) (w : World) (base : Nat) (spare : Nat → Bool) (held : Bool) {α : Type} (t : TypeId) (d : Kd α) (Q : α → Prop) : Prop :=
  ∀ n cs y, DataW.trod enc P w base spare held n t cs = some y → ∃ x, d.K w x cs ∧ Q x

theorem opens_int {t : TypeId} {k : IntKind} (ht : P.underlying t = some (.int k)) : Opens enc P w base spare held t (Kd.int k) (fun x => (Lit.int k x).wf = true) := by
  intro n cs y h
  obtain ⟨x, rfl, _, hw⟩ := DataW.trod_int ht h
  exact ⟨x, rfl, hw⟩

theorem choose_list {α : Type} {R : Nat → α → Prop} : ∀ (n : Nat), (∀ i, i < n → ∃ x, R i x) → ∃ xs : List α, xs.length = n ∧ ∀ i x, xs[i]? = some x → R i x
  | 0, _ => ⟨[], rfl, fun i x h => by simp at h⟩
  | n + 1, h => by
    obtain ⟨xs, hl, hx⟩ := choose_list n (fun i hi => h i (Nat.lt_succ_of_lt hi))
    obtain ⟨x, hn⟩ := h n (Nat.lt_succ_self n)
    refine ⟨xs ++ [x], by simp [hl], fun i z hz => ?_⟩
    rcases Nat.lt_or_ge i xs.length with hi | hi
    · rw [List.getElem?_append_left hi] at hz
      exact hx i z hz
    · rw [List.getElem?_append_right hi] at hz
      have : i - xs.length = 0 := by
        rcases Nat.eq_zero_or_pos (i - xs.length) with e | e
        · exact e
        · rw [List.getElem?_eq_none (by simp; omega)] at hz
          exact absurd hz (by simp)
      rw [this] at hz
      have hz' : x = z := by simpa using hz
      subst hz'
      have : i = n := by omega
      subst this
      exact hn

theorem opens_slice {α : Type} {t e : TypeId} {d : Kd α} {Q : α → Prop} (ht : P.underlying t = some (.slice e)) (hc : P.cellsOf e = d.sz) (he : Opens enc P w base spare held e d Q) :
    Opens enc P w base spare held t (Kd.slice e d) (fun xs => xs.length ≤ 9223372036854775807 ∧ ∀ x ∈ xs, Q x) := by
  intro n cs y h
  rcases open_slice ht h with ⟨rfl, rfl⟩ | ⟨a, len, cap, m, n', D, Pl, rfl, hb, hl, hm, hmm, hx, hall⟩
  · exact ⟨[], ⟨none, 0, rfl, Nat.le_refl _, rfl, by simp, fun h => absurd h (by simp)⟩, by simp, fun x hx => by simp at hx⟩
  · have hlm : len ≤ m := by rw [hmm]; split <;> omega
    have hch : ∀ i, i < len → ∃ x : α, (∃ c, c.length = d.sz ∧ d.K w x c ∧ ∀ j u, c[j]? = some u → w.cell? (a.add (i * d.sz + j)) = some u) ∧ Q x := by
      intro i hi
      obtain ⟨cs', hcs, htr⟩ := hall i (by omega)
      obtain ⟨x, hK, hQ⟩ := he _ _ _ htr
      refine ⟨x, ⟨cs', d.K_len hK, hK, fun j u hu => ?_⟩, hQ⟩
      have hj : j < P.cellsOf e := by
        rw [hc, ← d.K_len hK]
        exact (List.getElem?_eq_some_iff.1 hu).1
      have h3 := (World.cells?_some hcs).2.2 j hj
      rw [Addr.add_add, hc] at h3
      rw [h3, hu]
    obtain ⟨xs, hlen, hxs⟩ := choose_list len hch
    subst hlen
    refine ⟨xs, ⟨some a, cap, rfl, hl, rfl, by simp only [maxLen] at hm; omega, fun _ => ⟨a, rfl, fun j p hj => (hxs j p hj).1⟩⟩, by simp only [maxLen] at hm; omega, fun x hx => ?_⟩
    obtain ⟨i, hi, hix⟩ := List.getElem_of_mem hx
    exact (hxs i x (by rw [List.getElem?_eq_getElem hi, hix])).2

/-- A field that is a slice: its value written out, and how it reads. -/
theorem opened_slice {α : Type} {t e : TypeId} {d : Kd α} {Q : α → Prop} (ht : P.underlying t = some (.slice e)) (hc : P.cellsOf e = d.sz) (he : Opens enc P w base spare held e d Q) {n : Nat} {v : Value} {y : DataW H × List MemPlace}
    (h : DataW.trod enc P w base spare held n t [v] = some y) : ∃ A c, ∃ xs : List α, v = .slice A xs.length c ∧ xs.length ≤ c ∧ Kd.C d w A xs.length xs ∧ xs.length ≤ 9223372036854775807 ∧ ∀ x ∈ xs, Q x := by
  obtain ⟨xs, ⟨A, c, e1, hl, hC⟩, hQ⟩ := opens_slice ht hc he _ _ _ h
  simp only [List.cons.injEq, and_true] at e1
  exact ⟨A, c, xs, e1, hl, hC, hQ⟩
/-- A struct of one field of one cell, by value. -/
theorem open_agg1 {r : Reach} {b0 : Nat} {t : TypeId} {f0 : Field} {v : Value} {d : DataW H} {p : List MemPlace} (hs : P.underlying t = some (.struct #[f0])) (hone : oneCellFields P #[f0] = true) (hC : P.cellsOf t = 1)
    (hv : Value.okWide P w r b0 t v) (h : DataW.Trod enc P w base spare held t v d p) :
    ∃ (v0 : Value) (y0 : DataW H × List MemPlace) (n : Nat), v = .agg #[v0] ∧ d = .agg [y0.1] ∧ p = y0.2 ∧ DataW.trod enc P w base spare held n f0.type [v0] = some y0 := by
  obtain ⟨cs, rfl, hsz⟩ := okWide_struct hs hv
  obtain ⟨c0, rfl⟩ : ∃ c0, cs = #[c0] := by
    obtain ⟨l⟩ := cs
    match l, (hsz.trans hC) with
    | [c0], _ => exact ⟨c0, rfl⟩
  obtain ⟨fuel, hf⟩ := h
  obtain ⟨xs, n, _, rfl', hl, hlen, hx⟩ := DataW.trod_struct hs hf
  match xs, hlen with
  | [y0], _ =>
    have h0 := hx 0 f0 rfl
    obtain ⟨o0, k0⟩ := hone_of hone 0 f0 rfl
    simp only [Prod.mk.injEq] at rfl'
    refine ⟨c0, y0, n, rfl, by simpa using rfl'.1, by simpa using rfl'.2, ?_⟩
    simpa [Value.cells, o0, k0] using h0
end Go.Proofs.Ytbiemfbdobdecaa.Opens

/- Plain lemmas on the printed functions that many laws of games share: what wraps, what marks, what equals itself (no condition). -/
namespace Go.Proofs.Ytbiemfbdobdecaa.PX
open Go.RowKit Go.Proofs.YtbiemfbdobdecaaW.PrintWords Go.Proofs.YtbiemfbdobdecaaW.PrintLast Go.Proofs.YtbiemfbdobdecaaW.PrintMore
attribute [local go_sem] max2_int min2_int max_two min_two max_three min_three max_four min_four
set_option linter.unusedVariables false
set_option linter.unusedSimpArgs false
theorem wrapS {i : Int} (h0 : -9223372036854775808 ≤ i) (h : i < 9223372036854775808) : wrap64 i = i := by
  unfold wrap64
  omega
theorem rd_nat (xs : List Int) (i : Nat) : rd xs (i : Int) = xs.getD i 0 := by unfold rd; rfl
theorem rdL1_nat (xs : List (List Int)) (i : Nat) : rd_L1 xs (i : Int) = xs.getD i [] := by unfold rd_L1; rfl
theorem getD_of {α : Type} {xs : List α} {i : Nat} {x d : α} (h : xs[i]? = some x) : xs.getD i d = x := by rw [List.getD_eq_getElem?_getD, h]; rfl
theorem drop_of {α : Type} {xs : List α} {i : Nat} {x : α} (h : xs[i]? = some x) : xs.drop i = x :: xs.drop (i + 1) := by
  obtain ⟨hl, e⟩ := List.getElem?_eq_some_iff.1 h
  rw [List.drop_eq_getElem_cons hl, e]
theorem get_some {α : Type} {xs : List α} {i : Nat} (h : i < xs.length) : ∃ x, xs[i]? = some x := ⟨xs[i], List.getElem?_eq_getElem h⟩
theorem cast_succ (i : Nat) : ((i : Int) + 1) = ((i + 1 : Nat) : Int) := by omega

end Go.Proofs.Ytbiemfbdobdecaa.PX

/- Marks laid into lists of whole numbers, and looked for (no condition but sizes that fit). -/
namespace Go.Proofs.Ytbiemfbdobdecaa.PX
open Go.RowKit Go.Proofs.YtbiemfbdobdecaaW.PrintWords Go.Proofs.YtbiemfbdobdecaaW.PrintLast Go.Proofs.YtbiemfbdobdecaaW.PrintMore
attribute [local go_sem] max2_int min2_int max_two min_two max_three min_three max_four min_four
set_option linter.unusedVariables false
set_option linter.unusedSimpArgs false
/-- The marks that the law lays: a, a + 1, .. -/
def marks (a : Int) (n : Nat) : List Int := (List.range n).map fun (i : Nat) => a + (i : Int)
theorem marks_length (a : Int) (n : Nat) : (marks a n).length = n := by simp [marks]
theorem mark_loop (xs : List Int) (a : Int) (ha : 0 ≤ a) (hn : a + xs.length < 4611686018427387904) (d : Nat) : ∀ (i : Nat), i + d = xs.length →
    Ev (fun k => laws_markInt64S.l0 k (marks a i ++ xs.drop i) (a + i) i) (a + (xs.length : Int), marks a xs.length) := by
  induction d with
  | zero =>
    intro i hd
    have hi : i = xs.length := by omega
    subst hi
    refine Ev.step (f := fun _ => some (a + (xs.length : Int), marks a xs.length)) (fun k => ?_) (Ev.now _)
    simp only [laws_markInt64S.l0]
    rw [if_neg (by simp [marks_length])]
    simp
  | succ d ih =>
    intro i hd
    refine Ev.step (fun k => ?_) (ih (i + 1) (by omega))
    simp only [laws_markInt64S.l0]
    rw [if_pos (by simp only [List.length_append, marks_length, List.length_drop]; omega), if_pos (by omega), wrapS (by omega) (by omega), wrapS (by omega) (by omega)]
    have hs : (marks a i ++ xs.drop i).set ((i : Int)).toNat (a + i) = marks a (i + 1) ++ xs.drop (i + 1) := by
      have hl : i < xs.length := by omega
      have e1 : ((i : Int)).toNat = (marks a i).length := by rw [marks_length]; omega
      rw [List.drop_eq_getElem_cons hl, e1, List.set_append_right _ _ (Nat.le_refl _)]
      simp only [Nat.sub_self, List.set_cons_zero]
      simp [marks, List.range_succ]
    rw [hs, show a + ((i + 1 : Nat) : Int) = a + i + 1 by omega, cast_succ]
theorem mark_ev (xs : List Int) (a : Int) (ha : 0 ≤ a) (hn : a + xs.length < 4611686018427387904) : Ev (fun k => laws_markInt64S.f k xs a) (a + (xs.length : Int), marks a xs.length) := by
  refine Ev.congr (fun k => ?_) (mark_loop xs a ha hn xs.length 0 (by omega))
  unfold laws_markInt64S.f
  simp [marks]
theorem held_loop (n : Nat) (a : Int) (ha : 0 ≤ a) (hn : a + n < 4611686018427387904) (d : Nat) : ∀ (i : Nat), i + d = n →
    Ev (fun k => laws_heldInt64S.l0 k (marks a n) (a + i) i) (a + (n : Int)) := by
  induction d with
  | zero =>
    intro i hd
    have : i = n := by omega
    subst this
    refine Ev.step (f := fun _ => some (a + (i : Int))) (fun k => ?_) (Ev.now _)
    simp only [laws_heldInt64S.l0]
    rw [if_neg (by rw [marks_length]; omega)]
  | succ d ih =>
    intro i hd
    refine Ev.step (fun k => ?_) (ih (i + 1) (by omega))
    simp only [laws_heldInt64S.l0]
    have hr : rd (marks a n) (i : Int) = a + i := by
      have hl : i < n := by omega
      simp [rd, marks, hl]
    rw [if_pos (by rw [marks_length]; omega), if_pos (by omega), if_pos hr, wrapS (by omega) (by omega), wrapS (by omega) (by omega), show a + ((i + 1 : Nat) : Int) = a + i + 1 by omega, cast_succ]
theorem held_ev (n : Nat) (a : Int) (ha : 0 ≤ a) (hn : a + n < 4611686018427387904) : Ev (fun k => laws_heldInt64S.f k (marks a n) a) (a + (n : Int)) := by
  refine Ev.congr (fun k => ?_) (held_loop n a ha hn n 0 (by omega))
  unfold laws_heldInt64S.f
  simp

end Go.Proofs.Ytbiemfbdobdecaa.PX

/- What the laws do with lists of whole numbers: copied, compared, marked, held; their sizes counted (no condition but sizes that fit). -/
namespace Go.Proofs.Ytbiemfbdobdecaa.PX
open Go.RowKit Go.Proofs.YtbiemfbdobdecaaW.PrintWords Go.Proofs.YtbiemfbdobdecaaW.PrintLast Go.Proofs.YtbiemfbdobdecaaW.PrintMore
attribute [local go_sem] max2_int min2_int max_two min_two max_three min_three max_four min_four
set_option linter.unusedVariables false
set_option linter.unusedSimpArgs false
theorem ev_from {α : Type} {g : Nat → Option α} {r : α} (n : Nat) (h : ∀ m, g (n + 1 + m) = some r) : Ev g r := ⟨n + 1, fun k hk => by
  have := h (k - (n + 1))
  rw [show n + 1 + (k - (n + 1)) = k by omega] at this
  exact this⟩
theorem eqI_loop (xs : List Int) (hn : xs.length < 4611686018427387904) (d : Nat) : ∀ i : Nat, i + d = xs.length → Ev (fun k => laws_eqInt64S.l0 k xs xs (i : Int)) true := by
  induction d with
  | zero =>
    intro i hd
    refine Ev.step (f := fun _ => some true) (fun k => ?_) (Ev.now true)
    simp only [laws_eqInt64S.l0]; rw [if_neg (by omega)]
  | succ d ih =>
    intro i hd
    refine Ev.step (fun k => ?_) (ih (i + 1) (by omega))
    simp only [laws_eqInt64S.l0]; rw [if_pos (by omega), if_pos (by omega), if_pos (by omega), if_true, wrapS (by omega) (by omega), cast_succ]
theorem eqI_ev (xs : List Int) (hn : xs.length < 4611686018427387904) : Ev (fun k => laws_eqInt64S.f k xs xs) true := by
  refine Ev.congr (fun k => ?_) (eqI_loop xs hn xs.length 0 (by omega))
  unfold laws_eqInt64S.f
  rw [if_pos rfl]; rfl
theorem toI_loop (xs : List Int) (hn : xs.length < 4611686018427387904) (d : Nat) : ∀ i : Nat, i + d = xs.length → Ev (fun k => laws_toInt64S.l0 k xs (xs.take i ++ List.replicate d 0) (i : Int)) xs := by
  induction d with
  | zero =>
    intro i hd
    rw [List.take_of_length_le (by omega)]
    refine Ev.step (f := fun _ => some xs) (fun k => ?_) (Ev.now xs)
    simp only [laws_toInt64S.l0]; rw [if_neg (by omega)]; simp
  | succ d ih =>
    intro i hd
    obtain ⟨x, hx⟩ := get_some (xs := xs) (i := i) (by omega)
    have hrx : rd xs (i : Int) = x := by rw [rd_nat]; exact getD_of hx
    have hl : (xs.take i).length = i := by rw [List.length_take]; omega
    refine Ev.step (fun k => ?_) (ih (i + 1) (by omega))
    simp only [laws_toInt64S.l0]
    rw [if_pos (by omega), if_pos (by omega), if_pos (by rw [List.length_append, hl, List.length_replicate]; omega), wrapS (by omega) (by omega), hrx, cast_succ]
    have e : (xs.take i ++ List.replicate (d + 1) 0).set ((i : Int)).toNat x = xs.take (i + 1) ++ List.replicate d 0 := by
      have e1 : ((i : Int)).toNat = (xs.take i).length := by rw [hl]; omega
      rw [e1, List.set_append_right _ _ (Nat.le_refl _), Nat.sub_self, List.replicate_succ, List.set_cons_zero]
      obtain ⟨hlt, hxe⟩ := List.getElem?_eq_some_iff.1 hx
      rw [List.take_succ_eq_append_getElem hlt, hxe]
      simp
    rw [e]
theorem toI_ev (xs : List Int) (hn : xs.length ≤ 1048576) : Ev (fun k => laws_toInt64S.f k xs) xs := by
  refine Ev.congr (fun k => ?_) (toI_loop xs (by omega) xs.length 0 (by omega))
  unfold laws_toInt64S.f
  rw [if_pos (by omega), if_pos (by omega)]
  simp
theorem szI_eq (xs : List Int) (a : Int) (h0 : 0 ≤ a) (h1 : a ≤ 1048576) (hn : xs.length ≤ 9223372036854775807) : laws_szInt64S.f xs a = some (if a - xs.length < 0 then -1 else a - xs.length) := by
  unfold laws_szInt64S.f
  rw [wrapS (by omega) (by omega)]
  split <;> rfl

end Go.Proofs.Ytbiemfbdobdecaa.PX

/- What the laws do with games: sizes counted, copied, compared (no condition but sizes that fit). -/
namespace Go.Proofs.Ytbiemfbdobdecaa.PX
open Go.RowKit Go.Proofs.YtbiemfbdobdecaaW.PrintWords Go.Proofs.YtbiemfbdobdecaaW.PrintLast Go.Proofs.YtbiemfbdobdecaaW.PrintMore
attribute [local go_sem] max2_int min2_int max_two min_two max_three min_three max_four min_four
set_option linter.unusedVariables false
set_option linter.unusedSimpArgs false
def total : List (List Int) → Int
  | [] => 0
  | row :: rest => row.length + total rest
theorem total_nonneg : ∀ g : List (List Int), 0 ≤ total g
  | [] => by simp [total]
  | row :: rest => by have := total_nonneg rest; simp only [total]; omega
theorem total_mem {g : List (List Int)} {row : List Int} (h : row ∈ g) : (row.length : Int) ≤ total g := by
  induction g with
  | nil => simp at h
  | cons x rest ih =>
    simp only [total]
    have := total_nonneg rest
    rcases List.mem_cons.1 h with rfl | h
    · omega
    · have := ih h
      omega
theorem szSS_loop (g : List (List Int)) (hl : ∀ row ∈ g, row.length ≤ 9223372036854775807) (hg : g.length ≤ 1048576) (d : Nat) : ∀ (i : Nat) (a : Int), i + d = g.length → 0 ≤ a → a ≤ 1048576 →
    ∃ t, Ev (fun k => laws_szInt64SS.l0 k g a (i : Int)) t ∧ (t < 0 ∨ (0 ≤ t ∧ total (g.drop i) ≤ a ∧ t ≤ a)) := by
  induction d with
  | zero =>
    intro i a hd h0 h1
    refine ⟨a, Ev.step (f := fun _ => some a) (fun k => ?_) (Ev.now a), .inr ⟨h0, ?_⟩⟩
    · simp only [laws_szInt64SS.l0]; rw [if_neg (by omega)]
    · rw [List.drop_eq_nil_of_le (by omega)]; exact ⟨h0, Int.le_refl _⟩
  | succ d ih =>
    intro i a hd h0 h1
    obtain ⟨row, hp⟩ := get_some (xs := g) (i := i) (by omega)
    have hr : rd_L1 g (i : Int) = row := by rw [rdL1_nat]; exact getD_of hp
    have hs := szI_eq row a h0 h1 (hl row (List.mem_of_getElem? hp))
    have h2 : ∀ k, laws_szInt64SS.l0 (k + 1) g a (i : Int) = (if (if a - (row.length : Int) < 0 then -1 else a - row.length) < 0 then (some (-1)) else (laws_szInt64SS.l0 k g (if a - (row.length : Int) < 0 then -1 else a - row.length) ((i + 1 : Nat) : Int))) := fun k => by
      simp only [laws_szInt64SS.l0]
      rw [if_pos (by omega), if_pos (by omega), hr, hs, wrapS (by omega) (by omega), cast_succ]
      rfl
    rw [drop_of hp]
    simp only [total]
    by_cases c : a - (row.length : Int) < 0
    · exact ⟨-1, Ev.step (f := fun _ => some (-1)) (fun k => by rw [h2, if_pos c]; rfl) (Ev.now _), .inl (by omega)⟩
    · obtain ⟨t, ht, hor⟩ := ih (i + 1) (a - row.length) (by omega) (by omega) (by omega)
      refine ⟨t, Ev.step (fun k => by rw [h2, if_neg c, if_neg c]) ht, ?_⟩
      rcases hor with hor | hor
      · exact .inl hor
      · exact .inr ⟨hor.1, by omega, by omega⟩
/-- A game's size counted off from what is left. -/
theorem szG_evb (g : List (List Int)) (b : Int) (hb0 : 0 ≤ b) (hb : b ≤ 1048576) (hg : g.length ≤ 9223372036854775807) (hl : ∀ row ∈ g, row.length ≤ 9223372036854775807) :
    ∃ t, Ev (fun k => laws_szGame.f k g b) t ∧ (t < 0 ∨ (0 ≤ t ∧ t ≤ b ∧ g.length ≤ 1048576 ∧ total g ≤ 1048576)) := by
  by_cases c : b - g.length < 0
  · refine ⟨-1, Ev.congr (f := fun _ => some (-1)) (fun k => ?_) (Ev.now _), .inl (by omega)⟩
    unfold laws_szGame.f laws_szInt64SS.f
    rw [wrapS (by omega) (by omega), if_pos c]; rfl
  · obtain ⟨t, ht, hor⟩ := szSS_loop g hl (by omega) g.length 0 (b - g.length) (by omega) (by omega) (by omega)
    have hS : Ev (fun k => laws_szInt64SS.f k g b) t := Ev.congr (fun k => by unfold laws_szInt64SS.f; rw [wrapS (by omega) (by omega), if_neg c]; rfl) ht
    rcases hor with hor | hor
    · refine ⟨-1, ?_, .inl (by omega)⟩
      refine Ev.congr (f := fun k => (laws_szInt64SS.f k g b).bind fun t => (if t < 0 then (some (-1)) else (some t))) (fun k => rfl) (Ev.bind hS ?_)
      exact Ev.congr (f := fun _ => some (-1)) (fun k => by rw [if_pos hor]) (Ev.now _)
    · refine ⟨t, ?_, .inr ⟨hor.1, by omega, by omega, by rw [List.drop_zero] at hor; omega⟩⟩
      refine Ev.congr (f := fun k => (laws_szInt64SS.f k g b).bind fun t => (if t < 0 then (some (-1)) else (some t))) (fun k => rfl) (Ev.bind hS ?_)
      exact Ev.congr (f := fun _ => some t) (fun k => by rw [if_neg (by omega)]) (Ev.now _)
theorem szG_ev (g : List (List Int)) (hg : g.length ≤ 9223372036854775807) (hl : ∀ row ∈ g, row.length ≤ 9223372036854775807) :
    ∃ t, Ev (fun k => laws_szGame.f k g 1048576) t ∧ (t < 0 ∨ (0 ≤ t ∧ g.length ≤ 1048576 ∧ total g ≤ 1048576)) := by
  by_cases c : (1048576 : Int) - g.length < 0
  · refine ⟨-1, Ev.congr (f := fun _ => some (-1)) (fun k => ?_) (Ev.now _), .inl (by omega)⟩
    unfold laws_szGame.f laws_szInt64SS.f
    rw [wrapS (by omega) (by omega), if_pos c]; rfl
  · obtain ⟨t, ht, hor⟩ := szSS_loop g hl (by omega) g.length 0 (1048576 - g.length) (by omega) (by omega) (by omega)
    have hS : Ev (fun k => laws_szInt64SS.f k g 1048576) t := Ev.congr (fun k => by unfold laws_szInt64SS.f; rw [wrapS (by omega) (by omega), if_neg c]; rfl) ht
    rcases hor with hor | hor
    · refine ⟨-1, ?_, .inl (by omega)⟩
      refine Ev.congr (f := fun k => (laws_szInt64SS.f k g 1048576).bind fun t => (if t < 0 then (some (-1)) else (some t))) (fun k => rfl) (Ev.bind hS ?_)
      exact Ev.congr (f := fun _ => some (-1)) (fun k => by rw [if_pos hor]) (Ev.now _)
    · refine ⟨t, ?_, .inr ⟨hor.1, by omega, by rw [List.drop_zero] at hor; omega⟩⟩
      refine Ev.congr (f := fun k => (laws_szInt64SS.f k g 1048576).bind fun t => (if t < 0 then (some (-1)) else (some t))) (fun k => rfl) (Ev.bind hS ?_)
      exact Ev.congr (f := fun _ => some t) (fun k => by rw [if_neg (by omega)]) (Ev.now _)
theorem toSS_loop (g : List (List Int)) (hl : ∀ row ∈ g, row.length ≤ 1048576) (hg : g.length ≤ 1048576) (d : Nat) : ∀ i : Nat, i + d = g.length → Ev (fun k => laws_toInt64SS.l0 k g (g.take i ++ List.replicate d []) (i : Int)) g := by
  induction d with
  | zero =>
    intro i hd
    rw [List.take_of_length_le (by omega)]
    refine Ev.step (f := fun _ => some g) (fun k => ?_) (Ev.now g)
    simp only [laws_toInt64SS.l0]; rw [if_neg (by omega)]; simp
  | succ d ih =>
    intro i hd
    obtain ⟨row, hp⟩ := get_some (xs := g) (i := i) (by omega)
    have hr : rd_L1 g (i : Int) = row := by rw [rdL1_nat]; exact getD_of hp
    have hlen : (g.take i).length = i := by rw [List.length_take]; omega
    refine Ev.step (f := fun k => (laws_toInt64S.f k row).bind fun t => laws_toInt64SS.l0 k g ((g.take i ++ List.replicate (d + 1) []).set ((i : Int)).toNat t) ((i + 1 : Nat) : Int)) (fun k => ?_) (Ev.bind (toI_ev row (hl row (List.mem_of_getElem? hp))) ?_)
    · simp only [laws_toInt64SS.l0]
      rw [if_pos (by omega), if_pos (by omega), hr, wrapS (by omega) (by omega), cast_succ]
      congr 1
      funext t
      rw [if_pos (by rw [List.length_append, hlen, List.length_replicate]; omega)]
    · refine Ev.congr (fun k => ?_) (ih (i + 1) (by omega))
      have e1 : ((i : Int)).toNat = (g.take i).length := by rw [hlen]; omega
      have e : (g.take i ++ List.replicate (d + 1) []).set ((i : Int)).toNat row = g.take (i + 1) ++ List.replicate d [] := by
        rw [e1, List.set_append_right _ _ (Nat.le_refl _), Nat.sub_self, List.replicate_succ, List.set_cons_zero]
        obtain ⟨hlt, hxe⟩ := List.getElem?_eq_some_iff.1 hp
        rw [List.take_succ_eq_append_getElem hlt, hxe]
        simp
      rw [e]
theorem toG_ev (g : List (List Int)) (hg : g.length ≤ 1048576) (ht : total g ≤ 1048576) : Ev (fun k => laws_toGame.f k g) g := by
  have hl : ∀ row ∈ g, row.length ≤ 1048576 := fun row h => by have := total_mem h; omega
  have h := toSS_loop g hl hg g.length 0 (by omega)
  have hS : Ev (fun k => laws_toInt64SS.f k g) g := Ev.congr (fun k => by unfold laws_toInt64SS.f; rw [if_pos (by omega), if_pos (by omega)]; simp) h
  exact Ev.congr (f := fun k => (laws_toInt64SS.f k g).bind fun t => some t) (fun k => rfl) (Ev.bind hS (Ev.now g))
theorem eqSS_loop (g : List (List Int)) (hl : ∀ row ∈ g, row.length < 4611686018427387904) (hg : g.length < 4611686018427387904) (d : Nat) : ∀ i : Nat, i + d = g.length → Ev (fun k => laws_eqInt64SS.l0 k g g (i : Int)) true := by
  induction d with
  | zero =>
    intro i hd
    refine Ev.step (f := fun _ => some true) (fun k => ?_) (Ev.now true)
    simp only [laws_eqInt64SS.l0]; rw [if_neg (by omega)]
  | succ d ih =>
    intro i hd
    obtain ⟨row, hp⟩ := get_some (xs := g) (i := i) (by omega)
    have hr : rd_L1 g (i : Int) = row := by rw [rdL1_nat]; exact getD_of hp
    refine Ev.step (f := fun k => (laws_eqInt64S.f k row row).bind fun t => if t = true then laws_eqInt64SS.l0 k g g ((i + 1 : Nat) : Int) else some false) (fun k => ?_) (Ev.bind (eqI_ev row (hl row (List.mem_of_getElem? hp))) ?_)
    · simp only [laws_eqInt64SS.l0]
      rw [if_pos (by omega), if_pos (by omega), if_pos (by omega), hr, wrapS (by omega) (by omega), cast_succ]
    · exact Ev.congr (fun k => by simp) (ih (i + 1) (by omega))
theorem eqG_ev (g : List (List Int)) (hl : ∀ row ∈ g, row.length < 4611686018427387904) (hg : g.length < 4611686018427387904) : Ev (fun k => laws_eqGame.f k g g) true := by
  have hS : Ev (fun k => laws_eqInt64SS.f k g g) true := Ev.congr (fun k => by unfold laws_eqInt64SS.f; rw [if_pos rfl]; rfl) (eqSS_loop g hl hg g.length 0 (by omega))
  exact Ev.congr (f := fun k => (laws_eqInt64SS.f k g g).bind fun t => if t = true then some true else some false) (fun k => rfl) (Ev.bind hS (Ev.congr (f := fun _ => some true) (fun k => by simp) (Ev.now true)))

end Go.Proofs.Ytbiemfbdobdecaa.PX

/- markInt64SS, a contract: the marks a, a + 1, .. lie in rows that lie apart, and nothing else has turned (conditions: the rows are the caller's own and apart; sizes fit). -/
namespace Go.Proofs.Ytbiemfbdobdecaa.PX
open Go.RowKit Go.Proofs.YtbiemfbdobdecaaW.PrintWords Go.Proofs.YtbiemfbdobdecaaW.PrintLast Go.Proofs.YtbiemfbdobdecaaW.PrintMore
attribute [local go_sem] max2_int min2_int max_two min_two max_three min_three max_four min_four
set_option linter.unusedVariables false
set_option linter.unusedSimpArgs false
/-- The marks, row by row. -/
def markL (a : Int) : List (List Int) → List (List Int)
  | [] => []
  | row :: rest => marks a row.length :: markL (a + row.length) rest
theorem markL_length : ∀ (a : Int) (g : List (List Int)), (markL a g).length = g.length
  | _, [] => rfl
  | a, row :: rest => by simp only [markL, List.length_cons, markL_length]
theorem total_append : ∀ (g h : List (List Int)), total (g ++ h) = total g + total h
  | [], h => by simp [total]
  | row :: rest, h => by simp only [List.cons_append, total, total_append rest h]; omega
theorem markL_append : ∀ (a : Int) (g h : List (List Int)), markL a (g ++ h) = markL a g ++ markL (a + total g) h
  | a, [], h => by simp [markL, total]
  | a, row :: rest, h => by
    simp only [List.cons_append, markL, total, markL_append _ rest h]
    rw [show a + (row.length : Int) + total rest = a + (row.length + total rest) by omega]
theorem take_snoc {α : Type} {xs : List α} {j : Nat} {x : α} (h : xs[j]? = some x) : xs.take (j + 1) = xs.take j ++ [x] := by
  obtain ⟨hl, e⟩ := List.getElem?_eq_some_iff.1 h
  rw [List.take_succ_eq_append_getElem hl, e]
theorem total_take (g : List (List Int)) (j : Nat) : 0 ≤ total (g.take j) ∧ total (g.take j) ≤ total g := by
  have h1 := total_nonneg (g.take j)
  have h2 := total_nonneg (g.drop j)
  have h3 : total g = total (g.take j) + total (g.drop j) := by rw [← total_append, List.take_append_drop]
  omega
set_option maxHeartbeats 8000000 in
set_option maxRecDepth 100000 in
theorem laws_markInt64SS.calls (ok : Nat → Prop) (v : Value) (xs : List (List Int)) (a : Int) (w0 w : World) (hB : Below w0.heap.size w0 w) (ho : Kd.S (Kd.slice 2 (Kd.int .i64)) 36 w w0.heap.size ok v xs) (ha : 0 ≤ a) (hn : a + total xs < 4611686018427387904) (hl : xs.length < 4611686018427387904) :
    Calls Try.prog 35 #[v, .int .i64 a] w fun e w' => e = .returned (.int .i64 (a + total xs)) ∧ Kd.S (Kd.slice 2 (Kd.int .i64)) 36 w' w0.heap.size ok v (markL a xs) ∧ Below w0.heap.size w0 w' ∧ Kept w w' ok := by
  obtain ⟨A, c, hv⟩ := Kd.S_slice ho
  obtain ⟨n, hnl⟩ : ∃ n, n = xs.length := ⟨_, rfl⟩
  rw [← hnl] at hv
  subst hv
  have HO := Aside0.mk ho
  have HB := Aside0.mk hB
  have HN := Aside0.mk hnl
  have HA := Aside0.mk ha
  have HT := Aside0.mk hn
  have HL := Aside0.mk hl
  clear ho hB hnl ha hn hl
  go_enter Try.func35, Try.ntmps35
  go_wp2
  go_loopg [1, 5] (n + 1) (fun kq v1 v5 wr => ∃ (x1 x5 : Int), v1 = .int .i64 x1 ∧ v5 = .int .i64 x5 ∧ Aside0 (∃ j : Nat, x5 = (j : Int) ∧ x1 = a + total (xs.take j) ∧ j ≤ n ∧ kq + j = n + 1 ∧ Kd.S (Kd.slice 2 (Kd.int .i64)) 36 wr w0.heap.size ok (.slice A n c) (markL a (xs.take j) ++ xs.drop j)) ∧ Aside0 (Below w0.heap.size w0 wr) ∧ Aside0 (Kept w wr ok))
  case atStart => exact ⟨a, 0, (by first | rfl | (simp; done) | (simp [*]; done)), (by first | rfl | (simp; done) | (simp [*]; done)), ⟨0, rfl, by simp [total], Nat.zero_le _, rfl, by simpa [markL] using HO.out⟩, HB, ⟨Kept.refl _ _⟩⟩
  case round =>
    obtain ⟨x1, x5, rfl, rfl, ⟨j, h5, h1, hj, hq, hS⟩, HBr, HK⟩ := hrel
    have H5 := Aside0.mk h5
    have H1 := Aside0.mk h1
    have HJ := Aside0.mk hj
    have HQ := Aside0.mk hq
    have HS := Aside0.mk hS
    clear h5 h1 hj hq hS
    by_cases c3 : x5 < (n : Int)
    · have hjn : j < xs.length := by have := H5.out; have := HN.out; omega
      obtain ⟨row, hrow⟩ := get_some hjn
      have hlen : (markL a (xs.take j)).length = j := by rw [markL_length, List.length_take]; omega
      obtain ⟨g, cap, hg, _, _, _⟩ := Kd.S_form HS.out (by rw [List.length_append, hlen, List.length_drop]; omega)
      injection hg with hA hn_ hc
      clear hn_
      subst hA
      subst hc
      have hi0 : 0 ≤ x5 := by rw [H5.out]; omega
      obtain ⟨oki, cl, hcl, hM, hcc, hoki, hH⟩ := Kd.S_lend HS.out [] x5 hi0 c3
      obtain ⟨vj, rfl, hR⟩ := hM
      have hget : (markL a (xs.take j) ++ xs.drop j).getD x5.toNat [] = row := by
        rw [H5.out, Int.toNat_natCast]
        apply getD_of
        rw [List.getElem?_append_right (by omega), hlen, Nat.sub_self, List.getElem?_drop, Nat.add_zero, hrow]
      rw [hget] at hR
      have hx := hcc 0 vj rfl
      simp only [show ((Kd.slice 2 (Kd.int .i64))).sz = 1 from rfl, Nat.mul_one, Nat.add_zero] at hx
      have htl := total_take xs j
      have htr : total (xs.take (j + 1)) = total (xs.take j) + row.length := by rw [take_snoc hrow, total_append]; simp [total]
      have htl2 := total_take xs (j + 1)
      obtain ⟨K, hK⟩ := mark_ev row x1 (by have := H1.out; have := HA.out; omega) (by have := H1.out; have := HT.out; omega)
      have HM := Aside0.mk (hK K (Nat.le_refl _))
      have HR := Aside0.mk hR
      have HH := Aside0.mk hH
      have HOK := Aside0.mk hoki
      have HROW := Aside0.mk hrow
      have HLEN := Aside0.mk hlen
      have HTR := Aside0.mk htr
      have HTL := Aside0.mk htl
      have HTL2 := Aside0.mk htl2
      have c3b0 : decide (x5 < (n : Int)) = true := decide_eq_true c3
      have c4b0 : decide (0 ≤ x5) = true := decide_eq_true hi0
      have HJN := Aside0.mk hjn
      clear hK hR hH hoki hrow hlen htr htl htl2 hget hcl hcc hjn
      replace hi0 := eq_true hi0
      replace c3 := eq_true c3
      go_wp2_with ((with_reducible refine gate_callee (f := 20) rfl ?_); refine goesL_ (some 17) rfl rfl Try.func20 (by kernel_rfl) rfl #[vj, .int .i64 x1] rfl (by (try simp only [List.map_toArray, List.map_cons, List.map_nil]); first | done | rfl) ?_; (with_reducible refine (laws_markInt64S.calls K oki vj row x1 _ _ w0 wr HBr.out HR.out HM.out).mono ?_); rintro e w1 ⟨rfl, hy0, hb, hkp⟩; refine ⟨_, rfl, ?_⟩; have HY := Aside0.mk (Kd.R_reok rfl hy0 (fun k_ e_ => HR.out.1 k_ e_)); have HBn := Aside0.mk hb; have HKP := Aside0.mk hkp; clear hy0 hb hkp)
      go_roundg (n - j)
      case measure => have := HQ.out; have := HJ.out; have := HJN.out; have := HN.out; omega
      case rel =>
        refine ⟨x1 + (row.length : Int), wrap64 (x5 + 1), (by first | rfl | (simp; done) | (simp [*]; done)), (by first | rfl | (simp; done) | (simp [*]; done)), ⟨j + 1, ?_, ?_, ?_, ?_, ?_⟩, HBn, ⟨HK.out.then_ HKP.out (fun k hk => .inl (HOK.out k hk).1)⟩⟩
        · have := H5.out; have := HJN.out; have := HL.out; unfold wrap64; omega
        · rw [HTR.out, H1.out]; omega
        · have := HJN.out; have := HN.out; omega
        · have := HQ.out; have := HJN.out; have := HN.out; omega
        · have hb := Kd.H_back (Kd.H_kept HH.out HKP.out (fun k _ h2 h3 => h2 h3)) (x' := marks x1 row.length) ⟨vj, rfl, HY.out⟩ (fun k hk => hk)
          have e : (markL a (xs.take j) ++ xs.drop j).set x5.toNat (marks x1 row.length) = markL a (xs.take (j + 1)) ++ xs.drop (j + 1) := by
            rw [H5.out, Int.toNat_natCast, drop_of HROW.out, take_snoc HROW.out, markL_append, H1.out]
            conv => lhs; rw [show j = (markL a (xs.take j)).length from HLEN.out.symm]
            rw [HLEN.out, List.set_append_right _ _ (by rw [HLEN.out]; exact Nat.le_refl _), HLEN.out, Nat.sub_self, List.set_cons_zero]
            simp [markL]
          rw [e] at hb
          exact hb
    · have c3b0 : decide (x5 < (n : Int)) = false := decide_eq_false c3
      have HC := Aside0.mk c3
      clear c3
      go_wp2
      go_ret
      have hjn : j = n := by have := HC.out; have := H5.out; have := HJ.out; omega
      have hS := HS.out
      rw [hjn, HN.out, List.take_length, List.drop_length, List.append_nil] at hS
      have h1 := H1.out
      rw [hjn, HN.out, List.take_length] at h1
      refine ⟨?_, ?_, HBr.out, HK.out⟩
      · rw [← h1]; rfl
      · rw [HN.out]; exact hS

end Go.Proofs.Ytbiemfbdobdecaa.PX

/- markGame, a contract: the marks lie in the game's rows, and nothing else that was there has turned (conditions: the rows are the caller's own and apart; sizes fit). -/
namespace Go.Proofs.Ytbiemfbdobdecaa.PX
open Go.RowKit Go.Proofs.YtbiemfbdobdecaaW.PrintWords Go.Proofs.YtbiemfbdobdecaaW.PrintLast Go.Proofs.YtbiemfbdobdecaaW.PrintMore
attribute [local go_sem] max2_int min2_int max_two min_two max_three min_three max_four min_four
set_option linter.unusedVariables false
set_option linter.unusedSimpArgs false
set_option maxHeartbeats 8000000 in
set_option maxRecDepth 100000 in
theorem laws_markGame.calls (ok : Nat → Prop) (A : Option Addr) (n c : Nat) (xs : List (List Int)) (a : Int) (w0 w : World) (hB : Below w0.heap.size w0 w) (ho : Kd.S (Kd.slice 2 (Kd.int .i64)) 36 w w0.heap.size ok (.slice A n c) xs) (ha : 0 ≤ a) (hn : a + total xs < 4611686018427387904) (hl : xs.length < 4611686018427387904) :
    Calls Try.prog 13 #[.agg #[.slice A n c], .int .i64 a] w fun e w' => e = .returned (.int .i64 (a + total xs)) ∧ Kd.S (Kd.slice 2 (Kd.int .i64)) 36 w' w0.heap.size ok (.slice A n c) (markL a xs) ∧ Below w0.heap.size w0 w' ∧ Kept w w' ok := by
  have HO := Aside0.mk ho
  have HB := Aside0.mk hB
  have HA := Aside0.mk ha
  have HT := Aside0.mk hn
  have HL := Aside0.mk hl
  clear ho hB ha hn hl
  have huG := Try.underlying26
  go_enter Try.func13, Try.ntmps13
  go_wp2_with (first | ((with_reducible refine gate_dst (N := 2) rfl ?_); refine box_event ?hg (N := 2) ?hd (cs := #[.slice A n c]) (t := 26) ?hr ?_; (case hd => rfl); (case hg => rfl); (case hr => first | (go_simp; done) | (go_simp; rfl)); intro gb hg w2 hbox hb; have n0_ := Aside0.mk (Kd.S_below HO.out hb); have n1_ := Aside0.mk (below_then HB.out HB.out.size hb); have HK := Aside0.mk (Kept.of_below hb ok); have HBX := Aside0.mk hbox; clear HO HB hb hbox hg; have HO := n0_; have HB := n1_; clear n0_ n1_; have hcz : w2.cell? ⟨gb, 0, none⟩ = some (.slice A n c) := (blk_cell HBX.out 0).trans rfl; have hfz := blk_frozen HBX.out 0) | ((with_reducible refine gate_callee (f := 35) rfl ?_); refine goesL_ (some 8) rfl rfl Try.func35 (by kernel_rfl) rfl #[.slice A n c, .int .i64 a] rfl (by (try simp only [List.map_toArray, List.map_cons, List.map_nil]); first | done | rfl) ?_; (with_reducible refine (laws_markInt64SS.calls ok _ xs a w0 _ HB.out HO.out HA.out HT.out HL.out).mono ?_); rintro e w3 ⟨rfl, hs, hb, hk⟩; refine ⟨_, rfl, ?_⟩; have HS := Aside0.mk hs; have HB3 := Aside0.mk hb; have HK3 := Aside0.mk hk; clear hs hb hk hcz hfz))
  go_ret
  exact ⟨rfl, HS.out, HB3.out, HK.out.then_ HK3.out (fun k hk => .inl hk)⟩

end Go.Proofs.Ytbiemfbdobdecaa.PX

/- The walk of the program's chosen, for any function value that answers V from a state and turns one block of memory and the state (conditions: the state is told by St, which a growth of memory leaves; each call answers). -/
namespace Go.Proofs.Ytbiemfbdobdecaa.PX
open Go.RowKit Go.Proofs.YtbiemfbdobdecaaW.PrintWords Go.Proofs.YtbiemfbdobdecaaW.PrintLast Go.Proofs.YtbiemfbdobdecaaW.PrintMore
attribute [local go_sem] max2_int min2_int max_two min_two max_three min_three max_four min_four
set_option linter.unusedVariables false
set_option linter.unusedSimpArgs false
section
variable {σ : Type} (V : σ → Int → Option (Bool × σ))
def chosenS.l0 : Nat → σ → List Int → Int → Int → Option (List Int)
  | 0, _, _, _, _ => none
  | k + 1, s, x5, x8, x9 => if x9 < x8 then ((V s x9).bind fun t => (if t.1 = true then (if x5.length < 17592186044416 then (chosenS.l0 k t.2 (x5 ++ [x9]) x8 (wrap64 (x9 + 1))) else (none)) else (chosenS.l0 k t.2 x5 x8 (wrap64 (x9 + 1))))) else (some x5)
def chosenS.f (k : Nat) (s : σ) (a0 : Int) : Option (List Int) := chosenS.l0 V k s [] a0 0
end
theorem chosenS.mono_l {σ : Type} (V : σ → Int → Option (Bool × σ)) : ∀ k s x5 x8 x9, LeO (chosenS.l0 V k s x5 x8 x9) (chosenS.l0 V (k + 1) s x5 x8 x9)
  | 0, _, _, _, _ => fun r h => by simp [chosenS.l0] at h
  | k + 1, s, x5, x8, x9 => by
    unfold chosenS.l0
    refine LeO.ite (LeO.bind (LeO.refl _) fun t => LeO.ite (LeO.ite (chosenS.mono_l V k _ _ _ _) (LeO.none _)) (chosenS.mono_l V k _ _ _ _)) (LeO.refl _)
theorem chosenS.mono {σ : Type} (V : σ → Int → Option (Bool × σ)) (s : σ) (a0 : Int) (k : Nat) : LeO (chosenS.f V k s a0) (chosenS.f V (k + 1) s a0) := chosenS.mono_l V k s [] a0 0
set_option maxHeartbeats 8000000 in
set_option maxRecDepth 100000 in
theorem chosenS.calls {σ : Type} (V : σ → Int → Option (Bool × σ)) (St : σ → World → Prop) (cf : FuncId) (cap : Array Value) (hF : HasFn cf) (B0 bm : Nat) (k : Nat) (s : σ) (a0 : Int) (r : List Int) (w : World)
    (hb0 : B0 ≤ bm) (hbm : bm < w.heap.size)
    (hV : ∀ (s : σ) (x : Int) (t : Bool × σ) (w1 : World), St s w1 → V s x = some t → Calls Try.prog cf (#[.int .i64 x] ++ cap) w1 fun e w' => e = .returned (.bool t.1) ∧ St t.2 w' ∧ w1.grownBy w' (some bm))
    (hS : ∀ (s : σ) (w1 w2 : World), w.heap.size ≤ w1.heap.size → St s w1 → Below w.heap.size w1 w2 → St s w2) (h0 : St s w) (h : chosenS.f V k s a0 = some r) :
    Calls Try.prog 43 #[.int .i64 a0, .func (.func cf) #[] cap] w fun e w' => ∃ v0_ : Value, e = .returned (v0_) ∧ Kd.R (Kd.int .i64) 2 w' w.heap.size (fun _ => True) v0_ r ∧ Below B0 w w' := by
  have HF := Aside0.mk hF
  have HV := Aside0.mk hV
  have HS := Aside0.mk hS
  have H0 := Aside0.mk h0
  have HB0 := Aside0.mk hb0
  have HBM := Aside0.mk hbm
  clear hF hV hS h0 hb0 hbm
  have HB := Aside0.mk (Below.refl w.heap.size w)
  have H' : Aside0 (chosenS.l0 V k s [] a0 0 = some r) := Aside0.mk h
  clear h
  go_enter Try.func43, Try.ntmps43
  go_wp2_with (first | ((with_reducible refine gate_dst (N := 7) rfl ?_); refine Kd.R_lit (Kd.int .i64) _ 2 ?hg (N := 7) ?hd (xs := ([] : List Int)) (inner := []) (ok := fun _ => True) (okp := fun _ => True) ?hr ?hp (fun _ hk => hk) trivial (Below.refl _ _) (Nat.le_refl _) (by simp) ?_; (case hd => rfl); (case hg => rfl); (case hr => first | (go_simp; done) | (go_simp; rfl)); (case hp => exact (Reps.none _ _)); intro v162 w3 ho4 hb hg_ hnew_; clear hg_ hnew_; have HO163 := Aside0.mk ho4; have n1_ := Aside0.mk (below_step HB.out hb); clear HB; have HB := n1_; clear n1_; clear hb ho4))
  have HS3 := Aside0.mk (HS.out s w w3 (Nat.le_refl _) H0.out HB.out)
  have HB3 := Aside0.mk (HB.out.mono (Nat.le_trans HB0.out (Nat.le_of_lt HBM.out)))
  go_loopg [5, 9] k (fun kq v5 v9 w' => ∃ (s1 : σ) (x5_1 : List Int) (x9_1 : Int), v9 = .int .i64 x9_1 ∧ Aside0 (chosenS.l0 V kq s1 x5_1 a0 x9_1 = some r) ∧ Aside0 (kq ≤ k) ∧ Aside0 (Kd.R (Kd.int .i64) 2 w' w.heap.size (fun _ => True) v5 x5_1) ∧ Aside0 (Below B0 w w') ∧ Aside0 (St s1 w'))
  case atStart => exact ⟨s, [], 0, rfl, H', ⟨Nat.le_refl _⟩, HO163, HB3, HS3⟩
  case round =>
    clear H' HB HB3 HS3
    try clear p2
    obtain ⟨s1, x5_1, x9_1, rfl, HA, HK1, HO_5, HB, HS1⟩ := hrel
    cases gk with
    | zero => exact absurd HA.out (by simp [chosenS.l0])
    | succ k1 =>
      have H := HA.out
      clear HA
      simp only [chosenS.l0] at H
      by_cases c5 : x9_1 < a0
      · rw [if_pos c5] at H
        have c5b0 : decide (x9_1 < a0) = true := decide_eq_true c5
        clear c5
        replace H := Option.bind_eq_some_iff.mp H
        obtain ⟨⟨t1, s2⟩, A60, H⟩ := H
        have A6 := Aside0.mk A60
        clear A60
        cases t1 with
        | true =>
          replace H : (if x5_1.length < 17592186044416 then (chosenS.l0 V k1 s2 (x5_1 ++ [x9_1]) a0 (wrap64 (x9_1 + 1))) else (none)) = some r := H
          by_cases c8 : x5_1.length < 17592186044416
          · rw [if_pos c8] at H
            have LMc8 := Aside0.mk c8
            clear c8
            have H' := Aside0.mk H
            clear H
            go_wp2_with (first | ((with_reducible refine gate_dst (N := 14) rfl ?_); refine goesV_ (some 14) rfl rfl cf cap HF.out #[.int .i64 x9_1] rfl rfl (by (try simp only [List.map_toArray, List.map_cons, List.map_nil]); first | done | rfl | (simp only [List.length_drop, List.length_take]; rfl)) ?_; (with_reducible refine (HV.out s1 x9_1 (true, s2) _ HS1.out A6.out).mono ?_); rintro e w4 ⟨rfl, hs, hg⟩; refine ⟨_, rfl, ?_⟩; have HSZ := Aside0.mk (Nat.le_trans HB.out.size hg.size); have n0_ := Aside0.mk (Below.grown HB.out hg (Nat.le_trans (Nat.le_trans HB0.out (Nat.le_of_lt HBM.out)) HB.out.size) (fun j hj => by cases hj; exact HB0.out)); have n1_ := Aside0.mk (Kd.R_mono (Kd.R_grown (Kd.R_bound HO_5.out) hg (fun j hj e => by cases e; have h1 := hj.2.1; have h2 := HBM.out; omega)) (fun _ hk => hk.1)); have n2_ := Aside0.mk hs; clear HB HO_5 HS1 hs hg; have HB := n0_; have HO_5 := n1_; have HS1 := n2_; clear n0_ n1_ n2_) | ((with_reducible refine gate_builtin (b := .append) (xs := #[.tmp 15, .tmp 17]) rfl ?_); at_builtin; refine Kd.R_append (Kd.int .i64) (w0 := w4) w.heap.size rfl (.tmp 15) (.tmp 17) 36 2 (.int .i64 0) 8 rfl Try.underlying36 info2 rfl (by decide) (by omega) u5 x5_1 x9_1 [.int .i64 x9_1] (fun _ => True) (fun _ => False) rfl rfl ?aP (fun _ hk => hk.elim) ?aF ?aO ?aB ?aS ?aL ?_; (case aP => exact rfl); (case aB => exact (by repeat (first | (with_reducible first | exact Below.refl _ _ | refine Below.alloc ?_ HSZ.out _ | apply pw_below_drewN | apply below_drew) | exact Below.refl _ _))); (case aF => exact (fun _ _ => trivial)); (case aO => exact (by (with_reducible repeat (first | apply Kd.R_alloc | apply Kd.R_drewN | apply Kd.R_drew)); exact HO_5.out)); (case aS => exact Nat.le_trans HSZ.out (by simp)); (case aL => have := LMc8.out; omega); intro v166 w9 ho hb hg hat; have n0_ := Aside0.mk (HB.out.trans (hb.mono (Nat.le_trans HB0.out (Nat.le_of_lt HBM.out)))); have n1_ := Aside0.mk ho; have n2_ := Aside0.mk (HS.out _ _ _ HSZ.out HS1.out hb); clear HB; clear HO_5; clear HS1; have HB := n0_; have HO167 := n1_; have HS1 := n2_; clear n0_ n1_ n2_; clear ho hb hg hat))
            go_roundg k1
            case measure => have := HK1.out; omega
            case rel => exact ⟨s2, (x5_1 ++ [x9_1]), (wrap64 (x9_1 + 1)), (by first | rfl | (simp; done) | (simp [*]; done)), H', ⟨by have := HK1.out; omega⟩, HO167, HB, HS1⟩
          · rw [if_neg c8] at H
            exact absurd H (by simp)
        | false =>
          replace H : (chosenS.l0 V k1 s2 x5_1 a0 (wrap64 (x9_1 + 1))) = some r := H
          have H' := Aside0.mk H
          clear H
          go_wp2_with (first | ((with_reducible refine gate_dst (N := 14) rfl ?_); refine goesV_ (some 14) rfl rfl cf cap HF.out #[.int .i64 x9_1] rfl rfl (by (try simp only [List.map_toArray, List.map_cons, List.map_nil]); first | done | rfl | (simp only [List.length_drop, List.length_take]; rfl)) ?_; (with_reducible refine (HV.out s1 x9_1 (false, s2) _ HS1.out A6.out).mono ?_); rintro e w4 ⟨rfl, hs, hg⟩; refine ⟨_, rfl, ?_⟩; have HSZ := Aside0.mk (Nat.le_trans HB.out.size hg.size); have n0_ := Aside0.mk (Below.grown HB.out hg (Nat.le_trans (Nat.le_trans HB0.out (Nat.le_of_lt HBM.out)) HB.out.size) (fun j hj => by cases hj; exact HB0.out)); have n1_ := Aside0.mk (Kd.R_mono (Kd.R_grown (Kd.R_bound HO_5.out) hg (fun j hj e => by cases e; have h1 := hj.2.1; have h2 := HBM.out; omega)) (fun _ hk => hk.1)); have n2_ := Aside0.mk hs; clear HB HO_5 HS1 hs hg; have HB := n0_; have HO_5 := n1_; have HS1 := n2_; clear n0_ n1_ n2_))
          go_roundg k1
          case measure => have := HK1.out; omega
          case rel => exact ⟨s2, x5_1, (wrap64 (x9_1 + 1)), (by first | rfl | (simp; done) | (simp [*]; done)), H', ⟨by have := HK1.out; omega⟩, ⟨by (with_reducible repeat (first | apply Kd.R_alloc | apply Kd.R_drewN | apply Kd.R_drew)); exact HO_5.out⟩, HB, HS1⟩
      · rw [if_neg c5] at H
        have c5b0 : decide (x9_1 < a0) = false := decide_eq_false c5
        clear c5
        obtain rfl := Option.some.inj H
        go_wp2
        go_ret
        exact ⟨_, rfl, HO_5.out, HB.out⟩

end Go.Proofs.Ytbiemfbdobdecaa.PX

/- A set as a map from numbers to truth values that the call made: looked up and added to, number by number (no condition but that the numbers are ones of 64 bits). -/
namespace Go.Proofs.Ytbiemfbdobdecaa.PX
open Go.RowKit Go.Proofs.YtbiemfbdobdecaaW.PrintWords Go.Proofs.YtbiemfbdobdecaaW.PrintLast Go.Proofs.YtbiemfbdobdecaaW.PrintMore
attribute [local go_sem] max2_int min2_int max_two min_two max_three min_three max_four min_four
set_option linter.unusedVariables false
set_option linter.unusedSimpArgs false
open Go.Maps (Keyed)
def setD (L : List Int) : DataW Unit := L.foldl (fun D x => D.put (.int .i64 x) (.lit (.bool true))) (.map [])
theorem setD_snoc (L : List Int) (x : Int) : setD (L ++ [x]) = (setD L).put (.int .i64 x) (.lit (.bool true)) := by unfold setD; rw [List.foldl_append]; rfl
theorem foldD_at (x : Int) : ∀ (L : List Int) (D : DataW Unit), Go.Maps.IsMap D → (L.foldl (fun D x => D.put (.int .i64 x) (.lit (.bool true))) D).atKey (.int .i64 x) (.lit (.bool false)) = if x ∈ L then .lit (.bool true) else D.atKey (.int .i64 x) (.lit (.bool false))
  | [], D, _ => by simp
  | y :: L, D, h => by
    rw [List.foldl_cons, foldD_at x L _ (h.put _ _)]
    by_cases c : x ∈ L
    · rw [if_pos c, if_pos (List.mem_cons_of_mem _ c)]
    · rw [if_neg c]
      by_cases e : x = y
      · subst e
        rw [if_pos List.mem_cons_self]
        exact Go.Maps.atKey_put_same h (show Go.WideAt.IsKeyLit (.int .i64 x) from trivial) _ _
      · rw [if_neg (fun hm => by rcases List.mem_cons.1 hm with h1 | h1; exact e h1; exact c h1)]
        exact Go.Maps.atKey_put_other (fun h1 => e (by injection h1)) _ _
theorem setD_at (L : List Int) (x : Int) : (setD L).atKey (.int .i64 x) (.lit (.bool false)) = .lit (.bool (decide (x ∈ L))) := by
  unfold setD
  rw [foldD_at x L _ ⟨[], rfl⟩]
  by_cases c : x ∈ L
  · rw [if_pos c, decide_eq_true c]
  · rw [if_neg c, decide_eq_false c]; rfl
theorem keyLaw : Keyed Try.prog 2 := Go.Maps.int_keyed Try.underlying2
theorem zeroB (w : World) : (zeroValue 4).run Try.prog w = .ok (.bool false) w := by kernel_rfl
def SetAt (w : World) (b : Nat) (L : List Int) : Prop := w.ownsMap Try.prog 2 (plainElem (H := Unit) Try.prog 4) b L.length (setD L)
theorem SetAt.kept {w w' : World} {b : Nat} {L : List Int} {row : Option Nat} (h : SetAt w b L) (hg : w.grownBy w' row) (hne : some b ≠ row) : SetAt w' b L := World.ownsMap.kept h hg hne
theorem SetAt.below {w w' : World} {B b : Nat} {L : List Int} (h : SetAt w b L) (hg : Below B w w') (hb : b < B) : SetAt w' b L := by
  obtain ⟨es, clock, h1, F, hs, hD⟩ := h
  exact ⟨es, clock, (hg.block b hb).trans h1, F, hs, hD⟩
theorem SetAt.made (w : World) : SetAt (w.alloc (.map #[] 0)) w.heap.size [] := World.ownsMap_made w _ _ _
section
variable {ops : Array Oper} {rest : List Oper} {o : Oper} {a : Act} {Q : Exit → Act → World → Prop} {w : World}
theorem set_look (hg : o.guard = none) (m x : Operand) (hop : o.op = Op.lookup 57 m x false) (b : Nat) (L : List Int) (k : Int)
    (hm : a.eval m = .map (some b)) (h : SetAt w b L) (hx : a.eval x = .int .i64 k) (hk : (Lit.int .i64 k).wf = true)
    (hK : wpList Try.prog ops Q rest (a.put o.dst (.bool (decide (k ∈ L)))) w) : wpList Try.prog ops Q (o :: rest) a w := by
  refine wpList_plain hg fun K' hK' => ?_
  obtain ⟨v, ps, hrun, hv⟩ := World.ownsMap.lookup h keyLaw Try.underlying57 (zeroB w) (plainElem_bool Try.underlying4 false) (Go.Maps.keyOf_int_mk Try.underlying2 hk)
  rw [setD_at] at hv
  have e : v = .bool (decide (k ∈ L)) := by
    unfold plainElem at hv
    rw [Try.underlying4] at hv
    cases v <;> simp at hv
    rw [hv.1]
  subst e
  unfold Oper.wp
  simp [execOp, hop, hm, hx, hrun, Result.andThen]
  exact hK' _ _ hK
theorem set_put (hg : o.guard = none) (m x v : Operand) (hop : o.op = Op.mapUpdate 57 m x v ∨ o.op = Op.insert 57 m x v) (b : Nat) (L : List Int) (k : Int)
    (hm : a.eval m = .map (some b)) (h : SetAt w b L) (hn : L.length < maxLen) (hx : a.eval x = .int .i64 k) (hv : a.eval v = .bool true) (hk : (Lit.int .i64 k).wf = true)
    (hK : ∀ w', SetAt w' b (L ++ [k]) → w.grownBy w' (some b) → wpList Try.prog ops Q rest (a.put o.dst undef) w') : wpList Try.prog ops Q (o :: rest) a w := by
  refine wpList_plain hg fun K' hK' => ?_
  obtain ⟨w', hrun, r1, r2⟩ := World.ownsMap.update h keyLaw Try.underlying57 hn (Go.Maps.keyOf_int_mk Try.underlying2 hk) (plainElem_bool Try.underlying4 true)
  unfold Oper.wp
  have r3 : SetAt w' b (L ++ [k]) := by
    unfold SetAt
    rw [setD_snoc, List.length_append]
    exact r1
  rcases hop with hop | hop <;> simp [execOp, hop, hm, hx, hv, hrun, Result.andThen] <;> exact hK' _ _ (hK w' r3 r2)
theorem map_event (hgd : o.guard = none) {N : Tmp} (_hd : o.dst = some N)
    (hrun : (execOp a.eval o).run Try.prog w = .ok (.value (.map (some w.heap.size))) (w.alloc (.map #[] 0)))
    (h : ∀ g, g = w.heap.size → ∀ w1, SetAt w1 g [] → Below w.heap.size w w1 → wpList Try.prog ops Q rest (a.put o.dst (.map (some g))) w1) : wpList Try.prog ops Q (o :: rest) a w :=
  Kd.event_run hgd hrun (h _ rfl _ (SetAt.made w) (below_alloc (Below.refl _ _) _))
end

end Go.Proofs.Ytbiemfbdobdecaa.PX

/- The walk of the program's ReachedFrom: its test of a place, which adds to the set of the places reached, and the list of the places that it chooses (conditions: the slices read as the lists; each call answers). -/
namespace Go.Proofs.Ytbiemfbdobdecaa.PX
open Go.RowKit Go.Proofs.YtbiemfbdobdecaaW.PrintWords Go.Proofs.YtbiemfbdobdecaaW.PrintLast Go.Proofs.YtbiemfbdobdecaaW.PrintMore
attribute [local go_sem] max2_int min2_int max_two min_two max_three min_three max_four min_four
set_option linter.unusedVariables false
set_option linter.unusedSimpArgs false
def reachV (g : List (List Int)) (L : List Int) (q : Int) : Option (Bool × List Int) :=
  if 0 ≤ q then (if q < (g.length : Int) then (if q ∈ L then (if L.length + (rd_L1 g q).length < 4294967296 then (if (rd_L1 g q).all (fun x => (Lit.int .i64 x).wf) = true then some (true, L ++ rd_L1 g q) else none) else none) else some (false, L)) else none) else none
theorem reached1_has : HasFn 44 := ⟨_, Try.func44, by kernel_rfl, rfl⟩
theorem SetAt.ne {w : World} {b g : Nat} {L : List Int} {cs : Array Value} {t : TypeId} {fr : Nat × Nat} (h : SetAt w b L) (hg : w.heap[g]? = some (.cells cs t fr)) : some g ≠ some b := by
  obtain ⟨es, clock, h1, _⟩ := h
  intro e
  cases e
  rw [h1] at hg
  cases hg
set_option maxHeartbeats 8000000 in
set_option maxRecDepth 100000 in
theorem reached1.calls (w0 : World) (A0 : Option Addr) (c0 : Nat) (g : List (List Int)) (hr : Kd.C (Kd.slice 2 (Kd.int .i64)) w0 A0 g.length g) (gb b7 bm : Nat) (hbm : w0.heap.size ≤ bm) (L : List Int) (x : Int) (t : Bool × List Int) (w : World)
    (hb : Below w0.heap.size w0 w) (hG : w.heap[gb]? = some (.cells #[.slice A0 g.length c0] 26 (0, 0))) (hM : w.heap[b7]? = some (.cells #[.map (some bm)] 57 (0, 0)))
    (hS : SetAt w bm L) (h : reachV g L x = some t) :
    Calls Try.prog 44 (#[.int .i64 x] ++ #[.pointer (some ⟨b7, 0, none⟩), .pointer (some ⟨gb, 0, none⟩)]) w fun e w' => e = .returned (.bool t.1) ∧ SetAt w' bm t.2 ∧ w.grownBy w' (some bm) := by
  show Calls Try.prog 44 #[.int .i64 x, .pointer (some ⟨b7, 0, none⟩), .pointer (some ⟨gb, 0, none⟩)] w fun e w' => e = .returned (.bool t.1) ∧ SetAt w' bm t.2 ∧ w.grownBy w' (some bm)
  have hu := Try.underlying26
  have hmax := Kd.C_max hr
  have HR := Aside0.mk hr
  have HBM := Aside0.mk hbm
  have HB := Aside0.mk hb
  have HG := Aside0.mk hG
  have HM := Aside0.mk hM
  have HS := Aside0.mk hS
  have hzg : w.cell? ⟨gb, 0, none⟩ = some (.slice A0 g.length c0) := (blk_cell HG.out 0).trans rfl
  have hfg := blk_frozen HG.out 0
  have hzm : w.cell? ⟨b7, 0, none⟩ = some (.map (some bm)) := (blk_cell HM.out 0).trans rfl
  have hfm := blk_frozen HM.out 0
  clear hr hbm hb hG hM hS
  unfold reachV at h
  by_cases c1 : 0 ≤ x
  · rw [if_pos c1] at h
    by_cases c2 : x < (g.length : Int)
    · rw [if_pos c2] at h
      have HX := Aside0.mk (show (Lit.int .i64 x).wf = true from WalkArith.wf_i64 (by omega))
      clear hmax
      by_cases c3 : x ∈ L
      · rw [if_pos c3] at h
        by_cases c4 : L.length + (rd_L1 g x).length < 4294967296
        · rw [if_pos c4] at h
          by_cases c5 : (rd_L1 g x).all (fun x => (Lit.int .i64 x).wf) = true
          · rw [if_pos c5] at h
            obtain rfl := Option.some.inj h
            clear h
            have C3 := Aside0.mk (decide_eq_true c3)
            have C3' := Aside0.mk c3
            have C4 := Aside0.mk c4
            have C5 := Aside0.mk c5
            clear c3 c4 c5
            have c1b := decide_eq_true c1
            have c2b := decide_eq_true c2
            obtain ⟨ad, A1, c6, e1, hx, hl, hi⟩ := at_L1 HR.out x c1 c2
            cases e1
            replace hx := (HB.out.cell (World.block_lt_of_cell? w0 _ hx)).trans hx
            have HI := Aside0.mk hi
            generalize rd_L1 g x = row at *
            replace c1 := eq_true c1
            replace c2 := eq_true c2
            clear hi
            go_enter Try.func44, Try.ntmps44
            go_wp2_with (first | (at_lookup; refine set_look rfl _ _ rfl bm L x rfl HS.out rfl HX.out ?_; rw [C3.out]))
            go_loopg [16] (row.length + 1) (fun kq v16 w' => ∃ (x16 : Int), v16 = .int .i64 x16 ∧ Aside0 (∃ j : Nat, x16 = (j : Int) ∧ j ≤ row.length ∧ kq + j = row.length + 1 ∧ SetAt w' bm (L ++ row.take j)) ∧ Aside0 (w.grownBy w' (some bm)))
            case atStart => exact ⟨0, rfl, ⟨0, rfl, Nat.zero_le _, rfl, by rw [List.take_zero, List.append_nil]; exact HS.out⟩, ⟨World.grownBy.refl _ _⟩⟩
            case round =>
              obtain ⟨x16, rfl, ⟨j, hj0, hj1, hj2, hj3⟩, HGR⟩ := hrel
              have HJ := Aside0.mk hj0
              have HJ1 := Aside0.mk hj1
              have HJ2 := Aside0.mk hj2
              have HJ3 := Aside0.mk hj3
              clear hj0 hj1 hj2 hj3 hzg hfg hzm hfm hx
              have HBr := Aside0.mk (Below.grown HB.out HGR.out HB.out.size (fun k hk => by cases hk; exact HBM.out))
              have HMr := Aside0.mk (blk_grown HM.out HGR.out (SetAt.ne HS.out HM.out))
              have hzm : wr.cell? ⟨b7, 0, none⟩ = some (.map (some bm)) := (blk_cell HMr.out 0).trans rfl
              have hfm := blk_frozen HMr.out 0
              by_cases c7 : x16 < (row.length : Int)
              · have c7b : decide (x16 < (row.length : Int)) = true := decide_eq_true c7
                have p7 : 0 ≤ x16 := by rw [HJ.out]; omega
                have p7b : decide (0 ≤ x16) = true := decide_eq_true p7
                obtain ⟨ad2, e2, hx2⟩ := Kd.at_int HI.out x16 p7 c7
                cases e2
                replace hx2 := (HBr.out.cell (World.block_lt_of_cell? w0 _ hx2)).trans hx2
                obtain ⟨y, hy⟩ : ∃ y, row[j]? = some y := ⟨_, List.getElem?_eq_getElem (by have := HJ.out; omega)⟩
                have hrd : rd row x16 = y := by
                  unfold rd
                  rw [HJ.out, Int.toNat_natCast, List.getD_eq_getElem?_getD, hy]; rfl
                rw [hrd] at hx2
                have HY := Aside0.mk hy
                have HW := Aside0.mk (List.all_eq_true.1 C5.out y (List.mem_of_getElem? hy))
                clear hy hrd
                replace p7 := eq_true p7
                replace c7 := eq_true c7
                go_wp2_with (first | (at_mapUpdate; refine set_put rfl _ _ _ (.inl rfl) bm (L ++ row.take j) y rfl HJ3.out (by have := C4.out; simp only [List.length_append, List.length_take]; unfold maxLen; omega) rfl rfl HW.out ?_; intro w5 hs5 hg5))
                go_roundg (row.length - j)
                case measure => have := HJ1.out; have := HJ2.out; have := (List.getElem?_eq_some_iff.1 HY.out).1; omega
                case rel =>
                  have hlt := (List.getElem?_eq_some_iff.1 HY.out).1
                  refine ⟨(wrap64 (x16 + 1)), (by first | rfl | (simp; done) | (simp [*]; done)), ⟨j + 1, ?_, hlt, ?_, ?_⟩, ⟨HGR.out.trans hg5⟩⟩
                  · have := HJ.out; have := Kd.C_max HI.out; unfold wrap64; omega
                  · have := HJ2.out; omega
                  · rw [List.take_add_one, HY.out, ← List.append_assoc]; exact hs5
              · have c7b : decide (x16 < (row.length : Int)) = false := decide_eq_false c7
                have HN := Aside0.mk c7
                clear c7
                have HEND := Aside0.mk (show SetAt wr bm (L ++ row) by
                  have h1 := HJ3.out
                  rw [List.take_of_length_le (by have := HN.out; have := HJ.out; omega)] at h1
                  exact h1)
                go_wp2_with (first | (at_lookup; refine set_look rfl _ _ rfl bm (L ++ row) x rfl HEND.out rfl HX.out ?_; rw [decide_eq_true (List.mem_append_left row C3'.out)]))
                go_ret
                exact ⟨rfl, HEND.out, HGR.out⟩
          · rw [if_neg c5] at h
            exact absurd h (by simp)
        · rw [if_neg c4] at h
          exact absurd h (by simp)
      · rw [if_neg c3] at h
        obtain rfl := Option.some.inj h
        clear h
        have C3 := Aside0.mk (decide_eq_false c3)
        clear c3
        go_enter Try.func44, Try.ntmps44
        go_wp2_with (first | (at_lookup; refine set_look rfl _ _ rfl bm L x rfl HS.out rfl HX.out ?_; rw [C3.out]))
        go_ret
        exact ⟨rfl, HS.out, World.grownBy.refl _ _⟩
    · rw [if_neg c2] at h
      exact absurd h (by simp)
  · rw [if_neg c1] at h
    exact absurd h (by simp)
theorem gate_insert {P : Program} {ops : Array Oper} {Q : Exit → Act → World → Prop} {rest : List Oper} {o : Oper} {a : Act} {w : World} {t : TypeId} {m x v : Operand} (_h : o.op = .insert t m x v) (h : wpList P ops Q (o :: rest) a w) : wpList P ops Q (o :: rest) a w := h
def impl_ReachedFrom.f (k : Nat) (g : List (List Int)) (p : Int) : Option (List Int × Int) := (impl_placeCode.f k g p).bind fun t => if t = 0 then (if (Lit.int .i64 p).wf = true then (chosenS.f (reachV g) k [p] (g.length : Int)).bind fun r => some (r, 0) else none) else some ([], t)
theorem impl_ReachedFrom.mono : ∀ a0 a1 k, LeO (impl_ReachedFrom.f k a0 a1) (impl_ReachedFrom.f (k + 1) a0 a1) := by
  intro a0 a1 k
  unfold impl_ReachedFrom.f
  refine LeO.bind (impl_placeCode.mono _ _ _) (fun _ => ?_)
  exact LeO.ite (LeO.ite (LeO.bind (chosenS.mono _ _ _ _) (fun _ => LeO.refl _)) (LeO.refl _)) (LeO.refl _)
set_option maxHeartbeats 16000000 in
set_option maxRecDepth 100000 in
theorem impl_ReachedFrom.calls (k : Nat) (A0_0 : Option Addr) (c0_0 : Nat) (l0_0 : List (List Int)) (a1 : Int) (r1 : List Int) (r2 : Int) (w : World) (hr0_0 : Kd.C (Kd.slice 2 (Kd.int .i64)) w A0_0 l0_0.length l0_0) (hc0_0 : l0_0.length ≤ c0_0) (h : impl_ReachedFrom.f k l0_0 a1 = some (r1, r2)) :
    Calls Try.prog 18 #[.agg #[.slice A0_0 l0_0.length c0_0], .int .i64 a1] w fun e w' => ∃ v0_ : Value, e = .returned (.tuple #[v0_, .int .i64 r2]) ∧ Kd.R (Kd.int .i64) 2 w' w.heap.size (fun _ => True) v0_ r1 ∧ Below w.heap.size w w' := by
  have hu26 := Try.underlying26
  have HR0_0 := Aside0.mk hr0_0
  have HC0_0 := Aside0.mk hc0_0
  clear hr0_0 hc0_0
  have HB := Aside0.mk (Below.refl w.heap.size w)
  unfold impl_ReachedFrom.f at h
  obtain ⟨t, A20, h⟩ := Option.bind_eq_some_iff.mp h
  have A2 := Aside0.mk A20
  clear A20
  by_cases c : t = 0
  · subst c
    rw [if_pos rfl] at h
    by_cases c1 : (Lit.int .i64 a1).wf = true
    · rw [if_pos c1] at h
      have HW1 := Aside0.mk c1
      clear c1
      obtain ⟨r, A30, h⟩ := Option.bind_eq_some_iff.mp h
      have A3 := Aside0.mk A30
      clear A30
      simp only [Option.some.injEq, Prod.mk.injEq] at h
      obtain ⟨rfl, rfl⟩ := h
      go_enter Try.func18, Try.ntmps18
      go_wp2_with (first | ((with_reducible refine gate_dst (N := 2) rfl ?_); refine box_event ?hg (N := 2) ?hd (cs := #[.slice A0_0 l0_0.length c0_0]) (t := 26) ?hr ?_; (case hd => rfl); (case hg => rfl); (case hr => first | (go_simp; done) | (go_simp; rfl)); intro gb1 hg w2 hbox hb; have GPgb1 := Aside0.mk hg; have BK := Aside0.mk hbox; clear hg hbox; have n0_ := Aside0.mk (below_then HB.out HB.out.size hb); clear HB; have HB := n0_; clear n0_; clear hb; (try clear hz_gb1); have hz_gb1 : w2.cell? ⟨gb1, 0, none⟩ = some (.slice A0_0 l0_0.length c0_0) := (blk_cell BK.out 0).trans rfl; (try clear hf_gb1); have hf_gb1 := blk_frozen BK.out 0) | ((with_reducible refine gate_dst (N := 10) rfl ?_); refine goesL_ (some 10) rfl rfl Try.func42 (by kernel_rfl) rfl #[.agg #[.slice A0_0 l0_0.length c0_0], .int .i64 a1] rfl (by (try simp only [List.map_toArray, List.map_cons, List.map_nil]); first | done | rfl) ?_; (with_reducible refine (impl_placeCode.calls k _ _ l0_0 a1 0 _ ?side1 ?side2 A2.out).mono ?_); (case side1 => exact Kd.C_below HR0_0.out HB.out); (case side2 => exact HC0_0.out); rintro e w3 ⟨rfl, hb⟩; refine ⟨_, rfl, ?_⟩; have n0_ := Aside0.mk (below_then HB.out HB.out.size hb); have n1_ := Aside0.mk (blk_below (g := gb1) (o := .cells #[.slice A0_0 l0_0.length c0_0] 26 (0, 0)) BK.out hb); clear HB BK; have HB := n0_; have BK := n1_; clear n0_ n1_; clear hb; (try clear hz_gb1); have hz_gb1 : w3.cell? ⟨gb1, 0, none⟩ = some (.slice A0_0 l0_0.length c0_0) := (blk_cell BK.out 0).trans rfl; (try clear hf_gb1); have hf_gb1 := blk_frozen BK.out 0) | ((with_reducible refine gate_dst (N := 14) rfl ?_); refine map_event ?hg (N := 14) ?hd ?hr ?_; (case hd => rfl); (case hg => rfl); (case hr => first | (go_simp; done) | (go_simp; rfl)); intro bm hg w4 hs hb; have GPbm := Aside0.mk (show w.heap.size ≤ bm by rw [hg]; exact HB.out.size); have HS := Aside0.mk hs; clear hg hs; have n0_ := Aside0.mk (below_then HB.out HB.out.size hb); have n1_ := Aside0.mk (blk_below (g := gb1) (o := .cells #[.slice A0_0 l0_0.length c0_0] 26 (0, 0)) BK.out hb); clear HB BK; have HB := n0_; have BK := n1_; clear n0_ n1_; clear hb; (try clear hz_gb1); have hz_gb1 : w4.cell? ⟨gb1, 0, none⟩ = some (.slice A0_0 l0_0.length c0_0) := (blk_cell BK.out 0).trans rfl; (try clear hf_gb1); have hf_gb1 := blk_frozen BK.out 0) | ((with_reducible refine gate_insert rfl ?_); refine set_put rfl _ _ _ (.inr rfl) bm [] a1 rfl HS.out (by unfold maxLen; simp) rfl rfl HW1.out ?_; intro w5 hs hg; have n0_ := Aside0.mk (Below.grown HB.out hg HB.out.size (fun k hk => by cases hk; exact GPbm.out)); have n1_ := Aside0.mk (blk_grown (o := .cells #[.slice A0_0 l0_0.length c0_0] 26 (0, 0)) BK.out hg (SetAt.ne HS.out BK.out)); have n2_ := Aside0.mk ((show SetAt w5 bm [a1] from hs)); clear HB BK HS; have HB := n0_; have BK := n1_; have HS := n2_; clear n0_ n1_ n2_; clear hs hg; (try clear hz_gb1); have hz_gb1 : w5.cell? ⟨gb1, 0, none⟩ = some (.slice A0_0 l0_0.length c0_0) := (blk_cell BK.out 0).trans rfl; (try clear hf_gb1); have hf_gb1 := blk_frozen BK.out 0) | ((with_reducible refine gate_dst (N := 7) rfl ?_); refine box_event ?hg (N := 7) ?hd (cs := #[.map none]) (t := 57) ?hr ?_; (case hd => rfl); (case hg => rfl); (case hr => first | (go_simp; done) | (go_simp; rfl)); intro gb2 hg w6 hbox hb; have GPgb2 := Aside0.mk hg; have BK20 := Aside0.mk hbox; clear hg hbox; have LT := Aside0.mk (World.ownsMap.lt HS.out); have L1 := Aside0.mk (blk_lt BK.out); have H4 := Aside0.mk HB.out.size; have n0_ := Aside0.mk (below_then HB.out HB.out.size hb); have n1_ := Aside0.mk (blk_below (g := gb1) (o := .cells #[.slice A0_0 l0_0.length c0_0] 26 (0, 0)) BK.out hb); have n2_ := Aside0.mk (SetAt.below HS.out hb LT.out); clear HB BK HS; have HB := n0_; have BK := n1_; have HS := n2_; clear n0_ n1_ n2_; clear hb; (try clear hz_gb1); have hz_gb1 : w6.cell? ⟨gb1, 0, none⟩ = some (.slice A0_0 l0_0.length c0_0) := (blk_cell BK.out 0).trans rfl; (try clear hf_gb1); have hf_gb1 := blk_frozen BK.out 0; (try clear hz_gb2); have hz_gb2 : w6.cell? ⟨gb2, 0, none⟩ = some (.map none) := (blk_cell BK20.out 0).trans rfl; (try clear hf_gb2); have hf_gb2 := blk_frozen BK20.out 0) | ((with_reducible refine gate_store (t := 57) (p := 7) rfl ?_); refine store_event (t := 57) (p := 7) (v := ?vo_w6) (w1 := (w6.setCell ⟨gb2, 0, none⟩ (.map (some bm)))) ?hg ?ho ?hn ?hr ?_; (case ho => rfl); (case hg => rfl); (case hn => rfl); (case hr => first | (go_simp; done) | (go_simp; rfl)); intro w7 hw; have n0_ := Aside0.mk ((by rw [hw]; exact below_set (HB.out) (by have g_ := GPgb2.out; have hb_ := H4.out; omega) : Below w.heap.size w w7)); have n1_ := Aside0.mk ((by rw [hw]; exact blk_far (BK.out) (by have l1_ := L1.out; have g2_ := GPgb2.out; show gb1 ≠ gb2; omega) _ : w7.heap[gb1]? = some (.cells #[.slice A0_0 l0_0.length c0_0] 26 (0, 0)))); have n2_ := Aside0.mk ((by rw [hw]; exact blk_put (cs := #[.map none]) (BK20.out) 0 _ rfl : w7.heap[gb2]? = some (.cells #[.map (some bm)] 57 (0, 0)))); have n3_ := Aside0.mk ((by rw [hw]; exact World.ownsMap.setCell HS.out (by have l1_ := LT.out; have g2_ := GPgb2.out; show bm ≠ gb2; omega) _ : SetAt w7 bm [a1])); clear HB BK BK20 HS; have HB := n0_; have BK := n1_; have BK20 := n2_; have HS := n3_; clear n0_ n1_ n2_ n3_; have BK2 := BK20; clear BK20 hw; (try clear hz_gb1); have hz_gb1 : w7.cell? ⟨gb1, 0, none⟩ = some (.slice A0_0 l0_0.length c0_0) := (blk_cell BK.out 0).trans rfl; (try clear hf_gb1); have hf_gb1 := blk_frozen BK.out 0; (try clear hz_gb2); have hz_gb2 : w7.cell? ⟨gb2, 0, none⟩ = some (.map (some bm)) := (blk_cell BK2.out 0).trans rfl; (try clear hf_gb2); have hf_gb2 := blk_frozen BK2.out 0) | ((with_reducible refine gate_dst (N := 19) rfl ?_); refine goesL_ (some 19) rfl rfl Try.func31 (by kernel_rfl) rfl #[.slice A0_0 l0_0.length c0_0] rfl (by (try simp only [List.map_toArray, List.map_cons, List.map_nil]); first | done | rfl) ?_; (with_reducible refine (calls_below (impl_size_int64.calls _ _ l0_0 (l0_0.length : Int) _ ?side1 ?side2 rfl)).mono ?_); (case side1 => exact Kd.C_below HR0_0.out HB.out); (case side2 => exact HC0_0.out); rintro e w8 ⟨rfl, hb⟩; refine ⟨_, rfl, ?_⟩; have LT7 := Aside0.mk (World.ownsMap.lt HS.out); have n0_ := Aside0.mk (below_then HB.out HB.out.size hb); have n1_ := Aside0.mk (blk_below (g := gb1) (o := .cells #[.slice A0_0 l0_0.length c0_0] 26 (0, 0)) BK.out hb); have n2_ := Aside0.mk (blk_below (g := gb2) (o := .cells #[.map (some bm)] 57 (0, 0)) BK2.out hb); have n3_ := Aside0.mk (SetAt.below HS.out hb LT7.out); clear HB BK BK2 HS; have HB := n0_; have BK := n1_; have BK2 := n2_; have HS := n3_; clear n0_ n1_ n2_ n3_; clear hb; (try clear hz_gb1); have hz_gb1 : w8.cell? ⟨gb1, 0, none⟩ = some (.slice A0_0 l0_0.length c0_0) := (blk_cell BK.out 0).trans rfl; (try clear hf_gb1); have hf_gb1 := blk_frozen BK.out 0; (try clear hz_gb2); have hz_gb2 : w8.cell? ⟨gb2, 0, none⟩ = some (.map (some bm)) := (blk_cell BK2.out 0).trans rfl; (try clear hf_gb2); have hf_gb2 := blk_frozen BK2.out 0) | ((with_reducible refine gate_dst (N := 21) rfl ?_); refine goesL_ (some 21) rfl rfl Try.func43 (by kernel_rfl) rfl #[.int .i64 (l0_0.length : Int), .func (.func 44) #[] #[.pointer (some ⟨gb2, 0, none⟩), .pointer (some ⟨gb1, 0, none⟩)]] rfl (by (try simp only [List.map_toArray, List.map_cons, List.map_nil]); first | done | rfl) ?_; have LT8 := Aside0.mk (World.ownsMap.lt HS.out); refine (chosenS.calls (reachV l0_0) (fun s w1 => SetAt w1 bm s ∧ w1.heap[gb2]? = some (.cells #[.map (some bm)] 57 (0, 0)) ∧ w1.heap[gb1]? = some (.cells #[.slice A0_0 l0_0.length c0_0] 26 (0, 0)) ∧ Below w.heap.size w w1) _ _ reached1_has w.heap.size bm k [a1] _ r _ GPbm.out LT8.out (fun s x t w1 hst hv => (reached1.calls w A0_0 c0_0 l0_0 HR0_0.out gb1 gb2 bm GPbm.out s x t w1 hst.2.2.2 hst.2.2.1 hst.2.1 hst.1 hv).mono (fun e w2_ hh => ⟨hh.1, ⟨hh.2.1, blk_grown hst.2.1 hh.2.2 (SetAt.ne hst.1 hst.2.1), blk_grown hst.2.2.1 hh.2.2 (SetAt.ne hst.1 hst.2.2.1), Below.grown hst.2.2.2 hh.2.2 hst.2.2.2.size (fun j hj => by cases hj; exact GPbm.out)⟩, hh.2.2⟩)) (fun s w1 w2_ hsz hst hb => ⟨SetAt.below hst.1 hb LT8.out, (hb.block gb2 (blk_lt BK2.out)).trans hst.2.1, (hb.block gb1 (blk_lt BK.out)).trans hst.2.2.1, hst.2.2.2.trans (hb.mono HB.out.size)⟩) ⟨HS.out, BK2.out, BK.out, HB.out⟩ A3.out).mono ?_; rintro e w9 ⟨v9, rfl, ho, hb⟩; refine ⟨_, rfl, ?_⟩; have HO := Aside0.mk (Kd.R_lower ho HB.out.size); have n0_ := Aside0.mk (HB.out.trans hb); clear HB; have HB := n0_; clear n0_; clear hb ho))
      go_ret2
      exact ⟨_, rfl, HO.out, HB.out⟩
    · rw [if_neg c1] at h
      exact absurd h (by simp)
  · rw [if_neg c] at h
    simp only [Option.some.injEq, Prod.mk.injEq] at h
    obtain ⟨rfl, rfl⟩ := h
    have hne : (t != 0) = true := bne_iff_ne.mpr c
    have hne2 : (t == 0) = false := beq_eq_false_iff_ne.mpr c
    go_enter Try.func18, Try.ntmps18
    go_wp2_with (first | ((with_reducible refine gate_dst (N := 2) rfl ?_); refine box_event ?hg (N := 2) ?hd (cs := #[.slice A0_0 l0_0.length c0_0]) (t := 26) ?hr ?_; (case hd => rfl); (case hg => rfl); (case hr => first | (go_simp; done) | (go_simp; rfl)); intro gb1 hg w2 hbox hb; have GPgb1 := Aside0.mk hg; have BK := Aside0.mk hbox; clear hg hbox; have n0_ := Aside0.mk (below_then HB.out HB.out.size hb); clear HB; have HB := n0_; clear n0_; clear hb; (try clear hz_gb1); have hz_gb1 : w2.cell? ⟨gb1, 0, none⟩ = some (.slice A0_0 l0_0.length c0_0) := (blk_cell BK.out 0).trans rfl; (try clear hf_gb1); have hf_gb1 := blk_frozen BK.out 0) | ((with_reducible refine gate_dst (N := 10) rfl ?_); refine goesL_ (some 10) rfl rfl Try.func42 (by kernel_rfl) rfl #[.agg #[.slice A0_0 l0_0.length c0_0], .int .i64 a1] rfl (by (try simp only [List.map_toArray, List.map_cons, List.map_nil]); first | done | rfl) ?_; (with_reducible refine (impl_placeCode.calls k _ _ l0_0 a1 t _ ?side1 ?side2 A2.out).mono ?_); (case side1 => exact Kd.C_below HR0_0.out HB.out); (case side2 => exact HC0_0.out); rintro e w3 ⟨rfl, hb⟩; refine ⟨_, rfl, ?_⟩; have n0_ := Aside0.mk (below_then HB.out HB.out.size hb); have n1_ := Aside0.mk (blk_below (g := gb1) (o := .cells #[.slice A0_0 l0_0.length c0_0] 26 (0, 0)) BK.out hb); clear HB BK; have HB := n0_; have BK := n1_; clear n0_ n1_; clear hb; (try clear hz_gb1); have hz_gb1 : w3.cell? ⟨gb1, 0, none⟩ = some (.slice A0_0 l0_0.length c0_0) := (blk_cell BK.out 0).trans rfl; (try clear hf_gb1); have hf_gb1 := blk_frozen BK.out 0))
    go_ret2
    exact ⟨_, rfl, Kd.R_nil _ _ _ _ _, HB.out⟩

end Go.Proofs.Ytbiemfbdobdecaa.PX

/- The law FnExactReachedFrom along its good road: where the callees answer alike, it returns true and leaves all old memory as it was. -/
namespace Go.Proofs.Ytbiemfbdobdecaa.PX
open Go.RowKit Go.Proofs.YtbiemfbdobdecaaW.PrintWords Go.Proofs.YtbiemfbdobdecaaW.PrintLast Go.Proofs.YtbiemfbdobdecaaW.PrintMore
attribute [local go_sem] max2_int min2_int max_two min_two max_three min_three max_four min_four
set_option linter.unusedVariables false
set_option linter.unusedSimpArgs false

set_option maxHeartbeats 16000000 in
set_option maxRecDepth 100000 in
theorem laws_FnExactReachedFrom.good (k : Nat) (A0_0 : Option Addr) (c0_0 : Nat) (l0_0 : List (List Int)) (a1 : Int) (tsz0 : Int) (r0 : List Int) (r1 : Int) (tm0 : Int) (tm1 : Int) (w : World) (hr0_0 : Kd.C (Kd.slice 2 (Kd.int .i64)) w A0_0 l0_0.length l0_0) (hc0_0 : l0_0.length ≤ c0_0) (D_tsz0 : decide (tsz0 < 0) = false) (E_laws_szGame_8_h : laws_szGame.f k l0_0 1048576 = some tsz0) (E_laws_toGame_11_h : laws_toGame.f k l0_0 = some l0_0) (E_spec_ReachedFrom_19_h : spec_ReachedFrom.f k l0_0 a1 = some (r0, r1)) (E_impl_ReachedFrom_42_h : impl_ReachedFrom.f k l0_0 a1 = some (r0, r1)) (E_laws_eqInt64S_50_h : laws_eqInt64S.f k r0 r0 = some true) (E_laws_eqGame_62_h : laws_eqGame.f k l0_0 l0_0 = some true) (D_tm0 : decide (tm0 < 0) = false) (HM1_F31_h : 1 + total l0_0 < 4611686018427387904) (HM2_F31_h : l0_0.length < 4611686018427387904) (tm0_eq_h : 1 + total l0_0 = tm0) (D_tm1 : decide (tm1 < 0) = false) (E_laws_markInt64S_69_h : laws_markInt64S.f k r0 1 = some (tm1, marks 1 r0.length)) (E_laws_heldInt64S_72_h : laws_heldInt64S.f k (marks 1 r0.length) 1 = some tm1) :
    Calls Try.prog 5 #[.agg #[.slice A0_0 l0_0.length c0_0], .int .i64 a1] w fun e w' => e = .returned (.bool true) ∧ Below w.heap.size w w' := by
  have HR0_0 := Aside0.mk hr0_0
  have HC0_0 := Aside0.mk hc0_0
  clear hr0_0 hc0_0
  have E_laws_szGame_8 := Aside0.mk E_laws_szGame_8_h
  clear E_laws_szGame_8_h
  have E_laws_toGame_11 := Aside0.mk E_laws_toGame_11_h
  clear E_laws_toGame_11_h
  have E_spec_ReachedFrom_19 := Aside0.mk E_spec_ReachedFrom_19_h
  clear E_spec_ReachedFrom_19_h
  have E_impl_ReachedFrom_42 := Aside0.mk E_impl_ReachedFrom_42_h
  clear E_impl_ReachedFrom_42_h
  have E_laws_eqInt64S_50 := Aside0.mk E_laws_eqInt64S_50_h
  clear E_laws_eqInt64S_50_h
  have E_laws_eqGame_62 := Aside0.mk E_laws_eqGame_62_h
  clear E_laws_eqGame_62_h
  have HM1_F31 := Aside0.mk HM1_F31_h
  clear HM1_F31_h
  have HM2_F31 := Aside0.mk HM2_F31_h
  clear HM2_F31_h
  have tm0_eq := Aside0.mk tm0_eq_h
  clear tm0_eq_h
  have E_laws_markInt64S_69 := Aside0.mk E_laws_markInt64S_69_h
  clear E_laws_markInt64S_69_h
  have E_laws_heldInt64S_72 := Aside0.mk E_laws_heldInt64S_72_h
  clear E_laws_heldInt64S_72_h
  have hu24 := Try.underlying24
  have hu26 := Try.underlying26
  have HB := Aside0.mk (Below.refl w.heap.size w)
  go_enter Try.func5, Try.ntmps5
  go_wp2_with (first | ((with_reducible refine gate_dst (N := 2) rfl ?_); (try (refine gate_guard (by rfl) ?_; dsimp only)); refine box_event ?hg (N := 2) ?hd (cs := #[.slice A0_0 l0_0.length c0_0]) (t := 24) ?hr ?_; (case hd => rfl); (case hg => rfl); (case hr => first | (go_simp; done) | (go_simp; rfl)); intro gb1 hg w2 hbox hb; have Z5 : Aside0 (w.heap.size ≤ w2.heap.size) := Aside0.mk (hb.size); have BK3 := Aside0.mk hbox; have GP4 := Aside0.mk hg; have Z6 : Aside0 (gb1 < w2.heap.size) := Aside0.mk (blk_lt hbox); have n0_ := Aside0.mk (below_then HB.out HB.out.size hb); clear HB; have HB := n0_; clear n0_; clear hb hbox hg; (try clear hz_gb1_0); have hz_gb1_0 : w2.cell? ⟨gb1, 0, none⟩ = some (.slice A0_0 l0_0.length c0_0) := (blk_cell BK3.out 0).trans rfl; (try clear hf_gb1_0); have hf_gb1_0 := blk_frozen BK3.out 0) | ((with_reducible refine gate_dst (N := 18) rfl ?_); (try (refine gate_guard (by rfl) ?_; dsimp only)); refine goesL_ (some 18) rfl rfl Try.func8 (by kernel_rfl) rfl #[.agg #[.slice A0_0 l0_0.length c0_0], .int .i64 1048576] rfl (by (try simp only [List.map_toArray, List.map_cons, List.map_nil]); first | done | rfl) ?_; (with_reducible refine (laws_szGame.calls k _ _ l0_0 1048576 tsz0 _ ?side1 ?side2 E_laws_szGame_8.out).mono ?_); (case side1 => exact Kd.C_below HR0_0.out HB.out); (case side2 => exact HC0_0.out); rintro e w7 ⟨rfl, hb⟩; refine ⟨_, rfl, ?_⟩; have Z9 : Aside0 (w2.heap.size ≤ w7.heap.size) := Aside0.mk (hb.size); have n0_ := Aside0.mk (below_then HB.out HB.out.size hb); have n1_ := Aside0.mk (blk_below (g := gb1) (o := .cells #[.slice A0_0 l0_0.length c0_0] 24 (0, 0)) BK3.out hb); clear HB BK3; have HB := n0_; have BK3 := n1_; clear n0_ n1_; (try clear hb); (try clear hz_gb1_0); have hz_gb1_0 : w7.cell? ⟨gb1, 0, none⟩ = some (.slice A0_0 l0_0.length c0_0) := (blk_cell BK3.out 0).trans rfl; (try clear hf_gb1_0); have hf_gb1_0 := blk_frozen BK3.out 0) | ((with_reducible refine gate_dst (N := 23) rfl ?_); (try (refine gate_guard (by rfl) ?_; dsimp only)); refine goesL_ (some 23) rfl rfl Try.func10 (by kernel_rfl) rfl #[.agg #[.slice A0_0 l0_0.length c0_0]] rfl (by (try simp only [List.map_toArray, List.map_cons, List.map_nil]); first | done | rfl) ?_; (with_reducible refine (laws_toGame.calls k _ _ l0_0 l0_0 _ ?side1 ?side2 E_laws_toGame_11.out).mono ?_); (case side1 => exact Kd.C_below HR0_0.out HB.out); (case side2 => exact HC0_0.out); rintro e w10 ⟨v12, rfl, ho13, hb⟩; refine ⟨_, rfl, ?_⟩; obtain ⟨Ao14, co15, e_Ao14⟩ := Kd.S_slice ho13; subst e_Ao14; have F16 := Aside0.mk (S_ivl ho13 HB.out.size); have Z17 : Aside0 (w7.heap.size ≤ w10.heap.size) := Aside0.mk (hb.size); have n0_ := Aside0.mk (below_then HB.out HB.out.size hb); have n1_ := Aside0.mk (blk_below (g := gb1) (o := .cells #[.slice A0_0 l0_0.length c0_0] 24 (0, 0)) BK3.out hb); clear HB BK3; have HB := n0_; have BK3 := n1_; clear n0_ n1_; (try clear hb ho13); (try clear hz_gb1_0); have hz_gb1_0 : w10.cell? ⟨gb1, 0, none⟩ = some (.slice A0_0 l0_0.length c0_0) := (blk_cell BK3.out 0).trans rfl; (try clear hf_gb1_0); have hf_gb1_0 := blk_frozen BK3.out 0) | ((with_reducible refine gate_dst (N := 25) rfl ?_); (try (refine gate_guard (by rfl) ?_; dsimp only)); refine goesL_ (some 25) rfl rfl Try.func17 (by kernel_rfl) rfl #[.agg #[.slice Ao14 l0_0.length co15], .int .i64 a1] rfl (by (try simp only [List.map_toArray, List.map_cons, List.map_nil]); first | done | rfl) ?_; (with_reducible refine (spec_ReachedFrom.calls k _ _ l0_0 a1 r0 r1 _ ?side1 ?side2 E_spec_ReachedFrom_19.out).mono ?_); (case side1 => exact (Kd.S_reads' F16.out).2.2); (case side2 => exact (Kd.S_reads' F16.out).2.1); rintro e w18 ⟨v20, rfl, ho21, hb⟩; refine ⟨_, rfl, ?_⟩; obtain ⟨Ao22, co23, e_Ao22⟩ := Kd.R_slice ho21; subst e_Ao22; have F24 := Aside0.mk (R_ivl ho21 HB.out.size); have Z25 : Aside0 (w10.heap.size ≤ w18.heap.size) := Aside0.mk (hb.size); have n0_ := Aside0.mk (below_then HB.out HB.out.size hb); have n1_ := Aside0.mk (blk_below (g := gb1) (o := .cells #[.slice A0_0 l0_0.length c0_0] 24 (0, 0)) BK3.out hb); have n2_ := Aside0.mk (Kd.S_below F16.out hb); clear HB BK3 F16; have HB := n0_; have BK3 := n1_; have F16 := n2_; clear n0_ n1_ n2_; (try clear hb ho21); (try clear hz_gb1_0); have hz_gb1_0 : w18.cell? ⟨gb1, 0, none⟩ = some (.slice A0_0 l0_0.length c0_0) := (blk_cell BK3.out 0).trans rfl; (try clear hf_gb1_0); have hf_gb1_0 := blk_frozen BK3.out 0) | ((with_reducible refine gate_dst (N := 29) rfl ?_); (try (refine gate_guard (by rfl) ?_; dsimp only)); refine goesL_ (some 29) rfl rfl Try.func10 (by kernel_rfl) rfl #[.agg #[.slice A0_0 l0_0.length c0_0]] rfl (by (try simp only [List.map_toArray, List.map_cons, List.map_nil]); first | done | rfl) ?_; (with_reducible refine (laws_toGame.calls k _ _ l0_0 l0_0 _ ?side1 ?side2 E_laws_toGame_11.out).mono ?_); (case side1 => exact Kd.C_below HR0_0.out HB.out); (case side2 => exact HC0_0.out); rintro e w26 ⟨v27, rfl, ho28, hb⟩; refine ⟨_, rfl, ?_⟩; obtain ⟨Ao29, co30, e_Ao29⟩ := Kd.S_slice ho28; subst e_Ao29; have F31 := Aside0.mk (S_ivl ho28 HB.out.size); have Z32 : Aside0 (w18.heap.size ≤ w26.heap.size) := Aside0.mk (hb.size); have n0_ := Aside0.mk (below_then HB.out HB.out.size hb); have n1_ := Aside0.mk (blk_below (g := gb1) (o := .cells #[.slice A0_0 l0_0.length c0_0] 24 (0, 0)) BK3.out hb); have n2_ := Aside0.mk (Kd.S_below F16.out hb); have n3_ := Aside0.mk (Kd.R_below F24.out hb); clear HB BK3 F16 F24; have HB := n0_; have BK3 := n1_; have F16 := n2_; have F24 := n3_; clear n0_ n1_ n2_ n3_; (try clear hb ho28); (try clear hz_gb1_0); have hz_gb1_0 : w26.cell? ⟨gb1, 0, none⟩ = some (.slice A0_0 l0_0.length c0_0) := (blk_cell BK3.out 0).trans rfl; (try clear hf_gb1_0); have hf_gb1_0 := blk_frozen BK3.out 0) | ((with_reducible refine gate_dst (N := 8) rfl ?_); (try (refine gate_guard (by rfl) ?_; dsimp only)); refine box_event ?hg (N := 8) ?hd (cs := #[.slice none 0 0]) (t := 26) ?hr ?_; (case hd => rfl); (case hg => rfl); (case hr => first | (go_simp; done) | (go_simp; rfl)); intro gb33 hg w34 hbox hb; have Z37 : Aside0 (w26.heap.size ≤ w34.heap.size) := Aside0.mk (hb.size); have BK35 := Aside0.mk hbox; have GP36 := Aside0.mk hg; have Z38 : Aside0 (gb33 < w34.heap.size) := Aside0.mk (blk_lt hbox); have n0_ := Aside0.mk (below_then HB.out HB.out.size hb); have n1_ := Aside0.mk (blk_below (g := gb1) (o := .cells #[.slice A0_0 l0_0.length c0_0] 24 (0, 0)) BK3.out hb); have n2_ := Aside0.mk (Kd.S_below F16.out hb); have n3_ := Aside0.mk (Kd.R_below F24.out hb); have n4_ := Aside0.mk (Kd.S_below F31.out hb); clear HB BK3 F16 F24 F31; have HB := n0_; have BK3 := n1_; have F16 := n2_; have F24 := n3_; have F31 := n4_; clear n0_ n1_ n2_ n3_ n4_; clear hb hbox hg; (try clear hz_gb1_0); have hz_gb1_0 : w34.cell? ⟨gb1, 0, none⟩ = some (.slice A0_0 l0_0.length c0_0) := (blk_cell BK3.out 0).trans rfl; (try clear hf_gb1_0); have hf_gb1_0 := blk_frozen BK3.out 0; (try clear hz_gb33_0); have hz_gb33_0 : w34.cell? ⟨gb33, 0, none⟩ = some (.slice none 0 0) := (blk_cell BK35.out 0).trans rfl; (try clear hf_gb33_0); have hf_gb33_0 := blk_frozen BK35.out 0) | ((with_reducible refine gate_store (t := 26) (p := 8) rfl ?_); (try (refine gate_guard (by rfl) ?_; dsimp only)); refine store_event (t := 26) (p := 8) (v := ?vo_w39) (w1 := (w34.setCell ⟨gb33, 0, none⟩ (.slice Ao29 l0_0.length co30))) ?hg ?ho ?hn ?hr ?_; (case ho => rfl); (case hg => rfl); (case hn => rfl); (case hr => first | (go_simp; done) | (go_simp; rfl)); intro w39 hw; have Z40 : Aside0 (w34.heap.size ≤ w39.heap.size) := Aside0.mk (by rw [hw]; simp [World.setCell]); have n0_ := Aside0.mk ((by rw [hw]; exact below_set (HB.out) (by have z0_ := Z5.out; have z1_ := Z6.out; have z2_ := Z9.out; have z3_ := Z17.out; have z4_ := Z25.out; have z5_ := Z32.out; have z6_ := Z37.out; have z7_ := Z38.out; have g_ := GP36.out; have hb_ := HB.out.size; omega) : Below w.heap.size w w39)); have n1_ := Aside0.mk ((by rw [hw]; exact blk_far (BK3.out) (by have z0_ := Z5.out; have z1_ := Z6.out; have z2_ := Z9.out; have z3_ := Z17.out; have z4_ := Z25.out; have z5_ := Z32.out; have z6_ := Z37.out; have z7_ := Z38.out; have g1_ := GP4.out; have g2_ := GP36.out; show gb1 ≠ gb33; omega) _ : w39.heap[gb1]? = some (.cells #[.slice A0_0 l0_0.length c0_0] 24 (0, 0)))); have n2_ := Aside0.mk (hw.symm ▸ (Kd.S_far (p := ⟨gb33, 0, none⟩) (F16.out) (fun k_ h_ => by have z0_ := Z5.out; have z1_ := Z6.out; have z2_ := Z9.out; have z3_ := Z17.out; have z4_ := Z25.out; have z5_ := Z32.out; have z6_ := Z37.out; have z7_ := Z38.out; have g_ := GP36.out; unfold Ivl at h_; show k_ ≠ gb33; omega) _)); have n3_ := Aside0.mk (hw.symm ▸ (Kd.R_far (p := ⟨gb33, 0, none⟩) (F24.out) (fun k_ h_ => by have z0_ := Z5.out; have z1_ := Z6.out; have z2_ := Z9.out; have z3_ := Z17.out; have z4_ := Z25.out; have z5_ := Z32.out; have z6_ := Z37.out; have z7_ := Z38.out; have g_ := GP36.out; unfold Ivl at h_; show k_ ≠ gb33; omega) _)); have n4_ := Aside0.mk (hw.symm ▸ (Kd.S_far (p := ⟨gb33, 0, none⟩) (F31.out) (fun k_ h_ => by have z0_ := Z5.out; have z1_ := Z6.out; have z2_ := Z9.out; have z3_ := Z17.out; have z4_ := Z25.out; have z5_ := Z32.out; have z6_ := Z37.out; have z7_ := Z38.out; have g_ := GP36.out; unfold Ivl at h_; show k_ ≠ gb33; omega) _)); have n5_ := Aside0.mk ((by rw [hw]; exact blk_put (cs := #[.slice none 0 0]) (BK35.out) 0 _ rfl : w39.heap[gb33]? = some (.cells #[.slice Ao29 l0_0.length co30] 26 (0, 0)))); clear HB BK3 F16 F24 F31 BK35; have HB := n0_; have BK3 := n1_; have F16 := n2_; have F24 := n3_; have F31 := n4_; have BK35 := n5_; clear n0_ n1_ n2_ n3_ n4_ n5_; clear hw; (try clear hz_gb1_0); have hz_gb1_0 : w39.cell? ⟨gb1, 0, none⟩ = some (.slice A0_0 l0_0.length c0_0) := (blk_cell BK3.out 0).trans rfl; (try clear hf_gb1_0); have hf_gb1_0 := blk_frozen BK3.out 0; (try clear hz_gb33_0); have hz_gb33_0 : w39.cell? ⟨gb33, 0, none⟩ = some (.slice Ao29 l0_0.length co30) := (blk_cell BK35.out 0).trans rfl; (try clear hf_gb33_0); have hf_gb33_0 := blk_frozen BK35.out 0) | ((with_reducible refine gate_dst (N := 33) rfl ?_); (try (refine gate_guard (by rfl) ?_; dsimp only)); refine goesL_ (some 33) rfl rfl Try.func18 (by kernel_rfl) rfl #[.agg #[.slice Ao29 l0_0.length co30], .int .i64 a1] rfl (by (try simp only [List.map_toArray, List.map_cons, List.map_nil]); first | done | rfl) ?_; (with_reducible refine (impl_ReachedFrom.calls k _ _ l0_0 a1 r0 r1 _ ?side1 ?side2 E_impl_ReachedFrom_42.out).mono ?_); (case side1 => exact (Kd.S_reads' F31.out).2.2); (case side2 => exact (Kd.S_reads' F31.out).2.1); rintro e w41 ⟨v43, rfl, ho44, hb⟩; refine ⟨_, rfl, ?_⟩; obtain ⟨Ao45, co46, e_Ao45⟩ := Kd.R_slice ho44; subst e_Ao45; have F47 := Aside0.mk (R_ivl ho44 HB.out.size); have Z48 : Aside0 (w39.heap.size ≤ w41.heap.size) := Aside0.mk (hb.size); have n0_ := Aside0.mk (below_then HB.out HB.out.size hb); have n1_ := Aside0.mk (blk_below (g := gb1) (o := .cells #[.slice A0_0 l0_0.length c0_0] 24 (0, 0)) BK3.out hb); have n2_ := Aside0.mk (Kd.S_below F16.out hb); have n3_ := Aside0.mk (Kd.R_below F24.out hb); have n4_ := Aside0.mk (Kd.S_below F31.out hb); have n5_ := Aside0.mk (blk_below (g := gb33) (o := .cells #[.slice Ao29 l0_0.length co30] 26 (0, 0)) BK35.out hb); clear HB BK3 F16 F24 F31 BK35; have HB := n0_; have BK3 := n1_; have F16 := n2_; have F24 := n3_; have F31 := n4_; have BK35 := n5_; clear n0_ n1_ n2_ n3_ n4_ n5_; (try clear hb ho44); (try clear hz_gb1_0); have hz_gb1_0 : w41.cell? ⟨gb1, 0, none⟩ = some (.slice A0_0 l0_0.length c0_0) := (blk_cell BK3.out 0).trans rfl; (try clear hf_gb1_0); have hf_gb1_0 := blk_frozen BK3.out 0; (try clear hz_gb33_0); have hz_gb33_0 : w41.cell? ⟨gb33, 0, none⟩ = some (.slice Ao29 l0_0.length co30) := (blk_cell BK35.out 0).trans rfl; (try clear hf_gb33_0); have hf_gb33_0 := blk_frozen BK35.out 0) | ((with_reducible refine gate_dst (N := 38) rfl ?_); (try (refine gate_guard (by rfl) ?_; dsimp only)); refine goesL_ (some 38) rfl rfl Try.func19 (by kernel_rfl) rfl #[.slice Ao45 r0.length co46, .slice Ao22 r0.length co23] rfl (by (try simp only [List.map_toArray, List.map_cons, List.map_nil]); first | done | rfl) ?_; (with_reducible refine (calls_below (laws_eqInt64S.calls k _ _ r0 _ _ r0 true _ ?side1 ?side2 ?side3 ?side4 E_laws_eqInt64S_50.out)).mono ?_); (case side1 => exact (Kd.R_reads' F47.out).2.2); (case side2 => exact (Kd.R_reads' F47.out).2.1); (case side3 => exact (Kd.R_reads' F24.out).2.2); (case side4 => exact (Kd.R_reads' F24.out).2.1); rintro e w49 ⟨rfl, hb⟩; refine ⟨_, rfl, ?_⟩; have Z51 : Aside0 (w41.heap.size ≤ w49.heap.size) := Aside0.mk (hb.size); have n0_ := Aside0.mk (below_then HB.out HB.out.size hb); have n1_ := Aside0.mk (blk_below (g := gb1) (o := .cells #[.slice A0_0 l0_0.length c0_0] 24 (0, 0)) BK3.out hb); have n2_ := Aside0.mk (Kd.S_below F16.out hb); have n3_ := Aside0.mk (Kd.R_below F24.out hb); have n4_ := Aside0.mk (Kd.S_below F31.out hb); have n5_ := Aside0.mk (blk_below (g := gb33) (o := .cells #[.slice Ao29 l0_0.length co30] 26 (0, 0)) BK35.out hb); have n6_ := Aside0.mk (Kd.R_below F47.out hb); clear HB BK3 F16 F24 F31 BK35 F47; have HB := n0_; have BK3 := n1_; have F16 := n2_; have F24 := n3_; have F31 := n4_; have BK35 := n5_; have F47 := n6_; clear n0_ n1_ n2_ n3_ n4_ n5_ n6_; (try clear hb); (try clear hz_gb1_0); have hz_gb1_0 : w49.cell? ⟨gb1, 0, none⟩ = some (.slice A0_0 l0_0.length c0_0) := (blk_cell BK3.out 0).trans rfl; (try clear hf_gb1_0); have hf_gb1_0 := blk_frozen BK3.out 0; (try clear hz_gb33_0); have hz_gb33_0 : w49.cell? ⟨gb33, 0, none⟩ = some (.slice Ao29 l0_0.length co30) := (blk_cell BK35.out 0).trans rfl; (try clear hf_gb33_0); have hf_gb33_0 := blk_frozen BK35.out 0))
  refine start_ (n := 5) (S := fun w' => w'.cell? ⟨gb1, 0, none⟩ = some (.slice A0_0 l0_0.length c0_0) ∧ w'.cell? ⟨gb33, 0, none⟩ = some (.slice Ao29 l0_0.length co30)) (ds := []) #[false, false, false, false, false] (by kernel_rfl) rfl rfl ⟨(blk_cell BK3.out 0).trans rfl, (blk_cell BK35.out 0).trans rfl⟩ (fun hHeld => ?_)
  have Z53 : Aside0 (w49.heap.size ≤ w49.drew.heap.size) := Aside0.mk (Nat.le_refl _)
  have n0_ := Aside0.mk (below_drew HB.out)
  have n1_ := Aside0.mk (blk_drew BK3.out)
  have n2_ := Aside0.mk (Kd.S_drew F16.out)
  have n3_ := Aside0.mk (Kd.R_drew F24.out)
  have n4_ := Aside0.mk (Kd.S_drew F31.out)
  have n5_ := Aside0.mk (blk_drew BK35.out)
  have n6_ := Aside0.mk (Kd.R_drew F47.out)
  clear HB BK3 F16 F24 F31 BK35 F47
  have HB := n0_
  have BK3 := n1_
  have F16 := n2_
  have F24 := n3_
  have F31 := n4_
  have BK35 := n5_
  have F47 := n6_
  clear n0_ n1_ n2_ n3_ n4_ n5_ n6_
  generalize w49.drew = w52 at HB BK3 F16 F24 F31 BK35 F47 Z53 hHeld ⊢
  refine take_ (i := 0) (N := some 45) (v := ?_) (a' := ?_) #[true, false, false, false, false] rfl rfl (by kernel_rfl) (fun _ _ _ h => h) (Or.inl ⟨by rfl, ?_⟩) hHeld ?_ ?_
  rotate_left
  · rintro w' ⟨s0_, s1_⟩
    go_simp
    with_reducible rfl
  rotate_left
  · simp only [Act.put, List.setIfInBounds_toArray, List.set_cons_zero, List.set_cons_succ, i64_w, i32_w]
    rfl
  refine take_ (i := 1) (N := some 46) (v := ?_) (a' := ?_) #[true, true, false, false, false] rfl rfl (by kernel_rfl) (fun _ _ _ h => h) (Or.inl ⟨by rfl, ?_⟩) hHeld ?_ ?_
  rotate_left
  · rintro w' ⟨s0_, s1_⟩
    go_simp
    with_reducible rfl
  rotate_left
  · simp only [Act.put, List.setIfInBounds_toArray, List.set_cons_zero, List.set_cons_succ, i64_w, i32_w]
    rfl
  refine one_ (i := 2) (N := some 47) #[true, true, true, false, false] rfl rfl (by kernel_rfl) (by decide) (fun K hK => ?_)
  refine goes_ Try.func10 (by kernel_rfl) rfl #[.agg #[.slice A0_0 l0_0.length c0_0]] (by rfl) rfl rfl (by (try simp only [List.map_toArray, List.map_cons, List.map_nil]); first | done | rfl) ?_
  with_reducible refine (laws_toGame.calls k _ _ l0_0 l0_0 _ ?side1 ?side2 E_laws_toGame_11.out).mono ?_
  (case side1 => exact Kd.C_below HR0_0.out HB.out)
  (case side2 => exact HC0_0.out)
  rintro e w54 ⟨v55, rfl, ho56, hb⟩
  refine ⟨_, rfl, ?_⟩
  obtain ⟨Ao57, co58, e_Ao57⟩ := Kd.S_slice ho56
  subst e_Ao57
  have F59 := Aside0.mk (S_ivl ho56 HB.out.size)
  have Z60 : Aside0 (w52.heap.size ≤ w54.heap.size) := Aside0.mk (hb.size)
  have n0_ := Aside0.mk (below_then HB.out HB.out.size hb)
  have n1_ := Aside0.mk (blk_below (g := gb1) (o := .cells #[.slice A0_0 l0_0.length c0_0] 24 (0, 0)) BK3.out hb)
  have n2_ := Aside0.mk (Kd.S_below F16.out hb)
  have n3_ := Aside0.mk (Kd.R_below F24.out hb)
  have n4_ := Aside0.mk (Kd.S_below F31.out hb)
  have n5_ := Aside0.mk (blk_below (g := gb33) (o := .cells #[.slice Ao29 l0_0.length co30] 26 (0, 0)) BK35.out hb)
  have n6_ := Aside0.mk (Kd.R_below F47.out hb)
  clear HB BK3 F16 F24 F31 BK35 F47
  have HB := n0_
  have BK3 := n1_
  have F16 := n2_
  have F24 := n3_
  have F31 := n4_
  have BK35 := n5_
  have F47 := n6_
  clear n0_ n1_ n2_ n3_ n4_ n5_ n6_
  (try clear hb ho56)
  refine hK.out _ _ ⟨(blk_cell BK3.out 0).trans rfl, (blk_cell BK35.out 0).trans rfl⟩ (fun hHeld => ?_)
  clear hK K
  refine norm_ (a' := ?_) ?_ ?_
  rotate_left
  · show Act.put _ (some 47) _ = _
    simp only [Act.put, List.setIfInBounds_toArray, List.set_cons_zero, List.set_cons_succ, i64_w, i32_w]
    rfl
  refine one_ (i := 3) (N := some 48) #[true, true, true, true, false] rfl rfl (by kernel_rfl) (by decide) (fun K hK => ?_)
  refine goes_ Try.func12 (by kernel_rfl) rfl #[.agg #[.slice Ao29 l0_0.length co30], .agg #[.slice Ao57 l0_0.length co58]] (by rfl) rfl rfl (by (try simp only [List.map_toArray, List.map_cons, List.map_nil]); first | done | rfl) ?_
  with_reducible refine (laws_eqGame.calls k _ _ l0_0 _ _ l0_0 true _ ?side1 ?side2 ?side3 ?side4 E_laws_eqGame_62.out).mono ?_
  (case side1 => exact (Kd.S_reads' F31.out).2.2)
  (case side2 => exact (Kd.S_reads' F31.out).2.1)
  (case side3 => exact (Kd.S_reads' F59.out).2.2)
  (case side4 => exact (Kd.S_reads' F59.out).2.1)
  rintro e w61 ⟨rfl, hb⟩
  refine ⟨_, rfl, ?_⟩
  have Z63 : Aside0 (w54.heap.size ≤ w61.heap.size) := Aside0.mk (hb.size)
  have n0_ := Aside0.mk (below_then HB.out HB.out.size hb)
  have n1_ := Aside0.mk (blk_below (g := gb1) (o := .cells #[.slice A0_0 l0_0.length c0_0] 24 (0, 0)) BK3.out hb)
  have n2_ := Aside0.mk (Kd.S_below F16.out hb)
  have n3_ := Aside0.mk (Kd.R_below F24.out hb)
  have n4_ := Aside0.mk (Kd.S_below F31.out hb)
  have n5_ := Aside0.mk (blk_below (g := gb33) (o := .cells #[.slice Ao29 l0_0.length co30] 26 (0, 0)) BK35.out hb)
  have n6_ := Aside0.mk (Kd.R_below F47.out hb)
  have n7_ := Aside0.mk (Kd.S_below F59.out hb)
  clear HB BK3 F16 F24 F31 BK35 F47 F59
  have HB := n0_
  have BK3 := n1_
  have F16 := n2_
  have F24 := n3_
  have F31 := n4_
  have BK35 := n5_
  have F47 := n6_
  have F59 := n7_
  clear n0_ n1_ n2_ n3_ n4_ n5_ n6_ n7_
  (try clear hb)
  refine hK.out _ _ ⟨(blk_cell BK3.out 0).trans rfl, (blk_cell BK35.out 0).trans rfl⟩ (fun hHeld => ?_)
  clear hK K
  refine norm_ (a' := ?_) ?_ ?_
  rotate_left
  · show Act.put _ (some 48) _ = _
    simp only [Act.put, List.setIfInBounds_toArray, List.set_cons_zero, List.set_cons_succ, i64_w, i32_w]
    rfl
  refine pure_ (i := 4) (N := some 49) (v := ?_) (a' := ?_) #[true, true, true, true, true] rfl rfl (by kernel_rfl) (fun _ _ _ h => h) (Or.inl ⟨by rfl, ?_⟩) ?_ ?_
  rotate_left
  · intro w'
    go_simp
    with_reducible rfl
  rotate_left
  · simp only [Act.put, List.setIfInBounds_toArray, List.set_cons_zero, List.set_cons_succ, i64_w, i32_w]
    rfl
  refine done_ (by kernel_rfl) ?_
  (try clear hz_gb1_0)
  have hz_gb1_0 : w61.cell? ⟨gb1, 0, none⟩ = some (.slice A0_0 l0_0.length c0_0) := (blk_cell BK3.out 0).trans rfl
  (try clear hf_gb1_0)
  have hf_gb1_0 := blk_frozen BK3.out 0
  (try clear hz_gb33_0)
  have hz_gb33_0 : w61.cell? ⟨gb33, 0, none⟩ = some (.slice Ao29 l0_0.length co30) := (blk_cell BK35.out 0).trans rfl
  (try clear hf_gb33_0)
  have hf_gb33_0 := blk_frozen BK35.out 0
  go_wp2_with (first | ((with_reducible refine gate_dst (N := 52) rfl ?_); (try (refine gate_guard (by rfl) ?_; dsimp only)); refine goesL_ (some 52) rfl rfl Try.func13 (by kernel_rfl) rfl #[.agg #[.slice Ao29 l0_0.length co30], .int .i64 1] rfl (by (try simp only [List.map_toArray, List.map_cons, List.map_nil]); first | done | rfl) ?_; (with_reducible refine (laws_markGame.calls (Ivl w18.heap.size w26.heap.size) _ _ _ l0_0 1 w _ HB.out F31.out (by decide) HM1_F31.out HM2_F31.out).mono ?_); rintro e w64 ⟨rfl, hs, hB, hk⟩; refine ⟨_, rfl, ?_⟩; rw [tm0_eq.out]; have Z65 : Aside0 (w61.heap.size ≤ w64.heap.size) := Aside0.mk (hk.1); have n0_ := Aside0.mk (hB); have n1_ := Aside0.mk (blk_kept BK3.out hk (fun h_ => by have z0_ := Z5.out; have z1_ := Z6.out; have z2_ := Z9.out; have z3_ := Z17.out; have z4_ := Z25.out; have z5_ := Z32.out; have z6_ := Z37.out; have z7_ := Z38.out; have z8_ := Z40.out; have z9_ := Z48.out; have z10_ := Z51.out; have z11_ := Z53.out; have z12_ := Z60.out; have z13_ := Z63.out; have g_ := GP4.out; unfold Ivl at h_; omega)); have n2_ := Aside0.mk (Kd.S_kept F16.out hk (fun k_ h1_ h2_ => by have z0_ := Z5.out; have z1_ := Z6.out; have z2_ := Z9.out; have z3_ := Z17.out; have z4_ := Z25.out; have z5_ := Z32.out; have z6_ := Z37.out; have z7_ := Z38.out; have z8_ := Z40.out; have z9_ := Z48.out; have z10_ := Z51.out; have z11_ := Z53.out; have z12_ := Z60.out; have z13_ := Z63.out; unfold Ivl at h1_ h2_; omega)); have n3_ := Aside0.mk (Kd.R_kept F24.out hk (fun k_ h1_ h2_ => by have z0_ := Z5.out; have z1_ := Z6.out; have z2_ := Z9.out; have z3_ := Z17.out; have z4_ := Z25.out; have z5_ := Z32.out; have z6_ := Z37.out; have z7_ := Z38.out; have z8_ := Z40.out; have z9_ := Z48.out; have z10_ := Z51.out; have z11_ := Z53.out; have z12_ := Z60.out; have z13_ := Z63.out; unfold Ivl at h1_ h2_; omega)); have n4_ := Aside0.mk (blk_kept BK35.out hk (fun h_ => by have z0_ := Z5.out; have z1_ := Z6.out; have z2_ := Z9.out; have z3_ := Z17.out; have z4_ := Z25.out; have z5_ := Z32.out; have z6_ := Z37.out; have z7_ := Z38.out; have z8_ := Z40.out; have z9_ := Z48.out; have z10_ := Z51.out; have z11_ := Z53.out; have z12_ := Z60.out; have z13_ := Z63.out; have g_ := GP36.out; unfold Ivl at h_; omega)); have n5_ := Aside0.mk (Kd.R_kept F47.out hk (fun k_ h1_ h2_ => by have z0_ := Z5.out; have z1_ := Z6.out; have z2_ := Z9.out; have z3_ := Z17.out; have z4_ := Z25.out; have z5_ := Z32.out; have z6_ := Z37.out; have z7_ := Z38.out; have z8_ := Z40.out; have z9_ := Z48.out; have z10_ := Z51.out; have z11_ := Z53.out; have z12_ := Z60.out; have z13_ := Z63.out; unfold Ivl at h1_ h2_; omega)); have n6_ := Aside0.mk (Kd.S_kept F59.out hk (fun k_ h1_ h2_ => by have z0_ := Z5.out; have z1_ := Z6.out; have z2_ := Z9.out; have z3_ := Z17.out; have z4_ := Z25.out; have z5_ := Z32.out; have z6_ := Z37.out; have z7_ := Z38.out; have z8_ := Z40.out; have z9_ := Z48.out; have z10_ := Z51.out; have z11_ := Z53.out; have z12_ := Z60.out; have z13_ := Z63.out; unfold Ivl at h1_ h2_; omega)); have n7_ := Aside0.mk (hs); clear HB BK3 F16 F24 BK35 F47 F59 F31; have HB := n0_; have BK3 := n1_; have F16 := n2_; have F24 := n3_; have BK35 := n4_; have F47 := n5_; have F59 := n6_; have F31 := n7_; clear n0_ n1_ n2_ n3_ n4_ n5_ n6_ n7_; (try clear hs hB hk); (try clear hz_gb1_0); have hz_gb1_0 : w64.cell? ⟨gb1, 0, none⟩ = some (.slice A0_0 l0_0.length c0_0) := (blk_cell BK3.out 0).trans rfl; (try clear hf_gb1_0); have hf_gb1_0 := blk_frozen BK3.out 0; (try clear hz_gb33_0); have hz_gb33_0 : w64.cell? ⟨gb33, 0, none⟩ = some (.slice Ao29 l0_0.length co30) := (blk_cell BK35.out 0).trans rfl; (try clear hf_gb33_0); have hf_gb33_0 := blk_frozen BK35.out 0) | ((with_reducible refine gate_dst (N := 58) rfl ?_); (try (refine gate_guard (by rfl) ?_; dsimp only)); refine goesL_ (some 58) rfl rfl Try.func19 (by kernel_rfl) rfl #[.slice Ao45 r0.length co46, .slice Ao22 r0.length co23] rfl (by (try simp only [List.map_toArray, List.map_cons, List.map_nil]); first | done | rfl) ?_; (with_reducible refine (calls_below (laws_eqInt64S.calls k _ _ r0 _ _ r0 true _ ?side1 ?side2 ?side3 ?side4 E_laws_eqInt64S_50.out)).mono ?_); (case side1 => exact (Kd.R_reads' F47.out).2.2); (case side2 => exact (Kd.R_reads' F47.out).2.1); (case side3 => exact (Kd.R_reads' F24.out).2.2); (case side4 => exact (Kd.R_reads' F24.out).2.1); rintro e w66 ⟨rfl, hb⟩; refine ⟨_, rfl, ?_⟩; have Z67 : Aside0 (w64.heap.size ≤ w66.heap.size) := Aside0.mk (hb.size); have n0_ := Aside0.mk (below_then HB.out HB.out.size hb); have n1_ := Aside0.mk (blk_below (g := gb1) (o := .cells #[.slice A0_0 l0_0.length c0_0] 24 (0, 0)) BK3.out hb); have n2_ := Aside0.mk (Kd.S_below F16.out hb); have n3_ := Aside0.mk (Kd.R_below F24.out hb); have n4_ := Aside0.mk (Kd.S_below F31.out hb); have n5_ := Aside0.mk (blk_below (g := gb33) (o := .cells #[.slice Ao29 l0_0.length co30] 26 (0, 0)) BK35.out hb); have n6_ := Aside0.mk (Kd.R_below F47.out hb); have n7_ := Aside0.mk (Kd.S_below F59.out hb); clear HB BK3 F16 F24 F31 BK35 F47 F59; have HB := n0_; have BK3 := n1_; have F16 := n2_; have F24 := n3_; have F31 := n4_; have BK35 := n5_; have F47 := n6_; have F59 := n7_; clear n0_ n1_ n2_ n3_ n4_ n5_ n6_ n7_; (try clear hb); (try clear hz_gb1_0); have hz_gb1_0 : w66.cell? ⟨gb1, 0, none⟩ = some (.slice A0_0 l0_0.length c0_0) := (blk_cell BK3.out 0).trans rfl; (try clear hf_gb1_0); have hf_gb1_0 := blk_frozen BK3.out 0; (try clear hz_gb33_0); have hz_gb33_0 : w66.cell? ⟨gb33, 0, none⟩ = some (.slice Ao29 l0_0.length co30) := (blk_cell BK35.out 0).trans rfl; (try clear hf_gb33_0); have hf_gb33_0 := blk_frozen BK35.out 0) | ((with_reducible refine gate_dst (N := 68) rfl ?_); (try (refine gate_guard (by rfl) ?_; dsimp only)); refine goesL_ (some 68) rfl rfl Try.func20 (by kernel_rfl) rfl #[.slice Ao45 r0.length co46, .int .i64 1] rfl (by (try simp only [List.map_toArray, List.map_cons, List.map_nil]); first | done | rfl) ?_; (with_reducible refine (laws_markInt64S.calls k (Ivl w39.heap.size w41.heap.size) _ r0 1 tm1 _ w _ HB.out F47.out E_laws_markInt64S_69.out).mono ?_); rintro e w68 ⟨rfl, hs, hB, hk⟩; refine ⟨_, rfl, ?_⟩; have Z70 : Aside0 (w66.heap.size ≤ w68.heap.size) := Aside0.mk (hk.1); have n0_ := Aside0.mk (hB); have n1_ := Aside0.mk (blk_kept BK3.out hk (fun h_ => by have z0_ := Z5.out; have z1_ := Z6.out; have z2_ := Z9.out; have z3_ := Z17.out; have z4_ := Z25.out; have z5_ := Z32.out; have z6_ := Z37.out; have z7_ := Z38.out; have z8_ := Z40.out; have z9_ := Z48.out; have z10_ := Z51.out; have z11_ := Z53.out; have z12_ := Z60.out; have z13_ := Z63.out; have z14_ := Z65.out; have z15_ := Z67.out; have g_ := GP4.out; unfold Ivl at h_; omega)); have n2_ := Aside0.mk (Kd.S_kept F16.out hk (fun k_ h1_ h2_ => by have z0_ := Z5.out; have z1_ := Z6.out; have z2_ := Z9.out; have z3_ := Z17.out; have z4_ := Z25.out; have z5_ := Z32.out; have z6_ := Z37.out; have z7_ := Z38.out; have z8_ := Z40.out; have z9_ := Z48.out; have z10_ := Z51.out; have z11_ := Z53.out; have z12_ := Z60.out; have z13_ := Z63.out; have z14_ := Z65.out; have z15_ := Z67.out; unfold Ivl at h1_ h2_; omega)); have n3_ := Aside0.mk (Kd.R_kept F24.out hk (fun k_ h1_ h2_ => by have z0_ := Z5.out; have z1_ := Z6.out; have z2_ := Z9.out; have z3_ := Z17.out; have z4_ := Z25.out; have z5_ := Z32.out; have z6_ := Z37.out; have z7_ := Z38.out; have z8_ := Z40.out; have z9_ := Z48.out; have z10_ := Z51.out; have z11_ := Z53.out; have z12_ := Z60.out; have z13_ := Z63.out; have z14_ := Z65.out; have z15_ := Z67.out; unfold Ivl at h1_ h2_; omega)); have n4_ := Aside0.mk (Kd.S_kept F31.out hk (fun k_ h1_ h2_ => by have z0_ := Z5.out; have z1_ := Z6.out; have z2_ := Z9.out; have z3_ := Z17.out; have z4_ := Z25.out; have z5_ := Z32.out; have z6_ := Z37.out; have z7_ := Z38.out; have z8_ := Z40.out; have z9_ := Z48.out; have z10_ := Z51.out; have z11_ := Z53.out; have z12_ := Z60.out; have z13_ := Z63.out; have z14_ := Z65.out; have z15_ := Z67.out; unfold Ivl at h1_ h2_; omega)); have n5_ := Aside0.mk (blk_kept BK35.out hk (fun h_ => by have z0_ := Z5.out; have z1_ := Z6.out; have z2_ := Z9.out; have z3_ := Z17.out; have z4_ := Z25.out; have z5_ := Z32.out; have z6_ := Z37.out; have z7_ := Z38.out; have z8_ := Z40.out; have z9_ := Z48.out; have z10_ := Z51.out; have z11_ := Z53.out; have z12_ := Z60.out; have z13_ := Z63.out; have z14_ := Z65.out; have z15_ := Z67.out; have g_ := GP36.out; unfold Ivl at h_; omega)); have n6_ := Aside0.mk (Kd.S_kept F59.out hk (fun k_ h1_ h2_ => by have z0_ := Z5.out; have z1_ := Z6.out; have z2_ := Z9.out; have z3_ := Z17.out; have z4_ := Z25.out; have z5_ := Z32.out; have z6_ := Z37.out; have z7_ := Z38.out; have z8_ := Z40.out; have z9_ := Z48.out; have z10_ := Z51.out; have z11_ := Z53.out; have z12_ := Z60.out; have z13_ := Z63.out; have z14_ := Z65.out; have z15_ := Z67.out; unfold Ivl at h1_ h2_; omega)); have n7_ := Aside0.mk (Kd.R_reok rfl hs (fun k_ e_ => F47.out.1 k_ e_)); clear HB BK3 F16 F24 F31 BK35 F59 F47; have HB := n0_; have BK3 := n1_; have F16 := n2_; have F24 := n3_; have F31 := n4_; have BK35 := n5_; have F59 := n6_; have F47 := n7_; clear n0_ n1_ n2_ n3_ n4_ n5_ n6_ n7_; (try clear hs hB hk); (try clear hz_gb1_0); have hz_gb1_0 : w68.cell? ⟨gb1, 0, none⟩ = some (.slice A0_0 l0_0.length c0_0) := (blk_cell BK3.out 0).trans rfl; (try clear hf_gb1_0); have hf_gb1_0 := blk_frozen BK3.out 0; (try clear hz_gb33_0); have hz_gb33_0 : w68.cell? ⟨gb33, 0, none⟩ = some (.slice Ao29 l0_0.length co30) := (blk_cell BK35.out 0).trans rfl; (try clear hf_gb33_0); have hf_gb33_0 := blk_frozen BK35.out 0) | ((with_reducible refine gate_dst (N := 71) rfl ?_); (try (refine gate_guard (by rfl) ?_; dsimp only)); refine goesL_ (some 71) rfl rfl Try.func21 (by kernel_rfl) rfl #[.slice Ao45 (marks 1 r0.length).length co46, .int .i64 1] rfl (by (try simp only [List.map_toArray, List.map_cons, List.map_nil]); first | done | (rw [show (marks 1 r0.length).length = r0.length from marks_length _ _] <;> rfl) | rfl) ?_; (with_reducible refine (calls_below (laws_heldInt64S.calls k _ _ (marks 1 r0.length) 1 tm1 _ ?side1 ?side2 E_laws_heldInt64S_72.out)).mono ?_); (case side1 => first | (exact (Kd.R_reads' F47.out).2.2) | (rw [show (marks 1 r0.length).length = r0.length from marks_length _ _]; exact (Kd.R_reads' F47.out).2.2)); (case side2 => first | (exact (Kd.R_reads' F47.out).2.1) | (rw [show (marks 1 r0.length).length = r0.length from marks_length _ _]; exact (Kd.R_reads' F47.out).2.1)); rintro e w71 ⟨rfl, hb⟩; refine ⟨_, rfl, ?_⟩; have Z73 : Aside0 (w68.heap.size ≤ w71.heap.size) := Aside0.mk (hb.size); have n0_ := Aside0.mk (below_then HB.out HB.out.size hb); have n1_ := Aside0.mk (blk_below (g := gb1) (o := .cells #[.slice A0_0 l0_0.length c0_0] 24 (0, 0)) BK3.out hb); have n2_ := Aside0.mk (Kd.S_below F16.out hb); have n3_ := Aside0.mk (Kd.R_below F24.out hb); have n4_ := Aside0.mk (Kd.S_below F31.out hb); have n5_ := Aside0.mk (blk_below (g := gb33) (o := .cells #[.slice Ao29 l0_0.length co30] 26 (0, 0)) BK35.out hb); have n6_ := Aside0.mk (Kd.R_below F47.out hb); have n7_ := Aside0.mk (Kd.S_below F59.out hb); clear HB BK3 F16 F24 F31 BK35 F47 F59; have HB := n0_; have BK3 := n1_; have F16 := n2_; have F24 := n3_; have F31 := n4_; have BK35 := n5_; have F47 := n6_; have F59 := n7_; clear n0_ n1_ n2_ n3_ n4_ n5_ n6_ n7_; (try clear hb); (try clear hz_gb1_0); have hz_gb1_0 : w71.cell? ⟨gb1, 0, none⟩ = some (.slice A0_0 l0_0.length c0_0) := (blk_cell BK3.out 0).trans rfl; (try clear hf_gb1_0); have hf_gb1_0 := blk_frozen BK3.out 0; (try clear hz_gb33_0); have hz_gb33_0 : w71.cell? ⟨gb33, 0, none⟩ = some (.slice Ao29 l0_0.length co30) := (blk_cell BK35.out 0).trans rfl; (try clear hf_gb33_0); have hf_gb33_0 := blk_frozen BK35.out 0) | ((with_reducible refine gate_dst (N := 79) rfl ?_); (try (refine gate_guard (by rfl) ?_; dsimp only)); refine goesL_ (some 79) rfl rfl Try.func10 (by kernel_rfl) rfl #[.agg #[.slice A0_0 l0_0.length c0_0]] rfl (by (try simp only [List.map_toArray, List.map_cons, List.map_nil]); first | done | rfl) ?_; (with_reducible refine (laws_toGame.calls k _ _ l0_0 l0_0 _ ?side1 ?side2 E_laws_toGame_11.out).mono ?_); (case side1 => exact Kd.C_below HR0_0.out HB.out); (case side2 => exact HC0_0.out); rintro e w74 ⟨v75, rfl, ho76, hb⟩; refine ⟨_, rfl, ?_⟩; obtain ⟨Ao77, co78, e_Ao77⟩ := Kd.S_slice ho76; subst e_Ao77; have F79 := Aside0.mk (S_ivl ho76 HB.out.size); have Z80 : Aside0 (w71.heap.size ≤ w74.heap.size) := Aside0.mk (hb.size); have n0_ := Aside0.mk (below_then HB.out HB.out.size hb); have n1_ := Aside0.mk (blk_below (g := gb1) (o := .cells #[.slice A0_0 l0_0.length c0_0] 24 (0, 0)) BK3.out hb); have n2_ := Aside0.mk (Kd.S_below F16.out hb); have n3_ := Aside0.mk (Kd.R_below F24.out hb); have n4_ := Aside0.mk (Kd.S_below F31.out hb); have n5_ := Aside0.mk (blk_below (g := gb33) (o := .cells #[.slice Ao29 l0_0.length co30] 26 (0, 0)) BK35.out hb); have n6_ := Aside0.mk (Kd.R_below F47.out hb); have n7_ := Aside0.mk (Kd.S_below F59.out hb); clear HB BK3 F16 F24 F31 BK35 F47 F59; have HB := n0_; have BK3 := n1_; have F16 := n2_; have F24 := n3_; have F31 := n4_; have BK35 := n5_; have F47 := n6_; have F59 := n7_; clear n0_ n1_ n2_ n3_ n4_ n5_ n6_ n7_; (try clear hb ho76); (try clear hz_gb1_0); have hz_gb1_0 : w74.cell? ⟨gb1, 0, none⟩ = some (.slice A0_0 l0_0.length c0_0) := (blk_cell BK3.out 0).trans rfl; (try clear hf_gb1_0); have hf_gb1_0 := blk_frozen BK3.out 0; (try clear hz_gb33_0); have hz_gb33_0 : w74.cell? ⟨gb33, 0, none⟩ = some (.slice Ao29 l0_0.length co30) := (blk_cell BK35.out 0).trans rfl; (try clear hf_gb33_0); have hf_gb33_0 := blk_frozen BK35.out 0) | ((with_reducible refine gate_dst (N := 81) rfl ?_); (try (refine gate_guard (by rfl) ?_; dsimp only)); refine goesL_ (some 81) rfl rfl Try.func18 (by kernel_rfl) rfl #[.agg #[.slice Ao77 l0_0.length co78], .int .i64 a1] rfl (by (try simp only [List.map_toArray, List.map_cons, List.map_nil]); first | done | rfl) ?_; (with_reducible refine (impl_ReachedFrom.calls k _ _ l0_0 a1 r0 r1 _ ?side1 ?side2 E_impl_ReachedFrom_42.out).mono ?_); (case side1 => exact (Kd.S_reads' F79.out).2.2); (case side2 => exact (Kd.S_reads' F79.out).2.1); rintro e w81 ⟨v82, rfl, ho83, hb⟩; refine ⟨_, rfl, ?_⟩; obtain ⟨Ao84, co85, e_Ao84⟩ := Kd.R_slice ho83; subst e_Ao84; have F86 := Aside0.mk (R_ivl ho83 HB.out.size); have Z87 : Aside0 (w74.heap.size ≤ w81.heap.size) := Aside0.mk (hb.size); have n0_ := Aside0.mk (below_then HB.out HB.out.size hb); have n1_ := Aside0.mk (blk_below (g := gb1) (o := .cells #[.slice A0_0 l0_0.length c0_0] 24 (0, 0)) BK3.out hb); have n2_ := Aside0.mk (Kd.S_below F16.out hb); have n3_ := Aside0.mk (Kd.R_below F24.out hb); have n4_ := Aside0.mk (Kd.S_below F31.out hb); have n5_ := Aside0.mk (blk_below (g := gb33) (o := .cells #[.slice Ao29 l0_0.length co30] 26 (0, 0)) BK35.out hb); have n6_ := Aside0.mk (Kd.R_below F47.out hb); have n7_ := Aside0.mk (Kd.S_below F59.out hb); have n8_ := Aside0.mk (Kd.S_below F79.out hb); clear HB BK3 F16 F24 F31 BK35 F47 F59 F79; have HB := n0_; have BK3 := n1_; have F16 := n2_; have F24 := n3_; have F31 := n4_; have BK35 := n5_; have F47 := n6_; have F59 := n7_; have F79 := n8_; clear n0_ n1_ n2_ n3_ n4_ n5_ n6_ n7_ n8_; (try clear hb ho83); (try clear hz_gb1_0); have hz_gb1_0 : w81.cell? ⟨gb1, 0, none⟩ = some (.slice A0_0 l0_0.length c0_0) := (blk_cell BK3.out 0).trans rfl; (try clear hf_gb1_0); have hf_gb1_0 := blk_frozen BK3.out 0; (try clear hz_gb33_0); have hz_gb33_0 : w81.cell? ⟨gb33, 0, none⟩ = some (.slice Ao29 l0_0.length co30) := (blk_cell BK35.out 0).trans rfl; (try clear hf_gb33_0); have hf_gb33_0 := blk_frozen BK35.out 0) | ((with_reducible refine gate_dst (N := 86) rfl ?_); (try (refine gate_guard (by rfl) ?_; dsimp only)); refine goesL_ (some 86) rfl rfl Try.func19 (by kernel_rfl) rfl #[.slice Ao84 r0.length co85, .slice Ao22 r0.length co23] rfl (by (try simp only [List.map_toArray, List.map_cons, List.map_nil]); first | done | rfl) ?_; (with_reducible refine (calls_below (laws_eqInt64S.calls k _ _ r0 _ _ r0 true _ ?side1 ?side2 ?side3 ?side4 E_laws_eqInt64S_50.out)).mono ?_); (case side1 => exact (Kd.R_reads' F86.out).2.2); (case side2 => exact (Kd.R_reads' F86.out).2.1); (case side3 => exact (Kd.R_reads' F24.out).2.2); (case side4 => exact (Kd.R_reads' F24.out).2.1); rintro e w88 ⟨rfl, hb⟩; refine ⟨_, rfl, ?_⟩; have Z89 : Aside0 (w81.heap.size ≤ w88.heap.size) := Aside0.mk (hb.size); have n0_ := Aside0.mk (below_then HB.out HB.out.size hb); have n1_ := Aside0.mk (blk_below (g := gb1) (o := .cells #[.slice A0_0 l0_0.length c0_0] 24 (0, 0)) BK3.out hb); have n2_ := Aside0.mk (Kd.S_below F16.out hb); have n3_ := Aside0.mk (Kd.R_below F24.out hb); have n4_ := Aside0.mk (Kd.S_below F31.out hb); have n5_ := Aside0.mk (blk_below (g := gb33) (o := .cells #[.slice Ao29 l0_0.length co30] 26 (0, 0)) BK35.out hb); have n6_ := Aside0.mk (Kd.R_below F47.out hb); have n7_ := Aside0.mk (Kd.S_below F59.out hb); have n8_ := Aside0.mk (Kd.S_below F79.out hb); have n9_ := Aside0.mk (Kd.R_below F86.out hb); clear HB BK3 F16 F24 F31 BK35 F47 F59 F79 F86; have HB := n0_; have BK3 := n1_; have F16 := n2_; have F24 := n3_; have F31 := n4_; have BK35 := n5_; have F47 := n6_; have F59 := n7_; have F79 := n8_; have F86 := n9_; clear n0_ n1_ n2_ n3_ n4_ n5_ n6_ n7_ n8_ n9_; (try clear hb); (try clear hz_gb1_0); have hz_gb1_0 : w88.cell? ⟨gb1, 0, none⟩ = some (.slice A0_0 l0_0.length c0_0) := (blk_cell BK3.out 0).trans rfl; (try clear hf_gb1_0); have hf_gb1_0 := blk_frozen BK3.out 0; (try clear hz_gb33_0); have hz_gb33_0 : w88.cell? ⟨gb33, 0, none⟩ = some (.slice Ao29 l0_0.length co30) := (blk_cell BK35.out 0).trans rfl; (try clear hf_gb33_0); have hf_gb33_0 := blk_frozen BK35.out 0) | ((with_reducible refine gate_dst (N := 95) rfl ?_); (try (refine gate_guard (by rfl) ?_; dsimp only)); refine goesL_ (some 95) rfl rfl Try.func21 (by kernel_rfl) rfl #[.slice Ao45 (marks 1 r0.length).length co46, .int .i64 1] rfl (by (try simp only [List.map_toArray, List.map_cons, List.map_nil]); first | done | (rw [show (marks 1 r0.length).length = r0.length from marks_length _ _] <;> rfl) | rfl) ?_; (with_reducible refine (calls_below (laws_heldInt64S.calls k _ _ (marks 1 r0.length) 1 tm1 _ ?side1 ?side2 E_laws_heldInt64S_72.out)).mono ?_); (case side1 => first | (exact (Kd.R_reads' F47.out).2.2) | (rw [show (marks 1 r0.length).length = r0.length from marks_length _ _]; exact (Kd.R_reads' F47.out).2.2)); (case side2 => first | (exact (Kd.R_reads' F47.out).2.1) | (rw [show (marks 1 r0.length).length = r0.length from marks_length _ _]; exact (Kd.R_reads' F47.out).2.1)); rintro e w90 ⟨rfl, hb⟩; refine ⟨_, rfl, ?_⟩; have Z91 : Aside0 (w88.heap.size ≤ w90.heap.size) := Aside0.mk (hb.size); have n0_ := Aside0.mk (below_then HB.out HB.out.size hb); have n1_ := Aside0.mk (blk_below (g := gb1) (o := .cells #[.slice A0_0 l0_0.length c0_0] 24 (0, 0)) BK3.out hb); have n2_ := Aside0.mk (Kd.S_below F16.out hb); have n3_ := Aside0.mk (Kd.R_below F24.out hb); have n4_ := Aside0.mk (Kd.S_below F31.out hb); have n5_ := Aside0.mk (blk_below (g := gb33) (o := .cells #[.slice Ao29 l0_0.length co30] 26 (0, 0)) BK35.out hb); have n6_ := Aside0.mk (Kd.R_below F47.out hb); have n7_ := Aside0.mk (Kd.S_below F59.out hb); have n8_ := Aside0.mk (Kd.S_below F79.out hb); have n9_ := Aside0.mk (Kd.R_below F86.out hb); clear HB BK3 F16 F24 F31 BK35 F47 F59 F79 F86; have HB := n0_; have BK3 := n1_; have F16 := n2_; have F24 := n3_; have F31 := n4_; have BK35 := n5_; have F47 := n6_; have F59 := n7_; have F79 := n8_; have F86 := n9_; clear n0_ n1_ n2_ n3_ n4_ n5_ n6_ n7_ n8_ n9_; (try clear hb); (try clear hz_gb1_0); have hz_gb1_0 : w90.cell? ⟨gb1, 0, none⟩ = some (.slice A0_0 l0_0.length c0_0) := (blk_cell BK3.out 0).trans rfl; (try clear hf_gb1_0); have hf_gb1_0 := blk_frozen BK3.out 0; (try clear hz_gb33_0); have hz_gb33_0 : w90.cell? ⟨gb33, 0, none⟩ = some (.slice Ao29 l0_0.length co30) := (blk_cell BK35.out 0).trans rfl; (try clear hf_gb33_0); have hf_gb33_0 := blk_frozen BK35.out 0))
  go_ret
  exact ⟨rfl, HB.out⟩

theorem laws_FnExactReachedFrom.good_of (A0_0 : Option Addr) (c0_0 : Nat) (l0_0 : List (List Int)) (a1 : Int) (tsz0 : Int) (r0 : List Int) (r1 : Int) (tm0 : Int) (tm1 : Int) (w : World) (hr0_0 : Kd.C (Kd.slice 2 (Kd.int .i64)) w A0_0 l0_0.length l0_0) (hc0_0 : l0_0.length ≤ c0_0) (D_tsz0 : decide (tsz0 < 0) = false) (E_laws_szGame_8_h : Ev (fun k => laws_szGame.f k l0_0 1048576) (tsz0)) (E_laws_toGame_11_h : Ev (fun k => laws_toGame.f k l0_0) (l0_0)) (E_spec_ReachedFrom_19_h : Ev (fun k => spec_ReachedFrom.f k l0_0 a1) ((r0, r1))) (E_impl_ReachedFrom_42_h : Ev (fun k => impl_ReachedFrom.f k l0_0 a1) ((r0, r1))) (E_laws_eqInt64S_50_h : Ev (fun k => laws_eqInt64S.f k r0 r0) (true)) (E_laws_eqGame_62_h : Ev (fun k => laws_eqGame.f k l0_0 l0_0) (true)) (D_tm0 : decide (tm0 < 0) = false) (HM1_F31_h : 1 + total l0_0 < 4611686018427387904) (HM2_F31_h : l0_0.length < 4611686018427387904) (tm0_eq_h : 1 + total l0_0 = tm0) (D_tm1 : decide (tm1 < 0) = false) (E_laws_markInt64S_69_h : Ev (fun k => laws_markInt64S.f k r0 1) ((tm1, marks 1 r0.length))) (E_laws_heldInt64S_72_h : Ev (fun k => laws_heldInt64S.f k (marks 1 r0.length) 1) (tm1)) :
    Calls Try.prog 5 #[.agg #[.slice A0_0 l0_0.length c0_0], .int .i64 a1] w fun e w' => e = .returned (.bool true) ∧ Below w.heap.size w w' := by
  obtain ⟨k0, e0⟩ := E_laws_szGame_8_h
  obtain ⟨k1, e1⟩ := E_laws_toGame_11_h
  obtain ⟨k2, e2⟩ := E_spec_ReachedFrom_19_h
  obtain ⟨k3, e3⟩ := E_impl_ReachedFrom_42_h
  obtain ⟨k4, e4⟩ := E_laws_eqInt64S_50_h
  obtain ⟨k5, e5⟩ := E_laws_eqGame_62_h
  obtain ⟨k6, e6⟩ := E_laws_markInt64S_69_h
  obtain ⟨k7, e7⟩ := E_laws_heldInt64S_72_h
  exact laws_FnExactReachedFrom.good (k0 + k1 + k2 + k3 + k4 + k5 + k6 + k7) A0_0 c0_0 l0_0 a1 tsz0 r0 r1 tm0 tm1 w hr0_0 hc0_0 D_tsz0 (e0 _ (by omega)) (e1 _ (by omega)) (e2 _ (by omega)) (e3 _ (by omega)) (e4 _ (by omega)) (e5 _ (by omega)) D_tm0 HM1_F31_h HM2_F31_h tm0_eq_h D_tm1 (e6 _ (by omega)) (e7 _ (by omega))

set_option maxHeartbeats 16000000 in
set_option maxRecDepth 100000 in
theorem laws_FnExactReachedFrom.early0 (k : Nat) (A0_0 : Option Addr) (c0_0 : Nat) (l0_0 : List (List Int)) (a1 : Int) (tsz0 : Int) (w : World) (hr0_0 : Kd.C (Kd.slice 2 (Kd.int .i64)) w A0_0 l0_0.length l0_0) (hc0_0 : l0_0.length ≤ c0_0) (D_tsz0 : decide (tsz0 < 0) = true) (E_laws_szGame_8_h : laws_szGame.f k l0_0 1048576 = some tsz0) :
    Calls Try.prog 5 #[.agg #[.slice A0_0 l0_0.length c0_0], .int .i64 a1] w fun e w' => e = .returned (.bool true) ∧ Below w.heap.size w w' := by
  have HR0_0 := Aside0.mk hr0_0
  have HC0_0 := Aside0.mk hc0_0
  clear hr0_0 hc0_0
  have E_laws_szGame_8 := Aside0.mk E_laws_szGame_8_h
  clear E_laws_szGame_8_h
  have hu24 := Try.underlying24
  have HB := Aside0.mk (Below.refl w.heap.size w)
  go_enter Try.func5, Try.ntmps5
  go_wp2_with (first | ((with_reducible refine gate_dst (N := 2) rfl ?_); (try (refine gate_guard (by rfl) ?_; dsimp only)); refine box_event ?hg (N := 2) ?hd (cs := #[.slice A0_0 l0_0.length c0_0]) (t := 24) ?hr ?_; (case hd => rfl); (case hg => rfl); (case hr => first | (go_simp; done) | (go_simp; rfl)); intro gb1 hg w2 hbox hb; have Z5 : Aside0 (w.heap.size ≤ w2.heap.size) := Aside0.mk (hb.size); have BK3 := Aside0.mk hbox; have GP4 := Aside0.mk hg; have Z6 : Aside0 (gb1 < w2.heap.size) := Aside0.mk (blk_lt hbox); have n0_ := Aside0.mk (below_then HB.out HB.out.size hb); clear HB; have HB := n0_; clear n0_; clear hb hbox hg; (try clear hz_gb1_0); have hz_gb1_0 : w2.cell? ⟨gb1, 0, none⟩ = some (.slice A0_0 l0_0.length c0_0) := (blk_cell BK3.out 0).trans rfl; (try clear hf_gb1_0); have hf_gb1_0 := blk_frozen BK3.out 0) | ((with_reducible refine gate_dst (N := 18) rfl ?_); (try (refine gate_guard (by rfl) ?_; dsimp only)); refine goesL_ (some 18) rfl rfl Try.func8 (by kernel_rfl) rfl #[.agg #[.slice A0_0 l0_0.length c0_0], .int .i64 1048576] rfl (by (try simp only [List.map_toArray, List.map_cons, List.map_nil]); first | done | rfl) ?_; (with_reducible refine (laws_szGame.calls k _ _ l0_0 1048576 tsz0 _ ?side1 ?side2 E_laws_szGame_8.out).mono ?_); (case side1 => exact Kd.C_below HR0_0.out HB.out); (case side2 => exact HC0_0.out); rintro e w7 ⟨rfl, hb⟩; refine ⟨_, rfl, ?_⟩; have Z9 : Aside0 (w2.heap.size ≤ w7.heap.size) := Aside0.mk (hb.size); have n0_ := Aside0.mk (below_then HB.out HB.out.size hb); have n1_ := Aside0.mk (blk_below (g := gb1) (o := .cells #[.slice A0_0 l0_0.length c0_0] 24 (0, 0)) BK3.out hb); clear HB BK3; have HB := n0_; have BK3 := n1_; clear n0_ n1_; (try clear hb); (try clear hz_gb1_0); have hz_gb1_0 : w7.cell? ⟨gb1, 0, none⟩ = some (.slice A0_0 l0_0.length c0_0) := (blk_cell BK3.out 0).trans rfl; (try clear hf_gb1_0); have hf_gb1_0 := blk_frozen BK3.out 0))
  go_ret
  exact ⟨rfl, HB.out⟩

theorem laws_FnExactReachedFrom.early0_of (A0_0 : Option Addr) (c0_0 : Nat) (l0_0 : List (List Int)) (a1 : Int) (tsz0 : Int) (w : World) (hr0_0 : Kd.C (Kd.slice 2 (Kd.int .i64)) w A0_0 l0_0.length l0_0) (hc0_0 : l0_0.length ≤ c0_0) (D_tsz0 : decide (tsz0 < 0) = true) (E_laws_szGame_8_h : Ev (fun k => laws_szGame.f k l0_0 1048576) (tsz0)) :
    Calls Try.prog 5 #[.agg #[.slice A0_0 l0_0.length c0_0], .int .i64 a1] w fun e w' => e = .returned (.bool true) ∧ Below w.heap.size w w' := by
  obtain ⟨k0, e0⟩ := E_laws_szGame_8_h
  exact laws_FnExactReachedFrom.early0 (k0) A0_0 c0_0 l0_0 a1 tsz0 w hr0_0 hc0_0 D_tsz0 (e0 _ (by omega))

end Go.Proofs.Ytbiemfbdobdecaa.PX

/- Numbers within bounds, and the first of two checks that fails (no condition). -/
namespace Go.Proofs.Ytbiemfbdobdecaa.PX
open Go.RowKit Go.Proofs.YtbiemfbdobdecaaW.PrintWords Go.Proofs.YtbiemfbdobdecaaW.PrintLast Go.Proofs.YtbiemfbdobdecaaW.PrintMore
attribute [local go_sem] max2_int min2_int max_two min_two max_three min_three max_four min_four
set_option linter.unusedVariables false
set_option linter.unusedSimpArgs false
theorem l01In_eq (a b c : Int) : spec_l01In.f a b c = some (decide (b ≤ a) && decide (a ≤ c)) := by
  unfold spec_l01In.f
  by_cases h : b ≤ a <;> simp [h]
theorem within_eq (a b c : Int) : impl_within.f a b c = some (decide (b ≤ a) && decide (a ≤ c)) := by
  unfold impl_within.f
  by_cases h : b ≤ a <;> simp [h]
theorem ev_add {α : Type} {g f : Nat → Option α} {r : α} (n : Nat) (h : ∀ k, g (k + n) = f k) (k : Ev f r) : Ev g r := by
  obtain ⟨K, hK⟩ := k
  refine ⟨K + n, fun m hm => ?_⟩
  obtain ⟨d, rfl⟩ : ∃ d, m = d + n := ⟨m - n, by omega⟩
  rw [h]
  exact hK d (by omega)
def firstOf (a b : Bool) (x y : Int) : Int := if a = true then (if b = true then 0 else y) else x
theorem first2_ev (a b : Bool) (x y : Int) : Ev (fun k => impl_first.f k (([(⟨a, x⟩ : S50), (⟨b, y⟩ : S50)] : List (S50)))) (firstOf a b x y) := by
  cases a <;> cases b
  · exact ev_add (f := fun _ => some x) 3 (fun k => by kernel_rfl) (Ev.now _)
  · exact ev_add (f := fun _ => some x) 3 (fun k => by kernel_rfl) (Ev.now _)
  · exact ev_add (f := fun _ => some y) 3 (fun k => by kernel_rfl) (Ev.now _)
  · exact ev_add (f := fun _ => some 0) 3 (fun k => by kernel_rfl) (Ev.now _)

end Go.Proofs.Ytbiemfbdobdecaa.PX

/- The program's IsGame and the reference's l01Is tell the same, on every list of lists of sizes that fit in memory. -/
namespace Go.Proofs.Ytbiemfbdobdecaa.PX
open Go.RowKit Go.Proofs.YtbiemfbdobdecaaW.PrintWords Go.Proofs.YtbiemfbdobdecaaW.PrintLast Go.Proofs.YtbiemfbdobdecaaW.PrintMore
attribute [local go_sem] max2_int min2_int max_two min_two max_three min_three max_four min_four
set_option linter.unusedVariables false
set_option linter.unusedSimpArgs false
def okRow (last n : Int) : List Int → Bool
  | [] => true
  | x :: r => decide (last < x) && (decide (x < n) && okRow x n r)
def okRows (n : Int) : Int → List (List Int) → Bool
  | _, [] => true
  | p, row :: rest => okRow p n row && okRows n (p + 1) rest
def isGame (g : List (List Int)) : Bool := decide (1 ≤ g.length) && (decide (g.length ≤ 40) && okRows g.length 0 g)
theorem is_row (g : List (List Int)) (row : List Int) (p : Nat) (hp : g[p]? = some row) (hl : row.length < 4611686018427387904) (hg : g.length < 4611686018427387904) (v : Bool)
    (hv : Ev (fun k => spec_l01Is.l0 k (g.length : Int) ((p + 1 : Nat) : Int) g) v) (d : Nat) :
    ∀ (i : Nat) (last : Int), i + d = row.length → Ev (fun k => spec_l01Is.l1 k (g.length : Int) (p : Int) last (i : Int) g) (okRow last g.length (row.drop i) && v) := by
  have hpl : p < g.length := (List.getElem?_eq_some_iff.1 hp).1
  have hr : rd_L1 g (p : Int) = row := by rw [rdL1_nat]; exact getD_of hp
  induction d with
  | zero =>
    intro i last hd
    have e : row.drop i = [] := List.drop_eq_nil_of_le (by omega)
    rw [e]
    refine Ev.step (fun k => ?_) (r := v) (show Ev _ _ from hv)
    simp only [spec_l01Is.l1]
    rw [if_pos (by omega), if_pos (by omega), hr, if_neg (by omega), wrapS (by omega) (by omega), cast_succ]
  | succ d ih =>
    intro i last hd
    obtain ⟨x, hx⟩ := get_some (xs := row) (i := i) (by omega)
    have hrx : rd row (i : Int) = x := by rw [rd_nat]; exact getD_of hx
    have h1 : ∀ k, spec_l01Is.l1 (k + 1) (g.length : Int) (p : Int) last (i : Int) g = (if x ≤ last then (some false) else (if x ≥ (g.length : Int) then (some false) else (spec_l01Is.l1 k (g.length : Int) (p : Int) x ((i + 1 : Nat) : Int) g))) := fun k => by
      simp only [spec_l01Is.l1]
      rw [if_pos (by omega), if_pos (by omega), hr, if_pos (by omega), if_pos (by omega), hrx, wrapS (by omega) (by omega), cast_succ]
    rw [drop_of hx]
    simp only [okRow]
    by_cases c1 : x ≤ last
    · have : (decide (last < x)) = false := by simp; omega
      rw [this]
      exact Ev.step (fun k => by rw [h1, if_pos c1]) (Ev.now false)
    · have : (decide (last < x)) = true := by simp; omega
      rw [this]
      by_cases c2 : x ≥ (g.length : Int)
      · have : (decide (x < (g.length : Int))) = false := by simp; omega
        rw [this]
        exact Ev.step (fun k => by rw [h1, if_neg c1, if_pos c2]) (Ev.now false)
      · have : (decide (x < (g.length : Int))) = true := by simp; omega
        rw [this]
        simp only [Bool.true_and]
        exact Ev.step (fun k => by rw [h1, if_neg c1, if_neg c2]) (ih (i + 1) x (by omega))
theorem is_rows (g : List (List Int)) (hl : ∀ row ∈ g, row.length < 4611686018427387904) (hg : g.length < 4611686018427387904) (d : Nat) :
    ∀ p : Nat, p + d = g.length → Ev (fun k => spec_l01Is.l0 k (g.length : Int) (p : Int) g) (okRows g.length p (g.drop p)) := by
  induction d with
  | zero =>
    intro p hd
    rw [List.drop_eq_nil_of_le (by omega)]
    refine Ev.step (f := fun _ => some true) (fun k => ?_) (Ev.now true)
    simp only [spec_l01Is.l0]; rw [if_neg (by omega)]
  | succ d ih =>
    intro p hd
    obtain ⟨row, hp⟩ := get_some (xs := g) (i := p) (by omega)
    rw [drop_of hp]
    simp only [okRows, cast_succ]
    refine Ev.step (fun k => ?_) (is_row g row p hp (hl row (List.mem_of_getElem? hp)) hg _ (ih (p + 1) (by omega)) row.length 0 (p : Int) (by omega))
    simp only [spec_l01Is.l0]; rw [if_pos (by omega)]; rfl
theorem l01Is_ev (g : List (List Int)) (hl : ∀ row ∈ g, row.length < 4611686018427387904) (hg : g.length < 4611686018427387904) : Ev (fun k => spec_l01Is.f k g) (isGame g) := by
  have hin : spec_l01In.f (g.length : Int) 1 40 = some (decide (1 ≤ g.length) && decide (g.length ≤ 40)) := by
    unfold spec_l01In.f
    by_cases h : (g.length : Int) ≥ 1
    · rw [if_pos h]
      have : decide (1 ≤ g.length) = true := decide_eq_true (by omega)
      have e2 : decide ((g.length : Int) ≤ 40) = decide (g.length ≤ 40) := by rw [decide_eq_decide]; omega
      rw [this, Bool.true_and, e2]
    · rw [if_neg h]
      have : decide (1 ≤ g.length) = false := decide_eq_false (by omega)
      rw [this]; rfl
  unfold isGame
  by_cases h1 : (decide (1 ≤ g.length) && decide (g.length ≤ 40)) = true
  · have h2 : (decide (1 ≤ g.length) = true) ∧ (decide (g.length ≤ 40) = true) := by simpa using h1
    rw [h2.1, h2.2]
    simp only [Bool.true_and]
    refine Ev.congr (fun k => ?_) (is_rows g hl hg g.length 0 (by omega))
    unfold spec_l01Is.f spec_l01N.f
    simp only [Option.bind_some, hin]
    rw [if_pos h1]; rfl
  · have h2 : (decide (1 ≤ g.length) && (decide (g.length ≤ 40) && okRows (g.length : Int) 0 g)) = false := by
      cases a : decide (1 ≤ g.length) <;> cases b : decide (g.length ≤ 40) <;> simp_all
    rw [h2]
    refine Ev.congr (f := fun _ => some false) (fun k => ?_) (Ev.now false)
    unfold spec_l01Is.f spec_l01N.f
    simp only [Option.bind_some, hin]
    rw [if_neg h1]
theorem rising_loop (xs : List Int) (lo hi : Int) (hl : xs.length < 4611686018427387904) (d : Nat) :
    ∀ (i : Nat) (last : Int), i + d = xs.length → (if i = 0 then last = lo - 1 else xs[i - 1]? = some last) → lo - 1 ≤ last → Ev (fun k => impl_isRising.l0 k xs lo hi xs (xs.length : Int) (i : Int)) (okRow last (hi + 1) (xs.drop i)) := by
  have hw : ∀ a b c : Int, impl_within.f a b c = some (decide (b ≤ a) && decide (a ≤ c)) := by
    intro a b c
    unfold impl_within.f
    by_cases h : b ≤ a <;> simp [h]
  induction d with
  | zero =>
    intro i last hd _ _
    rw [List.drop_eq_nil_of_le (by omega)]
    refine Ev.step (f := fun _ => some true) (fun k => ?_) (Ev.now true)
    simp only [impl_isRising.l0]; rw [if_neg (by omega)]
  | succ d ih =>
    intro i last hd hlast hge
    obtain ⟨x, hx⟩ := get_some (xs := xs) (i := i) (by omega)
    have hrx : rd xs (i : Int) = x := by rw [rd_nat]; exact getD_of hx
    rw [drop_of hx]
    simp only [okRow]
    have hn := ih (i + 1) x (by omega) (by rw [if_neg (by omega)]; simpa using hx)
    by_cases h0 : i = 0
    · subst h0
      rw [if_pos rfl] at hlast
      subst hlast
      have h1 : ∀ k, impl_isRising.l0 (k + 1) xs lo hi xs (xs.length : Int) ((0 : Nat) : Int) = (if (decide (lo ≤ x) && decide (x ≤ hi)) = true then (impl_isRising.l0 k xs lo hi xs (xs.length : Int) ((0 + 1 : Nat) : Int)) else (some false)) := fun k => by
        simp only [impl_isRising.l0]
        rw [if_pos (by omega), if_pos (by omega), if_pos (by omega), hrx, hw]
        simp only [Option.bind_some]
        rw [if_neg (show ¬ (((0 : Nat) : Int) > 0) by omega), wrapS (by omega) (by omega), cast_succ]
      by_cases c : (decide (lo ≤ x) && decide (x ≤ hi)) = true
      · have c' : lo ≤ x ∧ x ≤ hi := by simpa using c
        have e1 : decide (lo - 1 < x) = true := by simp; omega
        have e2 : decide (x < hi + 1) = true := by simp; omega
        rw [e1, e2]
        simp only [Bool.true_and]
        exact Ev.step (fun k => by rw [h1, if_pos c]) (hn (by omega))
      · have e : (decide (lo - 1 < x) && (decide (x < hi + 1) && okRow x (hi + 1) (xs.drop (0 + 1)))) = false := by
          cases a : decide (lo - 1 < x) <;> cases b : decide (x < hi + 1) <;> simp_all <;> omega
        rw [e]
        exact Ev.step (fun k => by rw [h1, if_neg c]) (Ev.now false)
    · rw [if_neg h0] at hlast
      have hw1 : wrap64 ((i : Int) - 1) = ((i - 1 : Nat) : Int) := by rw [wrapS (by omega) (by omega)]; omega
      have hrl : rd xs ((i - 1 : Nat) : Int) = last := by
        rw [rd_nat]
        exact getD_of hlast
      have h1 : ∀ k, impl_isRising.l0 (k + 1) xs lo hi xs (xs.length : Int) (i : Int) = (if (decide (lo ≤ x) && decide (x ≤ hi)) = true then (if x ≤ last then (some false) else (impl_isRising.l0 k xs lo hi xs (xs.length : Int) ((i + 1 : Nat) : Int))) else (some false)) := fun k => by
        simp only [impl_isRising.l0]
        rw [if_pos (by omega), if_pos (by omega), if_pos (by omega), hrx, hw]
        simp only [Option.bind_some]
        rw [if_pos (show ((i : Int) > 0) by omega), hw1, if_pos (show (0 : Int) ≤ ((i - 1 : Nat) : Int) by omega), if_pos (show ((i - 1 : Nat) : Int) < (xs.length : Int) by omega), hrl, wrapS (by omega) (by omega), cast_succ]
      by_cases c1 : x ≤ last
      · have e : decide (last < x) = false := by simp; omega
        rw [e]
        refine Ev.step (f := fun _ => some false) (fun k => ?_) (Ev.now false)
        rw [h1, if_pos c1]; split <;> rfl
      · have e : decide (last < x) = true := by simp; omega
        rw [e]
        simp only [Bool.true_and]
        by_cases c2 : x ≤ hi
        · have e2 : decide (x < hi + 1) = true := by simp; omega
          rw [e2]
          simp only [Bool.true_and]
          exact Ev.step (fun k => by rw [h1, if_pos (by simp; omega), if_neg c1]) (hn (by omega))
        · have e2 : decide (x < hi + 1) = false := by simp; omega
          rw [e2]
          exact Ev.step (fun k => by rw [h1, if_neg (by simp; omega)]) (Ev.now false)
theorem rising_ev (xs : List Int) (lo hi : Int) (hl : xs.length < 4611686018427387904) : Ev (fun k => impl_isRising.f k xs lo hi) (okRow (lo - 1) (hi + 1) xs) := by
  have := rising_loop xs lo hi hl xs.length 0 (lo - 1) (by omega) (by simp) (by omega)
  exact this
theorem isg_loop (g : List (List Int)) (hl : ∀ row ∈ g, row.length < 4611686018427387904) (hg : g.length < 4611686018427387904) (d : Nat) :
    ∀ p : Nat, p + d = g.length → Ev (fun k => impl_IsGame.l0 k (g.length : Int) g (g.length : Int) (p : Int)) (okRows g.length p (g.drop p) && (decide (1 ≤ g.length) && decide (g.length ≤ 40))) := by
  induction d with
  | zero =>
    intro p hd
    rw [List.drop_eq_nil_of_le (by omega)]
    refine Ev.step (f := fun _ => some (decide (1 ≤ g.length) && decide (g.length ≤ 40))) (fun k => ?_) (by simp only [okRows, Bool.true_and]; exact Ev.now _)
    simp only [impl_IsGame.l0]; rw [if_neg (by omega)]
    unfold impl_within.f
    by_cases h : (1 : Int) ≤ (g.length : Int)
    · rw [if_pos h]
      have e : decide (1 ≤ g.length) = true := decide_eq_true (by omega)
      rw [e]; simp; omega
    · rw [if_neg h]
      have e : decide (1 ≤ g.length) = false := decide_eq_false (by omega)
      rw [e]; simp
  | succ d ih =>
    intro p hd
    obtain ⟨row, hp⟩ := get_some (xs := g) (i := p) (by omega)
    have hr : rd_L1 g (p : Int) = row := by rw [rdL1_nat]; exact getD_of hp
    rw [drop_of hp]
    simp only [okRows, cast_succ]
    have hrow := rising_ev row (wrap64 ((p : Int) + 1)) (wrap64 ((g.length : Int) - 1)) (hl row (List.mem_of_getElem? hp))
    rw [wrapS (by omega) (by omega), wrapS (by omega) (by omega), show (p : Int) + 1 - 1 = (p : Int) by omega, show (g.length : Int) - 1 + 1 = (g.length : Int) by omega] at hrow
    have hn := ih (p + 1) (by omega)
    refine Ev.step (f := fun k => (impl_isRising.f k row ((p : Int) + 1) ((g.length : Int) - 1)).bind fun t => if t = true then (impl_IsGame.l0 k (g.length : Int) g (g.length : Int) ((p + 1 : Nat) : Int)) else (some false)) (fun k => ?_) (Ev.bind hrow ?_)
    · simp only [impl_IsGame.l0]
      rw [if_pos (by omega), if_pos (by omega), if_pos (by omega), hr, wrapS (i := (p : Int) + 1) (by omega) (by omega), wrapS (i := (g.length : Int) - 1) (by omega) (by omega), cast_succ]
    · cases okRow (p : Int) (g.length : Int) row with
      | true => simp only [Bool.true_and]; exact Ev.congr (fun k => by simp) hn
      | false => exact Ev.congr (f := fun _ => some false) (fun k => by simp) (Ev.now false)
theorem IsGame_ev (g : List (List Int)) (hl : ∀ row ∈ g, row.length < 4611686018427387904) (hg : g.length < 4611686018427387904) : Ev (fun k => impl_IsGame.f k g) (isGame g) := by
  have := isg_loop g hl hg g.length 0 (by omega)
  have e : isGame g = (okRows (g.length : Int) ((0 : Nat) : Int) (g.drop 0) && (decide (1 ≤ g.length) && decide (g.length ≤ 40))) := by
    unfold isGame
    rw [List.drop_zero]
    cases decide (1 ≤ g.length) <;> cases decide (g.length ≤ 40) <;> simp
  rw [e]
  exact this

end Go.Proofs.Ytbiemfbdobdecaa.PX

/- Values of the places of a game, from the last place to the first; what a game that is told to be one gives (no condition). -/
namespace Go.Proofs.Ytbiemfbdobdecaa.PX
open Go.RowKit Go.Proofs.YtbiemfbdobdecaaW.PrintWords Go.Proofs.YtbiemfbdobdecaaW.PrintLast Go.Proofs.YtbiemfbdobdecaaW.PrintMore
attribute [local go_sem] max2_int min2_int max_two min_two max_three min_three max_four min_four
set_option linter.unusedVariables false
set_option linter.unusedSimpArgs false
theorem okRow_mem {n : Int} : ∀ {xs : List Int} {last : Int}, okRow last n xs = true → ∀ q ∈ xs, last < q ∧ q < n
  | [], _, _, q, h => by simp at h
  | x :: r, last, h, q, hq => by
    simp only [okRow, Bool.and_eq_true, decide_eq_true_eq] at h
    rcases List.mem_cons.1 hq with rfl | hq
    · exact ⟨h.1, h.2.1⟩
    · have := okRow_mem h.2.2 q hq
      exact ⟨by omega, this.2⟩
theorem okRow_len {n : Int} : ∀ {xs : List Int} {last : Int}, okRow last n xs = true → last < n → (xs.length : Int) ≤ n - 1 - last
  | [], last, _, h => by simp only [List.length_nil]; omega
  | x :: r, last, h, hl => by
    simp only [okRow, Bool.and_eq_true, decide_eq_true_eq] at h
    have := okRow_len h.2.2 h.2.1
    simp only [List.length_cons]
    omega
theorem okRows_get {n : Int} : ∀ {g : List (List Int)} {p : Int} {i : Nat} {row : List Int}, okRows n p g = true → g[i]? = some row → okRow (p + i) n row = true
  | [], _, _, _, _, h => by simp at h
  | x :: r, p, i, row, h, hi => by
    simp only [okRows, Bool.and_eq_true] at h
    cases i with
    | zero =>
      simp only [List.getElem?_cons_zero, Option.some.injEq] at hi
      subst hi
      simpa using h.1
    | succ i =>
      simp only [List.getElem?_cons_succ] at hi
      have := okRows_get h.2 hi
      rw [show p + ((i + 1 : Nat) : Int) = p + 1 + i by omega]
      exact this
theorem game_row {g : List (List Int)} (h : isGame g = true) {p : Nat} {row : List Int} (hp : g[p]? = some row) :
    (∀ q ∈ row, (p : Int) < q ∧ q < g.length) ∧ row.length ≤ 40 := by
  simp only [isGame, Bool.and_eq_true, decide_eq_true_eq] at h
  have hr := okRows_get h.2.2 hp
  have hl : p < g.length := (List.getElem?_eq_some_iff.1 hp).1
  have h1 := okRow_mem hr
  have h2 := okRow_len hr (by omega)
  exact ⟨fun q hq => ⟨by have := h1 q hq; omega, (h1 q hq).2⟩, by omega⟩
theorem game_len {g : List (List Int)} (h : isGame g = true) : 1 ≤ g.length ∧ g.length ≤ 40 := by
  simp only [isGame, Bool.and_eq_true, decide_eq_true_eq] at h
  exact ⟨h.1, h.2.1⟩
/-- The values of the last d places, the first of them first. -/
def backAt {α : Type} (sem : List α → α) (z : α) (g : List (List Int)) : Nat → List α
  | 0 => []
  | d + 1 => sem ((g.getD (g.length - (d + 1)) []).map fun q => (backAt sem z g d).getD (q.toNat - (g.length - d)) z) :: backAt sem z g d
theorem backAt_length {α : Type} (sem : List α → α) (z : α) (g : List (List Int)) : ∀ d, (backAt sem z g d).length = d
  | 0 => rfl
  | d + 1 => by simp only [backAt, List.length_cons, backAt_length sem z g d]
def backs {α : Type} (sem : List α → α) (z : α) (g : List (List Int)) : List α := backAt sem z g g.length
/-- What the places after p lead a row to. -/
def seen {α : Type} (sem : List α → α) (z : α) (g : List (List Int)) (p d : Nat) (row : List Int) : List α := row.map fun q => (backAt sem z g d).getD (q.toNat - (p + 1)) z
theorem backAt_succ {α : Type} (sem : List α → α) (z : α) (g : List (List Int)) (p d : Nat) (row : List Int) (hg : g.length = p + 1 + d) (hp : g[p]? = some row) :
    backAt sem z g (d + 1) = sem (seen sem z g p d row) :: backAt sem z g d := by
  simp only [backAt, seen]
  rw [show g.length - (d + 1) = p by omega, show g.length - d = p + 1 by omega, getD_of hp]
theorem arr_get {α : Type} (z : α) (m : Nat) (bs : List α) (q : Nat) (h : m ≤ q) : (List.replicate m z ++ bs).getD q z = bs.getD (q - m) z := by
  rw [List.getD_eq_getElem?_getD, List.getD_eq_getElem?_getD, List.getElem?_append_right (by simpa using h), List.length_replicate]
theorem arr_set {α : Type} (z v : α) (p : Nat) (bs : List α) : (List.replicate (p + 1) z ++ bs).set p v = List.replicate p z ++ v :: bs := by
  rw [List.replicate_succ', List.append_assoc, List.set_append_right _ _ (by simp)]
  simp
/-- What holds of every value of the later places holds of what a row is led to. -/
theorem seen_all {α : Type} (sem : List α → α) (z : α) (Q : α → Prop) (g : List (List Int)) (p d : Nat) (row : List Int) (hg : g.length = p + 1 + d)
    (hq : ∀ q ∈ row, (p : Int) < q ∧ q < g.length) (hb : ∀ x ∈ backAt sem z g d, Q x) : ∀ x ∈ seen sem z g p d row, Q x := by
  intro x hx
  obtain ⟨q, hm, rfl⟩ := List.mem_map.1 hx
  have h := hq q hm
  have hl : q.toNat - (p + 1) < (backAt sem z g d).length := by rw [backAt_length]; omega
  rw [List.getD_eq_getElem?_getD, List.getElem?_eq_getElem hl]
  exact hb _ (List.getElem_mem hl)
theorem backAt_all {α : Type} (sem : List α → α) (z : α) (Q : α → Prop) (g : List (List Int)) (h : isGame g = true) (hs : ∀ xs : List α, xs.length ≤ 40 → (∀ x ∈ xs, Q x) → Q (sem xs)) :
    ∀ d, d ≤ g.length → ∀ x ∈ backAt sem z g d, Q x
  | 0, _, x, hx => by simp [backAt] at hx
  | d + 1, hd, x, hx => by
    obtain ⟨p, hp⟩ : ∃ p, g.length = p + 1 + d := ⟨g.length - (d + 1), by omega⟩
    obtain ⟨row, hr⟩ := get_some (xs := g) (i := p) (by omega)
    have ih := backAt_all sem z Q g h hs d (by omega)
    have hw := game_row h hr
    rw [backAt_succ sem z g p d row hp hr] at hx
    rcases List.mem_cons.1 hx with rfl | hx
    · exact hs _ (by simp only [seen, List.length_map]; exact hw.2) (seen_all sem z Q g p d row hp hw.1 ih)
    · exact ih x hx

end Go.Proofs.Ytbiemfbdobdecaa.PX

/- The mex, of the program and of the reference: the least number that is missing. -/
namespace Go.Proofs.Ytbiemfbdobdecaa.PX
open Go.RowKit Go.Proofs.YtbiemfbdobdecaaW.PrintWords Go.Proofs.YtbiemfbdobdecaaW.PrintLast Go.Proofs.YtbiemfbdobdecaaW.PrintMore
attribute [local go_sem] max2_int min2_int max_two min_two max_three min_three max_four min_four
set_option linter.unusedVariables false
set_option linter.unusedSimpArgs false
theorem len_le {l : List Nat} : ∀ {l' : List Nat}, l.Nodup → (∀ x ∈ l, x ∈ l') → l.length ≤ l'.length := by
  induction l with
  | nil => intro l' _ _; simp
  | cons x t ih =>
    intro l' nd h
    have hx : x ∈ l' := h x List.mem_cons_self
    have nd' := List.nodup_cons.1 nd
    have := ih (l' := l'.erase x) nd'.2 (fun y hy => by
      have hne : y ≠ x := fun e => nd'.1 (e ▸ hy)
      exact (List.mem_erase_of_ne hne).2 (h y (List.mem_cons_of_mem _ hy)))
    rw [List.length_erase_of_mem hx] at this
    have hp : 0 < l'.length := List.length_pos_of_mem hx
    simp only [List.length_cons]
    omega
/-- Some number up to the length is missing. -/
theorem missing (xs : List Int) : ∃ n : Nat, n ≤ xs.length ∧ (n : Int) ∉ xs := by
  apply Classical.byContradiction
  intro hc
  have h : ∀ n : Nat, n ≤ xs.length → (n : Int) ∈ xs := fun n hn => Classical.byContradiction fun h => hc ⟨n, hn, h⟩
  have := len_le (l := List.range (xs.length + 1)) (l' := xs.map Int.toNat) List.nodup_range (fun n hn => by
    rw [List.mem_range] at hn
    exact List.mem_map.2 ⟨(n : Int), h n (by omega), by simp⟩)
  simp at this; omega
/-- The least missing number. -/
def IsMex (xs : List Int) (n : Nat) : Prop := n ≤ xs.length ∧ (n : Int) ∉ xs ∧ ∀ m : Nat, m < n → (m : Int) ∈ xs
theorem mex_ex (xs : List Int) : ∃ n, IsMex xs n := by
  obtain ⟨n, hn, hm⟩ := missing xs
  have : ∀ d : Nat, ∀ j : Nat, j + d = n → (∀ m : Nat, m < j → (m : Int) ∈ xs) → ∃ n, IsMex xs n := by
    intro d
    induction d with
    | zero =>
      intro j hj hb
      have : j = n := by omega
      subst this
      exact ⟨j, hn, hm, hb⟩
    | succ d ih =>
      intro j hj hb
      by_cases c : (j : Int) ∈ xs
      · exact ih (j + 1) (by omega) (fun m hm => by
          rcases Nat.lt_or_ge m j with h | h
          · exact hb m h
          · have : m = j := by omega
            subst this; exact c)
      · exact ⟨j, by omega, c, hb⟩
  exact this n 0 (by omega) (fun m hm => absurd hm (Nat.not_lt_zero _))
noncomputable def mexOf (xs : List Int) : Nat := Classical.choose (mex_ex xs)
theorem mexOf_is (xs : List Int) : IsMex xs (mexOf xs) := Classical.choose_spec (mex_ex xs)
theorem mexOf_eq {xs : List Int} {n : Nat} (h1 : (n : Int) ∉ xs) (h2 : ∀ m : Nat, m < n → (m : Int) ∈ xs) : mexOf xs = n := by
  obtain ⟨_, a, b⟩ := mexOf_is xs
  rcases Nat.lt_trichotomy (mexOf xs) n with h | h | h
  · exact absurd (h2 _ h) a
  · exact h
  · exact absurd (b _ h) h1
theorem index_loop (xs : List Int) (x : Int) (hn : xs.length < 4611686018427387904) (d : Nat) : ∀ i : Nat, i + d = xs.length → ∃ t, Ev (fun k => slices_Index_int64_int64.l0 k xs x (xs.length : Int) (i : Int)) t ∧ decide (t ≥ 0) = decide (x ∈ xs.drop i) := by
  induction d with
  | zero =>
    intro i hd
    refine ⟨-1, Ev.step (f := fun _ => some (-1)) (fun k => ?_) (Ev.now _), ?_⟩
    · simp only [slices_Index_int64_int64.l0]; rw [if_neg (by omega)]
    · rw [List.drop_eq_nil_of_le (by omega)]; simp
  | succ d ih =>
    intro i hd
    obtain ⟨y, hy⟩ := get_some (xs := xs) (i := i) (by omega)
    have hrx : rd xs (i : Int) = y := by rw [rd_nat]; exact getD_of hy
    rw [drop_of hy]
    by_cases c : x = y
    · refine ⟨(i : Int), Ev.step (f := fun _ => some (i : Int)) (fun k => ?_) (Ev.now _), ?_⟩
      · simp only [slices_Index_int64_int64.l0]; rw [if_pos (by omega), if_pos (by omega), if_pos (by omega), hrx, if_pos c]
      · rw [decide_eq_true (show x ∈ y :: xs.drop (i + 1) by rw [c]; exact List.mem_cons_self), decide_eq_true (by omega)]
    · obtain ⟨t, ht, he⟩ := ih (i + 1) (by omega)
      refine ⟨t, Ev.step (fun k => ?_) ht, ?_⟩
      · simp only [slices_Index_int64_int64.l0]; rw [if_pos (by omega), if_pos (by omega), if_pos (by omega), hrx, if_neg c, wrapS (by omega) (by omega), cast_succ]
      · rw [he, decide_eq_decide]
        simp [c]
theorem contains_ev (xs : List Int) (x : Int) (hn : xs.length < 4611686018427387904) : Ev (fun k => slices_Contains_int64_int64.f k xs x) (decide (x ∈ xs)) := by
  obtain ⟨t, ht, he⟩ := index_loop xs x hn xs.length 0 (by omega)
  rw [List.drop_zero] at he
  rw [← he]
  exact Ev.congr (f := fun k => (slices_Index_int64_int64.f k xs x).bind fun t => (some (decide (t ≥ 0)))) (fun k => rfl) (Ev.bind ht (Ev.now _))
theorem mexi_loop (xs : List Int) (hn : xs.length < 4611686018427387904) (d : Nat) : ∀ i : Nat, i + d = mexOf xs → Ev (fun k => impl_mex.l0 k xs (i : Int)) (mexOf xs : Int) := by
  obtain ⟨hl, a, b⟩ := mexOf_is xs
  have st : ∀ i : Nat, ∀ k, impl_mex.l0 (k + 1) xs (i : Int) = (slices_Contains_int64_int64.f k xs (i : Int)).bind fun t => (if t = true then (impl_mex.l0 k xs (wrap64 ((i : Int) + 1))) else (some (i : Int))) := fun i k => rfl
  induction d with
  | zero =>
    intro i hd
    have : i = mexOf xs := by omega
    rw [← this] at a ⊢
    refine Ev.step (st i) (Ev.bind (contains_ev xs (i : Int) hn) ?_)
    exact Ev.congr (f := fun _ => some (i : Int)) (fun k => by rw [if_neg (by simp [a])]) (Ev.now _)
  | succ d ih =>
    intro i hd
    refine Ev.step (st i) (Ev.bind (contains_ev xs (i : Int) hn) ?_)
    exact Ev.congr (fun k => by rw [if_pos (by simp [b i (by omega)]), wrapS (by omega) (by omega), cast_succ]) (ih (i + 1) (by omega))
theorem mexi_ev (xs : List Int) (hn : xs.length < 4611686018427387904) : Ev (fun k => impl_mex.f k xs) (mexOf xs : Int) := mexi_loop xs hn (mexOf xs) 0 (by omega)
theorem rdOf_nat (xs : List Bool) (i : Nat) : rdOf false xs (i : Int) = xs.getD i false := by unfold rdOf; rfl
/-- What has been met among the first numbers. -/
def MetOf (xs : List Int) (i n : Nat) (met : List Bool) : Prop := met.length = n ∧ ∀ j : Nat, j < n → met.getD j false = decide ((j : Int) ∈ xs.take i)
theorem mexs_end (xs : List Int) (met : List Bool) (hm : MetOf xs xs.length (xs.length + 1) met) (hn : xs.length < 4611686018427387904) (d : Nat) : ∀ i : Nat, i + d = mexOf xs → Ev (fun k => spec_l01Mex.l1 k met (i : Int)) (mexOf xs : Int) := by
  obtain ⟨hl, a, b⟩ := mexOf_is xs
  obtain ⟨m1, m2⟩ := hm
  rw [List.take_length] at m2
  induction d with
  | zero =>
    intro i hd
    have : i = mexOf xs := by omega
    rw [← this] at a ⊢
    refine Ev.step (f := fun _ => some (i : Int)) (fun k => ?_) (Ev.now _)
    simp only [spec_l01Mex.l1]
    rw [if_pos (by omega), if_pos (by omega), rdOf_nat, m2 i (by omega), decide_eq_false a]
    rfl
  | succ d ih =>
    intro i hd
    refine Ev.step (fun k => ?_) (ih (i + 1) (by omega))
    simp only [spec_l01Mex.l1]
    rw [if_pos (by omega), if_pos (by omega), rdOf_nat, m2 i (by omega), decide_eq_true (b i (by omega)), if_pos rfl, wrapS (by omega) (by omega), cast_succ]
theorem mexs_loop (xs : List Int) (hp : ∀ x ∈ xs, 0 ≤ x) (hn : xs.length < 4611686018427387904) (d : Nat) : ∀ (i : Nat) (met : List Bool), i + d = xs.length → MetOf xs i (xs.length + 1) met → Ev (fun k => spec_l01Mex.l0 k xs met (i : Int)) (mexOf xs : Int) := by
  induction d with
  | zero =>
    intro i met hd hm
    have : i = xs.length := by omega
    subst this
    refine Ev.step (fun k => ?_) (mexs_end xs met hm hn (mexOf xs) 0 (by omega))
    simp only [spec_l01Mex.l0]; rw [if_neg (by omega)]; rfl
  | succ d ih =>
    intro i met hd hm
    obtain ⟨x, hx⟩ := get_some (xs := xs) (i := i) (by omega)
    have hrx : rd xs (i : Int) = x := by rw [rd_nat]; exact getD_of hx
    have hx0 : 0 ≤ x := hp x (List.mem_of_getElem? hx)
    obtain ⟨m1, m2⟩ := hm
    have htk : ∀ j : Nat, ((j : Int) ∈ xs.take (i + 1)) ↔ ((j : Int) ∈ xs.take i ∨ (j : Int) = x) := fun j => by
      obtain ⟨hlt, hxe⟩ := List.getElem?_eq_some_iff.1 hx
      rw [List.take_succ_eq_append_getElem hlt, hxe, List.mem_append, List.mem_singleton]
    by_cases c : x < (met.length : Int)
    · refine Ev.step (fun k => ?_) (ih (i + 1) (met.set x.toNat true) (by omega) ⟨by rw [List.length_set, m1], fun j hj => ?_⟩)
      · simp only [spec_l01Mex.l0]; rw [if_pos (by omega), if_pos (by omega), hrx, if_pos c, if_pos hx0, wrapS (by omega) (by omega), cast_succ]
      · rw [List.getD_eq_getElem?_getD, List.getElem?_set]
        by_cases e : x.toNat = j
        · rw [if_pos e, if_pos (by omega)]
          rw [decide_eq_true ((htk j).2 (.inr (by omega)))]; rfl
        · rw [if_neg e, ← List.getD_eq_getElem?_getD, m2 j hj, decide_eq_decide, htk j]
          constructor
          · exact .inl
          · rintro (h | h)
            · exact h
            · omega
    · refine Ev.step (fun k => ?_) (ih (i + 1) met (by omega) ⟨m1, fun j hj => ?_⟩)
      · simp only [spec_l01Mex.l0]; rw [if_pos (by omega), if_pos (by omega), hrx, if_neg c, wrapS (by omega) (by omega), cast_succ]
      · rw [m2 j hj, decide_eq_decide, htk j]
        constructor
        · exact .inl
        · rintro (h | h)
          · exact h
          · omega
theorem mexs_ev (xs : List Int) (hp : ∀ x ∈ xs, 0 ≤ x) (hn : xs.length ≤ 1000000) : Ev (fun k => spec_l01Mex.f k xs) (mexOf xs : Int) := by
  have h := mexs_loop xs hp (by omega) xs.length 0 (List.replicate (xs.length + 1) false) (by omega) ⟨by simp, fun j hj => by
    rw [List.getD_eq_getElem?_getD, List.getElem?_replicate, if_pos hj]; simp⟩
  refine Ev.congr (fun k => ?_) h
  unfold spec_l01Mex.f
  rw [wrapS (by omega) (by omega), if_pos (by omega), cast_succ, Int.toNat_natCast, if_pos (by omega)]
  rfl

end Go.Proofs.Ytbiemfbdobdecaa.PX

/- The program's 'backward' tells the values of the places, whatever tells a place's value from those it leads to (no condition). -/
namespace Go.Proofs.Ytbiemfbdobdecaa.PX
open Go.RowKit Go.Proofs.YtbiemfbdobdecaaW.PrintWords Go.Proofs.YtbiemfbdobdecaaW.PrintLast Go.Proofs.YtbiemfbdobdecaaW.PrintMore
attribute [local go_sem] max2_int min2_int max_two min_two max_three min_three max_four min_four
set_option linter.unusedVariables false
set_option linter.unusedSimpArgs false
theorem backB_inner (V : Nat → List Bool → Option Bool) (sem : List Bool → Bool) (g : List (List Int)) (p d : Nat) (row : List Int) (v : Bool) (r : List Bool × Int) (hg : g.length = p + 1 + d) (h40 : g.length ≤ 40)
    (hrow : g[p]? = some row) (hq : ∀ q ∈ row, (p : Int) < q ∧ q < g.length) (hl : row.length ≤ 40) (hV : Ev (fun k => V k (seen sem false g p d row)) v)
    (next : Ev (fun k => impl_backward_bool.l0 V k (List.replicate p false ++ v :: backAt sem false g d) ((p : Int) - 1) g) r) (e : Nat) : ∀ j : Nat, j + e = row.length →
    Ev (fun k => impl_backward_bool.l1 V k (List.replicate (p + 1) false ++ backAt sem false g d) (p : Int) (seen sem false g p d (row.take j)) row (row.length : Int) (j : Int) g) r := by
  induction e with
  | zero =>
    intro j hj
    have ej : j = row.length := by omega
    subst ej
    rw [List.take_length]
    refine Ev.step (fun k => by simp only [impl_backward_bool.l1]; rw [if_neg (by omega)]) (Ev.bind hV ?_)
    refine Ev.congr (fun k => ?_) next
    · rw [if_pos (by omega), if_pos (by simp only [List.length_append, List.length_replicate]; omega), Int.toNat_natCast, arr_set, wrapS (by omega) (by omega)]
  | succ e ih =>
    intro j hj
    obtain ⟨q, hjq⟩ := get_some (xs := row) (i := j) (by omega)
    have hm := hq q (List.mem_of_getElem? hjq)
    have eq1 : rd row (j : Int) = q := by rw [rd_nat, getD_of hjq]
    have e2 : rdOf false (List.replicate (p + 1) false ++ backAt sem false g d) q = (backAt sem false g d).getD (q.toNat - (p + 1)) false := by
      obtain ⟨n, rfl⟩ : ∃ n : Nat, q = (n : Int) := ⟨q.toNat, by omega⟩
      rw [rdOf_nat, arr_get _ _ _ _ (by omega), Int.toNat_natCast]
    refine Ev.step (fun k => ?_) (ih (j + 1) (by omega))
    simp only [impl_backward_bool.l1]
    rw [if_pos (by omega), if_pos (by omega), if_pos (by omega), eq1, if_pos (by omega), if_pos (by simp only [List.length_append, List.length_replicate, backAt_length]; omega),
      if_pos (by simp only [seen, List.length_map, List.length_take]; omega), e2, wrapS (by omega) (by omega), cast_succ]
    congr 1
    simp only [seen]
    rw [List.take_add_one, hjq]
    simp
theorem backB_loop (V : Nat → List Bool → Option Bool) (sem : List Bool → Bool) (Q : Bool → Prop) (g : List (List Int)) (h : isGame g = true)
    (hV : ∀ xs : List Bool, xs.length ≤ 40 → (∀ x ∈ xs, Q x) → Ev (fun k => V k xs) (sem xs) ∧ Q (sem xs)) :
    ∀ (m d : Nat), g.length = m + d → Ev (fun k => impl_backward_bool.l0 V k (List.replicate m false ++ backAt sem false g d) ((m : Int) - 1) g) (backs sem false g, 0)
  | 0, d, hg => by
    refine Ev.step (f := fun _ => some (backs sem false g, 0)) (fun k => ?_) (Ev.now _)
    simp only [impl_backward_bool.l0]
    rw [if_neg (by omega), backs, show g.length = d by omega]
    rfl
  | p + 1, d, hg => by
    obtain ⟨row, hr⟩ := get_some (xs := g) (i := p) (by omega)
    have hw := game_row h hr
    have hn := game_len h
    have hall := backAt_all sem false Q g h (fun xs h1 h2 => (hV xs h1 h2).2) d (by omega)
    have hv := (hV (seen sem false g p d row) (by simp only [seen, List.length_map]; exact hw.2) (seen_all sem false Q g p d row hg hw.1 hall)).1
    have next := backB_loop V sem Q g h hV p (d + 1) (by omega)
    rw [backAt_succ sem false g p d row hg hr] at next
    refine Ev.step (fun k => ?_) (backB_inner V sem g p d row _ _ hg hn.2 hr hw.1 hw.2 hv next row.length 0 (by omega))
    simp only [impl_backward_bool.l0]
    rw [show ((p + 1 : Nat) : Int) - 1 = (p : Int) by omega, if_pos (by omega), if_pos (by omega), if_pos (by omega), rdL1_nat, getD_of hr]
    rfl
theorem backB_ev (V : Nat → List Bool → Option Bool) (sem : List Bool → Bool) (Q : Bool → Prop) (g : List (List Int)) (hl : ∀ row ∈ g, row.length < 4611686018427387904) (hg : g.length < 4611686018427387904)
    (hV : ∀ xs : List Bool, xs.length ≤ 40 → (∀ x ∈ xs, Q x) → Ev (fun k => V k xs) (sem xs) ∧ Q (sem xs)) :
    Ev (fun k => impl_backward_bool.f V k g) (if isGame g = true then (backs sem false g, 0) else ([], 1)) := by
  have hi := IsGame_ev g hl hg
  by_cases h : isGame g = true
  · rw [if_pos h]
    rw [h] at hi
    have hn := game_len h
    have hb := backB_loop V sem Q g h hV g.length 0 (by omega)
    simp only [backAt, List.append_nil] at hb
    unfold impl_backward_bool.f
    refine Ev.bind hi (Ev.congr (fun k => ?_) hb)
    rw [if_pos rfl, if_pos (by omega), if_pos (by omega), Option.bind_some, List.length_replicate, Int.toNat_natCast, wrapS (by omega) (by omega)]
  · rw [if_neg h]
    have hf : isGame g = false := by simpa using h
    rw [hf] at hi
    unfold impl_backward_bool.f
    exact Ev.bind hi (Ev.congr (f := fun _ => some (([] : List Bool), (1 : Int))) (fun k => by rw [if_neg (by decide)]) (Ev.now _))

end Go.Proofs.Ytbiemfbdobdecaa.PX

/- A row whose own place is being told: what stands there, and what stands behind it (no condition). -/
namespace Go.Proofs.Ytbiemfbdobdecaa.PX
open Go.RowKit Go.Proofs.YtbiemfbdobdecaaW.PrintWords Go.Proofs.YtbiemfbdobdecaaW.PrintLast Go.Proofs.YtbiemfbdobdecaaW.PrintMore
attribute [local go_sem] max2_int min2_int max_two min_two max_three min_three max_four min_four
set_option linter.unusedVariables false
set_option linter.unusedSimpArgs false
theorem mid_self {α : Type} (z a : α) (p : Nat) (bs : List α) : (List.replicate p z ++ a :: bs).getD p z = a := by
  rw [List.getD_eq_getElem?_getD, List.getElem?_append_right (by simp), List.length_replicate, Nat.sub_self]
  rfl
theorem mid_get {α : Type} (z a : α) (p : Nat) (bs : List α) (q : Nat) (h : p + 1 ≤ q) : (List.replicate p z ++ a :: bs).getD q z = bs.getD (q - (p + 1)) z := by
  rw [List.getD_eq_getElem?_getD, List.getD_eq_getElem?_getD, List.getElem?_append_right (by simp only [List.length_replicate]; omega), List.length_replicate, show q - p = (q - (p + 1)) + 1 by omega, List.getElem?_cons_succ]
theorem mid_set {α : Type} (z a v : α) (p : Nat) (bs : List α) : (List.replicate p z ++ a :: bs).set p v = List.replicate p z ++ v :: bs := by
  rw [List.set_append_right _ _ (by simp)]
  simp
theorem mid_len {α : Type} (z a : α) (p : Nat) (bs : List α) : (List.replicate p z ++ a :: bs).length = p + 1 + bs.length := by
  simp only [List.length_append, List.length_replicate, List.length_cons]
  omega
theorem start_mid {α : Type} (z : α) (p : Nat) (bs : List α) : List.replicate (p + 1) z ++ bs = List.replicate p z ++ z :: bs := by
  rw [List.replicate_succ', List.append_assoc]
  rfl
theorem seen_take {α : Type} (sem : List α → α) (z : α) (g : List (List Int)) (p d : Nat) (row : List Int) (j : Nat) (q : Int) (hj : row[j]? = some q) :
    seen sem z g p d (row.take (j + 1)) = seen sem z g p d (row.take j) ++ [(backAt sem z g d).getD (q.toNat - (p + 1)) z] := by
  simp only [seen]
  rw [List.take_add_one, hj]
  simp
/-- What holds of the values, told with how many places are behind. -/
theorem backAt_allN {α : Type} (sem : List α → α) (z : α) (Q : Nat → α → Prop) (g : List (List Int)) (h : isGame g = true) (hm : ∀ d x, Q d x → Q (d + 1) x)
    (hs : ∀ d, ∀ xs : List α, xs.length ≤ 40 → (∀ x ∈ xs, Q d x) → Q (d + 1) (sem xs)) :
    ∀ d, d ≤ g.length → ∀ x ∈ backAt sem z g d, Q d x
  | 0, _, x, hx => by simp [backAt] at hx
  | d + 1, hd, x, hx => by
    obtain ⟨p, hp⟩ : ∃ p, g.length = p + 1 + d := ⟨g.length - (d + 1), by omega⟩
    obtain ⟨row, hr⟩ := get_some (xs := g) (i := p) (by omega)
    have ih := backAt_allN sem z Q g h hm hs d (by omega)
    have hw := game_row h hr
    rw [backAt_succ sem z g p d row hp hr] at hx
    rcases List.mem_cons.1 hx with rfl | hx
    · exact hs d _ (by simp only [seen, List.length_map]; exact hw.2) (seen_all sem z (Q d) g p d row hp hw.1 ih)
    · exact hm d x (ih x hx)

end Go.Proofs.Ytbiemfbdobdecaa.PX

/- The places that are won, as the reference and the program tell them, in both kinds of play (no condition but sizes that fit). -/
namespace Go.Proofs.Ytbiemfbdobdecaa.PX
open Go.RowKit Go.Proofs.YtbiemfbdobdecaaW.PrintWords Go.Proofs.YtbiemfbdobdecaaW.PrintLast Go.Proofs.YtbiemfbdobdecaaW.PrintMore
attribute [local go_sem] max2_int min2_int max_two min_two max_three min_three max_four min_four
set_option linter.unusedVariables false
set_option linter.unusedSimpArgs false
/-- Whether a place is won, told from those it leads to; ends are won if 'ends' says so. -/
def wonOf (ends : Bool) (xs : List Bool) : Bool := (ends && decide (xs.length = 0)) || xs.any (fun x => !x)
theorem won_inner (ends : Bool) (g : List (List Int)) (p d : Nat) (row : List Int) (r : List Bool) (hg : g.length = p + 1 + d) (h40 : g.length ≤ 40)
    (hrow : g[p]? = some row) (hq : ∀ q ∈ row, (p : Int) < q ∧ q < g.length) (hl : row.length ≤ 40)
    (next : Ev (fun k => spec_l01Won.l0 k ends (List.replicate p false ++ wonOf ends (seen (wonOf ends) false g p d row) :: backAt (wonOf ends) false g d) ((p : Int) - 1) g) r) (e : Nat) : ∀ j : Nat, j + e = row.length →
    Ev (fun k => spec_l01Won.l1 k ends (List.replicate p false ++ ((ends && decide (row.length = 0)) || (seen (wonOf ends) false g p d (row.take j)).any (fun x => !x)) :: backAt (wonOf ends) false g d) (p : Int) (j : Int) g) r := by
  have er : rd_L1 g (p : Int) = row := by rw [rdL1_nat, getD_of hrow]
  induction e with
  | zero =>
    intro j hj
    have ej : j = row.length := by omega
    subst ej
    rw [List.take_length]
    refine Ev.step (fun k => ?_) next
    simp only [spec_l01Won.l1]
    rw [if_pos (by omega), if_pos (by omega), er, if_neg (by omega), wrapS (by omega) (by omega)]
    simp only [wonOf, seen, List.length_map]
  | succ e ih =>
    intro j hj
    obtain ⟨q, hjq⟩ := get_some (xs := row) (i := j) (by omega)
    have hm := hq q (List.mem_of_getElem? hjq)
    have eq1 : rd row (j : Int) = q := by rw [rd_nat, getD_of hjq]
    have hx := ih (j + 1) (by omega)
    rw [seen_take (wonOf ends) false g p d row j q hjq] at hx
    generalize hA : seen (wonOf ends) false g p d (row.take j) = A at hx ⊢
    have e2 : ∀ a, rdOf false (List.replicate p false ++ a :: backAt (wonOf ends) false g d) q = (backAt (wonOf ends) false g d).getD (q.toNat - (p + 1)) false := by
      intro a
      obtain ⟨n, rfl⟩ : ∃ n : Nat, q = (n : Int) := ⟨q.toNat, by omega⟩
      rw [rdOf_nat, mid_get _ _ _ _ _ (by omega), Int.toNat_natCast]
    have e3 : ∀ a, rdOf false (List.replicate p false ++ a :: backAt (wonOf ends) false g d) (p : Int) = a := fun a => by rw [rdOf_nat, mid_self]
    generalize hy : (backAt (wonOf ends) false g d).getD (q.toNat - (p + 1)) false = y at hx e2
    refine Ev.step (fun k => ?_) hx
    simp only [spec_l01Won.l1]
    rw [if_pos (by omega), if_pos (by omega), er, if_pos (by omega), if_pos (by rw [mid_len]; omega), e3, eq1, e2, wrapS (by omega) (by omega), cast_succ, Int.toNat_natCast, mid_set, mid_set]
    rw [List.any_append]
    cases hc : ((ends && decide (row.length = 0)) || A.any (fun x => !x))
    · rw [if_neg (by decide), if_pos (by omega), if_pos (by omega), if_pos (by rw [mid_len, backAt_length]; omega)]
      rw [← Bool.or_assoc, hc]
      simp
    · rw [if_pos rfl, ← Bool.or_assoc, hc]
      simp
theorem won_loop (ends : Bool) (g : List (List Int)) (h : isGame g = true) :
    ∀ (m d : Nat), g.length = m + d → Ev (fun k => spec_l01Won.l0 k ends (List.replicate m false ++ backAt (wonOf ends) false g d) ((m : Int) - 1) g) (backs (wonOf ends) false g)
  | 0, d, hg => by
    refine Ev.step (f := fun _ => some (backs (wonOf ends) false g)) (fun k => ?_) (Ev.now _)
    simp only [spec_l01Won.l0]
    rw [if_neg (by omega), backs, show g.length = d by omega]
    rfl
  | p + 1, d, hg => by
    obtain ⟨row, hr⟩ := get_some (xs := g) (i := p) (by omega)
    have hw := game_row h hr
    have hn := game_len h
    have next := won_loop ends g h p (d + 1) (by omega)
    rw [backAt_succ (wonOf ends) false g p d row hg hr] at next
    have er : rd_L1 g (p : Int) = row := by rw [rdL1_nat, getD_of hr]
    have hi := won_inner ends g p d row _ hg hn.2 hr hw.1 hw.2 next row.length 0 (by omega)
    refine Ev.step (fun k => ?_) (Ev.step (g := fun k => spec_l01Won.j1 k ends (List.replicate p false ++ (ends && decide (row.length = 0)) :: backAt (wonOf ends) false g d) (p : Int) g) (fun k => ?_) hi)
    · simp only [spec_l01Won.l0]
      rw [show ((p + 1 : Nat) : Int) - 1 = (p : Int) by omega, if_pos (by omega), start_mid, Int.toNat_natCast, mid_set, mid_set, er]
      cases ends
      · rw [if_neg (by decide), if_pos (by omega), if_pos (by rw [mid_len]; omega)]
        rfl
      · rw [if_pos rfl, if_pos (by omega), if_pos (by omega), if_pos (by rw [mid_len]; omega)]
        congr 3
        by_cases c : row.length = 0
        · rw [c]; rfl
        · rw [Bool.true_and, decide_eq_false c]
          exact beq_false_of_ne (by omega)
    · simp only [spec_l01Won.j1]
      simp [seen]
theorem l01Won_ev (ends : Bool) (g : List (List Int)) (h : isGame g = true) : Ev (fun k => spec_l01Won.f k g ends) (backs (wonOf ends) false g) := by
  have hn := game_len h
  have hb := won_loop ends g h g.length 0 (by omega)
  simp only [backAt, List.append_nil] at hb
  unfold spec_l01Won.f spec_l01N.f
  refine Ev.congr (fun k => ?_) hb
  rw [Option.bind_some, if_pos (by omega), if_pos (by omega), Option.bind_some, Int.toNat_natCast, wrapS (by omega) (by omega)]
def wons (ends : Bool) (g : List (List Int)) : List Bool × Int := if isGame g = true then (backs (wonOf ends) false g, 0) else ([], 1)
theorem wons_len (ends : Bool) (g : List (List Int)) : (wons ends g).1.length ≤ 40 := by
  unfold wons
  by_cases h : isGame g = true
  · rw [if_pos h]
    have := game_len h
    simp only [backs, backAt_length]
    omega
  · rw [if_neg h]
    simp
theorem indexB_loop (xs : List Bool) (x : Bool) (hn : xs.length < 4611686018427387904) (d : Nat) : ∀ i : Nat, i + d = xs.length → ∃ t, Ev (fun k => slices_Index_bool_bool.l0 k xs x (xs.length : Int) (i : Int)) t ∧ decide (t ≥ 0) = decide (x ∈ xs.drop i) := by
  induction d with
  | zero =>
    intro i hd
    refine ⟨-1, Ev.step (f := fun _ => some (-1)) (fun k => ?_) (Ev.now _), ?_⟩
    · simp only [slices_Index_bool_bool.l0]; rw [if_neg (by omega)]
    · rw [List.drop_eq_nil_of_le (by omega)]; simp
  | succ d ih =>
    intro i hd
    obtain ⟨y, hy⟩ := get_some (xs := xs) (i := i) (by omega)
    have hrx : rdOf false xs (i : Int) = y := by rw [rdOf_nat]; exact getD_of hy
    rw [drop_of hy]
    by_cases c : x = y
    · refine ⟨(i : Int), Ev.step (f := fun _ => some (i : Int)) (fun k => ?_) (Ev.now _), ?_⟩
      · simp only [slices_Index_bool_bool.l0]; rw [if_pos (by omega), if_pos (by omega), if_pos (by omega), hrx, if_pos (by rw [c]; exact beq_self_eq_true y)]
      · rw [decide_eq_true (show x ∈ y :: xs.drop (i + 1) by rw [c]; exact List.mem_cons_self), decide_eq_true (by omega)]
    · obtain ⟨t, ht, he⟩ := ih (i + 1) (by omega)
      refine ⟨t, Ev.step (fun k => ?_) ht, ?_⟩
      · simp only [slices_Index_bool_bool.l0]; rw [if_pos (by omega), if_pos (by omega), if_pos (by omega), hrx, if_neg (by simpa using c), wrapS (by omega) (by omega), cast_succ]
      · rw [he, decide_eq_decide]
        simp [c]
theorem containsB_ev (xs : List Bool) (x : Bool) (hn : xs.length < 4611686018427387904) : Ev (fun k => slices_Contains_bool_bool.f k xs x) (decide (x ∈ xs)) := by
  obtain ⟨t, ht, he⟩ := indexB_loop xs x hn xs.length 0 (by omega)
  rw [List.drop_zero] at he
  rw [← he]
  exact Ev.congr (f := fun k => (slices_Index_bool_bool.f k xs x).bind fun t => (some (decide (t ≥ 0)))) (fun k => rfl) (Ev.bind ht (Ev.now _))
theorem any_not : ∀ xs : List Bool, xs.any (fun x => !x) = decide (false ∈ xs)
  | [] => by simp
  | x :: r => by
    rw [List.any_cons, any_not r]
    cases x <;> simp
theorem wonV_ev (xs : List Bool) (hn : xs.length < 4611686018427387904) : Ev (fun k => impl_WonPlaces_1.f k xs) (wonOf false xs) := by
  unfold impl_WonPlaces_1.f wonOf
  rw [Bool.false_and, Bool.false_or, any_not]
  exact Ev.bind (containsB_ev xs false hn) (Ev.now _)
theorem implWon_ev (g : List (List Int)) (hl : ∀ row ∈ g, row.length < 4611686018427387904) (hg : g.length < 4611686018427387904) : Ev (fun k => impl_WonPlaces.f k g) (wons false g) := by
  unfold impl_WonPlaces.f
  exact Ev.bind (backB_ev impl_WonPlaces_1.f (wonOf false) (fun _ => True) g hl hg (fun xs h1 _ => ⟨wonV_ev xs (by omega), trivial⟩)) (Ev.now _)

end Go.Proofs.Ytbiemfbdobdecaa.PX

/- The walk of the program's BestMoves: the test of a place over a boxed list of truth values, and the moves that it leaves (conditions: the slices read as the lists; each call answers). -/
namespace Go.Proofs.Ytbiemfbdobdecaa.PX
open Go.RowKit Go.Proofs.YtbiemfbdobdecaaW.PrintWords Go.Proofs.YtbiemfbdobdecaaW.PrintLast Go.Proofs.YtbiemfbdobdecaaW.PrintMore
attribute [local go_sem] max2_int min2_int max_two min_two max_three min_three max_four min_four
set_option linter.unusedVariables false
set_option linter.unusedSimpArgs false
theorem below_down {b c : Nat} {w w1 : World} (h : Below c w w1) (hb : b ≤ c) : Below b w w1 := h.mono hb
theorem bestMoves1_has : HasFn 50 := ⟨_, Try.func50, by kernel_rfl, rfl⟩
set_option maxHeartbeats 8000000 in
set_option maxRecDepth 100000 in
theorem bestMoves1.calls (A1 : Option Addr) (c1 : Nat) (ws : List Bool) (gb : Nat) (x : Int) (w : World) (hB : w.heap[gb]? = some (.cells #[.slice A1 ws.length c1] 56 (0, 0)))
    (hr : Kd.C Kd.bool w A1 ws.length ws) (h0 : 0 ≤ x) (h1 : x < (ws.length : Int)) :
    Calls Try.prog 50 (#[.int .i64 x] ++ #[.pointer (some ⟨gb, 0, none⟩)]) w fun e w' => e = .returned (.bool (rdOf false ws x)) ∧ Drawn0 w w' := by
  show Calls Try.prog 50 #[.int .i64 x, .pointer (some ⟨gb, 0, none⟩)] w fun e w' => e = .returned (.bool (rdOf false ws x)) ∧ Drawn0 w w'
  have hz : w.cell? ⟨gb, 0, none⟩ = some (.slice A1 ws.length c1) := (blk_cell hB 0).trans rfl
  have hf := blk_frozen hB 0
  have c1b := decide_eq_true h0
  have c2b := decide_eq_true h1
  obtain ⟨ad, e1, hx⟩ := Kd.at_bool hr x h0 h1
  cases e1
  clear hr hB
  replace h0 := eq_true h0
  replace h1 := eq_true h1
  go_enter Try.func50, Try.ntmps50
  go_wp2
  go_ret
  exact ⟨rfl, Drawn0.refl _⟩
def impl_BestMoves.f (k : Nat) (g : List (List Int)) (p : Int) : Option (List Int × Int) := (impl_placeCode.f k g p).bind fun t => if t = 0 then (impl_WonPlaces.f k g).bind fun bt => (if 0 ≤ p then (if p < (g.length : Int) then (if (rd_L1 g p).length < 17592186044416 then (if (rd_L1 g p).all (fun q => decide (0 ≤ q) && decide (q < (bt.1.length : Int))) = true then some ((rd_L1 g p).filter (fun q => !(rdOf false bt.1 q)), 0) else none) else none) else none) else none) else some ([], t)
theorem impl_BestMoves.mono : ∀ a0 a1 k, LeO (impl_BestMoves.f k a0 a1) (impl_BestMoves.f (k + 1) a0 a1) := by
  intro a0 a1 k
  unfold impl_BestMoves.f
  refine LeO.bind (impl_placeCode.mono _ _ _) (fun _ => ?_)
  refine LeO.ite ?_ (LeO.refl _)
  exact LeO.bind (impl_WonPlaces.mono _ _) (fun _ => LeO.refl _)
set_option maxHeartbeats 16000000 in
set_option maxRecDepth 100000 in
theorem impl_BestMoves.calls (k : Nat) (A0_0 : Option Addr) (c0_0 : Nat) (l0_0 : List (List Int)) (a1 : Int) (r1 : List Int) (r2 : Int) (w : World) (hr0_0 : Kd.C (Kd.slice 2 (Kd.int .i64)) w A0_0 l0_0.length l0_0) (hc0_0 : l0_0.length ≤ c0_0) (h : impl_BestMoves.f k l0_0 a1 = some (r1, r2)) :
    Calls Try.prog 23 #[.agg #[.slice A0_0 l0_0.length c0_0], .int .i64 a1] w fun e w' => ∃ v0_ : Value, e = .returned (.tuple #[v0_, .int .i64 r2]) ∧ Kd.R (Kd.int .i64) 2 w' w.heap.size (fun _ => True) v0_ r1 ∧ Below w.heap.size w w' := by
  have hu26 := Try.underlying26
  have HR0_0 := Aside0.mk hr0_0
  have HC0_0 := Aside0.mk hc0_0
  clear hr0_0 hc0_0
  have HB := Aside0.mk (Below.refl w.heap.size w)
  unfold impl_BestMoves.f at h
  obtain ⟨t, A20, h⟩ := Option.bind_eq_some_iff.mp h
  have A2 := Aside0.mk A20
  clear A20
  by_cases c : t = 0
  · subst c
    rw [if_pos rfl] at h
    obtain ⟨⟨bt1, bt2⟩, A30, h⟩ := Option.bind_eq_some_iff.mp h
    have A3 := Aside0.mk A30
    clear A30
    by_cases c1 : 0 ≤ a1
    · rw [if_pos c1] at h
      by_cases c2 : a1 < (l0_0.length : Int)
      · rw [if_pos c2] at h
        by_cases c3 : (rd_L1 l0_0 a1).length < 17592186044416
        · rw [if_pos c3] at h
          by_cases c4 : (rd_L1 l0_0 a1).all (fun q => decide (0 ≤ q) && decide (q < (bt1.length : Int))) = true
          · have c4' : (rd_L1 l0_0 a1).all (fun q => decide (0 ≤ q) && decide (q < ((bt1, bt2).1.length : Int))) = true := c4
            rw [if_pos c4'] at h
            simp only [Option.some.injEq, Prod.mk.injEq] at h
            obtain ⟨rfl, rfl⟩ := h
            have hq : ∀ x ∈ rd_L1 l0_0 a1, 0 ≤ x ∧ x < (bt1.length : Int) := by
              intro x hx
              have := List.all_eq_true.1 c4 x hx
              simpa using this
            have HQ := Aside0.mk hq
            have HLr := Aside0.mk c3
            obtain ⟨ad, Ar, cr, e1, hx, hl, hi⟩ := at_L1 HR0_0.out a1 c1 c2
            cases e1
            have HRr := Aside0.mk hi
            have HCr := Aside0.mk hl
            have HXr := Aside0.mk hx
            clear hq c3 c4 c4' hi hl hx
            replace c1 := eq_true c1
            replace c2 := eq_true c2
            go_enter Try.func23, Try.ntmps23
            go_wp2_with (first | ((with_reducible refine gate_dst (N := 2) rfl ?_); refine box_event ?hg (N := 2) ?hd (cs := #[.slice (some ad) l0_0.length c0_0]) (t := 26) ?hr ?_; (case hd => rfl); (case hg => rfl); (case hr => first | (go_simp; done) | (go_simp; rfl)); intro gb1 hg w2 hbox hb; have GPgb1 := Aside0.mk hg; have BK := Aside0.mk hbox; clear hg hbox; have n0_ := Aside0.mk (below_then HB.out HB.out.size hb); clear HB hb; have HB := n0_; clear n0_; (try clear hz_gb1); have hz_gb1 : w2.cell? ⟨gb1, 0, none⟩ = some (.slice (some ad) l0_0.length c0_0) := (blk_cell BK.out 0).trans rfl; (try clear hf_gb1); have hf_gb1 := blk_frozen BK.out 0) | ((with_reducible refine gate_dst (N := 11) rfl ?_); refine goesL_ (some 11) rfl rfl Try.func42 (by kernel_rfl) rfl #[.agg #[.slice (some ad) l0_0.length c0_0], .int .i64 a1] rfl (by (try simp only [List.map_toArray, List.map_cons, List.map_nil]); first | done | rfl) ?_; (with_reducible refine (impl_placeCode.calls k _ _ l0_0 a1 0 _ ?side1 ?side2 A2.out).mono ?_); (case side1 => exact Kd.C_below HR0_0.out HB.out); (case side2 => exact HC0_0.out); rintro e w3 ⟨rfl, hb⟩; refine ⟨_, rfl, ?_⟩; have n0_ := Aside0.mk (below_then HB.out HB.out.size hb); have n1_ := Aside0.mk (blk_below (g := gb1) (o := .cells #[.slice (some ad) l0_0.length c0_0] 26 (0, 0)) BK.out hb); clear HB BK hb; have HB := n0_; have BK := n1_; clear n0_ n1_; (try clear hz_gb1); have hz_gb1 : w3.cell? ⟨gb1, 0, none⟩ = some (.slice (some ad) l0_0.length c0_0) := (blk_cell BK.out 0).trans rfl; (try clear hf_gb1); have hf_gb1 := blk_frozen BK.out 0) | ((with_reducible refine gate_dst (N := 17) rfl ?_); refine goesL_ (some 17) rfl rfl Try.func47 (by kernel_rfl) rfl #[.agg #[.slice (some ad) l0_0.length c0_0]] rfl (by (try simp only [List.map_toArray, List.map_cons, List.map_nil]); first | done | rfl) ?_; (with_reducible refine (impl_WonPlaces.calls k _ _ l0_0 bt1 bt2 _ ?side1 ?side2 A3.out).mono ?_); (case side1 => exact Kd.C_below HR0_0.out HB.out); (case side2 => exact HC0_0.out); rintro e w4 ⟨v4, rfl, ho, hb⟩; refine ⟨_, rfl, ?_⟩; obtain ⟨Aw, cw, e_Aw⟩ := Kd.R_slice ho; subst e_Aw; have HW := Aside0.mk (R_ivl ho HB.out.size); have Z3 : Aside0 (w3.heap.size ≤ w4.heap.size) := Aside0.mk hb.size; have n0_ := Aside0.mk (below_then HB.out HB.out.size hb); have n1_ := Aside0.mk (blk_below (g := gb1) (o := .cells #[.slice (some ad) l0_0.length c0_0] 26 (0, 0)) BK.out hb); clear HB BK hb; have HB := n0_; have BK := n1_; clear n0_ n1_; (try clear ho); (try clear hz_gb1); have hz_gb1 : w4.cell? ⟨gb1, 0, none⟩ = some (.slice (some ad) l0_0.length c0_0) := (blk_cell BK.out 0).trans rfl; (try clear hf_gb1); have hf_gb1 := blk_frozen BK.out 0) | ((with_reducible refine gate_dst (N := 7) rfl ?_); refine box_event ?hg (N := 7) ?hd (cs := #[.slice none 0 0]) (t := 56) ?hr ?_; (case hd => rfl); (case hg => rfl); (case hr => first | (go_simp; done) | (go_simp; rfl)); intro gb2 hg w5 hbox hb; have GPgb2 := Aside0.mk hg; have BK20 := Aside0.mk hbox; clear hg hbox; have L1 : Aside0 (gb1 < w4.heap.size) := Aside0.mk (blk_lt BK.out); have H4 : Aside0 (w.heap.size ≤ w4.heap.size) := Aside0.mk HB.out.size; have Z4 : Aside0 (gb2 < w5.heap.size) := Aside0.mk (blk_lt BK20.out); have n0_ := Aside0.mk (below_then HB.out HB.out.size hb); have n1_ := Aside0.mk (blk_below (g := gb1) (o := .cells #[.slice (some ad) l0_0.length c0_0] 26 (0, 0)) BK.out hb); have n2_ := Aside0.mk (Kd.R_below HW.out hb); clear HB BK HW hb; have HB := n0_; have BK := n1_; have HW := n2_; clear n0_ n1_ n2_; (try clear hz_gb1); have hz_gb1 : w5.cell? ⟨gb1, 0, none⟩ = some (.slice (some ad) l0_0.length c0_0) := (blk_cell BK.out 0).trans rfl; (try clear hf_gb1); have hf_gb1 := blk_frozen BK.out 0; (try clear hz_gb2); have hz_gb2 : w5.cell? ⟨gb2, 0, none⟩ = some (.slice none 0 0) := (blk_cell BK20.out 0).trans rfl; (try clear hf_gb2); have hf_gb2 := blk_frozen BK20.out 0) | ((with_reducible refine gate_store (t := 56) (p := 7) rfl ?_); refine store_event (t := 56) (p := 7) (v := ?vo_w6) (w1 := (w5.setCell ⟨gb2, 0, none⟩ (.slice Aw bt1.length cw))) ?hg ?ho ?hn ?hr ?_; (case ho => rfl); (case hg => rfl); (case hn => rfl); (case hr => first | (go_simp; done) | (go_simp; rfl)); intro w6 hw; have n0_ := Aside0.mk ((by rw [hw]; exact below_set (HB.out) (by have g_ := GPgb2.out; have hb_ := H4.out; omega) : Below w.heap.size w w6)); have n1_ := Aside0.mk ((by rw [hw]; exact blk_far (BK.out) (by have l1_ := L1.out; have g2_ := GPgb2.out; show gb1 ≠ gb2; omega) _ : w6.heap[gb1]? = some (.cells #[.slice (some ad) l0_0.length c0_0] 26 (0, 0)))); have n2_ := Aside0.mk (hw.symm ▸ (Kd.R_far (p := ⟨gb2, 0, none⟩) (HW.out) (fun k_ h_ => by have g_ := GPgb2.out; unfold Ivl at h_; show k_ ≠ gb2; omega) _)); have n3_ := Aside0.mk ((by rw [hw]; exact blk_put (cs := #[.slice none 0 0]) (BK20.out) 0 _ rfl : w6.heap[gb2]? = some (.cells #[.slice Aw bt1.length cw] 56 (0, 0)))); clear HB BK HW BK20 hw; have HB := n0_; have BK := n1_; have HW := n2_; have BK2 := n3_; clear n0_ n1_ n2_ n3_; (try clear hz_gb1); have hz_gb1 : w6.cell? ⟨gb1, 0, none⟩ = some (.slice (some ad) l0_0.length c0_0) := (blk_cell BK.out 0).trans rfl; (try clear hf_gb1); have hf_gb1 := blk_frozen BK.out 0; (try clear hz_gb2); have hz_gb2 : w6.cell? ⟨gb2, 0, none⟩ = some (.slice Aw bt1.length cw) := (blk_cell BK2.out 0).trans rfl; (try clear hf_gb2); have hf_gb2 := blk_frozen BK2.out 0; have hxr : w6.cell? (ad.add a1.toNat) = some (.slice Ar (rd_L1 l0_0 a1).length cr) := (HB.out.cell (World.block_lt_of_cell? w _ HXr.out)).trans HXr.out) | ((with_reducible refine gate_dst (N := 25) rfl ?_); refine goesL_ (some 25) rfl rfl Try.func49 (by kernel_rfl) rfl #[.slice Ar (rd_L1 l0_0 a1).length cr] rfl (by (try simp only [List.map_toArray, List.map_cons, List.map_nil]); first | done | rfl) ?_; (with_reducible refine (Clone.calls _ _ (rd_L1 l0_0 a1) _ ?side1 ?side2 HLr.out).mono ?_); (case side1 => exact Kd.C_below HRr.out HB.out); (case side2 => exact HCr.out); rintro e w7 ⟨v7, rfl, ho, hb⟩; refine ⟨_, rfl, ?_⟩; have HO := Aside0.mk ho; have H6 : Aside0 (w6.heap.size ≤ w7.heap.size) := Aside0.mk hb.size; have H6w : Aside0 (w.heap.size ≤ w6.heap.size) := Aside0.mk HB.out.size; have HB67 := Aside0.mk hb; have BK2o := BK2; have HWo := HW; have n0_ := Aside0.mk (below_then HB.out HB.out.size hb); have n1_ := Aside0.mk (blk_below (g := gb1) (o := .cells #[.slice (some ad) l0_0.length c0_0] 26 (0, 0)) BK.out hb); have n2_ := Aside0.mk (blk_below (g := gb2) (o := .cells #[.slice Aw bt1.length cw] 56 (0, 0)) BK2.out hb); have n3_ := Aside0.mk (Kd.R_below HW.out hb); clear HB BK BK2 HW hb; have HB := n0_; have BK := n1_; have BK2 := n2_; have HW := n3_; clear n0_ n1_ n2_ n3_; (try clear ho); (try clear hz_gb1); have hz_gb1 : w7.cell? ⟨gb1, 0, none⟩ = some (.slice (some ad) l0_0.length c0_0) := (blk_cell BK.out 0).trans rfl; (try clear hf_gb1); have hf_gb1 := blk_frozen BK.out 0; (try clear hz_gb2); have hz_gb2 : w7.cell? ⟨gb2, 0, none⟩ = some (.slice Aw bt1.length cw) := (blk_cell BK2.out 0).trans rfl; (try clear hf_gb2); have hf_gb2 := blk_frozen BK2.out 0) | ((with_reducible refine gate_dst (N := 27) rfl ?_); refine goesL_ (some 27) rfl rfl Try.func48 (by kernel_rfl) rfl #[v7, .func (.func 50) #[] #[.pointer (some ⟨gb2, 0, none⟩)]] rfl (by (try simp only [List.map_toArray, List.map_cons, List.map_nil]); first | done | rfl) ?_; refine (DeleteFunc.calls _ _ (fun q => rdOf false bt1 q) bestMoves1_has w6.heap.size (fun _ => True) v7 (rd_L1 l0_0 a1) _ H6.out HO.out (by have := HLr.out; omega) (fun x hx w9 hb9 => bestMoves1.calls Aw cw bt1 gb2 x w9 ((hb9.block gb2 (blk_lt BK2o.out)).trans BK2.out) (Kd.C_below (Kd.R_reads' HWo.out).2.2 (HB67.out.trans hb9)) (HQ.out x hx).1 (HQ.out x hx).2)).mono ?_; rintro e w8 ⟨v8, rfl, ho, hb⟩; refine ⟨_, rfl, ?_⟩; have HO8 := Aside0.mk (Kd.R_lower ho H6w.out); have n0_ := Aside0.mk (HB.out.trans (below_down hb H6w.out)); clear HB hb ho; have HB := n0_; clear n0_))
            go_ret2
            exact ⟨_, rfl, HO8.out, HB.out⟩
          · rw [if_neg c4] at h
            exact absurd h (by simp)
        · rw [if_neg c3] at h
          exact absurd h (by simp)
      · rw [if_neg c2] at h
        exact absurd h (by simp)
    · rw [if_neg c1] at h
      exact absurd h (by simp)
  · rw [if_neg c] at h
    simp only [Option.some.injEq, Prod.mk.injEq] at h
    obtain ⟨rfl, rfl⟩ := h
    have hne : (t != 0) = true := bne_iff_ne.mpr c
    have hne2 : (t == 0) = false := beq_eq_false_iff_ne.mpr c
    go_enter Try.func23, Try.ntmps23
    go_wp2_with (first | ((with_reducible refine gate_dst (N := 2) rfl ?_); refine box_event ?hg (N := 2) ?hd (cs := #[.slice A0_0 l0_0.length c0_0]) (t := 26) ?hr ?_; (case hd => rfl); (case hg => rfl); (case hr => first | (go_simp; done) | (go_simp; rfl)); intro gb1 hg w2 hbox hb; have GPgb1 := Aside0.mk hg; have BK := Aside0.mk hbox; clear hg hbox; have n0_ := Aside0.mk (below_then HB.out HB.out.size hb); clear HB hb; have HB := n0_; clear n0_; (try clear hz_gb1); have hz_gb1 : w2.cell? ⟨gb1, 0, none⟩ = some (.slice A0_0 l0_0.length c0_0) := (blk_cell BK.out 0).trans rfl; (try clear hf_gb1); have hf_gb1 := blk_frozen BK.out 0) | ((with_reducible refine gate_dst (N := 11) rfl ?_); refine goesL_ (some 11) rfl rfl Try.func42 (by kernel_rfl) rfl #[.agg #[.slice A0_0 l0_0.length c0_0], .int .i64 a1] rfl (by (try simp only [List.map_toArray, List.map_cons, List.map_nil]); first | done | rfl) ?_; (with_reducible refine (impl_placeCode.calls k _ _ l0_0 a1 t _ ?side1 ?side2 A2.out).mono ?_); (case side1 => exact Kd.C_below HR0_0.out HB.out); (case side2 => exact HC0_0.out); rintro e w3 ⟨rfl, hb⟩; refine ⟨_, rfl, ?_⟩; have n0_ := Aside0.mk (below_then HB.out HB.out.size hb); have n1_ := Aside0.mk (blk_below (g := gb1) (o := .cells #[.slice A0_0 l0_0.length c0_0] 26 (0, 0)) BK.out hb); clear HB BK hb; have HB := n0_; have BK := n1_; clear n0_ n1_; (try clear hz_gb1); have hz_gb1 : w3.cell? ⟨gb1, 0, none⟩ = some (.slice A0_0 l0_0.length c0_0) := (blk_cell BK.out 0).trans rfl; (try clear hf_gb1); have hf_gb1 := blk_frozen BK.out 0))
    go_ret2
    exact ⟨_, rfl, Kd.R_nil _ _ _ _ _, HB.out⟩

end Go.Proofs.Ytbiemfbdobdecaa.PX

/- The best moves of a place, as the reference and the program tell them (no condition but sizes that fit). -/
namespace Go.Proofs.Ytbiemfbdobdecaa.PX
open Go.RowKit Go.Proofs.YtbiemfbdobdecaaW.PrintWords Go.Proofs.YtbiemfbdobdecaaW.PrintLast Go.Proofs.YtbiemfbdobdecaaW.PrintMore
attribute [local go_sem] max2_int min2_int max_two min_two max_three min_three max_four min_four
set_option linter.unusedVariables false
set_option linter.unusedSimpArgs false
def placeOf (g : List (List Int)) (p : Int) : Int := if isGame g = true then (if (decide (0 ≤ p) && decide (p ≤ (g.length : Int) - 1)) = true then 0 else 2) else 1
theorem specPlace_ev (g : List (List Int)) (p : Int) (hl : ∀ row ∈ g, row.length < 4611686018427387904) (hg : g.length < 4611686018427387904) : Ev (fun k => spec_l01Place.f k g p) (placeOf g p) := by
  have hi := l01Is_ev g hl hg
  unfold placeOf spec_l01Place.f spec_l01N.f
  cases h : isGame g
  · rw [h] at hi
    rw [if_neg (by decide)]
    exact Ev.bind hi (Ev.congr (f := fun _ => some 1) (fun k => by rw [if_neg (by decide)]) (Ev.now _))
  · rw [h] at hi
    rw [if_pos rfl]
    have hn := game_len h
    refine Ev.bind hi (Ev.congr (fun k => by rw [if_pos rfl]) (Ev.bind (Ev.now _) ?_))
    rw [l01In_eq, wrapS (by omega) (by omega)]
    refine Ev.bind (Ev.now _) ?_
    by_cases c : (decide (0 ≤ p) && decide (p ≤ (g.length : Int) - 1)) = true
    · rw [if_pos c, if_pos c]
      exact Ev.now _
    · rw [if_neg c, if_neg c]
      exact Ev.now _
theorem implPlace_ev (g : List (List Int)) (p : Int) (hl : ∀ row ∈ g, row.length < 4611686018427387904) (hg : g.length < 4611686018427387904) : Ev (fun k => impl_placeCode.f k g p) (placeOf g p) := by
  have hi := IsGame_ev g hl hg
  unfold impl_placeCode.f impl_size_int64.f
  refine Ev.bind hi (Ev.bind (Ev.now _) ?_)
  rw [within_eq, wrapS (by omega) (by omega)]
  refine Ev.bind (Ev.now _) ?_
  exact Ev.bind (first2_ev _ _ 1 2) (Ev.now _)
def bestOf (g : List (List Int)) (p : Int) : List Int := (g.getD p.toNat []).filter fun q => !((backs (wonOf false) false g).getD q.toNat false)
theorem best_loop (g : List (List Int)) (h : isGame g = true) (p : Nat) (row : List Int) (hr : g[p]? = some row) (d : Nat) : ∀ j : Nat, j + d = row.length →
    Ev (fun k => spec_l01Best.l0 k (backs (wonOf false) false g) (p : Int) ((row.take j).filter fun q => !((backs (wonOf false) false g).getD q.toNat false)) (j : Int) g) (row.filter fun q => !((backs (wonOf false) false g).getD q.toNat false)) := by
  have hw := game_row h hr
  have hn := game_len h
  have hp : p < g.length := (List.getElem?_eq_some_iff.1 hr).1
  have er : rd_L1 g (p : Int) = row := by rw [rdL1_nat, getD_of hr]
  have hwl : (backs (wonOf false) false g).length = g.length := by rw [backs, backAt_length]
  generalize backs (wonOf false) false g = ws at hwl
  induction d with
  | zero =>
    intro j hj
    have e : j = row.length := by omega
    subst e
    rw [List.take_length]
    refine Ev.step (f := fun _ => some _) (fun k => ?_) (Ev.now _)
    simp only [spec_l01Best.l0]
    rw [if_pos (by omega), if_pos (by omega), er, if_neg (by omega)]
  | succ d ih =>
    intro j hj
    obtain ⟨q, hjq⟩ := get_some (xs := row) (i := j) (by omega)
    have hm := hw.1 q (List.mem_of_getElem? hjq)
    have eq1 : rd row (j : Int) = q := by rw [rd_nat, getD_of hjq]
    have eq2 : rdOf false ws q = ws.getD q.toNat false := by
      obtain ⟨n, rfl⟩ : ∃ n : Nat, q = (n : Int) := ⟨q.toNat, by omega⟩
      rw [rdOf_nat, Int.toNat_natCast]
    have hx := ih (j + 1) (by omega)
    rw [List.take_add_one, hjq, List.filter_append] at hx
    have hlen : ((row.take j).filter fun q => !(ws.getD q.toNat false)).length ≤ 40 := Nat.le_trans (List.length_filter_le _ _) (by rw [List.length_take]; omega)
    refine Ev.step (fun k => ?_) hx
    simp only [spec_l01Best.l0]
    rw [if_pos (by omega), if_pos (by omega), er, if_pos (by omega), if_pos (by omega), eq1, if_pos (by omega), if_pos (by omega), eq2, wrapS (i := (j : Int) + 1) (by omega) (by omega), cast_succ]
    cases hc : ws.getD q.toNat false
    · have hf : List.filter (fun q => !ws.getD q.toNat false) (some q).toList = [q] := by
        show List.filter _ [q] = [q]
        rw [List.filter_cons, hc]
        rfl
      rw [if_neg (by decide), if_pos (by omega), hf]
    · have hf : List.filter (fun q => !ws.getD q.toNat false) (some q).toList = [] := by
        show List.filter _ [q] = []
        rw [List.filter_cons, hc]
        rfl
      rw [if_pos rfl, hf, List.append_nil]
theorem l01Best_ev (g : List (List Int)) (h : isGame g = true) (p : Nat) (row : List Int) (hr : g[p]? = some row) : Ev (fun k => spec_l01Best.f k g (backs (wonOf false) false g) (p : Int)) (row.filter fun q => !((backs (wonOf false) false g).getD q.toNat false)) := by
  refine Ev.congr (fun k => ?_) (best_loop g h p row hr row.length 0 (by omega))
  rfl
def bests (g : List (List Int)) (p : Int) : List Int × Int := if placeOf g p = 0 then ((rd_L1 g p).filter (fun q => !((backs (wonOf false) false g).getD q.toNat false)), 0) else ([], placeOf g p)
theorem place_ok {g : List (List Int)} {p : Int} (h : placeOf g p = 0) : isGame g = true ∧ 0 ≤ p ∧ p < (g.length : Int) := by
  unfold placeOf at h
  by_cases c : isGame g = true
  · rw [if_pos c] at h
    by_cases d : (decide (0 ≤ p) && decide (p ≤ (g.length : Int) - 1)) = true
    · simp only [Bool.and_eq_true, decide_eq_true_eq] at d
      exact ⟨c, d.1, by omega⟩
    · rw [if_neg d] at h
      exact absurd h (by decide)
  · rw [if_neg c] at h
    exact absurd h (by decide)
theorem specBests_ev (g : List (List Int)) (p : Int) (hl : ∀ row ∈ g, row.length < 4611686018427387904) (hg : g.length < 4611686018427387904) : Ev (fun k => spec_BestMoves.f k g p) (bests g p) := by
  have hp := specPlace_ev g p hl hg
  unfold bests spec_BestMoves.f
  refine Ev.bind hp ?_
  by_cases c : placeOf g p = 0
  · have ho := place_ok c
    obtain ⟨n, rfl⟩ : ∃ n : Nat, p = (n : Int) := ⟨p.toNat, by omega⟩
    obtain ⟨row, hr⟩ := get_some (xs := g) (i := n) (by omega)
    rw [if_pos c, show rd_L1 g (n : Int) = row by rw [rdL1_nat, getD_of hr]]
    refine Ev.congr (fun k => by rw [if_pos c]) (Ev.bind (l01Won_ev false g ho.1) ?_)
    refine Ev.bind (l01Best_ev g ho.1 n row hr) ?_
    exact Ev.now _
  · rw [if_neg c]
    exact Ev.congr (f := fun _ => some ([], placeOf g p)) (fun k => by rw [if_neg c]) (Ev.now _)
theorem implBests_ev (g : List (List Int)) (p : Int) (hl : ∀ row ∈ g, row.length < 4611686018427387904) (hg : g.length < 4611686018427387904) : Ev (fun k => impl_BestMoves.f k g p) (bests g p) := by
  have hp := implPlace_ev g p hl hg
  unfold bests impl_BestMoves.f
  refine Ev.bind hp ?_
  by_cases c : placeOf g p = 0
  · have ho := place_ok c
    have hw := implWon_ev g hl hg
    unfold wons at hw
    rw [if_pos ho.1] at hw
    obtain ⟨n, rfl⟩ : ∃ n : Nat, p = (n : Int) := ⟨p.toNat, by omega⟩
    obtain ⟨row, hr⟩ := get_some (xs := g) (i := n) (by omega)
    have hrow := game_row ho.1 hr
    rw [if_pos c, show rd_L1 g (n : Int) = row by rw [rdL1_nat, getD_of hr]]
    refine Ev.congr (fun k => by rw [if_pos c]) (Ev.bind hw (Ev.congr (f := fun _ => some (row.filter (fun q => !((backs (wonOf false) false g).getD q.toNat false)), 0)) (fun k => ?_) (Ev.now _)))
    have hall : row.all (fun q => decide (0 ≤ q) && decide (q < ((backs (wonOf false) false g).length : Int))) = true := by
      rw [List.all_eq_true]
      intro q hq
      have := hrow.1 q hq
      rw [backs, backAt_length]
      simp only [Bool.and_eq_true, decide_eq_true_eq]
      omega
    rw [if_pos (by omega), if_pos ho.2.2, if_pos (by omega)]
    show (if row.all (fun q => decide (0 ≤ q) && decide (q < ((backs (wonOf false) false g).length : Int))) = true then some (row.filter (fun q => !(rdOf false (backs (wonOf false) false g) q)), 0) else none) = _
    rw [if_pos hall]
    rfl
  · rw [if_neg c]
    exact Ev.congr (f := fun _ => some ([], placeOf g p)) (fun k => by rw [if_neg c]) (Ev.now _)
theorem bests_len (g : List (List Int)) (p : Int) : (bests g p).1.length ≤ 40 := by
  unfold bests
  by_cases c : placeOf g p = 0
  · rw [if_pos c]
    have ho := place_ok c
    obtain ⟨n, rfl⟩ : ∃ n : Nat, p = (n : Int) := ⟨p.toNat, by omega⟩
    obtain ⟨row, hr⟩ := get_some (xs := g) (i := n) (by omega)
    have hrow := game_row ho.1 hr
    rw [show rd_L1 g (n : Int) = row by rw [rdL1_nat, getD_of hr]]
    exact Nat.le_trans (List.length_filter_le _ _) hrow.2
  · rw [if_neg c]
    simp

end Go.Proofs.Ytbiemfbdobdecaa.PX

/- The places that are reached from a place, as the reference and the program tell them (no condition but sizes that fit). -/
namespace Go.Proofs.Ytbiemfbdobdecaa.PX
open Go.RowKit Go.Proofs.YtbiemfbdobdecaaW.PrintWords Go.Proofs.YtbiemfbdobdecaaW.PrintLast Go.Proofs.YtbiemfbdobdecaaW.PrintMore
attribute [local go_sem] max2_int min2_int max_two min_two max_three min_three max_four min_four
set_option linter.unusedVariables false
set_option linter.unusedSimpArgs false
def reach (g : List (List Int)) : Nat → List Int → Nat → List Int
  | 0, _, _ => []
  | d + 1, L, q => if (q : Int) ∈ L then (q : Int) :: reach g d (L ++ g.getD q []) (q + 1) else reach g d L (q + 1)
theorem reach_len (g : List (List Int)) : ∀ d L q, (reach g d L q).length ≤ d
  | 0, _, _ => Nat.le_refl _
  | d + 1, L, q => by
    unfold reach
    by_cases c : (q : Int) ∈ L
    · rw [if_pos c, List.length_cons]
      have := reach_len g d (L ++ g.getD q []) (q + 1)
      omega
    · rw [if_neg c]
      have := reach_len g d L (q + 1)
      omega
theorem reach_skip (g : List (List Int)) (p : Nat) : ∀ (j q d : Nat), q + j = p → reach g (d + j) [(p : Int)] q = reach g d [(p : Int)] p
  | 0, q, d, h => by
    have : q = p := by omega
    subst this
    rfl
  | j + 1, q, d, h => by
    have e1 : reach g (d + (j + 1)) [(p : Int)] q = if (q : Int) ∈ [(p : Int)] then (q : Int) :: reach g (d + j) ([(p : Int)] ++ g.getD q []) (q + 1) else reach g (d + j) [(p : Int)] (q + 1) := rfl
    rw [e1, if_neg (by simp; omega)]
    exact reach_skip g p j (q + 1) d (by omega)
theorem wf_small {x : Int} (h0 : 0 ≤ x) (h1 : x < 1000000) : (Lit.int .i64 x).wf = true := WalkArith.wf_i64 (by omega)
theorem impl_reach (g : List (List Int)) (h : isGame g = true) : ∀ (d q : Nat) (L acc : List Int), q + d = g.length → L.length ≤ 40 * q + 1 → acc.length ≤ q →
    Ev (fun k => chosenS.l0 (reachV g) k L acc (g.length : Int) (q : Int)) (acc ++ reach g d L q)
  | 0, q, L, acc, hd, hL, ha => by
    have hn := game_len h
    refine Ev.step (f := fun _ => some (acc ++ [])) (fun k => ?_) (Ev.now _)
    simp only [chosenS.l0]
    rw [if_neg (by omega), List.append_nil]
  | d + 1, q, L, acc, hd, hL, ha => by
    have hn := game_len h
    obtain ⟨row, hr⟩ := get_some (xs := g) (i := q) (by omega)
    have hrow := game_row h hr
    have er : rd_L1 g (q : Int) = row := by rw [rdL1_nat, getD_of hr]
    have hall : row.all (fun x => (Lit.int .i64 x).wf) = true := by
      rw [List.all_eq_true]
      intro x hx
      have := hrow.1 x hx
      exact wf_small (by omega) (by omega)
    have hw : wrap64 ((q : Int) + 1) = ((q + 1 : Nat) : Int) := by rw [wrapS (by omega) (by omega), cast_succ]
    unfold reach
    by_cases c : (q : Int) ∈ L
    · have ih := impl_reach g h d (q + 1) (L ++ row) (acc ++ [(q : Int)]) (by omega) (by have := hrow.2; rw [List.length_append]; omega) (by simp; omega)
      rw [if_pos c, getD_of hr]
      rw [List.append_assoc] at ih
      refine Ev.step (fun k => ?_) ih
      simp only [chosenS.l0, reachV]
      have h2 := hrow.2
      rw [if_pos (by omega), if_pos (by omega), if_pos (by omega), if_pos c, er, if_pos (by omega), if_pos hall]
      show (if acc.length < 17592186044416 then _ else none) = _
      rw [if_pos (by omega), hw]
    · have ih := impl_reach g h d (q + 1) L acc (by omega) (by omega) (by omega)
      rw [if_neg c]
      refine Ev.step (fun k => ?_) ih
      simp only [chosenS.l0, reachV]
      rw [if_pos (by omega), if_pos (by omega), if_pos (by omega), if_neg c]
      show (if (false : Bool) = true then (if acc.length < 17592186044416 then (chosenS.l0 (reachV g) k L (acc ++ [(q : Int)]) (g.length : Int) (wrap64 ((q : Int) + 1))) else none) else chosenS.l0 (reachV g) k L acc (g.length : Int) (wrap64 ((q : Int) + 1))) = _
      rw [if_neg (by decide), hw]
theorem getD_set_b (met : List Bool) (i x : Nat) (hi : i < met.length) : (met.set i true).getD x false = (met.getD x false || decide (x = i)) := by
  rw [List.getD_eq_getElem?_getD, List.getD_eq_getElem?_getD, List.getElem?_set]
  by_cases c : i = x
  · subst c
    rw [if_pos rfl, if_pos hi]
    simp
  · rw [if_neg c, decide_eq_false (fun e => c e.symm), Bool.or_false]
theorem spec_inner (g : List (List Int)) (h : isGame g = true) (q : Nat) (row : List Int) (hr : g[q]? = some row) (out : List Int) (r : List Int × Int) : ∀ (d i : Nat) (met : List Bool), i + d = row.length → met.length = g.length →
    (∀ met' : List Bool, met'.length = g.length → (∀ x, met'.getD x false = (met.getD x false || decide ((x : Int) ∈ row.drop i))) → Ev (fun k => spec_ReachedFrom.l0 k met' out ((q + 1 : Nat) : Int) g) r) →
    Ev (fun k => spec_ReachedFrom.l1 k met out (q : Int) (i : Int) g) r
  | 0, i, met, hi, hm, hk => by
    have hn := game_len h
    have hq : q < g.length := (List.getElem?_eq_some_iff.1 hr).1
    have hrow := game_row h hr
    have er : rd_L1 g (q : Int) = row := by rw [rdL1_nat, getD_of hr]
    refine Ev.step (fun k => ?_) (hk met hm (fun x => by rw [List.drop_of_length_le (by omega)]; simp))
    simp only [spec_ReachedFrom.l1]
    rw [if_pos (by omega), if_pos (by omega), er, if_neg (by omega), wrapS (i := (q : Int) + 1) (by omega) (by omega), cast_succ]
  | d + 1, i, met, hi, hm, hk => by
    have hn := game_len h
    have hq : q < g.length := (List.getElem?_eq_some_iff.1 hr).1
    have hrow := game_row h hr
    have er : rd_L1 g (q : Int) = row := by rw [rdL1_nat, getD_of hr]
    obtain ⟨x, hx⟩ := get_some (xs := row) (i := i) (by omega)
    have hxm := hrow.1 x (List.mem_of_getElem? hx)
    have ex : rd row (i : Int) = x := by rw [rd_nat, getD_of hx]
    have ih := spec_inner g h q row hr out r d (i + 1) (met.set x.toNat true) (by omega) (by rw [List.length_set]; exact hm) (fun met' h1 h2 => hk met' h1 (fun y => by
      have e1 : decide ((y : Int) ∈ row.drop i) = (decide (y = x.toNat) || decide ((y : Int) ∈ row.drop (i + 1))) := by
        apply Bool.eq_iff_iff.2
        simp only [Bool.or_eq_true, decide_eq_true_eq, drop_of hx, List.mem_cons]
        constructor
        · rintro (h3 | h3)
          · exact Or.inl (by omega)
          · exact Or.inr h3
        · rintro (h3 | h3)
          · exact Or.inl (by omega)
          · exact Or.inr h3
      rw [h2 y, getD_set_b _ _ _ (by omega), e1, Bool.or_assoc]))
    refine Ev.step (fun k => ?_) ih
    simp only [spec_ReachedFrom.l1]
    rw [if_pos (by omega), if_pos (by omega), er, if_pos (by have := hrow.2; omega), if_pos (by omega), ex, if_pos (by omega), if_pos (by omega), wrapS (i := (i : Int) + 1) (by omega) (by have := hrow.2; omega), cast_succ]
theorem spec_reach (g : List (List Int)) (h : isGame g = true) : ∀ (d q : Nat) (L out : List Int) (met : List Bool), q + d = g.length → met.length = g.length → (∀ x, x < g.length → met.getD x false = decide ((x : Int) ∈ L)) → out.length ≤ q →
    Ev (fun k => spec_ReachedFrom.l0 k met out (q : Int) g) (out ++ reach g d L q, 0)
  | 0, q, L, out, met, hd, hm, hL, ha => by
    have hn := game_len h
    refine Ev.step (f := fun _ => some (out ++ [], 0)) (fun k => ?_) (Ev.now _)
    simp only [spec_ReachedFrom.l0, spec_l01N.f]
    show (if (q : Int) < (g.length : Int) then _ else _) = _
    rw [if_neg (by omega), List.append_nil]
  | d + 1, q, L, out, met, hd, hm, hL, ha => by
    have hn := game_len h
    obtain ⟨row, hr⟩ := get_some (xs := g) (i := q) (by omega)
    have hrow := game_row h hr
    have eb : rdOf false met (q : Int) = decide ((q : Int) ∈ L) := by rw [rdOf_nat, hL q (by omega)]
    have hw : wrap64 ((q : Int) + 1) = ((q + 1 : Nat) : Int) := by rw [wrapS (by omega) (by omega), cast_succ]
    unfold reach
    by_cases c : (q : Int) ∈ L
    · rw [if_pos c, getD_of hr]
      have ih := spec_inner g h q row hr (out ++ [(q : Int)]) (out ++ ((q : Int) :: reach g d (L ++ row) (q + 1)), 0) row.length 0 met (by omega) hm (fun met' h1 h2 => by
        have := spec_reach g h d (q + 1) (L ++ row) (out ++ [(q : Int)]) met' (by omega) h1 (fun x hx => by
          rw [h2 x, hL x hx, List.drop_zero]
          apply Bool.eq_iff_iff.2
          simp only [Bool.or_eq_true, decide_eq_true_eq, List.mem_append]) (by simp; omega)
        rw [List.append_assoc] at this
        exact this)
      refine Ev.step (fun k => ?_) ih
      simp only [spec_ReachedFrom.l0, spec_l01N.f]
      show (if (q : Int) < (g.length : Int) then _ else _) = _
      rw [if_pos (by omega), if_pos (by omega), if_pos (by omega), eb, if_pos (decide_eq_true c), if_pos (by omega)]
      rfl
    · rw [if_neg c]
      have ih := spec_reach g h d (q + 1) L out met (by omega) hm hL (by omega)
      refine Ev.step (fun k => ?_) ih
      simp only [spec_ReachedFrom.l0, spec_l01N.f]
      show (if (q : Int) < (g.length : Int) then _ else _) = _
      rw [if_pos (by omega), if_pos (by omega), if_pos (by omega), eb, if_neg (by rw [decide_eq_false c]; decide), hw]
def reached (g : List (List Int)) (p : Int) : List Int × Int := if placeOf g p = 0 then (reach g g.length [p] 0, 0) else ([], placeOf g p)
theorem specReached_ev (g : List (List Int)) (p : Int) (hl : ∀ row ∈ g, row.length < 4611686018427387904) (hg : g.length < 4611686018427387904) : Ev (fun k => spec_ReachedFrom.f k g p) (reached g p) := by
  have hp := specPlace_ev g p hl hg
  unfold reached spec_ReachedFrom.f
  refine Ev.bind hp ?_
  by_cases c : placeOf g p = 0
  · have ho := place_ok c
    have hgl := game_len ho.1
    obtain ⟨n, rfl⟩ : ∃ n : Nat, p = (n : Int) := ⟨p.toNat, by omega⟩
    rw [if_pos c]
    refine Ev.congr (f := fun k => spec_ReachedFrom.l0 k ((List.replicate g.length false).set n true) [] (n : Int) g) (fun k => ?_) ?_
    · rw [if_pos c]
      unfold spec_l01N.f
      simp only [Option.bind_some]
      rw [if_pos (show (0 : Int) ≤ (g.length : Int) by omega), if_pos (by omega), if_pos (show (0 : Int) ≤ (n : Int) by omega), if_pos (by simp; omega)]
      rfl
    · have := spec_reach g ho.1 (g.length - n) n [(n : Int)] [] ((List.replicate g.length false).set n true) (by omega) (by simp) (fun x hx => by
        rw [getD_set_b _ _ _ (by simp; omega)]
        have e0 : (List.replicate g.length false).getD x false = false := by
          rw [List.getD_eq_getElem?_getD, List.getElem?_replicate]
          split <;> rfl
        rw [e0, Bool.false_or]
        apply Bool.eq_iff_iff.2
        simp only [decide_eq_true_eq, List.mem_singleton]
        omega) (by simp)
      rw [List.nil_append] at this
      have e1 := reach_skip g n n 0 (g.length - n) (by omega)
      rw [show g.length - n + n = g.length by omega] at e1
      rw [e1]
      exact this
  · rw [if_neg c]
    exact Ev.congr (f := fun _ => some ([], placeOf g p)) (fun k => by rw [if_neg c]) (Ev.now _)
theorem implReached_ev (g : List (List Int)) (p : Int) (hl : ∀ row ∈ g, row.length < 4611686018427387904) (hg : g.length < 4611686018427387904) : Ev (fun k => impl_ReachedFrom.f k g p) (reached g p) := by
  have hp := implPlace_ev g p hl hg
  unfold reached impl_ReachedFrom.f
  refine Ev.bind hp ?_
  by_cases c : placeOf g p = 0
  · have ho := place_ok c
    have hgl := game_len ho.1
    rw [if_pos c]
    refine Ev.congr (fun k => by rw [if_pos c, if_pos (wf_small ho.2.1 (by omega))]) (Ev.bind (a := reach g g.length [p] 0) ?_ (Ev.now _))
    have := impl_reach g ho.1 g.length 0 [p] [] (by omega) (by simp) (by simp)
    rw [List.nil_append] at this
    exact this
  · rw [if_neg c]
    exact Ev.congr (f := fun _ => some ([], placeOf g p)) (fun k => by rw [if_neg c]) (Ev.now _)
theorem reached_le (g : List (List Int)) (p : Int) : (reached g p).1.length ≤ 40 := by
  unfold reached
  by_cases c : placeOf g p = 0
  · rw [if_pos c]
    have ho := place_ok c
    have hgl := game_len ho.1
    exact Nat.le_trans (reach_len g _ _ _) (by omega)
  · rw [if_neg c]
    simp

end Go.Proofs.Ytbiemfbdobdecaa.PX

/- The law FnExactReachedFrom holds of every game: both sides tell the same. -/
namespace Go.Proofs.Ytbiemfbdobdecaa.PX
open Go.RowKit Go.Proofs.YtbiemfbdobdecaaW.PrintWords Go.Proofs.YtbiemfbdobdecaaW.PrintLast Go.Proofs.YtbiemfbdobdecaaW.PrintMore
theorem laws_FnExactReachedFrom.done (A0_0 : Option Addr) (c0_0 : Nat) (l0_0 : List (List Int)) (a1 : Int) (w : World) (hr0_0 : Kd.C (Kd.slice 2 (Kd.int .i64)) w A0_0 l0_0.length l0_0) (hc0_0 : l0_0.length ≤ c0_0)
    (hW : (l0_0.length ≤ 9223372036854775807 ∧ ∀ x0 ∈ l0_0, x0.length ≤ 9223372036854775807 ∧ ∀ x1 ∈ x0, (Lit.int .i64 x1).wf = true)) (_hw1 : (Lit.int .i64 a1).wf = true) :
    Calls Try.prog 5 #[.agg #[.slice A0_0 l0_0.length c0_0], .int .i64 a1] w fun e w' => e = .returned (.bool true) ∧ Below w.heap.size w w' := by
  obtain ⟨t, ht, hor⟩ := szG_ev l0_0 hW.1 (fun row h => (hW.2 row h).1)
  rcases hor with hn | ⟨h0, h1, h2⟩
  · exact laws_FnExactReachedFrom.early0_of A0_0 c0_0 l0_0 a1 t w hr0_0 hc0_0 (decide_eq_true hn) ht
  · have hl : ∀ row ∈ l0_0, row.length < 4611686018427387904 := fun row h => by have := total_mem h; omega
    have hT := toG_ev l0_0 h1 h2
    have hp := total_nonneg l0_0
    have hn := reached_le l0_0 a1
    have hm := mark_ev (reached l0_0 a1).1 1 (by omega) (by omega)
    have hh := held_ev (reached l0_0 a1).1.length 1 (by omega) (by omega)
    exact laws_FnExactReachedFrom.good_of A0_0 c0_0 l0_0 a1 t (reached l0_0 a1).1 (reached l0_0 a1).2 (1 + total l0_0) (1 + ((reached l0_0 a1).1.length : Int)) w hr0_0 hc0_0 (by simp; omega) ht hT (specReached_ev l0_0 a1 hl (by omega)) (implReached_ev l0_0 a1 hl (by omega))
      (eqI_ev _ (by omega)) (eqG_ev l0_0 hl (by omega)) (by simp; omega) (by omega) (by omega) rfl (by simp; omega) hm hh

end Go.Proofs.Ytbiemfbdobdecaa.PX

/- The row of FnExactReachedFrom, out of its plain law (no condition). -/
namespace Go.Proofs.Ytbiemfbdobdecaa.fnExactReachedFrom
open Go.ChangeShapes Go.WideShapes Go.ChangeAt Go.RowKit
open Go.ChangeMaps (open_string shut_string)
set_option linter.unusedVariables false
theorem own : ownKnob Try.prog.godebug = none := by kernel_rfl
theorem laid : laidOutB Try.prog = true := by kernel_rfl
set_option maxRecDepth 100000 in
theorem lifted (os : Os) (started : os.Started) (H : Type) (enc : TypeId × Value → H) :
    ReturnsInHanded {} Try.checked os 5 .any (Rows.fnExactReachedFromSpec.pre6 enc Try.prog Try.f5 Rows.fnExactReachedFromRow.domain false) (Rows.fnExactReachedFromSpec.post enc Try.prog Try.f5 false true false false) := by
  refine returnsInHanded_of_change_sized (C := Try.checked) own started (by kernel_rfl) Try.func5
    (ChangeSpec.witness6 (enc := enc) (C := Try.checked) false ⟨#[], #[.agg #[.slice none 0 0], .int .i64 0], []⟩ 8 (by kernel_rfl) (by kernel_rfl) (by kernel_rfl) (by kernel_rfl)) ?_
  intro W base args ds gs before hval0 hW hcnd hsz0 _
  have hsz : (DataW.weightsEach Try.prog (Try.f5.params.toList ++ Rows.fnExactReachedFromSpec.plain.varTypes Try.prog) (ds ++ gs)).all (· ≤ reachBytes) = true := hsz0
  have hval : ∀ (j : Nat) t v, Try.f5.params[j]? = some t → args[j]? = some v → Value.okWide Try.prog W .any base t v := hval0
  have hW' := hW
  obtain ⟨p, q, hA0, hV, rfl, hfz, hnd⟩ := hW
  have hA : DataW.TrodAll enc Try.prog W 0 (fun _ => true) true Try.f5.params.toList args.toList ds p := hA0
  rw [Try.params5] at hA hval hsz
  obtain ⟨v0, vs0, d0, ds0, p0, q0, hargs, rfl, rfl, h0, r0⟩ := trodAll_cons hA
  obtain ⟨v1, vs1, d1, ds1, p1, q1, rfl, rfl, rfl, h1, r1⟩ := trodAll_cons r0
  obtain ⟨rfl, rfl, rfl⟩ := trodAll_nil r1
  obtain rfl : args = #[v0, v1] := by cases args; simp_all
  obtain ⟨rfl, rfl⟩ := trodVars_none hV
  have hk0 := h0
  have hlt0 : ∀ x ∈ p0, x.block < W.heap.size := fun x hx => hW'.lt x (by simp [hx])
  obtain ⟨c0_0, y0_0, m0, rfl, rfl, rfl, g0_0⟩ := Go.Proofs.Ytbiemfbdobdecaa.Opens.open_agg1 Try.underlying24 (by kernel_rfl) (by kernel_rfl) (hval 0 24 v0 rfl rfl) h0
  obtain ⟨A0_0, n0_0, l0_0, rfl, hc0_0, hr0_0, w0_0⟩ := Go.Proofs.Ytbiemfbdobdecaa.Opens.opened_slice Try.underlying22 (by kernel_rfl) (Go.Proofs.Ytbiemfbdobdecaa.Opens.opens_slice Try.underlying36 (by kernel_rfl) (Go.Proofs.Ytbiemfbdobdecaa.Opens.opens_int Try.underlying2)) g0_0
  obtain ⟨a1, rfl, rfl, rfl, w1⟩ := open_int Try.underlying2 (hval 1 2 v1 rfl rfl) h1
  clear hA0 hval0 hsz0 hsz
  refine (PX.laws_FnExactReachedFrom.done _ _ l0_0 a1 W hr0_0 hc0_0 w0_0 w1).mono fun e W' ⟨he, bel0⟩ => ?_
  have bel : Below W.heap.size W W' := bel0
  subst he
  exact ⟨_, rfl, _, _, _, [], _, [], hW', trodAll_mk1 (shut_bool Try.underlying4 _), (trodAll_cons_mk (Below.trod laid (by kernel_rfl) (of_decide_eq_true (by kernel_rfl)) hk0 bel hlt0) (trodAll_cons_mk (shut_int Try.underlying2 w1) trodAll_mk0)), rfl, bel.frame _, fun h => by cases h⟩
theorem over : Rows.fnExactReachedFromRow.holds Try.pinned (OpenSpec.ofChange Rows.fnExactReachedFromSpec) :=
  OpenClaim.holds_of_wide 5 Try.f5 rfl rfl rfl rfl rfl rfl rfl ⟨rfl, rfl, rfl, rfl, rfl⟩ rfl rfl rfl rfl rfl (by kernel_rfl) Try.func5 (by kernel_rfl)
    (of_decide_eq_true (by kernel_rfl)) (by unfold Func.isWrapper; first | (rw [if_pos (by decide +kernel)]; kernel_rfl) | (rw [if_neg (by decide +kernel)]; exact ⟨rfl, rfl⟩))
    (fun os started H enc _ => lifted os started H enc)
theorem proved : Rows.FnExactReachedFromSaid := over
#print axioms proved
end Go.Proofs.Ytbiemfbdobdecaa.fnExactReachedFrom
namespace Go.Proofs.Ytbiemfbdobdecaa
/-- The row, under a short name, for the claim. -/
theorem fnExactReachedFrom_holds : Rows.FnExactReachedFromSaid := fnExactReachedFrom.proved
end Go.Proofs.Ytbiemfbdobdecaa
