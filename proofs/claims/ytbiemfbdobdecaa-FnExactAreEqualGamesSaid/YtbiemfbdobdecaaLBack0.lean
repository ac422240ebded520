/- Values of the places of a game, from the last place to the first; what a game that is told to be one gives (no condition). -/
import Derived.Test.YtbiemfbdobdecaaPXx0
import Derived.Test.YtbiemfbdobdecaaLIs
namespace Go.Proofs.Ytbiemfbdobdecaa.PX
open Go.RowKit Go.Proofs.YtbiemfbdobdecaaW.PrintWords Go.Proofs.YtbiemfbdobdecaaW.PrintLast Go.Proofs.YtbiemfbdobdecaaW.PrintMore
attribute [local go_sem] max2_int min2_int max_two min_two max_three min_three max_four min_four
set_option linter.unusedVariables false
set_option linter.unusedSimpArgs false
theorem okRow_mem {n : Int} : ∀ {xs : List Int} {last : Int}, okRow last n xs = true → ∀ q ∈ xs, last < q ∧ q < n
  | [], _, _, q, h => by simp at h
  | x :: r, last, h, q, hq => by
    simp only [okRow, Bool.and_eq_true, decide_eq_true_eq] at h
    rcases List.mem_cons.1 hq with rfl | hq
    · exact ⟨h.1, h.2.1⟩
    · have := okRow_mem h.2.2 q hq
      exact ⟨by omega, this.2⟩
theorem okRow_len {n : Int} : ∀ {xs : List Int} {last : Int}, okRow last n xs = true → last < n → (xs.length : Int) ≤ n - 1 - last
  | [], last, _, h => by simp only [List.length_nil]; omega
  | x :: r, last, h, hl => by
    simp only [okRow, Bool.and_eq_true, decide_eq_true_eq] at h
    have := okRow_len h.2.2 h.2.1
    simp only [List.length_cons]
    omega
theorem okRows_get {n : Int} : ∀ {g : List (List Int)} {p : Int} {i : Nat} {row : List Int}, okRows n p g = true → g[i]? = some row → okRow (p + i) n row = true
  | [], _, _, _, _, h => by simp at h
  | x :: r, p, i, row, h, hi => by
    simp only [okRows, Bool.and_eq_true] at h
    cases i with
    | zero =>
      simp only [List.getElem?_cons_zero, Option.some.injEq] at hi
      subst hi
      simpa using h.1
    | succ i =>
      simp only [List.getElem?_cons_succ] at hi
      have := okRows_get h.2 hi
      rw [show p + ((i + 1 : Nat) : Int) = p + 1 + i by omega]
      exact this
theorem game_row {g : List (List Int)} (h : isGame g = true) {p : Nat} {row : List Int} (hp : g[p]? = some row) :
    (∀ q ∈ row, (p : Int) < q ∧ q < g.length) ∧ row.length ≤ 40 := by
  simp only [isGame, Bool.and_eq_true, decide_eq_true_eq] at h
  have hr := okRows_get h.2.2 hp
  have hl : p < g.length := (List.getElem?_eq_some_iff.1 hp).1
  have h1 := okRow_mem hr
  have h2 := okRow_len hr (by omega)
  exact ⟨fun q hq => ⟨by have := h1 q hq; omega, (h1 q hq).2⟩, by omega⟩
theorem game_len {g : List (List Int)} (h : isGame g = true) : 1 ≤ g.length ∧ g.length ≤ 40 := by
  simp only [isGame, Bool.and_eq_true, decide_eq_true_eq] at h
  exact ⟨h.1, h.2.1⟩
/-- The values of the last d places, the first of them first. -/
def backAt {α : Type} (sem : List α → α) (z : α) (g : List (List Int)) : Nat → List α
  | 0 => []
  | d + 1 => sem ((g.getD (g.length - (d + 1)) []).map fun q => (backAt sem z g d).getD (q.toNat - (g.length - d)) z) :: backAt sem z g d
theorem backAt_length {α : Type} (sem : List α → α) (z : α) (g : List (List Int)) : ∀ d, (backAt sem z g d).length = d
  | 0 => rfl
  | d + 1 => by simp only [backAt, List.length_cons, backAt_length sem z g d]
def backs {α : Type} (sem : List α → α) (z : α) (g : List (List Int)) : List α := backAt sem z g g.length
/-- What the places after p lead a row to. -/
def seen {α : Type} (sem : List α → α) (z : α) (g : List (List Int)) (p d : Nat) (row : List Int) : List α := row.map fun q => (backAt sem z g d).getD (q.toNat - (p + 1)) z
theorem backAt_succ {α : Type} (sem : List α → α) (z : α) (g : List (List Int)) (p d : Nat) (row : List Int) (hg : g.length = p + 1 + d) (hp : g[p]? = some row) :
    backAt sem z g (d + 1) = sem (seen sem z g p d row) :: backAt sem z g d := by
  simp only [backAt, seen]
  rw [show g.length - (d + 1) = p by omega, show g.length - d = p + 1 by omega, getD_of hp]
theorem arr_get {α : Type} (z : α) (m : Nat) (bs : List α) (q : Nat) (h : m ≤ q) : (List.replicate m z ++ bs).getD q z = bs.getD (q - m) z := by
  rw [List.getD_eq_getElem?_getD, List.getD_eq_getElem?_getD, List.getElem?_append_right (by simpa using h), List.length_replicate]
theorem arr_set {α : Type} (z v : α) (p : Nat) (bs : List α) : (List.replicate (p + 1) z ++ bs).set p v = List.replicate p z ++ v :: bs := by
  rw [List.replicate_succ', List.append_assoc, List.set_append_right _ _ (by simp)]
  simp
/-- What holds of every value of the later places holds of what a row is led to. -/
theorem seen_all {α : Type} (sem : List α → α) (z : α) (Q : α → Prop) (g : List (List Int)) (p d : Nat) (row : List Int) (hg : g.length = p + 1 + d)
    (hq : ∀ q ∈ row, (p : Int) < q ∧ q < g.length) (hb : ∀ x ∈ backAt sem z g d, Q x) : ∀ x ∈ seen sem z g p d row, Q x := by
  intro x hx
  obtain ⟨q, hm, rfl⟩ := List.mem_map.1 hx
  have h := hq q hm
  have hl : q.toNat - (p + 1) < (backAt sem z g d).length := by rw [backAt_length]; omega
  rw [List.getD_eq_getElem?_getD, List.getElem?_eq_getElem hl]
  exact hb _ (List.getElem_mem hl)
theorem backAt_all {α : Type} (sem : List α → α) (z : α) (Q : α → Prop) (g : List (List Int)) (h : isGame g = true) (hs : ∀ xs : List α, xs.length ≤ 40 → (∀ x ∈ xs, Q x) → Q (sem xs)) :
    ∀ d, d ≤ g.length → ∀ x ∈ backAt sem z g d, Q x
  | 0, _, x, hx => by simp [backAt] at hx
  | d + 1, hd, x, hx => by
    obtain ⟨p, hp⟩ : ∃ p, g.length = p + 1 + d := ⟨g.length - (d + 1), by omega⟩
    obtain ⟨row, hr⟩ := get_some (xs := g) (i := p) (by omega)
    have ih := backAt_all sem z Q g h hs d (by omega)
    have hw := game_row h hr
    rw [backAt_succ sem z g p d row hp hr] at hx
    rcases List.mem_cons.1 hx with rfl | hx
    · exact hs _ (by simp only [seen, List.length_map]; exact hw.2) (seen_all sem z Q g p d row hp hw.1 ih)
    · exact ih x hx

end Go.Proofs.Ytbiemfbdobdecaa.PX
