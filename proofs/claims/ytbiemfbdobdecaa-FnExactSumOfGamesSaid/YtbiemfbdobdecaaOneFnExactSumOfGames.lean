/- The row of FnExactSumOfGames, out of its plain law (no condition). -/
import Derived.Deep.Slices
import Derived.Lib.SmallJoins
import Derived.Test.YtbiemfbdobdecaaWWords
import Derived.Test.YtbiemfbdobdecaaWShare
import Derived.Test.YtbiemfbdobdecaaRows
import Derived.Test.YtbiemfbdobdecaaPXx0
import Derived.Test.YtbiemfbdobdecaaPXx9
import Derived.Test.YtbiemfbdobdecaaPXx10
import Derived.Test.YtbiemfbdobdecaaWGuard
import Derived.Test.YtbiemfbdobdecaaPXx1
import Derived.Test.YtbiemfbdobdecaaPXx6
import Derived.Test.YtbiemfbdobdecaaPXx8
import Derived.Test.YtbiemfbdobdecaaPXx5
import Derived.Test.YtbiemfbdobdecaaPXx2
import Derived.Test.YtbiemfbdobdecaaPXx7
import Derived.Test.YtbiemfbdobdecaaPXx4
import Derived.Test.YtbiemfbdobdecaaPXx3
import Derived.WalkKit
import Derived.ProofKit
import Derived.OpenShut
import Derived.ShutString
import Derived.ChangeOld
import Derived.Below
import Derived.Carry
import Derived.SizedLaws
import Derived.Test.YtbiemfbdobdecaaOneP1FnExactSumOfGames
/- The sum of two games, as the reference and the program tell it (no condition but sizes that fit). -/
namespace Go.Proofs.Ytbiemfbdobdecaa.PX
open Go.RowKit Go.Proofs.YtbiemfbdobdecaaW.PrintWords Go.Proofs.YtbiemfbdobdecaaW.PrintLast Go.Proofs.YtbiemfbdobdecaaW.PrintMore
attribute [local go_sem] max2_int min2_int max_two min_two max_three min_three max_four min_four
set_option linter.unusedVariables false
set_option linter.unusedSimpArgs false
theorem rows_at {n : Int} : ∀ (g : List (List Int)) (p : Int), okRows n p g = true → ∀ (i : Nat) (row : List Int), g[i]? = some row → okRow (p + (i : Int)) n row = true
  | [], _, _, i, row, h => by simp at h
  | r :: g, p, hk, i, row, h => by
    simp only [okRows, Bool.and_eq_true] at hk
    cases i with
    | zero =>
      simp at h
      subst h
      have := hk.1
      simpa using this
    | succ i =>
      have := rows_at g (p + 1) hk.2 i row (by simpa using h)
      rw [show p + ((i + 1 : Nat) : Int) = p + 1 + (i : Int) by omega]
      exact this
theorem game_ok {g : List (List Int)} (h : isGame g = true) {i : Nat} {row : List Int} (hr : g[i]? = some row) : okRow (i : Int) (g.length : Int) row = true := by
  simp only [isGame, Bool.and_eq_true] at h
  have := rows_at g 0 h.2.2 i row hr
  rwa [Int.zero_add] at this
theorem ok_cons {last n x : Int} {t : List Int} (h : okRow last n (x :: t) = true) : last < x ∧ x < n ∧ okRow x n t = true := by
  simpa [okRow] using h
theorem own_eq (l : List Int) (h : l.length < 17592186044416) : spec_l01Own.f l = some l := by
  unfold spec_l01Own.f
  rw [Option.bind_some, if_pos (by simpa using h), List.nil_append]
theorem put_last (l : List Int) (x : Int) (h : ∀ y ∈ l, y < x) (hl : l.length < 1000000) : Ev (fun k => spec_l01Put.f k l x) (l ++ [x]) := by
  refine Ev.step (f := fun _ => some (l ++ [x])) (fun k => ?_) (Ev.now _)
  unfold spec_l01Put.f
  simp only [spec_l01Put.l0]
  by_cases c : (l.length : Int) > 0
  · obtain ⟨y, hy⟩ := get_some (xs := l) (i := l.length - 1) (by omega)
    have e1 : wrap64 ((l.length : Int) - 1) = ((l.length - 1 : Nat) : Int) := by rw [wrapS (by omega) (by omega)]; omega
    have e2 : rd l ((l.length - 1 : Nat) : Int) = y := by rw [rd_nat, getD_of hy]
    have hlt := h y (List.mem_of_getElem? hy)
    rw [if_pos c, e1, if_pos (by omega), if_pos (by omega), e2, if_neg (by omega), if_neg (by omega), if_pos (by omega), if_pos (by omega), Int.toNat_natCast, List.take_length, own_eq l (by omega), Option.bind_some, if_pos (by omega), Option.bind_some, List.drop_length, Option.bind_some, if_pos (by simp; omega), List.append_nil]
  · have e0 : l = [] := List.length_eq_zero_iff.1 (by omega)
    subst e0
    rw [if_neg c, if_pos (by simp), if_pos (by simp)]
    show ((spec_l01Own.f []).bind _) = _
    rw [own_eq [] (by simp), Option.bind_some, if_pos (by simp), Option.bind_some]
    show ((some ([] : List Int)).bind _) = _
    rw [Option.bind_some, if_pos (by simp), List.append_nil]
def rowOf (g h : List (List Int)) (i j : Nat) : List Int := (h.getD j []).map (fun q => (h.length : Int) * (i : Int) + q) ++ (g.getD i []).map (fun q => (h.length : Int) * q + (j : Int))
def rowS (g h : List (List Int)) (i : Nat) : Nat → Nat → List (List Int)
  | 0, _ => []
  | d + 1, j => rowOf g h i j :: rowS g h i d (j + 1)
def gridS (g h : List (List Int)) : Nat → Nat → List (List Int)
  | 0, _ => []
  | d + 1, i => rowS g h i h.length 0 ++ gridS g h d (i + 1)
theorem rowS_len (g h : List (List Int)) (i : Nat) : ∀ d j, (rowS g h i d j).length = d
  | 0, _ => rfl
  | d + 1, j => by rw [rowS, List.length_cons, rowS_len g h i d (j + 1)]
theorem gridS_len (g h : List (List Int)) (hh : h.length ≤ 40) : ∀ d i, (gridS g h d i).length ≤ 40 * d
  | 0, _ => Nat.le_refl _
  | d + 1, i => by
    rw [gridS, List.length_append, rowS_len]
    have := gridS_len g h hh d (i + 1)
    omega
theorem mul_bound {m q : Int} (h0 : 0 ≤ m) (h1 : m ≤ 40) (h2 : 0 ≤ q) (h3 : q ≤ 40) : 0 ≤ m * q ∧ m * q ≤ 1600 := by
  have a := Int.mul_nonneg h0 h2
  have b := Int.mul_le_mul h1 h3 h2 (by omega : (0 : Int) ≤ 40)
  omega
theorem s3_loop (g h : List (List Int)) (hg : isGame g = true) (hh : isGame h = true) (i j : Nat) (row : List Int) (hr : g[i]? = some row) (hj : j < h.length) (out : List (List Int)) (ho : out.length ≤ 10000) (r : List (List Int)) :
    ∀ (d x : Nat) (list : List Int) (last : Int), x + d = row.length → (i : Int) ≤ last → last ≤ 40 → okRow last (g.length : Int) (row.drop x) = true → (∀ y ∈ list, y < (h.length : Int) * (last + 1) + (j : Int)) → list.length + d ≤ 1000 →
    Ev (fun k => spec_l01Sum.l1 k (h.length : Int) (i : Int) ((j + 1 : Nat) : Int) g h (out ++ [list ++ (row.drop x).map (fun q => (h.length : Int) * q + (j : Int))])) r → Ev (fun k => spec_l01Sum.l3 k (h.length : Int) (i : Int) (j : Int) list (x : Int) g h out) r
  | 0, x, list, last, hx, hlo, hhi, hok, hall, hlen, hk => by
    have hgl := game_len hg
    have hhl := game_len hh
    have hil : i < g.length := (List.getElem?_eq_some_iff.1 hr).1
    have hrow := game_row hg hr
    rw [List.drop_of_length_le (by omega), List.map_nil, List.append_nil] at hk
    refine Ev.step (fun k => ?_) hk
    simp only [spec_l01Sum.l3]
    rw [if_pos (by omega), if_pos (by omega), rdL1_nat, getD_of hr, if_neg (by omega), if_pos (by omega), wrapS (i := (j : Int) + 1) (by omega) (by omega), cast_succ]
  | d + 1, x, list, last, hx, hlo, hhi, hok, hall, hlen, hk => by
    have hgl := game_len hg
    have hhl := game_len hh
    have hil : i < g.length := (List.getElem?_eq_some_iff.1 hr).1
    have hrow := game_row hg hr
    obtain ⟨q, hq⟩ := get_some (xs := row) (i := x) (by omega)
    have eq1 : rd row (x : Int) = q := by rw [rd_nat, getD_of hq]
    rw [drop_of hq] at hok hk
    have ho1 := ok_cons hok
    have hb := mul_bound (m := (h.length : Int)) (q := q) (by omega) (by omega) (by omega) (by omega)
    have hmul : (h.length : Int) * (last + 1) ≤ (h.length : Int) * q := Int.mul_le_mul_of_nonneg_left (by omega) (by omega)
    have hnx : (h.length : Int) * (q + 1) = (h.length : Int) * q + (h.length : Int) := by rw [Int.mul_add, Int.mul_one]
    have hput := put_last list ((h.length : Int) * q + (j : Int)) (fun y hy => by have := hall y hy; omega) (by omega)
    rw [List.map_cons, List.append_cons list ((h.length : Int) * q + (j : Int))] at hk
    have ih := s3_loop g h hg hh i j row hr hj out ho r d (x + 1) (list ++ [(h.length : Int) * q + (j : Int)]) q (by omega) (by omega) (by omega) ho1.2.2 (fun y hy => by
      rw [hnx]
      rcases List.mem_append.1 hy with h1 | h1
      · have := hall y h1
        omega
      · have := List.mem_singleton.1 h1
        omega) (by simp; omega) hk
    refine Ev.step (f := fun k => (spec_l01Put.f k list ((h.length : Int) * q + (j : Int))).bind fun t => spec_l01Sum.l3 k (h.length : Int) (i : Int) (j : Int) t ((x + 1 : Nat) : Int) g h out) (fun k => ?_) (Ev.bind hput ih)
    simp only [spec_l01Sum.l3]
    rw [if_pos (by omega), if_pos (by omega), rdL1_nat, getD_of hr, if_pos (by omega), if_pos (by omega), eq1, wrapS (i := (h.length : Int) * q) (by omega) (by omega), wrapS (i := (h.length : Int) * q + (j : Int)) (by omega) (by omega), wrapS (i := (x : Int) + 1) (by omega) (by omega), cast_succ]
theorem s2_loop (g h : List (List Int)) (hg : isGame g = true) (hh : isGame h = true) (i j : Nat) (row hrow : List Int) (hr : g[i]? = some row) (hj : h[j]? = some hrow) (out : List (List Int)) (ho : out.length ≤ 10000) (r : List (List Int)) :
    ∀ (d x : Nat) (list : List Int) (last : Int), x + d = hrow.length → (j : Int) ≤ last → last < (h.length : Int) → okRow last (h.length : Int) (hrow.drop x) = true → (∀ y ∈ list, y ≤ (h.length : Int) * (i : Int) + last) → list.length + d ≤ 100 →
    Ev (fun k => spec_l01Sum.l1 k (h.length : Int) (i : Int) ((j + 1 : Nat) : Int) g h (out ++ [(list ++ (hrow.drop x).map (fun q => (h.length : Int) * (i : Int) + q)) ++ row.map (fun q => (h.length : Int) * q + (j : Int))])) r → Ev (fun k => spec_l01Sum.l2 k (h.length : Int) (i : Int) (j : Int) list (x : Int) g h out) r
  | 0, x, list, last, hx, hlo, hhi, hok, hall, hlen, hk => by
    have hgl := game_len hg
    have hhl := game_len hh
    have hil : i < g.length := (List.getElem?_eq_some_iff.1 hr).1
    have hjl : j < h.length := (List.getElem?_eq_some_iff.1 hj).1
    have hrw := game_row hg hr
    rw [List.drop_of_length_le (by omega), List.map_nil, List.append_nil] at hk
    have hnx : (h.length : Int) * ((i : Int) + 1) = (h.length : Int) * (i : Int) + (h.length : Int) := by rw [Int.mul_add, Int.mul_one]
    have h3 := s3_loop g h hg hh i j row hr hjl out ho r row.length 0 list (i : Int) (by omega) (Int.le_refl _) (by omega) (by rw [List.drop_zero]; exact game_ok hg hr) (fun y hy => by have := hall y hy; rw [hnx]; omega) (by have := hrw.2; omega) (by rw [List.drop_zero]; exact hk)
    refine Ev.step (fun k => ?_) h3
    simp only [spec_l01Sum.l2]
    rw [if_pos (by omega), if_pos (by omega), rdL1_nat, getD_of hj, if_neg (by omega)]
    rfl
  | d + 1, x, list, last, hx, hlo, hhi, hok, hall, hlen, hk => by
    have hgl := game_len hg
    have hhl := game_len hh
    have hil : i < g.length := (List.getElem?_eq_some_iff.1 hr).1
    have hjl : j < h.length := (List.getElem?_eq_some_iff.1 hj).1
    have hrw := game_row hh hj
    obtain ⟨q, hq⟩ := get_some (xs := hrow) (i := x) (by omega)
    have eq1 : rd hrow (x : Int) = q := by rw [rd_nat, getD_of hq]
    rw [drop_of hq] at hok hk
    have ho1 := ok_cons hok
    have hb := mul_bound (m := (h.length : Int)) (q := (i : Int)) (by omega) (by omega) (by omega) (by omega)
    have hput := put_last list ((h.length : Int) * (i : Int) + q) (fun y hy => by have := hall y hy; omega) (by omega)
    rw [List.map_cons, List.append_cons list ((h.length : Int) * (i : Int) + q)] at hk
    have ih := s2_loop g h hg hh i j row hrow hr hj out ho r d (x + 1) (list ++ [(h.length : Int) * (i : Int) + q]) q (by omega) (by omega) (by omega) ho1.2.2 (fun y hy => by
      rcases List.mem_append.1 hy with h1 | h1
      · have := hall y h1
        omega
      · have := List.mem_singleton.1 h1
        omega) (by simp; omega) hk
    refine Ev.step (f := fun k => (spec_l01Put.f k list ((h.length : Int) * (i : Int) + q)).bind fun t => spec_l01Sum.l2 k (h.length : Int) (i : Int) (j : Int) t ((x + 1 : Nat) : Int) g h out) (fun k => ?_) (Ev.bind hput ih)
    simp only [spec_l01Sum.l2]
    rw [if_pos (by omega), if_pos (by omega), rdL1_nat, getD_of hj, if_pos (by have := hrw.2; omega), if_pos (by omega), eq1, wrapS (i := (h.length : Int) * (i : Int)) (by omega) (by omega), wrapS (i := (h.length : Int) * (i : Int) + q) (by omega) (by omega), wrapS (i := (x : Int) + 1) (by omega) (by have := hrw.2; omega), cast_succ]
theorem s1_loop (g h : List (List Int)) (hg : isGame g = true) (hh : isGame h = true) (i : Nat) (hi : i < g.length) (r : List (List Int)) : ∀ (d j : Nat) (out : List (List Int)), j + d = h.length → out.length ≤ 40 * i + j →
    Ev (fun k => spec_l01Sum.l0 k (h.length : Int) ((i + 1 : Nat) : Int) g h (out ++ rowS g h i d j)) r → Ev (fun k => spec_l01Sum.l1 k (h.length : Int) (i : Int) (j : Int) g h out) r
  | 0, j, out, hj, ho, hk => by
    have hgl := game_len hg
    have hhl := game_len hh
    rw [rowS, List.append_nil] at hk
    refine Ev.step (fun k => ?_) hk
    simp only [spec_l01Sum.l1]
    rw [if_neg (by omega), wrapS (i := (i : Int) + 1) (by omega) (by omega), cast_succ]
  | d + 1, j, out, hj, ho, hk => by
    have hgl := game_len hg
    have hhl := game_len hh
    obtain ⟨row, hr⟩ := get_some (xs := g) (i := i) hi
    obtain ⟨hrow, hjr⟩ := get_some (xs := h) (i := j) (by omega)
    have hrw := game_row hh hjr
    rw [rowS, ← List.singleton_append, ← List.append_assoc] at hk
    have ih := s1_loop g h hg hh i hi r d (j + 1) (out ++ [rowOf g h i j]) (by omega) (by simp; omega) hk
    have h2 := s2_loop g h hg hh i j row hrow hr hjr out (by omega) r hrow.length 0 [] (j : Int) (by omega) (Int.le_refl _) (by omega) (by rw [List.drop_zero]; exact game_ok hh hjr) (fun y hy => by simp at hy) (by have := hrw.2; simp; omega) (by
      rw [List.drop_zero, List.nil_append]
      unfold rowOf at ih
      rw [getD_of hr, getD_of hjr] at ih
      exact ih)
    refine Ev.step (fun k => ?_) h2
    simp only [spec_l01Sum.l1]
    rw [if_pos (by omega)]
    rfl
theorem s0_loop (g h : List (List Int)) (hg : isGame g = true) (hh : isGame h = true) : ∀ (d i : Nat) (out : List (List Int)), i + d = g.length → out.length ≤ 40 * i →
    Ev (fun k => spec_l01Sum.l0 k (h.length : Int) (i : Int) g h out) (out ++ gridS g h d i)
  | 0, i, out, hi, ho => by
    rw [gridS, List.append_nil]
    refine Ev.step (f := fun _ => some out) (fun k => ?_) (Ev.now _)
    simp only [spec_l01Sum.l0, spec_l01N.f, Option.bind_some]
    rw [if_neg (by omega)]
  | d + 1, i, out, hi, ho => by
    have hhl := game_len hh
    have ih := s0_loop g h hg hh d (i + 1) (out ++ rowS g h i h.length 0) (by omega) (by rw [List.length_append, rowS_len]; omega)
    rw [List.append_assoc] at ih
    have h1 := s1_loop g h hg hh i (by omega) (out ++ gridS g h (d + 1) i) h.length 0 out (by omega) (by omega) ih
    refine Ev.step (fun k => ?_) h1
    simp only [spec_l01Sum.l0, spec_l01N.f, Option.bind_some]
    rw [if_pos (by omega)]
    rfl
theorem i3_loop (g h : List (List Int)) (hg : isGame g = true) (hh : isGame h = true) (i j : Nat) (row : List Int) (hr : g[i]? = some row) (hj : j < h.length) (out : List (List Int)) (ho : out.length ≤ 10000) (r : List (List Int) × Int) :
    ∀ (d x : Nat) (list : List Int), x + d = row.length → list.length + d ≤ 1000 →
    Ev (fun k => impl_SumOfGames.l1 k (h.length : Int) (i : Int) (g.length : Int) (i : Int) (h.length : Int) ((j + 1 : Nat) : Int) g h (out ++ [list ++ (row.drop x).map (fun q => (h.length : Int) * q + (j : Int))])) r → Ev (fun k => impl_SumOfGames.l3 k (h.length : Int) (i : Int) (j : Int) list (g.length : Int) (i : Int) (h.length : Int) (j : Int) row (row.length : Int) (x : Int) g h out) r
  | 0, x, list, hx, hlen, hk => by
    have hgl := game_len hg
    have hhl := game_len hh
    rw [List.drop_of_length_le (by omega), List.map_nil, List.append_nil] at hk
    refine Ev.step (fun k => ?_) hk
    simp only [impl_SumOfGames.l3]
    rw [if_neg (by omega), if_pos (by omega), wrapS (i := (j : Int) + 1) (by omega) (by omega), cast_succ]
  | d + 1, x, list, hx, hlen, hk => by
    have hgl := game_len hg
    have hhl := game_len hh
    have hrow := game_row hg hr
    obtain ⟨q, hq⟩ := get_some (xs := row) (i := x) (by omega)
    have eq1 : rd row (x : Int) = q := by rw [rd_nat, getD_of hq]
    have hm := hrow.1 q (List.mem_of_getElem? hq)
    have hb := mul_bound (m := (h.length : Int)) (q := q) (by omega) (by omega) (by omega) (by omega)
    rw [drop_of hq, List.map_cons, List.append_cons list ((h.length : Int) * q + (j : Int))] at hk
    have ih := i3_loop g h hg hh i j row hr hj out ho r d (x + 1) (list ++ [(h.length : Int) * q + (j : Int)]) (by omega) (by simp; omega) hk
    refine Ev.step (fun k => ?_) ih
    simp only [impl_SumOfGames.l3]
    rw [if_pos (by omega), if_pos (by omega), if_pos (by omega), if_pos (by omega), eq1, wrapS (i := (h.length : Int) * q) (by omega) (by omega), wrapS (i := (h.length : Int) * q + (j : Int)) (by omega) (by omega), wrapS (i := (x : Int) + 1) (by omega) (by have := hrow.2; omega), cast_succ]
theorem i2_loop (g h : List (List Int)) (hg : isGame g = true) (hh : isGame h = true) (i j : Nat) (row hrow : List Int) (hr : g[i]? = some row) (hj : h[j]? = some hrow) (out : List (List Int)) (ho : out.length ≤ 10000) (r : List (List Int) × Int) :
    ∀ (d x : Nat) (list : List Int), x + d = hrow.length → list.length + d ≤ 100 →
    Ev (fun k => impl_SumOfGames.l1 k (h.length : Int) (i : Int) (g.length : Int) (i : Int) (h.length : Int) ((j + 1 : Nat) : Int) g h (out ++ [(list ++ (hrow.drop x).map (fun q => (h.length : Int) * (i : Int) + q)) ++ row.map (fun q => (h.length : Int) * q + (j : Int))])) r → Ev (fun k => impl_SumOfGames.l2 k (h.length : Int) (i : Int) (j : Int) list (g.length : Int) (i : Int) (h.length : Int) (j : Int) hrow (hrow.length : Int) (x : Int) g h out) r
  | 0, x, list, hx, hlen, hk => by
    have hgl := game_len hg
    have hhl := game_len hh
    have hil : i < g.length := (List.getElem?_eq_some_iff.1 hr).1
    have hjl : j < h.length := (List.getElem?_eq_some_iff.1 hj).1
    have hrw := game_row hg hr
    rw [List.drop_of_length_le (by omega), List.map_nil, List.append_nil] at hk
    have h3 := i3_loop g h hg hh i j row hr hjl out ho r row.length 0 list (by omega) (by have := hrw.2; omega) (by rw [List.drop_zero]; exact hk)
    refine Ev.step (fun k => ?_) h3
    simp only [impl_SumOfGames.l2]
    rw [if_neg (by omega), if_pos (by omega), if_pos (by omega), rdL1_nat, getD_of hr]
    rfl
  | d + 1, x, list, hx, hlen, hk => by
    have hgl := game_len hg
    have hhl := game_len hh
    have hil : i < g.length := (List.getElem?_eq_some_iff.1 hr).1
    have hrw := game_row hh hj
    obtain ⟨q, hq⟩ := get_some (xs := hrow) (i := x) (by omega)
    have eq1 : rd hrow (x : Int) = q := by rw [rd_nat, getD_of hq]
    have hm := hrw.1 q (List.mem_of_getElem? hq)
    have hb := mul_bound (m := (h.length : Int)) (q := (i : Int)) (by omega) (by omega) (by omega) (by omega)
    rw [drop_of hq, List.map_cons, List.append_cons list ((h.length : Int) * (i : Int) + q)] at hk
    have ih := i2_loop g h hg hh i j row hrow hr hj out ho r d (x + 1) (list ++ [(h.length : Int) * (i : Int) + q]) (by omega) (by simp; omega) hk
    refine Ev.step (fun k => ?_) ih
    simp only [impl_SumOfGames.l2]
    rw [if_pos (by omega), if_pos (by omega), if_pos (by omega), if_pos (by omega), eq1, wrapS (i := (h.length : Int) * (i : Int)) (by omega) (by omega), wrapS (i := (h.length : Int) * (i : Int) + q) (by omega) (by omega), wrapS (i := (x : Int) + 1) (by omega) (by have := hrw.2; omega), cast_succ]
theorem i1_loop (g h : List (List Int)) (hg : isGame g = true) (hh : isGame h = true) (i : Nat) (hi : i < g.length) (r : List (List Int) × Int) : ∀ (d j : Nat) (out : List (List Int)), j + d = h.length → out.length ≤ 40 * i + j →
    Ev (fun k => impl_SumOfGames.l0 k (h.length : Int) (g.length : Int) ((i + 1 : Nat) : Int) g h (out ++ rowS g h i d j)) r → Ev (fun k => impl_SumOfGames.l1 k (h.length : Int) (i : Int) (g.length : Int) (i : Int) (h.length : Int) (j : Int) g h out) r
  | 0, j, out, hj, ho, hk => by
    have hgl := game_len hg
    have hhl := game_len hh
    rw [rowS, List.append_nil] at hk
    refine Ev.step (fun k => ?_) hk
    simp only [impl_SumOfGames.l1]
    rw [if_neg (by omega), wrapS (i := (i : Int) + 1) (by omega) (by omega), cast_succ]
  | d + 1, j, out, hj, ho, hk => by
    have hgl := game_len hg
    have hhl := game_len hh
    obtain ⟨row, hr⟩ := get_some (xs := g) (i := i) hi
    obtain ⟨hrow, hjr⟩ := get_some (xs := h) (i := j) (by omega)
    have hrw := game_row hh hjr
    rw [rowS, ← List.singleton_append, ← List.append_assoc] at hk
    have ih := i1_loop g h hg hh i hi r d (j + 1) (out ++ [rowOf g h i j]) (by omega) (by simp; omega) hk
    have h2 := i2_loop g h hg hh i j row hrow hr hjr out (by omega) r hrow.length 0 [] (by omega) (by have := hrw.2; simp; omega) (by
      rw [List.drop_zero, List.nil_append]
      unfold rowOf at ih
      rw [getD_of hr, getD_of hjr] at ih
      exact ih)
    refine Ev.step (fun k => ?_) h2
    simp only [impl_SumOfGames.l1]
    rw [if_pos (by omega), if_pos (by omega), if_pos (by omega), rdL1_nat, getD_of hjr]
    rfl
theorem i0_loop (g h : List (List Int)) (hg : isGame g = true) (hh : isGame h = true) : ∀ (d i : Nat) (out : List (List Int)), i + d = g.length → out.length ≤ 40 * i →
    Ev (fun k => impl_SumOfGames.l0 k (h.length : Int) (g.length : Int) (i : Int) g h out) (out ++ gridS g h d i, 0)
  | 0, i, out, hi, ho => by
    rw [gridS, List.append_nil]
    refine Ev.step (f := fun _ => some (out, 0)) (fun k => ?_) (Ev.now _)
    simp only [impl_SumOfGames.l0]
    rw [if_neg (by omega)]
  | d + 1, i, out, hi, ho => by
    have hhl := game_len hh
    have ih := i0_loop g h hg hh d (i + 1) (out ++ rowS g h i h.length 0) (by omega) (by rw [List.length_append, rowS_len]; omega)
    rw [List.append_assoc] at ih
    have h1 := i1_loop g h hg hh i (by omega) (out ++ gridS g h (d + 1) i, 0) h.length 0 out (by omega) (by omega) ih
    refine Ev.step (fun k => ?_) h1
    simp only [impl_SumOfGames.l0]
    rw [if_pos (by omega)]
    rfl
def sumOf (g h : List (List Int)) : List (List Int) × Int := if (isGame g && isGame h) = true then (if (g.length : Int) * (h.length : Int) ≤ 40 then (gridS g h g.length 0, 0) else ([], 3)) else ([], 1)
theorem l01Sum_ev (g h : List (List Int)) (c : isGame g = true) (d : isGame h = true) : Ev (fun k => spec_l01Sum.f k g h) (gridS g h g.length 0) := by
  have h1 := s0_loop g h c d g.length 0 [] (by omega) (by simp)
  rw [List.nil_append] at h1
  refine Ev.congr (fun k => ?_) h1
  unfold spec_l01Sum.f spec_l01N.f
  rw [Option.bind_some]
  rfl
theorem spec_j0_bad (g h : List (List Int)) : Ev (fun k => spec_SumOfGames.j0 k true g h) ([], 1) := by
  refine Ev.step (f := fun _ => some ([], 1)) (fun k => ?_) (Ev.now _)
  simp only [spec_SumOfGames.j0]
  rw [if_pos trivial]

end Go.Proofs.Ytbiemfbdobdecaa.PX

/- The sum of two games, the last steps (no condition but sizes that fit). -/
namespace Go.Proofs.Ytbiemfbdobdecaa.PX
open Go.RowKit Go.Proofs.YtbiemfbdobdecaaW.PrintWords Go.Proofs.YtbiemfbdobdecaaW.PrintLast Go.Proofs.YtbiemfbdobdecaaW.PrintMore
attribute [local go_sem] max2_int min2_int max_two min_two max_three min_three max_four min_four
set_option linter.unusedVariables false
set_option linter.unusedSimpArgs false
theorem j0_step (k : Nat) (g h : List (List Int)) : spec_SumOfGames.j0 (k + 1) false g h = if wrap64 ((g.length : Int) * (h.length : Int)) > 40 then some ([], 3) else (spec_l01Sum.f k g h).bind fun t => some (t, 0) := by
  rw [spec_SumOfGames.j0, if_neg (by decide)]
  unfold spec_l01N.f
  rw [Option.bind_some, Option.bind_some]
theorem spec_j0_good (g h : List (List Int)) (c : isGame g = true) (d : isGame h = true) : Ev (fun k => spec_SumOfGames.j0 k false g h) (if (g.length : Int) * (h.length : Int) ≤ 40 then (gridS g h g.length 0, 0) else ([], 3)) := by
  have hgl := game_len c
  have hhl := game_len d
  have hb := mul_bound (m := (g.length : Int)) (q := (h.length : Int)) (by omega) (by omega) (by omega) (by omega)
  have hw : wrap64 ((g.length : Int) * (h.length : Int)) = (g.length : Int) * (h.length : Int) := wrapS (by omega) (by omega)
  by_cases e : (g.length : Int) * (h.length : Int) ≤ 40
  · rw [if_pos e]
    refine Ev.step (f := fun k => (spec_l01Sum.f k g h).bind fun t => some (t, 0)) (fun k => ?_) (Ev.bind (l01Sum_ev g h c d) (Ev.now _))
    rw [j0_step, hw, if_neg (by omega)]
  · rw [if_neg e]
    refine Ev.step (f := fun _ => some ([], 3)) (fun k => ?_) (Ev.now _)
    rw [j0_step, hw, if_pos (by omega)]
theorem specSum_ev (g h : List (List Int)) (hl : ∀ row ∈ g, row.length < 4611686018427387904) (hg : g.length < 4611686018427387904) (hl' : ∀ row ∈ h, row.length < 4611686018427387904) (hh : h.length < 4611686018427387904) :
    Ev (fun k => spec_SumOfGames.f k g h) (sumOf g h) := by
  unfold spec_SumOfGames.f sumOf
  refine Ev.bind (l01Is_ev g hl hg) ?_
  cases c : isGame g
  · exact Ev.congr (fun k => by rw [if_neg (by decide)]) (spec_j0_bad g h)
  · rw [Bool.true_and]
    refine Ev.congr (fun k => by rw [if_pos rfl]) (Ev.bind (l01Is_ev h hl' hh) ?_)
    cases d : isGame h
    · exact spec_j0_bad g h
    · rw [if_pos rfl]
      exact spec_j0_good g h c d
theorem implSum_ev (g h : List (List Int)) (hl : ∀ row ∈ g, row.length < 4611686018427387904) (hg : g.length < 4611686018427387904) (hl' : ∀ row ∈ h, row.length < 4611686018427387904) (hh : h.length < 4611686018427387904) :
    Ev (fun k => impl_SumOfGames.f k g h) (sumOf g h) := by
  unfold impl_SumOfGames.f sumOf
  refine Ev.bind (a := (g.length : Int)) (Ev.now _) (Ev.bind (a := (h.length : Int)) (Ev.now _) (Ev.bind (IsGame_ev g hl hg) ?_))
  cases c : isGame g
  · refine Ev.congr (fun k => by rw [if_neg (by decide)]) (Ev.bind (first2_ev false _ 1 3) ?_)
    refine Ev.step (f := fun _ => some ([], 1)) (fun k => ?_) (Ev.now _)
    simp only [impl_SumOfGames.j0, firstOf]
    rfl
  · rw [Bool.true_and]
    refine Ev.congr (fun k => by rw [if_pos rfl]) (Ev.bind (IsGame_ev h hl' hh) (Ev.bind (first2_ev _ _ 1 3) ?_))
    cases d : isGame h
    · refine Ev.step (f := fun _ => some ([], 1)) (fun k => ?_) (Ev.now _)
      simp only [impl_SumOfGames.j0, firstOf]
      rfl
    · have hgl := game_len c
      have hhl := game_len d
      have hb := mul_bound (m := (g.length : Int)) (q := (h.length : Int)) (by omega) (by omega) (by omega) (by omega)
      rw [wrapS (by omega) (by omega), if_pos rfl]
      by_cases e : (g.length : Int) * (h.length : Int) ≤ 40
      · rw [decide_eq_true e, if_pos e]
        have h0 : Ev (fun k => impl_SumOfGames.l0 k (h.length : Int) (g.length : Int) 0 g h []) (gridS g h g.length 0, 0) := i0_loop g h c d g.length 0 [] (by omega) (by simp)
        refine Ev.step (fun k => ?_) h0
        simp only [impl_SumOfGames.j0, firstOf]
        rfl
      · rw [decide_eq_false e, if_neg e]
        refine Ev.step (f := fun _ => some ([], 3)) (fun k => ?_) (Ev.now _)
        simp only [impl_SumOfGames.j0, firstOf]
        rfl
theorem total_app : ∀ (x y : List (List Int)), total (x ++ y) = total x + total y
  | [], y => by simp [total]
  | z :: r, y => by rw [List.cons_append]; simp only [total]; rw [total_app r y]; omega
theorem rowOf_len (g h : List (List Int)) (hg : isGame g = true) (hh : isGame h = true) (i j : Nat) : (rowOf g h i j).length ≤ 80 := by
  unfold rowOf
  rw [List.length_append, List.length_map, List.length_map]
  have a : (h.getD j []).length ≤ 40 := by
    rcases Nat.lt_or_ge j h.length with c | c
    · obtain ⟨row, hr⟩ := get_some c
      rw [getD_of hr]; exact (game_row hh hr).2
    · rw [List.getD_eq_getElem?_getD, List.getElem?_eq_none c]; simp
  have b : (g.getD i []).length ≤ 40 := by
    rcases Nat.lt_or_ge i g.length with c | c
    · obtain ⟨row, hr⟩ := get_some c
      rw [getD_of hr]; exact (game_row hg hr).2
    · rw [List.getD_eq_getElem?_getD, List.getElem?_eq_none c]; simp
  omega
theorem rowS_total (g h : List (List Int)) (hg : isGame g = true) (hh : isGame h = true) (i : Nat) : ∀ d j, total (rowS g h i d j) ≤ 80 * (d : Int)
  | 0, _ => by simp [rowS, total]
  | d + 1, j => by
    rw [rowS]; simp only [total]
    have := rowS_total g h hg hh i d (j + 1)
    have := rowOf_len g h hg hh i j
    omega
theorem gridS_total (g h : List (List Int)) (hg : isGame g = true) (hh : isGame h = true) : ∀ d i, total (gridS g h d i) ≤ 3200 * (d : Int)
  | 0, _ => by simp [gridS, total]
  | d + 1, i => by
    rw [gridS, total_app]
    have := gridS_total g h hg hh d (i + 1)
    have := rowS_total g h hg hh i h.length 0
    have := game_len hh
    omega
theorem sumOf_total (g h : List (List Int)) : total (sumOf g h).1 ≤ 128000 ∧ (sumOf g h).1.length ≤ 1600 := by
  unfold sumOf
  by_cases c : (isGame g && isGame h) = true
  · rw [if_pos c]
    have c' := Bool.and_eq_true_iff.1 c
    have hgl := game_len c'.1
    have hhl := game_len c'.2
    by_cases e : (g.length : Int) * (h.length : Int) ≤ 40
    · rw [if_pos e]
      have a := gridS_total g h c'.1 c'.2 g.length 0
      have b := gridS_len g h hhl.2 g.length 0
      exact ⟨by show total (gridS g h g.length 0) ≤ _; omega, by show (gridS g h g.length 0).length ≤ _; omega⟩
    · rw [if_neg e]
      simp [total]
  · rw [if_neg c]
    simp [total]

end Go.Proofs.Ytbiemfbdobdecaa.PX

/- The law FnExactSumOfGames holds of every two games: both sides tell the same. -/
namespace Go.Proofs.Ytbiemfbdobdecaa.PX
open Go.RowKit Go.Proofs.YtbiemfbdobdecaaW.PrintWords Go.Proofs.YtbiemfbdobdecaaW.PrintLast Go.Proofs.YtbiemfbdobdecaaW.PrintMore
theorem laws_FnExactSumOfGames.done (A0_0 : Option Addr) (c0_0 : Nat) (l0_0 : List (List Int)) (A1_0 : Option Addr) (c1_0 : Nat) (l1_0 : List (List Int)) (w : World)
    (hr0_0 : Kd.C (Kd.slice 2 (Kd.int .i64)) w A0_0 l0_0.length l0_0) (hc0_0 : l0_0.length ≤ c0_0) (hr1_0 : Kd.C (Kd.slice 2 (Kd.int .i64)) w A1_0 l1_0.length l1_0) (hc1_0 : l1_0.length ≤ c1_0)
    (hW : (l0_0.length ≤ 9223372036854775807 ∧ ∀ x0 ∈ l0_0, x0.length ≤ 9223372036854775807 ∧ ∀ x1 ∈ x0, (Lit.int .i64 x1).wf = true)) (hW1 : (l1_0.length ≤ 9223372036854775807 ∧ ∀ x0 ∈ l1_0, x0.length ≤ 9223372036854775807 ∧ ∀ x1 ∈ x0, (Lit.int .i64 x1).wf = true)) :
    Calls Try.prog 3 #[.agg #[.slice A0_0 l0_0.length c0_0], .agg #[.slice A1_0 l1_0.length c1_0]] w fun e w' => e = .returned (.bool true) ∧ Below w.heap.size w w' := by
  obtain ⟨t, ht, hor⟩ := szG_evb l0_0 1048576 (by omega) (by omega) hW.1 (fun row h => (hW.2 row h).1)
  rcases hor with hn | ⟨h0, hb, h1, h2⟩
  · exact laws_FnExactSumOfGames.early0_of A0_0 c0_0 l0_0 A1_0 c1_0 l1_0 t w hr0_0 hc0_0 hr1_0 hc1_0 (decide_eq_true hn) ht
  · obtain ⟨t1, ht1, hor1⟩ := szG_evb l1_0 t h0 hb hW1.1 (fun row h => (hW1.2 row h).1)
    rcases hor1 with hn | ⟨h3, _, h4, h5⟩
    · exact laws_FnExactSumOfGames.early1_of A0_0 c0_0 l0_0 A1_0 c1_0 l1_0 t t1 w hr0_0 hc0_0 hr1_0 hc1_0 (decide_eq_false (by omega)) ht (decide_eq_true hn) ht1
    · have hl : ∀ row ∈ l0_0, row.length < 4611686018427387904 := fun row h => by have := total_mem h; omega
      have hl1 : ∀ row ∈ l1_0, row.length < 4611686018427387904 := fun row h => by have := total_mem h; omega
      have hT := toG_ev l0_0 h1 h2
      have hT1 := toG_ev l1_0 (by omega) (by omega)
      have hp := total_nonneg l0_0
      have hp1 := total_nonneg l1_0
      have hs := sumOf_total l0_0 l1_0
      have hp2 := total_nonneg (sumOf l0_0 l1_0).1
      exact laws_FnExactSumOfGames.good_of A0_0 c0_0 l0_0 A1_0 c1_0 l1_0 t t1 (sumOf l0_0 l1_0).1 (sumOf l0_0 l1_0).2 (1 + total l0_0) (1 + total l0_0 + total l1_0) (1 + total (sumOf l0_0 l1_0).1) w hr0_0 hc0_0 hr1_0 hc1_0
        (decide_eq_false (by omega)) ht (decide_eq_false (by omega)) ht1 hT hT1 (specSum_ev l0_0 l1_0 hl (by omega) hl1 (by omega)) (implSum_ev l0_0 l1_0 hl (by omega) hl1 (by omega))
        (eqG_ev _ (fun row hr => by have := total_mem hr; omega) (by omega)) (eqG_ev l0_0 hl (by omega)) (eqG_ev l1_0 hl1 (by omega))
        (decide_eq_false (by omega)) (by omega) (by omega) rfl (decide_eq_false (by omega)) (by omega) (by omega) rfl (decide_eq_false (by omega)) (by omega) (by omega) rfl (heldG_ev _ 1 (by omega) (by omega) (by omega))

end Go.Proofs.Ytbiemfbdobdecaa.PX

/- The row of FnExactSumOfGames, out of its plain law (no condition). -/
namespace Go.Proofs.Ytbiemfbdobdecaa.fnExactSumOfGames
open Go.ChangeShapes Go.WideShapes Go.ChangeAt Go.RowKit
open Go.ChangeMaps (open_string shut_string)
set_option linter.unusedVariables false
theorem own : ownKnob Try.prog.godebug = none := by kernel_rfl
theorem laid : laidOutB Try.prog = true := by kernel_rfl
set_option maxRecDepth 100000 in
theorem lifted (os : Os) (started : os.Started) (H : Type) (enc : TypeId × Value → H) :
    ReturnsInHanded {} Try.checked os 3 .any (Rows.fnExactSumOfGamesSpec.pre6 enc Try.prog Try.f3 Rows.fnExactSumOfGamesRow.domain false) (Rows.fnExactSumOfGamesSpec.post enc Try.prog Try.f3 false true false false) := by
  refine returnsInHanded_of_change_sized (C := Try.checked) own started (by kernel_rfl) Try.func3
    (ChangeSpec.witness6 (enc := enc) (C := Try.checked) false ⟨#[], #[.agg #[.slice none 0 0], .agg #[.slice none 0 0]], []⟩ 8 (by kernel_rfl) (by kernel_rfl) (by kernel_rfl) (by kernel_rfl)) ?_
  intro W base args ds gs before hval0 hW hcnd hsz0 _
  have hsz : (DataW.weightsEach Try.prog (Try.f3.params.toList ++ Rows.fnExactSumOfGamesSpec.plain.varTypes Try.prog) (ds ++ gs)).all (· ≤ reachBytes) = true := hsz0
  have hval : ∀ (j : Nat) t v, Try.f3.params[j]? = some t → args[j]? = some v → Value.okWide Try.prog W .any base t v := hval0
  have hW' := hW
  obtain ⟨p, q, hA0, hV, rfl, hfz, hnd⟩ := hW
  have hA : DataW.TrodAll enc Try.prog W 0 (fun _ => true) true Try.f3.params.toList args.toList ds p := hA0
  rw [Try.params3] at hA hval hsz
  obtain ⟨v0, vs0, d0, ds0, p0, q0, hargs, rfl, rfl, h0, r0⟩ := trodAll_cons hA
  obtain ⟨v1, vs1, d1, ds1, p1, q1, rfl, rfl, rfl, h1, r1⟩ := trodAll_cons r0
  obtain ⟨rfl, rfl, rfl⟩ := trodAll_nil r1
  obtain rfl : args = #[v0, v1] := by cases args; simp_all
  obtain ⟨rfl, rfl⟩ := trodVars_none hV
  have hk0 := h0
  have hlt0 : ∀ x ∈ p0, x.block < W.heap.size := fun x hx => hW'.lt x (by simp [hx])
  have hk1 := h1
  have hlt1 : ∀ x ∈ p1, x.block < W.heap.size := fun x hx => hW'.lt x (by simp [hx])
  obtain ⟨c0_0, y0_0, m0, rfl, rfl, rfl, g0_0⟩ := Go.Proofs.Ytbiemfbdobdecaa.Opens.open_agg1 Try.underlying24 (by kernel_rfl) (by kernel_rfl) (hval 0 24 v0 rfl rfl) h0
  obtain ⟨A0_0, n0_0, l0_0, rfl, hc0_0, hr0_0, w0_0⟩ := Go.Proofs.Ytbiemfbdobdecaa.Opens.opened_slice Try.underlying22 (by kernel_rfl) (Go.Proofs.Ytbiemfbdobdecaa.Opens.opens_slice Try.underlying36 (by kernel_rfl) (Go.Proofs.Ytbiemfbdobdecaa.Opens.opens_int Try.underlying2)) g0_0
  obtain ⟨c1_0, y1_0, m1, rfl, rfl, rfl, g1_0⟩ := Go.Proofs.Ytbiemfbdobdecaa.Opens.open_agg1 Try.underlying24 (by kernel_rfl) (by kernel_rfl) (hval 1 24 v1 rfl rfl) h1
  obtain ⟨A1_0, n1_0, l1_0, rfl, hc1_0, hr1_0, w1_0⟩ := Go.Proofs.Ytbiemfbdobdecaa.Opens.opened_slice Try.underlying22 (by kernel_rfl) (Go.Proofs.Ytbiemfbdobdecaa.Opens.opens_slice Try.underlying36 (by kernel_rfl) (Go.Proofs.Ytbiemfbdobdecaa.Opens.opens_int Try.underlying2)) g1_0
  clear hA0 hval0 hsz0 hsz
  refine (PX.laws_FnExactSumOfGames.done _ _ l0_0 _ _ l1_0 W hr0_0 hc0_0 hr1_0 hc1_0 w0_0 w1_0).mono fun e W' ⟨he, bel0⟩ => ?_
  have bel : Below W.heap.size W W' := bel0
  subst he
  exact ⟨_, rfl, _, _, _, [], _, [], hW', trodAll_mk1 (shut_bool Try.underlying4 _), (trodAll_cons_mk (Below.trod laid (by kernel_rfl) (of_decide_eq_true (by kernel_rfl)) hk0 bel hlt0) (trodAll_cons_mk (Below.trod laid (by kernel_rfl) (of_decide_eq_true (by kernel_rfl)) hk1 bel hlt1) trodAll_mk0)), rfl, bel.frame _, fun h => by cases h⟩
theorem over : Rows.fnExactSumOfGamesRow.holds Try.pinned (OpenSpec.ofChange Rows.fnExactSumOfGamesSpec) :=
  OpenClaim.holds_of_wide 3 Try.f3 rfl rfl rfl rfl rfl rfl rfl ⟨rfl, rfl, rfl, rfl, rfl⟩ rfl rfl rfl rfl rfl (by kernel_rfl) Try.func3 (by kernel_rfl)
    (of_decide_eq_true (by kernel_rfl)) (by unfold Func.isWrapper; first | (rw [if_pos (by decide +kernel)]; kernel_rfl) | (rw [if_neg (by decide +kernel)]; exact ⟨rfl, rfl⟩))
    (fun os started H enc _ => lifted os started H enc)
theorem proved : Rows.FnExactSumOfGamesSaid := over
#print axioms proved
end Go.Proofs.Ytbiemfbdobdecaa.fnExactSumOfGames
namespace Go.Proofs.Ytbiemfbdobdecaa
/-- The row, under a short name, for the claim. -/
theorem fnExactSumOfGames_holds : Rows.FnExactSumOfGamesSaid := fnExactSumOfGames.proved
end Go.Proofs.Ytbiemfbdobdecaa
