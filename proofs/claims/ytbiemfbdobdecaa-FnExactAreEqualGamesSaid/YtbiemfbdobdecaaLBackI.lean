/- The program's 'backward' tells the values of the places, whatever tells a place's value from those it leads to (no condition). -/
import Derived.Test.YtbiemfbdobdecaaPXx0
import Derived.Test.YtbiemfbdobdecaaGBackI
import Derived.Test.YtbiemfbdobdecaaLBack0
namespace Go.Proofs.Ytbiemfbdobdecaa.PX
open Go.RowKit Go.Proofs.YtbiemfbdobdecaaW.PrintWords Go.Proofs.YtbiemfbdobdecaaW.PrintLast Go.Proofs.YtbiemfbdobdecaaW.PrintMore
attribute [local go_sem] max2_int min2_int max_two min_two max_three min_three max_four min_four
set_option linter.unusedVariables false
set_option linter.unusedSimpArgs false
theorem backI_inner (V : Nat → List Int → Option Int) (sem : List Int → Int) (g : List (List Int)) (p d : Nat) (row : List Int) (v : Int) (r : List Int × Int) (hg : g.length = p + 1 + d) (h40 : g.length ≤ 40)
    (hrow : g[p]? = some row) (hq : ∀ q ∈ row, (p : Int) < q ∧ q < g.length) (hl : row.length ≤ 40) (hV : Ev (fun k => V k (seen sem 0 g p d row)) v)
    (next : Ev (fun k => impl_backward_int64.l0 V k (List.replicate p 0 ++ v :: backAt sem 0 g d) ((p : Int) - 1) g) r) (e : Nat) : ∀ j : Nat, j + e = row.length →
    Ev (fun k => impl_backward_int64.l1 V k (List.replicate (p + 1) 0 ++ backAt sem 0 g d) (p : Int) (seen sem 0 g p d (row.take j)) row (row.length : Int) (j : Int) g) r := by
  induction e with
  | zero =>
    intro j hj
    have ej : j = row.length := by omega
    subst ej
    rw [List.take_length]
    refine Ev.step (fun k => by simp only [impl_backward_int64.l1]; rw [if_neg (by omega)]) (Ev.bind hV ?_)
    refine Ev.congr (fun k => ?_) next
    · rw [if_pos (by omega), if_pos (by simp only [List.length_append, List.length_replicate]; omega), Int.toNat_natCast, arr_set, wrapS (by omega) (by omega)]
  | succ e ih =>
    intro j hj
    obtain ⟨q, hjq⟩ := get_some (xs := row) (i := j) (by omega)
    have hm := hq q (List.mem_of_getElem? hjq)
    have eq1 : rd row (j : Int) = q := by rw [rd_nat, getD_of hjq]
    have e2 : rd (List.replicate (p + 1) 0 ++ backAt sem 0 g d) q = (backAt sem 0 g d).getD (q.toNat - (p + 1)) 0 := by
      obtain ⟨n, rfl⟩ : ∃ n : Nat, q = (n : Int) := ⟨q.toNat, by omega⟩
      rw [rd_nat, arr_get _ _ _ _ (by omega), Int.toNat_natCast]
    refine Ev.step (fun k => ?_) (ih (j + 1) (by omega))
    simp only [impl_backward_int64.l1]
    rw [if_pos (by omega), if_pos (by omega), if_pos (by omega), eq1, if_pos (by omega), if_pos (by simp only [List.length_append, List.length_replicate, backAt_length]; omega),
      if_pos (by simp only [seen, List.length_map, List.length_take]; omega), e2, wrapS (by omega) (by omega), cast_succ]
    congr 1
    simp only [seen]
    rw [List.take_add_one, hjq]
    simp
theorem backI_loop (V : Nat → List Int → Option Int) (sem : List Int → Int) (Q : Int → Prop) (g : List (List Int)) (h : isGame g = true)
    (hV : ∀ xs : List Int, xs.length ≤ 40 → (∀ x ∈ xs, Q x) → Ev (fun k => V k xs) (sem xs) ∧ Q (sem xs)) :
    ∀ (m d : Nat), g.length = m + d → Ev (fun k => impl_backward_int64.l0 V k (List.replicate m 0 ++ backAt sem 0 g d) ((m : Int) - 1) g) (backs sem 0 g, 0)
  | 0, d, hg => by
    refine Ev.step (f := fun _ => some (backs sem 0 g, 0)) (fun k => ?_) (Ev.now _)
    simp only [impl_backward_int64.l0]
    rw [if_neg (by omega), backs, show g.length = d by omega]
    rfl
  | p + 1, d, hg => by
    obtain ⟨row, hr⟩ := get_some (xs := g) (i := p) (by omega)
    have hw := game_row h hr
    have hn := game_len h
    have hall := backAt_all sem 0 Q g h (fun xs h1 h2 => (hV xs h1 h2).2) d (by omega)
    have hv := (hV (seen sem 0 g p d row) (by simp only [seen, List.length_map]; exact hw.2) (seen_all sem 0 Q g p d row hg hw.1 hall)).1
    have next := backI_loop V sem Q g h hV p (d + 1) (by omega)
    rw [backAt_succ sem 0 g p d row hg hr] at next
    refine Ev.step (fun k => ?_) (backI_inner V sem g p d row _ _ hg hn.2 hr hw.1 hw.2 hv next row.length 0 (by omega))
    simp only [impl_backward_int64.l0]
    rw [show ((p + 1 : Nat) : Int) - 1 = (p : Int) by omega, if_pos (by omega), if_pos (by omega), if_pos (by omega), rdL1_nat, getD_of hr]
    rfl
theorem backI_ev (V : Nat → List Int → Option Int) (sem : List Int → Int) (Q : Int → Prop) (g : List (List Int)) (hl : ∀ row ∈ g, row.length < 4611686018427387904) (hg : g.length < 4611686018427387904)
    (hV : ∀ xs : List Int, xs.length ≤ 40 → (∀ x ∈ xs, Q x) → Ev (fun k => V k xs) (sem xs) ∧ Q (sem xs)) :
    Ev (fun k => impl_backward_int64.f V k g) (if isGame g = true then (backs sem 0 g, 0) else ([], 1)) := by
  have hi := IsGame_ev g hl hg
  by_cases h : isGame g = true
  · rw [if_pos h]
    rw [h] at hi
    have hn := game_len h
    have hb := backI_loop V sem Q g h hV g.length 0 (by omega)
    simp only [backAt, List.append_nil] at hb
    unfold impl_backward_int64.f
    refine Ev.bind hi (Ev.congr (fun k => ?_) hb)
    rw [if_pos rfl, if_pos (by omega), if_pos (by omega), Option.bind_some, List.length_replicate, Int.toNat_natCast, wrapS (by omega) (by omega)]
  · rw [if_neg h]
    have hf : isGame g = false := by simpa using h
    rw [hf] at hi
    unfold impl_backward_int64.f
    exact Ev.bind hi (Ev.congr (f := fun _ => some (([] : List Int), (1 : Int))) (fun k => by rw [if_neg (by decide)]) (Ev.now _))

end Go.Proofs.Ytbiemfbdobdecaa.PX
