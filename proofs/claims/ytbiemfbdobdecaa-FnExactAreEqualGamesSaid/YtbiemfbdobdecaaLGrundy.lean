/- The Grundy values that the reference tells and those that the program tells are the same, on every game (no condition but sizes that fit). -/
import Derived.Test.YtbiemfbdobdecaaPXx0
import Derived.Test.YtbiemfbdobdecaaPXx14
import Derived.Test.YtbiemfbdobdecaaPXx11
import Derived.Test.YtbiemfbdobdecaaLBackI
import Derived.Test.YtbiemfbdobdecaaLMex
namespace Go.Proofs.Ytbiemfbdobdecaa.PX
open Go.RowKit Go.Proofs.YtbiemfbdobdecaaW.PrintWords Go.Proofs.YtbiemfbdobdecaaW.PrintLast Go.Proofs.YtbiemfbdobdecaaW.PrintMore
attribute [local go_sem] max2_int min2_int max_two min_two max_three min_three max_four min_four
set_option linter.unusedVariables false
set_option linter.unusedSimpArgs false
noncomputable def mexI (xs : List Int) : Int := (mexOf xs : Int)
theorem mexI_nonneg (xs : List Int) : 0 ≤ mexI xs := by unfold mexI; omega
theorem gru_inner (g : List (List Int)) (p d : Nat) (row : List Int) (v : Int) (r : List Int) (hg : g.length = p + 1 + d) (h40 : g.length ≤ 40)
    (hrow : g[p]? = some row) (hq : ∀ q ∈ row, (p : Int) < q ∧ q < g.length) (hl : row.length ≤ 40) (hV : Ev (fun k => spec_l01Mex.f k (seen mexI 0 g p d row)) v)
    (next : Ev (fun k => spec_l01Grundy.l0 k (List.replicate p 0 ++ v :: backAt mexI 0 g d) ((p : Int) - 1) g) r) (e : Nat) : ∀ j : Nat, j + e = row.length →
    Ev (fun k => spec_l01Grundy.l1 k (List.replicate (p + 1) 0 ++ backAt mexI 0 g d) (p : Int) (seen mexI 0 g p d (row.take j)) (j : Int) g) r := by
  have er : rd_L1 g (p : Int) = row := by rw [rdL1_nat, getD_of hrow]
  induction e with
  | zero =>
    intro j hj
    have ej : j = row.length := by omega
    subst ej
    rw [List.take_length]
    refine Ev.step (fun k => by simp only [spec_l01Grundy.l1]; rw [if_pos (by omega), if_pos (by omega), er, if_neg (by omega)]) (Ev.bind hV ?_)
    refine Ev.congr (fun k => ?_) next
    rw [if_pos (by simp only [List.length_append, List.length_replicate]; omega), Int.toNat_natCast, arr_set, wrapS (by omega) (by omega)]
  | succ e ih =>
    intro j hj
    obtain ⟨q, hjq⟩ := get_some (xs := row) (i := j) (by omega)
    have hm := hq q (List.mem_of_getElem? hjq)
    have eq1 : rd row (j : Int) = q := by rw [rd_nat, getD_of hjq]
    have e2 : rd (List.replicate (p + 1) 0 ++ backAt mexI 0 g d) q = (backAt mexI 0 g d).getD (q.toNat - (p + 1)) 0 := by
      obtain ⟨n, rfl⟩ : ∃ n : Nat, q = (n : Int) := ⟨q.toNat, by omega⟩
      rw [rd_nat, arr_get _ _ _ _ (by omega), Int.toNat_natCast]
    refine Ev.step (fun k => ?_) (ih (j + 1) (by omega))
    simp only [spec_l01Grundy.l1]
    rw [if_pos (by omega), if_pos (by omega), er, if_pos (by omega), if_pos (by omega), eq1, if_pos (by omega), if_pos (by simp only [List.length_append, List.length_replicate, backAt_length]; omega),
      if_pos (by simp only [seen, List.length_map, List.length_take]; omega), e2, wrapS (by omega) (by omega), cast_succ]
    congr 1
    simp only [seen]
    rw [List.take_add_one, hjq]
    simp
theorem gru_loop (g : List (List Int)) (h : isGame g = true) :
    ∀ (m d : Nat), g.length = m + d → Ev (fun k => spec_l01Grundy.l0 k (List.replicate m 0 ++ backAt mexI 0 g d) ((m : Int) - 1) g) (backs mexI 0 g)
  | 0, d, hg => by
    refine Ev.step (f := fun _ => some (backs mexI 0 g)) (fun k => ?_) (Ev.now _)
    simp only [spec_l01Grundy.l0]
    rw [if_neg (by omega), backs, show g.length = d by omega]
    rfl
  | p + 1, d, hg => by
    obtain ⟨row, hr⟩ := get_some (xs := g) (i := p) (by omega)
    have hw := game_row h hr
    have hn := game_len h
    have hall := backAt_all mexI 0 (fun x => 0 ≤ x) g h (fun xs _ _ => mexI_nonneg xs) d (by omega)
    have hv := mexs_ev (seen mexI 0 g p d row) (seen_all mexI 0 (fun x => 0 ≤ x) g p d row hg hw.1 hall) (by simp only [seen, List.length_map]; omega)
    have next := gru_loop g h p (d + 1) (by omega)
    rw [backAt_succ mexI 0 g p d row hg hr] at next
    refine Ev.step (fun k => ?_) (gru_inner g p d row _ _ hg hn.2 hr hw.1 hw.2 hv next row.length 0 (by omega))
    simp only [spec_l01Grundy.l0]
    rw [show ((p + 1 : Nat) : Int) - 1 = (p : Int) by omega, if_pos (by omega)]
    rfl
theorem l01Grundy_ev (g : List (List Int)) (h : isGame g = true) : Ev (fun k => spec_l01Grundy.f k g) (backs mexI 0 g) := by
  have hn := game_len h
  have hb := gru_loop g h g.length 0 (by omega)
  simp only [backAt, List.append_nil] at hb
  unfold spec_l01Grundy.f spec_l01N.f
  refine Ev.congr (fun k => ?_) hb
  rw [Option.bind_some, if_pos (by omega), if_pos (by omega), Option.bind_some, Int.toNat_natCast, wrapS (by omega) (by omega)]
noncomputable def grundies (g : List (List Int)) : List Int × Int := if isGame g = true then (backs mexI 0 g, 0) else ([], 1)
theorem implGrundy_ev (g : List (List Int)) (hl : ∀ row ∈ g, row.length < 4611686018427387904) (hg : g.length < 4611686018427387904) : Ev (fun k => impl_GrundyOf.f k g) (grundies g) := by
  unfold impl_GrundyOf.f
  exact Ev.bind (backI_ev impl_mex.f mexI (fun x => 0 ≤ x) g hl hg (fun xs h1 _ => ⟨mexi_ev xs (by omega), mexI_nonneg xs⟩)) (Ev.now _)
theorem grundies_len (g : List (List Int)) : (grundies g).1.length ≤ 40 := by
  unfold grundies
  by_cases h : isGame g = true
  · rw [if_pos h]
    have := game_len h
    simp only [backs, backAt_length]
    omega
  · rw [if_neg h]
    simp

end Go.Proofs.Ytbiemfbdobdecaa.PX
