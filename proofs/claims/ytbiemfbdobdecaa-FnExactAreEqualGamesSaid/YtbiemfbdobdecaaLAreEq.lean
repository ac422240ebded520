/- Whether places of two games have the same Grundy value, as the reference and the program tell it (no condition but sizes that fit). -/
import Derived.Test.YtbiemfbdobdecaaPXx0
import Derived.Test.YtbiemfbdobdecaaPXx12
import Derived.Test.YtbiemfbdobdecaaPXx15
import Derived.Test.YtbiemfbdobdecaaLIn
import Derived.Test.YtbiemfbdobdecaaLGrundy
namespace Go.Proofs.Ytbiemfbdobdecaa.PX
open Go.RowKit Go.Proofs.YtbiemfbdobdecaaW.PrintWords Go.Proofs.YtbiemfbdobdecaaW.PrintLast Go.Proofs.YtbiemfbdobdecaaW.PrintMore
attribute [local go_sem] max2_int min2_int max_two min_two max_three min_three max_four min_four
set_option linter.unusedVariables false
set_option linter.unusedSimpArgs false
def inG (g : List (List Int)) (p : Int) : Bool := decide (0 ≤ p) && decide (p ≤ (g.length : Int) - 1)
noncomputable def areEq (g : List (List Int)) (p : Int) (h : List (List Int)) (q : Int) : Bool × Int :=
  if isGame g = true then (if isGame h = true then (if (inG g p && inG h q) = true then (rd (backs mexI 0 g) p == rd (backs mexI 0 h) q, 0) else (false, 2)) else (false, 1)) else (false, 1)
theorem specEq_ev (g h : List (List Int)) (p q : Int) (hl : ∀ row ∈ g, row.length < 4611686018427387904) (hg : g.length < 4611686018427387904) (hl' : ∀ row ∈ h, row.length < 4611686018427387904) (hh : h.length < 4611686018427387904) :
    Ev (fun k => spec_AreEqualGames.f k g p h q) (areEq g p h q) := by
  have h1 := l01Is_ev g hl hg
  have h2 := l01Is_ev h hl' hh
  unfold areEq spec_AreEqualGames.f
  cases hG : isGame g
  · rw [hG] at h1
    rw [if_neg (by decide)]
    refine Ev.bind h1 (Ev.congr (fun k => by rw [if_neg (by decide)]) (Ev.step (f := fun _ => some (false, 1)) (fun k => ?_) (Ev.now _)))
    simp only [spec_AreEqualGames.j0]
    rw [if_pos trivial]
  · rw [hG] at h1
    rw [if_pos rfl]
    refine Ev.bind h1 (Ev.congr (fun k => by rw [if_pos rfl]) (Ev.bind h2 ?_))
    cases hH : isGame h
    · rw [if_neg (by decide)]
      refine Ev.step (f := fun _ => some (false, 1)) (fun k => ?_) (Ev.now _)
      simp only [spec_AreEqualGames.j0]
      rw [if_pos (by decide)]
    · rw [if_pos rfl]
      have n1 := game_len hG
      have n2 := game_len hH
      have i1 : spec_l01In.f p 0 (wrap64 ((g.length : Int) - 1)) = some (inG g p) := by rw [l01In_eq, wrapS (by omega) (by omega)]; rfl
      have i2 : spec_l01In.f q 0 (wrap64 ((h.length : Int) - 1)) = some (inG h q) := by rw [l01In_eq, wrapS (by omega) (by omega)]; rfl
      have bad : Ev (fun k => spec_AreEqualGames.j1 k p q true g h) (false, 2) := by
        refine Ev.step (f := fun _ => some (false, 2)) (fun k => ?_) (Ev.now _)
        simp only [spec_AreEqualGames.j1]
        rw [if_pos trivial]
      cases b1 : inG g p
      · rw [b1] at i1
        rw [Bool.false_and, if_neg (by decide)]
        refine Ev.step (fun k => ?_) bad
        simp only [spec_AreEqualGames.j0, spec_l01N.f]
        rw [if_neg (by decide), Option.bind_some, i1, Option.bind_some, if_neg (by decide)]
      · rw [b1] at i1
        cases b2 : inG h q
        · rw [b2] at i2
          rw [Bool.and_false, if_neg (by decide)]
          refine Ev.step (fun k => ?_) bad
          simp only [spec_AreEqualGames.j0, spec_l01N.f]
          rw [if_neg (by decide), Option.bind_some, i1, Option.bind_some, if_pos rfl, Option.bind_some, i2, Option.bind_some]
          rfl
        · rw [b2] at i2
          rw [Bool.and_self, if_pos rfl]
          have good : Ev (fun k => spec_AreEqualGames.j1 k p q false g h) (rd (backs mexI 0 g) p == rd (backs mexI 0 h) q, 0) := by
            unfold inG at b1 b2
            simp only [Bool.and_eq_true, decide_eq_true_eq] at b1 b2
            refine Ev.step (fun k => by simp only [spec_AreEqualGames.j1]; rw [if_neg (by decide)]) (Ev.bind (l01Grundy_ev g hG) (Ev.congr (fun k => by rw [if_pos b1.1, if_pos (by rw [backs, backAt_length]; omega)]) (Ev.bind (l01Grundy_ev h hH) (Ev.congr (fun k => by rw [if_pos b2.1, if_pos (by rw [backs, backAt_length]; omega)]) (Ev.now _)))))
          refine Ev.step (fun k => ?_) good
          simp only [spec_AreEqualGames.j0, spec_l01N.f]
          rw [if_neg (by decide), Option.bind_some, i1, Option.bind_some, if_pos rfl, Option.bind_some, i2, Option.bind_some]
          rfl
theorem implEq_ev (g h : List (List Int)) (p q : Int) (hl : ∀ row ∈ g, row.length < 4611686018427387904) (hg : g.length < 4611686018427387904) (hl' : ∀ row ∈ h, row.length < 4611686018427387904) (hh : h.length < 4611686018427387904) :
    Ev (fun k => impl_AreEqualGames.f k g p h q) (areEq g p h q) := by
  have h1 := IsGame_ev g hl hg
  have h2 := IsGame_ev h hl' hh
  have g1 := implGrundy_ev g hl hg
  have g2 := implGrundy_ev h hl' hh
  have i1 : impl_within.f p 0 (wrap64 ((g.length : Int) - 1)) = some (inG g p) := by rw [within_eq, wrapS (by omega) (by omega)]; rfl
  have i2 : impl_within.f q 0 (wrap64 ((h.length : Int) - 1)) = some (inG h q) := by rw [within_eq, wrapS (by omega) (by omega)]; rfl
  have jj : ∀ B : Bool, Ev (fun k => impl_AreEqualGames.j0 k p q B g h) (if isGame g = true then (if isGame h = true then (if B = true then (if 0 ≤ p ∧ p < (g.length : Int) ∧ 0 ≤ q ∧ q < (h.length : Int) then (rd (backs mexI 0 g) p == rd (backs mexI 0 h) q, 0) else (false, 7)) else (false, 2)) else (false, 1)) else (false, 1)) ∨ (isGame g = true ∧ isGame h = true ∧ B = true ∧ ¬ (0 ≤ p ∧ p < (g.length : Int) ∧ 0 ≤ q ∧ q < (h.length : Int))) := by
    intro B
    cases hG : isGame g
    · rw [hG] at h1
      refine .inl ?_
      rw [if_neg (by decide)]
      refine Ev.step (fun k => by simp only [impl_AreEqualGames.j0]; rfl) (Ev.bind h1 (Ev.congr (fun k => by rw [if_neg (by decide)]) (Ev.bind (first2_ev false B 1 2) (Ev.step (f := fun _ => some (false, 1)) (fun k => ?_) (Ev.now _)))))
      simp only [impl_AreEqualGames.j1]
      rfl
    · rw [hG] at h1
      cases hH : isGame h
      · rw [hH] at h2
        refine .inl ?_
        rw [if_pos rfl, if_neg (by decide)]
        refine Ev.step (fun k => by simp only [impl_AreEqualGames.j0]; rfl) (Ev.bind h1 (Ev.congr (fun k => by rw [if_pos rfl]) (Ev.bind h2 ?_)))
        refine Ev.bind (first2_ev false B 1 2) ?_
        refine Ev.step (f := fun _ => some (false, 1)) (fun k => ?_) (Ev.now _)
        simp only [impl_AreEqualGames.j1]
        rfl
      · rw [hH] at h2
        cases B
        · refine .inl ?_
          rw [if_pos rfl, if_pos rfl, if_neg (by decide)]
          refine Ev.step (fun k => by simp only [impl_AreEqualGames.j0]; rfl) (Ev.bind h1 (Ev.congr (fun k => by rw [if_pos rfl]) (Ev.bind h2 ?_)))
          refine Ev.bind (first2_ev true false 1 2) ?_
          refine Ev.step (f := fun _ => some (false, 2)) (fun k => ?_) (Ev.now _)
          simp only [impl_AreEqualGames.j1]
          rfl
        · by_cases c : 0 ≤ p ∧ p < (g.length : Int) ∧ 0 ≤ q ∧ q < (h.length : Int)
          · refine .inl ?_
            rw [if_pos rfl, if_pos rfl, if_pos rfl, if_pos c]
            unfold grundies at g1 g2
            rw [if_pos hG] at g1
            rw [if_pos hH] at g2
            refine Ev.step (fun k => by simp only [impl_AreEqualGames.j0]; rfl) (Ev.bind h1 (Ev.congr (fun k => by rw [if_pos rfl]) (Ev.bind h2 ?_)))
            refine Ev.bind (first2_ev true true 1 2) ?_
            refine Ev.step (f := fun k => (impl_GrundyOf.f k g).bind fun bt390 => ((impl_GrundyOf.f k h).bind fun bt394 => (if 0 ≤ p then (if p < (bt390.1.length : Int) then (if 0 ≤ q then (if q < (bt394.1.length : Int) then (some (((rd bt390.1 p) == (rd bt394.1 q)), 0)) else (none)) else (none)) else (none)) else (none)))) (fun k => ?_) ?_
            · simp only [impl_AreEqualGames.j1]
              rw [if_pos (by rfl)]
            refine Ev.bind g1 ?_
            refine Ev.bind g2 ?_
            refine Ev.congr (f := fun _ => some (rd (backs mexI 0 g) p == rd (backs mexI 0 h) q, 0)) (fun k => ?_) (Ev.now _)
            rw [if_pos c.1, if_pos (by rw [backs, backAt_length]; exact c.2.1), if_pos c.2.2.1, if_pos (by rw [backs, backAt_length]; exact c.2.2.2)]
          · exact .inr ⟨rfl, rfl, rfl, c⟩
  unfold impl_AreEqualGames.f impl_size_int64.f
  have done : ∀ B : Bool, B = (inG g p && inG h q) → Ev (fun k => impl_AreEqualGames.j0 k p q B g h) (areEq g p h q) := by
    intro B hB
    rcases jj B with hj | ⟨a, b, c, d⟩
    · unfold areEq
      rw [← hB]
      cases B
      · exact hj
      · have e := hB.symm
        unfold inG at e
        simp only [Bool.and_eq_true, decide_eq_true_eq] at e
        rw [if_pos (show 0 ≤ p ∧ p < (g.length : Int) ∧ 0 ≤ q ∧ q < (h.length : Int) by omega)] at hj
        exact hj
    · rw [hB] at c
      unfold inG at c
      simp only [Bool.and_eq_true, decide_eq_true_eq] at c
      omega
  refine Ev.bind (Ev.now _) ?_
  rw [i1]
  refine Ev.bind (Ev.now _) ?_
  cases b1 : inG g p
  · refine Ev.congr (fun k => by rw [if_neg (by decide)]) (done false (by rw [b1, Bool.false_and]))
  · refine Ev.congr (fun k => by rw [if_pos rfl]) (Ev.bind (Ev.now _) ?_)
    rw [i2]
    exact Ev.bind (Ev.now _) (done (inG h q) (by rw [b1, Bool.true_and]))

end Go.Proofs.Ytbiemfbdobdecaa.PX
