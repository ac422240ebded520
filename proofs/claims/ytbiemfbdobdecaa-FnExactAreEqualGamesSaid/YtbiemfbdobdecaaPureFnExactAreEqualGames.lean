/- For all games and places the program's AreEqualGames returns what the reference's returns: the law returns true (no condition). -/
import Derived.Test.YtbiemfbdobdecaaPXx16
import Derived.Test.YtbiemfbdobdecaaLAreEq
import Derived.Test.YtbiemfbdobdecaaLG
namespace Go.Proofs.Ytbiemfbdobdecaa.Pure
open Go.RowKit Go.Proofs.Ytbiemfbdobdecaa.PX Go.Proofs.YtbiemfbdobdecaaW.PrintWords Go.Proofs.YtbiemfbdobdecaaW.PrintLast Go.Proofs.YtbiemfbdobdecaaW.PrintMore
set_option linter.unusedSimpArgs false
set_option linter.unusedVariables false

theorem FnExactAreEqualGames : ∀ (l0_0 : List (List Int)) (a1 : Int) (l2_0 : List (List Int)) (a3 : Int), (l0_0.length ≤ 9223372036854775807 ∧ ∀ x0 ∈ l0_0, x0.length ≤ 9223372036854775807 ∧ ∀ x1 ∈ x0, (Lit.int .i64 x1).wf = true) → (Lit.int .i64 a1).wf = true → (l2_0.length ≤ 9223372036854775807 ∧ ∀ x0 ∈ l2_0, x0.length ≤ 9223372036854775807 ∧ ∀ x1 ∈ x0, (Lit.int .i64 x1).wf = true) → (Lit.int .i64 a3).wf = true → ∃ k, laws_FnExactAreEqualGames.f k l0_0 a1 l2_0 a3 = some true := by
  intro g p h q hg _ hh _
  refine Ev.rounds (r := true) ?_
  unfold laws_FnExactAreEqualGames.f
  obtain ⟨t1, e1, o1⟩ := szG_evb g 1048576 (by omega) (by omega) hg.1 (fun row hr => (hg.2 row hr).1)
  refine Ev.bind e1 ?_
  by_cases c1 : t1 < 0
  · exact Ev.congr (f := fun _ => some true) (fun k => by rw [if_pos c1]) (Ev.now _)
  refine Ev.congr (fun k => by rw [if_neg c1]) ?_
  obtain ⟨a0, a1, a2, a3⟩ := o1.resolve_left c1
  obtain ⟨t2, e2, o2⟩ := szG_evb h t1 a0 (by omega) hh.1 (fun row hr => (hh.2 row hr).1)
  refine Ev.bind e2 ?_
  by_cases c2 : t2 < 0
  · exact Ev.congr (f := fun _ => some true) (fun k => by rw [if_pos c2]) (Ev.now _)
  refine Ev.congr (fun k => by rw [if_neg c2]) ?_
  obtain ⟨b0, b1, b2, b3⟩ := o2.resolve_left c2
  have hl : ∀ row ∈ g, row.length < 4611686018427387904 := fun row hr => by have := total_mem hr; omega
  have hl' : ∀ row ∈ h, row.length < 4611686018427387904 := fun row hr => by have := total_mem hr; omega
  have T1 := toG_ev g a2 a3
  have T2 := toG_ev h b2 b3
  refine Ev.bind T1 ?_
  refine Ev.bind T2 ?_
  refine Ev.bind (specEq_ev g h p q hl (by omega) hl' (by omega)) ?_
  refine Ev.bind T1 ?_
  refine Ev.bind T2 ?_
  refine Ev.bind (implEq_ev g h p q hl (by omega) hl' (by omega)) ?_
  refine Ev.step (f := fun k => (laws_toGame.f k g).bind fun t422 => ((laws_eqGame.f k g t422).bind fun t425 => (if t425 = true then ((laws_toGame.f k h).bind fun t426 => ((laws_eqGame.f k h t426).bind fun t429 => (if t429 = true then (some true) else (some false)))) else (some false)))) (fun k => ?_) ?_
  · rw [bne_self_eq_false, bne_self_eq_false, if_neg (by decide)]
    simp only [laws_FnExactAreEqualGames.j0]
    rw [if_neg (by decide)]
  refine Ev.bind T1 ?_
  refine Ev.bind (eqG_ev g hl (by omega)) ?_
  refine Ev.congr (fun k => by rw [if_pos rfl]) ?_
  refine Ev.bind T2 ?_
  refine Ev.bind (eqG_ev h hl' (by omega)) ?_
  exact Ev.congr (f := fun _ => some true) (fun k => by rw [if_pos rfl]) (Ev.now _)

end Go.Proofs.Ytbiemfbdobdecaa.Pure
