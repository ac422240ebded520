/- For every list the program's MexOf returns what the reference's MexOf returns, and leaves the list as it was: the law returns true (no condition). -/
import Derived.Test.YtlicbcaloebhlaaPXx10
import Derived.Test.YtlicbcaloebhlaaLBase
import Derived.Test.YtlicbcaloebhlaaLI
import Derived.Test.YtlicbcaloebhlaaLMexOf
namespace Go.Proofs.Ytlicbcaloebhlaa.Pure
open Go.RowKit Go.Proofs.Ytlicbcaloebhlaa.PX Go.Proofs.YtlicbcaloebhlaaW.PrintWords Go.Proofs.YtlicbcaloebhlaaW.PrintLast Go.Proofs.YtlicbcaloebhlaaW.PrintMore
set_option linter.unusedSimpArgs false
set_option linter.unusedVariables false

theorem FnExactMexOf : ∀ (l0 : List Int), (l0.length ≤ 9223372036854775807 ∧ ∀ x0 ∈ l0, (Lit.int .i64 x0).wf = true) → ∃ k, laws_FnExactMexOf.f k l0 = some true := by
  intro xs hx
  refine Ev.rounds (r := true) ?_
  by_cases c : (xs.length : Int) > 1048576
  · exact Ev.congr (f := fun _ => some true) (fun k => by unfold laws_FnExactMexOf.f; rw [if_pos c]) (Ev.now true)
  · refine Ev.congr (fun k => by unfold laws_FnExactMexOf.f; rw [if_neg c]) ?_
    have hT := toI_ev xs (by omega)
    refine Ev.bind hT (Ev.bind (MexS_ev xs (by omega)) (Ev.bind hT (Ev.bind (MexI_ev xs (by omega)) ?_)))
    refine Ev.congr (fun k => by rw [if_pos rfl, bne_self_eq_false]) ?_
    refine Ev.step (fun k => by simp only [laws_FnExactMexOf.j0]; rw [if_neg (by decide)]) (Ev.bind hT (Ev.bind (eqI_ev xs (by omega)) ?_))
    exact Ev.congr (f := fun _ => some true) (fun k => by simp) (Ev.now true)

end Go.Proofs.Ytlicbcaloebhlaa.Pure
