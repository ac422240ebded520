/- For every g the program's IsGame returns what the reference's IsGame returns, and leaves g as it was: the law returns true (no condition). -/
import Derived.Test.YtlicbcaloebhlaaPXx6
import Derived.Test.YtlicbcaloebhlaaLBase
import Derived.Test.YtlicbcaloebhlaaLIs
import Derived.Test.YtlicbcaloebhlaaLI
import Derived.Test.YtlicbcaloebhlaaLG
namespace Go.Proofs.Ytlicbcaloebhlaa.Pure
open Go.RowKit Go.Proofs.Ytlicbcaloebhlaa.PX Go.Proofs.YtlicbcaloebhlaaW.PrintWords Go.Proofs.YtlicbcaloebhlaaW.PrintLast Go.Proofs.YtlicbcaloebhlaaW.PrintMore
set_option linter.unusedSimpArgs false
set_option linter.unusedVariables false

theorem FnExactIsGame : ∀ (l0_0 : List (List Int)), (l0_0.length ≤ 9223372036854775807 ∧ ∀ x0 ∈ l0_0, x0.length ≤ 9223372036854775807 ∧ ∀ x1 ∈ x0, (Lit.int .i64 x1).wf = true) → ∃ k, laws_FnExactIsGame.f k l0_0 = some true := by
  intro g hg
  obtain ⟨t, hs, ht⟩ := szG_ev g hg.1 (fun row h => (hg.2 row h).1)
  refine Ev.rounds (r := true) ?_
  refine Ev.congr (fun k => by unfold laws_FnExactIsGame.f; rfl) (Ev.bind hs ?_)
  rcases ht with ht | ⟨h0, h1, h2⟩
  · exact Ev.congr (f := fun _ => some true) (fun k => by rw [if_pos ht]) (Ev.now true)
  · have hl : ∀ row ∈ g, row.length < 4611686018427387904 := fun row h => by have := total_mem h; omega
    have hG := toG_ev g h1 h2
    refine Ev.congr (fun k => by rw [if_neg (by omega)]) (Ev.bind hG ?_)
    refine Ev.bind (a := isGame g) (Ev.congr (f := fun k => (spec_l01Is.f k g).bind fun t => some t) (fun k => rfl) (Ev.bind (l01Is_ev g hl (by omega)) (Ev.now _))) ?_
    refine Ev.bind hG ?_
    refine Ev.bind (IsGame_ev g hl (by omega)) ?_
    refine Ev.congr (fun k => by rw [if_neg (by simp)]) (Ev.bind hG ?_)
    refine Ev.bind (eqG_ev g hl (by omega)) ?_
    exact Ev.congr (f := fun _ => some true) (fun k => by simp) (Ev.now true)

end Go.Proofs.Ytlicbcaloebhlaa.Pure
