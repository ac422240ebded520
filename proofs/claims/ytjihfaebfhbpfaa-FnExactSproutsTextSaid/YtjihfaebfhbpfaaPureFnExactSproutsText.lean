/- SproutsText: both sides answer alike (condition: sizes that fit). -/
import Derived.Test.YtjihfaebfhbpfaaPXx11
import Derived.Test.YtjihfaebfhbpfaaLText
import Derived.Test.YtjihfaebfhbpfaaLG3
namespace Go.Proofs.Ytjihfaebfhbpfaa.Pure
open Go.RowKit Go.Proofs.Ytjihfaebfhbpfaa.PX Go.Proofs.YtjihfaebfhbpfaaW.PrintWords Go.Proofs.YtjihfaebfhbpfaaW.PrintLast Go.Proofs.YtjihfaebfhbpfaaW.PrintMore
set_option linter.unusedSimpArgs false
set_option linter.unusedVariables false

theorem FnExactSproutsText : ∀ (a0_0 : Int) (l0_1 : List (List (List Int))), (Lit.int .i64 a0_0).wf = true → (l0_1.length ≤ 9223372036854775807 ∧ ∀ x0 ∈ l0_1, x0.length ≤ 9223372036854775807 ∧ ∀ x1 ∈ x0, x1.length ≤ 9223372036854775807 ∧ ∀ x2 ∈ x1, (Lit.int .i64 x2).wf = true) → ∃ k, laws_FnExactSproutsText.f k a0_0 l0_1 = some true := by
  intro n R _ hR
  have hl : ∀ g ∈ R, g.length ≤ 9223372036854775807 ∧ ∀ row ∈ g, row.length ≤ 9223372036854775807 := fun g hg => ⟨(hR.2 g hg).1, fun row hr => ((hR.2 g hg).2 row hr).1⟩
  obtain ⟨t, ht, hor⟩ := sz3_ev n R hR.1 hl
  refine Ev.rounds (r := true) ?_
  unfold laws_FnExactSproutsText.f
  refine Ev.bind ht ?_
  rcases hor with h | ⟨h0, h1, h2, h3⟩
  · exact Ev.congr (f := fun _ => some true) (fun k => by rw [if_pos h]) (Ev.now true)
  · have hT := to3_ev n R h3 h1
    have hb : ∀ g ∈ R, g.length < 4611686018427387904 ∧ ∀ b ∈ g, b.length < 4611686018427387904 := fun g hg => ⟨by have := (h3 g hg).1; omega, fun b hb => by have := total_mem hb; have := (h3 g hg).2; omega⟩
    have hS := specDeg_ev n R hb (by omega)
    have hI := implDeg_ev n R (fun g hg => (hb g hg).2) (by omega) (by omega)
    have hS2 := specText_ev h1 h3 hS
    have hI2 := implText_ev h1 h3 hI
    have hj : Ev (fun k => laws_FnExactSproutsText.j0 k ((textOf n R).2 != (textOf n R).2) n R n R) true := by
      rw [bne_self_eq_false]
      refine Ev.step (f := fun k => (laws_toSprouts.f k n R).bind fun bt => (laws_eqSprouts.f k n R bt.1 bt.2).bind fun t => if t = true then some true else some false) (fun k => ?_) (Ev.bind hT (Ev.bind (eq3_ev n R h3 h1) ?_))
      · rw [laws_FnExactSproutsText.j0, if_neg (by decide)]
      · exact Ev.congr (f := fun _ => some true) (fun k => by rw [if_pos rfl]) (Ev.now true)
    refine Ev.congr (fun k => by rw [if_neg (by omega)]) (Ev.bind hT (Ev.bind hS2 (Ev.bind hT (Ev.bind hI2 ?_))))
    exact Ev.congr (fun k => by rw [if_pos rfl]) hj

end Go.Proofs.Ytjihfaebfhbpfaa.Pure
