/- For every x the program's SparingNumber returns what the reference's SparingNumber returns: the law returns true (no condition). -/
import Derived.Test.YtkbjoiebaphdoaaPXx21
import Derived.Test.YtkbjoiebaphdoaaLSpar
namespace Go.Proofs.Ytkbjoiebaphdoaa.Pure
open Go.RowKit Go.Proofs.Ytkbjoiebaphdoaa.PX Go.Proofs.YtkbjoiebaphdoaaW.PrintWords Go.Proofs.YtkbjoiebaphdoaaW.PrintLast Go.Proofs.YtkbjoiebaphdoaaW.PrintMore
set_option linter.unusedSimpArgs false
set_option linter.unusedVariables false

theorem FnExactSparingNumber : ∀ (l0_0 : List Int) (l0_1 : List Int), (l0_0.length ≤ 9223372036854775807 ∧ ∀ x0 ∈ l0_0, (Lit.int .i64 x0).wf = true) → (l0_1.length ≤ 9223372036854775807 ∧ ∀ x0 ∈ l0_1, (Lit.int .i64 x0).wf = true) → ∃ k, laws_FnExactSparingNumber.f k l0_0 l0_1 = some true := by
  intro a b ha hb
  obtain ⟨t, hs, ht⟩ := szE_eq a b ha.1 hb.1
  refine Ev.rounds (r := true) ?_
  unfold laws_FnExactSparingNumber.f
  rw [hs]
  rcases ht with ht | ⟨h0, h1⟩
  · exact Ev.congr (f := fun _ => some true) (fun k => by rw [Option.bind_some, if_pos ht]) (Ev.now true)
  · have hT := toE_ev a b h1
    refine Ev.congr (fun k => by rw [Option.bind_some, if_neg (by omega)]) (Ev.bind hT ?_)
    refine Ev.bind (specSparing_ev a b (by omega) (by omega)) ?_
    refine Ev.bind hT ?_
    refine Ev.bind (implSparing_ev a b (by omega) (by omega)) ?_
    refine Ev.congr (fun k => by rw [if_pos rfl, bne_self_eq_false]) ?_
    refine Ev.step (f := fun k => (laws_toEnding.f k a b).bind fun bt => (laws_eqEnding.f k a b bt.1 bt.2).bind fun t => if t = true then some true else some false) (fun k => ?_) ?_
    · simp only [laws_FnExactSparingNumber.j0]
      rw [if_neg (by decide)]
    · refine Ev.bind hT (Ev.bind (eqE_ev a b h1) ?_)
      exact Ev.congr (f := fun _ => some true) (fun k => by rw [if_pos rfl]) (Ev.now true)

end Go.Proofs.Ytkbjoiebaphdoaa.Pure
