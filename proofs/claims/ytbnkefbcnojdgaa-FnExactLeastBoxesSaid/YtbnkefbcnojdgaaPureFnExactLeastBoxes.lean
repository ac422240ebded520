/- For every b the program's LeastBoxes returns what the reference's LeastBoxes returns: the law returns true (no condition). -/
import Derived.Test.YtbnkefbcnojdgaaPFnExactLeastBoxesx10
import Derived.Test.YtbnkefbcnojdgaaRRefl2
namespace Go.Proofs.Ytbnkefbcnojdgaa.Pure
open Go.RowKit Go.Proofs.Ytbnkefbcnojdgaa.PFnExactLeastBoxes Go.Proofs.YtbnkefbcnojdgaaW.PrintWords Go.Proofs.YtbnkefbcnojdgaaW.PrintLast Go.Proofs.YtbnkefbcnojdgaaW.PrintMore
set_option linter.unusedSimpArgs false
set_option linter.unusedVariables false

theorem FnExactLeastBoxes : ∀ (a0_0 : Int) (a0_1 : Int) (a0_2 : Int), (Lit.int .i64 a0_0).wf = true → (Lit.int .i64 a0_1).wf = true → (Lit.int .i64 a0_2).wf = true → ∃ k, laws_FnExactLeastBoxes.f k a0_0 a0_1 a0_2 = some true := by
  intro w h e _ _ _
  refine Ev.rounds (r := true) ?_
  have law : ∀ v : Int × Int × Int × Int, Ev (fun k => spec_LeastBoxes.f k w h e) v → Ev (fun k => impl_LeastBoxes.f k w h e) v → Ev (fun k => laws_FnExactLeastBoxes.f k w h e) true := by
    intro v hS hI
    unfold laws_FnExactLeastBoxes.f laws_toBoxes.f
    refine Ev.bind (Ev.now _) (Ev.bind hS (Ev.bind (Ev.now _) (Ev.bind hI ?_)))
    exact Ev.congr (f := fun _ => some true) (fun k => by unfold laws_eqBoxes.f; simp) (Ev.now _)
  cases hB : isB w h e
  · refine law (0, 0, 0, 1) ?_ ?_
    · unfold spec_LeastBoxes.f
      rw [l03Is_eq, hB]
      exact Ev.congr (f := fun _ => some (0, 0, 0, 1)) (fun k => by rw [Option.bind_some, if_neg (by decide)]) (Ev.now _)
    · unfold impl_LeastBoxes.f
      rw [IsBoxes_eq, hB]
      exact Ev.congr (f := fun _ => some (0, 0, 0, 1)) (fun k => by rw [Option.bind_some, if_neg (by decide)]) (Ev.now _)
  · obtain ⟨v, hs, hi⟩ := least_ev w h e hB
    refine law v ?_ ?_
    · unfold spec_LeastBoxes.f
      rw [l03Is_eq, hB]
      exact Ev.congr (fun k => by rw [Option.bind_some, if_pos rfl]) hs
    · unfold impl_LeastBoxes.f
      rw [IsBoxes_eq, hB]
      refine Ev.congr (fun k => ?_) hi
      rw [Option.bind_some, if_pos rfl]
      by_cases c : w = h
      · rw [if_pos c, if_pos c]
      · rw [if_neg c, if_neg c]

end Go.Proofs.Ytbnkefbcnojdgaa.Pure
