/- MexOf, of the program and of the reference. -/
import Derived.Test.YtlicbcaloebhlaaPXx0
import Derived.Test.YtlicbcaloebhlaaPXx9
import Derived.Test.YtlicbcaloebhlaaLMex
namespace Go.Proofs.Ytlicbcaloebhlaa.PX
open Go.RowKit Go.Proofs.YtlicbcaloebhlaaW.PrintWords Go.Proofs.YtlicbcaloebhlaaW.PrintLast Go.Proofs.YtlicbcaloebhlaaW.PrintMore
attribute [local go_sem] max2_int min2_int max_two min_two max_three min_three max_four min_four
set_option linter.unusedVariables false
set_option linter.unusedSimpArgs false
theorem MexS_ev (xs : List Int) (hn : xs.length < 4611686018427387904) : Ev (fun k => spec_MexOf.f k xs) (mexPair xs) := by
  refine Ev.congr (f := fun k => (spec_l01Numbers.f k xs).bind fun t => (if t = true then ((spec_l01Mex.f k xs).bind fun t => (some (t, 0))) else (some (0, 2)))) (fun k => rfl) (Ev.bind (num_ev xs hn) ?_)
  unfold mexPair
  by_cases c : areNum xs = true
  · rw [if_pos c]
    refine Ev.congr (f := fun k => (spec_l01Mex.f k xs).bind fun t => (some (t, 0))) (fun k => by rw [if_pos c]) (Ev.bind (mexs_ev xs (areNum_pos c) (by have := areNum_le c; omega)) (Ev.now _))
  · rw [if_neg c]
    exact Ev.congr (f := fun _ => some (0, 2)) (fun k => by rw [if_neg c]) (Ev.now _)
theorem MexI_ev (xs : List Int) (hn : xs.length < 4611686018427387904) : Ev (fun k => impl_MexOf.f k xs) (mexPair xs) := by
  refine Ev.congr (f := fun k => (impl_areNumbers.f k xs).bind fun t => (if t = true then ((impl_mex.f k xs).bind fun t => (some (t, 0))) else (some (0, 2)))) (fun k => rfl) (Ev.bind (are_ev xs) ?_)
  unfold mexPair
  by_cases c : areNum xs = true
  · rw [if_pos c]
    refine Ev.congr (f := fun k => (impl_mex.f k xs).bind fun t => (some (t, 0))) (fun k => by rw [if_pos c]) (Ev.bind (mexi_ev xs hn) (Ev.now _))
  · rw [if_neg c]
    exact Ev.congr (f := fun _ => some (0, 2)) (fun k => by rw [if_neg c]) (Ev.now _)

end Go.Proofs.Ytlicbcaloebhlaa.PX
