/- The law FnExactStartOf holds of every number: both sides tell the same. -/
import Derived.Test.YtkbjoiebaphdoaaWFnExactStartOf
import Derived.Test.YtkbjoiebaphdoaaSStart
namespace Go.Proofs.Ytkbjoiebaphdoaa.PS
open Go.RowKit Go.Proofs.YtkbjoiebaphdoaaW.PrintWords Go.Proofs.YtkbjoiebaphdoaaW.PrintLast Go.Proofs.YtkbjoiebaphdoaaW.PrintMore
theorem laws_FnExactStartOf.done (a0 : Int) (w : World) (_hn : (Lit.int .i64 a0).wf = true) :
    Calls Try.prog 14 #[.int .i64 a0] w fun e w' => e = .returned (.bool true) ∧ Below w.heap.size w w' := by
  obtain ⟨h1, h2, h3⟩ := start_fits a0
  have h0 := total3_nonneg (startV a0).2.1
  have hf : Fits3 (startV a0).2.1 := ⟨by omega, fun g hg => by have := (h2 g hg).1; omega⟩
  exact laws_FnExactStartOf.good_of a0 (startV a0).1 (startV a0).2.1 (startV a0).2.2 (1 + total3 (startV a0).2.1) w (specStart_ev a0) (implStart_ev a0) (eq3_ev _ _ h2 h1) (by simp; omega) (by omega) hf rfl
    (held3_ev _ _ 1 (by omega) (by omega) hf)

end Go.Proofs.Ytkbjoiebaphdoaa.PS
