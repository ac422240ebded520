/- The law FnExactDegreesOf holds of every position: both sides tell the same. -/
import Derived.Test.YtjihfaebfhbpfaaWFnExactDegreesOf
import Derived.Test.YtjihfaebfhbpfaaLG3
import Derived.Test.YtjihfaebfhbpfaaLDof
namespace Go.Proofs.Ytjihfaebfhbpfaa.PX
open Go.RowKit Go.Proofs.YtjihfaebfhbpfaaW.PrintWords Go.Proofs.YtjihfaebfhbpfaaW.PrintLast Go.Proofs.YtjihfaebfhbpfaaW.PrintMore
theorem laws_FnExactDegreesOf.done (a0_0 : Int) (A0_1 : Option Addr) (c0_1 : Nat) (l0_1 : List (List (List Int))) (w : World) (hr0_1 : Kd.C (Kd.slice 33 (Kd.slice 2 (Kd.int .i64))) w A0_1 l0_1.length l0_1) (hc0_1 : l0_1.length ≤ c0_1) (_hn : (Lit.int .i64 a0_0).wf = true)
    (hW : (l0_1.length ≤ 9223372036854775807 ∧ ∀ x0 ∈ l0_1, x0.length ≤ 9223372036854775807 ∧ ∀ x1 ∈ x0, x1.length ≤ 9223372036854775807 ∧ ∀ x2 ∈ x1, (Lit.int .i64 x2).wf = true)) :
    Calls Try.prog 5 #[.agg #[.int .i64 a0_0, .slice A0_1 l0_1.length c0_1]] w fun e w' => e = .returned (.bool true) ∧ Below w.heap.size w w' := by
  obtain ⟨t, ht, hor⟩ := sz3_ev a0_0 l0_1 hW.1 (fun g hg => ⟨(hW.2 g hg).1, fun row hr => ((hW.2 g hg).2 row hr).1⟩)
  rcases hor with hn | ⟨h0, h1, h2, h3⟩
  · exact laws_FnExactDegreesOf.early0_of a0_0 A0_1 c0_1 l0_1 t w hr0_1 hc0_1 (decide_eq_true hn) ht
  · have hb : ∀ g ∈ l0_1, g.length < 4611686018427387904 ∧ ∀ b ∈ g, b.length < 4611686018427387904 := fun g hg => ⟨by have := (h3 g hg).1; omega, fun b hb => by have := total_mem hb; have := (h3 g hg).2; omega⟩
    have hS := specDegreesOf_ev (specDeg_ev a0_0 l0_1 hb (by omega))
    have hI := implDegreesOf_ev (implDeg_ev a0_0 l0_1 (fun g hg => (hb g hg).2) (by omega) (by omega))
    have hl := degVal_len a0_0 l0_1
    have h4 := total3_le l0_1 (fun g hg => (h3 g hg).2)
    have h5 := total3_nonneg l0_1
    have hm := mark_ev (degVal a0_0 l0_1).1 1 (by omega) (by omega)
    have hh := held_ev (degVal a0_0 l0_1).1.length 1 (by omega) (by omega)
    exact laws_FnExactDegreesOf.good_of a0_0 A0_1 c0_1 l0_1 t (degVal a0_0 l0_1).1 (degVal a0_0 l0_1).2 (1 + total3 l0_1) (1 + ((degVal a0_0 l0_1).1.length : Int)) w hr0_1 hc0_1 (by simp; omega) ht (to3_ev a0_0 l0_1 h3 h1) hS hI
      (eqI_ev _ (by omega)) (eq3_ev a0_0 l0_1 h3 h1) (by simp; omega) (by omega) ⟨by omega, fun g hg => (hb g hg).1⟩ rfl (by simp; omega) hm hh

end Go.Proofs.Ytjihfaebfhbpfaa.PX
