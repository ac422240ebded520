/- The row of FnExactPlayEnding, out of its plain law (no condition). -/
import Derived.Test.YtkbjoiebaphdoaaRows
import Derived.WalkKit
import Derived.ProofKit
import Derived.OpenShut
import Derived.ShutString
import Derived.ChangeOld
import Derived.Below
import Derived.Carry
import Derived.SizedLaws
import Derived.Lib.SmallJoins
import Derived.Test.YtkbjoiebaphdoaaPk8FnExactPlayEnding
/- The row of FnExactPlayEnding, out of its plain law (no condition). -/
namespace Go.Proofs.Ytkbjoiebaphdoaa.fnExactPlayEnding
open Go.ChangeShapes Go.WideShapes Go.ChangeAt Go.RowKit
open Go.ChangeMaps (open_string shut_string)
set_option linter.unusedVariables false
theorem own : ownKnob Try.prog.godebug = none := by kernel_rfl
theorem laid : laidOutB Try.prog = true := by kernel_rfl
set_option maxRecDepth 100000 in
theorem lifted (os : Os) (started : os.Started) (H : Type) (enc : TypeId × Value → H) :
    ReturnsInHanded {} Try.checked os 11 .any (Rows.fnExactPlayEndingSpec.pre6 enc Try.prog Try.f11 Rows.fnExactPlayEndingRow.domain false) (Rows.fnExactPlayEndingSpec.post enc Try.prog Try.f11 false true false false) := by
  refine returnsInHanded_of_change_sized (C := Try.checked) own started (by kernel_rfl) Try.func11
    (ChangeSpec.witness6 (enc := enc) (C := Try.checked) false ⟨#[], #[.agg #[.slice none 0 0, .slice none 0 0]], []⟩ 8 (by kernel_rfl) (by kernel_rfl) (by kernel_rfl) (by kernel_rfl)) ?_
  intro W base args ds gs before hval0 hW hcnd hsz0 _
  have hsz : (DataW.weightsEach Try.prog (Try.f11.params.toList ++ Rows.fnExactPlayEndingSpec.plain.varTypes Try.prog) (ds ++ gs)).all (· ≤ reachBytes) = true := hsz0
  have hval : ∀ (j : Nat) t v, Try.f11.params[j]? = some t → args[j]? = some v → Value.okWide Try.prog W .any base t v := hval0
  have hW' := hW
  obtain ⟨p, q, hA0, hV, rfl, hfz, hnd⟩ := hW
  have hA : DataW.TrodAll enc Try.prog W 0 (fun _ => true) true Try.f11.params.toList args.toList ds p := hA0
  rw [Try.params11] at hA hval hsz
  obtain ⟨v0, vs0, d0, ds0, p0, q0, hargs, rfl, rfl, h0, r0⟩ := trodAll_cons hA
  obtain ⟨rfl, rfl, rfl⟩ := trodAll_nil r0
  obtain rfl : args = #[v0] := by cases args; simp_all
  obtain ⟨rfl, rfl⟩ := trodVars_none hV
  have hk0 := h0
  have hlt0 : ∀ x ∈ p0, x.block < W.heap.size := fun x hx => hW'.lt x (by simp [hx])
  obtain ⟨c0_0, c0_1, y0_0, y0_1, m0, rfl, rfl, rfl, g0_0, g0_1⟩ := Go.Joins.open_agg2 Try.underlying24 (by kernel_rfl) (by kernel_rfl) (hval 0 24 v0 rfl rfl) h0
  obtain ⟨A0_0, n0_0, l0_0, rfl, hc0_0, hr0_0, w0_0⟩ := Go.Proofs.Ytkbjoiebaphdoaa.Opens.opened_slice Try.underlying22 (by kernel_rfl) (Go.Proofs.Ytkbjoiebaphdoaa.Opens.opens_int Try.underlying2) g0_0
  obtain ⟨A0_1, n0_1, l0_1, rfl, hc0_1, hr0_1, w0_1⟩ := Go.Proofs.Ytkbjoiebaphdoaa.Opens.opened_slice Try.underlying22 (by kernel_rfl) (Go.Proofs.Ytkbjoiebaphdoaa.Opens.opens_int Try.underlying2) g0_1
  clear hA0 hval0 hsz0 hsz
  refine (PX.laws_FnExactPlayEnding.done _ _ l0_0 _ _ l0_1 W hr0_0 hc0_0 hr0_1 hc0_1 w0_0 w0_1).mono fun e W' ⟨he, bel0⟩ => ?_
  have bel : Below W.heap.size W W' := bel0
  subst he
  exact ⟨_, rfl, _, _, _, [], _, [], hW', trodAll_mk1 (shut_bool Try.underlying4 _), (trodAll_cons_mk (Below.trod laid (by kernel_rfl) (of_decide_eq_true (by kernel_rfl)) hk0 bel hlt0) trodAll_mk0), rfl, bel.frame _, fun h => by cases h⟩
theorem over : Rows.fnExactPlayEndingRow.holds Try.pinned (OpenSpec.ofChange Rows.fnExactPlayEndingSpec) :=
  OpenClaim.holds_of_wide 11 Try.f11 rfl rfl rfl rfl rfl rfl rfl ⟨rfl, rfl, rfl, rfl, rfl⟩ rfl rfl rfl rfl rfl (by kernel_rfl) Try.func11 (by kernel_rfl)
    (of_decide_eq_true (by kernel_rfl)) (by unfold Func.isWrapper; first | (rw [if_pos (by decide +kernel)]; kernel_rfl) | (rw [if_neg (by decide +kernel)]; exact ⟨rfl, rfl⟩))
    (fun os started H enc _ => lifted os started H enc)
theorem proved : Rows.FnExactPlayEndingSaid := over
#print axioms proved
end Go.Proofs.Ytkbjoiebaphdoaa.fnExactPlayEnding
namespace Go.Proofs.Ytkbjoiebaphdoaa
/-- The row, under a short name, for the claim. -/
theorem fnExactPlayEnding_holds : Rows.FnExactPlayEndingSaid := fnExactPlayEnding.proved
end Go.Proofs.Ytkbjoiebaphdoaa
