/- The row of FnExactAreEqualGames, out of its plain law (no condition). -/
import Derived.Test.YtbiemfbdobdecaaOpens
import Derived.Test.YtbiemfbdobdecaaRows
import Derived.Test.YtbiemfbdobdecaaPXx16
import Derived.Test.YtbiemfbdobdecaaPureFnExactAreEqualGames
import Derived.WalkKit
import Derived.ProofKit
import Derived.OpenShut
import Derived.ShutString
import Derived.ChangeOld
import Derived.Below
import Derived.Carry
import Derived.SizedLaws
import Derived.Lib.SmallJoins
namespace Go.Proofs.Ytbiemfbdobdecaa.fnExactAreEqualGames
open Go.ChangeShapes Go.WideShapes Go.ChangeAt Go.RowKit
open Go.ChangeMaps (open_string shut_string)
set_option linter.unusedVariables false
theorem own : ownKnob Try.prog.godebug = none := by kernel_rfl
theorem laid : laidOutB Try.prog = true := by kernel_rfl
set_option maxRecDepth 100000 in
theorem lifted (os : Os) (started : os.Started) (H : Type) (enc : TypeId × Value → H) :
    ReturnsInHanded {} Try.checked os 4 .any (Rows.fnExactAreEqualGamesSpec.pre6 enc Try.prog Try.f4 Rows.fnExactAreEqualGamesRow.domain false) (Rows.fnExactAreEqualGamesSpec.post enc Try.prog Try.f4 false true false false) := by
  refine returnsInHanded_of_change_sized (C := Try.checked) own started (by kernel_rfl) Try.func4
    (ChangeSpec.witness6 (enc := enc) (C := Try.checked) false ⟨#[], #[.agg #[.slice none 0 0], .int .i64 0, .agg #[.slice none 0 0], .int .i64 0], []⟩ 8 (by kernel_rfl) (by kernel_rfl) (by kernel_rfl) (by kernel_rfl)) ?_
  intro W base args ds gs before hval0 hW hcnd hsz0 _
  have hsz : (DataW.weightsEach Try.prog (Try.f4.params.toList ++ Rows.fnExactAreEqualGamesSpec.plain.varTypes Try.prog) (ds ++ gs)).all (· ≤ reachBytes) = true := hsz0
  have hval : ∀ (j : Nat) t v, Try.f4.params[j]? = some t → args[j]? = some v → Value.okWide Try.prog W .any base t v := hval0
  have hW' := hW
  obtain ⟨p, q, hA0, hV, rfl, hfz, hnd⟩ := hW
  have hA : DataW.TrodAll enc Try.prog W 0 (fun _ => true) true Try.f4.params.toList args.toList ds p := hA0
  rw [Try.params4] at hA hval hsz
  obtain ⟨v0, vs0, d0, ds0, p0, q0, hargs, rfl, rfl, h0, r0⟩ := trodAll_cons hA
  obtain ⟨v1, vs1, d1, ds1, p1, q1, rfl, rfl, rfl, h1, r1⟩ := trodAll_cons r0
  obtain ⟨v2, vs2, d2, ds2, p2, q2, rfl, rfl, rfl, h2, r2⟩ := trodAll_cons r1
  obtain ⟨v3, vs3, d3, ds3, p3, q3, rfl, rfl, rfl, h3, r3⟩ := trodAll_cons r2
  obtain ⟨rfl, rfl, rfl⟩ := trodAll_nil r3
  obtain rfl : args = #[v0, v1, v2, v3] := by cases args; simp_all
  obtain ⟨rfl, rfl⟩ := trodVars_none hV
  have hk0 := h0
  have hlt0 : ∀ x ∈ p0, x.block < W.heap.size := fun x hx => hW'.lt x (by simp [hx])
  have hk2 := h2
  have hlt2 : ∀ x ∈ p2, x.block < W.heap.size := fun x hx => hW'.lt x (by simp [hx])
  obtain ⟨c0_0, y0_0, m0, rfl, rfl, rfl, g0_0⟩ := Go.Proofs.Ytbiemfbdobdecaa.Opens.open_agg1 Try.underlying24 (by kernel_rfl) (by kernel_rfl) (hval 0 24 v0 rfl rfl) h0
  obtain ⟨A0_0, n0_0, l0_0, rfl, hc0_0, hr0_0, w0_0⟩ := Go.Proofs.Ytbiemfbdobdecaa.Opens.opened_slice Try.underlying22 (by kernel_rfl) (Go.Proofs.Ytbiemfbdobdecaa.Opens.opens_slice Try.underlying36 (by kernel_rfl) (Go.Proofs.Ytbiemfbdobdecaa.Opens.opens_int Try.underlying2)) g0_0
  obtain ⟨a1, rfl, rfl, rfl, w1⟩ := open_int Try.underlying2 (hval 1 2 v1 rfl rfl) h1
  obtain ⟨c2_0, y2_0, m2, rfl, rfl, rfl, g2_0⟩ := Go.Proofs.Ytbiemfbdobdecaa.Opens.open_agg1 Try.underlying24 (by kernel_rfl) (by kernel_rfl) (hval 2 24 v2 rfl rfl) h2
  obtain ⟨A2_0, n2_0, l2_0, rfl, hc2_0, hr2_0, w2_0⟩ := Go.Proofs.Ytbiemfbdobdecaa.Opens.opened_slice Try.underlying22 (by kernel_rfl) (Go.Proofs.Ytbiemfbdobdecaa.Opens.opens_slice Try.underlying36 (by kernel_rfl) (Go.Proofs.Ytbiemfbdobdecaa.Opens.opens_int Try.underlying2)) g2_0
  obtain ⟨a3, rfl, rfl, rfl, w3⟩ := open_int Try.underlying2 (hval 3 2 v3 rfl rfl) h3
  clear hA0 hval0 hsz0 hsz
  obtain ⟨k, hk⟩ := Pure.FnExactAreEqualGames l0_0 a1 l2_0 a3 w0_0 w1 w2_0 w3
  refine (PX.laws_FnExactAreEqualGames.calls k _ _ l0_0 a1 _ _ l2_0 a3 true W hr0_0 hc0_0 hr2_0 hc2_0 hk).mono fun e W' ⟨he, bel0⟩ => ?_
  have bel : Below W.heap.size W W' := bel0
  subst he
  exact ⟨_, rfl, _, _, _, [], _, [], hW', trodAll_mk1 (shut_bool Try.underlying4 _), (trodAll_cons_mk (Below.trod laid (by kernel_rfl) (of_decide_eq_true (by kernel_rfl)) hk0 bel hlt0) (trodAll_cons_mk (shut_int Try.underlying2 w1) (trodAll_cons_mk (Below.trod laid (by kernel_rfl) (of_decide_eq_true (by kernel_rfl)) hk2 bel hlt2) (trodAll_cons_mk (shut_int Try.underlying2 w3) trodAll_mk0)))), rfl, bel.frame _, fun h => by cases h⟩
theorem over : Rows.fnExactAreEqualGamesRow.holds Try.pinned (OpenSpec.ofChange Rows.fnExactAreEqualGamesSpec) :=
  OpenClaim.holds_of_wide 4 Try.f4 rfl rfl rfl rfl rfl rfl rfl ⟨rfl, rfl, rfl, rfl, rfl⟩ rfl rfl rfl rfl rfl (by kernel_rfl) Try.func4 (by kernel_rfl)
    (of_decide_eq_true (by kernel_rfl)) (by unfold Func.isWrapper; first | (rw [if_pos (by decide +kernel)]; kernel_rfl) | (rw [if_neg (by decide +kernel)]; exact ⟨rfl, rfl⟩))
    (fun os started H enc _ => lifted os started H enc)
theorem proved : Rows.FnExactAreEqualGamesSaid := over
#print axioms proved
end Go.Proofs.Ytbiemfbdobdecaa.fnExactAreEqualGames
namespace Go.Proofs.Ytbiemfbdobdecaa
/-- The row, under a short name, for the claim. -/
theorem fnExactAreEqualGames_holds : Rows.FnExactAreEqualGamesSaid := fnExactAreEqualGames.proved
end Go.Proofs.Ytbiemfbdobdecaa
