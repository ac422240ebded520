/- The row of FnExactAfterOpening, out of its plain law (no condition). -/
import Derived.Test.YtkbjoiebaphdoaaRows
import Derived.WalkKit
import Derived.ProofKit
import Derived.OpenShut
import Derived.ShutString
import Derived.ChangeOld
import Derived.Below
import Derived.Carry
import Derived.SizedLaws
import Derived.Lib.SmallJoins
import Derived.Test.YtkbjoiebaphdoaaPk7FnExactAfterOpening
/- AfterOpening: both sides answer alike, results of their own (condition: sizes that fit). -/
namespace Go.Proofs.Ytkbjoiebaphdoaa.Pure
open Go.RowKit Go.Proofs.Ytkbjoiebaphdoaa.PX Go.Proofs.YtkbjoiebaphdoaaW.PrintWords Go.Proofs.YtkbjoiebaphdoaaW.PrintLast Go.Proofs.YtkbjoiebaphdoaaW.PrintMore
set_option linter.unusedSimpArgs false
set_option linter.unusedVariables false

theorem FnExactAfterOpening : ∀ (l0_0 : List Int) (l0_1 : List Int) (a1 : Bool) (a2 : Int), (l0_0.length ≤ 9223372036854775807 ∧ ∀ x0 ∈ l0_0, (Lit.int .i64 x0).wf = true) → (l0_1.length ≤ 9223372036854775807 ∧ ∀ x0 ∈ l0_1, (Lit.int .i64 x0).wf = true) → (Lit.int .i64 a2).wf = true → ∃ k, laws_FnExactAfterOpening.f k l0_0 l0_1 a1 a2 = some true := by
  intro a b ol ob ha hb hob
  obtain ⟨t, hs, ht⟩ := szE_eq a b ha.1 hb.1
  refine Ev.rounds (r := true) ?_
  unfold laws_FnExactAfterOpening.f
  rw [hs]
  rcases ht with ht | ⟨h0, h1⟩
  · exact Ev.congr (f := fun _ => some true) (fun k => by rw [Option.bind_some, if_pos ht]) (Ev.now true)
  · have hT := toE_ev a b h1
    have hS := specAfter_ev a b (ol, ob) (by omega) (by omega)
    have hI := implAfter_ev a b (ol, ob) (by omega) (by omega)
    have hr := afterOf_len a b (ol, ob) h1
    generalize afterOf a b (ol, ob) = R at *
    have hQ := eqE_ev R.1 R.2.1 hr
    have hM := markE_ev R.1 R.2.1 hr
    have hH := heldE_ev R.1.length R.2.1.length hr
    have e2 : Ev (fun k => laws_FnExactAfterOpening.j2 k (1 + (R.1.length : Int) + (R.2.1.length : Int)) false (marks 1 R.1.length) (marks (1 + (R.1.length : Int)) R.2.1.length)) true := by
      refine Ev.step (f := fun k => (laws_heldEnding.f k (marks 1 R.1.length) (marks (1 + (R.1.length : Int)) R.2.1.length) 1).bind fun t => (if t < 0 then (some false) else (if t = 1 + (R.1.length : Int) + (R.2.1.length : Int) then (some true) else (some false)))) (fun k => ?_) (Ev.bind hH ?_)
      · rw [laws_FnExactAfterOpening.j2, if_neg (by decide)]
      · exact Ev.congr (f := fun _ => some true) (fun k => by rw [if_neg (by omega), if_pos rfl]) (Ev.now true)
    have e1 : Ev (fun k => laws_FnExactAfterOpening.j1 k ol ob R.2.2 false a b R.1 R.2.1 R.1 R.2.1) true := by
      refine Ev.step (f := fun k => (laws_markEnding.f k R.1 R.2.1 1).bind fun bt332 => ((laws_heldEnding.f k bt332.2.1 bt332.2.2 1).bind fun t335 => (if t335 < 0 then (some false) else (if t335 = bt332.1 then ((laws_toEnding.f k a b).bind fun bt336 => ((impl_AfterOpening.f k bt336.1 bt336.2 ol ob).bind fun bt342 => ((laws_eqEnding.f k bt342.1 bt342.2.1 R.1 R.2.1).bind fun t350 => (if t350 = true then (laws_FnExactAfterOpening.j2 k bt332.1 (bt342.2.2 != R.2.2) bt332.2.1 bt332.2.2) else (laws_FnExactAfterOpening.j2 k bt332.1 true bt332.2.1 bt332.2.2))))) else (some false))))) (fun k => ?_) (Ev.bind hM (Ev.bind hH ?_))
      · rw [laws_FnExactAfterOpening.j1, if_neg (by decide)]
      · refine Ev.congr (fun k => by rw [if_neg (by omega), if_pos rfl]) (Ev.bind hT (Ev.bind hI (Ev.bind hQ ?_)))
        exact Ev.congr (fun k => by rw [if_pos rfl, bne_self_eq_false]) e2
    have e0 : Ev (fun k => laws_FnExactAfterOpening.j0 k ol ob R.2.2 R.2.2 false a b R.1 R.2.1 a b R.1 R.2.1) true := by
      refine Ev.step (f := fun k => (laws_toEnding.f k a b).bind fun bt321 => ((laws_eqEnding.f k a b bt321.1 bt321.2).bind fun t327 => (if t327 = true then ((laws_markEnding.f k a b 1).bind fun bt328 => (if bt328.1 < 0 then (laws_FnExactAfterOpening.j1 k ol ob R.2.2 true a b R.1 R.2.1 R.1 R.2.1) else ((laws_eqEnding.f k R.1 R.2.1 R.1 R.2.1).bind fun t331 => (if t331 = true then (laws_FnExactAfterOpening.j1 k ol ob R.2.2 (R.2.2 != R.2.2) a b R.1 R.2.1 R.1 R.2.1) else (laws_FnExactAfterOpening.j1 k ol ob R.2.2 true a b R.1 R.2.1 R.1 R.2.1))))) else (some false)))) (fun k => ?_) (Ev.bind hT (Ev.bind (eqE_ev a b h1) ?_))
      · rw [laws_FnExactAfterOpening.j0, if_neg (by decide)]
      · refine Ev.congr (fun k => by rw [if_pos rfl]) (Ev.bind (markE_ev a b h1) ?_)
        refine Ev.congr (fun k => by rw [if_neg (by omega)]) (Ev.bind hQ ?_)
        exact Ev.congr (fun k => by rw [if_pos rfl, bne_self_eq_false]) e1
    refine Ev.congr (fun k => by rw [Option.bind_some, if_neg (by omega)]) (Ev.bind hT (Ev.bind hS (Ev.bind hT (Ev.bind hI (Ev.bind hQ ?_)))))
    exact Ev.congr (fun k => by rw [if_pos rfl, bne_self_eq_false]) e0

end Go.Proofs.Ytkbjoiebaphdoaa.Pure

/- The row of FnExactAfterOpening, out of its plain law (no condition). -/
namespace Go.Proofs.Ytkbjoiebaphdoaa.fnExactAfterOpening
open Go.ChangeShapes Go.WideShapes Go.ChangeAt Go.RowKit
open Go.ChangeMaps (open_string shut_string)
set_option linter.unusedVariables false
theorem own : ownKnob Try.prog.godebug = none := by kernel_rfl
theorem laid : laidOutB Try.prog = true := by kernel_rfl
set_option maxRecDepth 100000 in
theorem lifted (os : Os) (started : os.Started) (H : Type) (enc : TypeId × Value → H) :
    ReturnsInHanded {} Try.checked os 7 .any (Rows.fnExactAfterOpeningSpec.pre6 enc Try.prog Try.f7 Rows.fnExactAfterOpeningRow.domain false) (Rows.fnExactAfterOpeningSpec.post enc Try.prog Try.f7 false true false false) := by
  refine returnsInHanded_of_change_sized (C := Try.checked) own started (by kernel_rfl) Try.func7
    (ChangeSpec.witness6 (enc := enc) (C := Try.checked) false ⟨#[], #[.agg #[.slice none 0 0, .slice none 0 0], .bool false, .int .i64 0], []⟩ 8 (by kernel_rfl) (by kernel_rfl) (by kernel_rfl) (by kernel_rfl)) ?_
  intro W base args ds gs before hval0 hW hcnd hsz0 _
  have hsz : (DataW.weightsEach Try.prog (Try.f7.params.toList ++ Rows.fnExactAfterOpeningSpec.plain.varTypes Try.prog) (ds ++ gs)).all (· ≤ reachBytes) = true := hsz0
  have hval : ∀ (j : Nat) t v, Try.f7.params[j]? = some t → args[j]? = some v → Value.okWide Try.prog W .any base t v := hval0
  have hW' := hW
  obtain ⟨p, q, hA0, hV, rfl, hfz, hnd⟩ := hW
  have hA : DataW.TrodAll enc Try.prog W 0 (fun _ => true) true Try.f7.params.toList args.toList ds p := hA0
  rw [Try.params7] at hA hval hsz
  obtain ⟨v0, vs0, d0, ds0, p0, q0, hargs, rfl, rfl, h0, r0⟩ := trodAll_cons hA
  obtain ⟨v1, vs1, d1, ds1, p1, q1, rfl, rfl, rfl, h1, r1⟩ := trodAll_cons r0
  obtain ⟨v2, vs2, d2, ds2, p2, q2, rfl, rfl, rfl, h2, r2⟩ := trodAll_cons r1
  obtain ⟨rfl, rfl, rfl⟩ := trodAll_nil r2
  obtain rfl : args = #[v0, v1, v2] := by cases args; simp_all
  obtain ⟨rfl, rfl⟩ := trodVars_none hV
  have hk0 := h0
  have hlt0 : ∀ x ∈ p0, x.block < W.heap.size := fun x hx => hW'.lt x (by simp [hx])
  obtain ⟨c0_0, c0_1, y0_0, y0_1, m0, rfl, rfl, rfl, g0_0, g0_1⟩ := Go.Joins.open_agg2 Try.underlying24 (by kernel_rfl) (by kernel_rfl) (hval 0 24 v0 rfl rfl) h0
  obtain ⟨A0_0, n0_0, l0_0, rfl, hc0_0, hr0_0, w0_0⟩ := Go.Proofs.Ytkbjoiebaphdoaa.Opens.opened_slice Try.underlying22 (by kernel_rfl) (Go.Proofs.Ytkbjoiebaphdoaa.Opens.opens_int Try.underlying2) g0_0
  obtain ⟨A0_1, n0_1, l0_1, rfl, hc0_1, hr0_1, w0_1⟩ := Go.Proofs.Ytkbjoiebaphdoaa.Opens.opened_slice Try.underlying22 (by kernel_rfl) (Go.Proofs.Ytkbjoiebaphdoaa.Opens.opens_int Try.underlying2) g0_1
  obtain ⟨a1, rfl, rfl, rfl⟩ := open_bool Try.underlying4 (hval 1 4 v1 rfl rfl) h1
  obtain ⟨a2, rfl, rfl, rfl, w2⟩ := open_int Try.underlying2 (hval 2 2 v2 rfl rfl) h2
  clear hA0 hval0 hsz0 hsz
  obtain ⟨k, hk⟩ := Pure.FnExactAfterOpening l0_0 l0_1 a1 a2 w0_0 w0_1 w2
  refine (PX.laws_FnExactAfterOpening.calls k _ _ l0_0 _ _ l0_1 a1 a2 true W hr0_0 hc0_0 hr0_1 hc0_1 hk).mono fun e W' ⟨he, bel0⟩ => ?_
  have bel : Below W.heap.size W W' := bel0
  subst he
  exact ⟨_, rfl, _, _, _, [], _, [], hW', trodAll_mk1 (shut_bool Try.underlying4 _), (trodAll_cons_mk (Below.trod laid (by kernel_rfl) (of_decide_eq_true (by kernel_rfl)) hk0 bel hlt0) (trodAll_cons_mk (shut_bool Try.underlying4 _) (trodAll_cons_mk (shut_int Try.underlying2 w2) trodAll_mk0))), rfl, bel.frame _, fun h => by cases h⟩
theorem over : Rows.fnExactAfterOpeningRow.holds Try.pinned (OpenSpec.ofChange Rows.fnExactAfterOpeningSpec) :=
  OpenClaim.holds_of_wide 7 Try.f7 rfl rfl rfl rfl rfl rfl rfl ⟨rfl, rfl, rfl, rfl, rfl⟩ rfl rfl rfl rfl rfl (by kernel_rfl) Try.func7 (by kernel_rfl)
    (of_decide_eq_true (by kernel_rfl)) (by unfold Func.isWrapper; first | (rw [if_pos (by decide +kernel)]; kernel_rfl) | (rw [if_neg (by decide +kernel)]; exact ⟨rfl, rfl⟩))
    (fun os started H enc _ => lifted os started H enc)
theorem proved : Rows.FnExactAfterOpeningSaid := over
#print axioms proved
end Go.Proofs.Ytkbjoiebaphdoaa.fnExactAfterOpening
namespace Go.Proofs.Ytkbjoiebaphdoaa
/-- The row, under a short name, for the claim. -/
theorem fnExactAfterOpening_holds : Rows.FnExactAfterOpeningSaid := fnExactAfterOpening.proved
end Go.Proofs.Ytkbjoiebaphdoaa
