/- The degrees of a sprouts position: both sides, whole (no condition but sizes that fit). -/
import Derived.Test.YtjihfaebfhbpfaaPXx0
import Derived.Test.YtjihfaebfhbpfaaLDeg
namespace Go.Proofs.Ytjihfaebfhbpfaa.PX
open Go.RowKit Go.Proofs.YtjihfaebfhbpfaaW.PrintWords Go.Proofs.YtjihfaebfhbpfaaW.PrintLast Go.Proofs.YtjihfaebfhbpfaaW.PrintMore
attribute [local go_sem] max2_int min2_int max_two min_two max_three min_three max_four min_four
set_option linter.unusedVariables false
set_option linter.unusedSimpArgs false
theorem con_app (R : List (List (List Int))) (hL : R.length < 4611686018427387904) : ∀ (d i : Nat) (acc : List (List Int)), i + d = R.length → acc.length + (R.drop i).flatten.length ≤ 1000000000 → Ev (fun k => slices_Concat_int64_int64.l1 k acc R (R.length : Int) (i : Int)) (acc ++ (R.drop i).flatten)
  | 0, i, acc, hd, ha => by
    rw [List.drop_of_length_le (by omega), List.flatten_nil, List.append_nil]
    refine Ev.step (f := fun _ => some acc) (fun k => ?_) (Ev.now _)
    rw [slices_Concat_int64_int64.l1, if_neg (by omega)]
  | d + 1, i, acc, hd, ha => by
    obtain ⟨g, hg⟩ := get_some (xs := R) (i := i) (by omega)
    rw [drop_of hg, List.flatten_cons] at ha ⊢
    rw [List.length_append] at ha
    have ih := con_app R hL d (i + 1) (acc ++ g) (by omega) (by rw [List.length_append]; omega)
    rw [List.append_assoc] at ih
    refine Ev.step (fun k => ?_) ih
    rw [slices_Concat_int64_int64.l1, if_pos (by omega), if_pos (by omega), if_pos (by omega), rdL2_nat, getD_of hg, if_pos (by omega), wrapS (i := (i : Int) + 1) (by omega) (by omega), cast_succ]
theorem con_sum (R : List (List (List Int))) (hL : R.length < 4611686018427387904) (hT : R.flatten.length ≤ 1000000000) : ∀ (d i : Nat) (x : Int), i + d = R.length → 0 ≤ x → x + ((R.drop i).flatten.length : Int) ≤ 1000000000 → Ev (fun k => slices_Concat_int64_int64.l0 k R x R (R.length : Int) (i : Int)) R.flatten
  | 0, i, x, hd, h0, h1 => by
    have h := con_app R hL R.length 0 [] (by omega) (by rw [List.drop_zero, List.length_nil]; omega)
    rw [List.drop_zero, List.nil_append] at h
    refine Ev.step (fun k => ?_) h
    rw [slices_Concat_int64_int64.l0, if_neg (by omega), if_pos h0, if_pos (by omega)]
    rfl
  | d + 1, i, x, hd, h0, h1 => by
    obtain ⟨g, hg⟩ := get_some (xs := R) (i := i) (by omega)
    rw [drop_of hg, List.flatten_cons, List.length_append] at h1
    have ih := con_sum R hL hT d (i + 1) (x + (g.length : Int)) (by omega) (by omega) (by omega)
    refine Ev.step (fun k => ?_) ih
    rw [slices_Concat_int64_int64.l0, if_pos (by omega), if_pos (by omega), if_pos (by omega), rdL2_nat, getD_of hg, wrapS (i := x + (g.length : Int)) (by omega) (by omega), if_neg (by omega), wrapS (i := (i : Int) + 1) (by omega) (by omega), cast_succ]
theorem concat_ev (R : List (List (List Int))) (hL : R.length < 4611686018427387904) (hT : R.flatten.length ≤ 1000000000) : Ev (fun k => slices_Concat_int64_int64.f k R) R.flatten :=
  con_sum R hL hT R.length 0 0 (by omega) (by omega) (by rw [List.drop_zero]; omega)
def degOf (n : Int) (R : List (List (List Int))) : Option (List Int) := if (1 ≤ n ∧ n ≤ 20) ∧ R ≠ [] then (allB n R.flatten (List.replicate n.toNat 0, List.replicate n.toNat false)).bind (fun s => finB s.2 n.toNat 0 s.1) else none
theorem specDeg_ev (n : Int) (R : List (List (List Int))) (hR : ∀ g ∈ R, g.length < 4611686018427387904 ∧ ∀ b ∈ g, b.length < 4611686018427387904) (hL : R.length < 4611686018427387904) : Ev (fun k => spec_l02Degrees.f k n R) (pairOf (degOf n R)) := by
  have bad : ∀ b, b = true → Ev (fun k => spec_l02Degrees.j0 k b n R) ([], false) := fun b hb => by
    subst hb
    exact Ev.step (f := fun _ => some ([], false)) (fun k => by rw [spec_l02Degrees.j0, if_pos rfl]) (Ev.now _)
  unfold spec_l02Degrees.f degOf
  rw [in_eq]
  by_cases c : 1 ≤ n ∧ n ≤ 20
  · have cb : (decide ((1 : Int) ≤ n) && decide (n ≤ 20)) = true := by rw [decide_eq_true c.1, decide_eq_true c.2]; rfl
    refine Ev.congr (fun k => by rw [Option.bind_some, if_pos cb]) ?_
    by_cases e : R = []
    · rw [if_neg (fun h => h.2 e)]
      exact bad _ (by rw [e]; rfl)
    · rw [if_pos ⟨c, e⟩, decide_eq_false (show ¬ (R.length : Int) < 1 by have := List.length_pos_iff.2 e; omega)]
      have h := spec_regs c hR hL (pairOf ((allB n R.flatten (List.replicate n.toNat 0, List.replicate n.toNat false)).bind (fun s => finB s.2 n.toNat 0 s.1))) R.length 0 (List.replicate n.toNat 0, List.replicate n.toNat false) (by omega) (by simp) (by simp) (fun s' hs' => by
        rw [List.drop_zero] at hs'
        have hl := allB_len n _ _ s' hs'
        simp only [List.length_replicate] at hl
        rw [hs', Option.bind_some]
        have := spec_fin s'.2 s'.1.length 0 s'.1 (by omega) (by omega) (by omega)
        rw [hl.1] at this
        exact this) (fun hs' => by rw [List.drop_zero] at hs'; rw [hs']; rfl)
      refine Ev.step (fun k => ?_) h
      rw [spec_l02Degrees.j0, if_neg (by decide), if_pos (by omega), if_pos (by omega), if_pos (by omega)]
      rfl
  · rw [if_neg (fun h => c h.1)]
    have cb : ¬ (decide ((1 : Int) ≤ n) && decide (n ≤ 20)) = true := by simp only [Bool.and_eq_true, decide_eq_true_eq]; exact c
    exact Ev.congr (fun k => by rw [Option.bind_some, if_neg cb]) (bad true rfl)
theorem implDeg_ev (n : Int) (R : List (List (List Int))) (hR : ∀ g ∈ R, ∀ b ∈ g, b.length < 4611686018427387904) (hL : R.length < 4611686018427387904) (hT : R.flatten.length ≤ 1000000000) : Ev (fun k => impl_Sprouts_degrees.f k n R) (pairOf (degOf n R)) := by
  have bad : ∀ b, b = true → Ev (fun k => impl_Sprouts_degrees.j0 k b n R) ([], false) := fun b hb => by
    subst hb
    exact Ev.step (f := fun _ => some ([], false)) (fun k => by rw [impl_Sprouts_degrees.j0, if_pos rfl]) (Ev.now _)
  unfold impl_Sprouts_degrees.f degOf
  rw [within_eq]
  by_cases c : 1 ≤ n ∧ n ≤ 20
  · have cb : (decide ((1 : Int) ≤ n) && decide (n ≤ 20)) = true := by rw [decide_eq_true c.1, decide_eq_true c.2]; rfl
    refine Ev.congr (fun k => by rw [Option.bind_some, if_pos cb]) ?_
    by_cases e : R = []
    · rw [if_neg (fun h => h.2 e)]
      exact bad _ (by rw [e]; rfl)
    · have e2 : ((R.length : Int) == 0) = false := beq_eq_false_iff_ne.2 (by have := List.length_pos_iff.2 e; omega)
      rw [if_pos ⟨c, e⟩, e2]
      have h := impl_regs (R := R) c R.flatten (fun b hb => by obtain ⟨g, hg, hbg⟩ := List.mem_flatten.1 hb; exact hR g hg b hbg) (by omega) (pairOf ((allB n R.flatten (List.replicate n.toNat 0, List.replicate n.toNat false)).bind (fun s => finB s.2 n.toNat 0 s.1))) R.flatten.length 0 (List.replicate n.toNat 0, List.replicate n.toNat false) (by omega) (by simp) (by simp) (fun s' hs' => by
        rw [List.drop_zero] at hs'
        have hl := allB_len n _ _ s' hs'
        simp only [List.length_replicate] at hl
        rw [hs', Option.bind_some]
        have := impl_fin s'.2 s'.1.length 0 s'.1 (by omega) (by omega) (by omega)
        rw [← hl.1]
        exact this) (fun hs' => by rw [List.drop_zero] at hs'; rw [hs']; rfl)
      refine Ev.step (f := fun k => (slices_Concat_int64_int64.f k R).bind fun t181 => (impl_Sprouts_degrees.l0 k (List.replicate n.toNat 0) (List.replicate n.toNat false) t181 (t181.length : Int) 0 n R)) (fun k => ?_) (Ev.bind (concat_ev R hL hT) h)
      rw [impl_Sprouts_degrees.j0, if_neg (by decide), if_pos (by omega), if_pos (by omega), if_pos (by omega)]
  · rw [if_neg (fun h => c h.1)]
    have cb : ¬ (decide ((1 : Int) ≤ n) && decide (n ≤ 20)) = true := by simp only [Bool.and_eq_true, decide_eq_true_eq]; exact c
    exact Ev.congr (fun k => by rw [Option.bind_some, if_neg cb]) (bad true rfl)

end Go.Proofs.Ytjihfaebfhbpfaa.PX
