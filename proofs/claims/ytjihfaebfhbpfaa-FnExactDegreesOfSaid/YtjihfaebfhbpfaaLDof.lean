/- The degrees told: both sides (no condition but sizes that fit). -/
import Derived.Test.YtjihfaebfhbpfaaPXx0
import Derived.Test.YtjihfaebfhbpfaaPXx6
import Derived.Test.YtjihfaebfhbpfaaPXx7
import Derived.Test.YtjihfaebfhbpfaaLDegB
import Derived.Test.YtjihfaebfhbpfaaGMark3
namespace Go.Proofs.Ytjihfaebfhbpfaa.PX
open Go.RowKit Go.Proofs.YtjihfaebfhbpfaaW.PrintWords Go.Proofs.YtjihfaebfhbpfaaW.PrintLast Go.Proofs.YtjihfaebfhbpfaaW.PrintMore
attribute [local go_sem] max2_int min2_int max_two min_two max_three min_three max_four min_four
set_option linter.unusedVariables false
set_option linter.unusedSimpArgs false
theorem finB_len (al : List Bool) : ∀ (d i : Nat) (c c' : List Int), finB al d i c = some c' → c'.length = c.length
  | 0, i, c, c', h => by
    simp only [finB, Option.some.injEq] at h
    rw [h]
  | d + 1, i, c, c', h => by
    unfold finB at h
    split at h
    · cases h
    · split at h
      · have := finB_len al d (i + 1) _ c' h
        rw [this, List.length_set]
      · exact finB_len al d (i + 1) c c' h
theorem degOf_len {n : Int} {R : List (List (List Int))} {c : List Int} (h : degOf n R = some c) : c.length ≤ 20 := by
  unfold degOf at h
  split at h
  · rename_i hc
    obtain ⟨s, h1, h2⟩ := Option.bind_eq_some_iff.1 h
    have e1 := allB_len n _ _ s h1
    have e2 := finB_len s.2 _ _ _ c h2
    simp only [List.length_replicate] at e1
    omega
  · cases h
def degVal (n : Int) (R : List (List (List Int))) : List Int × Int := match degOf n R with
  | none => ([], 1)
  | some c => (c, 0)
theorem degVal_len (n : Int) (R : List (List (List Int))) : (degVal n R).1.length ≤ 20 := by
  unfold degVal
  cases h : degOf n R with
  | none => exact Nat.zero_le _
  | some c => exact degOf_len h
theorem implDegreesOf_ev {n : Int} {R : List (List (List Int))} (hI : Ev (fun k => impl_Sprouts_degrees.f k n R) (pairOf (degOf n R))) : Ev (fun k => impl_DegreesOf.f k n R) (degVal n R) := by
  unfold impl_DegreesOf.f degVal
  refine Ev.bind hI ?_
  cases h : degOf n R with
  | none => exact Ev.congr (f := fun _ => some ([], 1)) (fun k => rfl) (Ev.now _)
  | some c => exact Ev.congr (f := fun _ => some (c, 0)) (fun k => rfl) (Ev.now _)
theorem specDegreesOf_ev {n : Int} {R : List (List (List Int))} (hS : Ev (fun k => spec_l02Degrees.f k n R) (pairOf (degOf n R))) : Ev (fun k => spec_DegreesOf.f k n R) (degVal n R) := by
  unfold spec_DegreesOf.f degVal
  refine Ev.bind hS ?_
  cases h : degOf n R with
  | none => exact Ev.congr (f := fun _ => some ([], 1)) (fun k => rfl) (Ev.now _)
  | some c => exact Ev.congr (f := fun _ => some (c, 0)) (fun k => rfl) (Ev.now _)
theorem total3_le : ∀ R : List (List (List Int)), (∀ g ∈ R, total g ≤ 1048576) → total3 R ≤ (R.length : Int) * 1048576
  | [], _ => by simp [total3]
  | g :: t, h => by
    have ih := total3_le t (fun g hg => h g (List.mem_cons_of_mem _ hg))
    have := h g (List.mem_cons_self ..)
    simp only [total3, List.length_cons]
    omega

end Go.Proofs.Ytjihfaebfhbpfaa.PX
