/- The lives of a sprouts position: both sides (no condition but sizes that fit). -/
import Derived.Test.YtjihfaebfhbpfaaPXx0
import Derived.Test.YtjihfaebfhbpfaaPXx8
import Derived.Test.YtjihfaebfhbpfaaLDegB
namespace Go.Proofs.Ytjihfaebfhbpfaa.PX
open Go.RowKit Go.Proofs.YtjihfaebfhbpfaaW.PrintWords Go.Proofs.YtjihfaebfhbpfaaW.PrintLast Go.Proofs.YtjihfaebfhbpfaaW.PrintMore
attribute [local go_sem] max2_int min2_int max_two min_two max_three min_three max_four min_four
set_option linter.unusedVariables false
set_option linter.unusedSimpArgs false
theorem finB_len (al : List Bool) : ∀ (d i : Nat) (c c' : List Int), finB al d i c = some c' → c'.length = c.length
  | 0, i, c, c', h => by
    simp only [finB, Option.some.injEq] at h
    rw [h]
  | d + 1, i, c, c', h => by
    unfold finB at h
    split at h
    · cases h
    · split at h
      · have := finB_len al d (i + 1) _ c' h
        rw [this, List.length_set]
      · exact finB_len al d (i + 1) c c' h
theorem degOf_len {n : Int} {R : List (List (List Int))} {c : List Int} (h : degOf n R = some c) : c.length ≤ 20 := by
  unfold degOf at h
  split at h
  · rename_i hc
    obtain ⟨s, h1, h2⟩ := Option.bind_eq_some_iff.1 h
    have e1 := allB_len n _ _ s h1
    have e2 := finB_len s.2 _ _ _ c h2
    simp only [List.length_replicate] at e1
    omega
  · cases h
theorem pair_len (n : Int) (R : List (List (List Int))) : (pairOf (degOf n R)).1.length ≤ 20 := by
  cases h : degOf n R with
  | none => exact Nat.zero_le _
  | some c => exact degOf_len h
def livesL : List Int → Int → Int
  | [], a => a
  | x :: t, a => livesL t (wrap64 (wrap64 (a + 3) - x))
theorem lw (a x : Int) : wrap64 (a + wrap64 (3 - x)) = wrap64 (wrap64 (a + 3) - x) := by unfold wrap64; omega
theorem specLives_loop (c : List Int) (hc : c.length ≤ 20) : ∀ (d i : Nat) (a : Int), i + d = c.length → Ev (fun k => spec_l02Lives.l0 k c a (i : Int)) (livesL (c.drop i) a)
  | 0, i, a, hd => by
    rw [List.drop_of_length_le (by omega)]
    refine Ev.step (f := fun _ => some _) (fun k => ?_) (Ev.now _)
    rw [spec_l02Lives.l0, if_neg (by omega)]
    rfl
  | d + 1, i, a, hd => by
    obtain ⟨x, hx⟩ := get_some (xs := c) (i := i) (by omega)
    rw [drop_of hx]
    have ih := specLives_loop c hc d (i + 1) (wrap64 (wrap64 (a + 3) - x)) (by omega)
    refine Ev.step (fun k => ?_) ih
    rw [spec_l02Lives.l0, if_pos (by omega), if_pos (by omega), rd_nat, getD_of hx, wrapS (i := (i : Int) + 1) (by omega) (by omega), cast_succ]
theorem implLives_loop (code : Int) (c : List Int) (hc : c.length ≤ 20) : ∀ (d i : Nat) (a : Int), i + d = c.length → Ev (fun k => impl_LivesOf.l0 k code a c (c.length : Int) (i : Int)) (livesL (c.drop i) a, code)
  | 0, i, a, hd => by
    rw [List.drop_of_length_le (by omega)]
    refine Ev.step (f := fun _ => some _) (fun k => ?_) (Ev.now _)
    rw [impl_LivesOf.l0, if_neg (by omega)]
    rfl
  | d + 1, i, a, hd => by
    obtain ⟨x, hx⟩ := get_some (xs := c) (i := i) (by omega)
    rw [drop_of hx]
    have ih := implLives_loop code c hc d (i + 1) (wrap64 (wrap64 (a + 3) - x)) (by omega)
    refine Ev.step (fun k => ?_) ih
    rw [impl_LivesOf.l0, if_pos (by omega), if_pos (by omega), if_pos (by omega), rd_nat, getD_of hx, lw, wrapS (i := (i : Int) + 1) (by omega) (by omega), cast_succ]
def livesOf (n : Int) (R : List (List (List Int))) : Int × Int := match degOf n R with
  | none => (0, 1)
  | some c => (livesL c 0, 0)
theorem specLives_ev {n : Int} {R : List (List (List Int))} (hS : Ev (fun k => spec_l02Degrees.f k n R) (pairOf (degOf n R))) : Ev (fun k => spec_LivesOf.f k n R) (livesOf n R) := by
  unfold spec_LivesOf.f spec_l02Is.f spec_l02Lives.f livesOf
  refine Ev.bind (Ev.bind hS (Ev.now _)) ?_
  cases h : degOf n R with
  | none =>
    rw [h] at hS
    exact Ev.congr (f := fun _ => some (0, 1)) (fun k => rfl) (Ev.now _)
  | some c =>
    rw [h] at hS
    have hl := specLives_loop c (degOf_len h) c.length 0 0 (by omega)
    rw [List.drop_zero] at hl
    refine Ev.congr (fun k => by rw [if_pos (show (pairOf (some c)).2 = true from rfl)]) (Ev.bind (Ev.bind hS hl) (Ev.now _))
theorem implDegreesOf_ev {n : Int} {R : List (List (List Int))} (hI : Ev (fun k => impl_Sprouts_degrees.f k n R) (pairOf (degOf n R))) : Ev (fun k => impl_DegreesOf.f k n R) (match degOf n R with
  | none => ([], 1)
  | some c => (c, 0)) := by
  unfold impl_DegreesOf.f
  refine Ev.bind hI ?_
  cases h : degOf n R with
  | none => exact Ev.congr (f := fun _ => some ([], 1)) (fun k => rfl) (Ev.now _)
  | some c => exact Ev.congr (f := fun _ => some (c, 0)) (fun k => rfl) (Ev.now _)
theorem implLives_ev {n : Int} {R : List (List (List Int))} (hI : Ev (fun k => impl_Sprouts_degrees.f k n R) (pairOf (degOf n R))) : Ev (fun k => impl_LivesOf.f k n R) (livesOf n R) := by
  have hD := implDegreesOf_ev hI
  unfold impl_LivesOf.f livesOf
  refine Ev.bind hD ?_
  cases h : degOf n R with
  | none =>
    have hl := implLives_loop 1 [] (by simp) 0 0 0 rfl
    exact hl
  | some c =>
    have hl := implLives_loop 0 c (degOf_len h) c.length 0 0 (by omega)
    rw [List.drop_zero] at hl
    exact hl

end Go.Proofs.Ytjihfaebfhbpfaa.PX
