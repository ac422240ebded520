/- Nim sums, of the program and of the reference. -/
import Derived.Test.YtlicbcaloebhlaaPXx0
import Derived.Test.YtlicbcaloebhlaaPXx7
import Derived.Test.YtlicbcaloebhlaaPXx8
import Derived.Test.YtlicbcaloebhlaaLNum
namespace Go.Proofs.Ytlicbcaloebhlaa.PX
open Go.RowKit Go.Proofs.YtlicbcaloebhlaaW.PrintWords Go.Proofs.YtlicbcaloebhlaaW.PrintLast Go.Proofs.YtlicbcaloebhlaaW.PrintMore
attribute [local go_sem] max2_int min2_int max_two min_two max_three min_three max_four min_four
set_option linter.unusedVariables false
set_option linter.unusedSimpArgs false
theorem nims_loop (xs : List Int) (hn : xs.length < 4611686018427387904) (d : Nat) : ∀ (i : Nat) (a : Int), i + d = xs.length → Ev (fun k => spec_NimSumOf.l0 k xs a (i : Int)) (nimFrom a (xs.drop i), 0) := by
  induction d with
  | zero =>
    intro i a hd
    rw [List.drop_eq_nil_of_le (by omega)]
    refine Ev.step (f := fun _ => some (a, 0)) (fun k => ?_) (Ev.now _)
    simp only [spec_NimSumOf.l0]; rw [if_neg (by omega)]
  | succ d ih =>
    intro i a hd
    obtain ⟨x, hx⟩ := get_some (xs := xs) (i := i) (by omega)
    have hrx : rd xs (i : Int) = x := by rw [rd_nat]; exact getD_of hx
    rw [drop_of hx]
    refine Ev.step (fun k => ?_) (ih (i + 1) (Go.bits .xor .i64 a x) (by omega))
    simp only [spec_NimSumOf.l0]; rw [if_pos (by omega), if_pos (by omega), hrx, wrapS (by omega) (by omega), cast_succ]
theorem nimi_loop (xs : List Int) (hn : xs.length < 4611686018427387904) (d : Nat) : ∀ (i : Nat) (a : Int), i + d = xs.length → Ev (fun k => impl_NimSumOf.l0 k a xs (xs.length : Int) (i : Int)) (nimFrom a (xs.drop i), 0) := by
  induction d with
  | zero =>
    intro i a hd
    rw [List.drop_eq_nil_of_le (by omega)]
    refine Ev.step (f := fun _ => some (a, 0)) (fun k => ?_) (Ev.now _)
    simp only [impl_NimSumOf.l0]; rw [if_neg (by omega)]
  | succ d ih =>
    intro i a hd
    obtain ⟨x, hx⟩ := get_some (xs := xs) (i := i) (by omega)
    have hrx : rd xs (i : Int) = x := by rw [rd_nat]; exact getD_of hx
    rw [drop_of hx]
    refine Ev.step (fun k => ?_) (ih (i + 1) (Go.bits .xor .i64 a x) (by omega))
    simp only [impl_NimSumOf.l0]; rw [if_pos (by omega), if_pos (by omega), if_pos (by omega), hrx, wrapS (by omega) (by omega), cast_succ]
def nimOf (xs : List Int) : Int × Int := if areNum xs = true then (nimFrom 0 xs, 0) else (0, 2)
theorem nims_ev (xs : List Int) (hn : xs.length < 4611686018427387904) : Ev (fun k => spec_NimSumOf.f k xs) (nimOf xs) := by
  refine Ev.congr (f := fun k => (spec_l01Numbers.f k xs).bind fun t => (if t = true then (spec_NimSumOf.l0 k xs 0 0) else (some (0, 2)))) (fun k => rfl) (Ev.bind (num_ev xs hn) ?_)
  unfold nimOf
  by_cases c : areNum xs = true
  · rw [if_pos c]
    exact Ev.congr (fun k => by rw [if_pos c]; rfl) (nims_loop xs hn xs.length 0 0 (by omega))
  · rw [if_neg c]
    exact Ev.congr (f := fun _ => some (0, 2)) (fun k => by rw [if_neg c]) (Ev.now _)
theorem nimi_ev (xs : List Int) (hn : xs.length < 4611686018427387904) : Ev (fun k => impl_NimSumOf.f k xs) (nimOf xs) := by
  refine Ev.congr (f := fun k => (impl_areNumbers.f k xs).bind fun t => (if t = true then (impl_NimSumOf.l0 k 0 xs (xs.length : Int) 0) else (some (0, 2)))) (fun k => rfl) (Ev.bind (are_ev xs) ?_)
  unfold nimOf
  by_cases c : areNum xs = true
  · rw [if_pos c]
    exact Ev.congr (fun k => by rw [if_pos c]; rfl) (nimi_loop xs hn xs.length 0 0 (by omega))
  · rw [if_neg c]
    exact Ev.congr (f := fun _ => some (0, 2)) (fun k => by rw [if_neg c]) (Ev.now _)

end Go.Proofs.Ytlicbcaloebhlaa.PX
