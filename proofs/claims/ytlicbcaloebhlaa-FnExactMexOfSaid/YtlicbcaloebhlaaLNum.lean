/- areNumbers, nim sums and the mex, of the program and of the reference: each comes to one plain value (no condition but sizes that fit). -/
import Derived.Test.YtlicbcaloebhlaaPXx0
import Derived.Test.YtlicbcaloebhlaaPXx7
import Derived.Test.YtlicbcaloebhlaaGareNumbers
import Derived.Test.YtlicbcaloebhlaaLBase
namespace Go.Proofs.Ytlicbcaloebhlaa.PX
open Go.RowKit Go.Proofs.YtlicbcaloebhlaaW.PrintWords Go.Proofs.YtlicbcaloebhlaaW.PrintLast Go.Proofs.YtlicbcaloebhlaaW.PrintMore
attribute [local go_sem] max2_int min2_int max_two min_two max_three min_three max_four min_four
set_option linter.unusedVariables false
set_option linter.unusedSimpArgs false
def areNum (xs : List Int) : Bool := decide ((xs.length : Int) ≤ 1000) && !(xs.any fun x => decide (x < 0))
theorem areNum_le {xs : List Int} (h : areNum xs = true) : xs.length ≤ 1000 := by
  simp only [areNum, Bool.and_eq_true, decide_eq_true_eq] at h
  omega
theorem areNum_pos {xs : List Int} (h : areNum xs = true) : ∀ x ∈ xs, 0 ≤ x := by
  simp only [areNum, Bool.and_eq_true, Bool.not_eq_true', List.any_eq_false, decide_eq_true_eq] at h
  intro x hx
  have := h.2 x hx
  omega
theorem num_loop (xs : List Int) (hn : xs.length < 4611686018427387904) (d : Nat) : ∀ i : Nat, i + d = xs.length → Ev (fun k => spec_l01Numbers.l0 k xs (i : Int)) (decide ((xs.length : Int) ≤ 1000) && !((xs.drop i).any fun x => decide (x < 0))) := by
  induction d with
  | zero =>
    intro i hd
    rw [List.drop_eq_nil_of_le (by omega)]
    refine Ev.step (f := fun _ => some (decide ((xs.length : Int) ≤ 1000))) (fun k => ?_) (by simp only [List.any_nil, Bool.not_false, Bool.and_true]; exact Ev.now _)
    simp only [spec_l01Numbers.l0]; rw [if_neg (by omega)]
  | succ d ih =>
    intro i hd
    obtain ⟨x, hx⟩ := get_some (xs := xs) (i := i) (by omega)
    have hrx : rd xs (i : Int) = x := by rw [rd_nat]; exact getD_of hx
    rw [drop_of hx, List.any_cons]
    by_cases c : x < 0
    · rw [decide_eq_true c, Bool.true_or, Bool.not_true, Bool.and_false]
      refine Ev.step (f := fun _ => some false) (fun k => ?_) (Ev.now false)
      simp only [spec_l01Numbers.l0]; rw [if_pos (by omega), if_pos (by omega), hrx, if_pos c]
    · rw [decide_eq_false c, Bool.false_or]
      refine Ev.step (fun k => ?_) (ih (i + 1) (by omega))
      simp only [spec_l01Numbers.l0]; rw [if_pos (by omega), if_pos (by omega), hrx, if_neg c, wrapS (by omega) (by omega), cast_succ]
theorem num_ev (xs : List Int) (hn : xs.length < 4611686018427387904) : Ev (fun k => spec_l01Numbers.f k xs) (areNum xs) := num_loop xs hn xs.length 0 (by omega)
theorem are_ev (xs : List Int) : Ev (fun k => impl_areNumbers.f k xs) (areNum xs) := Ev.now _
/-- The nim sum. -/
def nimFrom (a : Int) : List Int → Int
  | [] => a
  | x :: r => nimFrom (Go.bits .xor .i64 a x) r

end Go.Proofs.Ytlicbcaloebhlaa.PX
