/- The program's areNumbers, a contract: at most 1000 numbers, none below 0; memory is left as it is. -/
import Derived.Test.YtlicbcaloebhlaaPXx0
import Derived.Test.YtlicbcaloebhlaaFunLib
namespace Go.Proofs.Ytlicbcaloebhlaa.PX
open Go.RowKit Go.Proofs.YtlicbcaloebhlaaW.PrintWords Go.Proofs.YtlicbcaloebhlaaW.PrintLast Go.Proofs.YtlicbcaloebhlaaW.PrintMore
attribute [local go_sem] max2_int min2_int max_two min_two max_three min_three max_four min_four
set_option linter.unusedVariables false
set_option linter.unusedSimpArgs false
def impl_areNumbers.f (_k : Nat) (l0 : List Int) : Option (Bool) := some (decide ((l0.length : Int) ≤ 1000) && !(l0.any fun x => decide (x < 0)))
theorem impl_areNumbers.mono : ∀ a0 k, LeO (impl_areNumbers.f k a0) (impl_areNumbers.f (k + 1) a0) := fun _ _ => LeO.refl _
set_option maxHeartbeats 8000000 in
set_option maxRecDepth 100000 in
theorem neg.calls (x : Int) (w : World) : Calls Try.prog 85 #[.int .i64 x] w fun e w' => e = .returned (.bool (decide (x < 0))) ∧ Drawn0 w w' := by
  go_enter Try.func85, Try.ntmps85
  go_wp2
  go_ret
  exact ⟨rfl, Drawn0.refl _⟩
theorem neg_has : HasFn 85 := ⟨_, Try.func85, by kernel_rfl, rfl⟩
theorem neg_tests (xs : List Int) (w : World) : Tests 85 #[] (fun x => decide (x < 0)) xs w := ⟨neg_has, fun x _ n => by rw [Array.append_empty]; exact neg.calls x _⟩
set_option maxHeartbeats 8000000 in
set_option maxRecDepth 100000 in
theorem impl_areNumbers.calls (k : Nat) (A0 : Option Addr) (c0 : Nat) (l0 : List Int) (r : Bool) (w : World) (hr0 : Kd.C (Kd.int .i64) w A0 l0.length l0) (hc0 : l0.length ≤ c0) (h : impl_areNumbers.f k l0 = some r) :
    Calls Try.prog 59 #[.slice A0 l0.length c0] w fun e w' => e = .returned (.bool r) ∧ Drawn0 w w' := by
  have HR0 := Aside0.mk hr0
  have HC0 := Aside0.mk hc0
  clear hr0 hc0
  have hmf : ∀ (fn : Fn) (first cap : Array Value) (w : World), (Instr.makeFunc fn first cap).run Try.prog w = .ok (.func fn first cap) w := fun _ _ _ _ => rfl
  by_cases c : (l0.length : Int) ≤ 1000
  · have e : (l0.any fun x => decide (x < 0)) = !r := by
      unfold impl_areNumbers.f at h
      rw [decide_eq_true c, Bool.true_and] at h
      have := Option.some.inj h
      rw [← this, Bool.not_not]
    have E := Aside0.mk e
    clear e h
    have cb : decide ((l0.length : Int) ≤ 1000) = true := decide_eq_true c
    clear c
    go_enter Try.func59, Try.ntmps59
    go_wp2_with (go_at_call 84; (with_reducible refine (ContainsFunc.calls 85 #[] (fun x => decide (x < 0)) _ _ l0 _ HR0.out HC0.out (neg_tests l0 _)).mono ?_); rw [E.out]; rintro e w' ⟨rfl, ⟨nd, rfl⟩⟩)
    go_ret
    exact ⟨by simp, by repeat (first | exact Drawn0.refl _ | apply Drawn0.step)⟩
  · have e : r = false := by
      unfold impl_areNumbers.f at h
      rw [decide_eq_false c, Bool.false_and] at h
      exact (Option.some.inj h).symm
    subst e
    clear h
    have cb : decide ((l0.length : Int) ≤ 1000) = false := decide_eq_false c
    clear c
    go_enter Try.func59, Try.ntmps59
    go_wp2
    go_ret
    exact ⟨rfl, by repeat (first | exact Drawn0.refl _ | apply Drawn0.step)⟩

end Go.Proofs.Ytlicbcaloebhlaa.PX
