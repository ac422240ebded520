/- The row of FnExactSproutMoves, out of its plain law (no condition). -/
import Derived.Deep.Slices
import Derived.Lib.SmallJoins
import Derived.Test.YtjihfaebfhbpfaaRows
import Derived.WalkKit
import Derived.ProofKit
import Derived.OpenShut
import Derived.ShutString
import Derived.ChangeOld
import Derived.Below
import Derived.Carry
import Derived.SizedLaws
import Derived.Test.YtjihfaebfhbpfaaPk6FnExactSproutMoves
/- The degrees of a sprouts position, as the reference and the program reckon them (no condition but sizes that fit). -/
namespace Go.Proofs.Ytjihfaebfhbpfaa.PX
open Go.RowKit Go.Proofs.YtjihfaebfhbpfaaW.PrintWords Go.Proofs.YtjihfaebfhbpfaaW.PrintLast Go.Proofs.YtjihfaebfhbpfaaW.PrintMore
attribute [local go_sem] max2_int min2_int max_two min_two max_three min_three max_four min_four
set_option linter.unusedVariables false
set_option linter.unusedSimpArgs false
def stepB (n : Int) (b : List Int) : List Int → List Int × List Bool → Option (List Int × List Bool)
  | [], s => some s
  | x :: t, s => if 0 ≤ x ∧ x ≤ n - 1 then stepB n b t (s.1.set x.toNat (wrap64 (s.1.getD x.toNat 0 + 1)), s.2.set x.toNat (if s.2.getD x.toNat false = true then true else (b.length : Int) == 1)) else none
def allB (n : Int) : List (List Int) → List Int × List Bool → Option (List Int × List Bool)
  | [], s => some s
  | b :: t, s => if b = [] then none else (stepB n b b s).bind (allB n t)
def finB (al : List Bool) : Nat → Nat → List Int → Option (List Int)
  | 0, _, c => some c
  | d + 1, i, c => if c.getD i 0 < 1 ∨ c.getD i 0 > 3 ∨ (al.getD i false = true ∧ c.getD i 0 > 1) then none else if al.getD i false = true then finB al d (i + 1) (c.set i 0) else finB al d (i + 1) c
def pairOf : Option (List Int) → List Int × Bool
  | none => ([], false)
  | some c => (c, true)
theorem stepB_len (n : Int) (b : List Int) : ∀ (l : List Int) (s s' : List Int × List Bool), stepB n b l s = some s' → s'.1.length = s.1.length ∧ s'.2.length = s.2.length
  | [], s, s', h => by
    simp only [stepB, Option.some.injEq] at h
    subst h
    exact ⟨rfl, rfl⟩
  | x :: t, s, s', h => by
    unfold stepB at h
    by_cases c : 0 ≤ x ∧ x ≤ n - 1
    · rw [if_pos c] at h
      have := stepB_len n b t _ s' h
      simpa using this
    · rw [if_neg c] at h
      cases h
theorem in_eq (a b c : Int) : spec_l01In.f a b c = some (decide (b ≤ a) && decide (a ≤ c)) := by
  unfold spec_l01In.f
  by_cases h : b ≤ a
  · rw [if_pos (show a ≥ b from h), decide_eq_true h, Bool.true_and]
  · rw [if_neg (show ¬ a ≥ b from h), decide_eq_false h, Bool.false_and]
theorem within_eq (a b c : Int) : impl_within.f a b c = some (decide (b ≤ a) && decide (a ≤ c)) := by
  unfold impl_within.f
  by_cases h : b ≤ a
  · rw [if_pos h, decide_eq_true h, Bool.true_and]
  · rw [if_neg h, decide_eq_false h, Bool.false_and]
theorem rdOf_b (xs : List Bool) (i : Nat) : rdOf false xs (i : Int) = xs.getD i false := by unfold rdOf; rfl
theorem rdL2_nat (xs : List (List (List Int))) (i : Nat) : rd_L2 xs (i : Int) = xs.getD i [] := by unfold rd_L2; rfl
section
variable {n : Int} {R : List (List (List Int))}
set_option maxHeartbeats 4000000 in
theorem spec_in (hn : 1 ≤ n ∧ n ≤ 20) (b : List Int) (hb : b.length < 4611686018427387904) (x6 x7 : Int) (res : List Int × Bool) : ∀ (d i : Nat) (s : List Int × List Bool), i + d = b.length → s.1.length = n.toNat → s.2.length = n.toNat →
    (∀ s', stepB n b (b.drop i) s = some s' → Ev (fun k => spec_l02Degrees.l1 k s'.1 s'.2 x6 (wrap64 (x7 + 1)) n R) res) → (stepB n b (b.drop i) s = none → res = ([], false)) →
    Ev (fun k => spec_l02Degrees.l2 k s.1 s.2 x6 x7 b (i : Int) n R) res
  | 0, i, s, hd, h1, h2, hk, hf => by
    rw [List.drop_of_length_le (by omega)] at hk
    refine Ev.step (fun k => ?_) (hk s rfl)
    rw [spec_l02Degrees.l2, if_neg (by omega)]
  | d + 1, i, s, hd, h1, h2, hk, hf => by
    obtain ⟨x, hx⟩ := get_some (xs := b) (i := i) (by omega)
    have er : rd b (i : Int) = x := by rw [rd_nat, getD_of hx]
    have a1 : (i : Int) < (b.length : Int) := by omega
    have a0 : (0 : Int) ≤ (i : Int) := Int.natCast_nonneg i
    have hw : wrap64 (n - 1) = n - 1 := wrapS (by omega) (by omega)
    have hw2 : wrap64 ((i : Int) + 1) = ((i + 1 : Nat) : Int) := by rw [wrapS (by omega) (by omega), cast_succ]
    rw [drop_of hx] at hk hf
    unfold stepB at hk hf
    by_cases c : 0 ≤ x ∧ x ≤ n - 1
    · rw [if_pos c] at hk hf
      obtain ⟨m, rfl⟩ : ∃ m : Nat, x = (m : Int) := ⟨x.toNat, by omega⟩
      have hcb : (decide ((0 : Int) ≤ (m : Int)) && decide ((m : Int) ≤ n - 1)) = true := by rw [decide_eq_true c.1, decide_eq_true c.2]; rfl
      rw [Int.toNat_natCast] at hk hf
      have ih := spec_in hn b hb x6 x7 res d (i + 1) (s.1.set m (wrap64 (s.1.getD m 0 + 1)), s.2.set m (if s.2.getD m false = true then true else (b.length : Int) == 1)) (by omega) (by simp [h1]) (by simp [h2]) hk hf
      refine Ev.step (fun k => ?_) ih
      rw [spec_l02Degrees.l2, if_pos (by omega), if_pos (by omega), er, in_eq, hw, Option.bind_some, if_pos hcb, if_pos (by omega), if_pos (by omega), Option.bind_some, if_pos (by omega), rdOf_b, rd_nat, Int.toNat_natCast, hw2]
      by_cases e : s.2.getD m false = true
      · rw [if_pos e, if_pos e]
      · rw [if_neg e, if_neg e]
    · rw [if_neg c] at hf
      rw [hf rfl]
      have hcb : ¬ (decide ((0 : Int) ≤ x) && decide (x ≤ n - 1)) = true := by
        simp only [Bool.and_eq_true, decide_eq_true_eq]; exact c
      refine Ev.step (f := fun _ => some ([], false)) (fun k => ?_) (Ev.now _)
      rw [spec_l02Degrees.l2, if_pos a1, if_pos a0, er, in_eq, hw, Option.bind_some, if_neg hcb]
set_option maxHeartbeats 4000000 in
theorem impl_in (hn : 1 ≤ n ∧ n ≤ 20) (b : List Int) (hb : b.length < 4611686018427387904) (C : List (List Int)) (x31 x32 : Int) (res : List Int × Bool) : ∀ (d i : Nat) (s : List Int × List Bool), i + d = b.length → s.1.length = n.toNat → s.2.length = n.toNat →
    (∀ s', stepB n b (b.drop i) s = some s' → Ev (fun k => if (b.length : Int) = 0 then some ([], false) else impl_Sprouts_degrees.l0 k s'.1 s'.2 C x31 (wrap64 (x32 + 1)) n R) res) → (stepB n b (b.drop i) s = none → res = ([], false)) →
    Ev (fun k => impl_Sprouts_degrees.l1 k s.1 s.2 b C x31 x32 b (b.length : Int) (i : Int) n R) res
  | 0, i, s, hd, h1, h2, hk, hf => by
    rw [List.drop_of_length_le (by omega)] at hk
    refine Ev.step (fun k => ?_) (hk s rfl)
    rw [impl_Sprouts_degrees.l1, if_neg (by omega)]
  | d + 1, i, s, hd, h1, h2, hk, hf => by
    obtain ⟨x, hx⟩ := get_some (xs := b) (i := i) (by omega)
    have er : rd b (i : Int) = x := by rw [rd_nat, getD_of hx]
    have a1 : (i : Int) < (b.length : Int) := by omega
    have a0 : (0 : Int) ≤ (i : Int) := Int.natCast_nonneg i
    have hw : wrap64 (n - 1) = n - 1 := wrapS (by omega) (by omega)
    have hw2 : wrap64 ((i : Int) + 1) = ((i + 1 : Nat) : Int) := by rw [wrapS (by omega) (by omega), cast_succ]
    rw [drop_of hx] at hk hf
    unfold stepB at hk hf
    by_cases c : 0 ≤ x ∧ x ≤ n - 1
    · rw [if_pos c] at hk hf
      obtain ⟨m, rfl⟩ : ∃ m : Nat, x = (m : Int) := ⟨x.toNat, by omega⟩
      have hcb : (decide ((0 : Int) ≤ (m : Int)) && decide ((m : Int) ≤ n - 1)) = true := by rw [decide_eq_true c.1, decide_eq_true c.2]; rfl
      rw [Int.toNat_natCast] at hk hf
      have ih := impl_in hn b hb C x31 x32 res d (i + 1) (s.1.set m (wrap64 (s.1.getD m 0 + 1)), s.2.set m (if s.2.getD m false = true then true else (b.length : Int) == 1)) (by omega) (by simp [h1]) (by simp [h2]) hk hf
      refine Ev.step (fun k => ?_) ih
      rw [impl_Sprouts_degrees.l1, if_pos (by omega), if_pos (by omega), if_pos (by omega), er, within_eq, hw, Option.bind_some, if_pos hcb, if_pos (by omega), if_pos (by omega), Option.bind_some, if_pos (by omega), rdOf_b, rd_nat, Int.toNat_natCast, hw2]
      by_cases e : s.2.getD m false = true
      · rw [if_pos e, if_pos e]
      · rw [if_neg e, if_neg e]
    · rw [if_neg c] at hf
      rw [hf rfl]
      have hcb : ¬ (decide ((0 : Int) ≤ x) && decide (x ≤ n - 1)) = true := by
        simp only [Bool.and_eq_true, decide_eq_true_eq]; exact c
      refine Ev.step (f := fun _ => some ([], false)) (fun k => ?_) (Ev.now _)
      rw [impl_Sprouts_degrees.l1, if_pos a1, if_pos a0, if_pos a1, er, within_eq, hw, Option.bind_some, if_neg hcb]
theorem allB_app (n : Int) : ∀ (a b : List (List Int)) (s : List Int × List Bool), allB n (a ++ b) s = (allB n a s).bind (allB n b)
  | [], b, s => rfl
  | x :: a, b, s => by
    rw [List.cons_append]
    unfold allB
    by_cases c : x = []
    · rw [if_pos c, if_pos c]; rfl
    · rw [if_neg c, if_neg c]
      cases stepB n x x s with
      | none => rfl
      | some s' => exact allB_app n a b s'
theorem allB_len (n : Int) : ∀ (l : List (List Int)) (s s' : List Int × List Bool), allB n l s = some s' → s'.1.length = s.1.length ∧ s'.2.length = s.2.length
  | [], s, s', h => by
    simp only [allB, Option.some.injEq] at h
    subst h
    exact ⟨rfl, rfl⟩
  | b :: l, s, s', h => by
    unfold allB at h
    by_cases c : b = []
    · rw [if_pos c] at h; cases h
    · rw [if_neg c] at h
      obtain ⟨s1, h1, h2⟩ := Option.bind_eq_some_iff.1 h
      have e1 := stepB_len n b b s s1 h1
      have e2 := allB_len n l s1 s' h2
      exact ⟨e2.1.trans e1.1, e2.2.trans e1.2⟩
set_option maxHeartbeats 4000000 in
theorem spec_reg (hn : 1 ≤ n ∧ n ≤ 20) (hR : ∀ g ∈ R, g.length < 4611686018427387904 ∧ ∀ b ∈ g, b.length < 4611686018427387904) (hL : R.length < 4611686018427387904) (r : Nat) (g : List (List Int)) (hg : R[r]? = some g) (res : List Int × Bool) : ∀ (d j : Nat) (s : List Int × List Bool), j + d = g.length → s.1.length = n.toNat → s.2.length = n.toNat →
    (∀ s', allB n (g.drop j) s = some s' → Ev (fun k => spec_l02Degrees.l0 k s'.1 s'.2 ((r + 1 : Nat) : Int) n R) res) → (allB n (g.drop j) s = none → res = ([], false)) →
    Ev (fun k => spec_l02Degrees.l1 k s.1 s.2 (r : Int) (j : Int) n R) res
  | 0, j, s, hd, h1, h2, hk, hf => by
    have hr : r < R.length := (List.getElem?_eq_some_iff.1 hg).1
    rw [List.drop_of_length_le (by omega)] at hk
    refine Ev.step (fun k => ?_) (hk s rfl)
    rw [spec_l02Degrees.l1, if_pos (by omega), if_pos (by omega), rdL2_nat, getD_of hg, if_neg (by omega), wrapS (i := (r : Int) + 1) (by omega) (by omega), cast_succ]
  | d + 1, j, s, hd, h1, h2, hk, hf => by
    have hr : r < R.length := (List.getElem?_eq_some_iff.1 hg).1
    have hgR := hR g (List.mem_of_getElem? hg)
    obtain ⟨b, hb⟩ := get_some (xs := g) (i := j) (by omega)
    have hbl := hgR.2 b (List.mem_of_getElem? hb)
    have er : rd_L1 g (j : Int) = b := by rw [rdL1_nat, getD_of hb]
    rw [drop_of hb] at hk hf
    unfold allB at hk hf
    by_cases c : b = []
    · subst c
      rw [if_pos rfl] at hf
      rw [hf rfl]
      refine Ev.step (f := fun _ => some ([], false)) (fun k => ?_) (Ev.now _)
      rw [spec_l02Degrees.l1, if_pos (by omega), if_pos (by omega), rdL2_nat, getD_of hg, if_pos (by omega), if_pos (by omega), er, if_pos (by simp)]
    · rw [if_neg c] at hk hf
      have hpos : 0 < b.length := List.length_pos_iff.2 c
      have hin := spec_in (R := R) hn b hbl (r : Int) (j : Int) res b.length 0 s (by omega) h1 h2 (fun s' hs' => by
        rw [List.drop_zero] at hs'
        have hl := stepB_len n b b s s' hs'
        rw [hs'] at hk hf
        rw [wrapS (i := (j : Int) + 1) (by omega) (by omega), cast_succ]
        exact spec_reg hn hR hL r g hg res d (j + 1) s' (by omega) (hl.1.trans h1) (hl.2.trans h2) hk hf) (fun hs' => by
        rw [List.drop_zero] at hs'
        rw [hs'] at hf
        exact hf rfl)
      refine Ev.step (fun k => ?_) hin
      rw [spec_l02Degrees.l1, if_pos (by omega), if_pos (by omega), rdL2_nat, getD_of hg, if_pos (by omega), if_pos (by omega), er, if_neg (by omega)]
      rfl
set_option maxHeartbeats 4000000 in
theorem spec_regs (hn : 1 ≤ n ∧ n ≤ 20) (hR : ∀ g ∈ R, g.length < 4611686018427387904 ∧ ∀ b ∈ g, b.length < 4611686018427387904) (hL : R.length < 4611686018427387904) (res : List Int × Bool) : ∀ (d r : Nat) (s : List Int × List Bool), r + d = R.length → s.1.length = n.toNat → s.2.length = n.toNat →
    (∀ s', allB n (R.drop r).flatten s = some s' → Ev (fun k => spec_l02Degrees.l3 k s'.1 s'.2 0) res) → (allB n (R.drop r).flatten s = none → res = ([], false)) →
    Ev (fun k => spec_l02Degrees.l0 k s.1 s.2 (r : Int) n R) res
  | 0, r, s, hd, h1, h2, hk, hf => by
    rw [List.drop_of_length_le (by omega)] at hk
    refine Ev.step (fun k => ?_) (hk s rfl)
    rw [spec_l02Degrees.l0, if_neg (by omega)]
  | d + 1, r, s, hd, h1, h2, hk, hf => by
    obtain ⟨g, hg⟩ := get_some (xs := R) (i := r) (by omega)
    rw [drop_of hg, List.flatten_cons, allB_app] at hk hf
    have hin := spec_reg hn hR hL r g hg res g.length 0 s (by omega) h1 h2 (fun s' hs' => by
      rw [List.drop_zero] at hs'
      have hl := allB_len n g s s' hs'
      rw [hs'] at hk hf
      exact spec_regs hn hR hL res d (r + 1) s' (by omega) (hl.1.trans h1) (hl.2.trans h2) hk hf) (fun hs' => by
      rw [List.drop_zero] at hs'
      rw [hs'] at hf
      exact hf rfl)
    refine Ev.step (fun k => ?_) hin
    rw [spec_l02Degrees.l0, if_pos (by omega)]
    rfl
set_option maxHeartbeats 4000000 in
theorem impl_regs (hn : 1 ≤ n ∧ n ≤ 20) (C : List (List Int)) (hC : ∀ b ∈ C, b.length < 4611686018427387904) (hL : C.length < 4611686018427387904) (res : List Int × Bool) : ∀ (d i : Nat) (s : List Int × List Bool), i + d = C.length → s.1.length = n.toNat → s.2.length = n.toNat →
    (∀ s', allB n (C.drop i) s = some s' → Ev (fun k => impl_Sprouts_degrees.l2 k s'.1 s'.2 (s'.1.length : Int) 0) res) → (allB n (C.drop i) s = none → res = ([], false)) →
    Ev (fun k => impl_Sprouts_degrees.l0 k s.1 s.2 C (C.length : Int) (i : Int) n R) res
  | 0, i, s, hd, h1, h2, hk, hf => by
    rw [List.drop_of_length_le (by omega)] at hk
    refine Ev.step (fun k => ?_) (hk s rfl)
    rw [impl_Sprouts_degrees.l0, if_neg (by omega)]
  | d + 1, i, s, hd, h1, h2, hk, hf => by
    obtain ⟨b, hb⟩ := get_some (xs := C) (i := i) (by omega)
    have hbl := hC b (List.mem_of_getElem? hb)
    have er : rd_L1 C (i : Int) = b := by rw [rdL1_nat, getD_of hb]
    rw [drop_of hb] at hk hf
    unfold allB at hk hf
    have hin : Ev (fun k => impl_Sprouts_degrees.l1 k s.1 s.2 b C (C.length : Int) (i : Int) b (b.length : Int) 0 n R) res := impl_in (R := R) hn b hbl C (C.length : Int) (i : Int) res b.length 0 s (by omega) h1 h2 (fun s' hs' => by
        rw [List.drop_zero] at hs'
        have hl := stepB_len n b b s s' hs'
        by_cases c : b = []
        · subst c
          rw [if_pos rfl] at hf
          rw [hf rfl]
          exact Ev.congr (f := fun _ => some ([], false)) (fun k => by rw [if_pos (by simp)]) (Ev.now _)
        · have hpos : 0 < b.length := List.length_pos_iff.2 c
          rw [if_neg c, hs'] at hk hf
          refine Ev.congr (fun k => by rw [if_neg (by omega), wrapS (i := (i : Int) + 1) (by omega) (by omega), cast_succ]) (impl_regs hn C hC hL res d (i + 1) s' (by omega) (hl.1.trans h1) (hl.2.trans h2) hk hf)) (fun hs' => by
        rw [List.drop_zero] at hs'
        by_cases c : b = []
        · rw [if_pos c] at hf
          exact hf rfl
        · rw [if_neg c, hs'] at hf
          exact hf rfl)
    refine Ev.step (fun k => ?_) hin
    rw [impl_Sprouts_degrees.l0, if_pos (by omega), if_pos (by omega), if_pos (by omega), er]
end
set_option maxHeartbeats 4000000 in
theorem spec_fin (al : List Bool) : ∀ (d i : Nat) (c : List Int), i + d = c.length → al.length = c.length → c.length ≤ 20 → Ev (fun k => spec_l02Degrees.l3 k c al (i : Int)) (pairOf (finB al d i c))
  | 0, i, c, hd, ha, hc => by
    refine Ev.step (f := fun _ => some (c, true)) (fun k => ?_) (Ev.now _)
    rw [spec_l02Degrees.l3, if_neg (by omega)]
  | d + 1, i, c, hd, ha, hc => by
    have hw : wrap64 ((i : Int) + 1) = ((i + 1 : Nat) : Int) := by rw [wrapS (by omega) (by omega), cast_succ]
    have bad : ∀ k, spec_l02Degrees.j5 (k + 1) c al (i : Int) true = some ([], false) := fun k => by rw [spec_l02Degrees.j5, if_pos rfl]
    unfold finB
    by_cases q : c.getD i 0 < 1 ∨ c.getD i 0 > 3 ∨ (al.getD i false = true ∧ c.getD i 0 > 1)
    · rw [if_pos q]
      refine Ev.step (f := fun k => spec_l02Degrees.j5 k c al (i : Int) true) (fun k => ?_) (Ev.step (f := fun _ => some ([], false)) bad (Ev.now _))
      rw [spec_l02Degrees.l3, if_pos (by omega), if_pos (by omega), rd_nat, rdOf_b]
      by_cases q1 : c.getD i 0 < 1
      · rw [if_pos q1]
      · rw [if_neg q1]
        by_cases q2 : c.getD i 0 > 3
        · rw [if_pos q2]
        · rw [if_neg q2, if_pos (by omega)]
          have q3 := (q.resolve_left q1).resolve_left q2
          rw [if_pos q3.1, decide_eq_true q3.2]
    · rw [if_neg q]
      have q1 : ¬ c.getD i 0 < 1 := fun h => q (Or.inl h)
      have q2 : ¬ c.getD i 0 > 3 := fun h => q (Or.inr (Or.inl h))
      have e1 : ∀ k, spec_l02Degrees.l3 (k + 1) c al (i : Int) = spec_l02Degrees.j5 k c al (i : Int) false := fun k => by
        rw [spec_l02Degrees.l3, if_pos (by omega), if_pos (by omega), rd_nat, rdOf_b, if_neg q1, if_neg q2, if_pos (by omega)]
        by_cases a : al.getD i false = true
        · rw [if_pos a, decide_eq_false (fun h => q (Or.inr (Or.inr ⟨a, h⟩)))]
        · rw [if_neg a]
      refine Ev.step e1 ?_
      by_cases a : al.getD i false = true
      · rw [if_pos a]
        refine Ev.step (fun k => ?_) (spec_fin al d (i + 1) (c.set i 0) (by rw [List.length_set]; omega) (by rw [List.length_set]; exact ha) (by rw [List.length_set]; exact hc))
        rw [spec_l02Degrees.j5, if_neg (by decide), if_pos (by omega), if_pos (by omega), rdOf_b, if_pos a, if_pos (by omega), Int.toNat_natCast, hw]
      · rw [if_neg a]
        refine Ev.step (fun k => ?_) (spec_fin al d (i + 1) c (by omega) ha hc)
        rw [spec_l02Degrees.j5, if_neg (by decide), if_pos (by omega), if_pos (by omega), rdOf_b, if_neg a, hw]
set_option maxHeartbeats 4000000 in
theorem impl_fin (al : List Bool) : ∀ (d i : Nat) (c : List Int), i + d = c.length → al.length = c.length → c.length ≤ 20 → Ev (fun k => impl_Sprouts_degrees.l2 k c al (c.length : Int) (i : Int)) (pairOf (finB al d i c))
  | 0, i, c, hd, ha, hc => by
    refine Ev.step (f := fun _ => some (c, true)) (fun k => ?_) (Ev.now _)
    rw [impl_Sprouts_degrees.l2, if_neg (by omega)]
  | d + 1, i, c, hd, ha, hc => by
    have hw : wrap64 ((i : Int) + 1) = ((i + 1 : Nat) : Int) := by rw [wrapS (by omega) (by omega), cast_succ]
    have bad : ∀ k, impl_Sprouts_degrees.j4 (k + 1) c al (i : Int) (c.length : Int) (i : Int) true = some ([], false) := fun k => by rw [impl_Sprouts_degrees.j4, if_pos rfl]
    unfold finB
    by_cases q : c.getD i 0 < 1 ∨ c.getD i 0 > 3 ∨ (al.getD i false = true ∧ c.getD i 0 > 1)
    · rw [if_pos q]
      refine Ev.step (f := fun k => impl_Sprouts_degrees.j4 k c al (i : Int) (c.length : Int) (i : Int) true) (fun k => ?_) (Ev.step (f := fun _ => some ([], false)) bad (Ev.now _))
      rw [impl_Sprouts_degrees.l2, if_pos (by omega), if_pos (by omega), if_pos (by omega), rd_nat, rdOf_b, within_eq, Option.bind_some]
      by_cases q1 : (decide ((1 : Int) ≤ c.getD i 0) && decide (c.getD i 0 ≤ 3)) = true
      · rw [if_pos q1, if_pos (by omega)]
        have q2 : 1 ≤ c.getD i 0 ∧ c.getD i 0 ≤ 3 := by simpa only [Bool.and_eq_true, decide_eq_true_eq] using q1
        have q3 := (q.resolve_left (by omega)).resolve_left (by omega)
        rw [if_pos q3.1, decide_eq_true q3.2]
      · rw [if_neg q1]
    · rw [if_neg q]
      have q1 : (decide ((1 : Int) ≤ c.getD i 0) && decide (c.getD i 0 ≤ 3)) = true := by
        rw [decide_eq_true (show (1 : Int) ≤ c.getD i 0 by have : ¬ c.getD i 0 < 1 := fun h => q (Or.inl h)
                                                           omega), decide_eq_true (show c.getD i 0 ≤ 3 by have : ¬ c.getD i 0 > 3 := fun h => q (Or.inr (Or.inl h))
                                                                                                          omega)]
        rfl
      have e1 : ∀ k, impl_Sprouts_degrees.l2 (k + 1) c al (c.length : Int) (i : Int) = impl_Sprouts_degrees.j4 k c al (i : Int) (c.length : Int) (i : Int) false := fun k => by
        rw [impl_Sprouts_degrees.l2, if_pos (by omega), if_pos (by omega), if_pos (by omega), rd_nat, rdOf_b, within_eq, Option.bind_some, if_pos q1, if_pos (by omega)]
        by_cases a : al.getD i false = true
        · rw [if_pos a, decide_eq_false (fun h => q (Or.inr (Or.inr ⟨a, h⟩)))]
        · rw [if_neg a]
      refine Ev.step e1 ?_
      by_cases a : al.getD i false = true
      · rw [if_pos a]
        have ih := impl_fin al d (i + 1) (c.set i 0) (by rw [List.length_set]; omega) (by rw [List.length_set]; exact ha) (by rw [List.length_set]; exact hc)
        rw [List.length_set] at ih
        refine Ev.step (fun k => ?_) ih
        rw [impl_Sprouts_degrees.j4, if_neg (by decide), if_pos (by omega), if_pos (by omega), rdOf_b, if_pos a, if_pos (by omega), Int.toNat_natCast, hw]
      · rw [if_neg a]
        refine Ev.step (fun k => ?_) (impl_fin al d (i + 1) c (by omega) ha hc)
        rw [impl_Sprouts_degrees.j4, if_neg (by decide), if_pos (by omega), if_pos (by omega), rdOf_b, if_neg a, hw]

end Go.Proofs.Ytjihfaebfhbpfaa.PX

/- The degrees of a sprouts position: both sides, whole (no condition but sizes that fit). -/
namespace Go.Proofs.Ytjihfaebfhbpfaa.PX
open Go.RowKit Go.Proofs.YtjihfaebfhbpfaaW.PrintWords Go.Proofs.YtjihfaebfhbpfaaW.PrintLast Go.Proofs.YtjihfaebfhbpfaaW.PrintMore
attribute [local go_sem] max2_int min2_int max_two min_two max_three min_three max_four min_four
set_option linter.unusedVariables false
set_option linter.unusedSimpArgs false
theorem con_app (R : List (List (List Int))) (hL : R.length < 4611686018427387904) : ∀ (d i : Nat) (acc : List (List Int)), i + d = R.length → acc.length + (R.drop i).flatten.length ≤ 1000000000 → Ev (fun k => slices_Concat_int64_int64.l1 k acc R (R.length : Int) (i : Int)) (acc ++ (R.drop i).flatten)
  | 0, i, acc, hd, ha => by
    rw [List.drop_of_length_le (by omega), List.flatten_nil, List.append_nil]
    refine Ev.step (f := fun _ => some acc) (fun k => ?_) (Ev.now _)
    rw [slices_Concat_int64_int64.l1, if_neg (by omega)]
  | d + 1, i, acc, hd, ha => by
    obtain ⟨g, hg⟩ := get_some (xs := R) (i := i) (by omega)
    rw [drop_of hg, List.flatten_cons] at ha ⊢
    rw [List.length_append] at ha
    have ih := con_app R hL d (i + 1) (acc ++ g) (by omega) (by rw [List.length_append]; omega)
    rw [List.append_assoc] at ih
    refine Ev.step (fun k => ?_) ih
    rw [slices_Concat_int64_int64.l1, if_pos (by omega), if_pos (by omega), if_pos (by omega), rdL2_nat, getD_of hg, if_pos (by omega), wrapS (i := (i : Int) + 1) (by omega) (by omega), cast_succ]
theorem con_sum (R : List (List (List Int))) (hL : R.length < 4611686018427387904) (hT : R.flatten.length ≤ 1000000000) : ∀ (d i : Nat) (x : Int), i + d = R.length → 0 ≤ x → x + ((R.drop i).flatten.length : Int) ≤ 1000000000 → Ev (fun k => slices_Concat_int64_int64.l0 k R x R (R.length : Int) (i : Int)) R.flatten
  | 0, i, x, hd, h0, h1 => by
    have h := con_app R hL R.length 0 [] (by omega) (by rw [List.drop_zero, List.length_nil]; omega)
    rw [List.drop_zero, List.nil_append] at h
    refine Ev.step (fun k => ?_) h
    rw [slices_Concat_int64_int64.l0, if_neg (by omega), if_pos h0, if_pos (by omega)]
    rfl
  | d + 1, i, x, hd, h0, h1 => by
    obtain ⟨g, hg⟩ := get_some (xs := R) (i := i) (by omega)
    rw [drop_of hg, List.flatten_cons, List.length_append] at h1
    have ih := con_sum R hL hT d (i + 1) (x + (g.length : Int)) (by omega) (by omega) (by omega)
    refine Ev.step (fun k => ?_) ih
    rw [slices_Concat_int64_int64.l0, if_pos (by omega), if_pos (by omega), if_pos (by omega), rdL2_nat, getD_of hg, wrapS (i := x + (g.length : Int)) (by omega) (by omega), if_neg (by omega), wrapS (i := (i : Int) + 1) (by omega) (by omega), cast_succ]
theorem concat_ev (R : List (List (List Int))) (hL : R.length < 4611686018427387904) (hT : R.flatten.length ≤ 1000000000) : Ev (fun k => slices_Concat_int64_int64.f k R) R.flatten :=
  con_sum R hL hT R.length 0 0 (by omega) (by omega) (by rw [List.drop_zero]; omega)
def degOf (n : Int) (R : List (List (List Int))) : Option (List Int) := if (1 ≤ n ∧ n ≤ 20) ∧ R ≠ [] then (allB n R.flatten (List.replicate n.toNat 0, List.replicate n.toNat false)).bind (fun s => finB s.2 n.toNat 0 s.1) else none
theorem specDeg_ev (n : Int) (R : List (List (List Int))) (hR : ∀ g ∈ R, g.length < 4611686018427387904 ∧ ∀ b ∈ g, b.length < 4611686018427387904) (hL : R.length < 4611686018427387904) : Ev (fun k => spec_l02Degrees.f k n R) (pairOf (degOf n R)) := by
  have bad : ∀ b, b = true → Ev (fun k => spec_l02Degrees.j0 k b n R) ([], false) := fun b hb => by
    subst hb
    exact Ev.step (f := fun _ => some ([], false)) (fun k => by rw [spec_l02Degrees.j0, if_pos rfl]) (Ev.now _)
  unfold spec_l02Degrees.f degOf
  rw [in_eq]
  by_cases c : 1 ≤ n ∧ n ≤ 20
  · have cb : (decide ((1 : Int) ≤ n) && decide (n ≤ 20)) = true := by rw [decide_eq_true c.1, decide_eq_true c.2]; rfl
    refine Ev.congr (fun k => by rw [Option.bind_some, if_pos cb]) ?_
    by_cases e : R = []
    · rw [if_neg (fun h => h.2 e)]
      exact bad _ (by rw [e]; rfl)
    · rw [if_pos ⟨c, e⟩, decide_eq_false (show ¬ (R.length : Int) < 1 by have := List.length_pos_iff.2 e; omega)]
      have h := spec_regs c hR hL (pairOf ((allB n R.flatten (List.replicate n.toNat 0, List.replicate n.toNat false)).bind (fun s => finB s.2 n.toNat 0 s.1))) R.length 0 (List.replicate n.toNat 0, List.replicate n.toNat false) (by omega) (by simp) (by simp) (fun s' hs' => by
        rw [List.drop_zero] at hs'
        have hl := allB_len n _ _ s' hs'
        simp only [List.length_replicate] at hl
        rw [hs', Option.bind_some]
        have := spec_fin s'.2 s'.1.length 0 s'.1 (by omega) (by omega) (by omega)
        rw [hl.1] at this
        exact this) (fun hs' => by rw [List.drop_zero] at hs'; rw [hs']; rfl)
      refine Ev.step (fun k => ?_) h
      rw [spec_l02Degrees.j0, if_neg (by decide), if_pos (by omega), if_pos (by omega), if_pos (by omega)]
      rfl
  · rw [if_neg (fun h => c h.1)]
    have cb : ¬ (decide ((1 : Int) ≤ n) && decide (n ≤ 20)) = true := by simp only [Bool.and_eq_true, decide_eq_true_eq]; exact c
    exact Ev.congr (fun k => by rw [Option.bind_some, if_neg cb]) (bad true rfl)
theorem implDeg_ev (n : Int) (R : List (List (List Int))) (hR : ∀ g ∈ R, ∀ b ∈ g, b.length < 4611686018427387904) (hL : R.length < 4611686018427387904) (hT : R.flatten.length ≤ 1000000000) : Ev (fun k => impl_Sprouts_degrees.f k n R) (pairOf (degOf n R)) := by
  have bad : ∀ b, b = true → Ev (fun k => impl_Sprouts_degrees.j0 k b n R) ([], false) := fun b hb => by
    subst hb
    exact Ev.step (f := fun _ => some ([], false)) (fun k => by rw [impl_Sprouts_degrees.j0, if_pos rfl]) (Ev.now _)
  unfold impl_Sprouts_degrees.f degOf
  rw [within_eq]
  by_cases c : 1 ≤ n ∧ n ≤ 20
  · have cb : (decide ((1 : Int) ≤ n) && decide (n ≤ 20)) = true := by rw [decide_eq_true c.1, decide_eq_true c.2]; rfl
    refine Ev.congr (fun k => by rw [Option.bind_some, if_pos cb]) ?_
    by_cases e : R = []
    · rw [if_neg (fun h => h.2 e)]
      exact bad _ (by rw [e]; rfl)
    · have e2 : ((R.length : Int) == 0) = false := beq_eq_false_iff_ne.2 (by have := List.length_pos_iff.2 e; omega)
      rw [if_pos ⟨c, e⟩, e2]
      have h := impl_regs (R := R) c R.flatten (fun b hb => by obtain ⟨g, hg, hbg⟩ := List.mem_flatten.1 hb; exact hR g hg b hbg) (by omega) (pairOf ((allB n R.flatten (List.replicate n.toNat 0, List.replicate n.toNat false)).bind (fun s => finB s.2 n.toNat 0 s.1))) R.flatten.length 0 (List.replicate n.toNat 0, List.replicate n.toNat false) (by omega) (by simp) (by simp) (fun s' hs' => by
        rw [List.drop_zero] at hs'
        have hl := allB_len n _ _ s' hs'
        simp only [List.length_replicate] at hl
        rw [hs', Option.bind_some]
        have := impl_fin s'.2 s'.1.length 0 s'.1 (by omega) (by omega) (by omega)
        rw [← hl.1]
        exact this) (fun hs' => by rw [List.drop_zero] at hs'; rw [hs']; rfl)
      refine Ev.step (f := fun k => (slices_Concat_int64_int64.f k R).bind fun t181 => (impl_Sprouts_degrees.l0 k (List.replicate n.toNat 0) (List.replicate n.toNat false) t181 (t181.length : Int) 0 n R)) (fun k => ?_) (Ev.bind (concat_ev R hL hT) h)
      rw [impl_Sprouts_degrees.j0, if_neg (by decide), if_pos (by omega), if_pos (by omega), if_pos (by omega)]
  · rw [if_neg (fun h => c h.1)]
    have cb : ¬ (decide ((1 : Int) ≤ n) && decide (n ≤ 20)) = true := by simp only [Bool.and_eq_true, decide_eq_true_eq]; exact c
    exact Ev.congr (fun k => by rw [Option.bind_some, if_neg cb]) (bad true rfl)

end Go.Proofs.Ytjihfaebfhbpfaa.PX

/- The moves of a position: both sides' lists (conditions: the letters are spots; at most eight boundaries a region; sizes that fit). -/
namespace Go.Proofs.Ytjihfaebfhbpfaa.PX
open Go.RowKit Go.Proofs.YtjihfaebfhbpfaaW.PrintWords Go.Proofs.YtjihfaebfhbpfaaW.PrintLast Go.Proofs.YtjihfaebfhbpfaaW.PrintMore
attribute [local go_sem] max2_int min2_int max_two min_two max_three min_three max_four min_four
set_option linter.unusedVariables false
set_option linter.unusedSimpArgs false
def alive (c : List Int) (s t : Int) : Bool := if s = t then decide (rd c s < 2) else (if rd c s < 3 then decide (rd c t < 3) else false)
def mv (r b i cc j t : Int) : List Int := [r, b, i, cc, j, t]
def tailM (g : List (List Int)) (r b i cc j : Nat) : List (List Int) := (if b = cc then cutsOf (b : Int) (shl .i64 1 (g.length : Int)).toNat else [0]).map (mv r b i cc j)
def mJ (c : List Int) (g : List (List Int)) (r b i cc : Nat) (s : Int) : Nat → List Int → List (List Int)
  | _, [] => []
  | j, t :: ts => (if (cc = b ∧ j < i) ∨ alive c s t = false then [] else tailM g r b i cc j) ++ mJ c g r b i cc s (j + 1) ts
def mC (c : List Int) (g : List (List Int)) (r b i : Nat) (s : Int) : Nat → List (List Int) → List (List Int)
  | _, [] => []
  | cc, bd :: rest => mJ c g r b i cc s 0 bd ++ mC c g r b i s (cc + 1) rest
def mI (c : List Int) (g : List (List Int)) (r b : Nat) : Nat → List Int → List (List Int)
  | _, [] => []
  | i, s :: ss => mC c g r b i s b (g.drop b) ++ mI c g r b (i + 1) ss
def mB (c : List Int) (g : List (List Int)) (r : Nat) : Nat → List (List Int) → List (List Int)
  | _, [] => []
  | b, bd :: rest => mI c g r b 0 bd ++ mB c g r (b + 1) rest
def mR (c : List Int) : Nat → List (List (List Int)) → List (List Int)
  | _, [] => []
  | r, g :: rest => mB c g r 0 g ++ mR c (r + 1) rest
theorem shl_small8 : ∀ n : Fin 9, 0 ≤ shl .i64 1 (n.1 : Int) ∧ shl .i64 1 (n.1 : Int) ≤ 256 ∧ IntKind.u64.wrap (n.1 : Int) = (n.1 : Int) := by decide
theorem shl8 {n : Nat} (h : n ≤ 8) : 0 ≤ shl .i64 1 (n : Int) ∧ shl .i64 1 (n : Int) ≤ 256 ∧ IntKind.u64.wrap (n : Int) = (n : Int) := shl_small8 ⟨n, by omega⟩
theorem tail_len {g : List (List Int)} (hg : g.length ≤ 8) (r b i cc j : Nat) : (tailM g r b i cc j).length ≤ 256 := by
  have h8 := shl8 hg
  unfold tailM
  rw [List.length_map]
  split
  · have := cutsOf_len (b : Int) (shl .i64 1 (g.length : Int)).toNat
    omega
  · simp
theorem mJ_len {g : List (List Int)} (hg : g.length ≤ 8) (c : List Int) (r b i cc : Nat) (s : Int) : ∀ (bd : List Int) (j : Nat), (mJ c g r b i cc s j bd).length ≤ bd.length * 256
  | [], j => by simp [mJ]
  | t :: ts, j => by
    have ih := mJ_len hg c r b i cc s ts (j + 1)
    have h : (if (cc = b ∧ j < i) ∨ alive c s t = false then [] else tailM g r b i cc j).length ≤ 256 := by
      split
      · simp
      · exact tail_len hg r b i cc j
    simp only [mJ, List.length_append, List.length_cons]
    omega
theorem mC_len {g : List (List Int)} (hg : g.length ≤ 8) (c : List Int) (r b i : Nat) (s : Int) : ∀ (rest : List (List Int)) (cc : Nat), ((mC c g r b i s cc rest).length : Int) ≤ total rest * 256
  | [], cc => by simp [mC, total]
  | bd :: rest, cc => by
    have ih := mC_len hg c r b i s rest (cc + 1)
    have h := mJ_len hg c r b i cc s bd 0
    simp only [mC, List.length_append, total]
    omega
theorem total_drop (g : List (List Int)) (b : Nat) : total (g.drop b) ≤ total g := by
  have h1 := total_nonneg (g.take b)
  have h3 : total g = total (g.take b) + total (g.drop b) := by rw [← total_append, List.take_append_drop]
  omega
theorem mI_len {g : List (List Int)} (hg : g.length ≤ 8) (hT : total g ≤ 60) (c : List Int) (r b : Nat) : ∀ (ss : List Int) (i : Nat), (mI c g r b i ss).length ≤ ss.length * 15360
  | [], i => by simp [mI]
  | s :: ss, i => by
    have ih := mI_len hg hT c r b ss (i + 1)
    have h := mC_len hg c r b i s (g.drop b) b
    have := total_drop g b
    simp only [mI, List.length_append, List.length_cons]
    omega
theorem mB_len {g : List (List Int)} (hg : g.length ≤ 8) (hT : total g ≤ 60) (c : List Int) (r : Nat) : ∀ (rest : List (List Int)) (b : Nat), ((mB c g r b rest).length : Int) ≤ total rest * 15360
  | [], b => by simp [mB, total]
  | bd :: rest, b => by
    have ih := mB_len hg hT c r rest (b + 1)
    have h := mI_len hg hT c r b bd 0
    simp only [mB, List.length_append, total]
    omega
theorem mR_len (c : List Int) : ∀ (R : List (List (List Int))) (r : Nat), (∀ g ∈ R, g.length ≤ 8 ∧ total g ≤ 60) → ((mR c r R).length : Int) ≤ total3 R * 15360
  | [], r, _ => by simp [mR, total3]
  | g :: rest, r, h => by
    have ih := mR_len c rest (r + 1) (fun g hg => h g (List.mem_cons_of_mem _ hg))
    have hg := h g (List.mem_cons_self ..)
    have h2 := mB_len hg.1 hg.2 c r g 0
    simp only [mR, List.length_append, total3]
    omega
theorem alive_spec {c : List Int} {s t : Int} (hs : 0 ≤ s ∧ s < c.length) (ht : 0 ≤ t ∧ t < c.length) : spec_l02Alive.f c s t = some (alive c s t) := by
  unfold spec_l02Alive.f alive
  by_cases e : s = t
  · rw [if_pos e, if_pos hs.1, if_pos hs.2, if_pos e]
  · rw [if_neg e, if_pos hs.1, if_pos hs.2, if_pos ht.1, if_pos ht.2, if_neg e]
    split <;> rfl
theorem alive_impl {c : List Int} {s t : Int} (hs : 0 ≤ s ∧ s < c.length) (ht : 0 ≤ t ∧ t < c.length) : impl_mayJoin.f c s t = some (alive c s t) := by
  unfold impl_mayJoin.f alive
  by_cases e : s = t
  · rw [if_pos e, if_pos hs.1, if_pos hs.2, if_pos e]
    congr 1
    exact decide_eq_decide.2 (by omega)
  · rw [if_neg e, if_pos hs.1, if_pos hs.2, if_neg e]
    by_cases h : rd c s < 3
    · rw [if_pos (by omega), if_pos ht.1, if_pos ht.2, if_pos h]
      congr 1
      exact decide_eq_decide.2 (by omega)
    · rw [if_neg (by omega), if_neg h]
theorem mJ_skip (c : List Int) (g : List (List Int)) (r b i : Nat) (s : Int) (bd : List Int) (hi : i ≤ bd.length) : ∀ (d j : Nat), j + d = i → mJ c g r b i b s j (bd.drop j) = mJ c g r b i b s i (bd.drop i)
  | 0, j, hd => by rw [show j = i by omega]
  | d + 1, j, hd => by
    obtain ⟨t, ht⟩ := get_some (xs := bd) (i := j) (by omega)
    rw [drop_of ht, mJ, if_pos (Or.inl ⟨rfl, by omega⟩), List.nil_append]
    exact mJ_skip c g r b i s bd hi d (j + 1) (by omega)

end Go.Proofs.Ytjihfaebfhbpfaa.PX

/- The program's list of moves is the list (conditions as there). -/
namespace Go.Proofs.Ytjihfaebfhbpfaa.PX
open Go.RowKit Go.Proofs.YtjihfaebfhbpfaaW.PrintWords Go.Proofs.YtjihfaebfhbpfaaW.PrintLast Go.Proofs.YtjihfaebfhbpfaaW.PrintMore
attribute [local go_sem] max2_int min2_int max_two min_two max_three min_three max_four min_four
set_option linter.unusedVariables false
set_option linter.unusedSimpArgs false
theorem cuts_eq {g : List (List Int)} (hg : g.length ≤ 8) (b cc : Nat) : impl_cuts.f g (b : Int) (cc : Int) = some (if b = cc then cutsOf (b : Int) (shl .i64 1 (g.length : Int)).toNat else [0]) := by
  have h8 := shl8 hg
  unfold impl_cuts.f cutsL
  by_cases e : b = cc
  · rw [if_pos (by omega), if_pos (by omega), if_pos h8.2.1, if_pos e]
  · rw [if_neg (by omega), if_neg e]
theorem impl_t {c : List Int} {R : List (List (List Int))} {n0 : Int} {g : List (List Int)} {gl : Int} {bb bd : List Int} {bl dl s : Int} {r b i cc j : Nat} {res : List (List Int)} (hj : j < 4611686018427387904) (L : List Int) (hL : L.length ≤ 256)
    : ∀ (d q : Nat) (x : List (List Int)), q + d = L.length → x.length + d ≤ 5864062014804 → Ev (fun k => impl_sproutMoves.l4 k c (x ++ (L.drop q).map (mv r b i cc j)) (r : Int) g (b : Int) (i : Int) s (cc : Int) R n0 (r : Int) g gl (b : Int) bb bl (i : Int) bd dl ((j + 1 : Nat) : Int)) res → Ev (fun k => impl_sproutMoves.l5 k c x (r : Int) g (b : Int) (i : Int) s (cc : Int) (j : Int) R n0 (r : Int) g gl (b : Int) bb bl (i : Int) bd dl (j : Int) L (L.length : Int) (q : Int)) res
  | 0, q, x, hd, hx, h => by
    rw [List.drop_of_length_le (by omega), List.map_nil, List.append_nil] at h
    refine Ev.step (fun k => ?_) h
    rw [impl_sproutMoves.l5, if_neg (by omega), wrapS (i := (j : Int) + 1) (by omega) (by omega), cast_succ]
  | d + 1, q, x, hd, hx, h => by
    obtain ⟨t, ht⟩ := get_some (xs := L) (i := q) (by omega)
    rw [drop_of ht, List.map_cons] at h
    have ih := impl_t (R := R) (n0 := n0) (res := res) hj L hL d (q + 1) (x ++ [mv r b i cc j t]) (by omega) (by rw [List.length_append, List.length_singleton]; omega) (by rw [List.append_assoc]; exact h)
    refine Ev.step (fun k => ?_) ih
    rw [impl_sproutMoves.l5, if_pos (by omega), if_pos (by omega), if_pos (by omega), if_pos (by omega), rd_nat, getD_of ht, wrapS (i := (q : Int) + 1) (by omega) (by omega), cast_succ]
    rfl
theorem impl_l4' {c : List Int} {R : List (List (List Int))} {n0 : Int} {g : List (List Int)} {gl : Int} {bb bd : List Int} {bl s : Int} {r b i cc : Nat} {res : List (List Int)} (hg : g.length ≤ 8) (hcc : cc < g.length) (hs2 : 0 ≤ s ∧ s < (c.length : Int)) (hbl : bd.length ≤ 1048576) (hin : ∀ t ∈ bd, 0 ≤ t ∧ t < (c.length : Int)) : ∀ (d j : Nat) (x : List (List Int)), j + d = bd.length → x.length + (mJ c g r b i cc s j (bd.drop j)).length + 256 ≤ 5864062014804 → Ev (fun k => impl_sproutMoves.l3 k c (x ++ mJ c g r b i cc s j (bd.drop j)) (r : Int) g (b : Int) (i : Int) s ((cc + 1 : Nat) : Int) R n0 (r : Int) g gl (b : Int) bb bl (i : Int)) res → Ev (fun k => impl_sproutMoves.l4 k c x (r : Int) g (b : Int) (i : Int) s (cc : Int) R n0 (r : Int) g gl (b : Int) bb bl (i : Int) bd (bd.length : Int) (j : Int)) res
  | 0, j, x, hd, hx, h => by
    rw [List.drop_of_length_le (by omega), mJ, List.append_nil] at h
    refine Ev.step (fun k => ?_) h
    rw [impl_sproutMoves.l4, if_neg (by omega), wrapS (i := (cc : Int) + 1) (by omega) (by omega), cast_succ]
  | d + 1, j, x, hd, hx, h => by
    obtain ⟨t, ht⟩ := get_some (xs := bd) (i := j) (by omega)
    have ht2 := hin t (List.mem_of_getElem? ht)
    rw [drop_of ht, mJ] at h hx
    rw [List.length_append] at hx
    by_cases hcond : (cc = b ∧ j < i) ∨ alive c s t = false
    · rw [if_pos hcond] at h hx
      rw [List.nil_append] at h
      rw [List.length_nil] at hx
      have ih := impl_l4' (R := R) (n0 := n0) (gl := gl) (bb := bb) (bl := bl) (r := r) (b := b) (i := i) (res := res) hg hcc hs2 hbl hin d (j + 1) x (by omega) (by omega) h
      have h5 : Ev (fun k => impl_sproutMoves.j5 k c x (r : Int) g (b : Int) (i : Int) s (cc : Int) (j : Int) R n0 (r : Int) g gl (b : Int) bb bl (i : Int) bd (bd.length : Int) (j : Int) true) res := Ev.step (fun k => by rw [impl_sproutMoves.j5, if_pos rfl, wrapS (i := (j : Int) + 1) (by omega) (by omega), cast_succ]) ih
      refine Ev.step (fun k => ?_) h5
      rw [impl_sproutMoves.l4, if_pos (by omega), if_pos (by omega), if_pos (by omega), rd_nat, getD_of ht, alive_impl hs2 ht2]
      simp only [Option.bind_some]
      by_cases e : cc = b
      · rw [if_pos (by omega)]
        by_cases q : j < i
        · rw [if_pos (by omega)]
        · rw [if_neg (by omega)]
          have hf : alive c s t = false := hcond.resolve_left (fun h_ => q h_.2)
          rw [hf]
          rfl
      · rw [if_neg (by omega)]
        have hf : alive c s t = false := hcond.resolve_left (fun h_ => e h_.1)
        rw [hf]
        rfl
    · rw [if_neg hcond] at h hx
      have ha : alive c s t = true := by
        cases hq : alive c s t with
        | true => rfl
        | false => exact absurd (Or.inr hq) hcond
      have ih := impl_l4' (R := R) (n0 := n0) (gl := gl) (bb := bb) (bl := bl) (r := r) (b := b) (i := i) (res := res) hg hcc hs2 hbl hin d (j + 1) (x ++ tailM g r b i cc j) (by omega) (by rw [List.length_append]; omega) (by rw [List.append_assoc]; exact h)
      obtain ⟨L, hLd⟩ : ∃ L : List Int, L = (if b = cc then cutsOf (b : Int) (shl .i64 1 (g.length : Int)).toNat else [0]) := ⟨_, rfl⟩
      have hcl : L.length ≤ 256 := by
        have := tail_len hg r b i cc j
        unfold tailM at this
        rwa [List.length_map, ← hLd] at this
      have hlt : (L.map (mv r b i cc j)) = tailM g r b i cc j := by rw [hLd]; rfl
      have hlm : (tailM g r b i cc j).length = L.length := by rw [← hlt, List.length_map]
      have h6 := impl_t (c := c) (R := R) (n0 := n0) (g := g) (gl := gl) (bb := bb) (bd := bd) (bl := bl) (dl := (bd.length : Int)) (s := s) (r := r) (b := b) (i := i) (cc := cc) (j := j) (res := res) (by omega) L hcl L.length 0 x (by omega) (by omega) (by rw [List.drop_zero, hlt]; exact ih)
      have h5 : Ev (fun k => impl_sproutMoves.j5 k c x (r : Int) g (b : Int) (i : Int) s (cc : Int) (j : Int) R n0 (r : Int) g gl (b : Int) bb bl (i : Int) bd (bd.length : Int) (j : Int) false) res := Ev.step (fun k => by rw [impl_sproutMoves.j5, if_neg (by decide), cuts_eq hg, Option.bind_some, ← hLd]; rfl) h6
      refine Ev.step (fun k => ?_) h5
      rw [impl_sproutMoves.l4, if_pos (by omega), if_pos (by omega), if_pos (by omega), rd_nat, getD_of ht, alive_impl hs2 ht2]
      simp only [Option.bind_some, ha]
      by_cases e : cc = b
      · rw [if_pos (by omega), if_neg (by have : ¬ j < i := fun q => hcond (Or.inl ⟨e, q⟩); omega)]
        rfl
      · rw [if_neg (by omega)]
        rfl
theorem impl_l3' {c : List Int} {R : List (List (List Int))} {n0 : Int} {g : List (List Int)} {gl : Int} {bb : List Int} {bl s : Int} {r b i : Nat} {res : List (List Int)} (hg : g.length ≤ 8) (hi : i < 4611686018427387904) (hs2 : 0 ≤ s ∧ s < (c.length : Int)) (hin : ∀ row ∈ g, row.length ≤ 1048576 ∧ ∀ t ∈ row, 0 ≤ t ∧ t < (c.length : Int)) : ∀ (d cc : Nat) (x : List (List Int)), cc + d = g.length → x.length + (mC c g r b i s cc (g.drop cc)).length + 256 ≤ 5864062014804 → Ev (fun k => impl_sproutMoves.l2 k c (x ++ mC c g r b i s cc (g.drop cc)) (r : Int) g (b : Int) R n0 (r : Int) g gl (b : Int) bb bl ((i + 1 : Nat) : Int)) res → Ev (fun k => impl_sproutMoves.l3 k c x (r : Int) g (b : Int) (i : Int) s (cc : Int) R n0 (r : Int) g gl (b : Int) bb bl (i : Int)) res
  | 0, cc, x, hd, hx, h => by
    rw [List.drop_of_length_le (by omega), mC, List.append_nil] at h
    refine Ev.step (fun k => ?_) h
    rw [impl_sproutMoves.l3, if_neg (by omega), wrapS (i := (i : Int) + 1) (by omega) (by omega), cast_succ]
  | d + 1, cc, x, hd, hx, h => by
    obtain ⟨bd, hbd⟩ := get_some (xs := g) (i := cc) (by omega)
    have hm := hin bd (List.mem_of_getElem? hbd)
    rw [drop_of hbd, mC] at h hx
    rw [List.length_append] at hx
    have ih := impl_l3' (R := R) (n0 := n0) (gl := gl) (bb := bb) (bl := bl) (r := r) (b := b) (res := res) hg hi hs2 hin d (cc + 1) (x ++ mJ c g r b i cc s 0 bd) (by omega) (by rw [List.length_append]; omega) (by rw [List.append_assoc]; exact h)
    have h4 := impl_l4' (R := R) (n0 := n0) (gl := gl) (bb := bb) (bl := bl) (r := r) (b := b) (i := i) (res := res) hg (show cc < g.length by omega) hs2 hm.1 hm.2 bd.length 0 x (by omega) (by rw [List.drop_zero]; omega) (by rw [List.drop_zero]; exact ih)
    refine Ev.step (fun k => ?_) h4
    rw [impl_sproutMoves.l3, if_pos (by omega), if_pos (by omega), rdL1_nat, getD_of hbd]
    rfl
theorem impl_l2' {c : List Int} {R : List (List (List Int))} {n0 : Int} {g : List (List Int)} {gl : Int} {bb : List Int} {r b : Nat} {res : List (List Int)} (hg : g.length ≤ 8) (hb : b < g.length) (hbl : bb.length ≤ 1048576) (hbb : ∀ t ∈ bb, 0 ≤ t ∧ t < (c.length : Int)) (hin : ∀ row ∈ g, row.length ≤ 1048576 ∧ ∀ t ∈ row, 0 ≤ t ∧ t < (c.length : Int)) : ∀ (d i : Nat) (x : List (List Int)), i + d = bb.length → x.length + (mI c g r b i (bb.drop i)).length + 256 ≤ 5864062014804 → Ev (fun k => impl_sproutMoves.l1 k c (x ++ mI c g r b i (bb.drop i)) (r : Int) g R n0 (r : Int) g gl ((b + 1 : Nat) : Int)) res → Ev (fun k => impl_sproutMoves.l2 k c x (r : Int) g (b : Int) R n0 (r : Int) g gl (b : Int) bb (bb.length : Int) (i : Int)) res
  | 0, i, x, hd, hx, h => by
    rw [List.drop_of_length_le (by omega), mI, List.append_nil] at h
    refine Ev.step (fun k => ?_) h
    rw [impl_sproutMoves.l2, if_neg (by omega), wrapS (i := (b : Int) + 1) (by omega) (by omega), cast_succ]
  | d + 1, i, x, hd, hx, h => by
    obtain ⟨s, hs⟩ := get_some (xs := bb) (i := i) (by omega)
    rw [drop_of hs, mI] at h hx
    rw [List.length_append] at hx
    have ih := impl_l2' (R := R) (n0 := n0) (gl := gl) (r := r) (b := b) (res := res) hg hb hbl hbb hin d (i + 1) (x ++ mC c g r b i s b (g.drop b)) (by omega) (by rw [List.length_append]; omega) (by rw [List.append_assoc]; exact h)
    have h3 := impl_l3' (R := R) (n0 := n0) (gl := gl) (bb := bb) (bl := (bb.length : Int)) (r := r) (b := b) (i := i) (res := res) hg (by omega) (hbb s (List.mem_of_getElem? hs)) hin (g.length - b) b x (by omega) (by omega) ih
    refine Ev.step (fun k => ?_) h3
    rw [impl_sproutMoves.l2, if_pos (by omega), if_pos (by omega), if_pos (by omega), rd_nat, getD_of hs]
theorem impl_l1' {c : List Int} {R : List (List (List Int))} {n0 : Int} {g : List (List Int)} {r : Nat} {res : List (List Int)} (hr : r < 4611686018427387904) (hg : g.length ≤ 8) (hin : ∀ row ∈ g, row.length ≤ 1048576 ∧ ∀ t ∈ row, 0 ≤ t ∧ t < (c.length : Int)) : ∀ (d b : Nat) (x : List (List Int)), b + d = g.length → x.length + (mB c g r b (g.drop b)).length + 256 ≤ 5864062014804 → Ev (fun k => impl_sproutMoves.l0 k c (x ++ mB c g r b (g.drop b)) R n0 ((r + 1 : Nat) : Int)) res → Ev (fun k => impl_sproutMoves.l1 k c x (r : Int) g R n0 (r : Int) g (g.length : Int) (b : Int)) res
  | 0, b, x, hd, hx, h => by
    rw [List.drop_of_length_le (by omega), mB, List.append_nil] at h
    refine Ev.step (fun k => ?_) h
    rw [impl_sproutMoves.l1, if_neg (by omega), wrapS (i := (r : Int) + 1) (by omega) (by omega), cast_succ]
  | d + 1, b, x, hd, hx, h => by
    obtain ⟨bb, hbb⟩ := get_some (xs := g) (i := b) (by omega)
    have hm := hin bb (List.mem_of_getElem? hbb)
    rw [drop_of hbb, mB] at h hx
    rw [List.length_append] at hx
    have ih := impl_l1' (R := R) (n0 := n0) (res := res) hr hg hin d (b + 1) (x ++ mI c g r b 0 bb) (by omega) (by rw [List.length_append]; omega) (by rw [List.append_assoc]; exact h)
    have h2 := impl_l2' (R := R) (n0 := n0) (gl := (g.length : Int)) (r := r) (b := b) (res := res) hg (by omega) hm.1 hm.2 hin bb.length 0 x (by omega) (by rw [List.drop_zero]; omega) (by rw [List.drop_zero]; exact ih)
    refine Ev.step (fun k => ?_) h2
    rw [impl_sproutMoves.l1, if_pos (by omega), if_pos (by omega), if_pos (by omega), rdL1_nat, getD_of hbb]
    rfl
theorem impl_l0' {c : List Int} {R : List (List (List Int))} (hL : R.length < 4611686018427387904) (hR : ∀ g ∈ R, g.length ≤ 8 ∧ ∀ row ∈ g, row.length ≤ 1048576 ∧ ∀ t ∈ row, 0 ≤ t ∧ t < (c.length : Int)) : ∀ (d r : Nat) (x : List (List Int)), r + d = R.length → x.length + (mR c r (R.drop r)).length + 256 ≤ 5864062014804 → Ev (fun k => impl_sproutMoves.l0 k c x R (R.length : Int) (r : Int)) (x ++ mR c r (R.drop r))
  | 0, r, x, hd, hx => by
    rw [List.drop_of_length_le (by omega), mR, List.append_nil]
    refine Ev.step (f := fun _ => some x) (fun k => ?_) (Ev.now _)
    rw [impl_sproutMoves.l0, if_neg (by omega)]
  | d + 1, r, x, hd, hx => by
    obtain ⟨g, hg⟩ := get_some (xs := R) (i := r) (by omega)
    have hm := hR g (List.mem_of_getElem? hg)
    rw [drop_of hg, mR] at hx ⊢
    rw [List.length_append] at hx
    have ih := impl_l0' hL hR d (r + 1) (x ++ mB c g r 0 g) (by omega) (by rw [List.length_append]; omega)
    rw [List.append_assoc] at ih
    have h1 := impl_l1' (R := R) (n0 := (R.length : Int)) (r := r) (by omega) hm.1 hm.2 g.length 0 x (by omega) (by rw [List.drop_zero]; omega) (by rw [List.drop_zero]; exact ih)
    refine Ev.step (fun k => ?_) h1
    rw [impl_sproutMoves.l0, if_pos (by omega), if_pos (by omega), if_pos (by omega), rdL2_nat, getD_of hg]
    rfl

end Go.Proofs.Ytjihfaebfhbpfaa.PX

/- The reference's list of moves is the list (conditions as there). -/
namespace Go.Proofs.Ytjihfaebfhbpfaa.PX
open Go.RowKit Go.Proofs.YtjihfaebfhbpfaaW.PrintWords Go.Proofs.YtjihfaebfhbpfaaW.PrintLast Go.Proofs.YtjihfaebfhbpfaaW.PrintMore
attribute [local go_sem] max2_int min2_int max_two min_two max_three min_three max_four min_four
set_option linter.unusedVariables false
set_option linter.unusedSimpArgs false
theorem spec_t {c : List Int} {R : List (List (List Int))} {g : List (List Int)} {r b i cc j : Nat} {res : List (List Int)} (hg : g.length ≤ 8) (hb : b < g.length) (hj : j < 4611686018427387904) (x : List (List Int)) (hx : x.length + 256 ≤ 5864062014804)
    (h : Ev (fun k => spec_l02List.l4 k c R (x ++ tailM g r b i cc j) (r : Int) g (b : Int) (i : Int) (cc : Int) ((j + 1 : Nat) : Int)) res) :
    Ev (fun k => spec_l02List.l5 k c R x (r : Int) g (b : Int) (i : Int) (cc : Int) (j : Int) (if cc = b then shl .i64 1 (g.length : Int) else 1) 0) res := by
  have h8 := shl8 hg
  have hbw : IntKind.u64.wrap (b : Int) = (b : Int) := (shl8 (n := b) (by omega)).2.2
  by_cases e : cc = b
  · subst e
    rw [if_pos rfl]
    have key : ∀ (d t : Nat), t + d = (shl .i64 1 (g.length : Int)).toNat → Ev (fun k => spec_l02List.l5 k c R (x ++ (cutsOf (cc : Int) t).map (mv r cc i cc j)) (r : Int) g (cc : Int) (i : Int) (cc : Int) (j : Int) (shl .i64 1 (g.length : Int)) (t : Int)) res := by
      intro d
      induction d with
      | zero =>
        intro t hd
        have ht : t = (shl .i64 1 (g.length : Int)).toNat := by omega
        refine Ev.step (fun k => ?_) h
        rw [spec_l02List.l5, if_neg (by omega), wrapS (i := (j : Int) + 1) (by omega) (by omega), cast_succ, tailM, if_pos rfl, ← ht]
      | succ d ih =>
        intro t hd
        have ih2 := ih (t + 1) (by omega)
        have hl := cutsOf_len (cc : Int) t
        rw [cutsOf_succ, List.map_append, ← List.append_assoc] at ih2
        refine Ev.step (fun k => ?_) ih2
        rw [spec_l02List.l5, if_pos (by omega), if_pos rfl, hbw, if_pos (by omega), wrapS (i := (t : Int) + 1) (by omega) (by omega), cast_succ]
        by_cases q : (Go.bits .and .i64 (shr .i64 (t : Int) (cc : Int)) 1) = 0
        · have hq : cutB (cc : Int) (t : Int) = true := decide_eq_true q
          rw [if_pos q, if_pos hq, if_pos (by rw [List.length_append, List.length_map]; omega)]
          rfl
        · have hq : ¬ cutB (cc : Int) (t : Int) = true := by unfold cutB; simpa using q
          rw [if_neg q, if_neg hq, List.map_nil, List.append_nil]
    have k0 := key (shl .i64 1 (g.length : Int)).toNat 0 (by omega)
    have e0 : (cutsOf (cc : Int) 0).map (mv (r : Int) cc i cc j) = [] := rfl
    rw [e0, List.append_nil] at k0
    exact k0
  · rw [if_neg e]
    rw [tailM, if_neg (fun h_ => e h_.symm)] at h
    have h1 : Ev (fun k => spec_l02List.l5 k c R (x ++ [mv r b i cc j 0]) (r : Int) g (b : Int) (i : Int) (cc : Int) (j : Int) 1 1) res := by
      refine Ev.step (fun k => ?_) h
      rw [spec_l02List.l5, if_neg (by omega), wrapS (i := (j : Int) + 1) (by omega) (by omega), cast_succ]
      rfl
    refine Ev.step (fun k => ?_) h1
    rw [spec_l02List.l5, if_pos (by omega), if_neg (by omega), if_pos (by omega), show wrap64 (0 + 1) = (1 : Int) from by unfold wrap64; omega]
    rfl
theorem spec_l4' {c : List Int} {R : List (List (List Int))} {g : List (List Int)} {bb bd : List Int} {s : Int} {r b i cc : Nat} {res : List (List Int)} (hg : g.length ≤ 8) (hbb : g[b]? = some bb) (hs : bb[i]? = some s) (hbd : g[cc]? = some bd) (hin : ∀ row ∈ g, row.length ≤ 1048576 ∧ ∀ t ∈ row, 0 ≤ t ∧ t < (c.length : Int)) : ∀ (d j : Nat) (x : List (List Int)), j + d = bd.length → (cc = b → i ≤ j) → x.length + (mJ c g r b i cc s j (bd.drop j)).length + 256 ≤ 5864062014804 → Ev (fun k => spec_l02List.l3 k c R (x ++ mJ c g r b i cc s j (bd.drop j)) (r : Int) g (b : Int) (i : Int) ((cc + 1 : Nat) : Int)) res → Ev (fun k => spec_l02List.l4 k c R x (r : Int) g (b : Int) (i : Int) (cc : Int) (j : Int)) res
  | 0, j, x, hd, hij, hx, h => by
    have hc1 := (List.getElem?_eq_some_iff.1 hbd).1
    rw [List.drop_of_length_le (by omega), mJ, List.append_nil] at h
    refine Ev.step (fun k => ?_) h
    rw [spec_l02List.l4, rdL1_nat, getD_of hbd, if_pos (by omega), if_pos (by omega), if_neg (by omega), wrapS (i := (cc : Int) + 1) (by omega) (by omega), cast_succ]
  | d + 1, j, x, hd, hij, hx, h => by
    have hc1 := (List.getElem?_eq_some_iff.1 hbd).1
    have hb1 := (List.getElem?_eq_some_iff.1 hbb).1
    have hi1 := (List.getElem?_eq_some_iff.1 hs).1
    have hbl := (hin bd (List.mem_of_getElem? hbd)).1
    obtain ⟨t, ht⟩ := get_some (xs := bd) (i := j) (by omega)
    have hs2 := (hin bb (List.mem_of_getElem? hbb)).2 s (List.mem_of_getElem? hs)
    have ht2 := (hin bd (List.mem_of_getElem? hbd)).2 t (List.mem_of_getElem? ht)
    have hgl := (shl8 hg).2.2
    rw [drop_of ht, mJ] at h hx
    rw [List.length_append] at hx
    by_cases ha : alive c s t = true
    · have hcond : ¬ ((cc = b ∧ j < i) ∨ alive c s t = false) := by
        rintro (⟨e, hl⟩ | hf)
        · have := hij e; omega
        · rw [ha] at hf; cases hf
      rw [if_neg hcond] at h hx
      have ih := spec_l4' (R := R) (r := r) (res := res) hg hbb hs hbd hin d (j + 1) (x ++ tailM g r b i cc j) (by omega) (fun e => by have := hij e; omega) (by rw [List.length_append]; omega) (by rw [List.append_assoc]; exact h)
      have h5 := spec_t (R := R) (r := r) (i := i) (cc := cc) (res := res) hg hb1 (by omega) x (by omega) ih
      have h6 : Ev (fun k => spec_l02List.j6 k c R x (r : Int) g (b : Int) (i : Int) (cc : Int) (j : Int) (if cc = b then shl .i64 1 (g.length : Int) else 1)) res := Ev.step (fun k => by rw [spec_l02List.j6]) h5
      refine Ev.step (fun k => ?_) h6
      rw [spec_l02List.l4, rdL1_nat, getD_of hbd, rdL1_nat, getD_of hbb, rd_nat, getD_of hs, rd_nat, getD_of ht, if_pos (by omega), if_pos (by omega), if_pos (by omega), if_pos (by omega), if_pos (by omega), if_pos (by omega), if_pos (by omega), if_pos (by omega), alive_spec hs2 ht2, Option.bind_some, if_pos ha, hgl]
      by_cases e : cc = b
      · rw [if_pos (by omega), if_pos (by omega), if_pos e]
      · rw [if_neg (by omega), if_neg e]
    · have hf : alive c s t = false := by simpa using ha
      rw [if_pos (Or.inr hf)] at h hx
      rw [List.nil_append] at h
      rw [List.length_nil] at hx
      have ih := spec_l4' (R := R) (r := r) (res := res) hg hbb hs hbd hin d (j + 1) x (by omega) (fun e => by have := hij e; omega) (by omega) h
      refine Ev.step (fun k => ?_) ih
      rw [spec_l02List.l4, rdL1_nat, getD_of hbd, rdL1_nat, getD_of hbb, rd_nat, getD_of hs, rd_nat, getD_of ht, if_pos (by omega), if_pos (by omega), if_pos (by omega), if_pos (by omega), if_pos (by omega), if_pos (by omega), if_pos (by omega), if_pos (by omega), alive_spec hs2 ht2, Option.bind_some, if_neg ha, wrapS (i := (j : Int) + 1) (by omega) (by omega), cast_succ]
theorem spec_l3' {c : List Int} {R : List (List (List Int))} {g : List (List Int)} {bb : List Int} {s : Int} {r b i : Nat} {res : List (List Int)} (hg : g.length ≤ 8) (hbb : g[b]? = some bb) (hs : bb[i]? = some s) (hin : ∀ row ∈ g, row.length ≤ 1048576 ∧ ∀ t ∈ row, 0 ≤ t ∧ t < (c.length : Int)) : ∀ (d cc : Nat) (x : List (List Int)), cc + d = g.length → x.length + (mC c g r b i s cc (g.drop cc)).length + 256 ≤ 5864062014804 → Ev (fun k => spec_l02List.l2 k c R (x ++ mC c g r b i s cc (g.drop cc)) (r : Int) g (b : Int) ((i + 1 : Nat) : Int)) res → Ev (fun k => spec_l02List.l3 k c R x (r : Int) g (b : Int) (i : Int) (cc : Int)) res
  | 0, cc, x, hd, hx, h => by
    have hi1 := (List.getElem?_eq_some_iff.1 hs).1
    have hbl := (hin bb (List.mem_of_getElem? hbb)).1
    rw [List.drop_of_length_le (by omega), mC, List.append_nil] at h
    refine Ev.step (fun k => ?_) h
    rw [spec_l02List.l3, if_neg (by omega), wrapS (i := (i : Int) + 1) (by omega) (by omega), cast_succ]
  | d + 1, cc, x, hd, hx, h => by
    obtain ⟨bd, hbd⟩ := get_some (xs := g) (i := cc) (by omega)
    have hi1 := (List.getElem?_eq_some_iff.1 hs).1
    rw [drop_of hbd, mC] at h hx
    rw [List.length_append] at hx
    have ih := spec_l3' (R := R) (r := r) (res := res) hg hbb hs hin d (cc + 1) (x ++ mJ c g r b i cc s 0 bd) (by omega) (by rw [List.length_append]; omega) (by rw [List.append_assoc]; exact h)
    by_cases e : cc = b
    · subst e
      obtain rfl : bb = bd := Option.some.inj (hbb.symm.trans hbd)
      have hsk := mJ_skip c g r cc i s bb (by omega) i 0 (by omega)
      rw [List.drop_zero] at hsk
      rw [hsk] at ih hx
      have h4 := spec_l4' (R := R) (r := r) (res := res) hg hbb hs hbd hin (bb.length - i) i x (by omega) (fun _ => Nat.le_refl _) (by omega) ih
      have h5 : Ev (fun k => spec_l02List.j4 k c R x (r : Int) g (cc : Int) (i : Int) (cc : Int) (i : Int)) res := Ev.step (fun k => by rw [spec_l02List.j4]) h4
      refine Ev.step (fun k => ?_) h5
      rw [spec_l02List.l3, if_pos (by omega), if_pos rfl]
    · have h4 := spec_l4' (R := R) (r := r) (i := i) (res := res) hg hbb hs hbd hin bd.length 0 x (by omega) (fun e_ => absurd e_ e) (by rw [List.drop_zero]; omega) (by rw [List.drop_zero]; exact ih)
      have h5 : Ev (fun k => spec_l02List.j4 k c R x (r : Int) g (b : Int) (i : Int) (cc : Int) 0) res := Ev.step (fun k => by rw [spec_l02List.j4]; rfl) h4
      refine Ev.step (fun k => ?_) h5
      rw [spec_l02List.l3, if_pos (by omega), if_neg (by omega)]
theorem spec_l2' {c : List Int} {R : List (List (List Int))} {g : List (List Int)} {bb : List Int} {r b : Nat} {res : List (List Int)} (hg : g.length ≤ 8) (hbb : g[b]? = some bb) (hin : ∀ row ∈ g, row.length ≤ 1048576 ∧ ∀ t ∈ row, 0 ≤ t ∧ t < (c.length : Int)) : ∀ (d i : Nat) (x : List (List Int)), i + d = bb.length → x.length + (mI c g r b i (bb.drop i)).length + 256 ≤ 5864062014804 → Ev (fun k => spec_l02List.l1 k c R (x ++ mI c g r b i (bb.drop i)) (r : Int) g ((b + 1 : Nat) : Int)) res → Ev (fun k => spec_l02List.l2 k c R x (r : Int) g (b : Int) (i : Int)) res
  | 0, i, x, hd, hx, h => by
    have hb1 := (List.getElem?_eq_some_iff.1 hbb).1
    rw [List.drop_of_length_le (by omega), mI, List.append_nil] at h
    refine Ev.step (fun k => ?_) h
    rw [spec_l02List.l2, rdL1_nat, getD_of hbb, if_pos (by omega), if_pos (by omega), if_neg (by omega), wrapS (i := (b : Int) + 1) (by omega) (by omega), cast_succ]
  | d + 1, i, x, hd, hx, h => by
    have hb1 := (List.getElem?_eq_some_iff.1 hbb).1
    obtain ⟨s, hs⟩ := get_some (xs := bb) (i := i) (by omega)
    rw [drop_of hs, mI] at h hx
    rw [List.length_append] at hx
    have ih := spec_l2' (R := R) (r := r) (res := res) hg hbb hin d (i + 1) (x ++ mC c g r b i s b (g.drop b)) (by omega) (by rw [List.length_append]; omega) (by rw [List.append_assoc]; exact h)
    have h3 := spec_l3' (R := R) (r := r) (res := res) hg hbb hs hin (g.length - b) b x (by omega) (by omega) ih
    refine Ev.step (fun k => ?_) h3
    rw [spec_l02List.l2, rdL1_nat, getD_of hbb, if_pos (by omega), if_pos (by omega), if_pos (by omega)]
theorem spec_l1' {c : List Int} {R : List (List (List Int))} {g : List (List Int)} {r : Nat} {res : List (List Int)} (hr : r < 4611686018427387904) (hg : g.length ≤ 8) (hin : ∀ row ∈ g, row.length ≤ 1048576 ∧ ∀ t ∈ row, 0 ≤ t ∧ t < (c.length : Int)) : ∀ (d b : Nat) (x : List (List Int)), b + d = g.length → x.length + (mB c g r b (g.drop b)).length + 256 ≤ 5864062014804 → Ev (fun k => spec_l02List.l0 k c R (x ++ mB c g r b (g.drop b)) ((r + 1 : Nat) : Int)) res → Ev (fun k => spec_l02List.l1 k c R x (r : Int) g (b : Int)) res
  | 0, b, x, hd, hx, h => by
    rw [List.drop_of_length_le (by omega), mB, List.append_nil] at h
    refine Ev.step (fun k => ?_) h
    rw [spec_l02List.l1, if_neg (by omega), wrapS (i := (r : Int) + 1) (by omega) (by omega), cast_succ]
  | d + 1, b, x, hd, hx, h => by
    obtain ⟨bb, hbb⟩ := get_some (xs := g) (i := b) (by omega)
    rw [drop_of hbb, mB] at h hx
    rw [List.length_append] at hx
    have ih := spec_l1' (R := R) (res := res) hr hg hin d (b + 1) (x ++ mI c g r b 0 bb) (by omega) (by rw [List.length_append]; omega) (by rw [List.append_assoc]; exact h)
    have h2 := spec_l2' (R := R) (r := r) (res := res) hg hbb hin bb.length 0 x (by omega) (by rw [List.drop_zero]; omega) (by rw [List.drop_zero]; exact ih)
    refine Ev.step (fun k => ?_) h2
    rw [spec_l02List.l1, if_pos (by omega)]
    rfl
theorem spec_l0' {c : List Int} {R : List (List (List Int))} (hL : R.length < 4611686018427387904) (hR : ∀ g ∈ R, g.length ≤ 8 ∧ ∀ row ∈ g, row.length ≤ 1048576 ∧ ∀ t ∈ row, 0 ≤ t ∧ t < (c.length : Int)) : ∀ (d r : Nat) (x : List (List Int)), r + d = R.length → x.length + (mR c r (R.drop r)).length + 256 ≤ 5864062014804 → Ev (fun k => spec_l02List.l0 k c R x (r : Int)) (x ++ mR c r (R.drop r))
  | 0, r, x, hd, hx => by
    rw [List.drop_of_length_le (by omega), mR, List.append_nil]
    refine Ev.step (f := fun _ => some x) (fun k => ?_) (Ev.now _)
    rw [spec_l02List.l0, if_neg (by omega)]
  | d + 1, r, x, hd, hx => by
    obtain ⟨g, hg⟩ := get_some (xs := R) (i := r) (by omega)
    have hm := hR g (List.mem_of_getElem? hg)
    rw [drop_of hg, mR] at hx ⊢
    rw [List.length_append] at hx
    have ih := spec_l0' hL hR d (r + 1) (x ++ mB c g r 0 g) (by omega) (by rw [List.length_append]; omega)
    rw [List.append_assoc] at ih
    have h1 := spec_l1' (R := R) (r := r) (by omega) hm.1 hm.2 g.length 0 x (by omega) (by rw [List.drop_zero]; omega) (by rw [List.drop_zero]; exact ih)
    refine Ev.step (fun k => ?_) h1
    rw [spec_l02List.l0, if_pos (by omega), if_pos (by omega), rdL2_nat, getD_of hg]
    rfl

end Go.Proofs.Ytjihfaebfhbpfaa.PX

/- The lives of a sprouts position: both sides (no condition but sizes that fit). -/
namespace Go.Proofs.Ytjihfaebfhbpfaa.PX
open Go.RowKit Go.Proofs.YtjihfaebfhbpfaaW.PrintWords Go.Proofs.YtjihfaebfhbpfaaW.PrintLast Go.Proofs.YtjihfaebfhbpfaaW.PrintMore
attribute [local go_sem] max2_int min2_int max_two min_two max_three min_three max_four min_four
set_option linter.unusedVariables false
set_option linter.unusedSimpArgs false
theorem finB_len (al : List Bool) : ∀ (d i : Nat) (c c' : List Int), finB al d i c = some c' → c'.length = c.length
  | 0, i, c, c', h => by
    simp only [finB, Option.some.injEq] at h
    rw [h]
  | d + 1, i, c, c', h => by
    unfold finB at h
    split at h
    · cases h
    · split at h
      · have := finB_len al d (i + 1) _ c' h
        rw [this, List.length_set]
      · exact finB_len al d (i + 1) c c' h
theorem degOf_len {n : Int} {R : List (List (List Int))} {c : List Int} (h : degOf n R = some c) : c.length ≤ 20 := by
  unfold degOf at h
  split at h
  · rename_i hc
    obtain ⟨s, h1, h2⟩ := Option.bind_eq_some_iff.1 h
    have e1 := allB_len n _ _ s h1
    have e2 := finB_len s.2 _ _ _ c h2
    simp only [List.length_replicate] at e1
    omega
  · cases h
theorem pair_len (n : Int) (R : List (List (List Int))) : (pairOf (degOf n R)).1.length ≤ 20 := by
  cases h : degOf n R with
  | none => exact Nat.zero_le _
  | some c => exact degOf_len h
def livesL : List Int → Int → Int
  | [], a => a
  | x :: t, a => livesL t (wrap64 (wrap64 (a + 3) - x))
theorem lw (a x : Int) : wrap64 (a + wrap64 (3 - x)) = wrap64 (wrap64 (a + 3) - x) := by unfold wrap64; omega
theorem specLives_loop (c : List Int) (hc : c.length ≤ 20) : ∀ (d i : Nat) (a : Int), i + d = c.length → Ev (fun k => spec_l02Lives.l0 k c a (i : Int)) (livesL (c.drop i) a)
  | 0, i, a, hd => by
    rw [List.drop_of_length_le (by omega)]
    refine Ev.step (f := fun _ => some _) (fun k => ?_) (Ev.now _)
    rw [spec_l02Lives.l0, if_neg (by omega)]
    rfl
  | d + 1, i, a, hd => by
    obtain ⟨x, hx⟩ := get_some (xs := c) (i := i) (by omega)
    rw [drop_of hx]
    have ih := specLives_loop c hc d (i + 1) (wrap64 (wrap64 (a + 3) - x)) (by omega)
    refine Ev.step (fun k => ?_) ih
    rw [spec_l02Lives.l0, if_pos (by omega), if_pos (by omega), rd_nat, getD_of hx, wrapS (i := (i : Int) + 1) (by omega) (by omega), cast_succ]
theorem implLives_loop (code : Int) (c : List Int) (hc : c.length ≤ 20) : ∀ (d i : Nat) (a : Int), i + d = c.length → Ev (fun k => impl_LivesOf.l0 k code a c (c.length : Int) (i : Int)) (livesL (c.drop i) a, code)
  | 0, i, a, hd => by
    rw [List.drop_of_length_le (by omega)]
    refine Ev.step (f := fun _ => some _) (fun k => ?_) (Ev.now _)
    rw [impl_LivesOf.l0, if_neg (by omega)]
    rfl
  | d + 1, i, a, hd => by
    obtain ⟨x, hx⟩ := get_some (xs := c) (i := i) (by omega)
    rw [drop_of hx]
    have ih := implLives_loop code c hc d (i + 1) (wrap64 (wrap64 (a + 3) - x)) (by omega)
    refine Ev.step (fun k => ?_) ih
    rw [impl_LivesOf.l0, if_pos (by omega), if_pos (by omega), if_pos (by omega), rd_nat, getD_of hx, lw, wrapS (i := (i : Int) + 1) (by omega) (by omega), cast_succ]
def livesOf (n : Int) (R : List (List (List Int))) : Int × Int := match degOf n R with
  | none => (0, 1)
  | some c => (livesL c 0, 0)
theorem specL_ev {n : Int} {R : List (List (List Int))} {c : List Int} (h : degOf n R = some c) (hS : Ev (fun k => spec_l02Degrees.f k n R) (pairOf (degOf n R))) : Ev (fun k => spec_l02Lives.f k n R) (livesL c 0) := by
  rw [h] at hS
  have hl := specLives_loop c (degOf_len h) c.length 0 0 (by omega)
  rw [List.drop_zero] at hl
  unfold spec_l02Lives.f
  exact Ev.bind hS hl
theorem implDegreesOf_ev {n : Int} {R : List (List (List Int))} (hI : Ev (fun k => impl_Sprouts_degrees.f k n R) (pairOf (degOf n R))) : Ev (fun k => impl_DegreesOf.f k n R) (match degOf n R with
  | none => ([], 1)
  | some c => (c, 0)) := by
  unfold impl_DegreesOf.f
  refine Ev.bind hI ?_
  cases h : degOf n R with
  | none => exact Ev.congr (f := fun _ => some ([], 1)) (fun k => rfl) (Ev.now _)
  | some c => exact Ev.congr (f := fun _ => some (c, 0)) (fun k => rfl) (Ev.now _)
theorem implLives_ev {n : Int} {R : List (List (List Int))} (hI : Ev (fun k => impl_Sprouts_degrees.f k n R) (pairOf (degOf n R))) : Ev (fun k => impl_LivesOf.f k n R) (livesOf n R) := by
  have hD := implDegreesOf_ev hI
  unfold impl_LivesOf.f livesOf
  refine Ev.bind hD ?_
  cases h : degOf n R with
  | none =>
    have hl := implLives_loop 1 [] (by simp) 0 0 0 rfl
    exact hl
  | some c =>
    have hl := implLives_loop 0 c (degOf_len h) c.length 0 0 (by omega)
    rw [List.drop_zero] at hl
    exact hl
def fewV (n : Int) (R : List (List (List Int))) : Int := match degOf n R with
  | none => 1
  | some c => if livesL c 0 > 6 then 3 else if wrap64 (n + livesL c 0) > 20 then 3 else if R.any q8 = true then 3 else 0
theorem few_loop (n : Int) (R : List (List (List Int))) (hL : R.length < 4611686018427387904) : ∀ (d i : Nat), i + d = R.length → Ev (fun k => spec_l02Few.l0 k (i : Int) n R) (if (R.drop i).any q8 = true then 3 else 0)
  | 0, i, hd => by
    rw [List.drop_of_length_le (by omega)]
    refine Ev.step (f := fun _ => some 0) (fun k => ?_) (Ev.now _)
    rw [spec_l02Few.l0, if_neg (by omega)]
  | d + 1, i, hd => by
    obtain ⟨g, hg⟩ := get_some (xs := R) (i := i) (by omega)
    rw [drop_of hg, List.any_cons]
    by_cases q : (g.length : Int) > 8
    · have hq : q8 g = true := decide_eq_true q
      rw [hq, Bool.true_or, if_pos rfl]
      refine Ev.step (f := fun _ => some 3) (fun k => ?_) (Ev.now _)
      rw [spec_l02Few.l0, if_pos (by omega), if_pos (by omega), rdL2_nat, getD_of hg, if_pos q]
    · have hq : q8 g = false := decide_eq_false q
      rw [hq, Bool.false_or]
      refine Ev.step (fun k => ?_) (few_loop n R hL d (i + 1) (by omega))
      rw [spec_l02Few.l0, if_pos (by omega), if_pos (by omega), rdL2_nat, getD_of hg, if_neg q, wrapS (i := (i : Int) + 1) (by omega) (by omega), cast_succ]
theorem specFew_ev {n : Int} {R : List (List (List Int))} (hL : R.length < 4611686018427387904) (hS : Ev (fun k => spec_l02Degrees.f k n R) (pairOf (degOf n R))) : Ev (fun k => spec_l02Few.f k n R) (fewV n R) := by
  unfold spec_l02Few.f spec_l02Is.f fewV
  refine Ev.bind (Ev.bind hS (Ev.now _)) ?_
  cases h : degOf n R with
  | none => exact Ev.congr (f := fun _ => some 1) (fun k => rfl) (Ev.now _)
  | some c =>
    have hl := specL_ev h hS
    show Ev _ (if livesL c 0 > 6 then 3 else if wrap64 (n + livesL c 0) > 20 then 3 else if R.any q8 = true then 3 else 0)
    refine Ev.congr (f := fun k => (spec_l02Lives.f k n R).bind fun t189 => (if t189 > 6 then (some 3) else ((spec_l02Lives.f k n R).bind fun t190 => (if (wrap64 (n + t190)) > 20 then (some 3) else (spec_l02Few.l0 k 0 n R))))) (fun k => by rw [if_pos (show (pairOf (some c)).2 = true from rfl)]) (Ev.bind hl ?_)
    by_cases c1 : livesL c 0 > 6
    · exact Ev.congr (f := fun _ => some _) (fun k => by rw [if_pos c1]) (by rw [if_pos c1]; exact Ev.now _)
    · rw [if_neg c1]
      refine Ev.congr (fun k => by rw [if_neg c1]) (Ev.bind hl ?_)
      by_cases c2 : wrap64 (n + livesL c 0) > 20
      · exact Ev.congr (f := fun _ => some _) (fun k => by rw [if_pos c2]) (by rw [if_pos c2]; exact Ev.now _)
      · rw [if_neg c2]
        have hf := few_loop n R hL R.length 0 (by omega)
        rw [List.drop_zero] at hf
        exact Ev.congr (fun k => by rw [if_neg c2]; rfl) hf
theorem first_ev (v : Bool) : Ev (fun k => impl_first.f k [(⟨v, 3⟩ : S76)]) (if v = true then 0 else 3) := by
  unfold impl_first.f
  cases v with
  | true =>
    refine Ev.step (f := fun k => impl_first.l0 k [(⟨true, 3⟩ : S76)] 1 1) (fun k => ?_) (Ev.step (f := fun _ => some 0) (fun k => ?_) (Ev.now _))
    · rw [show (([(⟨true, 3⟩ : S76)] : List S76).length : Int) = 1 from rfl, impl_first.l0, if_pos (by decide), if_pos (by decide), if_pos (by decide), if_pos (show (rd_T76 [(⟨true, 3⟩ : S76)] 0).f0 = true from rfl), show wrap64 (0 + 1) = (1 : Int) from by unfold wrap64; omega]
    · rw [impl_first.l0, if_neg (by decide)]
  | false =>
    refine Ev.step (f := fun _ => some 3) (fun k => ?_) (Ev.now _)
    rw [show (([(⟨false, 3⟩ : S76)] : List S76).length : Int) = 1 from rfl, impl_first.l0, if_pos (by decide), if_pos (by decide), if_pos (by decide)]
    rfl
theorem implCode_ev {n : Int} {R : List (List (List Int))} (hI : Ev (fun k => impl_Sprouts_degrees.f k n R) (pairOf (degOf n R))) : Ev (fun k => impl_sproutCode.f k n R) (fewV n R) := by
  have hl := implLives_ev hI
  unfold impl_sproutCode.f fewV
  refine Ev.bind hl ?_
  unfold livesOf
  cases h : degOf n R with
  | none => exact Ev.congr (f := fun _ => some 1) (fun k => rfl) (Ev.now _)
  | some c =>
    show Ev _ (if livesL c 0 > 6 then 3 else if wrap64 (n + livesL c 0) > 20 then 3 else if R.any q8 = true then 3 else 0)
    by_cases c1 : livesL c 0 > 6
    · rw [if_pos c1]
      refine Ev.congr (f := fun k => (impl_first.f k [(⟨false, 3⟩ : S76)]).bind fun t => some t) (fun k => ?_) (Ev.bind (first_ev false) (Ev.now _))
      show (if (0 : Int) = 0 then _ else _) = _
      rw [if_pos rfl, if_neg (by show ¬ livesL c 0 ≤ 6; omega)]
    · rw [if_neg c1]
      by_cases c2 : wrap64 (n + livesL c 0) > 20
      · rw [if_pos c2]
        refine Ev.congr (f := fun k => (impl_first.f k [(⟨false, 3⟩ : S76)]).bind fun t => some t) (fun k => ?_) (Ev.bind (first_ev false) (Ev.now _))
        show (if (0 : Int) = 0 then _ else _) = _
        rw [if_pos rfl, if_pos (by show livesL c 0 ≤ 6; omega), if_neg (by show ¬ wrap64 (n + livesL c 0) ≤ 20; omega)]
      · rw [if_neg c2]
        have hf := first_ev (!(R.any q8))
        have e : (if (!(R.any q8)) = true then (0 : Int) else 3) = (if R.any q8 = true then 3 else 0) := by cases R.any q8 <;> rfl
        rw [e] at hf
        refine Ev.congr (f := fun k => (impl_first.f k [(⟨!(R.any q8), 3⟩ : S76)]).bind fun t => some t) (fun k => ?_) (Ev.bind hf (Ev.now _))
        show (if (0 : Int) = 0 then _ else _) = _
        rw [if_pos rfl, if_pos (by show livesL c 0 ≤ 6; omega), if_pos (by show wrap64 (n + livesL c 0) ≤ 20; omega)]

end Go.Proofs.Ytjihfaebfhbpfaa.PX

/- What both sides tell (conditions: sizes that fit). -/
namespace Go.Proofs.Ytjihfaebfhbpfaa.PX
open Go.RowKit Go.Proofs.YtjihfaebfhbpfaaW.PrintWords Go.Proofs.YtjihfaebfhbpfaaW.PrintLast Go.Proofs.YtjihfaebfhbpfaaW.PrintMore
attribute [local go_sem] max2_int min2_int max_two min_two max_three min_three max_four min_four
set_option linter.unusedVariables false
set_option linter.unusedSimpArgs false
def sumL : List Int → Int
  | [] => 0
  | x :: t => x + sumL t
theorem sumL_pos : ∀ (xs : List Int), (∀ x ∈ xs, 0 ≤ x) → 0 ≤ sumL xs ∧ ∀ j, xs.getD j 0 ≤ sumL xs ∧ 0 ≤ xs.getD j 0
  | [], _ => ⟨Int.le_refl _, fun j => by simp [sumL]⟩
  | x :: t, h => by
    have ih := sumL_pos t (fun y hy => h y (List.mem_cons_of_mem _ hy))
    have hx := h x (List.mem_cons_self ..)
    refine ⟨by simp only [sumL]; have := ih.1; omega, fun j => ?_⟩
    cases j with
    | zero => simp only [sumL, List.getD_cons_zero]; have := ih.1; omega
    | succ j => simp only [sumL, List.getD_cons_succ]; have := ih.2 j; omega
theorem sumL_set : ∀ (xs : List Int) (i : Nat) (v : Int), i < xs.length → sumL (xs.set i v) = sumL xs - xs.getD i 0 + v
  | [], i, v, h => absurd h (by simp)
  | x :: t, 0, v, h => by simp only [List.set_cons_zero, sumL, List.getD_cons_zero]; omega
  | x :: t, i + 1, v, h => by
    have := sumL_set t i v (by simpa using h)
    simp only [List.set_cons_succ, sumL, List.getD_cons_succ, this]
    omega
theorem stepB_sum (n : Int) (b : List Int) : ∀ (l : List Int) (s s' : List Int × List Bool), stepB n b l s = some s' → s.1.length = n.toNat → (∀ x ∈ s.1, 0 ≤ x) → sumL s.1 + l.length < 4611686018427387904 → sumL s'.1 = sumL s.1 + l.length ∧ (∀ x ∈ s'.1, 0 ≤ x) ∧ ∀ x ∈ l, 0 ≤ x ∧ x ≤ n - 1
  | [], s, s', h, hl, hp, hs => by
    simp only [stepB, Option.some.injEq] at h
    subst h
    exact ⟨by simp, hp, fun x hx => absurd hx (by simp)⟩
  | x :: t, s, s', h, hl, hp, hs => by
    rw [stepB] at h
    split at h
    · rename_i hx
      have hxl : x.toNat < s.1.length := by omega
      have hg := (sumL_pos s.1 hp).2 x.toNat
      simp only [List.length_cons] at hs
      have hw : wrap64 (s.1.getD x.toNat 0 + 1) = s.1.getD x.toNat 0 + 1 := wrapS (by omega) (by omega)
      rw [hw] at h
      have he := sumL_set s.1 x.toNat (s.1.getD x.toNat 0 + 1) hxl
      have ih := stepB_sum n b t _ s' h (by rw [List.length_set]; exact hl) (fun y hy => by
        rcases List.mem_or_eq_of_mem_set hy with h1 | h1
        · exact hp y h1
        · omega) (by show sumL (s.1.set _ _) + _ < _; omega)
      refine ⟨?_, ih.2.1, fun y hy => ?_⟩
      · rw [ih.1, he, List.length_cons]
        omega
      · rcases List.mem_cons.1 hy with rfl | hy
        · exact hx
        · exact ih.2.2 y hy
    · cases h
theorem allB_sum (n : Int) : ∀ (l : List (List Int)) (s s' : List Int × List Bool), allB n l s = some s' → s.1.length = n.toNat → (∀ x ∈ s.1, 0 ≤ x) → sumL s.1 + total l < 4611686018427387904 → sumL s'.1 = sumL s.1 + total l ∧ (∀ x ∈ s'.1, 0 ≤ x) ∧ ∀ b ∈ l, ∀ x ∈ b, 0 ≤ x ∧ x ≤ n - 1
  | [], s, s', h, hl, hp, hs => by
    simp only [allB, Option.some.injEq] at h
    subst h
    exact ⟨by simp [total], hp, fun x hx => absurd hx (by simp)⟩
  | b :: t, s, s', h, hl, hp, hs => by
    rw [allB] at h
    split at h
    · cases h
    · obtain ⟨m, h1, h2⟩ := Option.bind_eq_some_iff.1 h
      simp only [total] at hs
      have ht := total_nonneg t
      have a1 := stepB_sum n b b s m h1 hl hp (by omega)
      have a2 := allB_sum n t m s' h2 (by rw [(stepB_len n b b s m h1).1]; exact hl) a1.2.1 (by omega)
      refine ⟨by simp only [total]; omega, a2.2.1, fun y hy => ?_⟩
      rcases List.mem_cons.1 hy with rfl | hy
      · exact a1.2.2
      · exact a2.2.2 y hy
theorem fin_le (al : List Bool) : ∀ (d i : Nat) (c c' : List Int), finB al d i c = some c' → i + d = c.length → ∀ j, i ≤ j → j < c.length → c.getD j 0 ≤ 3
  | 0, i, c, c', h, hd, j, h1, h2 => by omega
  | d + 1, i, c, c', h, hd, j, h1, h2 => by
    unfold finB at h
    split at h
    · cases h
    · rename_i hn
      rcases Nat.eq_or_lt_of_le h1 with rfl | h3
      · omega
      · split at h
        · have := fin_le al d (i + 1) _ c' h (by rw [List.length_set]; omega) j h3 (by rw [List.length_set]; exact h2)
          rwa [List.getD_eq_getElem?_getD, List.getElem?_set_ne (by omega), ← List.getD_eq_getElem?_getD] at this
        · exact fin_le al d (i + 1) c c' h (by omega) j h3 h2
theorem sumL_le3 : ∀ c : List Int, (∀ j, j < c.length → c.getD j 0 ≤ 3) → sumL c ≤ 3 * c.length
  | [], _ => by simp [sumL]
  | x :: t, h => by
    have ih := sumL_le3 t (fun j hj => by have := h (j + 1) (by simpa using hj); simpa using this)
    have := h 0 (by simp)
    simp only [List.getD_cons_zero] at this
    simp only [sumL, List.length_cons]
    omega
theorem total3_flat : ∀ R : List (List (List Int)), total R.flatten = total3 R
  | [] => rfl
  | g :: t => by rw [List.flatten_cons, total_append, total3_flat t]; rfl
theorem total3_mem : ∀ (R : List (List (List Int))) (g : List (List Int)), g ∈ R → total g ≤ total3 R
  | [], g, h => absurd h (by simp)
  | x :: t, g, h => by
    have h1 := total3_nonneg t
    have h2 := total_nonneg x
    simp only [total3]
    rcases List.mem_cons.1 h with rfl | h
    · omega
    · have := total3_mem t g h
      omega
theorem sumL_zero (m : Nat) : sumL (List.replicate m 0) = 0 := by
  induction m with
  | zero => rfl
  | succ m ih => rw [List.replicate_succ, sumL, ih]; rfl
theorem pos_facts {n : Int} {R : List (List (List Int))} {c : List Int} (h : degOf n R = some c) (hT : total3 R < 2305843009213693952) : total3 R ≤ 60 ∧ ∀ g ∈ R, ∀ b ∈ g, ∀ x ∈ b, 0 ≤ x ∧ x < (c.length : Int) := by
  unfold degOf at h
  split at h
  · rename_i hc
    obtain ⟨s, h1, h2⟩ := Option.bind_eq_some_iff.1 h
    have e1 := allB_len n _ _ s h1
    have e2 := finB_len s.2 _ _ _ c h2
    simp only [List.length_replicate] at e1
    have a := allB_sum n R.flatten _ s h1 (by simp) (fun x hx => by rw [(List.mem_replicate.1 hx).2]; exact Int.le_refl _) (by rw [sumL_zero, total3_flat]; omega)
    rw [sumL_zero, total3_flat] at a
    have f := fin_le s.2 _ 0 _ c h2 (by omega)
    have l3 := sumL_le3 s.1 (fun j hj => f j (Nat.zero_le _) hj)
    refine ⟨by omega, fun g hg b hb x hx => ?_⟩
    have := a.2.2 b (List.mem_flatten.2 ⟨g, hg, hb⟩) x hx
    omega
  · cases h
theorem few_zero {n : Int} {R : List (List (List Int))} (h : fewV n R = 0) : ∃ c, degOf n R = some c ∧ ∀ g ∈ R, g.length ≤ 8 := by
  unfold fewV at h
  cases hd : degOf n R with
  | none => rw [hd] at h; cases h
  | some c =>
    refine ⟨c, rfl, fun g hg => ?_⟩
    rw [hd] at h
    have h' : (if livesL c 0 > 6 then (3 : Int) else if wrap64 (n + livesL c 0) > 20 then 3 else if R.any q8 = true then 3 else 0) = 0 := h
    split at h'
    · cases h'
    · split at h'
      · cases h'
      · split at h'
        · cases h'
        · rename_i hq
          have hf : q8 g = false := by
            cases hx : q8 g with
            | false => rfl
            | true => exact absurd (List.any_eq_true.2 ⟨g, hg, hx⟩) hq
          have := of_decide_eq_false hf
          omega
def movesV (n : Int) (R : List (List (List Int))) : List (List Int) × Int := if fewV n R = 0 then (mR ((degOf n R).getD []) 0 R, 0) else ([], fewV n R)
theorem moves_ok {n : Int} {R : List (List (List Int))} {c : List Int} (h : degOf n R = some c) (hT : total3 R < 2305843009213693952) (h8 : ∀ g ∈ R, g.length ≤ 8) : (∀ g ∈ R, g.length ≤ 8 ∧ ∀ row ∈ g, row.length ≤ 1048576 ∧ ∀ t ∈ row, 0 ≤ t ∧ t < (c.length : Int)) ∧ (mR c 0 R).length ≤ 921600 := by
  obtain ⟨h60, hin⟩ := pos_facts h hT
  refine ⟨fun g hg => ⟨h8 g hg, fun row hr => ⟨?_, hin g hg row hr⟩⟩, ?_⟩
  · have h1 := total_mem hr
    have h2 := total3_mem R g hg
    omega
  · have := mR_len c R 0 (fun g hg => ⟨h8 g hg, by have := total3_mem R g hg; omega⟩)
    omega
theorem specMoves_ev {n : Int} {R : List (List (List Int))} (hL : R.length ≤ 1048576) (hT : total3 R < 2305843009213693952) (hS : Ev (fun k => spec_l02Degrees.f k n R) (pairOf (degOf n R))) : Ev (fun k => spec_SproutMoves.f k n R) (movesV n R) := by
  have hF := specFew_ev (by omega) hS
  unfold spec_SproutMoves.f movesV
  refine Ev.bind hF ?_
  by_cases c0 : fewV n R = 0
  · obtain ⟨c, hd, h8⟩ := few_zero c0
    obtain ⟨hR, hl⟩ := moves_ok hd hT h8
    rw [if_pos c0, hd]
    rw [hd] at hS
    have hm := spec_l0' (c := c) (R := R) (by omega) hR R.length 0 [] (by omega) (by rw [List.drop_zero, List.length_nil]; omega)
    rw [List.drop_zero, List.nil_append] at hm
    have h2 : Ev (fun k => spec_l02Moves.f k n R) (mR c 0 R) := by
      unfold spec_l02Moves.f
      exact Ev.bind hS (Ev.bind (g := fun k => spec_l02List.f k c R) hm (Ev.now _))
    exact Ev.congr (f := fun k => (spec_l02Moves.f k n R).bind fun t => some (t, 0)) (fun k => by rw [if_pos c0]) (Ev.bind h2 (Ev.now _))
  · rw [if_neg c0]
    exact Ev.congr (f := fun _ => some ([], fewV n R)) (fun k => by rw [if_neg c0]) (Ev.now _)
theorem implMoves_ev {n : Int} {R : List (List (List Int))} (hL : R.length ≤ 1048576) (hT : total3 R < 2305843009213693952) (hI : Ev (fun k => impl_Sprouts_degrees.f k n R) (pairOf (degOf n R))) : Ev (fun k => impl_SproutMoves.f k n R) (movesV n R) := by
  have hF := implCode_ev hI
  unfold impl_SproutMoves.f movesV
  refine Ev.bind hF ?_
  by_cases c0 : fewV n R = 0
  · obtain ⟨c, hd, h8⟩ := few_zero c0
    obtain ⟨hR, hl⟩ := moves_ok hd hT h8
    rw [if_pos c0, hd]
    rw [hd] at hI
    have hm := impl_l0' (c := c) (R := R) (by omega) hR R.length 0 [] (by omega) (by rw [List.drop_zero, List.length_nil]; omega)
    rw [List.drop_zero, List.nil_append] at hm
    have h2 : Ev (fun k => impl_sproutMoves.f k n R) (mR c 0 R) := by
      unfold impl_sproutMoves.f
      exact Ev.bind hI hm
    exact Ev.congr (f := fun k => (impl_sproutMoves.f k n R).bind fun t => some (t, 0)) (fun k => by rw [if_pos c0]) (Ev.bind h2 (Ev.now _))
  · rw [if_neg c0]
    exact Ev.congr (f := fun _ => some ([], fewV n R)) (fun k => by rw [if_neg c0]) (Ev.now _)
def All6 (l : List (List Int)) : Prop := ∀ row ∈ l, row.length = 6
theorem all6_nil : All6 [] := fun row h => absurd h (by simp)
theorem all6_app {a b : List (List Int)} (ha : All6 a) (hb : All6 b) : All6 (a ++ b) := fun row h => (List.mem_append.1 h).elim (ha row) (hb row)
theorem tail6 (g : List (List Int)) (r b i cc j : Nat) : All6 (tailM g r b i cc j) := fun row h => by
  unfold tailM at h
  obtain ⟨t, _, rfl⟩ := List.mem_map.1 h
  rfl
theorem mJ6 (c : List Int) (g : List (List Int)) (r b i cc : Nat) (s : Int) : ∀ (bd : List Int) (j : Nat), All6 (mJ c g r b i cc s j bd)
  | [], j => all6_nil
  | t :: ts, j => by
    rw [mJ]
    refine all6_app ?_ (mJ6 c g r b i cc s ts (j + 1))
    split
    · exact all6_nil
    · exact tail6 g r b i cc j
theorem mC6 (c : List Int) (g : List (List Int)) (r b i : Nat) (s : Int) : ∀ (rest : List (List Int)) (cc : Nat), All6 (mC c g r b i s cc rest)
  | [], cc => all6_nil
  | bd :: rest, cc => by rw [mC]; exact all6_app (mJ6 c g r b i cc s bd 0) (mC6 c g r b i s rest (cc + 1))
theorem mI6 (c : List Int) (g : List (List Int)) (r b : Nat) : ∀ (ss : List Int) (i : Nat), All6 (mI c g r b i ss)
  | [], i => all6_nil
  | s :: ss, i => by rw [mI]; exact all6_app (mC6 c g r b i s (g.drop b) b) (mI6 c g r b ss (i + 1))
theorem mB6 (c : List Int) (g : List (List Int)) (r : Nat) : ∀ (rest : List (List Int)) (b : Nat), All6 (mB c g r b rest)
  | [], b => all6_nil
  | bd :: rest, b => by rw [mB]; exact all6_app (mI6 c g r b bd 0) (mB6 c g r rest (b + 1))
theorem mR6 (c : List Int) : ∀ (R : List (List (List Int))) (r : Nat), All6 (mR c r R)
  | [], r => all6_nil
  | g :: rest, r => by rw [mR]; exact all6_app (mB6 c g r g 0) (mR6 c rest (r + 1))
theorem moves_fit (n : Int) (R : List (List (List Int))) (hT : total3 R < 2305843009213693952) : (movesV n R).1.length ≤ 921600 ∧ ∀ row ∈ (movesV n R).1, row.length ≤ 6 := by
  unfold movesV
  by_cases c0 : fewV n R = 0
  · obtain ⟨c, hd, h8⟩ := few_zero c0
    rw [if_pos c0, hd]
    exact ⟨(moves_ok hd hT h8).2, fun row hr => Nat.le_of_eq (mR6 c R 0 row hr)⟩
  · rw [if_neg c0]
    exact ⟨by simp, fun row h => absurd h (by simp)⟩

end Go.Proofs.Ytjihfaebfhbpfaa.PX

/- The law FnExactSproutMoves holds of every position: both sides tell the same. -/
namespace Go.Proofs.Ytjihfaebfhbpfaa.PX
open Go.RowKit Go.Proofs.YtjihfaebfhbpfaaW.PrintWords Go.Proofs.YtjihfaebfhbpfaaW.PrintLast Go.Proofs.YtjihfaebfhbpfaaW.PrintMore
theorem total3_le : ∀ R : List (List (List Int)), (∀ g ∈ R, total g ≤ 1048576) → total3 R ≤ (R.length : Int) * 1048576
  | [], _ => by simp [total3]
  | g :: t, h => by
    have ih := total3_le t (fun g hg => h g (List.mem_cons_of_mem _ hg))
    have := h g (List.mem_cons_self ..)
    simp only [total3, List.length_cons]
    omega
theorem laws_FnExactSproutMoves.done (a0_0 : Int) (A0_1 : Option Addr) (c0_1 : Nat) (l0_1 : List (List (List Int))) (w : World) (hr0_1 : Kd.C (Kd.slice 33 (Kd.slice 2 (Kd.int .i64))) w A0_1 l0_1.length l0_1) (hc0_1 : l0_1.length ≤ c0_1) (_hn : (Lit.int .i64 a0_0).wf = true)
    (hW : (l0_1.length ≤ 9223372036854775807 ∧ ∀ x0 ∈ l0_1, x0.length ≤ 9223372036854775807 ∧ ∀ x1 ∈ x0, x1.length ≤ 9223372036854775807 ∧ ∀ x2 ∈ x1, (Lit.int .i64 x2).wf = true)) :
    Calls Try.prog 7 #[.agg #[.int .i64 a0_0, .slice A0_1 l0_1.length c0_1]] w fun e w' => e = .returned (.bool true) ∧ Below w.heap.size w w' := by
  obtain ⟨t, ht, hor⟩ := sz3_ev a0_0 l0_1 hW.1 (fun g hg => ⟨(hW.2 g hg).1, fun row hr => ((hW.2 g hg).2 row hr).1⟩)
  rcases hor with hn | ⟨h0, h1, h2, h3⟩
  · exact laws_FnExactSproutMoves.early0_of a0_0 A0_1 c0_1 l0_1 t w hr0_1 hc0_1 (decide_eq_true hn) ht
  · have hb : ∀ g ∈ l0_1, g.length < 4611686018427387904 ∧ ∀ b ∈ g, b.length < 4611686018427387904 := fun g hg => ⟨by have := (h3 g hg).1; omega, fun b hb => by have := total_mem hb; have := (h3 g hg).2; omega⟩
    have h4 := total3_le l0_1 (fun g hg => (h3 g hg).2)
    have h5 := total3_nonneg l0_1
    have hS := specMoves_ev h1 (by omega) (specDeg_ev a0_0 l0_1 hb (by omega))
    have hI := implMoves_ev h1 (by omega) (implDeg_ev a0_0 l0_1 (fun g hg => (hb g hg).2) (by omega) (by omega))
    obtain ⟨hl, hr⟩ := moves_fit a0_0 l0_1 (by omega)
    have h6 := total_le 6 (movesV a0_0 l0_1).1 hr
    have h7 := total_nonneg (movesV a0_0 l0_1).1
    have hh := heldSS_ev (movesV a0_0 l0_1).1 1 (by omega) (by omega) (by omega)
    exact laws_FnExactSproutMoves.good_of a0_0 A0_1 c0_1 l0_1 t (movesV a0_0 l0_1).1 (movesV a0_0 l0_1).2 (1 + total3 l0_1) (1 + total (movesV a0_0 l0_1).1) w hr0_1 hc0_1 (by simp; omega) ht (to3_ev a0_0 l0_1 h3 h1) hS hI
      (eqSS_ev _ (fun row h => by have := hr row h; omega) (by omega)) (eq3_ev a0_0 l0_1 h3 h1) (by simp; omega) (by omega) ⟨by omega, fun g hg => (hb g hg).1⟩ rfl (by simp; omega) (by omega) (by omega) rfl hh

end Go.Proofs.Ytjihfaebfhbpfaa.PX

/- A parameter's nested slices, read off its datum: what the row hands over, as the print's contracts ask it (no condition). -/
namespace Go.Proofs.Ytjihfaebfhbpfaa.Opens
open Go.RowKit Go.ChangeShapes Go.WideShapes Go.ChangeAt Go.Deep Go.WideElems Go.Joins Go.Proofs.YtjihfaebfhbpfaaW.PrintWords
set_option linter.unusedVariables false
set_option linter.unusedSimpArgs false
variable {H : Type} {enc : TypeId × Value → H} {P : Program} {w : World} {base : Nat} {spare : Nat → Bool} {held : Bool}

/-- What a datum of type t says: its cells read as some x of the kind d, of which Q holds. -/
def Opens (enc : TypeId × Value → H) (P : Program) (w : World) (base : Nat) (spare : Nat → Bool) (held : Bool) {α : Type} (t : TypeId) (d : Kd α) (Q : α → Prop) : Prop :=
  ∀ n cs y, DataW.trod enc P w base spare held n t cs = some y → ∃ x, d.K w x cs ∧ Q x

theorem opens_int {t : TypeId} {k : IntKind} (ht : P.underlying t = some (.int k)) : Opens enc P w base spare held t (Kd.int k) (fun x => (Lit.int k x).wf = true) := by
  intro n cs y h
  obtain ⟨x, rfl, _, hw⟩ := DataW.trod_int ht h
  exact ⟨x, rfl, hw⟩

theorem choose_list {α : Type} {R : Nat → α → Prop} : ∀ (n : Nat), (∀ i, i < n → ∃ x, R i x) → ∃ xs : List α, xs.length = n ∧ ∀ i x, xs[i]? = some x → R i x
  | 0, _ => ⟨[], rfl, fun i x h => by simp at h⟩
  | n + 1, h => by
    obtain ⟨xs, hl, hx⟩ := choose_list n (fun i hi => h i (Nat.lt_succ_of_lt hi))
    obtain ⟨x, hn⟩ := h n (Nat.lt_succ_self n)
    refine ⟨xs ++ [x], by simp [hl], fun i z hz => ?_⟩
    rcases Nat.lt_or_ge i xs.length with hi | hi
    · rw [List.getElem?_append_left hi] at hz
      exact hx i z hz
    · rw [List.getElem?_append_right hi] at hz
      have : i - xs.length = 0 := by
        rcases Nat.eq_zero_or_pos (i - xs.length) with e | e
        · exact e
        · rw [List.getElem?_eq_none (by simp; omega)] at hz
          exact absurd hz (by simp)
      rw [this] at hz
      have hz' : x = z := by simpa using hz
      subst hz'
      have : i = n := by omega
      subst this
      exact hn

theorem opens_slice {α : Type} {t e : TypeId} {d : Kd α} {Q : α → Prop} (ht : P.underlying t = some (.slice e)) (hc : P.cellsOf e = d.sz) (he : Opens enc P w base spare held e d Q) :
    Opens enc P w base spare held t (Kd.slice e d) (fun xs => xs.length ≤ 9223372036854775807 ∧ ∀ x ∈ xs, Q x) := by
  intro n cs y h
  rcases open_slice ht h with ⟨rfl, rfl⟩ | ⟨a, len, cap, m, n', D, Pl, rfl, hb, hl, hm, hmm, hx, hall⟩
  · exact ⟨[], ⟨none, 0, rfl, Nat.le_refl _, rfl, by simp, fun h => absurd h (by simp)⟩, by simp, fun x hx => by simp at hx⟩
  · have hlm : len ≤ m := by rw [hmm]; split <;> omega
    have hch : ∀ i, i < len → ∃ x : α, (∃ c, c.length = d.sz ∧ d.K w x c ∧ ∀ j u, c[j]? = some u → w.cell? (a.add (i * d.sz + j)) = some u) ∧ Q x := by
      intro i hi
      obtain ⟨cs', hcs, htr⟩ := hall i (by omega)
      obtain ⟨x, hK, hQ⟩ := he _ _ _ htr
      refine ⟨x, ⟨cs', d.K_len hK, hK, fun j u hu => ?_⟩, hQ⟩
      have hj : j < P.cellsOf e := by
        rw [hc, ← d.K_len hK]
        exact (List.getElem?_eq_some_iff.1 hu).1
      have h3 := (World.cells?_some hcs).2.2 j hj
      rw [Addr.add_add, hc] at h3
      rw [h3, hu]
    obtain ⟨xs, hlen, hxs⟩ := choose_list len hch
    subst hlen
    refine ⟨xs, ⟨some a, cap, rfl, hl, rfl, by simp only [maxLen] at hm; omega, fun _ => ⟨a, rfl, fun j p hj => (hxs j p hj).1⟩⟩, by simp only [maxLen] at hm; omega, fun x hx => ?_⟩
    obtain ⟨i, hi, hix⟩ := List.getElem_of_mem hx
    exact (hxs i x (by rw [List.getElem?_eq_getElem hi, hix])).2

/-- A field that is a slice: its value written out, and how it reads. -/
theorem opened_slice {α : Type} {t e : TypeId} {d : Kd α} {Q : α → Prop} (ht : P.underlying t = some (.slice e)) (hc : P.cellsOf e = d.sz) (he : Opens enc P w base spare held e d Q) {n : Nat} {v : Value} {y : DataW H × List MemPlace}
    (h : DataW.trod enc P w base spare held n t [v] = some y) : ∃ A c, ∃ xs : List α, v = .slice A xs.length c ∧ xs.length ≤ c ∧ Kd.C d w A xs.length xs ∧ xs.length ≤ 9223372036854775807 ∧ ∀ x ∈ xs, Q x := by
  obtain ⟨xs, ⟨A, c, e1, hl, hC⟩, hQ⟩ := opens_slice ht hc he _ _ _ h
  simp only [List.cons.injEq, and_true] at e1
  exact ⟨A, c, xs, e1, hl, hC, hQ⟩
/-- A struct of one field of one cell, by value. -/
theorem open_agg1 {r : Reach} {b0 : Nat} {t : TypeId} {f0 : Field} {v : Value} {d : DataW H} {p : List MemPlace} (hs : P.underlying t = some (.struct #[f0])) (hone : oneCellFields P #[f0] = true) (hC : P.cellsOf t = 1)
    (hv : Value.okWide P w r b0 t v) (h : DataW.Trod enc P w base spare held t v d p) :
    ∃ (v0 : Value) (y0 : DataW H × List MemPlace) (n : Nat), v = .agg #[v0] ∧ d = .agg [y0.1] ∧ p = y0.2 ∧ DataW.trod enc P w base spare held n f0.type [v0] = some y0 := by
  obtain ⟨cs, rfl, hsz⟩ := okWide_struct hs hv
  obtain ⟨c0, rfl⟩ : ∃ c0, cs = #[c0] := by
    obtain ⟨l⟩ := cs
    match l, (hsz.trans hC) with
    | [c0], _ => exact ⟨c0, rfl⟩
  obtain ⟨fuel, hf⟩ := h
  obtain ⟨xs, n, _, rfl', hl, hlen, hx⟩ := DataW.trod_struct hs hf
  match xs, hlen with
  | [y0], _ =>
    have h0 := hx 0 f0 rfl
    obtain ⟨o0, k0⟩ := hone_of hone 0 f0 rfl
    simp only [Prod.mk.injEq] at rfl'
    refine ⟨c0, y0, n, rfl, by simpa using rfl'.1, by simpa using rfl'.2, ?_⟩
    simpa [Value.cells, o0, k0] using h0
end Go.Proofs.Ytjihfaebfhbpfaa.Opens

/- The row of FnExactSproutMoves, out of its plain law (no condition). -/
namespace Go.Proofs.Ytjihfaebfhbpfaa.fnExactSproutMoves
open Go.ChangeShapes Go.WideShapes Go.ChangeAt Go.RowKit
open Go.ChangeMaps (open_string shut_string)
set_option linter.unusedVariables false
theorem own : ownKnob Try.prog.godebug = none := by kernel_rfl
theorem laid : laidOutB Try.prog = true := by kernel_rfl
set_option maxRecDepth 100000 in
theorem lifted (os : Os) (started : os.Started) (H : Type) (enc : TypeId × Value → H) :
    ReturnsInHanded {} Try.checked os 7 .any (Rows.fnExactSproutMovesSpec.pre6 enc Try.prog Try.f7 Rows.fnExactSproutMovesRow.domain false) (Rows.fnExactSproutMovesSpec.post enc Try.prog Try.f7 false true false false) := by
  refine returnsInHanded_of_change_sized (C := Try.checked) own started (by kernel_rfl) Try.func7
    (ChangeSpec.witness6 (enc := enc) (C := Try.checked) false ⟨#[], #[.agg #[.int .i64 0, .slice none 0 0]], []⟩ 8 (by kernel_rfl) (by kernel_rfl) (by kernel_rfl) (by kernel_rfl)) ?_
  intro W base args ds gs before hval0 hW hcnd hsz0 _
  have hsz : (DataW.weightsEach Try.prog (Try.f7.params.toList ++ Rows.fnExactSproutMovesSpec.plain.varTypes Try.prog) (ds ++ gs)).all (· ≤ reachBytes) = true := hsz0
  have hval : ∀ (j : Nat) t v, Try.f7.params[j]? = some t → args[j]? = some v → Value.okWide Try.prog W .any base t v := hval0
  have hW' := hW
  obtain ⟨p, q, hA0, hV, rfl, hfz, hnd⟩ := hW
  have hA : DataW.TrodAll enc Try.prog W 0 (fun _ => true) true Try.f7.params.toList args.toList ds p := hA0
  rw [Try.params7] at hA hval hsz
  obtain ⟨v0, vs0, d0, ds0, p0, q0, hargs, rfl, rfl, h0, r0⟩ := trodAll_cons hA
  obtain ⟨rfl, rfl, rfl⟩ := trodAll_nil r0
  obtain rfl : args = #[v0] := by cases args; simp_all
  obtain ⟨rfl, rfl⟩ := trodVars_none hV
  have hk0 := h0
  have hlt0 : ∀ x ∈ p0, x.block < W.heap.size := fun x hx => hW'.lt x (by simp [hx])
  obtain ⟨c0_0, c0_1, y0_0, y0_1, m0, rfl, rfl, rfl, g0_0, g0_1⟩ := Go.Joins.open_agg2 Try.underlying24 (by kernel_rfl) (by kernel_rfl) (hval 0 24 v0 rfl rfl) h0
  obtain ⟨a0_0, e0_0, rfl, w0_0⟩ := DataW.trod_int Try.underlying2 g0_0
  simp only [List.cons.injEq, and_true] at e0_0
  subst e0_0
  obtain ⟨A0_1, n0_1, l0_1, rfl, hc0_1, hr0_1, w0_1⟩ := Go.Proofs.Ytjihfaebfhbpfaa.Opens.opened_slice Try.underlying22 (by kernel_rfl) (Go.Proofs.Ytjihfaebfhbpfaa.Opens.opens_slice Try.underlying41 (by kernel_rfl) (Go.Proofs.Ytjihfaebfhbpfaa.Opens.opens_slice Try.underlying33 (by kernel_rfl) (Go.Proofs.Ytjihfaebfhbpfaa.Opens.opens_int Try.underlying2))) g0_1
  clear hA0 hval0 hsz0 hsz
  refine (PX.laws_FnExactSproutMoves.done a0_0 _ _ l0_1 W hr0_1 hc0_1 w0_0 w0_1).mono fun e W' ⟨he, bel0⟩ => ?_
  have bel : Below W.heap.size W W' := bel0
  subst he
  exact ⟨_, rfl, _, _, _, [], _, [], hW', trodAll_mk1 (shut_bool Try.underlying4 _), (trodAll_cons_mk (Below.trod laid (by kernel_rfl) (of_decide_eq_true (by kernel_rfl)) hk0 bel hlt0) trodAll_mk0), rfl, bel.frame _, fun h => by cases h⟩
theorem over : Rows.fnExactSproutMovesRow.holds Try.pinned (OpenSpec.ofChange Rows.fnExactSproutMovesSpec) :=
  OpenClaim.holds_of_wide 7 Try.f7 rfl rfl rfl rfl rfl rfl rfl ⟨rfl, rfl, rfl, rfl, rfl⟩ rfl rfl rfl rfl rfl (by kernel_rfl) Try.func7 (by kernel_rfl)
    (of_decide_eq_true (by kernel_rfl)) (by unfold Func.isWrapper; first | (rw [if_pos (by decide +kernel)]; kernel_rfl) | (rw [if_neg (by decide +kernel)]; exact ⟨rfl, rfl⟩))
    (fun os started H enc _ => lifted os started H enc)
theorem proved : Rows.FnExactSproutMovesSaid := over
#print axioms proved
end Go.Proofs.Ytjihfaebfhbpfaa.fnExactSproutMoves
namespace Go.Proofs.Ytjihfaebfhbpfaa
/-- The row, under a short name, for the claim. -/
theorem fnExactSproutMoves_holds : Rows.FnExactSproutMovesSaid := fnExactSproutMoves.proved
end Go.Proofs.Ytjihfaebfhbpfaa
