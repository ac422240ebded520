/- The degrees of a sprouts position, as the reference and the program reckon them (no condition but sizes that fit). -/
import Derived.Test.YtjihfaebfhbpfaaPXx0
import Derived.Test.YtjihfaebfhbpfaaPXx5
import Derived.Test.YtjihfaebfhbpfaaPXx4
import Derived.Test.YtjihfaebfhbpfaaPXx6
import Derived.Test.YtjihfaebfhbpfaaGDegrees
import Derived.Test.YtjihfaebfhbpfaaLBase
namespace Go.Proofs.Ytjihfaebfhbpfaa.PX
open Go.RowKit Go.Proofs.YtjihfaebfhbpfaaW.PrintWords Go.Proofs.YtjihfaebfhbpfaaW.PrintLast Go.Proofs.YtjihfaebfhbpfaaW.PrintMore
attribute [local go_sem] max2_int min2_int max_two min_two max_three min_three max_four min_four
set_option linter.unusedVariables false
set_option linter.unusedSimpArgs false
def stepB (n : Int) (b : List Int) : List Int → List Int × List Bool → Option (List Int × List Bool)
  | [], s => some s
  | x :: t, s => if 0 ≤ x ∧ x ≤ n - 1 then stepB n b t (s.1.set x.toNat (wrap64 (s.1.getD x.toNat 0 + 1)), s.2.set x.toNat (if s.2.getD x.toNat false = true then true else (b.length : Int) == 1)) else none
def allB (n : Int) : List (List Int) → List Int × List Bool → Option (List Int × List Bool)
  | [], s => some s
  | b :: t, s => if b = [] then none else (stepB n b b s).bind (allB n t)
def finB (al : List Bool) : Nat → Nat → List Int → Option (List Int)
  | 0, _, c => some c
  | d + 1, i, c => if c.getD i 0 < 1 ∨ c.getD i 0 > 3 ∨ (al.getD i false = true ∧ c.getD i 0 > 1) then none else if al.getD i false = true then finB al d (i + 1) (c.set i 0) else finB al d (i + 1) c
def pairOf : Option (List Int) → List Int × Bool
  | none => ([], false)
  | some c => (c, true)
theorem stepB_len (n : Int) (b : List Int) : ∀ (l : List Int) (s s' : List Int × List Bool), stepB n b l s = some s' → s'.1.length = s.1.length ∧ s'.2.length = s.2.length
  | [], s, s', h => by
    simp only [stepB, Option.some.injEq] at h
    subst h
    exact ⟨rfl, rfl⟩
  | x :: t, s, s', h => by
    unfold stepB at h
    by_cases c : 0 ≤ x ∧ x ≤ n - 1
    · rw [if_pos c] at h
      have := stepB_len n b t _ s' h
      simpa using this
    · rw [if_neg c] at h
      cases h
theorem in_eq (a b c : Int) : spec_l01In.f a b c = some (decide (b ≤ a) && decide (a ≤ c)) := by
  unfold spec_l01In.f
  by_cases h : b ≤ a
  · rw [if_pos (show a ≥ b from h), decide_eq_true h, Bool.true_and]
  · rw [if_neg (show ¬ a ≥ b from h), decide_eq_false h, Bool.false_and]
theorem within_eq (a b c : Int) : impl_within.f a b c = some (decide (b ≤ a) && decide (a ≤ c)) := by
  unfold impl_within.f
  by_cases h : b ≤ a
  · rw [if_pos h, decide_eq_true h, Bool.true_and]
  · rw [if_neg h, decide_eq_false h, Bool.false_and]
theorem rdOf_b (xs : List Bool) (i : Nat) : rdOf false xs (i : Int) = xs.getD i false := by unfold rdOf; rfl
theorem rdL2_nat (xs : List (List (List Int))) (i : Nat) : rd_L2 xs (i : Int) = xs.getD i [] := by unfold rd_L2; rfl
section
variable {n : Int} {R : List (List (List Int))}
set_option maxHeartbeats 4000000 in
theorem spec_in (hn : 1 ≤ n ∧ n ≤ 20) (b : List Int) (hb : b.length < 4611686018427387904) (x6 x7 : Int) (res : List Int × Bool) : ∀ (d i : Nat) (s : List Int × List Bool), i + d = b.length → s.1.length = n.toNat → s.2.length = n.toNat →
    (∀ s', stepB n b (b.drop i) s = some s' → Ev (fun k => spec_l02Degrees.l1 k s'.1 s'.2 x6 (wrap64 (x7 + 1)) n R) res) → (stepB n b (b.drop i) s = none → res = ([], false)) →
    Ev (fun k => spec_l02Degrees.l2 k s.1 s.2 x6 x7 b (i : Int) n R) res
  | 0, i, s, hd, h1, h2, hk, hf => by
    rw [List.drop_of_length_le (by omega)] at hk
    refine Ev.step (fun k => ?_) (hk s rfl)
    rw [spec_l02Degrees.l2, if_neg (by omega)]
  | d + 1, i, s, hd, h1, h2, hk, hf => by
    obtain ⟨x, hx⟩ := get_some (xs := b) (i := i) (by omega)
    have er : rd b (i : Int) = x := by rw [rd_nat, getD_of hx]
    have a1 : (i : Int) < (b.length : Int) := by omega
    have a0 : (0 : Int) ≤ (i : Int) := Int.natCast_nonneg i
    have hw : wrap64 (n - 1) = n - 1 := wrapS (by omega) (by omega)
    have hw2 : wrap64 ((i : Int) + 1) = ((i + 1 : Nat) : Int) := by rw [wrapS (by omega) (by omega), cast_succ]
    rw [drop_of hx] at hk hf
    unfold stepB at hk hf
    by_cases c : 0 ≤ x ∧ x ≤ n - 1
    · rw [if_pos c] at hk hf
      obtain ⟨m, rfl⟩ : ∃ m : Nat, x = (m : Int) := ⟨x.toNat, by omega⟩
      have hcb : (decide ((0 : Int) ≤ (m : Int)) && decide ((m : Int) ≤ n - 1)) = true := by rw [decide_eq_true c.1, decide_eq_true c.2]; rfl
      rw [Int.toNat_natCast] at hk hf
      have ih := spec_in hn b hb x6 x7 res d (i + 1) (s.1.set m (wrap64 (s.1.getD m 0 + 1)), s.2.set m (if s.2.getD m false = true then true else (b.length : Int) == 1)) (by omega) (by simp [h1]) (by simp [h2]) hk hf
      refine Ev.step (fun k => ?_) ih
      rw [spec_l02Degrees.l2, if_pos (by omega), if_pos (by omega), er, in_eq, hw, Option.bind_some, if_pos hcb, if_pos (by omega), if_pos (by omega), Option.bind_some, if_pos (by omega), rdOf_b, rd_nat, Int.toNat_natCast, hw2]
      by_cases e : s.2.getD m false = true
      · rw [if_pos e, if_pos e]
      · rw [if_neg e, if_neg e]
    · rw [if_neg c] at hf
      rw [hf rfl]
      have hcb : ¬ (decide ((0 : Int) ≤ x) && decide (x ≤ n - 1)) = true := by
        simp only [Bool.and_eq_true, decide_eq_true_eq]; exact c
      refine Ev.step (f := fun _ => some ([], false)) (fun k => ?_) (Ev.now _)
      rw [spec_l02Degrees.l2, if_pos a1, if_pos a0, er, in_eq, hw, Option.bind_some, if_neg hcb]
set_option maxHeartbeats 4000000 in
theorem impl_in (hn : 1 ≤ n ∧ n ≤ 20) (b : List Int) (hb : b.length < 4611686018427387904) (C : List (List Int)) (x31 x32 : Int) (res : List Int × Bool) : ∀ (d i : Nat) (s : List Int × List Bool), i + d = b.length → s.1.length = n.toNat → s.2.length = n.toNat →
    (∀ s', stepB n b (b.drop i) s = some s' → Ev (fun k => if (b.length : Int) = 0 then some ([], false) else impl_Sprouts_degrees.l0 k s'.1 s'.2 C x31 (wrap64 (x32 + 1)) n R) res) → (stepB n b (b.drop i) s = none → res = ([], false)) →
    Ev (fun k => impl_Sprouts_degrees.l1 k s.1 s.2 b C x31 x32 b (b.length : Int) (i : Int) n R) res
  | 0, i, s, hd, h1, h2, hk, hf => by
    rw [List.drop_of_length_le (by omega)] at hk
    refine Ev.step (fun k => ?_) (hk s rfl)
    rw [impl_Sprouts_degrees.l1, if_neg (by omega)]
  | d + 1, i, s, hd, h1, h2, hk, hf => by
    obtain ⟨x, hx⟩ := get_some (xs := b) (i := i) (by omega)
    have er : rd b (i : Int) = x := by rw [rd_nat, getD_of hx]
    have a1 : (i : Int) < (b.length : Int) := by omega
    have a0 : (0 : Int) ≤ (i : Int) := Int.natCast_nonneg i
    have hw : wrap64 (n - 1) = n - 1 := wrapS (by omega) (by omega)
    have hw2 : wrap64 ((i : Int) + 1) = ((i + 1 : Nat) : Int) := by rw [wrapS (by omega) (by omega), cast_succ]
    rw [drop_of hx] at hk hf
    unfold stepB at hk hf
    by_cases c : 0 ≤ x ∧ x ≤ n - 1
    · rw [if_pos c] at hk hf
      obtain ⟨m, rfl⟩ : ∃ m : Nat, x = (m : Int) := ⟨x.toNat, by omega⟩
      have hcb : (decide ((0 : Int) ≤ (m : Int)) && decide ((m : Int) ≤ n - 1)) = true := by rw [decide_eq_true c.1, decide_eq_true c.2]; rfl
      rw [Int.toNat_natCast] at hk hf
      have ih := impl_in hn b hb C x31 x32 res d (i + 1) (s.1.set m (wrap64 (s.1.getD m 0 + 1)), s.2.set m (if s.2.getD m false = true then true else (b.length : Int) == 1)) (by omega) (by simp [h1]) (by simp [h2]) hk hf
      refine Ev.step (fun k => ?_) ih
      rw [impl_Sprouts_degrees.l1, if_pos (by omega), if_pos (by omega), if_pos (by omega), er, within_eq, hw, Option.bind_some, if_pos hcb, if_pos (by omega), if_pos (by omega), Option.bind_some, if_pos (by omega), rdOf_b, rd_nat, Int.toNat_natCast, hw2]
      by_cases e : s.2.getD m false = true
      · rw [if_pos e, if_pos e]
      · rw [if_neg e, if_neg e]
    · rw [if_neg c] at hf
      rw [hf rfl]
      have hcb : ¬ (decide ((0 : Int) ≤ x) && decide (x ≤ n - 1)) = true := by
        simp only [Bool.and_eq_true, decide_eq_true_eq]; exact c
      refine Ev.step (f := fun _ => some ([], false)) (fun k => ?_) (Ev.now _)
      rw [impl_Sprouts_degrees.l1, if_pos a1, if_pos a0, if_pos a1, er, within_eq, hw, Option.bind_some, if_neg hcb]
theorem allB_app (n : Int) : ∀ (a b : List (List Int)) (s : List Int × List Bool), allB n (a ++ b) s = (allB n a s).bind (allB n b)
  | [], b, s => rfl
  | x :: a, b, s => by
    rw [List.cons_append]
    unfold allB
    by_cases c : x = []
    · rw [if_pos c, if_pos c]; rfl
    · rw [if_neg c, if_neg c]
      cases stepB n x x s with
      | none => rfl
      | some s' => exact allB_app n a b s'
theorem allB_len (n : Int) : ∀ (l : List (List Int)) (s s' : List Int × List Bool), allB n l s = some s' → s'.1.length = s.1.length ∧ s'.2.length = s.2.length
  | [], s, s', h => by
    simp only [allB, Option.some.injEq] at h
    subst h
    exact ⟨rfl, rfl⟩
  | b :: l, s, s', h => by
    unfold allB at h
    by_cases c : b = []
    · rw [if_pos c] at h; cases h
    · rw [if_neg c] at h
      obtain ⟨s1, h1, h2⟩ := Option.bind_eq_some_iff.1 h
      have e1 := stepB_len n b b s s1 h1
      have e2 := allB_len n l s1 s' h2
      exact ⟨e2.1.trans e1.1, e2.2.trans e1.2⟩
set_option maxHeartbeats 4000000 in
theorem spec_reg (hn : 1 ≤ n ∧ n ≤ 20) (hR : ∀ g ∈ R, g.length < 4611686018427387904 ∧ ∀ b ∈ g, b.length < 4611686018427387904) (hL : R.length < 4611686018427387904) (r : Nat) (g : List (List Int)) (hg : R[r]? = some g) (res : List Int × Bool) : ∀ (d j : Nat) (s : List Int × List Bool), j + d = g.length → s.1.length = n.toNat → s.2.length = n.toNat →
    (∀ s', allB n (g.drop j) s = some s' → Ev (fun k => spec_l02Degrees.l0 k s'.1 s'.2 ((r + 1 : Nat) : Int) n R) res) → (allB n (g.drop j) s = none → res = ([], false)) →
    Ev (fun k => spec_l02Degrees.l1 k s.1 s.2 (r : Int) (j : Int) n R) res
  | 0, j, s, hd, h1, h2, hk, hf => by
    have hr : r < R.length := (List.getElem?_eq_some_iff.1 hg).1
    rw [List.drop_of_length_le (by omega)] at hk
    refine Ev.step (fun k => ?_) (hk s rfl)
    rw [spec_l02Degrees.l1, if_pos (by omega), if_pos (by omega), rdL2_nat, getD_of hg, if_neg (by omega), wrapS (i := (r : Int) + 1) (by omega) (by omega), cast_succ]
  | d + 1, j, s, hd, h1, h2, hk, hf => by
    have hr : r < R.length := (List.getElem?_eq_some_iff.1 hg).1
    have hgR := hR g (List.mem_of_getElem? hg)
    obtain ⟨b, hb⟩ := get_some (xs := g) (i := j) (by omega)
    have hbl := hgR.2 b (List.mem_of_getElem? hb)
    have er : rd_L1 g (j : Int) = b := by rw [rdL1_nat, getD_of hb]
    rw [drop_of hb] at hk hf
    unfold allB at hk hf
    by_cases c : b = []
    · subst c
      rw [if_pos rfl] at hf
      rw [hf rfl]
      refine Ev.step (f := fun _ => some ([], false)) (fun k => ?_) (Ev.now _)
      rw [spec_l02Degrees.l1, if_pos (by omega), if_pos (by omega), rdL2_nat, getD_of hg, if_pos (by omega), if_pos (by omega), er, if_pos (by simp)]
    · rw [if_neg c] at hk hf
      have hpos : 0 < b.length := List.length_pos_iff.2 c
      have hin := spec_in (R := R) hn b hbl (r : Int) (j : Int) res b.length 0 s (by omega) h1 h2 (fun s' hs' => by
        rw [List.drop_zero] at hs'
        have hl := stepB_len n b b s s' hs'
        rw [hs'] at hk hf
        rw [wrapS (i := (j : Int) + 1) (by omega) (by omega), cast_succ]
        exact spec_reg hn hR hL r g hg res d (j + 1) s' (by omega) (hl.1.trans h1) (hl.2.trans h2) hk hf) (fun hs' => by
        rw [List.drop_zero] at hs'
        rw [hs'] at hf
        exact hf rfl)
      refine Ev.step (fun k => ?_) hin
      rw [spec_l02Degrees.l1, if_pos (by omega), if_pos (by omega), rdL2_nat, getD_of hg, if_pos (by omega), if_pos (by omega), er, if_neg (by omega)]
      rfl
set_option maxHeartbeats 4000000 in
theorem spec_regs (hn : 1 ≤ n ∧ n ≤ 20) (hR : ∀ g ∈ R, g.length < 4611686018427387904 ∧ ∀ b ∈ g, b.length < 4611686018427387904) (hL : R.length < 4611686018427387904) (res : List Int × Bool) : ∀ (d r : Nat) (s : List Int × List Bool), r + d = R.length → s.1.length = n.toNat → s.2.length = n.toNat →
    (∀ s', allB n (R.drop r).flatten s = some s' → Ev (fun k => spec_l02Degrees.l3 k s'.1 s'.2 0) res) → (allB n (R.drop r).flatten s = none → res = ([], false)) →
    Ev (fun k => spec_l02Degrees.l0 k s.1 s.2 (r : Int) n R) res
  | 0, r, s, hd, h1, h2, hk, hf => by
    rw [List.drop_of_length_le (by omega)] at hk
    refine Ev.step (fun k => ?_) (hk s rfl)
    rw [spec_l02Degrees.l0, if_neg (by omega)]
  | d + 1, r, s, hd, h1, h2, hk, hf => by
    obtain ⟨g, hg⟩ := get_some (xs := R) (i := r) (by omega)
    rw [drop_of hg, List.flatten_cons, allB_app] at hk hf
    have hin := spec_reg hn hR hL r g hg res g.length 0 s (by omega) h1 h2 (fun s' hs' => by
      rw [List.drop_zero] at hs'
      have hl := allB_len n g s s' hs'
      rw [hs'] at hk hf
      exact spec_regs hn hR hL res d (r + 1) s' (by omega) (hl.1.trans h1) (hl.2.trans h2) hk hf) (fun hs' => by
      rw [List.drop_zero] at hs'
      rw [hs'] at hf
      exact hf rfl)
    refine Ev.step (fun k => ?_) hin
    rw [spec_l02Degrees.l0, if_pos (by omega)]
    rfl
set_option maxHeartbeats 4000000 in
theorem impl_regs (hn : 1 ≤ n ∧ n ≤ 20) (C : List (List Int)) (hC : ∀ b ∈ C, b.length < 4611686018427387904) (hL : C.length < 4611686018427387904) (res : List Int × Bool) : ∀ (d i : Nat) (s : List Int × List Bool), i + d = C.length → s.1.length = n.toNat → s.2.length = n.toNat →
    (∀ s', allB n (C.drop i) s = some s' → Ev (fun k => impl_Sprouts_degrees.l2 k s'.1 s'.2 (s'.1.length : Int) 0) res) → (allB n (C.drop i) s = none → res = ([], false)) →
    Ev (fun k => impl_Sprouts_degrees.l0 k s.1 s.2 C (C.length : Int) (i : Int) n R) res
  | 0, i, s, hd, h1, h2, hk, hf => by
    rw [List.drop_of_length_le (by omega)] at hk
    refine Ev.step (fun k => ?_) (hk s rfl)
    rw [impl_Sprouts_degrees.l0, if_neg (by omega)]
  | d + 1, i, s, hd, h1, h2, hk, hf => by
    obtain ⟨b, hb⟩ := get_some (xs := C) (i := i) (by omega)
    have hbl := hC b (List.mem_of_getElem? hb)
    have er : rd_L1 C (i : Int) = b := by rw [rdL1_nat, getD_of hb]
    rw [drop_of hb] at hk hf
    unfold allB at hk hf
    have hin : Ev (fun k => impl_Sprouts_degrees.l1 k s.1 s.2 b C (C.length : Int) (i : Int) b (b.length : Int) 0 n R) res := impl_in (R := R) hn b hbl C (C.length : Int) (i : Int) res b.length 0 s (by omega) h1 h2 (fun s' hs' => by
        rw [List.drop_zero] at hs'
        have hl := stepB_len n b b s s' hs'
        by_cases c : b = []
        · subst c
          rw [if_pos rfl] at hf
          rw [hf rfl]
          exact Ev.congr (f := fun _ => some ([], false)) (fun k => by rw [if_pos (by simp)]) (Ev.now _)
        · have hpos : 0 < b.length := List.length_pos_iff.2 c
          rw [if_neg c, hs'] at hk hf
          refine Ev.congr (fun k => by rw [if_neg (by omega), wrapS (i := (i : Int) + 1) (by omega) (by omega), cast_succ]) (impl_regs hn C hC hL res d (i + 1) s' (by omega) (hl.1.trans h1) (hl.2.trans h2) hk hf)) (fun hs' => by
        rw [List.drop_zero] at hs'
        by_cases c : b = []
        · rw [if_pos c] at hf
          exact hf rfl
        · rw [if_neg c, hs'] at hf
          exact hf rfl)
    refine Ev.step (fun k => ?_) hin
    rw [impl_Sprouts_degrees.l0, if_pos (by omega), if_pos (by omega), if_pos (by omega), er]
end
set_option maxHeartbeats 4000000 in
theorem spec_fin (al : List Bool) : ∀ (d i : Nat) (c : List Int), i + d = c.length → al.length = c.length → c.length ≤ 20 → Ev (fun k => spec_l02Degrees.l3 k c al (i : Int)) (pairOf (finB al d i c))
  | 0, i, c, hd, ha, hc => by
    refine Ev.step (f := fun _ => some (c, true)) (fun k => ?_) (Ev.now _)
    rw [spec_l02Degrees.l3, if_neg (by omega)]
  | d + 1, i, c, hd, ha, hc => by
    have hw : wrap64 ((i : Int) + 1) = ((i + 1 : Nat) : Int) := by rw [wrapS (by omega) (by omega), cast_succ]
    have bad : ∀ k, spec_l02Degrees.j5 (k + 1) c al (i : Int) true = some ([], false) := fun k => by rw [spec_l02Degrees.j5, if_pos rfl]
    unfold finB
    by_cases q : c.getD i 0 < 1 ∨ c.getD i 0 > 3 ∨ (al.getD i false = true ∧ c.getD i 0 > 1)
    · rw [if_pos q]
      refine Ev.step (f := fun k => spec_l02Degrees.j5 k c al (i : Int) true) (fun k => ?_) (Ev.step (f := fun _ => some ([], false)) bad (Ev.now _))
      rw [spec_l02Degrees.l3, if_pos (by omega), if_pos (by omega), rd_nat, rdOf_b]
      by_cases q1 : c.getD i 0 < 1
      · rw [if_pos q1]
      · rw [if_neg q1]
        by_cases q2 : c.getD i 0 > 3
        · rw [if_pos q2]
        · rw [if_neg q2, if_pos (by omega)]
          have q3 := (q.resolve_left q1).resolve_left q2
          rw [if_pos q3.1, decide_eq_true q3.2]
    · rw [if_neg q]
      have q1 : ¬ c.getD i 0 < 1 := fun h => q (Or.inl h)
      have q2 : ¬ c.getD i 0 > 3 := fun h => q (Or.inr (Or.inl h))
      have e1 : ∀ k, spec_l02Degrees.l3 (k + 1) c al (i : Int) = spec_l02Degrees.j5 k c al (i : Int) false := fun k => by
        rw [spec_l02Degrees.l3, if_pos (by omega), if_pos (by omega), rd_nat, rdOf_b, if_neg q1, if_neg q2, if_pos (by omega)]
        by_cases a : al.getD i false = true
        · rw [if_pos a, decide_eq_false (fun h => q (Or.inr (Or.inr ⟨a, h⟩)))]
        · rw [if_neg a]
      refine Ev.step e1 ?_
      by_cases a : al.getD i false = true
      · rw [if_pos a]
        refine Ev.step (fun k => ?_) (spec_fin al d (i + 1) (c.set i 0) (by rw [List.length_set]; omega) (by rw [List.length_set]; exact ha) (by rw [List.length_set]; exact hc))
        rw [spec_l02Degrees.j5, if_neg (by decide), if_pos (by omega), if_pos (by omega), rdOf_b, if_pos a, if_pos (by omega), Int.toNat_natCast, hw]
      · rw [if_neg a]
        refine Ev.step (fun k => ?_) (spec_fin al d (i + 1) c (by omega) ha hc)
        rw [spec_l02Degrees.j5, if_neg (by decide), if_pos (by omega), if_pos (by omega), rdOf_b, if_neg a, hw]
set_option maxHeartbeats 4000000 in
theorem impl_fin (al : List Bool) : ∀ (d i : Nat) (c : List Int), i + d = c.length → al.length = c.length → c.length ≤ 20 → Ev (fun k => impl_Sprouts_degrees.l2 k c al (c.length : Int) (i : Int)) (pairOf (finB al d i c))
  | 0, i, c, hd, ha, hc => by
    refine Ev.step (f := fun _ => some (c, true)) (fun k => ?_) (Ev.now _)
    rw [impl_Sprouts_degrees.l2, if_neg (by omega)]
  | d + 1, i, c, hd, ha, hc => by
    have hw : wrap64 ((i : Int) + 1) = ((i + 1 : Nat) : Int) := by rw [wrapS (by omega) (by omega), cast_succ]
    have bad : ∀ k, impl_Sprouts_degrees.j4 (k + 1) c al (i : Int) (c.length : Int) (i : Int) true = some ([], false) := fun k => by rw [impl_Sprouts_degrees.j4, if_pos rfl]
    unfold finB
    by_cases q : c.getD i 0 < 1 ∨ c.getD i 0 > 3 ∨ (al.getD i false = true ∧ c.getD i 0 > 1)
    · rw [if_pos q]
      refine Ev.step (f := fun k => impl_Sprouts_degrees.j4 k c al (i : Int) (c.length : Int) (i : Int) true) (fun k => ?_) (Ev.step (f := fun _ => some ([], false)) bad (Ev.now _))
      rw [impl_Sprouts_degrees.l2, if_pos (by omega), if_pos (by omega), if_pos (by omega), rd_nat, rdOf_b, within_eq, Option.bind_some]
      by_cases q1 : (decide ((1 : Int) ≤ c.getD i 0) && decide (c.getD i 0 ≤ 3)) = true
      · rw [if_pos q1, if_pos (by omega)]
        have q2 : 1 ≤ c.getD i 0 ∧ c.getD i 0 ≤ 3 := by simpa only [Bool.and_eq_true, decide_eq_true_eq] using q1
        have q3 := (q.resolve_left (by omega)).resolve_left (by omega)
        rw [if_pos q3.1, decide_eq_true q3.2]
      · rw [if_neg q1]
    · rw [if_neg q]
      have q1 : (decide ((1 : Int) ≤ c.getD i 0) && decide (c.getD i 0 ≤ 3)) = true := by
        rw [decide_eq_true (show (1 : Int) ≤ c.getD i 0 by have : ¬ c.getD i 0 < 1 := fun h => q (Or.inl h)
                                                           omega), decide_eq_true (show c.getD i 0 ≤ 3 by have : ¬ c.getD i 0 > 3 := fun h => q (Or.inr (Or.inl h))
                                                                                                          omega)]
        rfl
      have e1 : ∀ k, impl_Sprouts_degrees.l2 (k + 1) c al (c.length : Int) (i : Int) = impl_Sprouts_degrees.j4 k c al (i : Int) (c.length : Int) (i : Int) false := fun k => by
        rw [impl_Sprouts_degrees.l2, if_pos (by omega), if_pos (by omega), if_pos (by omega), rd_nat, rdOf_b, within_eq, Option.bind_some, if_pos q1, if_pos (by omega)]
        by_cases a : al.getD i false = true
        · rw [if_pos a, decide_eq_false (fun h => q (Or.inr (Or.inr ⟨a, h⟩)))]
        · rw [if_neg a]
      refine Ev.step e1 ?_
      by_cases a : al.getD i false = true
      · rw [if_pos a]
        have ih := impl_fin al d (i + 1) (c.set i 0) (by rw [List.length_set]; omega) (by rw [List.length_set]; exact ha) (by rw [List.length_set]; exact hc)
        rw [List.length_set] at ih
        refine Ev.step (fun k => ?_) ih
        rw [impl_Sprouts_degrees.j4, if_neg (by decide), if_pos (by omega), if_pos (by omega), rdOf_b, if_pos a, if_pos (by omega), Int.toNat_natCast, hw]
      · rw [if_neg a]
        refine Ev.step (fun k => ?_) (impl_fin al d (i + 1) c (by omega) ha hc)
        rw [impl_Sprouts_degrees.j4, if_neg (by decide), if_pos (by omega), if_pos (by omega), rdOf_b, if_neg a, hw]

end Go.Proofs.Ytjihfaebfhbpfaa.PX
