/- Bits that are moved: what a list of pairs (from, to) makes of a number (no condition but sizes that fit). -/
import Derived.Test.YtbnkefbcnojdgaaPFnExactLeastBoxesx0
import Derived.Test.YtbnkefbcnojdgaaPFnExactLeastBoxesx0
namespace Go.Proofs.Ytbnkefbcnojdgaa.Pure
open Go.RowKit Go.Proofs.Ytbnkefbcnojdgaa.PFnExactLeastBoxes Go.Proofs.YtbnkefbcnojdgaaW.PrintWords Go.Proofs.YtbnkefbcnojdgaaW.PrintLast Go.Proofs.YtbnkefbcnojdgaaW.PrintMore
set_option linter.unusedSimpArgs false
set_option linter.unusedVariables false
def sq (E o f t : Int) : Int := Go.bits .or .i64 o (shl .i64 (Go.bits .and .i64 (shr .i64 E f) 1) t)
def sqn (e o : Nat) (p : Nat × Nat) : Nat := o ||| (e / 2 ^ p.1 % 2) * 2 ^ p.2
def fld (e : Nat) (L : List (Nat × Nat)) : Nat := L.foldl (sqn e) 0
theorem wrap_small {x : Int} (h0 : 0 ≤ x) (h1 : x < 9223372036854775808) : IntKind.i64.wrap x = x := by
  simp only [IntKind.wrap, IntKind.bits, IntKind.signed]
  simp
  omega
theorem ofInt_nat (x : Nat) (h : x < 18446744073709551616) : (BitVec.ofInt IntKind.i64.bits (x : Int)).toNat = x := by
  rw [BitVec.toNat_ofInt]
  simp only [IntKind.bits]
  omega
theorem and_one (x : Nat) (h : x < 4611686018427387904) : Go.bits .and .i64 (x : Int) 1 = ((x % 2 : Nat) : Int) := by
  have e1 : (BitVec.ofInt IntKind.i64.bits 1).toNat = 1 := by decide +kernel
  unfold Go.bits
  simp only [BitVec.toNat_and, e1, ofInt_nat x (by omega), Nat.and_one_is_mod]
  exact wrap_small (by omega) (by omega)
theorem or_nat (x y : Nat) (hx : x < 4611686018427387904) (hy : y < 4611686018427387904) : Go.bits .or .i64 (x : Int) (y : Int) = ((x ||| y : Nat) : Int) := by
  have hlt : x ||| y < 2 ^ 62 := Nat.or_lt_two_pow (by simpa using hx) (by simpa using hy)
  unfold Go.bits
  simp only [BitVec.toNat_or, ofInt_nat x (by omega), ofInt_nat y (by omega)]
  exact wrap_small (by omega) (by have : (2 : Nat) ^ 62 = 4611686018427387904 := by decide
                                  omega)
theorem pow_small {t : Nat} (h : t < 30) : 2 ^ t ≤ 536870912 := by
  have := Nat.pow_le_pow_right (show 0 < 2 by decide) (show t ≤ 29 by omega)
  simpa using this
theorem sq_nat (e o f t : Nat) (he : e < 1073741824) (ho : o < 1073741824) (hf : f < 30) (ht : t < 30) : sq (e : Int) (o : Int) (f : Int) (t : Int) = ((sqn e o (f, t) : Nat) : Int) := by
  have hs : shr .i64 (e : Int) (f : Int) = ((e / 2 ^ f : Nat) : Int) := by
    unfold shr
    rw [Int.toNat_natCast, show min f IntKind.i64.bits = f from Nat.min_eq_left (by simp only [IntKind.bits]; omega)]
    exact (Int.natCast_ediv e (2 ^ f)).symm ▸ by simp
  have hd : e / 2 ^ f ≤ e := Nat.div_le_self _ _
  have hb : e / 2 ^ f % 2 ≤ 1 := by omega
  have hp := pow_small ht
  have hm : (e / 2 ^ f % 2) * 2 ^ t ≤ 536870912 := Nat.le_trans (Nat.mul_le_mul_right _ hb) (by omega)
  have hl : shl .i64 ((e / 2 ^ f % 2 : Nat) : Int) (t : Int) = (((e / 2 ^ f % 2) * 2 ^ t : Nat) : Int) := by
    unfold shl
    rw [Int.toNat_natCast, show min t IntKind.i64.bits = t from Nat.min_eq_left (by simp only [IntKind.bits]; omega)]
    have e1 : ((e / 2 ^ f % 2 : Nat) : Int) * 2 ^ t = (((e / 2 ^ f % 2) * 2 ^ t : Nat) : Int) := by simp
    rw [e1]
    exact wrap_small (by omega) (by omega)
  unfold sq sqn
  rw [hs, and_one _ (by omega), hl, or_nat _ _ (by omega) (by omega)]
theorem sqn_bit (e o : Nat) (p : Nat × Nat) (j : Nat) : (sqn e o p).testBit j = (o.testBit j || (decide (j = p.2) && e.testBit p.1)) := by
  unfold sqn
  rw [Nat.testBit_or]
  congr 1
  rw [Nat.testBit_eq_decide_div_mod_eq (x := e)]
  rcases Nat.mod_two_eq_zero_or_one (e / 2 ^ p.1) with h | h
  · rw [h]; simp
  · rw [h, Nat.one_mul, Nat.testBit_two_pow]
    by_cases c : p.2 = j
    · simp [c]
    · have c2 : ¬ j = p.2 := fun e => c e.symm
      rw [decide_eq_false c, decide_eq_false c2]; rfl
theorem fold_bit (e : Nat) (j : Nat) : ∀ (L : List (Nat × Nat)) (o : Nat), (L.foldl (sqn e) o).testBit j = (o.testBit j || L.any (fun p => decide (j = p.2) && e.testBit p.1))
  | [], o => by simp
  | p :: L, o => by
    rw [List.foldl_cons, fold_bit e j L, sqn_bit, List.any_cons, Bool.or_assoc]
def okP (n : Nat) (L : List (Nat × Nat)) (P : List Nat) : Bool := L.all (fun p => decide (p.2 < n) && (decide (P.getD p.2 0 = p.1) && decide (p.1 < n))) && (List.range n).all (fun j => L.any (fun p => decide (j = p.2)))
theorem okP_any {n : Nat} {L : List (Nat × Nat)} {P : List Nat} (h : okP n L P = true) (e j : Nat) : L.any (fun p => decide (j = p.2) && e.testBit p.1) = (decide (j < n) && e.testBit (P.getD j 0)) := by
  simp only [okP, Bool.and_eq_true, List.all_eq_true, decide_eq_true_eq, List.mem_range, List.any_eq_true] at h
  obtain ⟨h1, h2⟩ := h
  by_cases c : j < n
  · rw [decide_eq_true c, Bool.true_and]
    obtain ⟨p, hp, hj⟩ := h2 j c
    cases hb : e.testBit (P.getD j 0)
    · rw [List.any_eq_false]
      intro q hq
      simp only [Bool.and_eq_true, decide_eq_true_eq, not_and]
      intro e1
      have := (h1 q hq).2.1
      rw [← e1, ← this] at *
      rw [hb]; decide
    · rw [List.any_eq_true]
      refine ⟨p, hp, ?_⟩
      have := (h1 p hp).2.1
      rw [← hj] at this
      rw [← this, hb, decide_eq_true hj]; rfl
  · rw [decide_eq_false c, Bool.false_and, List.any_eq_false]
    intro q hq
    have := (h1 q hq).1
    simp only [Bool.and_eq_true, decide_eq_true_eq, not_and]
    intro e1
    omega
theorem fld_bit {n : Nat} {L : List (Nat × Nat)} {P : List Nat} (h : okP n L P = true) (e j : Nat) : (fld e L).testBit j = (decide (j < n) && e.testBit (P.getD j 0)) := by
  unfold fld
  rw [fold_bit, okP_any h]; simp
theorem fld_lt {n : Nat} {L : List (Nat × Nat)} {P : List Nat} (h : okP n L P = true) (e : Nat) : fld e L < 2 ^ n := by
  refine Nat.lt_pow_two_of_testBit _ (fun j hj => ?_)
  rw [fld_bit h, decide_eq_false (by omega)]; rfl
/-- Two moves one behind the other are two others. -/
def sameP (n : Nat) (A B C D : List Nat) : Bool := (List.range n).all (fun j => decide (B.getD j 0 < n) && (decide (D.getD j 0 < n) && decide (A.getD (B.getD j 0) 0 = C.getD (D.getD j 0) 0)))
theorem fld_same {n : Nat} {L1 L2 L3 L4 : List (Nat × Nat)} {A B C D : List Nat} (h1 : okP n L1 A = true) (h2 : okP n L2 B = true) (h3 : okP n L3 C = true) (h4 : okP n L4 D = true) (hs : sameP n A B C D = true) (e : Nat) : fld (fld e L1) L2 = fld (fld e L3) L4 := by
  simp only [sameP, List.all_eq_true, List.mem_range, Bool.and_eq_true, decide_eq_true_eq] at hs
  refine Nat.eq_of_testBit_eq (fun j => ?_)
  rw [fld_bit h2, fld_bit h1, fld_bit h4, fld_bit h3]
  by_cases c : j < n
  · obtain ⟨a, b, d⟩ := hs j c
    rw [decide_eq_true a, decide_eq_true b, d]
  · rw [decide_eq_false c, Bool.false_and, Bool.false_and]
def backP (n : Nat) (A B : List Nat) : Bool := (List.range n).all (fun j => decide (B.getD j 0 < n) && decide (A.getD (B.getD j 0) 0 = j))
theorem fld_back {n : Nat} {L1 L2 : List (Nat × Nat)} {A B : List Nat} (h1 : okP n L1 A = true) (h2 : okP n L2 B = true) (hs : backP n A B = true) (e : Nat) (he : e < 2 ^ n) : fld (fld e L1) L2 = e := by
  simp only [backP, List.all_eq_true, List.mem_range, Bool.and_eq_true, decide_eq_true_eq] at hs
  refine Nat.eq_of_testBit_eq (fun j => ?_)
  rw [fld_bit h2, fld_bit h1]
  by_cases c : j < n
  · obtain ⟨a, b⟩ := hs j c
    rw [decide_eq_true a, decide_eq_true c, b]; rfl
  · rw [decide_eq_false c, Bool.false_and]
    exact (Nat.testBit_lt_two_pow (Nat.lt_of_lt_of_le he (Nat.pow_le_pow_right (by decide) (by omega)))).symm
def fldI (E : Int) (L : List (Nat × Nat)) : Int := L.foldl (fun o p => sq E o (p.1 : Int) (p.2 : Int)) 0
theorem sqn_small {e o : Nat} {p : Nat × Nat} (ho : o < 1073741824) (hp : p.2 < 30) : sqn e o p < 1073741824 := by
  have hb : e / 2 ^ p.1 % 2 ≤ 1 := by omega
  have hm : (e / 2 ^ p.1 % 2) * 2 ^ p.2 ≤ 536870912 := Nat.le_trans (Nat.mul_le_mul_right _ hb) (by have := pow_small hp; omega)
  have h30 : (2 : Nat) ^ 30 = 1073741824 := by decide
  have := Nat.or_lt_two_pow (x := o) (y := (e / 2 ^ p.1 % 2) * 2 ^ p.2) (n := 30) (by omega) (by omega)
  unfold sqn
  omega
theorem fldI_from (e : Nat) (he : e < 1073741824) : ∀ (L : List (Nat × Nat)) (o : Nat), o < 1073741824 → L.all (fun p => decide (p.1 < 30) && decide (p.2 < 30)) = true → L.foldl (fun o p => sq (e : Int) o (p.1 : Int) (p.2 : Int)) (o : Int) = ((L.foldl (sqn e) o : Nat) : Int)
  | [], o, _, _ => rfl
  | p :: L, o, ho, hL => by
    rw [List.all_cons, Bool.and_eq_true, Bool.and_eq_true, decide_eq_true_eq, decide_eq_true_eq] at hL
    rw [List.foldl_cons, List.foldl_cons, sq_nat e o p.1 p.2 he ho hL.1.1 hL.1.2]
    exact fldI_from e he L _ (sqn_small ho hL.1.2) hL.2
theorem fldI_nat (e : Nat) (he : e < 1073741824) (L : List (Nat × Nat)) (hL : L.all (fun p => decide (p.1 < 30) && decide (p.2 < 30)) = true) : fldI (e : Int) L = ((fld e L : Nat) : Int) := fldI_from e he L 0 (by decide) hL

end Go.Proofs.Ytbnkefbcnojdgaa.Pure
