/- The program's IsGame and the reference's l01Is tell the same, on every list of lists of sizes that fit in memory. -/
import Derived.Test.YtbiemfbdobdecaaPXx0
import Derived.Test.YtbiemfbdobdecaaPXx2
import Derived.Test.YtbiemfbdobdecaaPXx7
import Derived.Test.YtbiemfbdobdecaaLBase
namespace Go.Proofs.Ytbiemfbdobdecaa.PX
open Go.RowKit Go.Proofs.YtbiemfbdobdecaaW.PrintWords Go.Proofs.YtbiemfbdobdecaaW.PrintLast Go.Proofs.YtbiemfbdobdecaaW.PrintMore
attribute [local go_sem] max2_int min2_int max_two min_two max_three min_three max_four min_four
set_option linter.unusedVariables false
set_option linter.unusedSimpArgs false
def okRow (last n : Int) : List Int → Bool
  | [] => true
  | x :: r => decide (last < x) && (decide (x < n) && okRow x n r)
def okRows (n : Int) : Int → List (List Int) → Bool
  | _, [] => true
  | p, row :: rest => okRow p n row && okRows n (p + 1) rest
def isGame (g : List (List Int)) : Bool := decide (1 ≤ g.length) && (decide (g.length ≤ 40) && okRows g.length 0 g)
theorem is_row (g : List (List Int)) (row : List Int) (p : Nat) (hp : g[p]? = some row) (hl : row.length < 4611686018427387904) (hg : g.length < 4611686018427387904) (v : Bool)
    (hv : Ev (fun k => spec_l01Is.l0 k (g.length : Int) ((p + 1 : Nat) : Int) g) v) (d : Nat) :
    ∀ (i : Nat) (last : Int), i + d = row.length → Ev (fun k => spec_l01Is.l1 k (g.length : Int) (p : Int) last (i : Int) g) (okRow last g.length (row.drop i) && v) := by
  have hpl : p < g.length := (List.getElem?_eq_some_iff.1 hp).1
  have hr : rd_L1 g (p : Int) = row := by rw [rdL1_nat]; exact getD_of hp
  induction d with
  | zero =>
    intro i last hd
    have e : row.drop i = [] := List.drop_eq_nil_of_le (by omega)
    rw [e]
    refine Ev.step (fun k => ?_) (r := v) (show Ev _ _ from hv)
    simp only [spec_l01Is.l1]
    rw [if_pos (by omega), if_pos (by omega), hr, if_neg (by omega), wrapS (by omega) (by omega), cast_succ]
  | succ d ih =>
    intro i last hd
    obtain ⟨x, hx⟩ := get_some (xs := row) (i := i) (by omega)
    have hrx : rd row (i : Int) = x := by rw [rd_nat]; exact getD_of hx
    have h1 : ∀ k, spec_l01Is.l1 (k + 1) (g.length : Int) (p : Int) last (i : Int) g = (if x ≤ last then (some false) else (if x ≥ (g.length : Int) then (some false) else (spec_l01Is.l1 k (g.length : Int) (p : Int) x ((i + 1 : Nat) : Int) g))) := fun k => by
      simp only [spec_l01Is.l1]
      rw [if_pos (by omega), if_pos (by omega), hr, if_pos (by omega), if_pos (by omega), hrx, wrapS (by omega) (by omega), cast_succ]
    rw [drop_of hx]
    simp only [okRow]
    by_cases c1 : x ≤ last
    · have : (decide (last < x)) = false := by simp; omega
      rw [this]
      exact Ev.step (fun k => by rw [h1, if_pos c1]) (Ev.now false)
    · have : (decide (last < x)) = true := by simp; omega
      rw [this]
      by_cases c2 : x ≥ (g.length : Int)
      · have : (decide (x < (g.length : Int))) = false := by simp; omega
        rw [this]
        exact Ev.step (fun k => by rw [h1, if_neg c1, if_pos c2]) (Ev.now false)
      · have : (decide (x < (g.length : Int))) = true := by simp; omega
        rw [this]
        simp only [Bool.true_and]
        exact Ev.step (fun k => by rw [h1, if_neg c1, if_neg c2]) (ih (i + 1) x (by omega))
theorem is_rows (g : List (List Int)) (hl : ∀ row ∈ g, row.length < 4611686018427387904) (hg : g.length < 4611686018427387904) (d : Nat) :
    ∀ p : Nat, p + d = g.length → Ev (fun k => spec_l01Is.l0 k (g.length : Int) (p : Int) g) (okRows g.length p (g.drop p)) := by
  induction d with
  | zero =>
    intro p hd
    rw [List.drop_eq_nil_of_le (by omega)]
    refine Ev.step (f := fun _ => some true) (fun k => ?_) (Ev.now true)
    simp only [spec_l01Is.l0]; rw [if_neg (by omega)]
  | succ d ih =>
    intro p hd
    obtain ⟨row, hp⟩ := get_some (xs := g) (i := p) (by omega)
    rw [drop_of hp]
    simp only [okRows, cast_succ]
    refine Ev.step (fun k => ?_) (is_row g row p hp (hl row (List.mem_of_getElem? hp)) hg _ (ih (p + 1) (by omega)) row.length 0 (p : Int) (by omega))
    simp only [spec_l01Is.l0]; rw [if_pos (by omega)]; rfl
theorem l01Is_ev (g : List (List Int)) (hl : ∀ row ∈ g, row.length < 4611686018427387904) (hg : g.length < 4611686018427387904) : Ev (fun k => spec_l01Is.f k g) (isGame g) := by
  have hin : spec_l01In.f (g.length : Int) 1 40 = some (decide (1 ≤ g.length) && decide (g.length ≤ 40)) := by
    unfold spec_l01In.f
    by_cases h : (g.length : Int) ≥ 1
    · rw [if_pos h]
      have : decide (1 ≤ g.length) = true := decide_eq_true (by omega)
      have e2 : decide ((g.length : Int) ≤ 40) = decide (g.length ≤ 40) := by rw [decide_eq_decide]; omega
      rw [this, Bool.true_and, e2]
    · rw [if_neg h]
      have : decide (1 ≤ g.length) = false := decide_eq_false (by omega)
      rw [this]; rfl
  unfold isGame
  by_cases h1 : (decide (1 ≤ g.length) && decide (g.length ≤ 40)) = true
  · have h2 : (decide (1 ≤ g.length) = true) ∧ (decide (g.length ≤ 40) = true) := by simpa using h1
    rw [h2.1, h2.2]
    simp only [Bool.true_and]
    refine Ev.congr (fun k => ?_) (is_rows g hl hg g.length 0 (by omega))
    unfold spec_l01Is.f spec_l01N.f
    simp only [Option.bind_some, hin]
    rw [if_pos h1]; rfl
  · have h2 : (decide (1 ≤ g.length) && (decide (g.length ≤ 40) && okRows (g.length : Int) 0 g)) = false := by
      cases a : decide (1 ≤ g.length) <;> cases b : decide (g.length ≤ 40) <;> simp_all
    rw [h2]
    refine Ev.congr (f := fun _ => some false) (fun k => ?_) (Ev.now false)
    unfold spec_l01Is.f spec_l01N.f
    simp only [Option.bind_some, hin]
    rw [if_neg h1]
theorem rising_loop (xs : List Int) (lo hi : Int) (hl : xs.length < 4611686018427387904) (d : Nat) :
    ∀ (i : Nat) (last : Int), i + d = xs.length → (if i = 0 then last = lo - 1 else xs[i - 1]? = some last) → lo - 1 ≤ last → Ev (fun k => impl_isRising.l0 k xs lo hi xs (xs.length : Int) (i : Int)) (okRow last (hi + 1) (xs.drop i)) := by
  have hw : ∀ a b c : Int, impl_within.f a b c = some (decide (b ≤ a) && decide (a ≤ c)) := by
    intro a b c
    unfold impl_within.f
    by_cases h : b ≤ a <;> simp [h]
  induction d with
  | zero =>
    intro i last hd _ _
    rw [List.drop_eq_nil_of_le (by omega)]
    refine Ev.step (f := fun _ => some true) (fun k => ?_) (Ev.now true)
    simp only [impl_isRising.l0]; rw [if_neg (by omega)]
  | succ d ih =>
    intro i last hd hlast hge
    obtain ⟨x, hx⟩ := get_some (xs := xs) (i := i) (by omega)
    have hrx : rd xs (i : Int) = x := by rw [rd_nat]; exact getD_of hx
    rw [drop_of hx]
    simp only [okRow]
    have hn := ih (i + 1) x (by omega) (by rw [if_neg (by omega)]; simpa using hx)
    by_cases h0 : i = 0
    · subst h0
      rw [if_pos rfl] at hlast
      subst hlast
      have h1 : ∀ k, impl_isRising.l0 (k + 1) xs lo hi xs (xs.length : Int) ((0 : Nat) : Int) = (if (decide (lo ≤ x) && decide (x ≤ hi)) = true then (impl_isRising.l0 k xs lo hi xs (xs.length : Int) ((0 + 1 : Nat) : Int)) else (some false)) := fun k => by
        simp only [impl_isRising.l0]
        rw [if_pos (by omega), if_pos (by omega), if_pos (by omega), hrx, hw]
        simp only [Option.bind_some]
        rw [if_neg (show ¬ (((0 : Nat) : Int) > 0) by omega), wrapS (by omega) (by omega), cast_succ]
      by_cases c : (decide (lo ≤ x) && decide (x ≤ hi)) = true
      · have c' : lo ≤ x ∧ x ≤ hi := by simpa using c
        have e1 : decide (lo - 1 < x) = true := by simp; omega
        have e2 : decide (x < hi + 1) = true := by simp; omega
        rw [e1, e2]
        simp only [Bool.true_and]
        exact Ev.step (fun k => by rw [h1, if_pos c]) (hn (by omega))
      · have e : (decide (lo - 1 < x) && (decide (x < hi + 1) && okRow x (hi + 1) (xs.drop (0 + 1)))) = false := by
          cases a : decide (lo - 1 < x) <;> cases b : decide (x < hi + 1) <;> simp_all <;> omega
        rw [e]
        exact Ev.step (fun k => by rw [h1, if_neg c]) (Ev.now false)
    · rw [if_neg h0] at hlast
      have hw1 : wrap64 ((i : Int) - 1) = ((i - 1 : Nat) : Int) := by rw [wrapS (by omega) (by omega)]; omega
      have hrl : rd xs ((i - 1 : Nat) : Int) = last := by
        rw [rd_nat]
        exact getD_of hlast
      have h1 : ∀ k, impl_isRising.l0 (k + 1) xs lo hi xs (xs.length : Int) (i : Int) = (if (decide (lo ≤ x) && decide (x ≤ hi)) = true then (if x ≤ last then (some false) else (impl_isRising.l0 k xs lo hi xs (xs.length : Int) ((i + 1 : Nat) : Int))) else (some false)) := fun k => by
        simp only [impl_isRising.l0]
        rw [if_pos (by omega), if_pos (by omega), if_pos (by omega), hrx, hw]
        simp only [Option.bind_some]
        rw [if_pos (show ((i : Int) > 0) by omega), hw1, if_pos (show (0 : Int) ≤ ((i - 1 : Nat) : Int) by omega), if_pos (show ((i - 1 : Nat) : Int) < (xs.length : Int) by omega), hrl, wrapS (by omega) (by omega), cast_succ]
      by_cases c1 : x ≤ last
      · have e : decide (last < x) = false := by simp; omega
        rw [e]
        refine Ev.step (f := fun _ => some false) (fun k => ?_) (Ev.now false)
        rw [h1, if_pos c1]; split <;> rfl
      · have e : decide (last < x) = true := by simp; omega
        rw [e]
        simp only [Bool.true_and]
        by_cases c2 : x ≤ hi
        · have e2 : decide (x < hi + 1) = true := by simp; omega
          rw [e2]
          simp only [Bool.true_and]
          exact Ev.step (fun k => by rw [h1, if_pos (by simp; omega), if_neg c1]) (hn (by omega))
        · have e2 : decide (x < hi + 1) = false := by simp; omega
          rw [e2]
          exact Ev.step (fun k => by rw [h1, if_neg (by simp; omega)]) (Ev.now false)
theorem rising_ev (xs : List Int) (lo hi : Int) (hl : xs.length < 4611686018427387904) : Ev (fun k => impl_isRising.f k xs lo hi) (okRow (lo - 1) (hi + 1) xs) := by
  have := rising_loop xs lo hi hl xs.length 0 (lo - 1) (by omega) (by simp) (by omega)
  exact this
theorem isg_loop (g : List (List Int)) (hl : ∀ row ∈ g, row.length < 4611686018427387904) (hg : g.length < 4611686018427387904) (d : Nat) :
    ∀ p : Nat, p + d = g.length → Ev (fun k => impl_IsGame.l0 k (g.length : Int) g (g.length : Int) (p : Int)) (okRows g.length p (g.drop p) && (decide (1 ≤ g.length) && decide (g.length ≤ 40))) := by
  induction d with
  | zero =>
    intro p hd
    rw [List.drop_eq_nil_of_le (by omega)]
    refine Ev.step (f := fun _ => some (decide (1 ≤ g.length) && decide (g.length ≤ 40))) (fun k => ?_) (by simp only [okRows, Bool.true_and]; exact Ev.now _)
    simp only [impl_IsGame.l0]; rw [if_neg (by omega)]
    unfold impl_within.f
    by_cases h : (1 : Int) ≤ (g.length : Int)
    · rw [if_pos h]
      have e : decide (1 ≤ g.length) = true := decide_eq_true (by omega)
      rw [e]; simp; omega
    · rw [if_neg h]
      have e : decide (1 ≤ g.length) = false := decide_eq_false (by omega)
      rw [e]; simp
  | succ d ih =>
    intro p hd
    obtain ⟨row, hp⟩ := get_some (xs := g) (i := p) (by omega)
    have hr : rd_L1 g (p : Int) = row := by rw [rdL1_nat]; exact getD_of hp
    rw [drop_of hp]
    simp only [okRows, cast_succ]
    have hrow := rising_ev row (wrap64 ((p : Int) + 1)) (wrap64 ((g.length : Int) - 1)) (hl row (List.mem_of_getElem? hp))
    rw [wrapS (by omega) (by omega), wrapS (by omega) (by omega), show (p : Int) + 1 - 1 = (p : Int) by omega, show (g.length : Int) - 1 + 1 = (g.length : Int) by omega] at hrow
    have hn := ih (p + 1) (by omega)
    refine Ev.step (f := fun k => (impl_isRising.f k row ((p : Int) + 1) ((g.length : Int) - 1)).bind fun t => if t = true then (impl_IsGame.l0 k (g.length : Int) g (g.length : Int) ((p + 1 : Nat) : Int)) else (some false)) (fun k => ?_) (Ev.bind hrow ?_)
    · simp only [impl_IsGame.l0]
      rw [if_pos (by omega), if_pos (by omega), if_pos (by omega), hr, wrapS (i := (p : Int) + 1) (by omega) (by omega), wrapS (i := (g.length : Int) - 1) (by omega) (by omega), cast_succ]
    · cases okRow (p : Int) (g.length : Int) row with
      | true => simp only [Bool.true_and]; exact Ev.congr (fun k => by simp) hn
      | false => exact Ev.congr (f := fun _ => some false) (fun k => by simp) (Ev.now false)
theorem IsGame_ev (g : List (List Int)) (hl : ∀ row ∈ g, row.length < 4611686018427387904) (hg : g.length < 4611686018427387904) : Ev (fun k => impl_IsGame.f k g) (isGame g) := by
  have := isg_loop g hl hg g.length 0 (by omega)
  have e : isGame g = (okRows (g.length : Int) ((0 : Nat) : Int) (g.drop 0) && (decide (1 ≤ g.length) && decide (g.length ≤ 40))) := by
    unfold isGame
    rw [List.drop_zero]
    cases decide (1 ≤ g.length) <;> cases decide (g.length ≤ 40) <;> simp
  rw [e]
  exact this

end Go.Proofs.Ytbiemfbdobdecaa.PX
