/- Sizes of lists of lists, and comparisons of a list with itself (no condition but sizes that fit). -/
import Derived.Test.YtkbjoiebaphdoaaPSx0
import Derived.Test.YtkbjoiebaphdoaaPSx3
import Derived.Test.YtkbjoiebaphdoaaSEqI
import Derived.Test.YtkbjoiebaphdoaaSBase
namespace Go.Proofs.Ytkbjoiebaphdoaa.PS
open Go.RowKit Go.Proofs.YtkbjoiebaphdoaaW.PrintWords Go.Proofs.YtkbjoiebaphdoaaW.PrintLast Go.Proofs.YtkbjoiebaphdoaaW.PrintMore
attribute [local go_sem] max2_int min2_int max_two min_two max_three min_three max_four min_four
set_option linter.unusedVariables false
set_option linter.unusedSimpArgs false
def total : List (List Int) → Int
  | [] => 0
  | row :: rest => row.length + total rest
theorem total_nonneg : ∀ g : List (List Int), 0 ≤ total g
  | [] => by simp [total]
  | row :: rest => by have := total_nonneg rest; simp only [total]; omega
theorem total_mem {g : List (List Int)} {row : List Int} (h : row ∈ g) : (row.length : Int) ≤ total g := by
  induction g with
  | nil => simp at h
  | cons x rest ih =>
    simp only [total]
    have := total_nonneg rest
    rcases List.mem_cons.1 h with rfl | h
    · omega
    · have := ih h
      omega
theorem eqSS_loop (g : List (List Int)) (hl : ∀ row ∈ g, row.length < 4611686018427387904) (hg : g.length < 4611686018427387904) (d : Nat) : ∀ i : Nat, i + d = g.length → Ev (fun k => laws_eqInt64SS.l0 k g g (i : Int)) true := by
  induction d with
  | zero =>
    intro i hd
    refine Ev.step (f := fun _ => some true) (fun k => ?_) (Ev.now true)
    simp only [laws_eqInt64SS.l0]; rw [if_neg (by omega)]
  | succ d ih =>
    intro i hd
    obtain ⟨row, hp⟩ := get_some (xs := g) (i := i) (by omega)
    have hr : rd_L1 g (i : Int) = row := by rw [rdL1_nat]; exact getD_of hp
    refine Ev.step (f := fun k => (laws_eqInt64S.f k row row).bind fun t => if t = true then laws_eqInt64SS.l0 k g g ((i + 1 : Nat) : Int) else some false) (fun k => ?_) (Ev.bind (eqI_ev row (hl row (List.mem_of_getElem? hp))) ?_)
    · simp only [laws_eqInt64SS.l0]
      rw [if_pos (by omega), if_pos (by omega), if_pos (by omega), hr, wrapS (by omega) (by omega), cast_succ]
    · exact Ev.congr (fun k => by simp) (ih (i + 1) (by omega))
theorem eqSS_ev (g : List (List Int)) (hl : ∀ row ∈ g, row.length < 4611686018427387904) (hg : g.length < 4611686018427387904) : Ev (fun k => laws_eqInt64SS.f k g g) true := by
  refine Ev.congr (fun k => ?_) (eqSS_loop g hl hg g.length 0 (by omega))
  unfold laws_eqInt64SS.f
  rw [if_pos rfl]; rfl
theorem eq3_loop (R : List (List (List Int))) (hl : ∀ g ∈ R, g.length ≤ 1048576 ∧ total g ≤ 1048576) (hL : R.length ≤ 1048576) : ∀ (d i : Nat), i + d = R.length → Ev (fun k => laws_eqInt64SSS.l0 k R R (i : Int)) true
  | 0, i, hd => by
    refine Ev.step (f := fun _ => some true) (fun k => ?_) (Ev.now _)
    rw [laws_eqInt64SSS.l0, if_neg (by omega)]
  | d + 1, i, hd => by
    obtain ⟨g, hg⟩ := get_some (xs := R) (i := i) (by omega)
    have hgl := hl g (List.mem_of_getElem? hg)
    have er : rd_L2 R (i : Int) = g := by unfold rd_L2; rw [Int.toNat_natCast, getD_of hg]
    have hw : wrap64 ((i : Int) + 1) = ((i + 1 : Nat) : Int) := by rw [wrapS (by omega) (by omega), cast_succ]
    refine Ev.step (f := fun k => (laws_eqInt64SS.f k g g).bind fun t209 => (if t209 = true then (laws_eqInt64SSS.l0 k R R ((i + 1 : Nat) : Int)) else (some false))) (fun k => ?_) (Ev.bind (eqSS_ev g (fun row hr => by have := total_mem hr; omega) (by omega)) (Ev.congr (fun k => by rw [if_pos rfl]) (eq3_loop R hl hL d (i + 1) (by omega))))
    rw [laws_eqInt64SSS.l0, if_pos (by omega), if_pos (by omega), if_pos (by omega), er, hw]
theorem eq3_ev (n : Int) (R : List (List (List Int))) (hl : ∀ g ∈ R, g.length ≤ 1048576 ∧ total g ≤ 1048576) (hL : R.length ≤ 1048576) : Ev (fun k => laws_eqSprouts.f k n R n R) true := by
  have h : Ev (fun k => laws_eqInt64SSS.f k R R) true := by
    refine Ev.congr (fun k => ?_) (eq3_loop R hl hL R.length 0 (by omega))
    unfold laws_eqInt64SSS.f
    rw [if_pos rfl]; rfl
  unfold laws_eqSprouts.f
  refine Ev.congr (fun k => by rw [if_pos rfl]) (Ev.bind h ?_)
  exact Ev.congr (f := fun _ => some true) (fun k => by rw [if_pos rfl]) (Ev.now _)

end Go.Proofs.Ytkbjoiebaphdoaa.PS
