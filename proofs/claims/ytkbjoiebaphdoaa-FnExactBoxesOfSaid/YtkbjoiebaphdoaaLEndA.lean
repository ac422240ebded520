/- The number of boxes and of long chains of an ending, as the reference and the program tell them (no condition but sizes that fit). -/
import Derived.Test.YtkbjoiebaphdoaaPXx0
import Derived.Test.YtkbjoiebaphdoaaLEnd
import Derived.Test.YtkbjoiebaphdoaaPXx10
import Derived.Test.YtkbjoiebaphdoaaPXx11
namespace Go.Proofs.Ytkbjoiebaphdoaa.PX
open Go.RowKit Go.Proofs.YtkbjoiebaphdoaaW.PrintWords Go.Proofs.YtkbjoiebaphdoaaW.PrintLast Go.Proofs.YtkbjoiebaphdoaaW.PrintMore
attribute [local go_sem] max2_int min2_int max_two min_two max_three min_three max_four min_four
set_option linter.unusedVariables false
set_option linter.unusedSimpArgs false
def boxSum (l : List Int) : Int := l.foldl (fun a x => wrap64 (a + x)) 0
theorem take_foldl {l : List Int} {i : Nat} {x : Int} (hx : l[i]? = some x) : (l.take (i + 1)).foldl (fun a x => wrap64 (a + x)) 0 = wrap64 ((l.take i).foldl (fun a x => wrap64 (a + x)) 0 + x) := by
  rw [List.take_add_one, hx, List.foldl_append]; rfl
theorem l04Boxes_loop (l : List Int) (hl : l.length < 4611686018427387904) : ∀ d i : Nat, i + d = l.length → Ev (fun k => spec_l04Boxes.l0 k l ((l.take i).foldl (fun a x => wrap64 (a + x)) 0) (i : Int)) (boxSum l)
  | 0, i, hd => by
    refine Ev.step (f := fun _ => some _) (fun k => ?_) (Ev.now _)
    simp only [spec_l04Boxes.l0]
    rw [if_neg (by omega), List.take_of_length_le (by omega)]
    rfl
  | d + 1, i, hd => by
    obtain ⟨x, hx⟩ := get_some (xs := l) (i := i) (by omega)
    have ih := l04Boxes_loop l hl d (i + 1) (by omega)
    rw [take_foldl hx] at ih
    refine Ev.step (fun k => ?_) ih
    simp only [spec_l04Boxes.l0]
    rw [if_pos (by omega), if_pos (by omega), rd_nat, getD_of hx, wrapS (i := (i : Int) + 1) (by omega) (by omega), cast_succ]
theorem sum_loop (l : List Int) (hl : l.length < 4611686018427387904) : ∀ d i : Nat, i + d = l.length → Ev (fun k => impl_sum.l0 k ((l.take i).foldl (fun a x => wrap64 (a + x)) 0) l (l.length : Int) (i : Int)) (boxSum l)
  | 0, i, hd => by
    refine Ev.step (f := fun _ => some _) (fun k => ?_) (Ev.now _)
    simp only [impl_sum.l0]
    rw [if_neg (by omega), List.take_of_length_le (by omega)]
    rfl
  | d + 1, i, hd => by
    obtain ⟨x, hx⟩ := get_some (xs := l) (i := i) (by omega)
    have ih := sum_loop l hl d (i + 1) (by omega)
    rw [take_foldl hx] at ih
    refine Ev.step (fun k => ?_) ih
    simp only [impl_sum.l0]
    rw [if_pos (by omega), if_pos (by omega), if_pos (by omega), rd_nat, getD_of hx, wrapS (i := (i : Int) + 1) (by omega) (by omega), cast_succ]
theorem l04Boxes_ev (l : List Int) (hl : l.length < 4611686018427387904) : Ev (fun k => spec_l04Boxes.f k l) (boxSum l) := l04Boxes_loop l hl l.length 0 (by omega)
theorem sum_ev (l : List Int) (hl : l.length < 4611686018427387904) : Ev (fun k => impl_sum.f k l) (boxSum l) := sum_loop l hl l.length 0 (by omega)
def boxesOf (a b : List Int) : Int × Int := if isEnd a b = true then (wrap64 (boxSum a + boxSum b), 0) else (0, 1)
theorem specBoxes_ev (a b : List Int) (ha : a.length ≤ 1048576) (hb : b.length ≤ 1048576) : Ev (fun k => spec_BoxesOf.f k a b) (boxesOf a b) := by
  unfold spec_BoxesOf.f boxesOf
  refine Ev.bind (l04Is_ev a b ha hb) ?_
  cases isEnd a b
  · exact Ev.now _
  · refine Ev.congr (fun k => by rw [if_pos rfl]) (Ev.bind (l04Boxes_ev a (by omega)) (Ev.bind (l04Boxes_ev b (by omega)) ?_))
    exact Ev.now _
theorem implBoxes_ev (a b : List Int) (ha : a.length ≤ 1048576) (hb : b.length ≤ 1048576) : Ev (fun k => impl_BoxesOf.f k a b) (boxesOf a b) := by
  unfold impl_BoxesOf.f boxesOf
  refine Ev.bind (IsEnding_ev a b ha hb) ?_
  cases isEnd a b
  · exact Ev.now _
  · refine Ev.congr (fun k => by rw [if_pos rfl]) (Ev.bind (sum_ev a (by omega)) (Ev.bind (sum_ev b (by omega)) ?_))
    exact Ev.now _

end Go.Proofs.Ytkbjoiebaphdoaa.PX
