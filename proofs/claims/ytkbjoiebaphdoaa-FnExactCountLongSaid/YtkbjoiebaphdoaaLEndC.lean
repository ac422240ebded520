/- The number of long chains of an ending, as the reference and the program tell it (no condition but sizes that fit). -/
import Derived.Test.YtkbjoiebaphdoaaPXx0
import Derived.Test.YtkbjoiebaphdoaaLEnd
import Derived.Test.YtkbjoiebaphdoaaGCountLong
import Derived.Test.YtkbjoiebaphdoaaPXx13
namespace Go.Proofs.Ytkbjoiebaphdoaa.PX
open Go.RowKit Go.Proofs.YtkbjoiebaphdoaaW.PrintWords Go.Proofs.YtkbjoiebaphdoaaW.PrintLast Go.Proofs.YtkbjoiebaphdoaaW.PrintMore
attribute [local go_sem] max2_int min2_int max_two min_two max_three min_three max_four min_four
set_option linter.unusedVariables false
set_option linter.unusedSimpArgs false
def longs (l : List Int) : Nat := (l.filter fun n => !(decide (n < 3))).length
theorem long_loop (a b : List Int) (hl : a.length < 4611686018427387904) : ∀ d i : Nat, i + d = a.length → Ev (fun k => spec_CountLong.l0 k (longs (a.take i) : Int) (i : Int) a b) ((longs a : Int), 0)
  | 0, i, hd => by
    refine Ev.step (f := fun _ => some _) (fun k => ?_) (Ev.now _)
    simp only [spec_CountLong.l0]
    rw [if_neg (by omega), List.take_of_length_le (by omega)]
  | d + 1, i, hd => by
    obtain ⟨x, hx⟩ := get_some (xs := a) (i := i) (by omega)
    have ih := long_loop a b hl d (i + 1) (by omega)
    have hle : longs (a.take i) ≤ i := Nat.le_trans (List.length_filter_le _ _) (by rw [List.length_take]; omega)
    have e : longs (a.take (i + 1)) = longs (a.take i) + (if x > 2 then 1 else 0) := by
      unfold longs
      rw [List.take_add_one, hx, List.filter_append, List.length_append]
      congr 1
      show (List.filter _ [x]).length = _
      rw [List.filter_cons]
      by_cases c : x > 2
      · rw [if_pos c, if_pos (by simp; omega)]; rfl
      · rw [if_neg c, if_neg (by simp; omega)]; rfl
    rw [e] at ih
    refine Ev.step (fun k => ?_) ih
    simp only [spec_CountLong.l0]
    rw [if_pos (by omega), if_pos (by omega), rd_nat, getD_of hx, wrapS (i := (i : Int) + 1) (by omega) (by omega), cast_succ]
    by_cases c : x > 2
    · rw [if_pos c, if_pos c, wrapS (by omega) (by omega)]
      rfl
    · rw [if_neg c, if_neg c]
      rfl
def countLong (a b : List Int) : Int × Int := if isEnd a b = true then ((longs a : Int), 0) else (0, 1)
theorem specLong_ev (a b : List Int) (ha : a.length ≤ 1048576) (hb : b.length ≤ 1048576) : Ev (fun k => spec_CountLong.f k a b) (countLong a b) := by
  unfold spec_CountLong.f countLong
  refine Ev.bind (l04Is_ev a b ha hb) ?_
  cases isEnd a b
  · exact Ev.now _
  · have h : Ev (fun k => spec_CountLong.l0 k 0 0 a b) ((longs a : Int), 0) := long_loop a b (by omega) a.length 0 (by omega)
    exact Ev.congr (fun k => by rw [if_pos rfl]) h
theorem implLong_ev (a b : List Int) (ha : a.length ≤ 1048576) (hb : b.length ≤ 1048576) : Ev (fun k => impl_CountLong.f k a b) (countLong a b) := by
  unfold impl_CountLong.f countLong
  refine Ev.bind (IsEnding_ev a b ha hb) ?_
  cases isEnd a b
  · exact Ev.now _
  · exact Ev.congr (f := fun _ => some _) (fun k => by rw [if_pos rfl, if_pos (by omega)]; rfl) (Ev.now _)

end Go.Proofs.Ytkbjoiebaphdoaa.PX
