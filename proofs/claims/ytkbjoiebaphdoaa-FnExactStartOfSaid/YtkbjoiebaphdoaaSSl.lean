/- The kind of a slice whose rows lie apart (no condition). -/
import Derived.Test.YtkbjoiebaphdoaaPSx0
namespace Go.Proofs.Ytkbjoiebaphdoaa.PS
open Go.RowKit Go.Proofs.YtkbjoiebaphdoaaW.PrintWords Go.Proofs.YtkbjoiebaphdoaaW.PrintLast Go.Proofs.YtkbjoiebaphdoaaW.PrintMore
attribute [local go_sem] max2_int min2_int max_two min_two max_three min_three max_four min_four
set_option linter.unusedVariables false
set_option linter.unusedSimpArgs false
/-- A slice whose rows lie apart, as an element. -/
def sl {α : Type} (e : Nat) (d : Kd α) : Kd (List α) where
  sz := 1
  E := e :: d.E
  K := fun w xs cs => ∃ A c, cs = [.slice A xs.length c] ∧ xs.length ≤ c ∧ d.C w A xs.length xs
  M := fun w base ok xs cs => ∃ v, cs = [v] ∧ Kd.S d e w base ok v xs
  K_len := (Kd.slice e d).K_len
  K_one := (Kd.slice e d).K_one
  K_below := (Kd.slice e d).K_below
  K_of_M := by
    rintro w base ok x cs ⟨v, rfl, h⟩
    obtain ⟨A, c, rfl, hl, hr⟩ := Kd.S_reads h
    exact ⟨A, c, rfl, hl, hr⟩
  M_mono := by
    rintro w base ok ok' x cs hok ⟨v, rfl, h⟩
    exact ⟨v, rfl, Kd.S_mono h hok⟩
  M_bound := by
    rintro w base ok x cs ⟨v, rfl, h⟩
    exact ⟨v, rfl, Kd.S_bound h⟩
  M_move := by
    rintro w w1 base ok x cs hm ⟨v, rfl, h⟩
    exact ⟨v, rfl, Kd.S_move h hm⟩
  M_lower := by
    rintro w base base' ok x cs hb ⟨v, rfl, h⟩
    exact ⟨v, rfl, Kd.S_lower h hb⟩
theorem M_rowS {α : Type} {d : Kd α} {e base : Nat} {ok : Nat → Prop} {w : World} {v : Value} {xs : List α} (h : Kd.S d e w base ok v xs) : (sl e d).M w base ok xs [v] := ⟨v, rfl, h⟩
theorem both3 {α β : Type} {d : Kd α} {d2 : Kd β} {e e2 base : Nat} {ok ok2 : Nat → Prop} {W w1 : World} {u v : Value} {xs : List α} {ys : List β} (h : Kd.S d e W base ok u xs) (hb : Below W.heap.size W w1) (h2 : Kd.S d2 e2 w1 W.heap.size ok2 v ys) :
    ∃ N, Kd.S d e w1 base (fun k => ok k ∧ k < N) u xs ∧ Kd.S d2 e2 w1 N (fun k => ok2 k ∧ N ≤ k) v ys ∧ N = W.heap.size :=
  ⟨_, Kd.S_old h hb, Kd.S_mono (Kd.S_bound h2) (fun _ hk => ⟨hk.1, hk.2.1⟩), rfl⟩

end Go.Proofs.Ytkbjoiebaphdoaa.PS
