/- strings.Join, by the shelf's contract (conditions: the slice reads as the list; the number of words and the bytes of what comes out are at most 2 to the 47th). -/
import Derived.Test.YtjihfaebfhbpfaaPXx0
import Derived.Test.YtjihfaebfhbpfaaShelf
namespace Go.Proofs.Ytjihfaebfhbpfaa.PX
open Go.RowKit Go.Proofs.YtjihfaebfhbpfaaW.PrintWords Go.Proofs.YtjihfaebfhbpfaaW.PrintLast Go.Proofs.YtjihfaebfhbpfaaW.PrintMore
attribute [local go_sem] max2_int min2_int max_two min_two max_three min_three max_four min_four
set_option linter.unusedVariables false
set_option linter.unusedSimpArgs false
def strings_Join.f (l0 : List ByteArray) (a1 : ByteArray) : Option ByteArray := if l0.length ≤ 140737488355328 ∧ (Lib.join (l0.map (·.data.toList)) a1.data.toList).length ≤ 140737488355328 then some ⟨(Lib.join (l0.map (·.data.toList)) a1.data.toList).toArray⟩ else none
theorem strings_Join.calls (A0 : Option Addr) (c0 : Nat) (l0 : List ByteArray) (a1 : ByteArray) (r : ByteArray) (w : World) (hr0 : Kd.C Kd.string w A0 l0.length l0) (hc0 : l0.length ≤ c0) (h : strings_Join.f l0 a1 = some r) :
    Calls Try.prog 37 #[.slice A0 l0.length c0, .string a1] w fun e w' => e = .returned (.string r) ∧ Below w.heap.size w w' := by
  unfold strings_Join.f at h
  split at h
  · rename_i hh
    obtain rfl := Option.some.inj h
    cases l0 with
    | nil =>
      refine (Try.strings_Join_none A0 c0 a1 w).mono ?_
      rintro e w' ⟨rfl, rfl⟩
      exact ⟨rfl, Below.refl _ _⟩
    | cons x xs =>
      have hat : ∀ i : Nat, i < (x :: xs).length → ∃ ad, A0 = some ad ∧ w.cell? (ad.add i) = some (.string (rdOf ByteArray.empty (x :: xs) (i : Int))) := fun i hi => Kd.at_string hr0 (i : Int) (by omega) (by omega)
      obtain ⟨ad, rfl, h0⟩ := hat 0 (by simp)
      obtain ⟨bk, o, sp⟩ := ad
      have hs : sp = none ∧ bk < w.heap.size := by
        unfold World.cell? at h0
        split at h0
        · rename_i cs t z hb
          refine ⟨?_, (Array.getElem?_eq_some_iff.1 hb).1⟩
          split at h0
          · exact absurd h0 (by simp)
          · rename_i hn
            cases sp with
            | none => rfl
            | some s => exact absurd rfl hn
        · exact absurd h0 (by simp)
      obtain ⟨rfl, hbk⟩ := hs
      refine Try.strings_Join bk o c0 (x :: xs) a1 w (fun j y hy => ?_) hbk hh.1 hc0 hh.2
      obtain ⟨hj, hy⟩ := List.getElem?_eq_some_iff.1 hy
      obtain ⟨ad, e, hc⟩ := hat j hj
      obtain rfl := Option.some.inj e
      rw [show rdOf ByteArray.empty (x :: xs) (j : Int) = y from by rw [← hy]; unfold rdOf; simp [List.getD_eq_getElem?_getD, List.getElem?_eq_getElem hj]] at hc
      have e2 : ((⟨bk, o, none⟩ : Addr).add j) = ⟨bk, o + j, none⟩ := by unfold Addr.add; split <;> simp_all
      exact e2 ▸ hc
  · exact absurd h (by simp)

end Go.Proofs.Ytjihfaebfhbpfaa.PX
