/- markInt64SS, a contract: the marks a, a + 1, .. lie in rows that lie apart, and nothing else has turned (conditions: the rows are the caller's own and apart; sizes fit). -/
import Derived.Test.YtkbjoiebaphdoaaPSx0
import Derived.Test.YtkbjoiebaphdoaaPSx3
import Derived.Test.YtkbjoiebaphdoaaSMark
import Derived.Test.YtkbjoiebaphdoaaSTot
namespace Go.Proofs.Ytkbjoiebaphdoaa.PS
open Go.RowKit Go.Proofs.YtkbjoiebaphdoaaW.PrintWords Go.Proofs.YtkbjoiebaphdoaaW.PrintLast Go.Proofs.YtkbjoiebaphdoaaW.PrintMore
attribute [local go_sem] max2_int min2_int max_two min_two max_three min_three max_four min_four
set_option linter.unusedVariables false
set_option linter.unusedSimpArgs false
/-- The marks, row by row. -/
def markL (a : Int) : List (List Int) → List (List Int)
  | [] => []
  | row :: rest => marks a row.length :: markL (a + row.length) rest
theorem markL_length : ∀ (a : Int) (g : List (List Int)), (markL a g).length = g.length
  | _, [] => rfl
  | a, row :: rest => by simp only [markL, List.length_cons, markL_length]
theorem total_append : ∀ (g h : List (List Int)), total (g ++ h) = total g + total h
  | [], h => by simp [total]
  | row :: rest, h => by simp only [List.cons_append, total, total_append rest h]; omega
theorem markL_append : ∀ (a : Int) (g h : List (List Int)), markL a (g ++ h) = markL a g ++ markL (a + total g) h
  | a, [], h => by simp [markL, total]
  | a, row :: rest, h => by
    simp only [List.cons_append, markL, total, markL_append _ rest h]
    rw [show a + (row.length : Int) + total rest = a + (row.length + total rest) by omega]
theorem take_snoc {α : Type} {xs : List α} {j : Nat} {x : α} (h : xs[j]? = some x) : xs.take (j + 1) = xs.take j ++ [x] := by
  obtain ⟨hl, e⟩ := List.getElem?_eq_some_iff.1 h
  rw [List.take_succ_eq_append_getElem hl, e]
theorem total_take (g : List (List Int)) (j : Nat) : 0 ≤ total (g.take j) ∧ total (g.take j) ≤ total g := by
  have h1 := total_nonneg (g.take j)
  have h2 := total_nonneg (g.drop j)
  have h3 : total g = total (g.take j) + total (g.drop j) := by rw [← total_append, List.take_append_drop]
  omega
set_option maxHeartbeats 8000000 in
set_option maxRecDepth 100000 in
theorem laws_markInt64SS.calls (ok : Nat → Prop) (v : Value) (xs : List (List Int)) (a : Int) (w0 w : World) (hB : Below w0.heap.size w0 w) (ho : Kd.S (Kd.slice 2 (Kd.int .i64)) 22 w w0.heap.size ok v xs) (ha : 0 ≤ a) (hn : a + total xs < 4611686018427387904) (hl : xs.length < 4611686018427387904) :
    Calls Try.prog 39 #[v, .int .i64 a] w fun e w' => e = .returned (.int .i64 (a + total xs)) ∧ Kd.S (Kd.slice 2 (Kd.int .i64)) 22 w' w0.heap.size ok v (markL a xs) ∧ Below w0.heap.size w0 w' ∧ Kept w w' ok := by
  obtain ⟨A, c, hv⟩ := Kd.S_slice ho
  obtain ⟨n, hnl⟩ : ∃ n, n = xs.length := ⟨_, rfl⟩
  rw [← hnl] at hv
  subst hv
  have HO := Aside0.mk ho
  have HB := Aside0.mk hB
  have HN := Aside0.mk hnl
  have HA := Aside0.mk ha
  have HT := Aside0.mk hn
  have HL := Aside0.mk hl
  clear ho hB hnl ha hn hl
  go_enter Try.func39, Try.ntmps39
  go_wp2
  go_loopg [1, 5] (n + 1) (fun kq v1 v5 wr => ∃ (x1 x5 : Int), v1 = .int .i64 x1 ∧ v5 = .int .i64 x5 ∧ Aside0 (∃ j : Nat, x5 = (j : Int) ∧ x1 = a + total (xs.take j) ∧ j ≤ n ∧ kq + j = n + 1 ∧ Kd.S (Kd.slice 2 (Kd.int .i64)) 22 wr w0.heap.size ok (.slice A n c) (markL a (xs.take j) ++ xs.drop j)) ∧ Aside0 (Below w0.heap.size w0 wr) ∧ Aside0 (Kept w wr ok))
  case atStart => exact ⟨a, 0, (by first | rfl | (simp; done) | (simp [*]; done)), (by first | rfl | (simp; done) | (simp [*]; done)), ⟨0, rfl, by simp [total], Nat.zero_le _, rfl, by simpa [markL] using HO.out⟩, HB, ⟨Kept.refl _ _⟩⟩
  case round =>
    obtain ⟨x1, x5, rfl, rfl, ⟨j, h5, h1, hj, hq, hS⟩, HBr, HK⟩ := hrel
    have H5 := Aside0.mk h5
    have H1 := Aside0.mk h1
    have HJ := Aside0.mk hj
    have HQ := Aside0.mk hq
    have HS := Aside0.mk hS
    clear h5 h1 hj hq hS
    by_cases c3 : x5 < (n : Int)
    · have hjn : j < xs.length := by have := H5.out; have := HN.out; omega
      obtain ⟨row, hrow⟩ := get_some hjn
      have hlen : (markL a (xs.take j)).length = j := by rw [markL_length, List.length_take]; omega
      obtain ⟨g, cap, hg, _, _, _⟩ := Kd.S_form HS.out (by rw [List.length_append, hlen, List.length_drop]; omega)
      injection hg with hA hn_ hc
      clear hn_
      subst hA
      subst hc
      have hi0 : 0 ≤ x5 := by rw [H5.out]; omega
      obtain ⟨oki, cl, hcl, hM, hcc, hoki, hH⟩ := Kd.S_lend HS.out [] x5 hi0 c3
      obtain ⟨vj, rfl, hR⟩ := hM
      have hget : (markL a (xs.take j) ++ xs.drop j).getD x5.toNat [] = row := by
        rw [H5.out, Int.toNat_natCast]
        apply getD_of
        rw [List.getElem?_append_right (by omega), hlen, Nat.sub_self, List.getElem?_drop, Nat.add_zero, hrow]
      rw [hget] at hR
      have hx := hcc 0 vj rfl
      simp only [show ((Kd.slice 2 (Kd.int .i64))).sz = 1 from rfl, Nat.mul_one, Nat.add_zero] at hx
      have htl := total_take xs j
      have htr : total (xs.take (j + 1)) = total (xs.take j) + row.length := by rw [take_snoc hrow, total_append]; simp [total]
      have htl2 := total_take xs (j + 1)
      obtain ⟨K, hK⟩ := mark_ev row x1 (by have := H1.out; have := HA.out; omega) (by have := H1.out; have := HT.out; omega)
      have HM := Aside0.mk (hK K (Nat.le_refl _))
      have HR := Aside0.mk hR
      have HH := Aside0.mk hH
      have HOK := Aside0.mk hoki
      have HROW := Aside0.mk hrow
      have HLEN := Aside0.mk hlen
      have HTR := Aside0.mk htr
      have HTL := Aside0.mk htl
      have HTL2 := Aside0.mk htl2
      have c3b0 : decide (x5 < (n : Int)) = true := decide_eq_true c3
      have c4b0 : decide (0 ≤ x5) = true := decide_eq_true hi0
      have HJN := Aside0.mk hjn
      clear hK hR hH hoki hrow hlen htr htl htl2 hget hcl hcc hjn
      replace hi0 := eq_true hi0
      replace c3 := eq_true c3
      go_wp2_with ((with_reducible refine gate_callee (f := 44) rfl ?_); refine goesL_ (some 17) rfl rfl Try.func44 (by kernel_rfl) rfl #[vj, .int .i64 x1] rfl (by (try simp only [List.map_toArray, List.map_cons, List.map_nil]); first | done | rfl) ?_; (with_reducible refine (laws_markInt64S.calls K oki vj row x1 _ _ w0 wr HBr.out HR.out HM.out).mono ?_); rintro e w1 ⟨rfl, hy0, hb, hkp⟩; refine ⟨_, rfl, ?_⟩; have HY := Aside0.mk (Kd.R_reok rfl hy0 (fun k_ e_ => HR.out.1 k_ e_)); have HBn := Aside0.mk hb; have HKP := Aside0.mk hkp; clear hy0 hb hkp)
      go_roundg (n - j)
      case measure => have := HQ.out; have := HJ.out; have := HJN.out; have := HN.out; omega
      case rel =>
        refine ⟨x1 + (row.length : Int), wrap64 (x5 + 1), (by first | rfl | (simp; done) | (simp [*]; done)), (by first | rfl | (simp; done) | (simp [*]; done)), ⟨j + 1, ?_, ?_, ?_, ?_, ?_⟩, HBn, ⟨HK.out.then_ HKP.out (fun k hk => .inl (HOK.out k hk).1)⟩⟩
        · have := H5.out; have := HJN.out; have := HL.out; unfold wrap64; omega
        · rw [HTR.out, H1.out]; omega
        · have := HJN.out; have := HN.out; omega
        · have := HQ.out; have := HJN.out; have := HN.out; omega
        · have hb := Kd.H_back (Kd.H_kept HH.out HKP.out (fun k _ h2 h3 => h2 h3)) (x' := marks x1 row.length) ⟨vj, rfl, HY.out⟩ (fun k hk => hk)
          have e : (markL a (xs.take j) ++ xs.drop j).set x5.toNat (marks x1 row.length) = markL a (xs.take (j + 1)) ++ xs.drop (j + 1) := by
            rw [H5.out, Int.toNat_natCast, drop_of HROW.out, take_snoc HROW.out, markL_append, H1.out]
            conv => lhs; rw [show j = (markL a (xs.take j)).length from HLEN.out.symm]
            rw [HLEN.out, List.set_append_right _ _ (by rw [HLEN.out]; exact Nat.le_refl _), HLEN.out, Nat.sub_self, List.set_cons_zero]
            simp [markL]
          rw [e] at hb
          exact hb
    · have c3b0 : decide (x5 < (n : Int)) = false := decide_eq_false c3
      have HC := Aside0.mk c3
      clear c3
      go_wp2
      go_ret
      have hjn : j = n := by have := HC.out; have := H5.out; have := HJ.out; omega
      have hS := HS.out
      rw [hjn, HN.out, List.take_length, List.drop_length, List.append_nil] at hS
      have h1 := H1.out
      rw [hjn, HN.out, List.take_length] at h1
      refine ⟨?_, ?_, HBr.out, HK.out⟩
      · rw [← h1]; rfl
      · rw [HN.out]; exact hS

end Go.Proofs.Ytkbjoiebaphdoaa.PS
