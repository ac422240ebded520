/- markInt64SSS and markSprouts, contracts: the marks lie in rows that lie apart, and nothing else has turned (conditions: the rows are the caller's own and apart; sizes fit). -/
import Derived.Test.YtkbjoiebaphdoaaPSx0
import Derived.Test.YtkbjoiebaphdoaaSMarkSS
import Derived.Test.YtkbjoiebaphdoaaSSl
namespace Go.Proofs.Ytkbjoiebaphdoaa.PS
open Go.RowKit Go.Proofs.YtkbjoiebaphdoaaW.PrintWords Go.Proofs.YtkbjoiebaphdoaaW.PrintLast Go.Proofs.YtkbjoiebaphdoaaW.PrintMore
attribute [local go_sem] max2_int min2_int max_two min_two max_three min_three max_four min_four
set_option linter.unusedVariables false
set_option linter.unusedSimpArgs false
def total3 : List (List (List Int)) → Int
  | [] => 0
  | g :: rest => total g + total3 rest
theorem total3_nonneg : ∀ g : List (List (List Int)), 0 ≤ total3 g
  | [] => by simp [total3]
  | row :: rest => by have := total3_nonneg rest; have := total_nonneg row; simp only [total3]; omega
/-- The marks, region by region. -/
def markLL (a : Int) : List (List (List Int)) → List (List (List Int))
  | [] => []
  | g :: rest => markL a g :: markLL (a + total g) rest
def Fits3 (xs : List (List (List Int))) : Prop := xs.length < 4611686018427387904 ∧ ∀ g ∈ xs, g.length < 4611686018427387904
theorem markLL_length : ∀ (a : Int) (g : List (List (List Int))), (markLL a g).length = g.length
  | _, [] => rfl
  | a, row :: rest => by simp only [markLL, List.length_cons, markLL_length]
theorem total3_append : ∀ (g h : List (List (List Int))), total3 (g ++ h) = total3 g + total3 h
  | [], h => by simp [total3]
  | row :: rest, h => by simp only [List.cons_append, total3, total3_append rest h]; omega
theorem markLL_append : ∀ (a : Int) (g h : List (List (List Int))), markLL a (g ++ h) = markLL a g ++ markLL (a + total3 g) h
  | a, [], h => by simp [markLL, total3]
  | a, row :: rest, h => by
    simp only [List.cons_append, markLL, total3, markLL_append _ rest h]
    rw [show a + total row + total3 rest = a + (total row + total3 rest) by omega]
theorem total3_take (g : List (List (List Int))) (j : Nat) : 0 ≤ total3 (g.take j) ∧ total3 (g.take j) ≤ total3 g := by
  have h1 := total3_nonneg (g.take j)
  have h2 := total3_nonneg (g.drop j)
  have h3 : total3 g = total3 (g.take j) + total3 (g.drop j) := by rw [← total3_append, List.take_append_drop]
  omega
set_option maxHeartbeats 8000000 in
set_option maxRecDepth 100000 in
theorem laws_markInt64SSS.calls (ok : Nat → Prop) (v : Value) (xs : List (List (List Int))) (a : Int) (w0 w : World) (hB : Below w0.heap.size w0 w) (ho : Kd.S (sl 22 (Kd.slice 2 (Kd.int .i64))) 41 w w0.heap.size ok v xs) (ha : 0 ≤ a) (hn : a + total3 xs < 4611686018427387904) (hl : Fits3 xs) :
    Calls Try.prog 94 #[v, .int .i64 a] w fun e w' => e = .returned (.int .i64 (a + total3 xs)) ∧ Kd.S (sl 22 (Kd.slice 2 (Kd.int .i64))) 41 w' w0.heap.size ok v (markLL a xs) ∧ Below w0.heap.size w0 w' ∧ Kept w w' ok := by
  obtain ⟨A, c, hv⟩ := Kd.S_slice ho
  obtain ⟨n, hnl⟩ : ∃ n, n = xs.length := ⟨_, rfl⟩
  rw [← hnl] at hv
  subst hv
  have HO := Aside0.mk ho
  have HB := Aside0.mk hB
  have HN := Aside0.mk hnl
  have HA := Aside0.mk ha
  have HT := Aside0.mk hn
  have HL := Aside0.mk hl
  clear ho hB hnl ha hn hl
  go_enter Try.func94, Try.ntmps94
  go_wp2
  go_loopg [1, 5] (n + 1) (fun kq v1 v5 wr => ∃ (x1 x5 : Int), v1 = .int .i64 x1 ∧ v5 = .int .i64 x5 ∧ Aside0 (∃ j : Nat, x5 = (j : Int) ∧ x1 = a + total3 (xs.take j) ∧ j ≤ n ∧ kq + j = n + 1 ∧ Kd.S (sl 22 (Kd.slice 2 (Kd.int .i64))) 41 wr w0.heap.size ok (.slice A n c) (markLL a (xs.take j) ++ xs.drop j)) ∧ Aside0 (Below w0.heap.size w0 wr) ∧ Aside0 (Kept w wr ok))
  case atStart => exact ⟨a, 0, (by first | rfl | (simp; done) | (simp [*]; done)), (by first | rfl | (simp; done) | (simp [*]; done)), ⟨0, rfl, by simp [total3], Nat.zero_le _, rfl, by simpa [markLL] using HO.out⟩, HB, ⟨Kept.refl _ _⟩⟩
  case round =>
    obtain ⟨x1, x5, rfl, rfl, ⟨j, h5, h1, hj, hq, hS⟩, HBr, HK⟩ := hrel
    have H5 := Aside0.mk h5
    have H1 := Aside0.mk h1
    have HJ := Aside0.mk hj
    have HQ := Aside0.mk hq
    have HS := Aside0.mk hS
    clear h5 h1 hj hq hS
    by_cases c3 : x5 < (n : Int)
    · have hjn : j < xs.length := by have := H5.out; have := HN.out; omega
      obtain ⟨row, hrow⟩ := get_some hjn
      have hlen : (markLL a (xs.take j)).length = j := by rw [markLL_length, List.length_take]; omega
      obtain ⟨g, cap, hg, _, _, _⟩ := Kd.S_form HS.out (by rw [List.length_append, hlen, List.length_drop]; omega)
      injection hg with hA hn_ hc
      clear hn_
      subst hA
      subst hc
      have hi0 : 0 ≤ x5 := by rw [H5.out]; omega
      obtain ⟨oki, cl, hcl, hM, hcc, hoki, hH⟩ := Kd.S_lend HS.out [] x5 hi0 c3
      obtain ⟨vj, rfl, hR⟩ := hM
      have hget : (markLL a (xs.take j) ++ xs.drop j).getD x5.toNat [] = row := by
        rw [H5.out, Int.toNat_natCast]
        apply getD_of
        rw [List.getElem?_append_right (by omega), hlen, Nat.sub_self, List.getElem?_drop, Nat.add_zero, hrow]
      rw [hget] at hR
      have hx := hcc 0 vj rfl
      simp only [show ((sl 22 (Kd.slice 2 (Kd.int .i64)))).sz = 1 from rfl, Nat.mul_one, Nat.add_zero] at hx
      have htl := total3_take xs j
      have htr : total3 (xs.take (j + 1)) = total3 (xs.take j) + total row := by rw [take_snoc hrow, total3_append]; simp [total3]
      have htl2 := total3_take xs (j + 1)
      have HM := Aside0.mk (show 0 ≤ x1 ∧ x1 + total row < 4611686018427387904 from ⟨by have := H1.out; have := HA.out; omega, by have := H1.out; have := HT.out; omega⟩)
      have HLR := Aside0.mk (HL.out.2 row (List.mem_of_getElem? hrow))
      have HR := Aside0.mk hR
      have HH := Aside0.mk hH
      have HOK := Aside0.mk hoki
      have HROW := Aside0.mk hrow
      have HLEN := Aside0.mk hlen
      have HTR := Aside0.mk htr
      have HTL := Aside0.mk htl
      have HTL2 := Aside0.mk htl2
      have c3b0 : decide (x5 < (n : Int)) = true := decide_eq_true c3
      have c4b0 : decide (0 ≤ x5) = true := decide_eq_true hi0
      have HJN := Aside0.mk hjn
      clear hR hH hoki hrow hlen htr htl htl2 hget hcl hcc hjn
      replace hi0 := eq_true hi0
      replace c3 := eq_true c3
      go_wp2_with ((with_reducible refine gate_callee (f := 39) rfl ?_); refine goesL_ (some 17) rfl rfl Try.func39 (by kernel_rfl) rfl #[vj, .int .i64 x1] rfl (by (try simp only [List.map_toArray, List.map_cons, List.map_nil]); first | done | rfl) ?_; (with_reducible refine (laws_markInt64SS.calls oki vj row x1 w0 wr HBr.out HR.out HM.out.1 HM.out.2 HLR.out).mono ?_); rintro e w1 ⟨rfl, hy0, hb, hkp⟩; refine ⟨_, rfl, ?_⟩; have HY := Aside0.mk hy0; have HBn := Aside0.mk hb; have HKP := Aside0.mk hkp; clear hy0 hb hkp)
      go_roundg (n - j)
      case measure => have := HQ.out; have := HJ.out; have := HJN.out; have := HN.out; omega
      case rel =>
        refine ⟨x1 + total row, wrap64 (x5 + 1), (by first | rfl | (simp; done) | (simp [*]; done)), (by first | rfl | (simp; done) | (simp [*]; done)), ⟨j + 1, ?_, ?_, ?_, ?_, ?_⟩, HBn, ⟨HK.out.then_ HKP.out (fun k hk => .inl (HOK.out k hk).1)⟩⟩
        · have := H5.out; have := HJN.out; have := HL.out.1; unfold wrap64; omega
        · rw [HTR.out, H1.out]; omega
        · have := HJN.out; have := HN.out; omega
        · have := HQ.out; have := HJN.out; have := HN.out; omega
        · have hb := Kd.H_back (Kd.H_kept HH.out HKP.out (fun k _ h2 h3 => h2 h3)) (x' := markL x1 row) ⟨vj, rfl, HY.out⟩ (fun k hk => hk)
          have e : (markLL a (xs.take j) ++ xs.drop j).set x5.toNat (markL x1 row) = markLL a (xs.take (j + 1)) ++ xs.drop (j + 1) := by
            rw [H5.out, Int.toNat_natCast, drop_of HROW.out, take_snoc HROW.out, markLL_append, H1.out]
            conv => lhs; rw [show j = (markLL a (xs.take j)).length from HLEN.out.symm]
            rw [HLEN.out, List.set_append_right _ _ (by rw [HLEN.out]; exact Nat.le_refl _), HLEN.out, Nat.sub_self, List.set_cons_zero]
            simp [markLL]
          rw [e] at hb
          exact hb
    · have c3b0 : decide (x5 < (n : Int)) = false := decide_eq_false c3
      have HC := Aside0.mk c3
      clear c3
      go_wp2
      go_ret
      have hjn : j = n := by have := HC.out; have := H5.out; have := HJ.out; omega
      have hS := HS.out
      rw [hjn, HN.out, List.take_length, List.drop_length, List.append_nil] at hS
      have h1 := H1.out
      rw [hjn, HN.out, List.take_length] at h1
      refine ⟨?_, ?_, HBr.out, HK.out⟩
      · rw [← h1]; rfl
      · rw [HN.out]; exact hS
set_option maxHeartbeats 8000000 in
set_option maxRecDepth 100000 in
theorem laws_markSprouts.calls (ok : Nat → Prop) (z : Int) (A : Option Addr) (n c : Nat) (xs : List (List (List Int))) (a : Int) (w0 w : World) (hB : Below w0.heap.size w0 w) (ho : Kd.S (sl 22 (Kd.slice 2 (Kd.int .i64))) 41 w w0.heap.size ok (.slice A n c) xs) (ha : 0 ≤ a) (hn : a + total3 xs < 4611686018427387904) (hl : Fits3 xs) :
    Calls Try.prog 58 #[.agg #[.int .i64 z, .slice A n c], .int .i64 a] w fun e w' => e = .returned (.int .i64 (a + total3 xs)) ∧ Kd.S (sl 22 (Kd.slice 2 (Kd.int .i64))) 41 w' w0.heap.size ok (.slice A n c) (markLL a xs) ∧ Below w0.heap.size w0 w' ∧ Kept w w' ok := by
  have HO := Aside0.mk ho
  have HB := Aside0.mk hB
  have HA := Aside0.mk ha
  have HT := Aside0.mk hn
  have HL := Aside0.mk hl
  clear ho hB ha hn hl
  have huG := Try.underlying62
  go_enter Try.func58, Try.ntmps58
  go_wp2_with (first | ((with_reducible refine gate_dst (N := 2) rfl ?_); refine box_event ?hg (N := 2) ?hd (cs := #[.int .i64 z, .slice A n c]) (t := 62) ?hr ?_; (case hd => rfl); (case hg => rfl); (case hr => first | (go_simp; done) | (go_simp; rfl)); intro gb hg w2 hbox hb; have n0_ := Aside0.mk (Kd.S_below HO.out hb); have n1_ := Aside0.mk (below_then HB.out HB.out.size hb); have HK := Aside0.mk (Kept.of_below hb ok); have HBX := Aside0.mk hbox; clear HO HB hb hbox hg; have HO := n0_; have HB := n1_; clear n0_ n1_; have hcz : w2.cell? ⟨gb, 1, none⟩ = some (.slice A n c) := (blk_cell HBX.out 1).trans rfl; have hfz := blk_frozen HBX.out 1) | ((with_reducible refine gate_callee (f := 94) rfl ?_); refine goesL_ (some 8) rfl rfl Try.func94 (by kernel_rfl) rfl #[.slice A n c, .int .i64 a] rfl (by (try simp only [List.map_toArray, List.map_cons, List.map_nil]); first | done | rfl) ?_; (with_reducible refine (laws_markInt64SSS.calls ok _ xs a w0 _ HB.out HO.out HA.out HT.out HL.out).mono ?_); rintro e w3 ⟨rfl, hs, hb, hk⟩; refine ⟨_, rfl, ?_⟩; have HS := Aside0.mk hs; have HB3 := Aside0.mk hb; have HK3 := Aside0.mk hk; clear hs hb hk hcz hfz))
  go_ret
  exact ⟨rfl, HS.out, HB3.out, HK.out.then_ HK3.out (fun k hk => .inl hk)⟩

end Go.Proofs.Ytkbjoiebaphdoaa.PS
