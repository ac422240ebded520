/- slices.DeleteFunc over whole numbers, on a slice of the caller's own, for any function value that answers a plain test and leaves memory as it is (conditions: the slice holds xs; each call answers). -/
import Derived.Test.YtkbjoiebaphdoaaPXx0
import Derived.Test.YtkbjoiebaphdoaaFunLib
import Derived.Test.YtkbjoiebaphdoaaIvl
import Derived.Lib.SliceRun
namespace Go.Proofs.Ytkbjoiebaphdoaa.PX
open Go.RowKit Go.Proofs.YtkbjoiebaphdoaaW.PrintWords Go.Proofs.YtkbjoiebaphdoaaW.PrintLast Go.Proofs.YtkbjoiebaphdoaaW.PrintMore
attribute [local go_sem] max2_int min2_int max_two min_two max_three min_three max_four min_four
set_option linter.unusedVariables false
set_option linter.unusedSimpArgs false
theorem R_zeros {g n c base : Nat} {ok : Nat → Prop} (hbg : base ≤ g) : ∀ (m i : Nat) (W : World) (xs : List Int), Kd.R (Kd.int .i64) 2 W base ok (.slice (some ⟨g, 0, none⟩) n c) xs →
    ∃ ys : List Int, ys.length = xs.length ∧ ys.take i = xs.take i ∧ Kd.R (Kd.int .i64) 2 (W.setCells g i (List.replicate m (.int .i64 0))) base ok (.slice (some ⟨g, 0, none⟩) n c) ys ∧ Below base W (W.setCells g i (List.replicate m (.int .i64 0)))
  | 0, i, W, xs, h => ⟨xs, rfl, rfl, h, Below.refl _ _⟩
  | m + 1, i, W, xs, h => by
    have h1 := (Kd.R_putg h (i : Int) (0 : Int)).1
    rw [Int.toNat_natCast] at h1
    obtain ⟨ys, e1, e2, e3, e4⟩ := R_zeros hbg m (i + 1) _ _ h1
    refine ⟨ys, by rw [e1, List.length_set], ?_, e3, ?_⟩
    · have e5 : ys.take i = (ys.take (i + 1)).take i := by rw [List.take_take, Nat.min_eq_left (by omega)]
      rw [e5, e2, List.take_take, Nat.min_eq_left (by omega), List.take_set_of_le (Nat.le_refl i)]
    · exact Below.trans ((Below.refl base W).setCell hbg _) e4
theorem idxOf_hit {p : Int → Bool} {xs : List Int} (h : ¬ idxOf p xs = -1) : ∃ i : Nat, idxOf p xs = (i : Int) ∧ ∃ x, xs[i]? = some x ∧ p x = true ∧ ∀ j, j < i → ∀ y, xs[j]? = some y → p y = false := by
  unfold idxOf at h ⊢
  cases e : xs.findIdx? p with
  | none => rw [e] at h; exact absurd rfl h
  | some i =>
    rw [List.findIdx?_eq_some_iff_getElem] at e
    obtain ⟨hl, hp, hb⟩ := e
    refine ⟨i, rfl, xs[i], List.getElem?_eq_getElem hl, hp, fun j hj y hy => ?_⟩
    obtain ⟨hl2, e2⟩ := List.getElem?_eq_some_iff.1 hy
    have := hb j hj
    rw [e2] at this
    simpa using this
theorem filter_take_all {p : Int → Bool} {xs : List Int} : ∀ i : Nat, (∀ j, j < i → ∀ y, xs[j]? = some y → p y = false) → (xs.take i).filter (fun x => !p x) = xs.take i := by
  intro i h
  rw [List.filter_eq_self]
  intro x hx
  obtain ⟨j, hj, e⟩ := List.getElem_of_mem hx
  rw [List.length_take] at hj
  have e2 : xs[j]? = some x := by rw [← e, List.getElem_take, List.getElem?_eq_getElem (by omega)]
  rw [h j (by omega) x e2]
  rfl
set_option maxHeartbeats 16000000 in
set_option maxRecDepth 100000 in
theorem DeleteFunc.calls (f : FuncId) (cap : Array Value) (p : Int → Bool) (hF : HasFn f) (base : Nat) (ok : Nat → Prop) (v : Value) (xs : List Int) (w : World) (hb0 : base ≤ w.heap.size)
    (ho : Kd.R (Kd.int .i64) 2 w base ok v xs) (hlen : xs.length < 4611686018427387904)
    (hT : ∀ x ∈ xs, ∀ w1 : World, Below base w w1 → Calls Try.prog f (#[.int .i64 x] ++ cap) w1 fun e w' => e = .returned (.bool (p x)) ∧ Drawn0 w1 w') :
    Calls Try.prog 67 #[v, .func (.func f) #[] cap] w fun e w' => ∃ v' : Value, e = .returned v' ∧ Kd.R (Kd.int .i64) 2 w' base ok v' (xs.filter fun x => !p x) ∧ Below base w w' := by
  have HT := Aside0.mk hT
  have HF := Aside0.mk hF
  have HO := Aside0.mk ho
  have HN := Aside0.mk hlen
  have hTests : Tests f cap p xs w := ⟨hF, fun x hx n => hT x hx _ (by repeat (first | exact Below.refl _ _ | apply pw_below_drewN))⟩
  have HTS := Aside0.mk hTests
  clear hT hF ho hlen hTests
  obtain ⟨A0, c0, e0⟩ := Kd.R_slice HO.out
  subst e0
  by_cases hany : idxOf p xs = -1
  · have hnone : xs.any p = false := by rw [← idxOf_any, hany]; rfl
    have hkeep : xs.filter (fun x => !p x) = xs := by
      rw [List.filter_eq_self]
      intro x hx
      rw [List.any_eq_false] at hnone
      simpa using hnone x hx
    have HI := Aside0.mk hany
    clear hany
    go_enter Try.func67, Try.ntmps67
    go_wp2_with (first | ((with_reducible refine gate_dst (N := 10) rfl ?_); refine goesL_ (some 10) rfl rfl Try.func100 (by kernel_rfl) rfl #[.slice A0 xs.length c0, .func (.func f) #[] cap] rfl (by (try simp only [List.map_toArray, List.map_cons, List.map_nil]); first | done | rfl) ?_; (with_reducible refine (IndexFunc.calls f cap p _ _ xs _ ?side1 ?side2 HTS.out).mono ?_); (case side1 => exact (Kd.R_reads' HO.out).2.2); (case side2 => exact (Kd.R_reads' HO.out).2.1); rw [HI.out]; rintro e w1 ⟨rfl, ⟨nd, rfl⟩⟩; refine ⟨_, rfl, ?_⟩))
    go_ret
    rw [hkeep]
    exact ⟨_, rfl, Kd.R_drewN HO.out _, by repeat (first | exact Below.refl _ _ | apply pw_below_drewN)⟩
  · obtain ⟨i0, hi0, x0, hx0, hpx0, hbef⟩ := idxOf_hit hany
    have hl0 : i0 < xs.length := (List.getElem?_eq_some_iff.1 hx0).1
    have hstart : (xs.take (i0 + 1)).filter (fun x => !p x) = xs.take i0 := by
      rw [List.take_add_one, hx0, List.filter_append, filter_take_all i0 hbef]
      simp [hpx0]
    have hne : ((i0 : Int) == -1) = false := beq_eq_false_iff_ne.2 (by omega)
    have HI := Aside0.mk hi0
    have HS := Aside0.mk hstart
    have HL0 := Aside0.mk hl0
    clear hany hi0 hx0 hpx0 hbef hstart hl0
    obtain ⟨go, co, eo, gb, gl, cl, HG⟩ := Kd.R_form HO.out (by have := HL0.out; omega)
    cases eo
    have GB := Aside0.mk gb
    clear gb gl HG
    go_enter Try.func67, Try.ntmps67
    go_wp2_with (first | ((with_reducible refine gate_dst (N := 10) rfl ?_); refine goesL_ (some 10) rfl rfl Try.func100 (by kernel_rfl) rfl #[.slice (some ⟨go, 0, none⟩) xs.length c0, .func (.func f) #[] cap] rfl (by (try simp only [List.map_toArray, List.map_cons, List.map_nil]); first | done | rfl) ?_; (with_reducible refine (IndexFunc.calls f cap p _ _ xs _ ?side1 ?side2 HTS.out).mono ?_); (case side1 => exact (Kd.R_reads' HO.out).2.2); (case side2 => exact (Kd.R_reads' HO.out).2.1); rw [HI.out]; rintro e w1 ⟨rfl, ⟨nd, hnd⟩⟩; refine ⟨_, rfl, ?_⟩; have n0_ := Aside0.mk (hnd.symm ▸ Kd.R_drewN HO.out nd : Kd.R (Kd.int .i64) 2 w1 base ok (.slice (some ⟨go, 0, none⟩) xs.length c0) xs); have HB := Aside0.mk (hnd.symm ▸ (by repeat (first | exact Below.refl _ _ | apply pw_below_drewN) : Below base w (w.drewN nd)) : Below base w w1); clear HO hnd; have HO := n0_; clear n0_))
    go_loopg [5, 6, 7] xs.length (fun gg s5 s6 _ wr => ∃ (i j : Nat) (ys : List Int), s5 = .int .i64 (i : Int) ∧ s6 = .int .i64 (j : Int) ∧ Aside0 (i < j ∧ j ≤ xs.length ∧ xs.length - j ≤ gg ∧ ys.length = xs.length ∧ ys.take i = (xs.take j).filter (fun x => !p x) ∧ ys.drop j = xs.drop j) ∧ Aside0 (Kd.R (Kd.int .i64) 2 wr base ok (.slice (some ⟨go, 0, none⟩) xs.length c0) ys) ∧ Aside0 (Below base w wr))
    case atStart =>
      have hw_ : wrap64 ((i0 : Int) + 1) = ((i0 + 1 : Nat) : Int) := by have := HL0.out; have := HN.out; unfold wrap64; omega
      exact ⟨i0, i0 + 1, xs, rfl, (by first | (rw [← hw_]; done) | (rw [← hw_]; rfl)), ⟨by omega, by have := HL0.out; omega, by omega, rfl, HS.out.symm, rfl⟩, HO, HB⟩
    case round =>
      clear HO HB HI HS HL0 HTS hne
      obtain ⟨i, j, ys, rfl, rfl, HV, HO, HB⟩ := hrel
      obtain ⟨v1, v2, v3, v4, v5, v6⟩ := HV.out
      by_cases hlt : j < xs.length
      · obtain ⟨x, hx⟩ : ∃ x, xs[j]? = some x := ⟨xs[j], List.getElem?_eq_getElem hlt⟩
        have hyx : ys[j]? = some x := by
          have e1 : (ys.drop j)[0]? = (xs.drop j)[0]? := by rw [v6]
          rw [List.getElem?_drop, List.getElem?_drop] at e1
          simpa [hx] using e1
        have hm : x ∈ xs := List.mem_of_getElem? hx
        have hry : rd ys (j : Int) = x := by unfold rd; rw [Int.toNat_natCast, List.getD_eq_getElem?_getD, hyx]; rfl
        obtain ⟨hxj, hfj⟩ := Kd.R_celln (0 : Int) HO.out (j : Int) (by omega) (by omega)
        rw [show rdOf (0 : Int) ys (j : Int) = x from hry, Int.toNat_natCast] at hxj
        rw [Int.toNat_natCast] at hfj
        have hcall := HT.out x hm wr HB.out
        have hjn : decide ((j : Int) < (xs.length : Int)) = true := decide_eq_true (by omega)
        have pj : (0 ≤ (j : Int)) = True := eq_true (by omega)
        have qj : ((j : Int) < (xs.length : Int)) = True := eq_true (by omega)
        have pi : (0 ≤ (i : Int)) = True := eq_true (by omega)
        have qi : ((i : Int) < (xs.length : Int)) = True := eq_true (by omega)
        cases hp : p x
        · rw [hp] at hcall
          have HC := Aside0.mk hcall
          have HX := Aside0.mk hx
          have HLT := Aside0.mk hlt
          have HP := Aside0.mk hp
          clear hcall hx hyx hm hry v1 v2 v3 v4 v5 v6 hlt hp
          go_wp2_with (first | ((with_reducible refine gate_dst (N := 28) rfl ?_); refine goesV_ (some 28) rfl rfl f cap HF.out #[.int .i64 x] rfl rfl (by (try simp only [List.map_toArray, List.map_cons, List.map_nil]); first | done | rfl) ?_; (with_reducible refine HC.out.mono ?_); rintro e w2 ⟨rfl, ⟨nd, hnd⟩⟩; refine ⟨_, rfl, ?_⟩; have n0_ := Aside0.mk (hnd.symm ▸ Kd.R_drewN HO.out nd : Kd.R (Kd.int .i64) 2 w2 base ok (.slice (some ⟨go, 0, none⟩) xs.length c0) ys); have n1_ := Aside0.mk (hnd.symm ▸ (by repeat (first | exact HB.out | apply pw_below_drewN) : Below base w (wr.drewN nd)) : Below base w w2); clear HO HB hnd hxj hfj; have HO := n0_; have HB := n1_; clear n0_ n1_; obtain ⟨hxi, hfi⟩ := Kd.R_celln (0 : Int) HO.out (i : Int) (by omega) (by have := HV.out; omega); rw [Int.toNat_natCast] at hxi hfi; have HP7 := Kd.R_putg HO.out (i : Int) x; rw [Int.toNat_natCast] at HP7) | ((with_reducible refine gate_store (t := 2) (p := 33) rfl ?_); refine store_event (t := 2) (p := 33) (v := ?vo_w8) (w1 := (w2.setCell ⟨go, i, none⟩ (.int .i64 x))) ?hg ?ho ?hn ?hr ?_; (case ho => rfl); (case hg => rfl); (case hn => rfl); (case hr => first | (go_simp; done) | (go_simp; rfl)); intro w8 hw; have n0_ := Aside0.mk (hw.symm ▸ HP7.1 : Kd.R (Kd.int .i64) 2 w8 base ok (.slice (some ⟨go, 0, none⟩) xs.length c0) (ys.set i x)); have n1_ := Aside0.mk (hw.symm ▸ HB.out.setCell GB.out _ : Below base w w8); clear HP7 HO HB hw hxi hfi; have HO := n0_; have HB := n1_; clear n0_ n1_))
          go_roundg (xs.length - (j + 1))
          case measure => have := HV.out; have := HLT.out; omega
          case rel =>
            have hv := HV.out
            have hlt := HLT.out
            have hn := HN.out
            have hi_ : wrap64 ((i : Int) + 1) = ((i + 1 : Nat) : Int) := by unfold wrap64; omega
            have hj_ : wrap64 ((j : Int) + 1) = ((j + 1 : Nat) : Int) := by unfold wrap64; omega
            refine ⟨i + 1, j + 1, ys.set i x, (by first | (rw [← hi_]; done) | (rw [← hi_]; rfl)), (by first | (rw [← hj_]; done) | (rw [← hj_]; rfl)), ⟨by omega, by omega, by omega, by rw [List.length_set]; omega, ?_, ?_⟩, HO, HB⟩
            · rw [List.take_add_one, List.take_set_of_le (Nat.le_refl i), List.getElem?_set_self (by omega), hv.2.2.2.2.1, List.take_add_one, HX.out, List.filter_append]
              simp [HP.out]
            · rw [List.drop_set_of_lt (by omega), show j + 1 = j + 1 from rfl, ← List.drop_drop, hv.2.2.2.2.2, List.drop_drop]
        · rw [hp] at hcall
          have HC := Aside0.mk hcall
          have HX := Aside0.mk hx
          have HLT := Aside0.mk hlt
          have HP := Aside0.mk hp
          clear hcall hx hyx hm hry v1 v2 v3 v4 v5 v6 hlt hp
          go_wp2_with (first | ((with_reducible refine gate_dst (N := 28) rfl ?_); refine goesV_ (some 28) rfl rfl f cap HF.out #[.int .i64 x] rfl rfl (by (try simp only [List.map_toArray, List.map_cons, List.map_nil]); first | done | rfl) ?_; (with_reducible refine HC.out.mono ?_); rintro e w2 ⟨rfl, ⟨nd, hnd⟩⟩; refine ⟨_, rfl, ?_⟩; have n0_ := Aside0.mk (hnd.symm ▸ Kd.R_drewN HO.out nd : Kd.R (Kd.int .i64) 2 w2 base ok (.slice (some ⟨go, 0, none⟩) xs.length c0) ys); have n1_ := Aside0.mk (hnd.symm ▸ (by repeat (first | exact HB.out | apply pw_below_drewN) : Below base w (wr.drewN nd)) : Below base w w2); clear HO HB hnd hxj hfj; have HO := n0_; have HB := n1_; clear n0_ n1_))
          go_roundg (xs.length - (j + 1))
          case measure => have := HV.out; have := HLT.out; omega
          case rel =>
            have hv := HV.out
            have hlt := HLT.out
            have hn := HN.out
            have hj_ : wrap64 ((j : Int) + 1) = ((j + 1 : Nat) : Int) := by unfold wrap64; omega
            refine ⟨i, j + 1, ys, rfl, (by first | (rw [← hj_]; done) | (rw [← hj_]; rfl)), ⟨by omega, by omega, by omega, by omega, ?_, ?_⟩, HO, HB⟩
            · rw [hv.2.2.2.2.1, List.take_add_one, HX.out, List.filter_append]
              simp [HP.out]
            · rw [← List.drop_drop, hv.2.2.2.2.2, List.drop_drop]
      · have hjn : decide ((j : Int) < (xs.length : Int)) = false := decide_eq_false (by omega)
        have hcl : ∀ ty, (Builtin.clear_ #[22] ty #[.slice (some ⟨go, i, none⟩) (xs.length - i) (c0 - i)]).run Try.prog wr = .ok (.tuple #[]) (wr.setCells go i (List.replicate (xs.length - i) (.int .i64 0))) :=
          fun ty => Go.Lib.run_clear_slice wr _ _ ty _ Try.underlying22 (fun _ => rfl) rfl rfl go i _ _ (by omega)
            (fun t ht => by have h := (Kd.R_celln (0 : Int) HO.out ((i + t : Nat) : Int) (by omega) (by omega)).1; rw [Int.toNat_natCast] at h; rw [h]; rfl)
            (fun t ht => by have h := (Kd.R_celln (0 : Int) HO.out ((i + t : Nat) : Int) (by omega) (by omega)).2; rw [Int.toNat_natCast] at h; exact h)
        obtain ⟨zs, z1, z2, z3, z4⟩ := R_zeros GB.out (xs.length - i) i wr ys HO.out
        have hz : zs.take i = xs.filter (fun x => !p x) := by rw [z2, v5, List.take_of_length_le (by omega)]
        have Z3 := Aside0.mk z3
        have Z4 := Aside0.mk z4
        have HZ := Aside0.mk hz
        have Z1 := Aside0.mk z1
        have hi0 : (0 ≤ (i : Int)) = True := eq_true (by omega)
        have hin : i ≤ xs.length := by omega
        have hcap := (Kd.R_reads' HO.out).2.1
        have hic : i ≤ c0 := by omega
        have hnc : ¬ (c0 = i) := by omega
        have hnc2 : ¬ (i = c0) := by omega
        have hnc3 : ¬ (c0 - i = 0) := by omega
        have hnl : ¬ (xs.length = i) := by omega
        clear z1 z2 z3 z4 hz v1 v2 v3 v4 v5 v6
        go_wp2
        go_ret
        rw [← HZ.out]
        exact ⟨_, rfl, Kd.R_take Z3.out (by have := Z1.out; have := HV.out; omega), HB.out.trans Z4.out⟩

end Go.Proofs.Ytkbjoiebaphdoaa.PX
