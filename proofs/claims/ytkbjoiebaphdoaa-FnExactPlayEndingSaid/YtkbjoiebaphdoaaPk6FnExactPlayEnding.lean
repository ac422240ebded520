/- Part 6 of the texts under the row of FnExactPlayEnding (no condition). -/
import Derived.Lib.SliceRun
import Derived.ArgAppend
import Derived.Deep.RegionLaw
import Derived.Test.YtkbjoiebaphdoaaPk5FnExactPlayEnding
/- slices.Delete of one number, on a slice of the caller's own (conditions: the slice holds xs; the place is one of its places). -/
namespace Go.Proofs.Ytkbjoiebaphdoaa.PX
open Go.RowKit Go.Proofs.YtkbjoiebaphdoaaW.PrintWords Go.Proofs.YtkbjoiebaphdoaaW.PrintLast Go.Proofs.YtkbjoiebaphdoaaW.PrintMore
attribute [local go_sem] max2_int min2_int max_two min_two max_three min_three max_four min_four
set_option linter.unusedVariables false
set_option linter.unusedSimpArgs false
theorem zeroDI (w : World) : (zeroValue 2).run Try.prog w = .ok (.int .i64 0) w := by kernel_rfl
theorem grownBy_drew (w : World) (row : Option Nat) : w.grownBy w.drew row := ⟨rfl, rfl, rfl, Nat.le_refl _, fun _ _ _ => rfl⟩
theorem R_writes {g n c base : Nat} {ok : Nat → Prop} (hbg : base ≤ g) : ∀ (news : List Int) (i : Nat) (W : World) (xs : List Int), i + news.length ≤ xs.length → Kd.R (Kd.int .i64) 2 W base ok (.slice (some ⟨g, 0, none⟩) n c) xs →
    ∃ ys : List Int, ys.length = xs.length ∧ ys.take (i + news.length) = xs.take i ++ news ∧ Kd.R (Kd.int .i64) 2 (W.setCells g i (news.map (Value.int .i64))) base ok (.slice (some ⟨g, 0, none⟩) n c) ys ∧ Below base W (W.setCells g i (news.map (Value.int .i64))) ∧ W.grownBy (W.setCells g i (news.map (Value.int .i64))) (some g)
  | [], i, W, xs, _, h => ⟨xs, rfl, by simp, h, Below.refl _ _, World.grownBy.refl _ _⟩
  | x :: news, i, W, xs, hl, h => by
    rw [List.length_cons] at hl
    obtain ⟨h1, h2⟩ := Kd.R_putg h (i : Int) x
    rw [Int.toNat_natCast] at h1 h2
    obtain ⟨ys, e1, e2, e3, e4, e5⟩ := R_writes hbg news (i + 1) _ _ (by rw [List.length_set]; omega) h1
    refine ⟨ys, by rw [e1, List.length_set], ?_, e3, Below.trans ((Below.refl base W).setCell hbg _) e4, h2.trans e5⟩
    rw [List.length_cons, show i + (news.length + 1) = i + 1 + news.length by omega, e2, List.take_add_one, List.take_set_of_le (Nat.le_refl i), List.getElem?_set_self (by omega)]
    simp
set_option maxHeartbeats 16000000 in
set_option maxRecDepth 100000 in
theorem Delete.calls (base : Nat) (ok : Nat → Prop) (v : Value) (xs : List Int) (i : Nat) (hi : i < xs.length) (w : World) (hb0 : base ≤ w.heap.size)
    (ho : Kd.R (Kd.int .i64) 2 w base ok v xs) (hlen : xs.length < 4611686018427387904) :
    Calls Try.prog 103 #[v, .int .i64 (i : Int), .int .i64 ((i + 1 : Nat) : Int)] w fun e w' => ∃ v' : Value, e = .returned v' ∧ Kd.R (Kd.int .i64) 2 w' base ok v' (xs.take i ++ xs.drop (i + 1)) ∧ Below base w w' ∧ w.grownBy w' v.ownBlock ∧ v'.ownBlock = v.ownBlock := by
  have HO := Aside0.mk ho
  have HN := Aside0.mk hlen
  have HI := Aside0.mk hi
  clear ho hlen hi
  obtain ⟨A0, c0, e0⟩ := Kd.R_slice HO.out
  subst e0
  obtain ⟨go, co, eo, gb, gl, cl, HG⟩ := Kd.R_form HO.out (by have := HI.out; omega)
  cases eo
  have GB := Aside0.mk gb
  clear gb gl HG
  have HB := Aside0.mk (Below.refl base w)
  have hcap := (Kd.R_reads' HO.out).2.1
  have HC := Aside0.mk hcap
  have hne : ((i : Int) == ((i + 1 : Nat) : Int)) = false := beq_eq_false_iff_ne.2 (by omega)
  have hi := HI.out
  have p1 : (0 ≤ (i : Int)) = True := eq_true (by omega)
  have p2 : i ≤ i + 1 := Nat.le_succ i
  have p3 : i + 1 ≤ xs.length := hi
  have p4 : i + 1 ≤ c0 := Nat.le_trans hi hcap
  have p5 : i ≤ xs.length := Nat.le_of_lt hi
  have p6 : i ≤ c0 := Nat.le_trans p5 hcap
  have p7 : ¬ (c0 = i) := fun e => absurd p4 (by rw [e]; exact Nat.not_succ_le_self i)
  have p8 : (0 ≤ (i : Int) + 1) = True := eq_true (by omega)
  have p9 : ((i : Int) + 1 ≤ (xs.length : Int)) = True := eq_true (by omega)
  clear hi
  obtain ⟨news, hnews⟩ : ∃ news, news = (xs.drop (i + 1)).map (Value.int .i64) := ⟨_, rfl⟩
  have hlen : news.length = xs.length - (i + 1) := by rw [hnews]; simp
  obtain ⟨Ad, hA, hsrc⟩ : ∃ Ad : Addr, (if c0 = i + 1 then some (⟨go, 0, none⟩ : Addr) else some ⟨go, i + 1, none⟩) = some Ad ∧ Aside0 (∀ t u, news[t]? = some u → w.drew.cell? (Ad.add t) = some u) := by
    by_cases h : c0 = i + 1
    · refine ⟨⟨go, 0, none⟩, by simp [h], ⟨fun t u hu => ?_⟩⟩
      have h0 : news.length = 0 := by rw [hlen]; have := HC.out; omega
      rw [List.length_eq_zero_iff.1 h0] at hu
      simp at hu
    · refine ⟨⟨go, i + 1, none⟩, by simp [h], ⟨fun t u hu => ?_⟩⟩
      have ht : t < xs.length - (i + 1) := by
        have := (List.getElem?_eq_some_iff.1 hu).1
        rwa [hlen] at this
      obtain ⟨x, hx⟩ : ∃ x, xs[i + 1 + t]? = some x := ⟨_, List.getElem?_eq_getElem (by omega)⟩
      rw [hnews, List.getElem?_map, List.getElem?_drop, hx] at hu
      obtain ⟨hc, _⟩ := Kd.R_celln (0 : Int) HO.out ((i + 1 + t : Nat) : Int) (by omega) (by omega)
      rw [show rdOf (0 : Int) xs ((i + 1 + t : Nat) : Int) = x by unfold rdOf; rw [Int.toNat_natCast, List.getD_eq_getElem?_getD, hx]; rfl, Int.toNat_natCast] at hc
      rw [Addr.add_lit]
      exact hc.trans hu
  have s1 := Aside0.mk (show news.length = (xs.length - (i + 1)) * 1 by rw [Nat.mul_one]; exact hlen)
  have s2 := Aside0.mk (show ∀ u ∈ news, u.oneCell' = true by
    intro u hu
    rw [hnews] at hu
    obtain ⟨x, _, rfl⟩ := List.mem_map.1 hu
    rfl)
  have s3 := Aside0.mk (show ∀ t, t < news.length → (w.drew.cell? ⟨go, 0 + i * 1 + t, none⟩).isSome = true ∧ w.drew.frozen? ⟨go, 0 + i * 1 + t, none⟩ = false by
    intro t ht
    rw [hlen] at ht
    obtain ⟨h1, h2⟩ := Kd.R_celln (0 : Int) HO.out ((i + t : Nat) : Int) (by omega) (by omega)
    rw [Int.toNat_natCast] at h1 h2
    rw [Nat.mul_one, Nat.zero_add]
    exact ⟨by show (w.cell? _).isSome = true; rw [h1]; rfl, h2⟩)
  obtain ⟨W1, hW1⟩ : ∃ W1, W1 = w.drew.setCells go (0 + i * 1) news := ⟨_, rfl⟩
  have HO1 := Aside0.mk (Kd.R_drew HO.out)
  obtain ⟨ys, e1, e2, e3, e4, e5⟩ := R_writes GB.out (xs.drop (i + 1)) i w.drew xs (by simp; omega) HO1.out
  have eW : W1 = w.drew.setCells go i ((xs.drop (i + 1)).map (Value.int .i64)) := by rw [hW1, hnews, Nat.mul_one, Nat.zero_add]
  rw [← eW] at e3 e4 e5
  have hys : xs.length = ys.length := e1.symm
  have hll : i + (xs.length - (i + 1)) = xs.length - 1 := by omega
  have hcl : ∀ ty, (Builtin.clear_ #[22] ty #[.slice (some ⟨go, i + (xs.length - (i + 1)), none⟩) (xs.length - (i + (xs.length - (i + 1)))) (c0 - (i + (xs.length - (i + 1))))]).run Try.prog W1 = .ok (.tuple #[]) (W1.setCells go (i + (xs.length - (i + 1))) (List.replicate (xs.length - (i + (xs.length - (i + 1)))) (Value.int .i64 0))) := by
    intro ty
    have hc := Kd.R_celln (0 : Int) e3 ((xs.length - 1 : Nat) : Int) (by omega) (by omega)
    rw [Int.toNat_natCast] at hc
    rw [hll]
    refine Lib.run_clear_slice W1 _ _ ty _ Try.underlying22 zeroDI rfl rfl go (xs.length - 1) _ _ (by omega) (fun t ht => ?_) (fun t ht => ?_)
    · have : t = 0 := by omega
      subst this
      rw [Nat.add_zero, hc.1]; rfl
    · have : t = 0 := by omega
      subst this
      rw [Nat.add_zero]
      exact hc.2
  obtain ⟨zs, z1, z2, z3, z4, z7⟩ := R_writes GB.out (List.replicate (xs.length - (i + (xs.length - (i + 1)))) 0) (i + (xs.length - (i + 1))) W1 ys (by simp; omega) e3
  rw [List.map_replicate] at z3 z4 z7
  have z5 := Kd.R_take (m := i + (xs.length - (i + 1))) z3 (by omega)
  have z6 : zs.take (i + (xs.length - (i + 1))) = xs.take i ++ xs.drop (i + 1) := by
    have h1 := congrArg (List.take (i + (xs.length - (i + 1)))) z2
    rw [List.take_take, Nat.min_eq_left (by omega), List.take_left' (by simp; omega)] at h1
    rw [h1]
    have h2 := e2
    rw [List.length_drop] at h2
    exact h2
  rw [z6] at z5
  have HZ := Aside0.mk z5
  have HZB := Aside0.mk (HB.out.trans ((below_drew (Below.refl base w)).trans (e4.trans z4)))
  have HZG := Aside0.mk ((grownBy_drew w (some go)).trans (e5.trans z7))
  have HW := Aside0.mk hW1
  have HCL := Aside0.mk hcl
  have HYS := Aside0.mk (And.intro e1 e2)
  have HO3 := Aside0.mk e3
  have HB4 := Aside0.mk e4
  have HLL := Aside0.mk hll
  obtain ⟨i0, hi0, hzz⟩ := Option.map_eq_some_iff.1 info2
  simp only [Prod.mk.injEq] at hzz
  have hz1 := hzz.2.1
  clear hW1 e1 e2 e3 e4 eW hys hll hnews hlen hzz HO1 z1 z2 z3 z4 z5 z6 z7 e5
  go_enter Try.func103, Try.ntmps103
  go_wp2
  go_region_law (refine step_append_room rfl (.tmp 22) (.tmp 25) 22 rfl 2 i0 1 Try.underlying22 hi0 hz1 go 0 i c0 (by simp [Act.eval, Act.put]) Ad (xs.length - (i + 1)) (c0 - (i + 1)) news (by simp [Act.eval, Act.put]) s1.out hsrc.out s2.out (by omega) s3.out ?_; rw [← HW.out])
  go_wp2
  go_ret
  exact ⟨_, rfl, HZ.out, HZB.out, HZG.out, rfl⟩

end Go.Proofs.Ytkbjoiebaphdoaa.PX

/- The walk of the program's without: an ending without a chain or a loop (conditions: the slices read as the lists; the place is found). -/
namespace Go.Proofs.Ytkbjoiebaphdoaa.PX
open Go.RowKit Go.Proofs.YtkbjoiebaphdoaaW.PrintWords Go.Proofs.YtkbjoiebaphdoaaW.PrintLast Go.Proofs.YtkbjoiebaphdoaaW.PrintMore
attribute [local go_sem] max2_int min2_int max_two min_two max_three min_three max_four min_four
set_option linter.unusedVariables false
set_option linter.unusedSimpArgs false
def cutAt (xs : List Int) (i : Int) : Option (List Int) := if 0 ≤ i then (if i < (xs.length : Int) then (if xs.length < 4611686018427387904 then some (xs.take i.toNat ++ xs.drop (i.toNat + 1)) else none) else none) else none
theorem cutAt_some {xs r : List Int} {i : Int} (h : cutAt xs i = some r) : ∃ j : Nat, i = (j : Int) ∧ j < xs.length ∧ xs.length < 4611686018427387904 ∧ r = xs.take j ++ xs.drop (j + 1) := by
 unfold cutAt at h
 by_cases c1 : 0 ≤ i
 ·rw [if_pos c1] at h
  by_cases c2 : i < (xs.length : Int)
  ·rw [if_pos c2] at h
   by_cases c3 : xs.length < 4611686018427387904
   ·rw [if_pos c3] at h
    exact ⟨i.toNat, by omega, by omega, c3, (Option.some.inj h).symm⟩
   ·rw [if_neg c3] at h; cases h
  ·rw [if_neg c2] at h; cases h
 ·rw [if_neg c1] at h; cases h
def without_false.f (k : Nat) (l0_0 l0_1 : List Int) (a1_1 : Int) : Option (List Int × List Int) := (slices_Clone_int64_int64.f l0_0).bind fun tC => ((slices_Clone_int64_int64.f l0_1).bind fun tL => ((slices_Index_int64_int64.f k tC a1_1).bind fun tI => ((cutAt tC tI).bind fun tD => (some (tD, tL)))))
def without_true.f (k : Nat) (l0_0 l0_1 : List Int) (a1_1 : Int) : Option (List Int × List Int) := (slices_Clone_int64_int64.f l0_0).bind fun tC => ((slices_Clone_int64_int64.f l0_1).bind fun tL => ((slices_Index_int64_int64.f k tL a1_1).bind fun tI => ((cutAt tL tI).bind fun tD => (some (tC, tD)))))
def impl_Ending_without.f (k : Nat) (l0_0 l0_1 : List Int) (a1_0 : Bool) (a1_1 : Int) : Option (List Int × List Int) := if a1_0 = true then without_true.f k l0_0 l0_1 a1_1 else without_false.f k l0_0 l0_1 a1_1
theorem impl_Ending_without.mono : ∀ a0 a1 a2 a3 k, LeO (impl_Ending_without.f k a0 a1 a2 a3) (impl_Ending_without.f (k + 1) a0 a1 a2 a3) := by
 intro a0 a1 a2 a3 k
 unfold impl_Ending_without.f without_true.f without_false.f
 repeat' first
   | (with_reducible exact slices_Index_int64_int64.mono _ _ _)
   | (with_reducible exact LeO.refl _)
   | (with_reducible exact LeO.none _)
   | (with_reducible refine LeO.ite ?_ ?_)
   | (with_reducible refine LeO.bind ?_ (fun _ => ?_))
   | exact slices_Index_int64_int64.mono _ _ _
   | exact LeO.none _
   | refine LeO.ite ?_ ?_
   | refine LeO.bind ?_ (fun _ => ?_)
def impl_Ending_without.T1 : Bool × List (List Nat × List Nat) := (true, [([], []), ([0], [0]), ([1], [1]), ([], []), ([3], [3]), ([4, 2], [4]), ([2, 5], [2, 5]), ([], []), ([7, 6, 5, 0, 1, 2, 3, 4, 5, 6, 7], [6, 7])])
def impl_Ending_without.B1 : List Nat := [0, 1, 3, 0, 8, 31, 63, 0, 255]
theorem impl_Ending_without.tab1 : rtab .any (opsOf Try.f74 1) = impl_Ending_without.T1 := by kernel_rfl
theorem impl_Ending_without.bits1 : waitsOk impl_Ending_without.T1.2 impl_Ending_without.B1 = true := by kernel_rfl
set_option maxHeartbeats 8000000 in
set_option maxRecDepth 100000 in
theorem without_false.calls (k : Nat) (A0_0 : Option Addr) (c0_0 : Nat) (l0_0 : List Int) (A0_1 : Option Addr) (c0_1 : Nat) (l0_1 : List Int) (a1_1 : Int) (r1 : List Int) (r2 : List Int) (w : World) (hr0_0 : Kd.C (Kd.int .i64) w A0_0 l0_0.length l0_0) (hc0_0 : l0_0.length ≤ c0_0) (hr0_1 : Kd.C (Kd.int .i64) w A0_1 l0_1.length l0_1) (hc0_1 : l0_1.length ≤ c0_1) (h : without_false.f k l0_0 l0_1 a1_1 = some (r1, r2)) :
  Calls Try.prog 74 #[.agg #[.slice A0_0 l0_0.length c0_0, .slice A0_1 l0_1.length c0_1], .agg #[.bool false, .int .i64 a1_1]] w fun e w' => ∃ v0_ v1_ : Value, e = .returned (.agg #[v0_, v1_]) ∧ Kd.R (Kd.int .i64) 2 w' w.heap.size (fun k_ => some k_ ≠ (v1_ : Value).ownBlock) v0_ r1 ∧ Kd.R (Kd.int .i64) 2 w' w.heap.size (fun k_ => some k_ ≠ (v0_ : Value).ownBlock) v1_ r2 ∧ Below w.heap.size w w' := by
 have hu27 := Try.underlying27
 have hu75 := Try.underlying75
 have HR0_0 := Aside0.mk hr0_0
 have HC0_0 := Aside0.mk hc0_0
 clear hr0_0 hc0_0
 have HR0_1 := Aside0.mk hr0_1
 have HC0_1 := Aside0.mk hc0_1
 clear hr0_1 hc0_1
 have HB := Aside0.mk (Below.refl w.heap.size w)
 have H : ((slices_Clone_int64_int64.f l0_0).bind fun t242 => ((slices_Clone_int64_int64.f l0_1).bind fun t245 => ((slices_Index_int64_int64.f k t242 a1_1).bind fun t249 => ((cutAt t242 t249).bind fun t250 => (some (t250, t245)))))) = some (r1, r2) := h
 clear h
 replace H := Option.bind_eq_some_iff.mp H
 obtain ⟨t242, A30, H⟩ := H
 replace H : ((slices_Clone_int64_int64.f l0_1).bind fun t245 => ((slices_Index_int64_int64.f k t242 a1_1).bind fun t249 => ((cutAt t242 t249).bind fun t250 => (some (t250, t245))))) = some (r1, r2) := H
 have A3 := Aside0.mk A30
 clear A30
 replace H := Option.bind_eq_some_iff.mp H
 obtain ⟨t245, A40, H⟩ := H
 replace H : ((slices_Index_int64_int64.f k t242 a1_1).bind fun t249 => ((cutAt t242 t249).bind fun t250 => (some (t250, t245)))) = some (r1, r2) := H
 have A4 := Aside0.mk A40
 clear A40
 replace H := Option.bind_eq_some_iff.mp H
 obtain ⟨t249, A50, H⟩ := H
 replace H : ((cutAt t242 t249).bind fun t250 => (some (t250, t245))) = some (r1, r2) := H
 have A5 := Aside0.mk A50
 clear A50
 replace H := Option.bind_eq_some_iff.mp H
 obtain ⟨t250, A60, H⟩ := H
 replace H : (some (t250, t245)) = some (r1, r2) := H
 have A6 := Aside0.mk A60
 clear A60
 obtain ⟨j_, ej_, hj_, hn_, et_⟩ := cutAt_some A6.out
 subst ej_
 have HJ := Aside0.mk hj_
 have HN := Aside0.mk hn_
 have HT6 := Aside0.mk et_
 clear hj_ hn_ et_
 simp only [Option.some.injEq, Prod.mk.injEq] at H
 obtain ⟨rfl, rfl⟩ := H
 go_enter Try.func74, Try.ntmps74
 try go_wp2_with (first | ((with_reducible refine gate_dst (N := 2) rfl ?_); refine box_event ?hg (N := 2) ?hd (cs := #[.slice A0_0 l0_0.length c0_0, .slice A0_1 l0_1.length c0_1]) (t := 27) ?hr ?_; (case hd => rfl); (case hg => rfl); (case hr => first | (go_simp; done) | (go_simp; rfl)); intro gb239 hg w7 hbox hb; have n0_ := Aside0.mk (below_step HB.out hb); have n1_ := Aside0.mk (hbox); have n2_ := Aside0.mk ((by rw [hg]; exact (below_size HB.out) : w.heap.size ≤ gb239)); have n3_ := Aside0.mk ((by rw [hg]; exact (below_size HB.out) : w.heap.size ≤ gb239)); clear HB; have HB := n0_; have BK239 := n1_; have GW239 := n2_; have GE239 := n3_; clear n0_ n1_ n2_ n3_; clear hb hbox hg) | ((with_reducible refine gate_dst (N := 3) rfl ?_); refine box_event ?hg (N := 3) ?hd (cs := #[.bool false, .int .i64 a1_1]) (t := 75) ?hr ?_; (case hd => rfl); (case hg => rfl); (case hr => first | (go_simp; done) | (go_simp; rfl)); intro gb240 hg w8 hbox hb; have n0_ := Aside0.mk (blk_below (g := gb239) (o := .cells #[.slice A0_0 l0_0.length c0_0, .slice A0_1 l0_1.length c0_1] 27 (0, 0)) BK239.out hb); have n1_ := Aside0.mk (below_step HB.out hb); have n2_ := Aside0.mk (hbox); have n3_ := Aside0.mk ((by rw [hg]; exact (below_size HB.out) : w.heap.size ≤ gb240)); have n4_ := Aside0.mk ((by rw [hg]; exact (below_size HB.out) : w.heap.size ≤ gb240)); have n5_ := Aside0.mk ((by rw [hg]; exact Nat.ne_of_lt (blk_lt (g := gb239) (o := .cells #[.slice A0_0 l0_0.length c0_0, .slice A0_1 l0_1.length c0_1] 27 (0, 0)) BK239.out) : gb239 ≠ gb240)); have n6_ := Aside0.mk ((by rw [hg]; exact Nat.ne_of_gt (blk_lt (g := gb239) (o := .cells #[.slice A0_0 l0_0.length c0_0, .slice A0_1 l0_1.length c0_1] 27 (0, 0)) BK239.out) : gb240 ≠ gb239)); clear BK239; clear HB; have BK239 := n0_; have HB := n1_; have BK240 := n2_; have GW240 := n3_; have GE240 := n4_; have NB239_240 := n5_; have NB240_239 := n6_; clear n0_ n1_ n2_ n3_ n4_ n5_ n6_; clear hb hbox hg) | ((with_reducible refine gate_dst (N := 4) rfl ?_); refine box_event ?hg (N := 4) ?hd (cs := #[.slice none 0 0, .slice none 0 0]) (t := 27) ?hr ?_; (case hd => rfl); (case hg => rfl); (case hr => first | (go_simp; done) | (go_simp; rfl)); intro gb241 hg w9 hbox hb; have n0_ := Aside0.mk (blk_below (g := gb239) (o := .cells #[.slice A0_0 l0_0.length c0_0, .slice A0_1 l0_1.length c0_1] 27 (0, 0)) BK239.out hb); have n1_ := Aside0.mk (blk_below (g := gb240) (o := .cells #[.bool false, .int .i64 a1_1] 75 (0, 0)) BK240.out hb); have n2_ := Aside0.mk (below_step HB.out hb); have n3_ := Aside0.mk (hbox); have n4_ := Aside0.mk ((by rw [hg]; exact (below_size HB.out) : w.heap.size ≤ gb241)); have n5_ := Aside0.mk ((by rw [hg]; exact (below_size HB.out) : w.heap.size ≤ gb241)); have n6_ := Aside0.mk ((by rw [hg]; exact Nat.ne_of_lt (blk_lt (g := gb239) (o := .cells #[.slice A0_0 l0_0.length c0_0, .slice A0_1 l0_1.length c0_1] 27 (0, 0)) BK239.out) : gb239 ≠ gb241)); have n7_ := Aside0.mk ((by rw [hg]; exact Nat.ne_of_gt (blk_lt (g := gb239) (o := .cells #[.slice A0_0 l0_0.length c0_0, .slice A0_1 l0_1.length c0_1] 27 (0, 0)) BK239.out) : gb241 ≠ gb239)); have n8_ := Aside0.mk ((by rw [hg]; exact Nat.ne_of_lt (blk_lt (g := gb240) (o := .cells #[.bool false, .int .i64 a1_1] 75 (0, 0)) BK240.out) : gb240 ≠ gb241)); have n9_ := Aside0.mk ((by rw [hg]; exact Nat.ne_of_gt (blk_lt (g := gb240) (o := .cells #[.bool false, .int .i64 a1_1] 75 (0, 0)) BK240.out) : gb241 ≠ gb240)); clear BK239; clear BK240; clear HB; have BK239 := n0_; have BK240 := n1_; have HB := n2_; have BK241 := n3_; have GW241 := n4_; have GE241 := n5_; have NB239_241 := n6_; have NB241_239 := n7_; have NB240_241 := n8_; have NB241_240 := n9_; clear n0_ n1_ n2_ n3_ n4_ n5_ n6_ n7_ n8_ n9_; clear hb hbox hg))
 have n0_ := Aside0.mk (blk_drew BK239.out); have n1_ := Aside0.mk (blk_drew BK240.out); have n2_ := Aside0.mk (blk_drew BK241.out); have n3_ := Aside0.mk (below_drew1 HB.out); clear BK239; clear BK240; clear BK241; clear HB; have BK239 := n0_; have BK240 := n1_; have BK241 := n2_; have HB := n3_; clear n0_ n1_ n2_ n3_
 refine start_ (n := 9) (S := fun w' => w'.cell? ⟨gb239, 0, none⟩ = some (.slice A0_0 l0_0.length c0_0) ∧ w'.cell? ⟨gb239, 1, none⟩ = some (.slice A0_1 l0_1.length c0_1)) (ds := []) #[false, false, false, false, false, false, false, false, false] (by kernel_rfl) rfl rfl ⟨(blk_cell BK239.out 0).trans rfl, (blk_cell BK239.out 1).trans rfl⟩ (fun hHeld => ?_); refine with_tabW impl_Ending_without.tab1 impl_Ending_without.bits1 (fun HT_ HW_ => ?_)
 generalize w9.drew = w10 at BK239 BK240 BK241 HB hHeld ⊢
 refine pure_ (i := 0) (N := some 8) (v := ?_) (a' := ?_) #[true, false, false, false, false, false, false, false, false] rfl rfl (any_of HT_.out (by kernel_rfl)) (fun _ _ _ h => h) (Or.inl ⟨by rfl, ?_⟩) ?_ ?_
 rotate_left; (intro w'; go_simp; with_reducible rfl); rotate_left; (simp only [Act.put, List.setIfInBounds_toArray, List.set_cons_zero, List.set_cons_succ, i64_w, i32_w]; rfl)
 refine pure_ (i := 3) (N := some 11) (v := ?_) (a' := ?_) #[true, false, false, true, false, false, false, false, false] rfl rfl (any_of HT_.out (by kernel_rfl)) (fun _ _ _ h => h) (Or.inl ⟨by rfl, ?_⟩) ?_ ?_
 rotate_left; (intro w'; go_simp; with_reducible rfl); rotate_left; (simp only [Act.put, List.setIfInBounds_toArray, List.set_cons_zero, List.set_cons_succ, i64_w, i32_w]; rfl)
 refine take_ (i := 1) (N := some 9) (v := ?_) (a' := ?_) #[true, true, false, true, false, false, false, false, false] rfl rfl (take_ofW HT_.out HW_.out (by kernel_rfl)) (fun _ _ _ h => h) (Or.inl ⟨by rfl, ?_⟩) hHeld ?_ ?_
 rotate_left; (rintro w' ⟨s0, s1⟩; go_simp; with_reducible rfl); rotate_left; (simp only [Act.put, List.setIfInBounds_toArray, List.set_cons_zero, List.set_cons_succ, i64_w, i32_w]; rfl)
 refine take_ (i := 4) (N := some 12) (v := ?_) (a' := ?_) #[true, true, false, true, true, false, false, false, false] rfl rfl (take_ofW HT_.out HW_.out (by kernel_rfl)) (fun _ _ _ h => h) (Or.inl ⟨by rfl, ?_⟩) hHeld ?_ ?_
 rotate_left; (rintro w' ⟨s0, s1⟩; go_simp; with_reducible rfl); rotate_left; (simp only [Act.put, List.setIfInBounds_toArray, List.set_cons_zero, List.set_cons_succ, i64_w, i32_w]; rfl)
 refine join_ (σ := Value × Value × Nat) 1 #[true, true, true, true, true, true, true, true, false] (fun s_ => [(10, s_.1), (13, s_.2.1), (5, .pointer (some ⟨s_.2.2, 0, none⟩)), (14, .agg #[s_.1, s_.2.1])]) (fun s_ w' => (w'.cell? ⟨gb239, 0, none⟩ = some (.slice A0_0 l0_0.length c0_0) ∧ w'.cell? ⟨gb239, 1, none⟩ = some (.slice A0_1 l0_1.length c0_1)) ∧ (Kd.R (Kd.int .i64) 2 w' w.heap.size (fun k_ => some k_ ≠ (s_.2.1 : Value).ownBlock) s_.1 t242) ∧ (Kd.R (Kd.int .i64) 2 w' w.heap.size (fun k_ => some k_ ≠ (s_.1 : Value).ownBlock) s_.2.1 t245) ∧ (w'.heap[gb239]? = some (.cells #[.slice A0_0 l0_0.length c0_0, .slice A0_1 l0_1.length c0_1] 27 (0, 0))) ∧ (w'.heap[gb240]? = some (.cells #[.bool false, .int .i64 a1_1] 75 (0, 0))) ∧ (w'.heap[gb241]? = some (.cells #[.slice none 0 0, .slice none 0 0] 27 (0, 0))) ∧ (w'.heap[s_.2.2]? = some (.cells #[.slice none 0 0, .slice none 0 0] 27 (0, 0))) ∧ (w.heap.size ≤ s_.2.2) ∧ (w.heap.size ≤ s_.2.2) ∧ (gb239 ≠ s_.2.2) ∧ (s_.2.2 ≠ gb239) ∧ (gb240 ≠ s_.2.2) ∧ (s_.2.2 ≠ gb240) ∧ (gb241 ≠ s_.2.2) ∧ (s_.2.2 ≠ gb241) ∧ (Below w.heap.size w w')) ?_ ?_
 rotate_left
 ·intro hCont
  refine two_ (i := 2) (j := 7) (Ni := some 10) (Nj := some 5) #[true, true, true, true, true, false, false, false, false] #[true, true, false, true, true, false, false, true, false] rfl rfl rfl rfl (two_of HT_.out (by kernel_rfl)) (by decide) (by decide) (fun K hK => ?_) (fun K hK => ?_)
  ·skip
   refine goes_ Try.func68 (by kernel_rfl) rfl #[.slice A0_0 l0_0.length c0_0] (by rfl) rfl rfl (by (try simp only [List.map_toArray, List.map_cons, List.map_nil]); first | done | rfl | (simp only [List.length_drop, List.length_take]; rfl)) ?_
   with_reducible refine (slices_Clone_int64_int64.calls _ _ l0_0 t242 _ ?side1 ?side2 A3.out).mono ?_
   (case side1 => exact (Kd.C_below HR0_0.out HB.out))
   (case side2 => exact HC0_0.out)
   rintro e w11 ⟨v243, rfl, ho0, hb⟩
   refine ⟨_, rfl, ?_⟩
   have n0_ := Aside0.mk (Kd.R_lower ho0 (below_size HB.out)); have n1_ := Aside0.mk (blk_below (g := gb239) (o := .cells #[.slice A0_0 l0_0.length c0_0, .slice A0_1 l0_1.length c0_1] 27 (0, 0)) BK239.out hb); have n2_ := Aside0.mk (blk_below (g := gb240) (o := .cells #[.bool false, .int .i64 a1_1] 75 (0, 0)) BK240.out hb); have n3_ := Aside0.mk (blk_below (g := gb241) (o := .cells #[.slice none 0 0, .slice none 0 0] 27 (0, 0)) BK241.out hb); have n4_ := Aside0.mk (below_step HB.out hb); clear BK239; clear BK240; clear BK241; clear HB; have HO244 := n0_; have BK239 := n1_; have BK240 := n2_; have BK241 := n3_; have HB := n4_; clear n0_ n1_ n2_ n3_ n4_
   (try clear hb)
   (try clear hb2)
   (try clear hk)
   (try clear hi)
   (try clear ho0)
   refine hK.out _ _ ⟨(blk_cell BK239.out 0).trans rfl, (blk_cell BK239.out 1).trans rfl⟩ (fun hHeld => ?_)
   clear hK K
   refine norm_ (a' := ?_) ?_ ?_
   rotate_left; (show Act.put _ (some 10) _ = _; simp only [Act.put, List.setIfInBounds_toArray, List.set_cons_zero, List.set_cons_succ, i64_w, i32_w]; rfl)
   refine two_ (i := 5) (j := 7) (Ni := some 13) (Nj := some 5) #[true, true, true, true, true, true, false, false, false] #[true, true, true, true, true, false, false, true, false] rfl rfl rfl rfl (two_of HT_.out (by kernel_rfl)) (by decide) (by decide) (fun K hK => ?_) (fun K hK => ?_)
   ·skip
    refine goes_ Try.func68 (by kernel_rfl) rfl #[.slice A0_1 l0_1.length c0_1] (by rfl) rfl rfl (by (try simp only [List.map_toArray, List.map_cons, List.map_nil]); first | done | rfl | (simp only [List.length_drop, List.length_take]; rfl)) ?_
    with_reducible refine (slices_Clone_int64_int64.calls _ _ l0_1 t245 _ ?side1 ?side2 A4.out).mono ?_
    (case side1 => exact (Kd.C_below HR0_1.out HB.out))
    (case side2 => exact HC0_1.out)
    rintro e w12 ⟨v246, rfl, ho0, hb⟩
    refine ⟨_, rfl, ?_⟩
    have n0_ := Aside0.mk (Kd.R_elder' HO244.out (Kd.R_base ho0) hb); have n1_ := Aside0.mk (Kd.R_lower (Kd.R_new' ho0 (Kd.R_lt HO244.out)) (below_size HB.out)); have n2_ := Aside0.mk (blk_below (g := gb239) (o := .cells #[.slice A0_0 l0_0.length c0_0, .slice A0_1 l0_1.length c0_1] 27 (0, 0)) BK239.out hb); have n3_ := Aside0.mk (blk_below (g := gb240) (o := .cells #[.bool false, .int .i64 a1_1] 75 (0, 0)) BK240.out hb); have n4_ := Aside0.mk (blk_below (g := gb241) (o := .cells #[.slice none 0 0, .slice none 0 0] 27 (0, 0)) BK241.out hb); have n5_ := Aside0.mk (below_step HB.out hb); clear HO244; clear BK239; clear BK240; clear BK241; clear HB; have HO244 := n0_; have HO247 := n1_; have BK239 := n2_; have BK240 := n3_; have BK241 := n4_; have HB := n5_; clear n0_ n1_ n2_ n3_ n4_ n5_
    (try clear hb)
    (try clear hb2)
    (try clear hk)
    (try clear hi)
    (try clear ho0)
    obtain ⟨Ao13, co13, eo13⟩ := Kd.R_slice HO247.out
    (first | subst eo13 | (injection eo13 with f1_ f2_ f3_; have f4_ := f1_.symm; have f5_ := f3_.symm; clear f1_ f2_ f3_; subst f4_; subst f5_))
    obtain ⟨Ao14, co14, eo14⟩ := Kd.R_slice HO244.out
    (first | subst eo14 | (injection eo14 with f1_ f2_ f3_; have f4_ := f1_.symm; have f5_ := f3_.symm; clear f1_ f2_ f3_; subst f4_; subst f5_))
    refine hK.out _ _ ⟨(blk_cell BK239.out 0).trans rfl, (blk_cell BK239.out 1).trans rfl⟩ (fun hHeld => ?_)
    clear hK K
    refine norm_ (a' := ?_) ?_ ?_
    rotate_left; (show Act.put _ (some 13) _ = _; simp only [Act.put, List.setIfInBounds_toArray, List.set_cons_zero, List.set_cons_succ, i64_w, i32_w]; rfl)
    refine pure_ (i := 6) (N := some 14) (v := ?_) (a' := ?_) #[true, true, true, true, true, true, true, false, false] rfl rfl (any_of HT_.out (by kernel_rfl)) (fun _ _ _ h => h) (Or.inl ⟨by rfl, ?_⟩) ?_ ?_
    rotate_left; (intro w'; go_simp; with_reducible rfl); rotate_left; (simp only [Act.put, List.setIfInBounds_toArray, List.set_cons_zero, List.set_cons_succ, i64_w, i32_w]; rfl)
    refine one_ (i := 7) (N := some 5) #[true, true, true, true, true, true, true, true, false] rfl rfl (one_of HT_.out (by kernel_rfl)) (by decide) (fun K hK => ?_)
    refine box_step ?hg (N := 5) ?hd (cs := #[.slice none 0 0, .slice none 0 0]) (t := 27) ?hr ?_; (case hd => rfl); (case hg => rfl); (case hr => first | (go_simp; done) | (go_simp; rfl))
    intro gb248 hg w15 hbox hb
    have n0_ := Aside0.mk (Kd.R_below HO244.out hb); have n1_ := Aside0.mk (Kd.R_below HO247.out hb); have n2_ := Aside0.mk (blk_below (g := gb239) (o := .cells #[.slice A0_0 l0_0.length c0_0, .slice A0_1 l0_1.length c0_1] 27 (0, 0)) BK239.out hb); have n3_ := Aside0.mk (blk_below (g := gb240) (o := .cells #[.bool false, .int .i64 a1_1] 75 (0, 0)) BK240.out hb); have n4_ := Aside0.mk (blk_below (g := gb241) (o := .cells #[.slice none 0 0, .slice none 0 0] 27 (0, 0)) BK241.out hb); have n5_ := Aside0.mk (below_step HB.out hb); have n6_ := Aside0.mk (hbox); have n7_ := Aside0.mk ((by rw [hg]; exact (below_size HB.out) : w.heap.size ≤ gb248)); have n8_ := Aside0.mk ((by rw [hg]; exact (below_size HB.out) : w.heap.size ≤ gb248)); have n9_ := Aside0.mk ((by rw [hg]; exact Nat.ne_of_lt (blk_lt (g := gb239) (o := .cells #[.slice A0_0 l0_0.length c0_0, .slice A0_1 l0_1.length c0_1] 27 (0, 0)) BK239.out) : gb239 ≠ gb248)); have n10_ := Aside0.mk ((by rw [hg]; exact Nat.ne_of_gt (blk_lt (g := gb239) (o := .cells #[.slice A0_0 l0_0.length c0_0, .slice A0_1 l0_1.length c0_1] 27 (0, 0)) BK239.out) : gb248 ≠ gb239)); have n11_ := Aside0.mk ((by rw [hg]; exact Nat.ne_of_lt (blk_lt (g := gb240) (o := .cells #[.bool false, .int .i64 a1_1] 75 (0, 0)) BK240.out) : gb240 ≠ gb248)); have n12_ := Aside0.mk ((by rw [hg]; exact Nat.ne_of_gt (blk_lt (g := gb240) (o := .cells #[.bool false, .int .i64 a1_1] 75 (0, 0)) BK240.out) : gb248 ≠ gb240)); have n13_ := Aside0.mk ((by rw [hg]; exact Nat.ne_of_lt (blk_lt (g := gb241) (o := .cells #[.slice none 0 0, .slice none 0 0] 27 (0, 0)) BK241.out) : gb241 ≠ gb248)); have n14_ := Aside0.mk ((by rw [hg]; exact Nat.ne_of_gt (blk_lt (g := gb241) (o := .cells #[.slice none 0 0, .slice none 0 0] 27 (0, 0)) BK241.out) : gb248 ≠ gb241)); clear HO244; clear HO247; clear BK239; clear BK240; clear BK241; clear HB; have HO244 := n0_; have HO247 := n1_; have BK239 := n2_; have BK240 := n3_; have BK241 := n4_; have HB := n5_; have BK248 := n6_; have GW248 := n7_; have GE248 := n8_; have NB239_248 := n9_; have NB248_239 := n10_; have NB240_248 := n11_; have NB248_240 := n12_; have NB241_248 := n13_; have NB248_241 := n14_; clear n0_ n1_ n2_ n3_ n4_ n5_ n6_ n7_ n8_ n9_ n10_ n11_ n12_ n13_ n14_; clear hb hbox hg
    refine hK.out _ _ ⟨(blk_cell BK239.out 0).trans rfl, (blk_cell BK239.out 1).trans rfl⟩ (fun hHeld => ?_)
    clear hK K
    refine norm_ (a' := ?_) ?_ ?_
    rotate_left; (show Act.put _ (some 5) _ = _; simp only [Act.put, List.setIfInBounds_toArray, List.set_cons_zero, List.set_cons_succ, i64_w, i32_w]; rfl)
    exact norm_ (by simp only [putAll, Act.put, List.setIfInBounds_toArray, List.set_cons_zero, List.set_cons_succ]) (hCont (.slice Ao14 t242.length co14, .slice Ao13 t245.length co13, gb248) _ ⟨hHeld, (Kd.R_mono HO244.out (fun _ hk => hk.2)), (Kd.R_mono HO247.out (fun _ hk => hk.2)), BK239.out, BK240.out, BK241.out, BK248.out, GW248.out, GE248.out, NB239_248.out, NB248_239.out, NB240_248.out, NB248_240.out, NB241_248.out, NB248_241.out, HB.out⟩)
   ·skip
    refine box_step ?hg (N := 5) ?hd (cs := #[.slice none 0 0, .slice none 0 0]) (t := 27) ?hr ?_; (case hd => rfl); (case hg => rfl); (case hr => first | (go_simp; done) | (go_simp; rfl))
    intro gb248 hg w12 hbox hb
    have n0_ := Aside0.mk (Kd.R_below HO244.out hb); have n1_ := Aside0.mk (blk_below (g := gb239) (o := .cells #[.slice A0_0 l0_0.length c0_0, .slice A0_1 l0_1.length c0_1] 27 (0, 0)) BK239.out hb); have n2_ := Aside0.mk (blk_below (g := gb240) (o := .cells #[.bool false, .int .i64 a1_1] 75 (0, 0)) BK240.out hb); have n3_ := Aside0.mk (blk_below (g := gb241) (o := .cells #[.slice none 0 0, .slice none 0 0] 27 (0, 0)) BK241.out hb); have n4_ := Aside0.mk (below_step HB.out hb); have n5_ := Aside0.mk (hbox); have n6_ := Aside0.mk ((by rw [hg]; exact (below_size HB.out) : w.heap.size ≤ gb248)); have n7_ := Aside0.mk ((by rw [hg]; exact (below_size HB.out) : w.heap.size ≤ gb248)); have n8_ := Aside0.mk ((by rw [hg]; exact Nat.ne_of_lt (blk_lt (g := gb239) (o := .cells #[.slice A0_0 l0_0.length c0_0, .slice A0_1 l0_1.length c0_1] 27 (0, 0)) BK239.out) : gb239 ≠ gb248)); have n9_ := Aside0.mk ((by rw [hg]; exact Nat.ne_of_gt (blk_lt (g := gb239) (o := .cells #[.slice A0_0 l0_0.length c0_0, .slice A0_1 l0_1.length c0_1] 27 (0, 0)) BK239.out) : gb248 ≠ gb239)); have n10_ := Aside0.mk ((by rw [hg]; exact Nat.ne_of_lt (blk_lt (g := gb240) (o := .cells #[.bool false, .int .i64 a1_1] 75 (0, 0)) BK240.out) : gb240 ≠ gb248)); have n11_ := Aside0.mk ((by rw [hg]; exact Nat.ne_of_gt (blk_lt (g := gb240) (o := .cells #[.bool false, .int .i64 a1_1] 75 (0, 0)) BK240.out) : gb248 ≠ gb240)); have n12_ := Aside0.mk ((by rw [hg]; exact Nat.ne_of_lt (blk_lt (g := gb241) (o := .cells #[.slice none 0 0, .slice none 0 0] 27 (0, 0)) BK241.out) : gb241 ≠ gb248)); have n13_ := Aside0.mk ((by rw [hg]; exact Nat.ne_of_gt (blk_lt (g := gb241) (o := .cells #[.slice none 0 0, .slice none 0 0] 27 (0, 0)) BK241.out) : gb248 ≠ gb241)); clear HO244; clear BK239; clear BK240; clear BK241; clear HB; have HO244 := n0_; have BK239 := n1_; have BK240 := n2_; have BK241 := n3_; have HB := n4_; have BK248 := n5_; have GW248 := n6_; have GE248 := n7_; have NB239_248 := n8_; have NB248_239 := n9_; have NB240_248 := n10_; have NB248_240 := n11_; have NB241_248 := n12_; have NB248_241 := n13_; clear n0_ n1_ n2_ n3_ n4_ n5_ n6_ n7_ n8_ n9_ n10_ n11_ n12_ n13_; clear hb hbox hg
    refine hK.out _ _ ⟨(blk_cell BK239.out 0).trans rfl, (blk_cell BK239.out 1).trans rfl⟩ (fun hHeld => ?_)
    clear hK K
    refine norm_ (a' := ?_) ?_ ?_
    rotate_left; (show Act.put _ (some 5) _ = _; simp only [Act.put, List.setIfInBounds_toArray, List.set_cons_zero, List.set_cons_succ, i64_w, i32_w]; rfl)
    refine one_ (i := 5) (N := some 13) #[true, true, true, true, true, true, false, true, false] rfl rfl (one_of HT_.out (by kernel_rfl)) (by decide) (fun K hK => ?_)
    refine goes_ Try.func68 (by kernel_rfl) rfl #[.slice A0_1 l0_1.length c0_1] (by rfl) rfl rfl (by (try simp only [List.map_toArray, List.map_cons, List.map_nil]); first | done | rfl | (simp only [List.length_drop, List.length_take]; rfl)) ?_
    with_reducible refine (slices_Clone_int64_int64.calls _ _ l0_1 t245 _ ?side1 ?side2 A4.out).mono ?_
    (case side1 => exact (Kd.C_below HR0_1.out HB.out))
    (case side2 => exact HC0_1.out)
    rintro e w13 ⟨v246, rfl, ho0, hb⟩
    refine ⟨_, rfl, ?_⟩
    have n0_ := Aside0.mk (Kd.R_elder' HO244.out (Kd.R_base ho0) hb); have n1_ := Aside0.mk (Kd.R_lower (Kd.R_new' ho0 (Kd.R_lt HO244.out)) (below_size HB.out)); have n2_ := Aside0.mk (blk_below (g := gb239) (o := .cells #[.slice A0_0 l0_0.length c0_0, .slice A0_1 l0_1.length c0_1] 27 (0, 0)) BK239.out hb); have n3_ := Aside0.mk (blk_below (g := gb240) (o := .cells #[.bool false, .int .i64 a1_1] 75 (0, 0)) BK240.out hb); have n4_ := Aside0.mk (blk_below (g := gb241) (o := .cells #[.slice none 0 0, .slice none 0 0] 27 (0, 0)) BK241.out hb); have n5_ := Aside0.mk (blk_below (g := gb248) (o := .cells #[.slice none 0 0, .slice none 0 0] 27 (0, 0)) BK248.out hb); have n6_ := Aside0.mk (below_step HB.out hb); clear HO244; clear BK239; clear BK240; clear BK241; clear BK248; clear HB; have HO244 := n0_; have HO247 := n1_; have BK239 := n2_; have BK240 := n3_; have BK241 := n4_; have BK248 := n5_; have HB := n6_; clear n0_ n1_ n2_ n3_ n4_ n5_ n6_
    (try clear hb)
    (try clear hb2)
    (try clear hk)
    (try clear hi)
    (try clear ho0)
    obtain ⟨Ao14, co14, eo14⟩ := Kd.R_slice HO247.out
    (first | subst eo14 | (injection eo14 with f1_ f2_ f3_; have f4_ := f1_.symm; have f5_ := f3_.symm; clear f1_ f2_ f3_; subst f4_; subst f5_))
    obtain ⟨Ao15, co15, eo15⟩ := Kd.R_slice HO244.out
    (first | subst eo15 | (injection eo15 with f1_ f2_ f3_; have f4_ := f1_.symm; have f5_ := f3_.symm; clear f1_ f2_ f3_; subst f4_; subst f5_))
    refine hK.out _ _ ⟨(blk_cell BK239.out 0).trans rfl, (blk_cell BK239.out 1).trans rfl⟩ (fun hHeld => ?_)
    clear hK K
    refine norm_ (a' := ?_) ?_ ?_
    rotate_left; (show Act.put _ (some 13) _ = _; simp only [Act.put, List.setIfInBounds_toArray, List.set_cons_zero, List.set_cons_succ, i64_w, i32_w]; rfl)
    refine pure_ (i := 6) (N := some 14) (v := ?_) (a' := ?_) #[true, true, true, true, true, true, true, true, false] rfl rfl (any_of HT_.out (by kernel_rfl)) (fun _ _ _ h => h) (Or.inl ⟨by rfl, ?_⟩) ?_ ?_
    rotate_left; (intro w'; go_simp; with_reducible rfl); rotate_left; (simp only [Act.put, List.setIfInBounds_toArray, List.set_cons_zero, List.set_cons_succ, i64_w, i32_w]; rfl)
    exact norm_ (by simp only [putAll, Act.put, List.setIfInBounds_toArray, List.set_cons_zero, List.set_cons_succ]) (hCont (.slice Ao15 t242.length co15, .slice Ao14 t245.length co14, gb248) _ ⟨hHeld, (Kd.R_mono HO244.out (fun _ hk => hk.2)), (Kd.R_mono HO247.out (fun _ hk => hk.2)), BK239.out, BK240.out, BK241.out, BK248.out, GW248.out, GE248.out, NB239_248.out, NB248_239.out, NB240_248.out, NB248_240.out, NB241_248.out, NB248_241.out, HB.out⟩)
  ·skip
   refine box_step ?hg (N := 5) ?hd (cs := #[.slice none 0 0, .slice none 0 0]) (t := 27) ?hr ?_; (case hd => rfl); (case hg => rfl); (case hr => first | (go_simp; done) | (go_simp; rfl))
   intro gb248 hg w11 hbox hb
   have n0_ := Aside0.mk (blk_below (g := gb239) (o := .cells #[.slice A0_0 l0_0.length c0_0, .slice A0_1 l0_1.length c0_1] 27 (0, 0)) BK239.out hb); have n1_ := Aside0.mk (blk_below (g := gb240) (o := .cells #[.bool false, .int .i64 a1_1] 75 (0, 0)) BK240.out hb); have n2_ := Aside0.mk (blk_below (g := gb241) (o := .cells #[.slice none 0 0, .slice none 0 0] 27 (0, 0)) BK241.out hb); have n3_ := Aside0.mk (below_step HB.out hb); have n4_ := Aside0.mk (hbox); have n5_ := Aside0.mk ((by rw [hg]; exact (below_size HB.out) : w.heap.size ≤ gb248)); have n6_ := Aside0.mk ((by rw [hg]; exact (below_size HB.out) : w.heap.size ≤ gb248)); have n7_ := Aside0.mk ((by rw [hg]; exact Nat.ne_of_lt (blk_lt (g := gb239) (o := .cells #[.slice A0_0 l0_0.length c0_0, .slice A0_1 l0_1.length c0_1] 27 (0, 0)) BK239.out) : gb239 ≠ gb248)); have n8_ := Aside0.mk ((by rw [hg]; exact Nat.ne_of_gt (blk_lt (g := gb239) (o := .cells #[.slice A0_0 l0_0.length c0_0, .slice A0_1 l0_1.length c0_1] 27 (0, 0)) BK239.out) : gb248 ≠ gb239)); have n9_ := Aside0.mk ((by rw [hg]; exact Nat.ne_of_lt (blk_lt (g := gb240) (o := .cells #[.bool false, .int .i64 a1_1] 75 (0, 0)) BK240.out) : gb240 ≠ gb248)); have n10_ := Aside0.mk ((by rw [hg]; exact Nat.ne_of_gt (blk_lt (g := gb240) (o := .cells #[.bool false, .int .i64 a1_1] 75 (0, 0)) BK240.out) : gb248 ≠ gb240)); have n11_ := Aside0.mk ((by rw [hg]; exact Nat.ne_of_lt (blk_lt (g := gb241) (o := .cells #[.slice none 0 0, .slice none 0 0] 27 (0, 0)) BK241.out) : gb241 ≠ gb248)); have n12_ := Aside0.mk ((by rw [hg]; exact Nat.ne_of_gt (blk_lt (g := gb241) (o := .cells #[.slice none 0 0, .slice none 0 0] 27 (0, 0)) BK241.out) : gb248 ≠ gb241)); clear BK239; clear BK240; clear BK241; clear HB; have BK239 := n0_; have BK240 := n1_; have BK241 := n2_; have HB := n3_; have BK248 := n4_; have GW248 := n5_; have GE248 := n6_; have NB239_248 := n7_; have NB248_239 := n8_; have NB240_248 := n9_; have NB248_240 := n10_; have NB241_248 := n11_; have NB248_241 := n12_; clear n0_ n1_ n2_ n3_ n4_ n5_ n6_ n7_ n8_ n9_ n10_ n11_ n12_; clear hb hbox hg
   refine hK.out _ _ ⟨(blk_cell BK239.out 0).trans rfl, (blk_cell BK239.out 1).trans rfl⟩ (fun hHeld => ?_)
   clear hK K
   refine norm_ (a' := ?_) ?_ ?_
   rotate_left; (show Act.put _ (some 5) _ = _; simp only [Act.put, List.setIfInBounds_toArray, List.set_cons_zero, List.set_cons_succ, i64_w, i32_w]; rfl)
   refine one_ (i := 2) (N := some 10) #[true, true, true, true, true, false, false, true, false] rfl rfl (one_of HT_.out (by kernel_rfl)) (by decide) (fun K hK => ?_)
   refine goes_ Try.func68 (by kernel_rfl) rfl #[.slice A0_0 l0_0.length c0_0] (by rfl) rfl rfl (by (try simp only [List.map_toArray, List.map_cons, List.map_nil]); first | done | rfl | (simp only [List.length_drop, List.length_take]; rfl)) ?_
   with_reducible refine (slices_Clone_int64_int64.calls _ _ l0_0 t242 _ ?side1 ?side2 A3.out).mono ?_
   (case side1 => exact (Kd.C_below HR0_0.out HB.out))
   (case side2 => exact HC0_0.out)
   rintro e w12 ⟨v243, rfl, ho0, hb⟩
   refine ⟨_, rfl, ?_⟩
   have n0_ := Aside0.mk (Kd.R_lower ho0 (below_size HB.out)); have n1_ := Aside0.mk (blk_below (g := gb239) (o := .cells #[.slice A0_0 l0_0.length c0_0, .slice A0_1 l0_1.length c0_1] 27 (0, 0)) BK239.out hb); have n2_ := Aside0.mk (blk_below (g := gb240) (o := .cells #[.bool false, .int .i64 a1_1] 75 (0, 0)) BK240.out hb); have n3_ := Aside0.mk (blk_below (g := gb241) (o := .cells #[.slice none 0 0, .slice none 0 0] 27 (0, 0)) BK241.out hb); have n4_ := Aside0.mk (blk_below (g := gb248) (o := .cells #[.slice none 0 0, .slice none 0 0] 27 (0, 0)) BK248.out hb); have n5_ := Aside0.mk (below_step HB.out hb); clear BK239; clear BK240; clear BK241; clear BK248; clear HB; have HO244 := n0_; have BK239 := n1_; have BK240 := n2_; have BK241 := n3_; have BK248 := n4_; have HB := n5_; clear n0_ n1_ n2_ n3_ n4_ n5_
   (try clear hb)
   (try clear hb2)
   (try clear hk)
   (try clear hi)
   (try clear ho0)
   refine hK.out _ _ ⟨(blk_cell BK239.out 0).trans rfl, (blk_cell BK239.out 1).trans rfl⟩ (fun hHeld => ?_)
   clear hK K
   refine norm_ (a' := ?_) ?_ ?_
   rotate_left; (show Act.put _ (some 10) _ = _; simp only [Act.put, List.setIfInBounds_toArray, List.set_cons_zero, List.set_cons_succ, i64_w, i32_w]; rfl)
   refine one_ (i := 5) (N := some 13) #[true, true, true, true, true, true, false, true, false] rfl rfl (one_of HT_.out (by kernel_rfl)) (by decide) (fun K hK => ?_)
   refine goes_ Try.func68 (by kernel_rfl) rfl #[.slice A0_1 l0_1.length c0_1] (by rfl) rfl rfl (by (try simp only [List.map_toArray, List.map_cons, List.map_nil]); first | done | rfl | (simp only [List.length_drop, List.length_take]; rfl)) ?_
   with_reducible refine (slices_Clone_int64_int64.calls _ _ l0_1 t245 _ ?side1 ?side2 A4.out).mono ?_
   (case side1 => exact (Kd.C_below HR0_1.out HB.out))
   (case side2 => exact HC0_1.out)
   rintro e w13 ⟨v246, rfl, ho0, hb⟩
   refine ⟨_, rfl, ?_⟩
   have n0_ := Aside0.mk (Kd.R_elder' HO244.out (Kd.R_base ho0) hb); have n1_ := Aside0.mk (Kd.R_lower (Kd.R_new' ho0 (Kd.R_lt HO244.out)) (below_size HB.out)); have n2_ := Aside0.mk (blk_below (g := gb239) (o := .cells #[.slice A0_0 l0_0.length c0_0, .slice A0_1 l0_1.length c0_1] 27 (0, 0)) BK239.out hb); have n3_ := Aside0.mk (blk_below (g := gb240) (o := .cells #[.bool false, .int .i64 a1_1] 75 (0, 0)) BK240.out hb); have n4_ := Aside0.mk (blk_below (g := gb241) (o := .cells #[.slice none 0 0, .slice none 0 0] 27 (0, 0)) BK241.out hb); have n5_ := Aside0.mk (blk_below (g := gb248) (o := .cells #[.slice none 0 0, .slice none 0 0] 27 (0, 0)) BK248.out hb); have n6_ := Aside0.mk (below_step HB.out hb); clear HO244; clear BK239; clear BK240; clear BK241; clear BK248; clear HB; have HO244 := n0_; have HO247 := n1_; have BK239 := n2_; have BK240 := n3_; have BK241 := n4_; have BK248 := n5_; have HB := n6_; clear n0_ n1_ n2_ n3_ n4_ n5_ n6_
   (try clear hb)
   (try clear hb2)
   (try clear hk)
   (try clear hi)
   (try clear ho0)
   obtain ⟨Ao14, co14, eo14⟩ := Kd.R_slice HO247.out
   (first | subst eo14 | (injection eo14 with f1_ f2_ f3_; have f4_ := f1_.symm; have f5_ := f3_.symm; clear f1_ f2_ f3_; subst f4_; subst f5_))
   obtain ⟨Ao15, co15, eo15⟩ := Kd.R_slice HO244.out
   (first | subst eo15 | (injection eo15 with f1_ f2_ f3_; have f4_ := f1_.symm; have f5_ := f3_.symm; clear f1_ f2_ f3_; subst f4_; subst f5_))
   refine hK.out _ _ ⟨(blk_cell BK239.out 0).trans rfl, (blk_cell BK239.out 1).trans rfl⟩ (fun hHeld => ?_)
   clear hK K
   refine norm_ (a' := ?_) ?_ ?_
   rotate_left; (show Act.put _ (some 13) _ = _; simp only [Act.put, List.setIfInBounds_toArray, List.set_cons_zero, List.set_cons_succ, i64_w, i32_w]; rfl)
   refine pure_ (i := 6) (N := some 14) (v := ?_) (a' := ?_) #[true, true, true, true, true, true, true, true, false] rfl rfl (any_of HT_.out (by kernel_rfl)) (fun _ _ _ h => h) (Or.inl ⟨by rfl, ?_⟩) ?_ ?_
   rotate_left; (intro w'; go_simp; with_reducible rfl); rotate_left; (simp only [Act.put, List.setIfInBounds_toArray, List.set_cons_zero, List.set_cons_succ, i64_w, i32_w]; rfl)
   exact norm_ (by simp only [putAll, Act.put, List.setIfInBounds_toArray, List.set_cons_zero, List.set_cons_succ]) (hCont (.slice Ao15 t242.length co15, .slice Ao14 t245.length co14, gb248) _ ⟨hHeld, (Kd.R_mono HO244.out (fun _ hk => hk.2)), (Kd.R_mono HO247.out (fun _ hk => hk.2)), BK239.out, BK240.out, BK241.out, BK248.out, GW248.out, GE248.out, NB239_248.out, NB248_239.out, NB240_248.out, NB248_240.out, NB241_248.out, NB248_241.out, HB.out⟩)
 rintro ⟨v243, v246, gb248⟩ w16 ⟨hS_, h0_, h1_, h2_, h3_, h4_, h5_, h6_, h7_, h8_, h9_, h10_, h11_, h12_, h13_, h14_⟩
 have n0_ : Aside0 (Kd.R (Kd.int .i64) 2 w16 w.heap.size (fun k_ => some k_ ≠ (v246 : Value).ownBlock) v243 t242) := ⟨h0_⟩
 have n1_ : Aside0 (Kd.R (Kd.int .i64) 2 w16 w.heap.size (fun k_ => some k_ ≠ (v243 : Value).ownBlock) v246 t245) := ⟨h1_⟩
 have n2_ : Aside0 (w16.heap[gb239]? = some (.cells #[.slice A0_0 l0_0.length c0_0, .slice A0_1 l0_1.length c0_1] 27 (0, 0))) := ⟨h2_⟩
 have n3_ : Aside0 (w16.heap[gb240]? = some (.cells #[.bool false, .int .i64 a1_1] 75 (0, 0))) := ⟨h3_⟩
 have n4_ : Aside0 (w16.heap[gb241]? = some (.cells #[.slice none 0 0, .slice none 0 0] 27 (0, 0))) := ⟨h4_⟩
 have n5_ : Aside0 (w16.heap[gb248]? = some (.cells #[.slice none 0 0, .slice none 0 0] 27 (0, 0))) := ⟨h5_⟩
 have n6_ : Aside0 (w.heap.size ≤ gb248) := ⟨h6_⟩
 have n7_ : Aside0 (w.heap.size ≤ gb248) := ⟨h7_⟩
 have n8_ : Aside0 (gb239 ≠ gb248) := ⟨h8_⟩
 have n9_ : Aside0 (gb248 ≠ gb239) := ⟨h9_⟩
 have n10_ : Aside0 (gb240 ≠ gb248) := ⟨h10_⟩
 have n11_ : Aside0 (gb248 ≠ gb240) := ⟨h11_⟩
 have n12_ : Aside0 (gb241 ≠ gb248) := ⟨h12_⟩
 have n13_ : Aside0 (gb248 ≠ gb241) := ⟨h13_⟩
 have n14_ : Aside0 (Below w.heap.size w w16) := ⟨h14_⟩
 clear BK239; clear BK240; clear BK241; clear HB; clear h0_ h1_ h2_ h3_ h4_ h5_ h6_ h7_ h8_ h9_ h10_ h11_ h12_ h13_ h14_; have HO244 := n0_; have HO247 := n1_; have BK239 := n2_; have BK240 := n3_; have BK241 := n4_; have BK248 := n5_; have GW248 := n6_; have GE248 := n7_; have NB239_248 := n8_; have NB248_239 := n9_; have NB240_248 := n10_; have NB248_240 := n11_; have NB241_248 := n12_; have NB248_241 := n13_; have HB := n14_; clear n0_ n1_ n2_ n3_ n4_ n5_ n6_ n7_ n8_ n9_ n10_ n11_ n12_ n13_ n14_
 have hHeld : w16.cell? ⟨gb239, 0, none⟩ = some (.slice A0_0 l0_0.length c0_0) ∧ w16.cell? ⟨gb239, 1, none⟩ = some (.slice A0_1 l0_1.length c0_1) := hS_
 obtain ⟨Ao17, co17, eo17⟩ := Kd.R_slice HO247.out
 (first | subst eo17 | (injection eo17 with f1_ f2_ f3_; have f4_ := f1_.symm; have f5_ := f3_.symm; clear f1_ f2_ f3_; subst f4_; subst f5_))
 obtain ⟨Ao18, co18, eo18⟩ := Kd.R_slice HO244.out
 (first | subst eo18 | (injection eo18 with f1_ f2_ f3_; have f4_ := f1_.symm; have f5_ := f3_.symm; clear f1_ f2_ f3_; subst f4_; subst f5_))
 refine norm_ (a' := ?_) ?_ ?_
 rotate_left
 ·simp only [putAll, Act.put, List.setIfInBounds_toArray, List.set_cons_zero, List.set_cons_succ]
  rfl
 refine one_ (i := 8) (N := none) #[true, true, true, true, true, true, true, true, true] rfl rfl (one_of HT_.out (by kernel_rfl)) (by decide) (fun K hK => ?_)
 have hs19 : w16.cell? ⟨gb248, 0, none⟩ = some (.slice none 0 0) := (blk_cell BK248.out 0).trans rfl
 have hfs19 := blk_frozen BK248.out 0
 have hns19_0 := NB239_248.out
 have hns19_1 := NB240_248.out
 have hns19_2 := NB241_248.out
 have hms19_0 := NB248_239.out
 have hms19_1 := NB248_240.out
 have hms19_2 := NB248_241.out
 have hs20 : w16.cell? ⟨gb248, 1, none⟩ = some (.slice none 0 0) := (blk_cell BK248.out 1).trans rfl
 have hfs20 := blk_frozen BK248.out 1
 have hns20_0 := NB239_248.out
 have hns20_1 := NB240_248.out
 have hns20_2 := NB241_248.out
 have hms20_0 := NB248_239.out
 have hms20_1 := NB248_240.out
 have hms20_2 := NB248_241.out
 refine skip_ (w1 := ?_) (by rfl) rfl ?_ ?_
 rotate_left
 ·go_simp
  rfl
 refine hK.out _ _ ⟨((cell_far (p := ⟨gb248, _, none⟩) NB239_248.out _).trans (((cell_far (p := ⟨gb248, _, none⟩) NB239_248.out _).trans (hHeld.1)))), ((cell_far (p := ⟨gb248, _, none⟩) NB239_248.out _).trans (((cell_far (p := ⟨gb248, _, none⟩) NB239_248.out _).trans (hHeld.2))))⟩ (fun hHeld => ?_)
 clear hK K
 refine done_ (done_of HT_.out (by kernel_rfl)) ?_
 have hq0_ : w16.cell? ⟨gb240, 0, none⟩ = some (.bool false) := (blk_cell BK240.out 0).trans rfl
 try go_wp2
 clear hq0_
 have n0_ : Aside0 (Kd.R (Kd.int .i64) 2 ((w16.setCell ⟨gb248, 0, none⟩ (.slice Ao18 t242.length co18)).setCell ⟨gb248, 1, none⟩ (.slice Ao17 t245.length co17)) w.heap.size (fun k_ => some k_ ≠ (.slice Ao17 t245.length co17 : Value).ownBlock) (.slice Ao18 t242.length co18) t242) := ⟨by exact Kd.R_mono (Kd.R_far (p := ⟨gb248, 1, none⟩) (Kd.R_far (p := ⟨gb248, 0, none⟩) (Kd.R_types HO244.out BK248.out (by decide)) (fun _ hk => hk.2) (.slice Ao18 t242.length co18)) (fun _ hk => hk.2) (.slice Ao17 t245.length co17)) (fun _ hk => hk.1)⟩
 have n1_ : Aside0 (Kd.R (Kd.int .i64) 2 ((w16.setCell ⟨gb248, 0, none⟩ (.slice Ao18 t242.length co18)).setCell ⟨gb248, 1, none⟩ (.slice Ao17 t245.length co17)) w.heap.size (fun k_ => some k_ ≠ (.slice Ao18 t242.length co18 : Value).ownBlock) (.slice Ao17 t245.length co17) t245) := ⟨by exact Kd.R_mono (Kd.R_far (p := ⟨gb248, 1, none⟩) (Kd.R_far (p := ⟨gb248, 0, none⟩) (Kd.R_types HO247.out BK248.out (by decide)) (fun _ hk => hk.2) (.slice Ao18 t242.length co18)) (fun _ hk => hk.2) (.slice Ao17 t245.length co17)) (fun _ hk => hk.1)⟩
 have n2_ : Aside0 (((w16.setCell ⟨gb248, 0, none⟩ (.slice Ao18 t242.length co18)).setCell ⟨gb248, 1, none⟩ (.slice Ao17 t245.length co17)).heap[gb239]? = some (.cells #[.slice A0_0 l0_0.length c0_0, .slice A0_1 l0_1.length c0_1] 27 (0, 0))) := ⟨by refine blk_far ?_ NB239_248.out _; refine blk_far ?_ NB239_248.out _; exact BK239.out⟩
 have n3_ : Aside0 (((w16.setCell ⟨gb248, 0, none⟩ (.slice Ao18 t242.length co18)).setCell ⟨gb248, 1, none⟩ (.slice Ao17 t245.length co17)).heap[gb240]? = some (.cells #[.bool false, .int .i64 a1_1] 75 (0, 0))) := ⟨by refine blk_far ?_ NB240_248.out _; refine blk_far ?_ NB240_248.out _; exact BK240.out⟩
 have n4_ : Aside0 (((w16.setCell ⟨gb248, 0, none⟩ (.slice Ao18 t242.length co18)).setCell ⟨gb248, 1, none⟩ (.slice Ao17 t245.length co17)).heap[gb241]? = some (.cells #[.slice none 0 0, .slice none 0 0] 27 (0, 0))) := ⟨by refine blk_far ?_ NB241_248.out _; refine blk_far ?_ NB241_248.out _; exact BK241.out⟩
 have n5_ : Aside0 (((w16.setCell ⟨gb248, 0, none⟩ (.slice Ao18 t242.length co18)).setCell ⟨gb248, 1, none⟩ (.slice Ao17 t245.length co17)).heap[gb248]? = some (.cells #[.slice Ao18 t242.length co18, .slice Ao17 t245.length co17] 27 (0, 0))) := ⟨by refine blk_put (cs := #[.slice Ao18 t242.length co18, .slice none 0 0]) ?_ 1 _ rfl; refine blk_put (cs := #[.slice none 0 0, .slice none 0 0]) ?_ 0 _ rfl; exact BK248.out⟩
 have n6_ : Aside0 (Below w.heap.size w ((w16.setCell ⟨gb248, 0, none⟩ (.slice Ao18 t242.length co18)).setCell ⟨gb248, 1, none⟩ (.slice Ao17 t245.length co17))) := ⟨by repeat (first | (with_reducible first | exact HB.out | apply below_alloc | apply pw_below_drewN | apply below_drew1 | refine below_set ?_ GE239.out | refine below_set ?_ GE240.out | refine below_set ?_ GE241.out | refine below_set ?_ GE248.out) | exact HB.out)⟩
 (try clear HO244)
 (try clear HO247)
 (try clear BK239)
 (try clear BK240)
 (try clear BK241)
 (try clear BK248)
 (try clear HB)
 generalize ((w16.setCell ⟨gb248, 0, none⟩ (.slice Ao18 t242.length co18)).setCell ⟨gb248, 1, none⟩ (.slice Ao17 t245.length co17)) = w21 at n0_ n1_ n2_ n3_ n4_ n5_ n6_ ⊢
 have HO244 := n0_; have HO247 := n1_; have BK239 := n2_; have BK240 := n3_; have BK241 := n4_; have BK248 := n5_; have HB := n6_; clear n0_ n1_ n2_ n3_ n4_ n5_ n6_; have n0_ := Aside0.mk (Kd.R_drew HO244.out); have n1_ := Aside0.mk (Kd.R_drew HO247.out); have n2_ := Aside0.mk (blk_drew BK239.out); have n3_ := Aside0.mk (blk_drew BK240.out); have n4_ := Aside0.mk (blk_drew BK241.out); have n5_ := Aside0.mk (blk_drew BK248.out); have n6_ := Aside0.mk (below_drew1 HB.out); clear HO244; clear HO247; clear BK239; clear BK240; clear BK241; clear BK248; clear HB; have HO244 := n0_; have HO247 := n1_; have BK239 := n2_; have BK240 := n3_; have BK241 := n4_; have BK248 := n5_; have HB := n6_; clear n0_ n1_ n2_ n3_ n4_ n5_ n6_
 refine start_ (n := 7) (S := fun w' => w'.cell? ⟨gb248, 0, none⟩ = some (.slice Ao18 t242.length co18) ∧ w'.cell? ⟨gb248, 1, none⟩ = some (.slice Ao17 t245.length co17) ∧ w'.cell? ⟨gb240, 0, none⟩ = some (.bool false) ∧ w'.cell? ⟨gb240, 1, none⟩ = some (.int .i64 a1_1)) (ds := []) #[false, false, false, false, false, false, false] (by kernel_rfl) rfl rfl ⟨(blk_cell BK248.out 0).trans rfl, (blk_cell BK248.out 1).trans rfl, (blk_cell BK240.out 0).trans rfl, (blk_cell BK240.out 1).trans rfl⟩ (fun hHeld => ?_)
 generalize w21.drew = w22 at HO244 HO247 BK239 BK240 BK241 BK248 HB hHeld ⊢
 refine pure_ (i := 0) (N := some 19) (v := ?_) (a' := ?_) #[true, false, false, false, false, false, false] rfl rfl (by kernel_rfl) (fun _ _ _ h => h) (Or.inl ⟨by rfl, ?_⟩) ?_ ?_
 rotate_left; (intro w'; go_simp; with_reducible rfl); rotate_left; (simp only [Act.put, List.setIfInBounds_toArray, List.set_cons_zero, List.set_cons_succ, i64_w, i32_w]; rfl)
 refine pure_ (i := 1) (N := some 20) (v := ?_) (a' := ?_) #[true, true, false, false, false, false, false] rfl rfl (by kernel_rfl) (fun _ _ _ h => h) (Or.inl ⟨by rfl, ?_⟩) ?_ ?_
 rotate_left; (intro w'; go_simp; with_reducible rfl); rotate_left; (simp only [Act.put, List.setIfInBounds_toArray, List.set_cons_zero, List.set_cons_succ, i64_w, i32_w]; rfl)
 refine pure_ (i := 3) (N := some 22) (v := ?_) (a' := ?_) #[true, true, false, true, false, false, false] rfl rfl (by kernel_rfl) (fun _ _ _ h => h) (Or.inl ⟨by rfl, ?_⟩) ?_ ?_
 rotate_left; (intro w'; go_simp; with_reducible rfl); rotate_left; (simp only [Act.put, List.setIfInBounds_toArray, List.set_cons_zero, List.set_cons_succ, i64_w, i32_w]; rfl)
 refine take_ (i := 2) (N := some 21) (v := ?_) (a' := ?_) #[true, true, true, true, false, false, false] rfl rfl (by kernel_rfl) (fun _ _ _ h => h) (Or.inl ⟨by rfl, ?_⟩) hHeld ?_ ?_
 rotate_left; (rintro w' ⟨s0, s1, s2, s3⟩; go_simp; with_reducible rfl); rotate_left; (simp only [Act.put, List.setIfInBounds_toArray, List.set_cons_zero, List.set_cons_succ, i64_w, i32_w]; rfl)
 refine take_ (i := 4) (N := some 23) (v := ?_) (a' := ?_) #[true, true, true, true, true, false, false] rfl rfl (by kernel_rfl) (fun _ _ _ h => h) (Or.inl ⟨by rfl, ?_⟩) hHeld ?_ ?_
 rotate_left; (rintro w' ⟨s0, s1, s2, s3⟩; go_simp; with_reducible rfl); rotate_left; (simp only [Act.put, List.setIfInBounds_toArray, List.set_cons_zero, List.set_cons_succ, i64_w, i32_w]; rfl)
 refine one_ (i := 5) (N := some 24) #[true, true, true, true, true, true, false] rfl rfl (by kernel_rfl) (by decide) (fun K hK => ?_)
 refine goes_ Try.func102 (by kernel_rfl) rfl #[.slice Ao18 t242.length co18, .int .i64 a1_1] (by rfl) rfl rfl (by (try simp only [List.map_toArray, List.map_cons, List.map_nil]); first | done | rfl | (simp only [List.length_drop, List.length_take]; rfl)) ?_
 with_reducible refine (slices_Index_int64_int64.calls k _ _ t242 a1_1 (j_ : Int) _ ?side1 ?side2 A5.out).mono ?_
 (case side1 => exact (Kd.R_reads' HO244.out).2.2)
 (case side2 => exact (Kd.R_reads' HO244.out).2.1)
 rintro e w' ⟨rfl, ⟨nd, rfl⟩⟩
 refine ⟨_, rfl, ?_⟩
 refine hK.out _ _ ⟨(blk_cell BK248.out 0).trans rfl, (blk_cell BK248.out 1).trans rfl, (blk_cell BK240.out 0).trans rfl, (blk_cell BK240.out 1).trans rfl⟩ (fun hHeld => ?_)
 clear hK K
 refine norm_ (a' := ?_) ?_ ?_
 rotate_left; (show Act.put _ (some 24) _ = _; simp only [Act.put, List.setIfInBounds_toArray, List.set_cons_zero, List.set_cons_succ, i64_w, i32_w]; rfl)
 refine pure_ (i := 6) (N := some 7) (v := ?_) (a' := ?_) #[true, true, true, true, true, true, true] rfl rfl (by kernel_rfl) (fun _ _ _ h => h) (Or.inl ⟨by rfl, ?_⟩) ?_ ?_
 rotate_left; (intro w'; go_simp; with_reducible rfl); rotate_left; (simp only [Act.put, List.setIfInBounds_toArray, List.set_cons_zero, List.set_cons_succ, i64_w, i32_w]; rfl)
 refine done_ (by kernel_rfl) ?_
 have hnb23 := NB248_239.out
 have hnc23 := NB239_248.out
 have hnb24 := NB248_240.out
 have hnc24 := NB240_248.out
 have hnb25 := NB248_241.out
 have hnc25 := NB241_248.out
 have hcz26_0 : w22.cell? ⟨gb248, 0, none⟩ = some (.slice Ao18 t242.length co18) := (blk_cell BK248.out 0).trans rfl
 have hcz26_1 : w22.cell? ⟨gb248, 1, none⟩ = some (.slice Ao17 t245.length co17) := (blk_cell BK248.out 1).trans rfl
 have hfz26_0 := blk_frozen BK248.out 0
 have hfz26_1 := blk_frozen BK248.out 1
 have hwj_ : wrap64 ((j_ : Int) + 1) = ((j_ + 1 : Nat) : Int) := by have h1_ := HJ.out; have h2_ := HN.out; unfold wrap64; omega
 have hwk_ : IntKind.i64.wrap ((j_ : Int) + 1) = ((j_ + 1 : Nat) : Int) := (i64_w _).trans hwj_
 go_wp2_with (first | ((with_reducible refine gate_callee (f := 103) rfl ?_); refine goesL_ (some 32) rfl rfl Try.func103 (by kernel_rfl) rfl #[.slice Ao18 t242.length co18, .int .i64 (j_ : Int), .int .i64 ((j_ + 1 : Nat) : Int)] rfl (by (try simp only [List.map_toArray, List.map_cons, List.map_nil]); first | done | rfl) ?_; (with_reducible refine (Delete.calls w.heap.size _ _ t242 j_ HJ.out _ ?side1 (Kd.R_drewN HO244.out nd) HN.out).mono ?_); (case side1 => exact HB.out.size); rintro e w27 ⟨v251, rfl, ho0, hb, hg, hown⟩; refine ⟨_, rfl, ?_⟩; rw [← HT6.out] at ho0; obtain ⟨Ao28, co28, e_⟩ := Kd.R_slice ho0; subst e_; have n0_ := Aside0.mk (Kd.R_mono (ok' := fun k_ => some k_ ≠ (.slice Ao28 t250.length co28 : Value).ownBlock) (Kd.R_grown (Kd.R_drewN HO247.out nd) hg (fun _ hk => hk)) (fun _ hk => by rw [hown]; exact hk)); have n1_ := Aside0.mk (blk_grown (blk_drewN BK239.out nd) hg (Kd.R_ne (Kd.R_drewN HO244.out nd) (blk_drewN BK239.out nd) (by decide))); have n2_ := Aside0.mk (blk_grown (blk_drewN BK240.out nd) hg (Kd.R_ne (Kd.R_drewN HO244.out nd) (blk_drewN BK240.out nd) (by decide))); have n3_ := Aside0.mk (blk_grown (blk_drewN BK241.out nd) hg (Kd.R_ne (Kd.R_drewN HO244.out nd) (blk_drewN BK241.out nd) (by decide))); have n4_ := Aside0.mk (blk_grown (blk_drewN BK248.out nd) hg (Kd.R_ne (Kd.R_drewN HO244.out nd) (blk_drewN BK248.out nd) (by decide))); have n5_ := Aside0.mk ((pw_below_drewN HB.out nd).trans hb); have HO252 := Aside0.mk ho0; clear HO244 HO247 BK239 BK240 BK241 BK248 HB; have HO247 := n0_; have BK239 := n1_; have BK240 := n2_; have BK241 := n3_; have BK248 := n4_; have HB := n5_; clear n0_ n1_ n2_ n3_ n4_ n5_ hb hg hown ho0; have hcz29_0 : w27.cell? ⟨gb248, 0, none⟩ = some (.slice Ao18 t242.length co18) := (blk_cell BK248.out 0).trans rfl; have hcz29_1 : w27.cell? ⟨gb248, 1, none⟩ = some (.slice Ao17 t245.length co17) := (blk_cell BK248.out 1).trans rfl; have hfz29_0 := blk_frozen BK248.out 0; have hfz29_1 := blk_frozen BK248.out 1; have hnb30 := NB241_239.out; have hnc30 := NB239_241.out; have hnb31 := NB241_240.out; have hnc31 := NB240_241.out; have hcz32_0 : w27.cell? ⟨gb241, 0, none⟩ = some (.slice none 0 0) := (blk_cell BK241.out 0).trans rfl; have hcz32_1 : w27.cell? ⟨gb241, 1, none⟩ = some (.slice none 0 0) := (blk_cell BK241.out 1).trans rfl; have hfz32_0 := blk_frozen BK241.out 0; have hfz32_1 := blk_frozen BK241.out 1))
 refine bodyPost_ret (results_cell_row rfl _ _ gb241 27 #[.slice Ao28 t250.length co28, .slice Ao17 t245.length co17] (0, 0) _ rfl (by refine blk_put (cs := #[.slice Ao28 t250.length co28, .slice none 0 0]) ?_ 1 _ rfl; refine blk_put (cs := #[.slice none 0 0, .slice none 0 0]) ?_ 0 _ rfl; refine blk_far ?_ NB241_248.out _; exact BK241.out) Try.underlying27 rfl (by kernel_rfl)) rfl ?_
 exact ⟨_, _, rfl, Kd.R_mono (Kd.R_far (p := ⟨gb241, 1, none⟩) (Kd.R_far (p := ⟨gb241, 0, none⟩) (Kd.R_far (p := ⟨gb248, 0, none⟩) (Kd.R_types (Kd.R_types HO252.out BK248.out (by decide)) BK241.out (by decide)) (fun _ hk => hk.1.2) (.slice Ao28 t250.length co28)) (fun _ hk => hk.2) (.slice Ao28 t250.length co28)) (fun _ hk => hk.2) (.slice Ao17 t245.length co17)) (fun _ hk => hk.1.1), Kd.R_mono (Kd.R_far (p := ⟨gb241, 1, none⟩) (Kd.R_far (p := ⟨gb241, 0, none⟩) (Kd.R_far (p := ⟨gb248, 0, none⟩) (Kd.R_types (Kd.R_types HO247.out BK248.out (by decide)) BK241.out (by decide)) (fun _ hk => hk.1.2) (.slice Ao28 t250.length co28)) (fun _ hk => hk.2) (.slice Ao28 t250.length co28)) (fun _ hk => hk.2) (.slice Ao17 t245.length co17)) (fun _ hk => hk.1.1), by repeat (first | (with_reducible first | exact HB.out | apply below_alloc | apply pw_below_drewN | apply below_drew1 | refine below_set ?_ GE239.out | refine below_set ?_ GE240.out | refine below_set ?_ GE241.out | refine below_set ?_ GE248.out) | exact HB.out)⟩
set_option maxHeartbeats 8000000 in
set_option maxRecDepth 100000 in
theorem without_true.calls (k : Nat) (A0_0 : Option Addr) (c0_0 : Nat) (l0_0 : List Int) (A0_1 : Option Addr) (c0_1 : Nat) (l0_1 : List Int) (a1_1 : Int) (r1 : List Int) (r2 : List Int) (w : World) (hr0_0 : Kd.C (Kd.int .i64) w A0_0 l0_0.length l0_0) (hc0_0 : l0_0.length ≤ c0_0) (hr0_1 : Kd.C (Kd.int .i64) w A0_1 l0_1.length l0_1) (hc0_1 : l0_1.length ≤ c0_1) (h : without_true.f k l0_0 l0_1 a1_1 = some (r1, r2)) :
  Calls Try.prog 74 #[.agg #[.slice A0_0 l0_0.length c0_0, .slice A0_1 l0_1.length c0_1], .agg #[.bool true, .int .i64 a1_1]] w fun e w' => ∃ v0_ v1_ : Value, e = .returned (.agg #[v0_, v1_]) ∧ Kd.R (Kd.int .i64) 2 w' w.heap.size (fun k_ => some k_ ≠ (v1_ : Value).ownBlock) v0_ r1 ∧ Kd.R (Kd.int .i64) 2 w' w.heap.size (fun k_ => some k_ ≠ (v0_ : Value).ownBlock) v1_ r2 ∧ Below w.heap.size w w' := by
 have hu27 := Try.underlying27
 have hu75 := Try.underlying75
 have HR0_0 := Aside0.mk hr0_0
 have HC0_0 := Aside0.mk hc0_0
 clear hr0_0 hc0_0
 have HR0_1 := Aside0.mk hr0_1
 have HC0_1 := Aside0.mk hc0_1
 clear hr0_1 hc0_1
 have HB := Aside0.mk (Below.refl w.heap.size w)
 have H : ((slices_Clone_int64_int64.f l0_0).bind fun t242 => ((slices_Clone_int64_int64.f l0_1).bind fun t245 => ((slices_Index_int64_int64.f k t245 a1_1).bind fun t249 => ((cutAt t245 t249).bind fun t250 => (some (t242, t250)))))) = some (r1, r2) := h
 clear h
 replace H := Option.bind_eq_some_iff.mp H
 obtain ⟨t242, A30, H⟩ := H
 replace H : ((slices_Clone_int64_int64.f l0_1).bind fun t245 => ((slices_Index_int64_int64.f k t245 a1_1).bind fun t249 => ((cutAt t245 t249).bind fun t250 => (some (t242, t250))))) = some (r1, r2) := H
 have A3 := Aside0.mk A30
 clear A30
 replace H := Option.bind_eq_some_iff.mp H
 obtain ⟨t245, A40, H⟩ := H
 replace H : ((slices_Index_int64_int64.f k t245 a1_1).bind fun t249 => ((cutAt t245 t249).bind fun t250 => (some (t242, t250)))) = some (r1, r2) := H
 have A4 := Aside0.mk A40
 clear A40
 replace H := Option.bind_eq_some_iff.mp H
 obtain ⟨t249, A50, H⟩ := H
 replace H : ((cutAt t245 t249).bind fun t250 => (some (t242, t250))) = some (r1, r2) := H
 have A5 := Aside0.mk A50
 clear A50
 replace H := Option.bind_eq_some_iff.mp H
 obtain ⟨t250, A60, H⟩ := H
 replace H : (some (t242, t250)) = some (r1, r2) := H
 have A6 := Aside0.mk A60
 clear A60
 obtain ⟨j_, ej_, hj_, hn_, et_⟩ := cutAt_some A6.out
 subst ej_
 have HJ := Aside0.mk hj_
 have HN := Aside0.mk hn_
 have HT6 := Aside0.mk et_
 clear hj_ hn_ et_
 simp only [Option.some.injEq, Prod.mk.injEq] at H
 obtain ⟨rfl, rfl⟩ := H
 go_enter Try.func74, Try.ntmps74
 try go_wp2_with (first | ((with_reducible refine gate_dst (N := 2) rfl ?_); refine box_event ?hg (N := 2) ?hd (cs := #[.slice A0_0 l0_0.length c0_0, .slice A0_1 l0_1.length c0_1]) (t := 27) ?hr ?_; (case hd => rfl); (case hg => rfl); (case hr => first | (go_simp; done) | (go_simp; rfl)); intro gb239 hg w7 hbox hb; have n0_ := Aside0.mk (below_step HB.out hb); have n1_ := Aside0.mk (hbox); have n2_ := Aside0.mk ((by rw [hg]; exact (below_size HB.out) : w.heap.size ≤ gb239)); have n3_ := Aside0.mk ((by rw [hg]; exact (below_size HB.out) : w.heap.size ≤ gb239)); clear HB; have HB := n0_; have BK239 := n1_; have GW239 := n2_; have GE239 := n3_; clear n0_ n1_ n2_ n3_; clear hb hbox hg) | ((with_reducible refine gate_dst (N := 3) rfl ?_); refine box_event ?hg (N := 3) ?hd (cs := #[.bool true, .int .i64 a1_1]) (t := 75) ?hr ?_; (case hd => rfl); (case hg => rfl); (case hr => first | (go_simp; done) | (go_simp; rfl)); intro gb240 hg w8 hbox hb; have n0_ := Aside0.mk (blk_below (g := gb239) (o := .cells #[.slice A0_0 l0_0.length c0_0, .slice A0_1 l0_1.length c0_1] 27 (0, 0)) BK239.out hb); have n1_ := Aside0.mk (below_step HB.out hb); have n2_ := Aside0.mk (hbox); have n3_ := Aside0.mk ((by rw [hg]; exact (below_size HB.out) : w.heap.size ≤ gb240)); have n4_ := Aside0.mk ((by rw [hg]; exact (below_size HB.out) : w.heap.size ≤ gb240)); have n5_ := Aside0.mk ((by rw [hg]; exact Nat.ne_of_lt (blk_lt (g := gb239) (o := .cells #[.slice A0_0 l0_0.length c0_0, .slice A0_1 l0_1.length c0_1] 27 (0, 0)) BK239.out) : gb239 ≠ gb240)); have n6_ := Aside0.mk ((by rw [hg]; exact Nat.ne_of_gt (blk_lt (g := gb239) (o := .cells #[.slice A0_0 l0_0.length c0_0, .slice A0_1 l0_1.length c0_1] 27 (0, 0)) BK239.out) : gb240 ≠ gb239)); clear BK239; clear HB; have BK239 := n0_; have HB := n1_; have BK240 := n2_; have GW240 := n3_; have GE240 := n4_; have NB239_240 := n5_; have NB240_239 := n6_; clear n0_ n1_ n2_ n3_ n4_ n5_ n6_; clear hb hbox hg) | ((with_reducible refine gate_dst (N := 4) rfl ?_); refine box_event ?hg (N := 4) ?hd (cs := #[.slice none 0 0, .slice none 0 0]) (t := 27) ?hr ?_; (case hd => rfl); (case hg => rfl); (case hr => first | (go_simp; done) | (go_simp; rfl)); intro gb241 hg w9 hbox hb; have n0_ := Aside0.mk (blk_below (g := gb239) (o := .cells #[.slice A0_0 l0_0.length c0_0, .slice A0_1 l0_1.length c0_1] 27 (0, 0)) BK239.out hb); have n1_ := Aside0.mk (blk_below (g := gb240) (o := .cells #[.bool true, .int .i64 a1_1] 75 (0, 0)) BK240.out hb); have n2_ := Aside0.mk (below_step HB.out hb); have n3_ := Aside0.mk (hbox); have n4_ := Aside0.mk ((by rw [hg]; exact (below_size HB.out) : w.heap.size ≤ gb241)); have n5_ := Aside0.mk ((by rw [hg]; exact (below_size HB.out) : w.heap.size ≤ gb241)); have n6_ := Aside0.mk ((by rw [hg]; exact Nat.ne_of_lt (blk_lt (g := gb239) (o := .cells #[.slice A0_0 l0_0.length c0_0, .slice A0_1 l0_1.length c0_1] 27 (0, 0)) BK239.out) : gb239 ≠ gb241)); have n7_ := Aside0.mk ((by rw [hg]; exact Nat.ne_of_gt (blk_lt (g := gb239) (o := .cells #[.slice A0_0 l0_0.length c0_0, .slice A0_1 l0_1.length c0_1] 27 (0, 0)) BK239.out) : gb241 ≠ gb239)); have n8_ := Aside0.mk ((by rw [hg]; exact Nat.ne_of_lt (blk_lt (g := gb240) (o := .cells #[.bool true, .int .i64 a1_1] 75 (0, 0)) BK240.out) : gb240 ≠ gb241)); have n9_ := Aside0.mk ((by rw [hg]; exact Nat.ne_of_gt (blk_lt (g := gb240) (o := .cells #[.bool true, .int .i64 a1_1] 75 (0, 0)) BK240.out) : gb241 ≠ gb240)); clear BK239; clear BK240; clear HB; have BK239 := n0_; have BK240 := n1_; have HB := n2_; have BK241 := n3_; have GW241 := n4_; have GE241 := n5_; have NB239_241 := n6_; have NB241_239 := n7_; have NB240_241 := n8_; have NB241_240 := n9_; clear n0_ n1_ n2_ n3_ n4_ n5_ n6_ n7_ n8_ n9_; clear hb hbox hg))
 have n0_ := Aside0.mk (blk_drew BK239.out); have n1_ := Aside0.mk (blk_drew BK240.out); have n2_ := Aside0.mk (blk_drew BK241.out); have n3_ := Aside0.mk (below_drew1 HB.out); clear BK239; clear BK240; clear BK241; clear HB; have BK239 := n0_; have BK240 := n1_; have BK241 := n2_; have HB := n3_; clear n0_ n1_ n2_ n3_
 refine start_ (n := 9) (S := fun w' => w'.cell? ⟨gb239, 0, none⟩ = some (.slice A0_0 l0_0.length c0_0) ∧ w'.cell? ⟨gb239, 1, none⟩ = some (.slice A0_1 l0_1.length c0_1)) (ds := []) #[false, false, false, false, false, false, false, false, false] (by kernel_rfl) rfl rfl ⟨(blk_cell BK239.out 0).trans rfl, (blk_cell BK239.out 1).trans rfl⟩ (fun hHeld => ?_); refine with_tabW impl_Ending_without.tab1 impl_Ending_without.bits1 (fun HT_ HW_ => ?_)
 generalize w9.drew = w10 at BK239 BK240 BK241 HB hHeld ⊢
 refine pure_ (i := 0) (N := some 8) (v := ?_) (a' := ?_) #[true, false, false, false, false, false, false, false, false] rfl rfl (any_of HT_.out (by kernel_rfl)) (fun _ _ _ h => h) (Or.inl ⟨by rfl, ?_⟩) ?_ ?_
 rotate_left; (intro w'; go_simp; with_reducible rfl); rotate_left; (simp only [Act.put, List.setIfInBounds_toArray, List.set_cons_zero, List.set_cons_succ, i64_w, i32_w]; rfl)
 refine pure_ (i := 3) (N := some 11) (v := ?_) (a' := ?_) #[true, false, false, true, false, false, false, false, false] rfl rfl (any_of HT_.out (by kernel_rfl)) (fun _ _ _ h => h) (Or.inl ⟨by rfl, ?_⟩) ?_ ?_
 rotate_left; (intro w'; go_simp; with_reducible rfl); rotate_left; (simp only [Act.put, List.setIfInBounds_toArray, List.set_cons_zero, List.set_cons_succ, i64_w, i32_w]; rfl)
 refine take_ (i := 1) (N := some 9) (v := ?_) (a' := ?_) #[true, true, false, true, false, false, false, false, false] rfl rfl (take_ofW HT_.out HW_.out (by kernel_rfl)) (fun _ _ _ h => h) (Or.inl ⟨by rfl, ?_⟩) hHeld ?_ ?_
 rotate_left; (rintro w' ⟨s0, s1⟩; go_simp; with_reducible rfl); rotate_left; (simp only [Act.put, List.setIfInBounds_toArray, List.set_cons_zero, List.set_cons_succ, i64_w, i32_w]; rfl)
 refine take_ (i := 4) (N := some 12) (v := ?_) (a' := ?_) #[true, true, false, true, true, false, false, false, false] rfl rfl (take_ofW HT_.out HW_.out (by kernel_rfl)) (fun _ _ _ h => h) (Or.inl ⟨by rfl, ?_⟩) hHeld ?_ ?_
 rotate_left; (rintro w' ⟨s0, s1⟩; go_simp; with_reducible rfl); rotate_left; (simp only [Act.put, List.setIfInBounds_toArray, List.set_cons_zero, List.set_cons_succ, i64_w, i32_w]; rfl)
 refine join_ (σ := Value × Value × Nat) 1 #[true, true, true, true, true, true, true, true, false] (fun s_ => [(10, s_.1), (13, s_.2.1), (5, .pointer (some ⟨s_.2.2, 0, none⟩)), (14, .agg #[s_.1, s_.2.1])]) (fun s_ w' => (w'.cell? ⟨gb239, 0, none⟩ = some (.slice A0_0 l0_0.length c0_0) ∧ w'.cell? ⟨gb239, 1, none⟩ = some (.slice A0_1 l0_1.length c0_1)) ∧ (Kd.R (Kd.int .i64) 2 w' w.heap.size (fun k_ => some k_ ≠ (s_.2.1 : Value).ownBlock) s_.1 t242) ∧ (Kd.R (Kd.int .i64) 2 w' w.heap.size (fun k_ => some k_ ≠ (s_.1 : Value).ownBlock) s_.2.1 t245) ∧ (w'.heap[gb239]? = some (.cells #[.slice A0_0 l0_0.length c0_0, .slice A0_1 l0_1.length c0_1] 27 (0, 0))) ∧ (w'.heap[gb240]? = some (.cells #[.bool true, .int .i64 a1_1] 75 (0, 0))) ∧ (w'.heap[gb241]? = some (.cells #[.slice none 0 0, .slice none 0 0] 27 (0, 0))) ∧ (w'.heap[s_.2.2]? = some (.cells #[.slice none 0 0, .slice none 0 0] 27 (0, 0))) ∧ (w.heap.size ≤ s_.2.2) ∧ (w.heap.size ≤ s_.2.2) ∧ (gb239 ≠ s_.2.2) ∧ (s_.2.2 ≠ gb239) ∧ (gb240 ≠ s_.2.2) ∧ (s_.2.2 ≠ gb240) ∧ (gb241 ≠ s_.2.2) ∧ (s_.2.2 ≠ gb241) ∧ (Below w.heap.size w w')) ?_ ?_
 rotate_left
 ·intro hCont
  refine two_ (i := 2) (j := 7) (Ni := some 10) (Nj := some 5) #[true, true, true, true, true, false, false, false, false] #[true, true, false, true, true, false, false, true, false] rfl rfl rfl rfl (two_of HT_.out (by kernel_rfl)) (by decide) (by decide) (fun K hK => ?_) (fun K hK => ?_)
  ·skip
   refine goes_ Try.func68 (by kernel_rfl) rfl #[.slice A0_0 l0_0.length c0_0] (by rfl) rfl rfl (by (try simp only [List.map_toArray, List.map_cons, List.map_nil]); first | done | rfl | (simp only [List.length_drop, List.length_take]; rfl)) ?_
   with_reducible refine (slices_Clone_int64_int64.calls _ _ l0_0 t242 _ ?side1 ?side2 A3.out).mono ?_
   (case side1 => exact (Kd.C_below HR0_0.out HB.out))
   (case side2 => exact HC0_0.out)
   rintro e w11 ⟨v243, rfl, ho0, hb⟩
   refine ⟨_, rfl, ?_⟩
   have n0_ := Aside0.mk (Kd.R_lower ho0 (below_size HB.out)); have n1_ := Aside0.mk (blk_below (g := gb239) (o := .cells #[.slice A0_0 l0_0.length c0_0, .slice A0_1 l0_1.length c0_1] 27 (0, 0)) BK239.out hb); have n2_ := Aside0.mk (blk_below (g := gb240) (o := .cells #[.bool true, .int .i64 a1_1] 75 (0, 0)) BK240.out hb); have n3_ := Aside0.mk (blk_below (g := gb241) (o := .cells #[.slice none 0 0, .slice none 0 0] 27 (0, 0)) BK241.out hb); have n4_ := Aside0.mk (below_step HB.out hb); clear BK239; clear BK240; clear BK241; clear HB; have HO244 := n0_; have BK239 := n1_; have BK240 := n2_; have BK241 := n3_; have HB := n4_; clear n0_ n1_ n2_ n3_ n4_
   (try clear hb)
   (try clear hb2)
   (try clear hk)
   (try clear hi)
   (try clear ho0)
   refine hK.out _ _ ⟨(blk_cell BK239.out 0).trans rfl, (blk_cell BK239.out 1).trans rfl⟩ (fun hHeld => ?_)
   clear hK K
   refine norm_ (a' := ?_) ?_ ?_
   rotate_left; (show Act.put _ (some 10) _ = _; simp only [Act.put, List.setIfInBounds_toArray, List.set_cons_zero, List.set_cons_succ, i64_w, i32_w]; rfl)
   refine two_ (i := 5) (j := 7) (Ni := some 13) (Nj := some 5) #[true, true, true, true, true, true, false, false, false] #[true, true, true, true, true, false, false, true, false] rfl rfl rfl rfl (two_of HT_.out (by kernel_rfl)) (by decide) (by decide) (fun K hK => ?_) (fun K hK => ?_)
   ·skip
    refine goes_ Try.func68 (by kernel_rfl) rfl #[.slice A0_1 l0_1.length c0_1] (by rfl) rfl rfl (by (try simp only [List.map_toArray, List.map_cons, List.map_nil]); first | done | rfl | (simp only [List.length_drop, List.length_take]; rfl)) ?_
    with_reducible refine (slices_Clone_int64_int64.calls _ _ l0_1 t245 _ ?side1 ?side2 A4.out).mono ?_
    (case side1 => exact (Kd.C_below HR0_1.out HB.out))
    (case side2 => exact HC0_1.out)
    rintro e w12 ⟨v246, rfl, ho0, hb⟩
    refine ⟨_, rfl, ?_⟩
    have n0_ := Aside0.mk (Kd.R_elder' HO244.out (Kd.R_base ho0) hb); have n1_ := Aside0.mk (Kd.R_lower (Kd.R_new' ho0 (Kd.R_lt HO244.out)) (below_size HB.out)); have n2_ := Aside0.mk (blk_below (g := gb239) (o := .cells #[.slice A0_0 l0_0.length c0_0, .slice A0_1 l0_1.length c0_1] 27 (0, 0)) BK239.out hb); have n3_ := Aside0.mk (blk_below (g := gb240) (o := .cells #[.bool true, .int .i64 a1_1] 75 (0, 0)) BK240.out hb); have n4_ := Aside0.mk (blk_below (g := gb241) (o := .cells #[.slice none 0 0, .slice none 0 0] 27 (0, 0)) BK241.out hb); have n5_ := Aside0.mk (below_step HB.out hb); clear HO244; clear BK239; clear BK240; clear BK241; clear HB; have HO244 := n0_; have HO247 := n1_; have BK239 := n2_; have BK240 := n3_; have BK241 := n4_; have HB := n5_; clear n0_ n1_ n2_ n3_ n4_ n5_
    (try clear hb)
    (try clear hb2)
    (try clear hk)
    (try clear hi)
    (try clear ho0)
    obtain ⟨Ao13, co13, eo13⟩ := Kd.R_slice HO247.out
    (first | subst eo13 | (injection eo13 with f1_ f2_ f3_; have f4_ := f1_.symm; have f5_ := f3_.symm; clear f1_ f2_ f3_; subst f4_; subst f5_))
    obtain ⟨Ao14, co14, eo14⟩ := Kd.R_slice HO244.out
    (first | subst eo14 | (injection eo14 with f1_ f2_ f3_; have f4_ := f1_.symm; have f5_ := f3_.symm; clear f1_ f2_ f3_; subst f4_; subst f5_))
    refine hK.out _ _ ⟨(blk_cell BK239.out 0).trans rfl, (blk_cell BK239.out 1).trans rfl⟩ (fun hHeld => ?_)
    clear hK K
    refine norm_ (a' := ?_) ?_ ?_
    rotate_left; (show Act.put _ (some 13) _ = _; simp only [Act.put, List.setIfInBounds_toArray, List.set_cons_zero, List.set_cons_succ, i64_w, i32_w]; rfl)
    refine pure_ (i := 6) (N := some 14) (v := ?_) (a' := ?_) #[true, true, true, true, true, true, true, false, false] rfl rfl (any_of HT_.out (by kernel_rfl)) (fun _ _ _ h => h) (Or.inl ⟨by rfl, ?_⟩) ?_ ?_
    rotate_left; (intro w'; go_simp; with_reducible rfl); rotate_left; (simp only [Act.put, List.setIfInBounds_toArray, List.set_cons_zero, List.set_cons_succ, i64_w, i32_w]; rfl)
    refine one_ (i := 7) (N := some 5) #[true, true, true, true, true, true, true, true, false] rfl rfl (one_of HT_.out (by kernel_rfl)) (by decide) (fun K hK => ?_)
    refine box_step ?hg (N := 5) ?hd (cs := #[.slice none 0 0, .slice none 0 0]) (t := 27) ?hr ?_; (case hd => rfl); (case hg => rfl); (case hr => first | (go_simp; done) | (go_simp; rfl))
    intro gb248 hg w15 hbox hb
    have n0_ := Aside0.mk (Kd.R_below HO244.out hb); have n1_ := Aside0.mk (Kd.R_below HO247.out hb); have n2_ := Aside0.mk (blk_below (g := gb239) (o := .cells #[.slice A0_0 l0_0.length c0_0, .slice A0_1 l0_1.length c0_1] 27 (0, 0)) BK239.out hb); have n3_ := Aside0.mk (blk_below (g := gb240) (o := .cells #[.bool true, .int .i64 a1_1] 75 (0, 0)) BK240.out hb); have n4_ := Aside0.mk (blk_below (g := gb241) (o := .cells #[.slice none 0 0, .slice none 0 0] 27 (0, 0)) BK241.out hb); have n5_ := Aside0.mk (below_step HB.out hb); have n6_ := Aside0.mk (hbox); have n7_ := Aside0.mk ((by rw [hg]; exact (below_size HB.out) : w.heap.size ≤ gb248)); have n8_ := Aside0.mk ((by rw [hg]; exact (below_size HB.out) : w.heap.size ≤ gb248)); have n9_ := Aside0.mk ((by rw [hg]; exact Nat.ne_of_lt (blk_lt (g := gb239) (o := .cells #[.slice A0_0 l0_0.length c0_0, .slice A0_1 l0_1.length c0_1] 27 (0, 0)) BK239.out) : gb239 ≠ gb248)); have n10_ := Aside0.mk ((by rw [hg]; exact Nat.ne_of_gt (blk_lt (g := gb239) (o := .cells #[.slice A0_0 l0_0.length c0_0, .slice A0_1 l0_1.length c0_1] 27 (0, 0)) BK239.out) : gb248 ≠ gb239)); have n11_ := Aside0.mk ((by rw [hg]; exact Nat.ne_of_lt (blk_lt (g := gb240) (o := .cells #[.bool true, .int .i64 a1_1] 75 (0, 0)) BK240.out) : gb240 ≠ gb248)); have n12_ := Aside0.mk ((by rw [hg]; exact Nat.ne_of_gt (blk_lt (g := gb240) (o := .cells #[.bool true, .int .i64 a1_1] 75 (0, 0)) BK240.out) : gb248 ≠ gb240)); have n13_ := Aside0.mk ((by rw [hg]; exact Nat.ne_of_lt (blk_lt (g := gb241) (o := .cells #[.slice none 0 0, .slice none 0 0] 27 (0, 0)) BK241.out) : gb241 ≠ gb248)); have n14_ := Aside0.mk ((by rw [hg]; exact Nat.ne_of_gt (blk_lt (g := gb241) (o := .cells #[.slice none 0 0, .slice none 0 0] 27 (0, 0)) BK241.out) : gb248 ≠ gb241)); clear HO244; clear HO247; clear BK239; clear BK240; clear BK241; clear HB; have HO244 := n0_; have HO247 := n1_; have BK239 := n2_; have BK240 := n3_; have BK241 := n4_; have HB := n5_; have BK248 := n6_; have GW248 := n7_; have GE248 := n8_; have NB239_248 := n9_; have NB248_239 := n10_; have NB240_248 := n11_; have NB248_240 := n12_; have NB241_248 := n13_; have NB248_241 := n14_; clear n0_ n1_ n2_ n3_ n4_ n5_ n6_ n7_ n8_ n9_ n10_ n11_ n12_ n13_ n14_; clear hb hbox hg
    refine hK.out _ _ ⟨(blk_cell BK239.out 0).trans rfl, (blk_cell BK239.out 1).trans rfl⟩ (fun hHeld => ?_)
    clear hK K
    refine norm_ (a' := ?_) ?_ ?_
    rotate_left; (show Act.put _ (some 5) _ = _; simp only [Act.put, List.setIfInBounds_toArray, List.set_cons_zero, List.set_cons_succ, i64_w, i32_w]; rfl)
    exact norm_ (by simp only [putAll, Act.put, List.setIfInBounds_toArray, List.set_cons_zero, List.set_cons_succ]) (hCont (.slice Ao14 t242.length co14, .slice Ao13 t245.length co13, gb248) _ ⟨hHeld, (Kd.R_mono HO244.out (fun _ hk => hk.2)), (Kd.R_mono HO247.out (fun _ hk => hk.2)), BK239.out, BK240.out, BK241.out, BK248.out, GW248.out, GE248.out, NB239_248.out, NB248_239.out, NB240_248.out, NB248_240.out, NB241_248.out, NB248_241.out, HB.out⟩)
   ·skip
    refine box_step ?hg (N := 5) ?hd (cs := #[.slice none 0 0, .slice none 0 0]) (t := 27) ?hr ?_; (case hd => rfl); (case hg => rfl); (case hr => first | (go_simp; done) | (go_simp; rfl))
    intro gb248 hg w12 hbox hb
    have n0_ := Aside0.mk (Kd.R_below HO244.out hb); have n1_ := Aside0.mk (blk_below (g := gb239) (o := .cells #[.slice A0_0 l0_0.length c0_0, .slice A0_1 l0_1.length c0_1] 27 (0, 0)) BK239.out hb); have n2_ := Aside0.mk (blk_below (g := gb240) (o := .cells #[.bool true, .int .i64 a1_1] 75 (0, 0)) BK240.out hb); have n3_ := Aside0.mk (blk_below (g := gb241) (o := .cells #[.slice none 0 0, .slice none 0 0] 27 (0, 0)) BK241.out hb); have n4_ := Aside0.mk (below_step HB.out hb); have n5_ := Aside0.mk (hbox); have n6_ := Aside0.mk ((by rw [hg]; exact (below_size HB.out) : w.heap.size ≤ gb248)); have n7_ := Aside0.mk ((by rw [hg]; exact (below_size HB.out) : w.heap.size ≤ gb248)); have n8_ := Aside0.mk ((by rw [hg]; exact Nat.ne_of_lt (blk_lt (g := gb239) (o := .cells #[.slice A0_0 l0_0.length c0_0, .slice A0_1 l0_1.length c0_1] 27 (0, 0)) BK239.out) : gb239 ≠ gb248)); have n9_ := Aside0.mk ((by rw [hg]; exact Nat.ne_of_gt (blk_lt (g := gb239) (o := .cells #[.slice A0_0 l0_0.length c0_0, .slice A0_1 l0_1.length c0_1] 27 (0, 0)) BK239.out) : gb248 ≠ gb239)); have n10_ := Aside0.mk ((by rw [hg]; exact Nat.ne_of_lt (blk_lt (g := gb240) (o := .cells #[.bool true, .int .i64 a1_1] 75 (0, 0)) BK240.out) : gb240 ≠ gb248)); have n11_ := Aside0.mk ((by rw [hg]; exact Nat.ne_of_gt (blk_lt (g := gb240) (o := .cells #[.bool true, .int .i64 a1_1] 75 (0, 0)) BK240.out) : gb248 ≠ gb240)); have n12_ := Aside0.mk ((by rw [hg]; exact Nat.ne_of_lt (blk_lt (g := gb241) (o := .cells #[.slice none 0 0, .slice none 0 0] 27 (0, 0)) BK241.out) : gb241 ≠ gb248)); have n13_ := Aside0.mk ((by rw [hg]; exact Nat.ne_of_gt (blk_lt (g := gb241) (o := .cells #[.slice none 0 0, .slice none 0 0] 27 (0, 0)) BK241.out) : gb248 ≠ gb241)); clear HO244; clear BK239; clear BK240; clear BK241; clear HB; have HO244 := n0_; have BK239 := n1_; have BK240 := n2_; have BK241 := n3_; have HB := n4_; have BK248 := n5_; have GW248 := n6_; have GE248 := n7_; have NB239_248 := n8_; have NB248_239 := n9_; have NB240_248 := n10_; have NB248_240 := n11_; have NB241_248 := n12_; have NB248_241 := n13_; clear n0_ n1_ n2_ n3_ n4_ n5_ n6_ n7_ n8_ n9_ n10_ n11_ n12_ n13_; clear hb hbox hg
    refine hK.out _ _ ⟨(blk_cell BK239.out 0).trans rfl, (blk_cell BK239.out 1).trans rfl⟩ (fun hHeld => ?_)
    clear hK K
    refine norm_ (a' := ?_) ?_ ?_
    rotate_left; (show Act.put _ (some 5) _ = _; simp only [Act.put, List.setIfInBounds_toArray, List.set_cons_zero, List.set_cons_succ, i64_w, i32_w]; rfl)
    refine one_ (i := 5) (N := some 13) #[true, true, true, true, true, true, false, true, false] rfl rfl (one_of HT_.out (by kernel_rfl)) (by decide) (fun K hK => ?_)
    refine goes_ Try.func68 (by kernel_rfl) rfl #[.slice A0_1 l0_1.length c0_1] (by rfl) rfl rfl (by (try simp only [List.map_toArray, List.map_cons, List.map_nil]); first | done | rfl | (simp only [List.length_drop, List.length_take]; rfl)) ?_
    with_reducible refine (slices_Clone_int64_int64.calls _ _ l0_1 t245 _ ?side1 ?side2 A4.out).mono ?_
    (case side1 => exact (Kd.C_below HR0_1.out HB.out))
    (case side2 => exact HC0_1.out)
    rintro e w13 ⟨v246, rfl, ho0, hb⟩
    refine ⟨_, rfl, ?_⟩
    have n0_ := Aside0.mk (Kd.R_elder' HO244.out (Kd.R_base ho0) hb); have n1_ := Aside0.mk (Kd.R_lower (Kd.R_new' ho0 (Kd.R_lt HO244.out)) (below_size HB.out)); have n2_ := Aside0.mk (blk_below (g := gb239) (o := .cells #[.slice A0_0 l0_0.length c0_0, .slice A0_1 l0_1.length c0_1] 27 (0, 0)) BK239.out hb); have n3_ := Aside0.mk (blk_below (g := gb240) (o := .cells #[.bool true, .int .i64 a1_1] 75 (0, 0)) BK240.out hb); have n4_ := Aside0.mk (blk_below (g := gb241) (o := .cells #[.slice none 0 0, .slice none 0 0] 27 (0, 0)) BK241.out hb); have n5_ := Aside0.mk (blk_below (g := gb248) (o := .cells #[.slice none 0 0, .slice none 0 0] 27 (0, 0)) BK248.out hb); have n6_ := Aside0.mk (below_step HB.out hb); clear HO244; clear BK239; clear BK240; clear BK241; clear BK248; clear HB; have HO244 := n0_; have HO247 := n1_; have BK239 := n2_; have BK240 := n3_; have BK241 := n4_; have BK248 := n5_; have HB := n6_; clear n0_ n1_ n2_ n3_ n4_ n5_ n6_
    (try clear hb)
    (try clear hb2)
    (try clear hk)
    (try clear hi)
    (try clear ho0)
    obtain ⟨Ao14, co14, eo14⟩ := Kd.R_slice HO247.out
    (first | subst eo14 | (injection eo14 with f1_ f2_ f3_; have f4_ := f1_.symm; have f5_ := f3_.symm; clear f1_ f2_ f3_; subst f4_; subst f5_))
    obtain ⟨Ao15, co15, eo15⟩ := Kd.R_slice HO244.out
    (first | subst eo15 | (injection eo15 with f1_ f2_ f3_; have f4_ := f1_.symm; have f5_ := f3_.symm; clear f1_ f2_ f3_; subst f4_; subst f5_))
    refine hK.out _ _ ⟨(blk_cell BK239.out 0).trans rfl, (blk_cell BK239.out 1).trans rfl⟩ (fun hHeld => ?_)
    clear hK K
    refine norm_ (a' := ?_) ?_ ?_
    rotate_left; (show Act.put _ (some 13) _ = _; simp only [Act.put, List.setIfInBounds_toArray, List.set_cons_zero, List.set_cons_succ, i64_w, i32_w]; rfl)
    refine pure_ (i := 6) (N := some 14) (v := ?_) (a' := ?_) #[true, true, true, true, true, true, true, true, false] rfl rfl (any_of HT_.out (by kernel_rfl)) (fun _ _ _ h => h) (Or.inl ⟨by rfl, ?_⟩) ?_ ?_
    rotate_left; (intro w'; go_simp; with_reducible rfl); rotate_left; (simp only [Act.put, List.setIfInBounds_toArray, List.set_cons_zero, List.set_cons_succ, i64_w, i32_w]; rfl)
    exact norm_ (by simp only [putAll, Act.put, List.setIfInBounds_toArray, List.set_cons_zero, List.set_cons_succ]) (hCont (.slice Ao15 t242.length co15, .slice Ao14 t245.length co14, gb248) _ ⟨hHeld, (Kd.R_mono HO244.out (fun _ hk => hk.2)), (Kd.R_mono HO247.out (fun _ hk => hk.2)), BK239.out, BK240.out, BK241.out, BK248.out, GW248.out, GE248.out, NB239_248.out, NB248_239.out, NB240_248.out, NB248_240.out, NB241_248.out, NB248_241.out, HB.out⟩)
  ·skip
   refine box_step ?hg (N := 5) ?hd (cs := #[.slice none 0 0, .slice none 0 0]) (t := 27) ?hr ?_; (case hd => rfl); (case hg => rfl); (case hr => first | (go_simp; done) | (go_simp; rfl))
   intro gb248 hg w11 hbox hb
   have n0_ := Aside0.mk (blk_below (g := gb239) (o := .cells #[.slice A0_0 l0_0.length c0_0, .slice A0_1 l0_1.length c0_1] 27 (0, 0)) BK239.out hb); have n1_ := Aside0.mk (blk_below (g := gb240) (o := .cells #[.bool true, .int .i64 a1_1] 75 (0, 0)) BK240.out hb); have n2_ := Aside0.mk (blk_below (g := gb241) (o := .cells #[.slice none 0 0, .slice none 0 0] 27 (0, 0)) BK241.out hb); have n3_ := Aside0.mk (below_step HB.out hb); have n4_ := Aside0.mk (hbox); have n5_ := Aside0.mk ((by rw [hg]; exact (below_size HB.out) : w.heap.size ≤ gb248)); have n6_ := Aside0.mk ((by rw [hg]; exact (below_size HB.out) : w.heap.size ≤ gb248)); have n7_ := Aside0.mk ((by rw [hg]; exact Nat.ne_of_lt (blk_lt (g := gb239) (o := .cells #[.slice A0_0 l0_0.length c0_0, .slice A0_1 l0_1.length c0_1] 27 (0, 0)) BK239.out) : gb239 ≠ gb248)); have n8_ := Aside0.mk ((by rw [hg]; exact Nat.ne_of_gt (blk_lt (g := gb239) (o := .cells #[.slice A0_0 l0_0.length c0_0, .slice A0_1 l0_1.length c0_1] 27 (0, 0)) BK239.out) : gb248 ≠ gb239)); have n9_ := Aside0.mk ((by rw [hg]; exact Nat.ne_of_lt (blk_lt (g := gb240) (o := .cells #[.bool true, .int .i64 a1_1] 75 (0, 0)) BK240.out) : gb240 ≠ gb248)); have n10_ := Aside0.mk ((by rw [hg]; exact Nat.ne_of_gt (blk_lt (g := gb240) (o := .cells #[.bool true, .int .i64 a1_1] 75 (0, 0)) BK240.out) : gb248 ≠ gb240)); have n11_ := Aside0.mk ((by rw [hg]; exact Nat.ne_of_lt (blk_lt (g := gb241) (o := .cells #[.slice none 0 0, .slice none 0 0] 27 (0, 0)) BK241.out) : gb241 ≠ gb248)); have n12_ := Aside0.mk ((by rw [hg]; exact Nat.ne_of_gt (blk_lt (g := gb241) (o := .cells #[.slice none 0 0, .slice none 0 0] 27 (0, 0)) BK241.out) : gb248 ≠ gb241)); clear BK239; clear BK240; clear BK241; clear HB; have BK239 := n0_; have BK240 := n1_; have BK241 := n2_; have HB := n3_; have BK248 := n4_; have GW248 := n5_; have GE248 := n6_; have NB239_248 := n7_; have NB248_239 := n8_; have NB240_248 := n9_; have NB248_240 := n10_; have NB241_248 := n11_; have NB248_241 := n12_; clear n0_ n1_ n2_ n3_ n4_ n5_ n6_ n7_ n8_ n9_ n10_ n11_ n12_; clear hb hbox hg
   refine hK.out _ _ ⟨(blk_cell BK239.out 0).trans rfl, (blk_cell BK239.out 1).trans rfl⟩ (fun hHeld => ?_)
   clear hK K
   refine norm_ (a' := ?_) ?_ ?_
   rotate_left; (show Act.put _ (some 5) _ = _; simp only [Act.put, List.setIfInBounds_toArray, List.set_cons_zero, List.set_cons_succ, i64_w, i32_w]; rfl)
   refine one_ (i := 2) (N := some 10) #[true, true, true, true, true, false, false, true, false] rfl rfl (one_of HT_.out (by kernel_rfl)) (by decide) (fun K hK => ?_)
   refine goes_ Try.func68 (by kernel_rfl) rfl #[.slice A0_0 l0_0.length c0_0] (by rfl) rfl rfl (by (try simp only [List.map_toArray, List.map_cons, List.map_nil]); first | done | rfl | (simp only [List.length_drop, List.length_take]; rfl)) ?_
   with_reducible refine (slices_Clone_int64_int64.calls _ _ l0_0 t242 _ ?side1 ?side2 A3.out).mono ?_
   (case side1 => exact (Kd.C_below HR0_0.out HB.out))
   (case side2 => exact HC0_0.out)
   rintro e w12 ⟨v243, rfl, ho0, hb⟩
   refine ⟨_, rfl, ?_⟩
   have n0_ := Aside0.mk (Kd.R_lower ho0 (below_size HB.out)); have n1_ := Aside0.mk (blk_below (g := gb239) (o := .cells #[.slice A0_0 l0_0.length c0_0, .slice A0_1 l0_1.length c0_1] 27 (0, 0)) BK239.out hb); have n2_ := Aside0.mk (blk_below (g := gb240) (o := .cells #[.bool true, .int .i64 a1_1] 75 (0, 0)) BK240.out hb); have n3_ := Aside0.mk (blk_below (g := gb241) (o := .cells #[.slice none 0 0, .slice none 0 0] 27 (0, 0)) BK241.out hb); have n4_ := Aside0.mk (blk_below (g := gb248) (o := .cells #[.slice none 0 0, .slice none 0 0] 27 (0, 0)) BK248.out hb); have n5_ := Aside0.mk (below_step HB.out hb); clear BK239; clear BK240; clear BK241; clear BK248; clear HB; have HO244 := n0_; have BK239 := n1_; have BK240 := n2_; have BK241 := n3_; have BK248 := n4_; have HB := n5_; clear n0_ n1_ n2_ n3_ n4_ n5_
   (try clear hb)
   (try clear hb2)
   (try clear hk)
   (try clear hi)
   (try clear ho0)
   refine hK.out _ _ ⟨(blk_cell BK239.out 0).trans rfl, (blk_cell BK239.out 1).trans rfl⟩ (fun hHeld => ?_)
   clear hK K
   refine norm_ (a' := ?_) ?_ ?_
   rotate_left; (show Act.put _ (some 10) _ = _; simp only [Act.put, List.setIfInBounds_toArray, List.set_cons_zero, List.set_cons_succ, i64_w, i32_w]; rfl)
   refine one_ (i := 5) (N := some 13) #[true, true, true, true, true, true, false, true, false] rfl rfl (one_of HT_.out (by kernel_rfl)) (by decide) (fun K hK => ?_)
   refine goes_ Try.func68 (by kernel_rfl) rfl #[.slice A0_1 l0_1.length c0_1] (by rfl) rfl rfl (by (try simp only [List.map_toArray, List.map_cons, List.map_nil]); first | done | rfl | (simp only [List.length_drop, List.length_take]; rfl)) ?_
   with_reducible refine (slices_Clone_int64_int64.calls _ _ l0_1 t245 _ ?side1 ?side2 A4.out).mono ?_
   (case side1 => exact (Kd.C_below HR0_1.out HB.out))
   (case side2 => exact HC0_1.out)
   rintro e w13 ⟨v246, rfl, ho0, hb⟩
   refine ⟨_, rfl, ?_⟩
   have n0_ := Aside0.mk (Kd.R_elder' HO244.out (Kd.R_base ho0) hb); have n1_ := Aside0.mk (Kd.R_lower (Kd.R_new' ho0 (Kd.R_lt HO244.out)) (below_size HB.out)); have n2_ := Aside0.mk (blk_below (g := gb239) (o := .cells #[.slice A0_0 l0_0.length c0_0, .slice A0_1 l0_1.length c0_1] 27 (0, 0)) BK239.out hb); have n3_ := Aside0.mk (blk_below (g := gb240) (o := .cells #[.bool true, .int .i64 a1_1] 75 (0, 0)) BK240.out hb); have n4_ := Aside0.mk (blk_below (g := gb241) (o := .cells #[.slice none 0 0, .slice none 0 0] 27 (0, 0)) BK241.out hb); have n5_ := Aside0.mk (blk_below (g := gb248) (o := .cells #[.slice none 0 0, .slice none 0 0] 27 (0, 0)) BK248.out hb); have n6_ := Aside0.mk (below_step HB.out hb); clear HO244; clear BK239; clear BK240; clear BK241; clear BK248; clear HB; have HO244 := n0_; have HO247 := n1_; have BK239 := n2_; have BK240 := n3_; have BK241 := n4_; have BK248 := n5_; have HB := n6_; clear n0_ n1_ n2_ n3_ n4_ n5_ n6_
   (try clear hb)
   (try clear hb2)
   (try clear hk)
   (try clear hi)
   (try clear ho0)
   obtain ⟨Ao14, co14, eo14⟩ := Kd.R_slice HO247.out
   (first | subst eo14 | (injection eo14 with f1_ f2_ f3_; have f4_ := f1_.symm; have f5_ := f3_.symm; clear f1_ f2_ f3_; subst f4_; subst f5_))
   obtain ⟨Ao15, co15, eo15⟩ := Kd.R_slice HO244.out
   (first | subst eo15 | (injection eo15 with f1_ f2_ f3_; have f4_ := f1_.symm; have f5_ := f3_.symm; clear f1_ f2_ f3_; subst f4_; subst f5_))
   refine hK.out _ _ ⟨(blk_cell BK239.out 0).trans rfl, (blk_cell BK239.out 1).trans rfl⟩ (fun hHeld => ?_)
   clear hK K
   refine norm_ (a' := ?_) ?_ ?_
   rotate_left; (show Act.put _ (some 13) _ = _; simp only [Act.put, List.setIfInBounds_toArray, List.set_cons_zero, List.set_cons_succ, i64_w, i32_w]; rfl)
   refine pure_ (i := 6) (N := some 14) (v := ?_) (a' := ?_) #[true, true, true, true, true, true, true, true, false] rfl rfl (any_of HT_.out (by kernel_rfl)) (fun _ _ _ h => h) (Or.inl ⟨by rfl, ?_⟩) ?_ ?_
   rotate_left; (intro w'; go_simp; with_reducible rfl); rotate_left; (simp only [Act.put, List.setIfInBounds_toArray, List.set_cons_zero, List.set_cons_succ, i64_w, i32_w]; rfl)
   exact norm_ (by simp only [putAll, Act.put, List.setIfInBounds_toArray, List.set_cons_zero, List.set_cons_succ]) (hCont (.slice Ao15 t242.length co15, .slice Ao14 t245.length co14, gb248) _ ⟨hHeld, (Kd.R_mono HO244.out (fun _ hk => hk.2)), (Kd.R_mono HO247.out (fun _ hk => hk.2)), BK239.out, BK240.out, BK241.out, BK248.out, GW248.out, GE248.out, NB239_248.out, NB248_239.out, NB240_248.out, NB248_240.out, NB241_248.out, NB248_241.out, HB.out⟩)
 rintro ⟨v243, v246, gb248⟩ w16 ⟨hS_, h0_, h1_, h2_, h3_, h4_, h5_, h6_, h7_, h8_, h9_, h10_, h11_, h12_, h13_, h14_⟩
 have n0_ : Aside0 (Kd.R (Kd.int .i64) 2 w16 w.heap.size (fun k_ => some k_ ≠ (v246 : Value).ownBlock) v243 t242) := ⟨h0_⟩
 have n1_ : Aside0 (Kd.R (Kd.int .i64) 2 w16 w.heap.size (fun k_ => some k_ ≠ (v243 : Value).ownBlock) v246 t245) := ⟨h1_⟩
 have n2_ : Aside0 (w16.heap[gb239]? = some (.cells #[.slice A0_0 l0_0.length c0_0, .slice A0_1 l0_1.length c0_1] 27 (0, 0))) := ⟨h2_⟩
 have n3_ : Aside0 (w16.heap[gb240]? = some (.cells #[.bool true, .int .i64 a1_1] 75 (0, 0))) := ⟨h3_⟩
 have n4_ : Aside0 (w16.heap[gb241]? = some (.cells #[.slice none 0 0, .slice none 0 0] 27 (0, 0))) := ⟨h4_⟩
 have n5_ : Aside0 (w16.heap[gb248]? = some (.cells #[.slice none 0 0, .slice none 0 0] 27 (0, 0))) := ⟨h5_⟩
 have n6_ : Aside0 (w.heap.size ≤ gb248) := ⟨h6_⟩
 have n7_ : Aside0 (w.heap.size ≤ gb248) := ⟨h7_⟩
 have n8_ : Aside0 (gb239 ≠ gb248) := ⟨h8_⟩
 have n9_ : Aside0 (gb248 ≠ gb239) := ⟨h9_⟩
 have n10_ : Aside0 (gb240 ≠ gb248) := ⟨h10_⟩
 have n11_ : Aside0 (gb248 ≠ gb240) := ⟨h11_⟩
 have n12_ : Aside0 (gb241 ≠ gb248) := ⟨h12_⟩
 have n13_ : Aside0 (gb248 ≠ gb241) := ⟨h13_⟩
 have n14_ : Aside0 (Below w.heap.size w w16) := ⟨h14_⟩
 clear BK239; clear BK240; clear BK241; clear HB; clear h0_ h1_ h2_ h3_ h4_ h5_ h6_ h7_ h8_ h9_ h10_ h11_ h12_ h13_ h14_; have HO244 := n0_; have HO247 := n1_; have BK239 := n2_; have BK240 := n3_; have BK241 := n4_; have BK248 := n5_; have GW248 := n6_; have GE248 := n7_; have NB239_248 := n8_; have NB248_239 := n9_; have NB240_248 := n10_; have NB248_240 := n11_; have NB241_248 := n12_; have NB248_241 := n13_; have HB := n14_; clear n0_ n1_ n2_ n3_ n4_ n5_ n6_ n7_ n8_ n9_ n10_ n11_ n12_ n13_ n14_
 have hHeld : w16.cell? ⟨gb239, 0, none⟩ = some (.slice A0_0 l0_0.length c0_0) ∧ w16.cell? ⟨gb239, 1, none⟩ = some (.slice A0_1 l0_1.length c0_1) := hS_
 obtain ⟨Ao17, co17, eo17⟩ := Kd.R_slice HO247.out
 (first | subst eo17 | (injection eo17 with f1_ f2_ f3_; have f4_ := f1_.symm; have f5_ := f3_.symm; clear f1_ f2_ f3_; subst f4_; subst f5_))
 obtain ⟨Ao18, co18, eo18⟩ := Kd.R_slice HO244.out
 (first | subst eo18 | (injection eo18 with f1_ f2_ f3_; have f4_ := f1_.symm; have f5_ := f3_.symm; clear f1_ f2_ f3_; subst f4_; subst f5_))
 refine norm_ (a' := ?_) ?_ ?_
 rotate_left
 ·simp only [putAll, Act.put, List.setIfInBounds_toArray, List.set_cons_zero, List.set_cons_succ]
  rfl
 refine one_ (i := 8) (N := none) #[true, true, true, true, true, true, true, true, true] rfl rfl (one_of HT_.out (by kernel_rfl)) (by decide) (fun K hK => ?_)
 have hs19 : w16.cell? ⟨gb248, 0, none⟩ = some (.slice none 0 0) := (blk_cell BK248.out 0).trans rfl
 have hfs19 := blk_frozen BK248.out 0
 have hns19_0 := NB239_248.out
 have hns19_1 := NB240_248.out
 have hns19_2 := NB241_248.out
 have hms19_0 := NB248_239.out
 have hms19_1 := NB248_240.out
 have hms19_2 := NB248_241.out
 have hs20 : w16.cell? ⟨gb248, 1, none⟩ = some (.slice none 0 0) := (blk_cell BK248.out 1).trans rfl
 have hfs20 := blk_frozen BK248.out 1
 have hns20_0 := NB239_248.out
 have hns20_1 := NB240_248.out
 have hns20_2 := NB241_248.out
 have hms20_0 := NB248_239.out
 have hms20_1 := NB248_240.out
 have hms20_2 := NB248_241.out
 refine skip_ (w1 := ?_) (by rfl) rfl ?_ ?_
 rotate_left
 ·go_simp
  rfl
 refine hK.out _ _ ⟨((cell_far (p := ⟨gb248, _, none⟩) NB239_248.out _).trans (((cell_far (p := ⟨gb248, _, none⟩) NB239_248.out _).trans (hHeld.1)))), ((cell_far (p := ⟨gb248, _, none⟩) NB239_248.out _).trans (((cell_far (p := ⟨gb248, _, none⟩) NB239_248.out _).trans (hHeld.2))))⟩ (fun hHeld => ?_)
 clear hK K
 refine done_ (done_of HT_.out (by kernel_rfl)) ?_
 have hq0_ : w16.cell? ⟨gb240, 0, none⟩ = some (.bool true) := (blk_cell BK240.out 0).trans rfl
 try go_wp2
 clear hq0_
 have n0_ : Aside0 (Kd.R (Kd.int .i64) 2 ((w16.setCell ⟨gb248, 0, none⟩ (.slice Ao18 t242.length co18)).setCell ⟨gb248, 1, none⟩ (.slice Ao17 t245.length co17)) w.heap.size (fun k_ => some k_ ≠ (.slice Ao17 t245.length co17 : Value).ownBlock) (.slice Ao18 t242.length co18) t242) := ⟨by exact Kd.R_mono (Kd.R_far (p := ⟨gb248, 1, none⟩) (Kd.R_far (p := ⟨gb248, 0, none⟩) (Kd.R_types HO244.out BK248.out (by decide)) (fun _ hk => hk.2) (.slice Ao18 t242.length co18)) (fun _ hk => hk.2) (.slice Ao17 t245.length co17)) (fun _ hk => hk.1)⟩
 have n1_ : Aside0 (Kd.R (Kd.int .i64) 2 ((w16.setCell ⟨gb248, 0, none⟩ (.slice Ao18 t242.length co18)).setCell ⟨gb248, 1, none⟩ (.slice Ao17 t245.length co17)) w.heap.size (fun k_ => some k_ ≠ (.slice Ao18 t242.length co18 : Value).ownBlock) (.slice Ao17 t245.length co17) t245) := ⟨by exact Kd.R_mono (Kd.R_far (p := ⟨gb248, 1, none⟩) (Kd.R_far (p := ⟨gb248, 0, none⟩) (Kd.R_types HO247.out BK248.out (by decide)) (fun _ hk => hk.2) (.slice Ao18 t242.length co18)) (fun _ hk => hk.2) (.slice Ao17 t245.length co17)) (fun _ hk => hk.1)⟩
 have n2_ : Aside0 (((w16.setCell ⟨gb248, 0, none⟩ (.slice Ao18 t242.length co18)).setCell ⟨gb248, 1, none⟩ (.slice Ao17 t245.length co17)).heap[gb239]? = some (.cells #[.slice A0_0 l0_0.length c0_0, .slice A0_1 l0_1.length c0_1] 27 (0, 0))) := ⟨by refine blk_far ?_ NB239_248.out _; refine blk_far ?_ NB239_248.out _; exact BK239.out⟩
 have n3_ : Aside0 (((w16.setCell ⟨gb248, 0, none⟩ (.slice Ao18 t242.length co18)).setCell ⟨gb248, 1, none⟩ (.slice Ao17 t245.length co17)).heap[gb240]? = some (.cells #[.bool true, .int .i64 a1_1] 75 (0, 0))) := ⟨by refine blk_far ?_ NB240_248.out _; refine blk_far ?_ NB240_248.out _; exact BK240.out⟩
 have n4_ : Aside0 (((w16.setCell ⟨gb248, 0, none⟩ (.slice Ao18 t242.length co18)).setCell ⟨gb248, 1, none⟩ (.slice Ao17 t245.length co17)).heap[gb241]? = some (.cells #[.slice none 0 0, .slice none 0 0] 27 (0, 0))) := ⟨by refine blk_far ?_ NB241_248.out _; refine blk_far ?_ NB241_248.out _; exact BK241.out⟩
 have n5_ : Aside0 (((w16.setCell ⟨gb248, 0, none⟩ (.slice Ao18 t242.length co18)).setCell ⟨gb248, 1, none⟩ (.slice Ao17 t245.length co17)).heap[gb248]? = some (.cells #[.slice Ao18 t242.length co18, .slice Ao17 t245.length co17] 27 (0, 0))) := ⟨by refine blk_put (cs := #[.slice Ao18 t242.length co18, .slice none 0 0]) ?_ 1 _ rfl; refine blk_put (cs := #[.slice none 0 0, .slice none 0 0]) ?_ 0 _ rfl; exact BK248.out⟩
 have n6_ : Aside0 (Below w.heap.size w ((w16.setCell ⟨gb248, 0, none⟩ (.slice Ao18 t242.length co18)).setCell ⟨gb248, 1, none⟩ (.slice Ao17 t245.length co17))) := ⟨by repeat (first | (with_reducible first | exact HB.out | apply below_alloc | apply pw_below_drewN | apply below_drew1 | refine below_set ?_ GE239.out | refine below_set ?_ GE240.out | refine below_set ?_ GE241.out | refine below_set ?_ GE248.out) | exact HB.out)⟩
 (try clear HO244)
 (try clear HO247)
 (try clear BK239)
 (try clear BK240)
 (try clear BK241)
 (try clear BK248)
 (try clear HB)
 generalize ((w16.setCell ⟨gb248, 0, none⟩ (.slice Ao18 t242.length co18)).setCell ⟨gb248, 1, none⟩ (.slice Ao17 t245.length co17)) = w21 at n0_ n1_ n2_ n3_ n4_ n5_ n6_ ⊢
 have HO244 := n0_; have HO247 := n1_; have BK239 := n2_; have BK240 := n3_; have BK241 := n4_; have BK248 := n5_; have HB := n6_; clear n0_ n1_ n2_ n3_ n4_ n5_ n6_; have n0_ := Aside0.mk (Kd.R_drew HO244.out); have n1_ := Aside0.mk (Kd.R_drew HO247.out); have n2_ := Aside0.mk (blk_drew BK239.out); have n3_ := Aside0.mk (blk_drew BK240.out); have n4_ := Aside0.mk (blk_drew BK241.out); have n5_ := Aside0.mk (blk_drew BK248.out); have n6_ := Aside0.mk (below_drew1 HB.out); clear HO244; clear HO247; clear BK239; clear BK240; clear BK241; clear BK248; clear HB; have HO244 := n0_; have HO247 := n1_; have BK239 := n2_; have BK240 := n3_; have BK241 := n4_; have BK248 := n5_; have HB := n6_; clear n0_ n1_ n2_ n3_ n4_ n5_ n6_
 refine start_ (n := 7) (S := fun w' => w'.cell? ⟨gb248, 0, none⟩ = some (.slice Ao18 t242.length co18) ∧ w'.cell? ⟨gb248, 1, none⟩ = some (.slice Ao17 t245.length co17) ∧ w'.cell? ⟨gb240, 0, none⟩ = some (.bool true) ∧ w'.cell? ⟨gb240, 1, none⟩ = some (.int .i64 a1_1)) (ds := []) #[false, false, false, false, false, false, false] (by kernel_rfl) rfl rfl ⟨(blk_cell BK248.out 0).trans rfl, (blk_cell BK248.out 1).trans rfl, (blk_cell BK240.out 0).trans rfl, (blk_cell BK240.out 1).trans rfl⟩ (fun hHeld => ?_)
 generalize w21.drew = w22 at HO244 HO247 BK239 BK240 BK241 BK248 HB hHeld ⊢
 refine pure_ (i := 0) (N := some 19) (v := ?_) (a' := ?_) #[true, false, false, false, false, false, false] rfl rfl (by kernel_rfl) (fun _ _ _ h => h) (Or.inl ⟨by rfl, ?_⟩) ?_ ?_
 rotate_left; (intro w'; go_simp; with_reducible rfl); rotate_left; (simp only [Act.put, List.setIfInBounds_toArray, List.set_cons_zero, List.set_cons_succ, i64_w, i32_w]; rfl)
 refine pure_ (i := 1) (N := some 20) (v := ?_) (a' := ?_) #[true, true, false, false, false, false, false] rfl rfl (by kernel_rfl) (fun _ _ _ h => h) (Or.inl ⟨by rfl, ?_⟩) ?_ ?_
 rotate_left; (intro w'; go_simp; with_reducible rfl); rotate_left; (simp only [Act.put, List.setIfInBounds_toArray, List.set_cons_zero, List.set_cons_succ, i64_w, i32_w]; rfl)
 refine pure_ (i := 3) (N := some 22) (v := ?_) (a' := ?_) #[true, true, false, true, false, false, false] rfl rfl (by kernel_rfl) (fun _ _ _ h => h) (Or.inl ⟨by rfl, ?_⟩) ?_ ?_
 rotate_left; (intro w'; go_simp; with_reducible rfl); rotate_left; (simp only [Act.put, List.setIfInBounds_toArray, List.set_cons_zero, List.set_cons_succ, i64_w, i32_w]; rfl)
 refine take_ (i := 2) (N := some 21) (v := ?_) (a' := ?_) #[true, true, true, true, false, false, false] rfl rfl (by kernel_rfl) (fun _ _ _ h => h) (Or.inl ⟨by rfl, ?_⟩) hHeld ?_ ?_
 rotate_left; (rintro w' ⟨s0, s1, s2, s3⟩; go_simp; with_reducible rfl); rotate_left; (simp only [Act.put, List.setIfInBounds_toArray, List.set_cons_zero, List.set_cons_succ, i64_w, i32_w]; rfl)
 refine take_ (i := 4) (N := some 23) (v := ?_) (a' := ?_) #[true, true, true, true, true, false, false] rfl rfl (by kernel_rfl) (fun _ _ _ h => h) (Or.inl ⟨by rfl, ?_⟩) hHeld ?_ ?_
 rotate_left; (rintro w' ⟨s0, s1, s2, s3⟩; go_simp; with_reducible rfl); rotate_left; (simp only [Act.put, List.setIfInBounds_toArray, List.set_cons_zero, List.set_cons_succ, i64_w, i32_w]; rfl)
 refine one_ (i := 5) (N := some 24) #[true, true, true, true, true, true, false] rfl rfl (by kernel_rfl) (by decide) (fun K hK => ?_)
 refine goes_ Try.func102 (by kernel_rfl) rfl #[.slice Ao17 t245.length co17, .int .i64 a1_1] (by rfl) rfl rfl (by (try simp only [List.map_toArray, List.map_cons, List.map_nil]); first | done | rfl | (simp only [List.length_drop, List.length_take]; rfl)) ?_
 with_reducible refine (slices_Index_int64_int64.calls k _ _ t245 a1_1 (j_ : Int) _ ?side1 ?side2 A5.out).mono ?_
 (case side1 => exact (Kd.R_reads' HO247.out).2.2)
 (case side2 => exact (Kd.R_reads' HO247.out).2.1)
 rintro e w' ⟨rfl, ⟨nd, rfl⟩⟩
 refine ⟨_, rfl, ?_⟩
 refine hK.out _ _ ⟨(blk_cell BK248.out 0).trans rfl, (blk_cell BK248.out 1).trans rfl, (blk_cell BK240.out 0).trans rfl, (blk_cell BK240.out 1).trans rfl⟩ (fun hHeld => ?_)
 clear hK K
 refine norm_ (a' := ?_) ?_ ?_
 rotate_left; (show Act.put _ (some 24) _ = _; simp only [Act.put, List.setIfInBounds_toArray, List.set_cons_zero, List.set_cons_succ, i64_w, i32_w]; rfl)
 refine pure_ (i := 6) (N := some 7) (v := ?_) (a' := ?_) #[true, true, true, true, true, true, true] rfl rfl (by kernel_rfl) (fun _ _ _ h => h) (Or.inl ⟨by rfl, ?_⟩) ?_ ?_
 rotate_left; (intro w'; go_simp; with_reducible rfl); rotate_left; (simp only [Act.put, List.setIfInBounds_toArray, List.set_cons_zero, List.set_cons_succ, i64_w, i32_w]; rfl)
 refine done_ (by kernel_rfl) ?_
 have hnb23 := NB248_239.out
 have hnc23 := NB239_248.out
 have hnb24 := NB248_240.out
 have hnc24 := NB240_248.out
 have hnb25 := NB248_241.out
 have hnc25 := NB241_248.out
 have hcz26_0 : w22.cell? ⟨gb248, 0, none⟩ = some (.slice Ao18 t242.length co18) := (blk_cell BK248.out 0).trans rfl
 have hcz26_1 : w22.cell? ⟨gb248, 1, none⟩ = some (.slice Ao17 t245.length co17) := (blk_cell BK248.out 1).trans rfl
 have hfz26_0 := blk_frozen BK248.out 0
 have hfz26_1 := blk_frozen BK248.out 1
 have hwj_ : wrap64 ((j_ : Int) + 1) = ((j_ + 1 : Nat) : Int) := by have h1_ := HJ.out; have h2_ := HN.out; unfold wrap64; omega
 have hwk_ : IntKind.i64.wrap ((j_ : Int) + 1) = ((j_ + 1 : Nat) : Int) := (i64_w _).trans hwj_
 go_wp2_with (first | ((with_reducible refine gate_callee (f := 103) rfl ?_); refine goesL_ (some 32) rfl rfl Try.func103 (by kernel_rfl) rfl #[.slice Ao17 t245.length co17, .int .i64 (j_ : Int), .int .i64 ((j_ + 1 : Nat) : Int)] rfl (by (try simp only [List.map_toArray, List.map_cons, List.map_nil]); first | done | rfl) ?_; (with_reducible refine (Delete.calls w.heap.size _ _ t245 j_ HJ.out _ ?side1 (Kd.R_drewN HO247.out nd) HN.out).mono ?_); (case side1 => exact HB.out.size); rintro e w27 ⟨v251, rfl, ho0, hb, hg, hown⟩; refine ⟨_, rfl, ?_⟩; rw [← HT6.out] at ho0; obtain ⟨Ao28, co28, e_⟩ := Kd.R_slice ho0; subst e_; have n0_ := Aside0.mk (Kd.R_mono (ok' := fun k_ => some k_ ≠ (.slice Ao28 t250.length co28 : Value).ownBlock) (Kd.R_grown (Kd.R_drewN HO244.out nd) hg (fun _ hk => hk)) (fun _ hk => by rw [hown]; exact hk)); have n1_ := Aside0.mk (blk_grown (blk_drewN BK239.out nd) hg (Kd.R_ne (Kd.R_drewN HO247.out nd) (blk_drewN BK239.out nd) (by decide))); have n2_ := Aside0.mk (blk_grown (blk_drewN BK240.out nd) hg (Kd.R_ne (Kd.R_drewN HO247.out nd) (blk_drewN BK240.out nd) (by decide))); have n3_ := Aside0.mk (blk_grown (blk_drewN BK241.out nd) hg (Kd.R_ne (Kd.R_drewN HO247.out nd) (blk_drewN BK241.out nd) (by decide))); have n4_ := Aside0.mk (blk_grown (blk_drewN BK248.out nd) hg (Kd.R_ne (Kd.R_drewN HO247.out nd) (blk_drewN BK248.out nd) (by decide))); have n5_ := Aside0.mk ((pw_below_drewN HB.out nd).trans hb); have HO252 := Aside0.mk ho0; clear HO247 HO244 BK239 BK240 BK241 BK248 HB; have HO244 := n0_; have BK239 := n1_; have BK240 := n2_; have BK241 := n3_; have BK248 := n4_; have HB := n5_; clear n0_ n1_ n2_ n3_ n4_ n5_ hb hg hown ho0; have hcz29_0 : w27.cell? ⟨gb248, 0, none⟩ = some (.slice Ao18 t242.length co18) := (blk_cell BK248.out 0).trans rfl; have hcz29_1 : w27.cell? ⟨gb248, 1, none⟩ = some (.slice Ao17 t245.length co17) := (blk_cell BK248.out 1).trans rfl; have hfz29_0 := blk_frozen BK248.out 0; have hfz29_1 := blk_frozen BK248.out 1; have hnb30 := NB241_239.out; have hnc30 := NB239_241.out; have hnb31 := NB241_240.out; have hnc31 := NB240_241.out; have hcz32_0 : w27.cell? ⟨gb241, 0, none⟩ = some (.slice none 0 0) := (blk_cell BK241.out 0).trans rfl; have hcz32_1 : w27.cell? ⟨gb241, 1, none⟩ = some (.slice none 0 0) := (blk_cell BK241.out 1).trans rfl; have hfz32_0 := blk_frozen BK241.out 0; have hfz32_1 := blk_frozen BK241.out 1))
 refine bodyPost_ret (results_cell_row rfl _ _ gb241 27 #[.slice Ao18 t242.length co18, .slice Ao28 t250.length co28] (0, 0) _ rfl (by refine blk_put (cs := #[.slice Ao18 t242.length co18, .slice none 0 0]) ?_ 1 _ rfl; refine blk_put (cs := #[.slice none 0 0, .slice none 0 0]) ?_ 0 _ rfl; refine blk_far ?_ NB241_248.out _; exact BK241.out) Try.underlying27 rfl (by kernel_rfl)) rfl ?_
 exact ⟨_, _, rfl, Kd.R_mono (Kd.R_far (p := ⟨gb241, 1, none⟩) (Kd.R_far (p := ⟨gb241, 0, none⟩) (Kd.R_far (p := ⟨gb248, 1, none⟩) (Kd.R_types (Kd.R_types HO244.out BK248.out (by decide)) BK241.out (by decide)) (fun _ hk => hk.1.2) (.slice Ao28 t250.length co28)) (fun _ hk => hk.2) (.slice Ao18 t242.length co18)) (fun _ hk => hk.2) (.slice Ao28 t250.length co28)) (fun _ hk => hk.1.1), Kd.R_mono (Kd.R_far (p := ⟨gb241, 1, none⟩) (Kd.R_far (p := ⟨gb241, 0, none⟩) (Kd.R_far (p := ⟨gb248, 1, none⟩) (Kd.R_types (Kd.R_types HO252.out BK248.out (by decide)) BK241.out (by decide)) (fun _ hk => hk.1.2) (.slice Ao28 t250.length co28)) (fun _ hk => hk.2) (.slice Ao18 t242.length co18)) (fun _ hk => hk.2) (.slice Ao28 t250.length co28)) (fun _ hk => hk.1.1), by repeat (first | (with_reducible first | exact HB.out | apply below_alloc | apply pw_below_drewN | apply below_drew1 | refine below_set ?_ GE239.out | refine below_set ?_ GE240.out | refine below_set ?_ GE241.out | refine below_set ?_ GE248.out) | exact HB.out)⟩
theorem impl_Ending_without.calls (k : Nat) (A0_0 : Option Addr) (c0_0 : Nat) (l0_0 : List Int) (A0_1 : Option Addr) (c0_1 : Nat) (l0_1 : List Int) (a1_0 : Bool) (a1_1 : Int) (r1 : List Int) (r2 : List Int) (w : World) (hr0_0 : Kd.C (Kd.int .i64) w A0_0 l0_0.length l0_0) (hc0_0 : l0_0.length ≤ c0_0) (hr0_1 : Kd.C (Kd.int .i64) w A0_1 l0_1.length l0_1) (hc0_1 : l0_1.length ≤ c0_1) (h : impl_Ending_without.f k l0_0 l0_1 a1_0 a1_1 = some (r1, r2)) :
  Calls Try.prog 74 #[.agg #[.slice A0_0 l0_0.length c0_0, .slice A0_1 l0_1.length c0_1], .agg #[.bool a1_0, .int .i64 a1_1]] w fun e w' => ∃ v0_ v1_ : Value, e = .returned (.agg #[v0_, v1_]) ∧ Kd.R (Kd.int .i64) 2 w' w.heap.size (fun k_ => some k_ ≠ (v1_ : Value).ownBlock) v0_ r1 ∧ Kd.R (Kd.int .i64) 2 w' w.heap.size (fun k_ => some k_ ≠ (v0_ : Value).ownBlock) v1_ r2 ∧ Below w.heap.size w w' := by
 cases a1_0 with
 | false => exact without_false.calls k A0_0 c0_0 l0_0 A0_1 c0_1 l0_1 a1_1 r1 r2 w hr0_0 hc0_0 hr0_1 hc0_1 (by unfold impl_Ending_without.f at h; rw [if_neg (by decide)] at h; exact h)
 | true => exact without_true.calls k A0_0 c0_0 l0_0 A0_1 c0_1 l0_1 a1_1 r1 r2 w hr0_0 hc0_0 hr0_1 hc0_1 (by unfold impl_Ending_without.f at h; rw [if_pos rfl] at h; exact h)

end Go.Proofs.Ytkbjoiebaphdoaa.PX
