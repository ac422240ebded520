/- Part 4 of the texts under the row of FnExactParseGame (no condition). -/
import Derived.Lib.AppendIntMem
import Derived.Lib.ParseIntBTie
import Derived.Lib.SmallJoins
import Derived.Laws.Strings
import Derived.Test.YtcjfofcgbpbdmaaDoorPk3FnExactParseGame
/- The program's number: the number of a text that is a decimal numeral without further signs, up to a bound (conditions: a text shorter than 4294967281 bytes; what the library's variables hold). -/
namespace Go.Proofs.YtcjfofcgbpbdmaaDoor.PX
open Go.RowKit Go.Proofs.YtcjfofcgbpbdmaaDoorW.PrintWords Go.Proofs.YtcjfofcgbpbdmaaDoorW.PrintLast Go.Proofs.YtcjfofcgbpbdmaaDoorW.PrintMore
attribute [local go_sem] max2_int min2_int max_two min_two max_three min_three max_four min_four
set_option linter.unusedVariables false
set_option linter.unusedSimpArgs false
def numOf (s : List UInt8) (most : Int) : Int × Bool := match Lib.parseIntB 64 s with
  | .ok n => if Lib.itoa n = s then (if (decide (0 ≤ n) && decide (n ≤ most)) = true then (n, true) else (0, false)) else (0, false)
  | _ => (0, false)
def impl_number.f (a0 : ByteArray) (a1 : Int) : Option (Int × Bool) := if a0.size < 4294967281 then some (numOf a0.data.toList a1) else none
theorem parse_ok (a0 : ByteArray) (n : Int) (w : World) (hs : a0.size < 4294967281) (h : Lib.parseIntB 64 a0.data.toList = .ok n) : Calls Tryd.prog 45 #[.string a0, .int .i64 10, .int .i64 64] w fun e w' => e = .returned (.tuple #[.int .i64 n, .nilIface]) ∧ Below w.heap.size w w' := by
  refine (Tryd.strconv_ParseInt_10_at64_ok a0 (by omega) n h w).mono ?_
  rintro e w' ⟨rfl, rfl | ⟨t, rfl⟩⟩
  · exact ⟨rfl, Below.refl _ _⟩
  · exact ⟨rfl, bytes_below (Below.refl _ _) (Nat.le_refl _) _ t⟩
theorem parse_bad (a0 : ByteArray) (w : World) (hs : a0.size < 4294967281) (h : ∀ n, Lib.parseIntB 64 a0.data.toList ≠ .ok n) (hG : Good w) : Calls Tryd.prog 45 #[.string a0, .int .i64 10, .int .i64 64] w fun e w' => ∃ (z : Int) (u : TypeId) (N : Nat), e = .returned (.tuple #[.int .i64 z, .iface u (.pointer (some ⟨N, 0, none⟩))]) ∧ Below w.heap.size w w' := by
  cases hp : Lib.parseIntB 64 a0.data.toList
  · exact absurd hp (h _)
  · obtain ⟨tp, p, hv⟩ := hG.syn
    refine (Tryd.strconv_ParseInt_10_at64_syntax_var a0 (by omega) hp tp p w hv).mono ?_
    rintro e w' ⟨N, rfl, _, _, hb⟩
    exact ⟨_, _, N, rfl, hb⟩
  · obtain ⟨tp, p, hv⟩ := hG.rng
    refine (Tryd.strconv_ParseInt_10_at64_range_var a0 (by omega) hp tp p w hv).mono ?_
    rintro e w' ⟨N, rfl, _, _, hb⟩
    exact ⟨_, _, N, rfl, hb⟩
theorem parse_bounds {l : List UInt8} {n : Int} (h : Lib.parseIntB 64 l = .ok n) : -9223372036854775808 ≤ n ∧ n ≤ 9223372036854775807 := by
  have := Lib.parseIntB_bounds h
  omega
theorem within_val (n a b : Int) : impl_within.f n a b = some (decide (a ≤ n) && decide (n ≤ b)) := by
  unfold impl_within.f
  by_cases h : a ≤ n <;> simp [h]
theorem format_any (n : Int) (w : World) (h0 : -9223372036854775808 ≤ n) (h1 : n ≤ 9223372036854775807) (hG : Good w) : Calls Tryd.prog 56 #[.int .i64 n, .int .i64 10] w fun e w' => e = .returned (.string ⟨(Lib.itoa n).toArray⟩) ∧ Below w.heap.size w w' := by
  refine (Tryd.strconv_FormatInt_10 n h0 h1 w hG.tab).mono ?_
  rintro e w' ⟨rfl, k, os, rfl⟩
  exact ⟨rfl, Lib.below_grow _ _ (Nat.le_refl _) k os⟩
set_option maxHeartbeats 4000000 in
theorem decimal_any (n : Int) (w : World) (h0 : -9223372036854775808 ≤ n) (h1 : n ≤ 9223372036854775807) (hG : Good w) : Calls Tryd.prog 46 #[.int .i64 n] w fun e w' => e = .returned (.string ⟨(Lib.itoa n).toArray⟩) ∧ Below w.heap.size w w' := by
  have HB := Aside0.mk (Below.refl w.heap.size w)
  have HG := Aside0.mk hG
  clear hG
  go_enter Tryd.func46, Tryd.ntmps46
  go_wp2_with (first | ((with_reducible refine gate_dst (N := 4) rfl ?_); (try (refine gate_guard (by rfl) ?_; dsimp only)); refine goesL_ (some 4) rfl rfl Tryd.func56 (by kernel_rfl) rfl #[.int .i64 n, .int .i64 10] rfl (by (try simp only [List.map_toArray, List.map_cons, List.map_nil]); first | done | rfl) ?_; (refine (format_any n _ h0 h1 (HG.out.below HB.out)).mono ?_); rintro e w2 ⟨rfl, hb⟩; refine ⟨_, rfl, ?_⟩; have n0_ := Aside0.mk (below_step (by repeat (first | (with_reducible first | exact HB.out | apply below_alloc | apply pw_below_drewN | apply below_drew1) | exact HB.out)) hb); clear HB hb; have HB := n0_; clear n0_))
  go_ret
  exact ⟨rfl, HB.out⟩
set_option maxHeartbeats 8000000 in
set_option maxRecDepth 100000 in
theorem impl_number.calls (a0 : ByteArray) (a1 : Int) (r1 : Int) (r2 : Bool) (w : World) (h : impl_number.f a0 a1 = some (r1, r2)) (hG : Good w) :
    Calls Tryd.prog 33 #[.string a0, .int .i64 a1] w fun e w' => e = .returned (.tuple #[.int .i64 r1, .bool r2]) ∧ Below w.heap.size w w' := by
  unfold impl_number.f at h
  split at h
  rotate_left
  · cases h
  rename_i hs
  have h' := Option.some.inj h
  clear h
  have HS := Aside0.mk hs
  clear hs
  have HB := Aside0.mk (Below.refl w.heap.size w)
  have HG := Aside0.mk hG
  clear hG
  unfold numOf at h'
  by_cases hp : ∃ n, Lib.parseIntB 64 a0.data.toList = .ok n
  · obtain ⟨n, hp⟩ := hp
    rw [hp] at h'
    simp only at h'
    have HP := Aside0.mk hp
    have HR := Aside0.mk (show -9223372036854775808 ≤ n ∧ n ≤ 9223372036854775807 from parse_bounds hp)
    clear hp
    by_cases he : Lib.itoa n = a0.data.toList
    · rw [if_pos he] at h'
      have HE := Aside0.mk (show (⟨(Lib.itoa n).toArray⟩ : ByteArray) = a0 by rw [he])
      clear he
      by_cases hw : (decide (0 ≤ n) && decide (n ≤ a1)) = true
      · rw [if_pos hw] at h'
        simp only [Prod.mk.injEq] at h'
        obtain ⟨rfl, rfl⟩ := h'
        have HW := Aside0.mk (show impl_within.f n 0 a1 = some true by rw [within_val, hw])
        clear hw
        go_enter Tryd.func33, Tryd.ntmps33
        go_wp2_with (first | ((with_reducible refine gate_dst (N := 10) rfl ?_); (try (refine gate_guard (by rfl) ?_; dsimp only)); refine goesL_ (some 10) rfl rfl Tryd.func45 (by kernel_rfl) rfl #[.string a0, .int .i64 10, .int .i64 64] rfl (by (try simp only [List.map_toArray, List.map_cons, List.map_nil]); first | done | rfl) ?_; (refine (parse_ok a0 n _ HS.out HP.out).mono ?_); rintro e w2 ⟨rfl, hb⟩; refine ⟨_, rfl, ?_⟩; have n0_ := Aside0.mk (below_step (by repeat (first | (with_reducible first | exact HB.out | apply below_alloc | apply pw_below_drewN | apply below_drew1) | exact HB.out)) hb); clear HB hb; have HB := n0_; clear n0_) | ((with_reducible refine gate_dst (N := 17) rfl ?_); (try (refine gate_guard (by rfl) ?_; dsimp only)); refine goesL_ (some 17) rfl rfl Tryd.func46 (by kernel_rfl) rfl #[.int .i64 n] rfl (by (try simp only [List.map_toArray, List.map_cons, List.map_nil]); first | done | rfl) ?_; (refine (decimal_any n _ HR.out.1 HR.out.2 (HG.out.below HB.out)).mono ?_); rintro e w3 ⟨rfl, hb⟩; refine ⟨_, rfl, ?_⟩; have n0_ := Aside0.mk (below_step (by repeat (first | (with_reducible first | exact HB.out | apply below_alloc | apply pw_below_drewN | apply below_drew1) | exact HB.out)) hb); clear HB hb; have HB := n0_; clear n0_; (try rw [HE.out])) | ((with_reducible refine gate_dst (N := 24) rfl ?_); (try (refine gate_guard (by rfl) ?_; dsimp only)); refine goesL_ (some 24) rfl rfl Tryd.func36 (by kernel_rfl) rfl #[.int .i64 n, .int .i64 0, .int .i64 a1] rfl (by (try simp only [List.map_toArray, List.map_cons, List.map_nil]); first | done | rfl) ?_; (refine (impl_within.calls n 0 a1 true _ HW.out).mono ?_); rintro e w4 ⟨rfl, ⟨nd, rfl⟩⟩; refine ⟨_, rfl, ?_⟩))
        go_ret2
        exact ⟨rfl, by repeat (first | exact HB.out | apply pw_below_drewN | apply below_drew1)⟩
      · rw [if_neg hw] at h'
        simp only [Prod.mk.injEq] at h'
        obtain ⟨rfl, rfl⟩ := h'
        have HW := Aside0.mk (show impl_within.f n 0 a1 = some false by rw [within_val, Bool.eq_false_iff.2 hw])
        clear hw
        go_enter Tryd.func33, Tryd.ntmps33
        go_wp2_with (first | ((with_reducible refine gate_dst (N := 10) rfl ?_); (try (refine gate_guard (by rfl) ?_; dsimp only)); refine goesL_ (some 10) rfl rfl Tryd.func45 (by kernel_rfl) rfl #[.string a0, .int .i64 10, .int .i64 64] rfl (by (try simp only [List.map_toArray, List.map_cons, List.map_nil]); first | done | rfl) ?_; (refine (parse_ok a0 n _ HS.out HP.out).mono ?_); rintro e w2 ⟨rfl, hb⟩; refine ⟨_, rfl, ?_⟩; have n0_ := Aside0.mk (below_step (by repeat (first | (with_reducible first | exact HB.out | apply below_alloc | apply pw_below_drewN | apply below_drew1) | exact HB.out)) hb); clear HB hb; have HB := n0_; clear n0_) | ((with_reducible refine gate_dst (N := 17) rfl ?_); (try (refine gate_guard (by rfl) ?_; dsimp only)); refine goesL_ (some 17) rfl rfl Tryd.func46 (by kernel_rfl) rfl #[.int .i64 n] rfl (by (try simp only [List.map_toArray, List.map_cons, List.map_nil]); first | done | rfl) ?_; (refine (decimal_any n _ HR.out.1 HR.out.2 (HG.out.below HB.out)).mono ?_); rintro e w3 ⟨rfl, hb⟩; refine ⟨_, rfl, ?_⟩; have n0_ := Aside0.mk (below_step (by repeat (first | (with_reducible first | exact HB.out | apply below_alloc | apply pw_below_drewN | apply below_drew1) | exact HB.out)) hb); clear HB hb; have HB := n0_; clear n0_; (try rw [HE.out])) | ((with_reducible refine gate_dst (N := 24) rfl ?_); (try (refine gate_guard (by rfl) ?_; dsimp only)); refine goesL_ (some 24) rfl rfl Tryd.func36 (by kernel_rfl) rfl #[.int .i64 n, .int .i64 0, .int .i64 a1] rfl (by (try simp only [List.map_toArray, List.map_cons, List.map_nil]); first | done | rfl) ?_; (refine (impl_within.calls n 0 a1 false _ HW.out).mono ?_); rintro e w4 ⟨rfl, ⟨nd, rfl⟩⟩; refine ⟨_, rfl, ?_⟩))
        go_ret2
        exact ⟨rfl, by repeat (first | exact HB.out | apply pw_below_drewN | apply below_drew1)⟩
    · rw [if_neg he] at h'
      simp only [Prod.mk.injEq] at h'
      obtain ⟨rfl, rfl⟩ := h'
      obtain ⟨t_, ht_⟩ : ∃ t_ : ByteArray, t_ = ⟨(Lib.itoa n).toArray⟩ := ⟨_, rfl⟩
      have hne : ¬ (t_.toList = a0.toList) := fun e => he (by rw [ByteArray.toList_eq, ByteArray.toList_eq, ht_] at e; exact e)
      have HT := Aside0.mk ht_
      clear ht_
      clear he
      go_enter Tryd.func33, Tryd.ntmps33
      go_wp2_with (first | ((with_reducible refine gate_dst (N := 10) rfl ?_); (try (refine gate_guard (by rfl) ?_; dsimp only)); refine goesL_ (some 10) rfl rfl Tryd.func45 (by kernel_rfl) rfl #[.string a0, .int .i64 10, .int .i64 64] rfl (by (try simp only [List.map_toArray, List.map_cons, List.map_nil]); first | done | rfl) ?_; (refine (parse_ok a0 n _ HS.out HP.out).mono ?_); rintro e w2 ⟨rfl, hb⟩; refine ⟨_, rfl, ?_⟩; have n0_ := Aside0.mk (below_step (by repeat (first | (with_reducible first | exact HB.out | apply below_alloc | apply pw_below_drewN | apply below_drew1) | exact HB.out)) hb); clear HB hb; have HB := n0_; clear n0_) | ((with_reducible refine gate_dst (N := 17) rfl ?_); (try (refine gate_guard (by rfl) ?_; dsimp only)); refine goesL_ (some 17) rfl rfl Tryd.func46 (by kernel_rfl) rfl #[.int .i64 n] rfl (by (try simp only [List.map_toArray, List.map_cons, List.map_nil]); first | done | rfl) ?_; (refine (decimal_any n _ HR.out.1 HR.out.2 (HG.out.below HB.out)).mono ?_); rintro e w3 ⟨rfl, hb⟩; refine ⟨_, rfl, ?_⟩; rw [← HT.out]; have n0_ := Aside0.mk (below_step (by repeat (first | (with_reducible first | exact HB.out | apply below_alloc | apply pw_below_drewN | apply below_drew1) | exact HB.out)) hb); clear HB hb; have HB := n0_; clear n0_))
      go_ret2
      exact ⟨rfl, by repeat (first | exact HB.out | apply pw_below_drewN | apply below_drew1)⟩
  · have HP := Aside0.mk (show ∀ n, Lib.parseIntB 64 a0.data.toList ≠ .ok n from fun n e => hp ⟨n, e⟩)
    have e0 : (r1, r2) = (0, false) := by
      rw [← h']
      cases hq : Lib.parseIntB 64 a0.data.toList
      · exact absurd ⟨_, hq⟩ hp
      · rfl
      · rfl
    clear hp h'
    simp only [Prod.mk.injEq] at e0
    obtain ⟨rfl, rfl⟩ := e0
    go_enter Tryd.func33, Tryd.ntmps33
    go_wp2_with (first | ((with_reducible refine gate_dst (N := 10) rfl ?_); (try (refine gate_guard (by rfl) ?_; dsimp only)); refine goesL_ (some 10) rfl rfl Tryd.func45 (by kernel_rfl) rfl #[.string a0, .int .i64 10, .int .i64 64] rfl (by (try simp only [List.map_toArray, List.map_cons, List.map_nil]); first | done | rfl) ?_; (refine (parse_bad a0 _ HS.out HP.out (HG.out.below HB.out)).mono ?_); rintro e w2 ⟨z_, u_, N_, rfl, hb⟩; refine ⟨_, rfl, ?_⟩; have n0_ := Aside0.mk (below_step (by repeat (first | (with_reducible first | exact HB.out | apply below_alloc | apply pw_below_drewN | apply below_drew1) | exact HB.out)) hb); clear HB hb; have HB := n0_; clear n0_))
    go_ret2
    exact ⟨rfl, by repeat (first | exact HB.out | apply pw_below_drewN | apply below_drew1)⟩

end Go.Proofs.YtcjfofcgbpbdmaaDoor.PX

namespace Go.Proofs.YtcjfofcgbpbdmaaDoor.PX
open Go.RowKit Go.Proofs.YtcjfofcgbpbdmaaDoorW.PrintWords Go.Proofs.YtcjfofcgbpbdmaaDoorW.PrintLast Go.Proofs.YtcjfofcgbpbdmaaDoorW.PrintMore
attribute [local go_sem] max2_int min2_int max_two min_two max_three min_three max_four min_four   -- for this text's walks alone
set_option linter.unusedVariables false
set_option linter.unusedSimpArgs false

/-! ### impl_numbersOf: function 17 -/
def impl_numbersOf.l0 : Nat → Int → List Int → List ByteArray → Int → Int → Option (List Int × Bool)
  | 0, _, _, _, _, _ => none
  | k + 1, x2, x8, x19, x20, x21 => if x21 < x20 then (if 0 ≤ x21 then (if x21 < (x19.length : Int) then ((impl_number.f (rdOf ByteArray.empty x19 x21) x2).bind fun bt157 => (if bt157.2 = true then (if x8.length < 17592186044416 then (impl_numbersOf.l0 k x2 (x8 ++ [bt157.1]) x19 x20 (wrap64 (x21 + 1))) else (none)) else (some (([] : List Int), false)))) else (none)) else (none)) else (some (x8, true))
def impl_numbersOf.f (k : Nat) (a0 : ByteArray) (a1 : ByteArray) (a2 : Int) : Option (List Int × Bool) := (some (([] : List Int) : List Int)).bind fun y150 => (if a0.toList = ([] : List UInt8) then (some (y150, true)) else ((strings_Split.f a0 a1).bind fun t153 => (impl_numbersOf.l0 k a2 y150 t153 (t153.length : Int) 0)))
theorem impl_numbersOf.mono_l : ∀ k, (∀ y0 y1 y2 y3 y4, LeO (impl_numbersOf.l0 k y0 y1 y2 y3 y4) (impl_numbersOf.l0 (k + 1) y0 y1 y2 y3 y4))
  | 0 => fun _ _ _ _ _ r h => by simp [impl_numbersOf.l0] at h
  | k + 1 => by
    have ih0 := impl_numbersOf.mono_l k
    · intro y0 y1 y2 y3 y4
      unfold impl_numbersOf.l0
      repeat' first
      | (with_reducible exact ih0 _ _ _ _ _)
      | (with_reducible exact LeO.refl _)
      | (with_reducible exact LeO.none _)
      | (with_reducible refine LeO.ite ?_ ?_)
      | (with_reducible refine LeO.bind ?_ (fun _ => ?_))
      | exact ih0 _ _ _ _ _
      | exact LeO.none _
      | refine LeO.ite ?_ ?_
      | refine LeO.bind ?_ (fun _ => ?_)
theorem impl_numbersOf.mono : ∀ a0 a1 a2 k, LeO (impl_numbersOf.f k a0 a1 a2) (impl_numbersOf.f (k + 1) a0 a1 a2) := by
  intro a0 a1 a2 k
  have ih0 := impl_numbersOf.mono_l k
  unfold impl_numbersOf.f
  repeat' first
      | (with_reducible exact ih0 _ _ _ _ _)
      | (with_reducible exact LeO.refl _)
      | (with_reducible exact LeO.none _)
      | (with_reducible refine LeO.ite ?_ ?_)
      | (with_reducible refine LeO.bind ?_ (fun _ => ?_))
      | exact ih0 _ _ _ _ _
      | exact LeO.none _
      | refine LeO.ite ?_ ?_
      | refine LeO.bind ?_ (fun _ => ?_)
set_option maxHeartbeats 8000000 in
set_option maxRecDepth 100000 in
theorem impl_numbersOf.calls (k : Nat) (a0 : ByteArray) (a1 : ByteArray) (a2 : Int) (r1 : List Int) (r2 : Bool) (w : World) (h : impl_numbersOf.f k a0 a1 a2 = some (r1, r2)) (hG : Good w) :
    Calls Tryd.prog 17 #[.string a0, .string a1, .int .i64 a2] w fun e w' => ∃ v0_ : Value, e = .returned (.tuple #[v0_, .bool r2]) ∧ Kd.R (Kd.int .i64) 2 w' w.heap.size (fun _ => True) v0_ r1 ∧ Below w.heap.size w w' := by
  have HG := Aside0.mk hG
  clear hG
  have HB := Aside0.mk (Below.refl w.heap.size w)
  have H : ((some (([] : List Int) : List Int)).bind fun y150 => (if a0.toList = ([] : List UInt8) then (some (y150, true)) else ((strings_Split.f a0 a1).bind fun t153 => (impl_numbersOf.l0 k a2 y150 t153 (t153.length : Int) 0)))) = some (r1, r2) := h
  clear h
  obtain ⟨y150, hy150⟩ : ∃ y_ : List Int, y_ = (([] : List Int)) := ⟨_, rfl⟩
  replace H : (if a0.toList = ([] : List UInt8) then (some (y150, true)) else ((strings_Split.f a0 a1).bind fun t153 => (impl_numbersOf.l0 k a2 y150 t153 (t153.length : Int) 0))) = some (r1, r2) := by first | (rw [hy150]; with_reducible exact H) | (have H2_ := (Option.bind_some _ _).symm.trans H; rw [hy150]; with_reducible exact H2_) | (have H2_ := (Option.bind_some _ _).symm.trans H; with_reducible exact H2_) | with_reducible exact H | (rw [hy150]; exact H) | exact H
  have Ny150 := Aside0.mk hy150
  clear hy150
  by_cases c4 : a0.toList = ([] : List UInt8)
  · rw [if_pos c4] at H
    have c4b0 : (a0.toList == ([] : List UInt8)) = true := beq_iff_eq.mpr c4
    have c4b1 : (a0.toList != ([] : List UInt8)) = false := bne_eq_false_iff_eq.mpr c4
    clear c4
    simp only [Option.some.injEq, Prod.mk.injEq] at H
    obtain ⟨rfl, rfl⟩ := H
    go_enter Tryd.func17, Tryd.ntmps17
    go_wp2_with (first | ((with_reducible refine gate_dst (N := 13) rfl ?_); refine Kd.R_lit (Kd.int .i64) _ 2 ?hg (N := 13) ?hd (xs := ([] : List Int)) (inner := []) (ok := fun _ => True) (okp := fun _ => True) ?hr ?hp (fun _ hk => hk) trivial (Below.refl _ _) (Nat.le_refl _) (by simp) ?_; (case hd => rfl); (case hg => rfl); (case hr => first | (go_simp; done) | (go_simp; rfl)); (case hp => exact (Reps.none _ _)); intro v151 w5 ho6 hb hg_ hnew_; clear hg_ hnew_; (first | rw [← Ny150.out] at ho6 | (simp only [Int.reduceToNat] at ho6; rw [← Ny150.out] at ho6)); have n0_ := Aside0.mk (Kd.R_lower ho6 (below_size (by repeat (first | (with_reducible first | exact HB.out | apply below_alloc | apply pw_below_drewN | apply below_drew1) | exact HB.out)))); have n1_ := Aside0.mk (below_step (by repeat (first | (with_reducible first | exact HB.out | apply below_alloc | apply pw_below_drewN | apply below_drew1) | exact HB.out)) hb); clear HB; have HO152 := n0_; have HB := n1_; clear n0_ n1_; clear hb ho6))
    go_ret2
    exact ⟨_, by first | rfl | (simp [errW_none, errW_some] <;> rfl) | (simp [*, errW_none, errW_some] <;> rfl), by (with_reducible repeat (first | apply Kd.R_alloc | apply Kd.R_drewN | apply Kd.R_drew)); exact HO152.out, by repeat (first | (with_reducible first | exact HB.out | apply below_alloc | apply pw_below_drewN | apply below_drew1) | exact HB.out)⟩
  · rw [if_neg c4] at H
    have c4b0 : (a0.toList == ([] : List UInt8)) = false := beq_eq_false_iff_ne.mpr c4
    have c4b1 : (a0.toList != ([] : List UInt8)) = true := bne_iff_ne.mpr c4
    replace H := Option.bind_eq_some_iff.mp H
    obtain ⟨t153, A70, H⟩ := H
    replace H : (impl_numbersOf.l0 k a2 y150 t153 (t153.length : Int) 0) = some (r1, r2) := H
    have A7 := Aside0.mk A70
    clear A70
    have H' := Aside0.mk H
    clear H
    go_enter Tryd.func17, Tryd.ntmps17
    go_wp2_with (first | ((with_reducible refine gate_dst (N := 13) rfl ?_); refine Kd.R_lit (Kd.int .i64) _ 2 ?hg (N := 13) ?hd (xs := ([] : List Int)) (inner := []) (ok := fun _ => True) (okp := fun _ => True) ?hr ?hp (fun _ hk => hk) trivial (Below.refl _ _) (Nat.le_refl _) (by simp) ?_; (case hd => rfl); (case hg => rfl); (case hr => first | (go_simp; done) | (go_simp; rfl)); (case hp => exact (Reps.none _ _)); intro v151 w8 ho9 hb hg_ hnew_; clear hg_ hnew_; (first | rw [← Ny150.out] at ho9 | (simp only [Int.reduceToNat] at ho9; rw [← Ny150.out] at ho9)); have n0_ := Aside0.mk (Kd.R_lower ho9 (below_size (by repeat (first | (with_reducible first | exact HB.out | apply below_alloc | apply pw_below_drewN | apply below_drew1) | exact HB.out)))); have n1_ := Aside0.mk (below_step (by repeat (first | (with_reducible first | exact HB.out | apply below_alloc | apply pw_below_drewN | apply below_drew1) | exact HB.out)) hb); clear HB; have HO152 := n0_; have HB := n1_; clear n0_ n1_; clear hb ho9) | ((with_reducible refine gate_callee (f := 16) rfl ?_); refine goesL_ (some 19) rfl rfl Tryd.func16 (by kernel_rfl) rfl #[.string a0, .string a1] rfl (by (try simp only [List.map_toArray, List.map_cons, List.map_nil]); first | done | rfl | (simp only [List.length_drop, List.length_take]; rfl)) ?_; (with_reducible refine (strings_Split.calls a0 a1 t153 _ A7.out (HG.out.below (by repeat (first | (with_reducible first | exact HB.out | apply below_alloc | apply pw_below_drewN | apply below_drew1) | exact HB.out)))).mono ?_); rintro e w10 ⟨v154, rfl, ho0, hb⟩; refine ⟨_, rfl, ?_⟩; have n0_ := Aside0.mk (Kd.R_below (by (with_reducible repeat (first | apply Kd.R_alloc | apply Kd.R_drewN | apply Kd.R_drew)); exact HO152.out) hb); have n1_ := Aside0.mk (Kd.R_lower ho0 (below_size (by repeat (first | (with_reducible first | exact HB.out | apply below_alloc | apply pw_below_drewN | apply below_drew1) | exact HB.out)))); have n2_ := Aside0.mk (below_step (by repeat (first | (with_reducible first | exact HB.out | apply below_alloc | apply pw_below_drewN | apply below_drew1) | exact HB.out)) hb); clear HO152; clear HB; have HO152 := n0_; have HO155 := n1_; have HB := n2_; clear n0_ n1_ n2_; (try clear hb); (try clear hb2); (try clear hk); (try clear hi); (try clear ho0); obtain ⟨Ao11, co11, eo11⟩ := Kd.R_slice HO155.out; subst eo11))
    go_loopg [8, 21] k (fun kq v8 v21 w' => ∃ (x8_1 : List Int) (x21_1 : Int), v21 = .int .i64 x21_1 ∧ Aside0 (impl_numbersOf.l0 kq a2 x8_1 t153 (t153.length : Int) x21_1 = some (r1, r2)) ∧ Aside0 (kq ≤ k) ∧ Aside0 (Kd.R (Kd.int .i64) 2 w' w.heap.size (fun _ => True) v8 x8_1) ∧ Aside0 (Kd.R Kd.string 9 w' w.heap.size (fun _ => True) (.slice Ao11 t153.length co11) t153) ∧ Aside0 (Below w.heap.size w w'))
    case atStart => exact ⟨(y150), (0), (by first | rfl | (simp; done) | (simp [*]; done)), H', ⟨Nat.le_refl _⟩, ⟨by (with_reducible repeat (first | apply Kd.R_alloc | apply Kd.R_drewN | apply Kd.R_drew)); exact HO152.out⟩, ⟨by (with_reducible repeat (first | apply Kd.R_alloc | apply Kd.R_drewN | apply Kd.R_drew)); exact HO155.out⟩, ⟨by repeat (first | (with_reducible first | exact HB.out | apply below_alloc | apply pw_below_drewN | apply below_drew1) | exact HB.out)⟩⟩
    case round =>
      clear H'
      try clear c1
      try clear p2
      try clear c4
      try clear c4b0
      try clear c4b1
      obtain ⟨x8_1, x21_1, rfl, HA, HK1, HO_8, HO_19, HB⟩ := hrel
      cases gk with
      | zero => exact absurd HA.out (by simp [impl_numbersOf.l0])
      | succ k1 =>
        have H := HA.out
        clear HA
        simp only [impl_numbersOf.l0] at H
        by_cases c12 : x21_1 < (t153.length : Int)
        · rw [if_pos c12] at H
          have c12b0 : decide (x21_1 < (t153.length : Int)) = true := decide_eq_true c12
          clear c12
          by_cases c13 : 0 ≤ x21_1
          · rw [if_pos c13] at H
            have c13b0 : decide (0 ≤ x21_1) = true := decide_eq_true c13
            clear c13
            by_cases c14 : x21_1 < (t153.length : Int)
            · rw [if_pos c14] at H
              have c14b0 : decide (x21_1 < (t153.length : Int)) = true := decide_eq_true c14
              clear c14
              replace H := Option.bind_eq_some_iff.mp H
              obtain ⟨⟨t157, t158⟩, A150, H⟩ := H
              replace H : (if t158 = true then (if x8_1.length < 17592186044416 then (impl_numbersOf.l0 k1 a2 (x8_1 ++ [t157]) t153 (t153.length : Int) (wrap64 (x21_1 + 1))) else (none)) else (some (([] : List Int), false))) = some (r1, r2) := H
              have A15 := Aside0.mk A150
              clear A150
              by_cases c16 : t158 = true
              · subst c16
                have H1 : (if x8_1.length < 17592186044416 then (impl_numbersOf.l0 k1 a2 (x8_1 ++ [t157]) t153 (t153.length : Int) (wrap64 (x21_1 + 1))) else (none)) = some (r1, r2) := by rw [if_pos rfl] at H; exact H
                clear H
                have H := H1
                clear H1
                by_cases c17 : x8_1.length < 17592186044416
                · rw [if_pos c17] at H
                  have LMc17 := Aside0.mk c17
                  clear c17
                  obtain ⟨y159, hy159⟩ : ∃ y_ : List Int, y_ = (x8_1 ++ [t157]) := ⟨_, rfl⟩
                  replace H : (impl_numbersOf.l0 k1 a2 y159 t153 (t153.length : Int) (wrap64 (x21_1 + 1))) = some (r1, r2) := by first | (rw [hy159]; with_reducible exact H) | (have H2_ := (Option.bind_some _ _).symm.trans H; rw [hy159]; with_reducible exact H2_) | (have H2_ := (Option.bind_some _ _).symm.trans H; with_reducible exact H2_) | with_reducible exact H | (rw [hy159]; exact H) | exact H
                  have Ny159 := Aside0.mk hy159
                  clear hy159
                  have H' := Aside0.mk H
                  clear H
                  have p156 : 0 ≤ (x21_1 : Int) := of_decide_eq_true (by first | (with_reducible assumption) | assumption)
                  have q156 : x21_1 < (t153.length : Int) := of_decide_eq_true (by first | (with_reducible assumption) | assumption)
                  obtain ⟨ad156, e156, hx156_0⟩ := Kd.at_string (Kd.R_reads' HO_19.out).2.2 x21_1 p156 q156
                  cases e156
                  replace p156 := eq_true p156
                  replace q156 := eq_true q156
                  go_wp2_with (first | ((with_reducible refine gate_callee (f := 33) rfl ?_); refine goesL_ (some 28) rfl rfl Tryd.func33 (by kernel_rfl) rfl #[.string (rdOf ByteArray.empty t153 x21_1), .int .i64 a2] rfl (by (try simp only [List.map_toArray, List.map_cons, List.map_nil]); first | done | rfl | (simp only [List.length_drop, List.length_take]; rfl)) ?_; (with_reducible refine (impl_number.calls (rdOf ByteArray.empty t153 x21_1) a2 t157 true _ A15.out (HG.out.below (by repeat (first | (with_reducible first | exact HB.out | apply below_alloc | apply pw_below_drewN | apply below_drew1) | exact HB.out)))).mono ?_); rintro e w18 ⟨rfl, hb⟩; refine ⟨_, rfl, ?_⟩; have n0_ := Aside0.mk (Kd.R_below (by (with_reducible repeat (first | apply Kd.R_alloc | apply Kd.R_drewN | apply Kd.R_drew)); exact HO_8.out) hb); have n1_ := Aside0.mk (Kd.R_below (by (with_reducible repeat (first | apply Kd.R_alloc | apply Kd.R_drewN | apply Kd.R_drew)); exact HO_19.out) hb); have n2_ := Aside0.mk (below_step (by repeat (first | (with_reducible first | exact HB.out | apply below_alloc | apply pw_below_drewN | apply below_drew1) | exact HB.out)) hb); clear HO_8; clear HO_19; clear HB; have HO_8 := n0_; have HO_19 := n1_; have HB := n2_; clear n0_ n1_ n2_; (try clear hb); (try clear hb2); (try clear hk); (try clear hi)) | ((with_reducible refine gate_builtin (b := .append) (xs := #[.tmp 33, .tmp 35]) rfl ?_); at_builtin; refine Kd.R_append (Kd.int .i64) (w0 := w) w.heap.size rfl (.tmp 33) (.tmp 35) 30 2 (.int .i64 0) 8 rfl Tryd.underlying30 info2 rfl (by decide) (by omega) u8 x8_1 t157 [.int .i64 t157] (fun _ => True) (fun _ => False) rfl rfl ?aP (fun _ hk => hk.elim) ?aF ?aO ?aB ?aS ?aL ?_; (case aP => exact rfl); (case aB => exact (by repeat (first | (with_reducible first | exact HB.out | apply below_alloc | apply pw_below_drewN | apply below_drew1) | exact HB.out))); (case aF => exact (fun _ _ => trivial)); (case aO => exact (by (with_reducible repeat (first | apply Kd.R_alloc | apply Kd.R_drewN | apply Kd.R_drew)); exact HO_8.out)); (case aS => exact (below_size (by repeat (first | (with_reducible first | exact HB.out | apply below_alloc | apply pw_below_drewN | apply below_drew1) | exact HB.out)))); (case aL => have := LMc17.out; omega); intro v160 w19 ho hb hg hat; rw [← Ny159.out] at ho; have n0_ := Aside0.mk (Kd.R_over' (by (with_reducible repeat (first | apply Kd.R_alloc | apply Kd.R_drewN | apply Kd.R_drew)); exact HO_19.out) (Kd.R_typed (by (with_reducible repeat (first | apply Kd.R_alloc | apply Kd.R_drewN | apply Kd.R_drew)); exact HO_8.out)) (by decide) hg); have n1_ := Aside0.mk (hb); have n2_ := Aside0.mk (ho); clear HO_19; clear HB; clear HO_8; have HO_19 := n0_; have HB := n1_; have HO161 := n2_; clear n0_ n1_ n2_; clear ho hb hg hat))
                  go_roundg k1
                  case measure => have := HK1.out; omega
                  case rel => exact ⟨(y159), (wrap64 (x21_1 + 1)), (by first | rfl | (simp; done) | (simp [*]; done)), H', ⟨by have := HK1.out; omega⟩, ⟨by (with_reducible repeat (first | apply Kd.R_alloc | apply Kd.R_drewN | apply Kd.R_drew)); exact HO161.out⟩, ⟨by (with_reducible repeat (first | apply Kd.R_alloc | apply Kd.R_drewN | apply Kd.R_drew)); exact HO_19.out⟩, ⟨by repeat (first | (with_reducible first | exact HB.out | apply below_alloc | apply pw_below_drewN | apply below_drew1) | exact HB.out)⟩⟩
                · rw [if_neg c17] at H
                  exact absurd H (by simp)
              · replace c16 := Bool.eq_false_iff.mpr c16
                subst c16
                have H1 : (some (([] : List Int), false)) = some (r1, r2) := by rw [if_neg (show ¬ (false = true) by decide)] at H; exact H
                clear H
                have H := H1
                clear H1
                simp only [Option.some.injEq, Prod.mk.injEq] at H
                obtain ⟨rfl, rfl⟩ := H
                have p156 : 0 ≤ (x21_1 : Int) := of_decide_eq_true (by first | (with_reducible assumption) | assumption)
                have q156 : x21_1 < (t153.length : Int) := of_decide_eq_true (by first | (with_reducible assumption) | assumption)
                obtain ⟨ad156, e156, hx156_0⟩ := Kd.at_string (Kd.R_reads' HO_19.out).2.2 x21_1 p156 q156
                cases e156
                replace p156 := eq_true p156
                replace q156 := eq_true q156
                go_wp2_with (first | ((with_reducible refine gate_callee (f := 33) rfl ?_); refine goesL_ (some 28) rfl rfl Tryd.func33 (by kernel_rfl) rfl #[.string (rdOf ByteArray.empty t153 x21_1), .int .i64 a2] rfl (by (try simp only [List.map_toArray, List.map_cons, List.map_nil]); first | done | rfl | (simp only [List.length_drop, List.length_take]; rfl)) ?_; (with_reducible refine (impl_number.calls (rdOf ByteArray.empty t153 x21_1) a2 t157 false _ A15.out (HG.out.below (by repeat (first | (with_reducible first | exact HB.out | apply below_alloc | apply pw_below_drewN | apply below_drew1) | exact HB.out)))).mono ?_); rintro e w20 ⟨rfl, hb⟩; refine ⟨_, rfl, ?_⟩; have n0_ := Aside0.mk (Kd.R_below (by (with_reducible repeat (first | apply Kd.R_alloc | apply Kd.R_drewN | apply Kd.R_drew)); exact HO_8.out) hb); have n1_ := Aside0.mk (Kd.R_below (by (with_reducible repeat (first | apply Kd.R_alloc | apply Kd.R_drewN | apply Kd.R_drew)); exact HO_19.out) hb); have n2_ := Aside0.mk (below_step (by repeat (first | (with_reducible first | exact HB.out | apply below_alloc | apply pw_below_drewN | apply below_drew1) | exact HB.out)) hb); clear HO_8; clear HO_19; clear HB; have HO_8 := n0_; have HO_19 := n1_; have HB := n2_; clear n0_ n1_ n2_; (try clear hb); (try clear hb2); (try clear hk); (try clear hi)))
                go_ret2
                exact ⟨_, by first | rfl | (simp [errW_none, errW_some] <;> rfl) | (simp [*, errW_none, errW_some] <;> rfl), by first | exact Kd.R_nil _ _ _ _ _ | exact Kd.N_nil _ _ _ _ _ | exact Kd.V_nil _ _ _ _ _ | exact Kd.Q_nil _ _ _ _ _ | exact Kd.S_nil _ _ _ _ _, by repeat (first | (with_reducible first | exact HB.out | apply below_alloc | apply pw_below_drewN | apply below_drew1) | exact HB.out)⟩
            · rw [if_neg c14] at H
              exact absurd H (by simp)
          · rw [if_neg c13] at H
            exact absurd H (by simp)
        · rw [if_neg c12] at H
          have c12b0 : decide (x21_1 < (t153.length : Int)) = false := decide_eq_false c12
          clear c12
          simp only [Option.some.injEq, Prod.mk.injEq] at H
          obtain ⟨rfl, rfl⟩ := H
          go_wp2
          go_ret2
          exact ⟨_, by first | rfl | (simp [errW_none, errW_some] <;> rfl) | (simp [*, errW_none, errW_some] <;> rfl), by (with_reducible repeat (first | apply Kd.R_alloc | apply Kd.R_drewN | apply Kd.R_drew)); exact HO_8.out, by repeat (first | (with_reducible first | exact HB.out | apply below_alloc | apply pw_below_drewN | apply below_drew1) | exact HB.out)⟩

end Go.Proofs.YtcjfofcgbpbdmaaDoor.PX

namespace Go.Proofs.YtcjfofcgbpbdmaaDoor.PX
open Go.RowKit Go.Proofs.YtcjfofcgbpbdmaaDoorW.PrintWords Go.Proofs.YtcjfofcgbpbdmaaDoorW.PrintLast Go.Proofs.YtcjfofcgbpbdmaaDoorW.PrintMore
attribute [local go_sem] max2_int min2_int max_two min_two max_three min_three max_four min_four   -- for this text's walks alone
set_option linter.unusedVariables false
set_option linter.unusedSimpArgs false

/-! ### impl_ParseGame: function 6 -/
def impl_ParseGame.l0 : Nat → List ByteArray → Int → Int → List (List Int) → Option ((List (List Int)) × Int)
  | 0, _, _, _, _ => none
  | k + 1, x11, x12, x13, x289000 => if x13 < x12 then (if 0 ≤ x13 then (if x13 < (x11.length : Int) then ((impl_numbersOf.f k (rdOf ByteArray.empty x11 x13) (⟨#[46]⟩ : ByteArray) 40).bind fun bt293 => (if bt293.2 = true then (if x289000.length < 5864062014805 then (impl_ParseGame.l0 k x11 x12 (wrap64 (x13 + 1)) (x289000 ++ [bt293.1])) else (none)) else (some (([] : List (List Int)), 6)))) else (none)) else (none)) else ((impl_IsGame.f k x289000).bind fun t300 => (if t300 = true then (some (x289000, 0)) else (some (([] : List (List Int)), 6))))
def impl_ParseGame.f (k : Nat) (a0 : ByteArray) : Option ((List (List Int)) × Int) := (strings_Split.f a0 (⟨#[44]⟩ : ByteArray)).bind fun t289 => (impl_ParseGame.l0 k t289 (t289.length : Int) 0 ([] : List (List Int)))
theorem impl_ParseGame.mono_l : ∀ k, (∀ y0 y1 y2 y3, LeO (impl_ParseGame.l0 k y0 y1 y2 y3) (impl_ParseGame.l0 (k + 1) y0 y1 y2 y3))
  | 0 => fun _ _ _ _ r h => by simp [impl_ParseGame.l0] at h
  | k + 1 => by
    have ih0 := impl_ParseGame.mono_l k
    · intro y0 y1 y2 y3
      unfold impl_ParseGame.l0
      repeat' first
      | (with_reducible exact ih0 _ _ _ _)
      | (with_reducible exact impl_IsGame.mono _ _)
      | (with_reducible exact impl_numbersOf.mono _ _ _ _)
      | (with_reducible exact LeO.refl _)
      | (with_reducible exact LeO.none _)
      | (with_reducible refine LeO.ite ?_ ?_)
      | (with_reducible refine LeO.bind ?_ (fun _ => ?_))
      | exact ih0 _ _ _ _
      | exact impl_IsGame.mono _ _
      | exact impl_numbersOf.mono _ _ _ _
      | exact LeO.none _
      | refine LeO.ite ?_ ?_
      | refine LeO.bind ?_ (fun _ => ?_)
theorem impl_ParseGame.mono : ∀ a0 k, LeO (impl_ParseGame.f k a0) (impl_ParseGame.f (k + 1) a0) := by
  intro a0 k
  have ih0 := impl_ParseGame.mono_l k
  unfold impl_ParseGame.f
  repeat' first
      | (with_reducible exact ih0 _ _ _ _)
      | (with_reducible exact impl_IsGame.mono _ _)
      | (with_reducible exact impl_numbersOf.mono _ _ _ _)
      | (with_reducible exact LeO.refl _)
      | (with_reducible exact LeO.none _)
      | (with_reducible refine LeO.ite ?_ ?_)
      | (with_reducible refine LeO.bind ?_ (fun _ => ?_))
      | exact ih0 _ _ _ _
      | exact impl_IsGame.mono _ _
      | exact impl_numbersOf.mono _ _ _ _
      | exact LeO.none _
      | refine LeO.ite ?_ ?_
      | refine LeO.bind ?_ (fun _ => ?_)
set_option maxHeartbeats 8000000 in
set_option maxRecDepth 100000 in
theorem impl_ParseGame.calls (k : Nat) (a0 : ByteArray) (r1 : List (List Int)) (r2 : Int) (w : World) (h : impl_ParseGame.f k a0 = some (r1, r2)) (hG : Good w) :
    Calls Tryd.prog 6 #[.string a0] w fun e w' => ∃ v0_ : Value, e = .returned (.tuple #[.agg #[v0_], .int .i64 r2]) ∧ Kd.S (Kd.slice 2 (Kd.int .i64)) 30 w' w.heap.size (fun _ => True) v0_ r1 ∧ Below w.heap.size w w' := by
  have HG := Aside0.mk hG
  clear hG
  have hu24 := Tryd.underlying24
  have HB := Aside0.mk (Below.refl w.heap.size w)
  have H : ((strings_Split.f a0 (⟨#[44]⟩ : ByteArray)).bind fun t289 => (impl_ParseGame.l0 k t289 (t289.length : Int) 0 ([] : List (List Int)))) = some (r1, r2) := h
  clear h
  replace H := Option.bind_eq_some_iff.mp H
  obtain ⟨t289, A20, H⟩ := H
  replace H : (impl_ParseGame.l0 k t289 (t289.length : Int) 0 ([] : List (List Int))) = some (r1, r2) := H
  have A2 := Aside0.mk A20
  clear A20
  have H' := Aside0.mk H
  clear H
  go_enter Tryd.func6, Tryd.ntmps6
  go_wp2_with (first | ((with_reducible refine gate_dst (N := 2) rfl ?_); refine box_event ?hg (N := 2) ?hd (cs := #[.slice none 0 0]) (t := 24) ?hr ?_; (case hd => rfl); (case hg => rfl); (case hr => first | (go_simp; done) | (go_simp; rfl)); intro gb287 hg w3 hbox hb; have n0_ := Aside0.mk (below_step (by repeat (first | (with_reducible first | exact HB.out | apply below_alloc | apply pw_below_drewN | apply below_drew1) | exact HB.out)) hb); have n1_ := Aside0.mk (hbox); have n2_ := Aside0.mk ((by rw [hg]; exact (below_size (by repeat (first | (with_reducible first | exact HB.out | apply below_alloc | apply pw_below_drewN | apply below_drew1) | exact HB.out))) : w.heap.size ≤ gb287)); have n3_ := Aside0.mk ((by rw [hg]; exact (below_size (by repeat (first | (with_reducible first | exact HB.out | apply below_alloc | apply pw_below_drewN | apply below_drew1) | exact HB.out))) : w.heap.size ≤ gb287)); clear HB; have HB := n0_; have BK287 := n1_; have GW287 := n2_; have GE287 := n3_; clear n0_ n1_ n2_ n3_; clear hb hbox hg) | ((with_reducible refine gate_dst (N := 4) rfl ?_); refine box_event ?hg (N := 4) ?hd (cs := #[.slice none 0 0]) (t := 24) ?hr ?_; (case hd => rfl); (case hg => rfl); (case hr => first | (go_simp; done) | (go_simp; rfl)); intro gb288 hg w4 hbox hb; have n0_ := Aside0.mk (blk_below (g := gb287) (o := .cells #[.slice none 0 0] 24 (0, 0)) (by (with_reducible repeat (first | refine blk_drewN ?_ _ | refine blk_drew ?_ | refine blk_alloc ?_ _)); exact BK287.out) hb); have n1_ := Aside0.mk (below_step (by repeat (first | (with_reducible first | exact HB.out | apply below_alloc | apply pw_below_drewN | apply below_drew1 | refine below_set ?_ GE287.out) | exact HB.out)) hb); have n2_ := Aside0.mk (hbox); have n3_ := Aside0.mk ((by rw [hg]; exact (below_size (by repeat (first | (with_reducible first | exact HB.out | apply below_alloc | apply pw_below_drewN | apply below_drew1 | refine below_set ?_ GE287.out) | exact HB.out))) : w.heap.size ≤ gb288)); have n4_ := Aside0.mk ((by rw [hg]; exact (below_size (by repeat (first | (with_reducible first | exact HB.out | apply below_alloc | apply pw_below_drewN | apply below_drew1 | refine below_set ?_ GE287.out) | exact HB.out))) : w.heap.size ≤ gb288)); have n5_ := Aside0.mk ((by rw [hg]; exact Nat.ne_of_lt (blk_lt (g := gb287) (o := .cells #[.slice none 0 0] 24 (0, 0)) (by (with_reducible repeat (first | refine blk_drewN ?_ _ | refine blk_drew ?_ | refine blk_alloc ?_ _)); exact BK287.out)) : gb287 ≠ gb288)); have n6_ := Aside0.mk ((by rw [hg]; exact Nat.ne_of_gt (blk_lt (g := gb287) (o := .cells #[.slice none 0 0] 24 (0, 0)) (by (with_reducible repeat (first | refine blk_drewN ?_ _ | refine blk_drew ?_ | refine blk_alloc ?_ _)); exact BK287.out)) : gb288 ≠ gb287)); clear BK287; clear HB; have BK287 := n0_; have HB := n1_; have BK288 := n2_; have GW288 := n3_; have GE288 := n4_; have NB287_288 := n5_; have NB288_287 := n6_; clear n0_ n1_ n2_ n3_ n4_ n5_ n6_; clear hb hbox hg; have hnb5 := NB288_287.out; have hnc5 := NB287_288.out; have hcz6_0 : w4.cell? ⟨gb288, 0, none⟩ = some (.slice none 0 0) := (blk_cell BK288.out 0).trans rfl; have hfz6_0 := blk_frozen BK288.out 0) | ((with_reducible refine gate_callee (f := 16) rfl ?_); refine goesL_ (some 11) rfl rfl Tryd.func16 (by kernel_rfl) rfl #[.string a0, .string (⟨#[44]⟩ : ByteArray)] rfl (by (try simp only [List.map_toArray, List.map_cons, List.map_nil]); first | done | rfl | (simp only [List.length_drop, List.length_take]; rfl)) ?_; (with_reducible refine (strings_Split.calls a0 (⟨#[44]⟩ : ByteArray) t289 _ A2.out (HG.out.below (by repeat (first | (with_reducible first | exact HB.out | apply below_alloc | apply pw_below_drewN | apply below_drew1 | refine below_set ?_ GE287.out | refine below_set ?_ GE288.out) | exact HB.out)))).mono ?_); rintro e w7 ⟨v290, rfl, ho0, hb⟩; refine ⟨_, rfl, ?_⟩; have n0_ := Aside0.mk (Kd.R_lower ho0 (below_size (by repeat (first | (with_reducible first | exact HB.out | apply below_alloc | apply pw_below_drewN | apply below_drew1 | refine below_set ?_ GE287.out | refine below_set ?_ GE288.out) | exact HB.out)))); have n1_ := Aside0.mk (blk_below (g := gb287) (o := .cells #[.slice none 0 0] 24 (0, 0)) (by (with_reducible repeat (first | refine blk_drewN ?_ _ | refine blk_drew ?_ | refine blk_alloc ?_ _)); refine blk_far ?_ NB287_288.out _; (with_reducible repeat (first | refine blk_drewN ?_ _ | refine blk_drew ?_ | refine blk_alloc ?_ _)); exact BK287.out) hb); have n2_ := Aside0.mk (blk_below (g := gb288) (o := .cells #[.slice none 0 0] 24 (0, 0)) (by (with_reducible repeat (first | refine blk_drewN ?_ _ | refine blk_drew ?_ | refine blk_alloc ?_ _)); refine blk_put (cs := #[.slice none 0 0]) ?_ 0 _ rfl; (with_reducible repeat (first | refine blk_drewN ?_ _ | refine blk_drew ?_ | refine blk_alloc ?_ _)); exact BK288.out) hb); have n3_ := Aside0.mk (below_step (by repeat (first | (with_reducible first | exact HB.out | apply below_alloc | apply pw_below_drewN | apply below_drew1 | refine below_set ?_ GE287.out | refine below_set ?_ GE288.out) | exact HB.out)) hb); clear BK287; clear BK288; clear HB; have HO291 := n0_; have BK287 := n1_; have BK288 := n2_; have HB := n3_; clear n0_ n1_ n2_ n3_; (try clear hb); (try clear hb2); (try clear hk); (try clear hi); (try clear ho0); obtain ⟨Ao8, co8, eo8⟩ := Kd.R_slice HO291.out; subst eo8))
  go_loopg [13] k (fun kq v13 w' => ∃ (x13_1 : Int) (x289000_1 : List (List Int)) (u289000 : Value), v13 = .int .i64 x13_1 ∧ Aside0 (impl_ParseGame.l0 kq t289 (t289.length : Int) x13_1 x289000_1 = some (r1, r2)) ∧ Aside0 (kq ≤ k) ∧ Aside0 (Kd.R Kd.string 9 w' w.heap.size (fun _ => True) (.slice Ao8 t289.length co8) t289) ∧ Aside0 (Kd.S (Kd.slice 2 (Kd.int .i64)) 30 w' w.heap.size (fun _ => True) u289000 x289000_1) ∧ Aside0 (w'.heap[gb287]? = some (.cells #[(.slice none 0 0)] 24 (0, 0))) ∧ Aside0 (w'.heap[gb288]? = some (.cells #[u289000] 24 (0, 0))) ∧ Aside0 (Below w.heap.size w w'))
  case atStart => exact ⟨(0), (([] : List (List Int))), (.slice none 0 0), (by first | rfl | (simp; done) | (simp [*]; done)), H', ⟨Nat.le_refl _⟩, ⟨by (with_reducible repeat (first | apply Kd.R_alloc | apply Kd.R_drewN | apply Kd.R_drew)); exact HO291.out⟩, ⟨by first | exact Kd.S_nil _ _ _ _ _ | exact Kd.N_nil _ _ _ _ _ | exact Kd.V_nil _ _ _ _ _ | exact Kd.Q_nil _ _ _ _ _ | exact Kd.R_nil _ _ _ _ _⟩, ⟨by (with_reducible repeat (first | refine blk_drewN ?_ _ | refine blk_drew ?_ | refine blk_alloc ?_ _)); exact BK287.out⟩, ⟨by (with_reducible repeat (first | refine blk_drewN ?_ _ | refine blk_drew ?_ | refine blk_alloc ?_ _)); exact BK288.out⟩, ⟨by repeat (first | (with_reducible first | exact HB.out | apply below_alloc | apply pw_below_drewN | apply below_drew1 | refine below_set ?_ GE287.out | refine below_set ?_ GE288.out) | exact HB.out)⟩⟩
  case round =>
    clear H'
    try clear c1
    try clear p2
    try clear c5
    try clear c6
    try clear hcz6_0
    try clear hfz6_0
    obtain ⟨x13_1, x289000_1, u289000, rfl, HA, HK1, HO_11, HO_289000, BK287, BK288, HB⟩ := hrel
    cases gk with
    | zero => exact absurd HA.out (by simp [impl_ParseGame.l0])
    | succ k1 =>
      have H := HA.out
      clear HA
      simp only [impl_ParseGame.l0] at H
      by_cases c9 : x13_1 < (t289.length : Int)
      · rw [if_pos c9] at H
        have c9b0 : decide (x13_1 < (t289.length : Int)) = true := decide_eq_true c9
        clear c9
        by_cases c10 : 0 ≤ x13_1
        · rw [if_pos c10] at H
          have c10b0 : decide (0 ≤ x13_1) = true := decide_eq_true c10
          clear c10
          by_cases c11 : x13_1 < (t289.length : Int)
          · rw [if_pos c11] at H
            have c11b0 : decide (x13_1 < (t289.length : Int)) = true := decide_eq_true c11
            clear c11
            replace H := Option.bind_eq_some_iff.mp H
            obtain ⟨⟨t293, t294⟩, A120, H⟩ := H
            replace H : (if t294 = true then (if x289000_1.length < 5864062014805 then (impl_ParseGame.l0 k1 t289 (t289.length : Int) (wrap64 (x13_1 + 1)) (x289000_1 ++ [t293])) else (none)) else (some (([] : List (List Int)), 6))) = some (r1, r2) := H
            have A12 := Aside0.mk A120
            clear A120
            by_cases c13 : t294 = true
            · subst c13
              have H1 : (if x289000_1.length < 5864062014805 then (impl_ParseGame.l0 k1 t289 (t289.length : Int) (wrap64 (x13_1 + 1)) (x289000_1 ++ [t293])) else (none)) = some (r1, r2) := by rw [if_pos rfl] at H; exact H
              clear H
              have H := H1
              clear H1
              by_cases c14 : x289000_1.length < 5864062014805
              · rw [if_pos c14] at H
                have LMc14 := Aside0.mk c14
                clear c14
                obtain ⟨y297, hy297⟩ : ∃ y_ : List (List Int), y_ = (x289000_1 ++ [t293]) := ⟨_, rfl⟩
                replace H : (impl_ParseGame.l0 k1 t289 (t289.length : Int) (wrap64 (x13_1 + 1)) y297) = some (r1, r2) := by first | (rw [hy297]; with_reducible exact H) | (have H2_ := (Option.bind_some _ _).symm.trans H; rw [hy297]; with_reducible exact H2_) | (have H2_ := (Option.bind_some _ _).symm.trans H; with_reducible exact H2_) | with_reducible exact H | (rw [hy297]; exact H) | exact H
                have Ny297 := Aside0.mk hy297
                clear hy297
                have H' := Aside0.mk H
                clear H
                have p292 : 0 ≤ (x13_1 : Int) := of_decide_eq_true (by first | (with_reducible assumption) | assumption)
                have q292 : x13_1 < (t289.length : Int) := of_decide_eq_true (by first | (with_reducible assumption) | assumption)
                obtain ⟨ad292, e292, hx292_0⟩ := Kd.at_string (Kd.R_reads' HO_11.out).2.2 x13_1 p292 q292
                cases e292
                replace p292 := eq_true p292
                replace q292 := eq_true q292
                go_wp2_with (first | ((with_reducible refine gate_callee (f := 17) rfl ?_); refine goesL_ (some 19) rfl rfl Tryd.func17 (by kernel_rfl) rfl #[.string (rdOf ByteArray.empty t289 x13_1), .string (⟨#[46]⟩ : ByteArray), .int .i64 40] rfl (by (try simp only [List.map_toArray, List.map_cons, List.map_nil]); first | done | rfl | (simp only [List.length_drop, List.length_take]; rfl)) ?_; (with_reducible refine (impl_numbersOf.calls k1 (rdOf ByteArray.empty t289 x13_1) (⟨#[46]⟩ : ByteArray) 40 t293 true _ A12.out (HG.out.below (by repeat (first | (with_reducible first | exact HB.out | apply below_alloc | apply pw_below_drewN | apply below_drew1 | refine below_set ?_ GE287.out | refine below_set ?_ GE288.out) | exact HB.out)))).mono ?_); rintro e w15 ⟨v295, rfl, ho0, hb⟩; refine ⟨_, rfl, ?_⟩; have n0_ := Aside0.mk (Kd.R_below (by (with_reducible repeat (first | apply Kd.R_alloc | apply Kd.R_drewN | apply Kd.R_drew)); exact HO_11.out) hb); have n1_ := Aside0.mk (Kd.S_elder' (by (with_reducible repeat (first | apply Kd.S_alloc | apply Kd.S_drewN | apply Kd.S_drew)); exact HO_289000.out) (Kd.R_base ho0) hb); have n2_ := Aside0.mk (Kd.R_lower ho0 (below_size (by repeat (first | (with_reducible first | exact HB.out | apply below_alloc | apply pw_below_drewN | apply below_drew1 | refine below_set ?_ GE287.out | refine below_set ?_ GE288.out) | exact HB.out)))); have n3_ := Aside0.mk (blk_below (g := gb287) (o := .cells #[.slice none 0 0] 24 (0, 0)) (by (with_reducible repeat (first | refine blk_drewN ?_ _ | refine blk_drew ?_ | refine blk_alloc ?_ _)); exact BK287.out) hb); have n4_ := Aside0.mk (blk_below (g := gb288) (o := .cells #[u289000] 24 (0, 0)) (by (with_reducible repeat (first | refine blk_drewN ?_ _ | refine blk_drew ?_ | refine blk_alloc ?_ _)); exact BK288.out) hb); have n5_ := Aside0.mk (below_step (by repeat (first | (with_reducible first | exact HB.out | apply below_alloc | apply pw_below_drewN | apply below_drew1 | refine below_set ?_ GE287.out | refine below_set ?_ GE288.out) | exact HB.out)) hb); clear HO_11; clear HO_289000; clear BK287; clear BK288; clear HB; have HO_11 := n0_; have HO_289000 := n1_; have HO296 := n2_; have BK287 := n3_; have BK288 := n4_; have HB := n5_; clear n0_ n1_ n2_ n3_ n4_ n5_; (try clear hb); (try clear hb2); (try clear hk); (try clear hi); (try clear ho0); have hnb16 := NB288_287.out; have hnc16 := NB287_288.out; have hcz17_0 : w15.cell? ⟨gb288, 0, none⟩ = some (u289000) := (blk_cell BK288.out 0).trans rfl; have hfz17_0 := blk_frozen BK288.out 0; obtain ⟨Ao19, co19, eo19⟩ := Kd.R_slice HO296.out; subst eo19) | ((with_reducible refine gate_builtin (b := .append) (xs := #[.tmp 26, .tmp 28]) rfl ?_); at_builtin; refine Kd.S_append (Kd.slice 2 (Kd.int .i64)) (w0 := w) w.heap.size rfl (.tmp 26) (.tmp 28) 22 30 (.slice none 0 0) 24 rfl Tryd.underlying22 info30 rfl (by decide) (by omega) u289000 x289000_1 t293 [.slice Ao19 t293.length co19] (fun _ => True) (fun k_ => some k_ = (.slice Ao19 t293.length co19 : Value).ownBlock) rfl rfl ?aP (fun k_ hk_ => ((Kd.R_mono (ok' := fun k_ => ((fun _ => True)) k_ ∧ some k_ ≠ (u289000 : Value).ownBlock) (Kd.R_apart' (HO296.out) (Kd.S_typed HO_289000.out) (by decide)) (fun k_ hk => ⟨trivial, hk.2⟩))).1 k_ hk_.symm) ?aF ?aO ?aB ?aS ?aL ?_; (case aP => exact Kd.M_row (Kd.R_mono (Kd.R_tight rfl (Kd.R_mono (ok' := fun k_ => ((fun _ => True)) k_ ∧ some k_ ≠ (u289000 : Value).ownBlock) (Kd.R_apart' (HO296.out) (Kd.S_typed HO_289000.out) (by decide)) (fun k_ hk => ⟨trivial, hk.2⟩))) (fun _ h_ => h_))); (case aB => exact (by repeat (first | (with_reducible first | exact HB.out | apply below_alloc | apply pw_below_drewN | apply below_drew1 | refine below_set ?_ GE287.out | refine below_set ?_ GE288.out) | exact HB.out))); (case aF => exact (fun _ _ => trivial)); (case aO => exact (by (with_reducible repeat (first | apply Kd.S_alloc | apply Kd.S_drewN | apply Kd.S_drew)); exact Kd.S_mono HO_289000.out (fun k_ hk => ⟨trivial, fun e_ => hk.2 e_⟩))); (case aS => exact (below_size (by repeat (first | (with_reducible first | exact HB.out | apply below_alloc | apply pw_below_drewN | apply below_drew1 | refine below_set ?_ GE287.out | refine below_set ?_ GE288.out) | exact HB.out)))); (case aL => have := LMc14.out; omega); intro v298 w18 ho hb hg hat; rw [← Ny297.out] at ho; have n0_ := Aside0.mk (Kd.R_over' (by (with_reducible repeat (first | apply Kd.R_alloc | apply Kd.R_drewN | apply Kd.R_drew)); exact HO_11.out) (Kd.S_typed (by (with_reducible repeat (first | apply Kd.S_alloc | apply Kd.S_drewN | apply Kd.S_drew)); exact HO_289000.out)) (by decide) hg); have n1_ := Aside0.mk (blk_grown (g := gb287) (o := .cells #[.slice none 0 0] 24 (0, 0)) (by (with_reducible repeat (first | refine blk_drewN ?_ _ | refine blk_drew ?_ | refine blk_alloc ?_ _)); exact BK287.out) hg (Kd.S_ne HO_289000.out BK287.out (by decide))); have n2_ := Aside0.mk (blk_grown (g := gb288) (o := .cells #[u289000] 24 (0, 0)) (by (with_reducible repeat (first | refine blk_drewN ?_ _ | refine blk_drew ?_ | refine blk_alloc ?_ _)); exact BK288.out) hg (Kd.S_ne HO_289000.out BK288.out (by decide))); have n3_ := Aside0.mk (hb); have n4_ := Aside0.mk (ho); clear HO_11; clear BK287; clear BK288; clear HB; clear HO_289000; clear HO296; have HO_11 := n0_; have BK287 := n1_; have BK288 := n2_; have HB := n3_; have HO299 := n4_; clear n0_ n1_ n2_ n3_ n4_; clear ho hb hg hat; obtain ⟨Ao20, co20, eo20⟩ := Kd.S_slice HO299.out; subst eo20; have hcz21_0 : w18.cell? ⟨gb288, 0, none⟩ = some (u289000) := (blk_cell BK288.out 0).trans rfl; have hfz21_0 := blk_frozen BK288.out 0))
                go_roundg k1
                case measure => have := HK1.out; omega
                case rel => exact ⟨(wrap64 (x13_1 + 1)), (y297), (.slice Ao20 y297.length co20), (by first | rfl | (simp; done) | (simp [*]; done)), H', ⟨by have := HK1.out; omega⟩, ⟨by (with_reducible repeat (first | apply Kd.R_alloc | apply Kd.R_drewN | apply Kd.R_drew)); exact Kd.R_mono (Kd.R_far (p := ⟨gb288, 0, none⟩) (Kd.R_types HO_11.out BK288.out (by decide)) (fun _ hk => hk.2) (.slice Ao20 y297.length co20)) (fun _ hk => trivial)⟩, ⟨by (with_reducible repeat (first | apply Kd.S_alloc | apply Kd.S_drewN | apply Kd.S_drew)); exact Kd.S_mono (Kd.S_far (p := ⟨gb288, 0, none⟩) (Kd.S_types HO299.out BK288.out (by decide)) (fun _ hk => hk.2) (.slice Ao20 y297.length co20)) (fun _ hk => trivial)⟩, ⟨by (with_reducible repeat (first | refine blk_drewN ?_ _ | refine blk_drew ?_ | refine blk_alloc ?_ _)); refine blk_far ?_ NB287_288.out _; (with_reducible repeat (first | refine blk_drewN ?_ _ | refine blk_drew ?_ | refine blk_alloc ?_ _)); exact BK287.out⟩, ⟨by (with_reducible repeat (first | refine blk_drewN ?_ _ | refine blk_drew ?_ | refine blk_alloc ?_ _)); refine blk_put (cs := #[u289000]) ?_ 0 _ rfl; (with_reducible repeat (first | refine blk_drewN ?_ _ | refine blk_drew ?_ | refine blk_alloc ?_ _)); exact BK288.out⟩, ⟨by repeat (first | (with_reducible first | exact HB.out | apply below_alloc | apply pw_below_drewN | apply below_drew1 | refine below_set ?_ GE287.out | refine below_set ?_ GE288.out) | exact HB.out)⟩⟩
              · rw [if_neg c14] at H
                exact absurd H (by simp)
            · replace c13 := Bool.eq_false_iff.mpr c13
              subst c13
              have H1 : (some (([] : List (List Int)), 6)) = some (r1, r2) := by rw [if_neg (show ¬ (false = true) by decide)] at H; exact H
              clear H
              have H := H1
              clear H1
              simp only [Option.some.injEq, Prod.mk.injEq] at H
              obtain ⟨rfl, rfl⟩ := H
              have p292 : 0 ≤ (x13_1 : Int) := of_decide_eq_true (by first | (with_reducible assumption) | assumption)
              have q292 : x13_1 < (t289.length : Int) := of_decide_eq_true (by first | (with_reducible assumption) | assumption)
              obtain ⟨ad292, e292, hx292_0⟩ := Kd.at_string (Kd.R_reads' HO_11.out).2.2 x13_1 p292 q292
              cases e292
              replace p292 := eq_true p292
              replace q292 := eq_true q292
              go_wp2_with (first | ((with_reducible refine gate_callee (f := 17) rfl ?_); refine goesL_ (some 19) rfl rfl Tryd.func17 (by kernel_rfl) rfl #[.string (rdOf ByteArray.empty t289 x13_1), .string (⟨#[46]⟩ : ByteArray), .int .i64 40] rfl (by (try simp only [List.map_toArray, List.map_cons, List.map_nil]); first | done | rfl | (simp only [List.length_drop, List.length_take]; rfl)) ?_; (with_reducible refine (impl_numbersOf.calls k1 (rdOf ByteArray.empty t289 x13_1) (⟨#[46]⟩ : ByteArray) 40 t293 false _ A12.out (HG.out.below (by repeat (first | (with_reducible first | exact HB.out | apply below_alloc | apply pw_below_drewN | apply below_drew1 | refine below_set ?_ GE287.out | refine below_set ?_ GE288.out) | exact HB.out)))).mono ?_); rintro e w22 ⟨v295, rfl, ho0, hb⟩; refine ⟨_, rfl, ?_⟩; have n0_ := Aside0.mk (Kd.R_below (by (with_reducible repeat (first | apply Kd.R_alloc | apply Kd.R_drewN | apply Kd.R_drew)); exact HO_11.out) hb); have n1_ := Aside0.mk (Kd.S_elder' (by (with_reducible repeat (first | apply Kd.S_alloc | apply Kd.S_drewN | apply Kd.S_drew)); exact HO_289000.out) (Kd.R_base ho0) hb); have n2_ := Aside0.mk (Kd.R_lower ho0 (below_size (by repeat (first | (with_reducible first | exact HB.out | apply below_alloc | apply pw_below_drewN | apply below_drew1 | refine below_set ?_ GE287.out | refine below_set ?_ GE288.out) | exact HB.out)))); have n3_ := Aside0.mk (blk_below (g := gb287) (o := .cells #[.slice none 0 0] 24 (0, 0)) (by (with_reducible repeat (first | refine blk_drewN ?_ _ | refine blk_drew ?_ | refine blk_alloc ?_ _)); exact BK287.out) hb); have n4_ := Aside0.mk (blk_below (g := gb288) (o := .cells #[u289000] 24 (0, 0)) (by (with_reducible repeat (first | refine blk_drewN ?_ _ | refine blk_drew ?_ | refine blk_alloc ?_ _)); exact BK288.out) hb); have n5_ := Aside0.mk (below_step (by repeat (first | (with_reducible first | exact HB.out | apply below_alloc | apply pw_below_drewN | apply below_drew1 | refine below_set ?_ GE287.out | refine below_set ?_ GE288.out) | exact HB.out)) hb); clear HO_11; clear HO_289000; clear BK287; clear BK288; clear HB; have HO_11 := n0_; have HO_289000 := n1_; have HO296 := n2_; have BK287 := n3_; have BK288 := n4_; have HB := n5_; clear n0_ n1_ n2_ n3_ n4_ n5_; (try clear hb); (try clear hb2); (try clear hk); (try clear hi); (try clear ho0); have hnb23 := NB287_288.out; have hnc23 := NB288_287.out; have hcz24_0 : w22.cell? ⟨gb287, 0, none⟩ = some (.slice none 0 0) := (blk_cell BK287.out 0).trans rfl; have hfz24_0 := blk_frozen BK287.out 0))
              refine bodyPost_ret (results_ct rfl _ _ gb287 24 #[.slice none 0 0] (0, 0) _ rfl (by (with_reducible repeat (first | refine blk_drewN ?_ _ | refine blk_drew ?_ | refine blk_alloc ?_ _)); refine blk_put (cs := #[.slice none 0 0]) ?_ 0 _ rfl; (with_reducible repeat (first | refine blk_drewN ?_ _ | refine blk_drew ?_ | refine blk_alloc ?_ _)); exact BK287.out) Tryd.underlying24 rfl (by kernel_rfl)) rfl ?_
              exact ⟨_, by first | rfl | (simp [errW_none, errW_some] <;> rfl) | (simp [*, errW_none, errW_some] <;> rfl), by first | exact Kd.S_nil _ _ _ _ _ | exact Kd.N_nil _ _ _ _ _ | exact Kd.V_nil _ _ _ _ _ | exact Kd.Q_nil _ _ _ _ _ | exact Kd.R_nil _ _ _ _ _, by repeat (first | (with_reducible first | exact HB.out | apply below_alloc | apply pw_below_drewN | apply below_drew1 | refine below_set ?_ GE287.out | refine below_set ?_ GE288.out) | exact HB.out)⟩
          · rw [if_neg c11] at H
            exact absurd H (by simp)
        · rw [if_neg c10] at H
          exact absurd H (by simp)
      · rw [if_neg c9] at H
        have c9b0 : decide (x13_1 < (t289.length : Int)) = false := decide_eq_false c9
        clear c9
        replace H := Option.bind_eq_some_iff.mp H
        obtain ⟨t300, A250, H⟩ := H
        replace H : (if t300 = true then (some (x289000_1, 0)) else (some (([] : List (List Int)), 6))) = some (r1, r2) := H
        have A25 := Aside0.mk A250
        clear A250
        by_cases c26 : t300 = true
        · subst c26
          have H1 : (some (x289000_1, 0)) = some (r1, r2) := by rw [if_pos rfl] at H; exact H
          clear H
          have H := H1
          clear H1
          simp only [Option.some.injEq, Prod.mk.injEq] at H
          obtain ⟨rfl, rfl⟩ := H
          have hnb27 := NB288_287.out
          have hnc27 := NB287_288.out
          have hcz28_0 : wr.cell? ⟨gb288, 0, none⟩ = some (u289000) := (blk_cell BK288.out 0).trans rfl
          have hfz28_0 := blk_frozen BK288.out 0
          obtain ⟨Ao29, co29, eo29⟩ := Kd.S_slice HO_289000.out
          subst eo29
          go_wp2_with (first | ((with_reducible refine gate_callee (f := 18) rfl ?_); refine goesL_ (some 33) rfl rfl Tryd.func18 (by kernel_rfl) rfl #[.agg #[.slice Ao29 x289000_1.length co29]] rfl (by (try simp only [List.map_toArray, List.map_cons, List.map_nil]); first | done | rfl | (simp only [List.length_drop, List.length_take]; rfl)) ?_; (with_reducible refine (impl_IsGame.calls k1 _ _ x289000_1 true _ ?side1 ?side2 A25.out).mono ?_); (case side1 => repeat (first | exact (Kd.S_reads' HO_289000.out).2.2 | (with_reducible refine Kd.C_alloc ?_ _) | (with_reducible refine Kd.C_drewN ?_ _) | (with_reducible refine Kd.C_drew ?_))); (case side2 => exact (Kd.S_reads' HO_289000.out).2.1); rintro e w30 ⟨rfl, hb⟩; refine ⟨_, rfl, ?_⟩; have n0_ := Aside0.mk (Kd.R_below (by (with_reducible repeat (first | apply Kd.R_alloc | apply Kd.R_drewN | apply Kd.R_drew)); exact HO_11.out) hb); have n1_ := Aside0.mk (Kd.S_below (by (with_reducible repeat (first | apply Kd.S_alloc | apply Kd.S_drewN | apply Kd.S_drew)); exact HO_289000.out) hb); have n2_ := Aside0.mk (blk_below (g := gb287) (o := .cells #[.slice none 0 0] 24 (0, 0)) (by (with_reducible repeat (first | refine blk_drewN ?_ _ | refine blk_drew ?_ | refine blk_alloc ?_ _)); exact BK287.out) hb); have n3_ := Aside0.mk (blk_below (g := gb288) (o := .cells #[.slice Ao29 x289000_1.length co29] 24 (0, 0)) (by (with_reducible repeat (first | refine blk_drewN ?_ _ | refine blk_drew ?_ | refine blk_alloc ?_ _)); exact BK288.out) hb); have n4_ := Aside0.mk (below_step (by repeat (first | (with_reducible first | exact HB.out | apply below_alloc | apply pw_below_drewN | apply below_drew1 | refine below_set ?_ GE287.out | refine below_set ?_ GE288.out) | exact HB.out)) hb); clear HO_11; clear HO_289000; clear BK287; clear BK288; clear HB; have HO_11 := n0_; have HO_289000 := n1_; have BK287 := n2_; have BK288 := n3_; have HB := n4_; clear n0_ n1_ n2_ n3_ n4_; (try clear hb); (try clear hb2); (try clear hk); (try clear hi); have hcz31_0 : w30.cell? ⟨gb288, 0, none⟩ = some (.slice Ao29 x289000_1.length co29) := (blk_cell BK288.out 0).trans rfl; have hfz31_0 := blk_frozen BK288.out 0; have hcz32_0 : w30.cell? ⟨gb287, 0, none⟩ = some (.slice none 0 0) := (blk_cell BK287.out 0).trans rfl; have hfz32_0 := blk_frozen BK287.out 0))
          refine bodyPost_ret (results_ct rfl _ _ gb287 24 #[.slice Ao29 x289000_1.length co29] (0, 0) _ rfl (by (with_reducible repeat (first | refine blk_drewN ?_ _ | refine blk_drew ?_ | refine blk_alloc ?_ _)); refine blk_put (cs := #[.slice none 0 0]) ?_ 0 _ rfl; (with_reducible repeat (first | refine blk_drewN ?_ _ | refine blk_drew ?_ | refine blk_alloc ?_ _)); exact BK287.out) Tryd.underlying24 rfl (by kernel_rfl)) rfl ?_
          exact ⟨_, by first | rfl | (simp [errW_none, errW_some] <;> rfl) | (simp [*, errW_none, errW_some] <;> rfl), by (with_reducible repeat (first | apply Kd.S_alloc | apply Kd.S_drewN | apply Kd.S_drew)); exact Kd.S_mono (Kd.S_far (p := ⟨gb287, 0, none⟩) (Kd.S_types HO_289000.out BK287.out (by decide)) (fun _ hk => hk.2) (.slice Ao29 x289000_1.length co29)) (fun _ hk => trivial), by repeat (first | (with_reducible first | exact HB.out | apply below_alloc | apply pw_below_drewN | apply below_drew1 | refine below_set ?_ GE287.out | refine below_set ?_ GE288.out) | exact HB.out)⟩
        · replace c26 := Bool.eq_false_iff.mpr c26
          subst c26
          have H1 : (some (([] : List (List Int)), 6)) = some (r1, r2) := by rw [if_neg (show ¬ (false = true) by decide)] at H; exact H
          clear H
          have H := H1
          clear H1
          simp only [Option.some.injEq, Prod.mk.injEq] at H
          obtain ⟨rfl, rfl⟩ := H
          have hnb33 := NB288_287.out
          have hnc33 := NB287_288.out
          have hcz34_0 : wr.cell? ⟨gb288, 0, none⟩ = some (u289000) := (blk_cell BK288.out 0).trans rfl
          have hfz34_0 := blk_frozen BK288.out 0
          obtain ⟨Ao35, co35, eo35⟩ := Kd.S_slice HO_289000.out
          subst eo35
          go_wp2_with (first | ((with_reducible refine gate_callee (f := 18) rfl ?_); refine goesL_ (some 33) rfl rfl Tryd.func18 (by kernel_rfl) rfl #[.agg #[.slice Ao35 x289000_1.length co35]] rfl (by (try simp only [List.map_toArray, List.map_cons, List.map_nil]); first | done | rfl | (simp only [List.length_drop, List.length_take]; rfl)) ?_; (with_reducible refine (impl_IsGame.calls k1 _ _ x289000_1 false _ ?side1 ?side2 A25.out).mono ?_); (case side1 => repeat (first | exact (Kd.S_reads' HO_289000.out).2.2 | (with_reducible refine Kd.C_alloc ?_ _) | (with_reducible refine Kd.C_drewN ?_ _) | (with_reducible refine Kd.C_drew ?_))); (case side2 => exact (Kd.S_reads' HO_289000.out).2.1); rintro e w36 ⟨rfl, hb⟩; refine ⟨_, rfl, ?_⟩; have n0_ := Aside0.mk (Kd.R_below (by (with_reducible repeat (first | apply Kd.R_alloc | apply Kd.R_drewN | apply Kd.R_drew)); exact HO_11.out) hb); have n1_ := Aside0.mk (Kd.S_below (by (with_reducible repeat (first | apply Kd.S_alloc | apply Kd.S_drewN | apply Kd.S_drew)); exact HO_289000.out) hb); have n2_ := Aside0.mk (blk_below (g := gb287) (o := .cells #[.slice none 0 0] 24 (0, 0)) (by (with_reducible repeat (first | refine blk_drewN ?_ _ | refine blk_drew ?_ | refine blk_alloc ?_ _)); exact BK287.out) hb); have n3_ := Aside0.mk (blk_below (g := gb288) (o := .cells #[.slice Ao35 x289000_1.length co35] 24 (0, 0)) (by (with_reducible repeat (first | refine blk_drewN ?_ _ | refine blk_drew ?_ | refine blk_alloc ?_ _)); exact BK288.out) hb); have n4_ := Aside0.mk (below_step (by repeat (first | (with_reducible first | exact HB.out | apply below_alloc | apply pw_below_drewN | apply below_drew1 | refine below_set ?_ GE287.out | refine below_set ?_ GE288.out) | exact HB.out)) hb); clear HO_11; clear HO_289000; clear BK287; clear BK288; clear HB; have HO_11 := n0_; have HO_289000 := n1_; have BK287 := n2_; have BK288 := n3_; have HB := n4_; clear n0_ n1_ n2_ n3_ n4_; (try clear hb); (try clear hb2); (try clear hk); (try clear hi); have hcz37_0 : w36.cell? ⟨gb287, 0, none⟩ = some (.slice none 0 0) := (blk_cell BK287.out 0).trans rfl; have hfz37_0 := blk_frozen BK287.out 0))
          refine bodyPost_ret (results_ct rfl _ _ gb287 24 #[.slice none 0 0] (0, 0) _ rfl (by (with_reducible repeat (first | refine blk_drewN ?_ _ | refine blk_drew ?_ | refine blk_alloc ?_ _)); refine blk_put (cs := #[.slice none 0 0]) ?_ 0 _ rfl; (with_reducible repeat (first | refine blk_drewN ?_ _ | refine blk_drew ?_ | refine blk_alloc ?_ _)); exact BK287.out) Tryd.underlying24 rfl (by kernel_rfl)) rfl ?_
          exact ⟨_, by first | rfl | (simp [errW_none, errW_some] <;> rfl) | (simp [*, errW_none, errW_some] <;> rfl), by first | exact Kd.S_nil _ _ _ _ _ | exact Kd.N_nil _ _ _ _ _ | exact Kd.V_nil _ _ _ _ _ | exact Kd.Q_nil _ _ _ _ _ | exact Kd.R_nil _ _ _ _ _, by repeat (first | (with_reducible first | exact HB.out | apply below_alloc | apply pw_below_drewN | apply below_drew1 | refine below_set ?_ GE287.out | refine below_set ?_ GE288.out) | exact HB.out)⟩

/-! ### laws_eqInt64SS: function 19 -/
def laws_eqInt64SS.l0 : Nat → List (List Int) → List (List Int) → Int → Option (Bool)
  | 0, _, _, _ => none
  | k + 1, x0, x1, x5 => if x5 < (x0.length : Int) then (if 0 ≤ x5 then (if x5 < (x1.length : Int) then ((laws_eqInt64S.f k (rd_L3 x0 x5) (rd_L3 x1 x5)).bind fun t303 => (if t303 = true then (laws_eqInt64SS.l0 k x0 x1 (wrap64 (x5 + 1))) else (some false))) else (none)) else (none)) else (some true)
def laws_eqInt64SS.f (k : Nat) (l0 : List (List Int)) (l1 : List (List Int)) : Option (Bool) := if (l0.length : Int) = (l1.length : Int) then (laws_eqInt64SS.l0 k l0 l1 0) else (some false)
theorem laws_eqInt64SS.mono_l : ∀ k, (∀ y0 y1 y2, LeO (laws_eqInt64SS.l0 k y0 y1 y2) (laws_eqInt64SS.l0 (k + 1) y0 y1 y2))
  | 0 => fun _ _ _ r h => by simp [laws_eqInt64SS.l0] at h
  | k + 1 => by
    have ih0 := laws_eqInt64SS.mono_l k
    · intro y0 y1 y2
      unfold laws_eqInt64SS.l0
      repeat' first
      | (with_reducible exact ih0 _ _ _)
      | (with_reducible exact laws_eqInt64S.mono _ _ _)
      | (with_reducible exact LeO.refl _)
      | (with_reducible exact LeO.none _)
      | (with_reducible refine LeO.ite ?_ ?_)
      | (with_reducible refine LeO.bind ?_ (fun _ => ?_))
      | exact ih0 _ _ _
      | exact laws_eqInt64S.mono _ _ _
      | exact LeO.none _
      | refine LeO.ite ?_ ?_
      | refine LeO.bind ?_ (fun _ => ?_)
theorem laws_eqInt64SS.mono : ∀ a0 a1 k, LeO (laws_eqInt64SS.f k a0 a1) (laws_eqInt64SS.f (k + 1) a0 a1) := by
  intro a0 a1 k
  have ih0 := laws_eqInt64SS.mono_l k
  unfold laws_eqInt64SS.f
  repeat' first
      | (with_reducible exact ih0 _ _ _)
      | (with_reducible exact laws_eqInt64S.mono _ _ _)
      | (with_reducible exact LeO.refl _)
      | (with_reducible exact LeO.none _)
      | (with_reducible refine LeO.ite ?_ ?_)
      | (with_reducible refine LeO.bind ?_ (fun _ => ?_))
      | exact ih0 _ _ _
      | exact laws_eqInt64S.mono _ _ _
      | exact LeO.none _
      | refine LeO.ite ?_ ?_
      | refine LeO.bind ?_ (fun _ => ?_)
set_option maxHeartbeats 8000000 in
set_option maxRecDepth 100000 in
theorem laws_eqInt64SS.calls (k : Nat) (A0 : Option Addr) (c0 : Nat) (l0 : List (List Int)) (A1 : Option Addr) (c1 : Nat) (l1 : List (List Int)) (r : Bool) (w : World) (hr0 : Kd.C (Kd.slice 2 (Kd.int .i64)) w A0 l0.length l0) (hc0 : l0.length ≤ c0) (hr1 : Kd.C (Kd.slice 2 (Kd.int .i64)) w A1 l1.length l1) (hc1 : l1.length ≤ c1) (h : laws_eqInt64SS.f k l0 l1 = some r) :
    Calls Tryd.prog 19 #[.slice A0 l0.length c0, .slice A1 l1.length c1] w fun e w' => e = .returned (.bool r) ∧ Drawn0 w w' := by
  have HR0 := Aside0.mk hr0
  have HC0 := Aside0.mk hc0
  clear hr0 hc0
  have HR1 := Aside0.mk hr1
  have HC1 := Aside0.mk hc1
  clear hr1 hc1
  have H : (if (l0.length : Int) = (l1.length : Int) then (laws_eqInt64SS.l0 k l0 l1 0) else (some false)) = some r := h
  clear h
  by_cases c3 : (l0.length : Int) = (l1.length : Int)
  · rw [if_pos c3] at H
    have c3b0 : ((l0.length : Int) == (l1.length : Int)) = true := beq_iff_eq.mpr c3
    have c3b1 : ((l0.length : Int) != (l1.length : Int)) = false := bne_eq_false_iff_eq.mpr c3
    have c3b2 : (l0.length == l1.length) = true := by first | simpa using c3 | (simp at c3 ⊢; omega)
    clear c3
    have H' := Aside0.mk H
    clear H
    go_enter Tryd.func19, Tryd.ntmps19
    go_wp2
    repeat (go_quiet (fail); try go_wp2)
    go_loopg [5] k (fun kq v5 w' => ∃ (x5_1 : Int), v5 = .int .i64 x5_1 ∧ Aside0 (laws_eqInt64SS.l0 kq l0 l1 x5_1 = some r) ∧ Aside0 (kq ≤ k) ∧ Drawn0 w w')
    case atStart => exact ⟨(0), (by first | rfl | (simp; done) | (simp [*]; done)), H', ⟨Nat.le_refl _⟩, by repeat (first | exact Drawn0.refl _ | apply Drawn0.step)⟩
    case round =>
      clear H'
      try clear c1
      try clear p2
      try clear c3
      try clear c3b0
      try clear c3b1
      try clear c3b2
      obtain ⟨x5_1, rfl, HA, HK1, ⟨m1, rfl⟩⟩ := hrel
      cases gk with
      | zero => exact absurd HA.out (by simp [laws_eqInt64SS.l0])
      | succ k1 =>
        have H := HA.out
        clear HA
        simp only [laws_eqInt64SS.l0] at H
        by_cases c4 : x5_1 < (l0.length : Int)
        · rw [if_pos c4] at H
          have c4b0 : decide (x5_1 < (l0.length : Int)) = true := decide_eq_true c4
          clear c4
          by_cases c5 : 0 ≤ x5_1
          · rw [if_pos c5] at H
            have c5b0 : decide (0 ≤ x5_1) = true := decide_eq_true c5
            clear c5
            by_cases c6 : x5_1 < (l1.length : Int)
            · rw [if_pos c6] at H
              have c6b0 : decide (x5_1 < (l1.length : Int)) = true := decide_eq_true c6
              clear c6
              replace H := Option.bind_eq_some_iff.mp H
              obtain ⟨t303, A70, H⟩ := H
              replace H : (if t303 = true then (laws_eqInt64SS.l0 k1 l0 l1 (wrap64 (x5_1 + 1))) else (some false)) = some r := H
              have A7 := Aside0.mk A70
              clear A70
              by_cases c8 : t303 = true
              · subst c8
                have H1 : (laws_eqInt64SS.l0 k1 l0 l1 (wrap64 (x5_1 + 1))) = some r := by rw [if_pos rfl] at H; exact H
                clear H
                have H := H1
                clear H1
                have H' := Aside0.mk H
                clear H
                have p301 : 0 ≤ (x5_1 : Int) := of_decide_eq_true (by first | (with_reducible assumption) | assumption)
                have q301 : x5_1 < (l0.length : Int) := of_decide_eq_true (by first | (with_reducible assumption) | assumption)
                obtain ⟨ad301, A301_0, c301_0, e301, hx301_0, hl301_0, hi301_0⟩ := at_L3 HR0.out x5_1 p301 q301
                cases e301
                have HR301_0 := Aside0.mk hi301_0
                have HC301_0 := Aside0.mk hl301_0
                clear hi301_0 hl301_0
                replace p301 := eq_true p301
                replace q301 := eq_true q301
                have p302 : 0 ≤ (x5_1 : Int) := of_decide_eq_true (by first | (with_reducible assumption) | assumption)
                have q302 : x5_1 < (l1.length : Int) := of_decide_eq_true (by first | (with_reducible assumption) | assumption)
                obtain ⟨ad302, A302_0, c302_0, e302, hx302_0, hl302_0, hi302_0⟩ := at_L3 HR1.out x5_1 p302 q302
                cases e302
                have HR302_0 := Aside0.mk hi302_0
                have HC302_0 := Aside0.mk hl302_0
                clear hi302_0 hl302_0
                replace p302 := eq_true p302
                replace q302 := eq_true q302
                go_wp2_with (first | (go_at_call 27; (with_reducible refine (laws_eqInt64S.calls k1 _ _ (rd_L3 l0 x5_1) _ _ (rd_L3 l1 x5_1) true _ ?side1 ?side2 ?side3 ?side4 A7.out).mono ?_); (case side1 => repeat (first | exact HR301_0.out | (with_reducible refine Kd.C_alloc ?_ _) | (with_reducible refine Kd.C_drewN ?_ _) | (with_reducible refine Kd.C_drew ?_))); (case side2 => exact HC301_0.out); (case side3 => repeat (first | exact HR302_0.out | (with_reducible refine Kd.C_alloc ?_ _) | (with_reducible refine Kd.C_drewN ?_ _) | (with_reducible refine Kd.C_drew ?_))); (case side4 => exact HC302_0.out); rintro e w' ⟨rfl, ⟨nd, rfl⟩⟩; (try first | exact ⟨rfl, _, World.drewN_drewN _ _ _⟩ | exact ⟨rfl, _, Eq.trans (World.drewN_drewN _ _ _) (congrArg (World.drewN _) (Nat.add_assoc _ _ _))⟩)))
                repeat (go_quiet (first | (go_at_call 27; (with_reducible refine (laws_eqInt64S.calls k1 _ _ (rd_L3 l0 x5_1) _ _ (rd_L3 l1 x5_1) true _ ?side1 ?side2 ?side3 ?side4 A7.out).mono ?_); (case side1 => repeat (first | exact HR301_0.out | (with_reducible refine Kd.C_alloc ?_ _) | (with_reducible refine Kd.C_drewN ?_ _) | (with_reducible refine Kd.C_drew ?_))); (case side2 => exact HC301_0.out); (case side3 => repeat (first | exact HR302_0.out | (with_reducible refine Kd.C_alloc ?_ _) | (with_reducible refine Kd.C_drewN ?_ _) | (with_reducible refine Kd.C_drew ?_))); (case side4 => exact HC302_0.out); rintro e w' ⟨rfl, ⟨nd, rfl⟩⟩; (try first | exact ⟨rfl, _, World.drewN_drewN _ _ _⟩ | exact ⟨rfl, _, Eq.trans (World.drewN_drewN _ _ _) (congrArg (World.drewN _) (Nat.add_assoc _ _ _))⟩))); try go_wp2_with (first | (go_at_call 27; (with_reducible refine (laws_eqInt64S.calls k1 _ _ (rd_L3 l0 x5_1) _ _ (rd_L3 l1 x5_1) true _ ?side1 ?side2 ?side3 ?side4 A7.out).mono ?_); (case side1 => repeat (first | exact HR301_0.out | (with_reducible refine Kd.C_alloc ?_ _) | (with_reducible refine Kd.C_drewN ?_ _) | (with_reducible refine Kd.C_drew ?_))); (case side2 => exact HC301_0.out); (case side3 => repeat (first | exact HR302_0.out | (with_reducible refine Kd.C_alloc ?_ _) | (with_reducible refine Kd.C_drewN ?_ _) | (with_reducible refine Kd.C_drew ?_))); (case side4 => exact HC302_0.out); rintro e w' ⟨rfl, ⟨nd, rfl⟩⟩; (try first | exact ⟨rfl, _, World.drewN_drewN _ _ _⟩ | exact ⟨rfl, _, Eq.trans (World.drewN_drewN _ _ _) (congrArg (World.drewN _) (Nat.add_assoc _ _ _))⟩))))
                go_roundg k1
                case measure => have := HK1.out; omega
                case rel => exact ⟨(wrap64 (x5_1 + 1)), (by first | rfl | (simp; done) | (simp [*]; done)), H', ⟨by have := HK1.out; omega⟩, by repeat (first | exact Drawn0.refl _ | apply Drawn0.step)⟩
              · replace c8 := Bool.eq_false_iff.mpr c8
                subst c8
                have H1 : (some false) = some r := by rw [if_neg (show ¬ (false = true) by decide)] at H; exact H
                clear H
                have H := H1
                clear H1
                obtain rfl := Option.some.inj H
                have p301 : 0 ≤ (x5_1 : Int) := of_decide_eq_true (by first | (with_reducible assumption) | assumption)
                have q301 : x5_1 < (l0.length : Int) := of_decide_eq_true (by first | (with_reducible assumption) | assumption)
                obtain ⟨ad301, A301_0, c301_0, e301, hx301_0, hl301_0, hi301_0⟩ := at_L3 HR0.out x5_1 p301 q301
                cases e301
                have HR301_0 := Aside0.mk hi301_0
                have HC301_0 := Aside0.mk hl301_0
                clear hi301_0 hl301_0
                replace p301 := eq_true p301
                replace q301 := eq_true q301
                have p302 : 0 ≤ (x5_1 : Int) := of_decide_eq_true (by first | (with_reducible assumption) | assumption)
                have q302 : x5_1 < (l1.length : Int) := of_decide_eq_true (by first | (with_reducible assumption) | assumption)
                obtain ⟨ad302, A302_0, c302_0, e302, hx302_0, hl302_0, hi302_0⟩ := at_L3 HR1.out x5_1 p302 q302
                cases e302
                have HR302_0 := Aside0.mk hi302_0
                have HC302_0 := Aside0.mk hl302_0
                clear hi302_0 hl302_0
                replace p302 := eq_true p302
                replace q302 := eq_true q302
                go_wp2_with (first | (go_at_call 27; (with_reducible refine (laws_eqInt64S.calls k1 _ _ (rd_L3 l0 x5_1) _ _ (rd_L3 l1 x5_1) false _ ?side1 ?side2 ?side3 ?side4 A7.out).mono ?_); (case side1 => repeat (first | exact HR301_0.out | (with_reducible refine Kd.C_alloc ?_ _) | (with_reducible refine Kd.C_drewN ?_ _) | (with_reducible refine Kd.C_drew ?_))); (case side2 => exact HC301_0.out); (case side3 => repeat (first | exact HR302_0.out | (with_reducible refine Kd.C_alloc ?_ _) | (with_reducible refine Kd.C_drewN ?_ _) | (with_reducible refine Kd.C_drew ?_))); (case side4 => exact HC302_0.out); rintro e w' ⟨rfl, ⟨nd, rfl⟩⟩; (try first | exact ⟨rfl, _, World.drewN_drewN _ _ _⟩ | exact ⟨rfl, _, Eq.trans (World.drewN_drewN _ _ _) (congrArg (World.drewN _) (Nat.add_assoc _ _ _))⟩)))
                repeat (go_quiet (first | (go_at_call 27; (with_reducible refine (laws_eqInt64S.calls k1 _ _ (rd_L3 l0 x5_1) _ _ (rd_L3 l1 x5_1) false _ ?side1 ?side2 ?side3 ?side4 A7.out).mono ?_); (case side1 => repeat (first | exact HR301_0.out | (with_reducible refine Kd.C_alloc ?_ _) | (with_reducible refine Kd.C_drewN ?_ _) | (with_reducible refine Kd.C_drew ?_))); (case side2 => exact HC301_0.out); (case side3 => repeat (first | exact HR302_0.out | (with_reducible refine Kd.C_alloc ?_ _) | (with_reducible refine Kd.C_drewN ?_ _) | (with_reducible refine Kd.C_drew ?_))); (case side4 => exact HC302_0.out); rintro e w' ⟨rfl, ⟨nd, rfl⟩⟩; (try first | exact ⟨rfl, _, World.drewN_drewN _ _ _⟩ | exact ⟨rfl, _, Eq.trans (World.drewN_drewN _ _ _) (congrArg (World.drewN _) (Nat.add_assoc _ _ _))⟩))); try go_wp2_with (first | (go_at_call 27; (with_reducible refine (laws_eqInt64S.calls k1 _ _ (rd_L3 l0 x5_1) _ _ (rd_L3 l1 x5_1) false _ ?side1 ?side2 ?side3 ?side4 A7.out).mono ?_); (case side1 => repeat (first | exact HR301_0.out | (with_reducible refine Kd.C_alloc ?_ _) | (with_reducible refine Kd.C_drewN ?_ _) | (with_reducible refine Kd.C_drew ?_))); (case side2 => exact HC301_0.out); (case side3 => repeat (first | exact HR302_0.out | (with_reducible refine Kd.C_alloc ?_ _) | (with_reducible refine Kd.C_drewN ?_ _) | (with_reducible refine Kd.C_drew ?_))); (case side4 => exact HC302_0.out); rintro e w' ⟨rfl, ⟨nd, rfl⟩⟩; (try first | exact ⟨rfl, _, World.drewN_drewN _ _ _⟩ | exact ⟨rfl, _, Eq.trans (World.drewN_drewN _ _ _) (congrArg (World.drewN _) (Nat.add_assoc _ _ _))⟩))))
                go_ret
                exact ⟨by first | rfl | (simp; done) | (simp [*]; done), by repeat (first | exact Drawn0.refl _ | apply Drawn0.step)⟩
            · rw [if_neg c6] at H
              exact absurd H (by simp)
          · rw [if_neg c5] at H
            exact absurd H (by simp)
        · rw [if_neg c4] at H
          have c4b0 : decide (x5_1 < (l0.length : Int)) = false := decide_eq_false c4
          clear c4
          obtain rfl := Option.some.inj H
          go_wp2
          repeat (go_quiet (fail); try go_wp2)
          go_ret
          exact ⟨by first | rfl | (simp; done) | (simp [*]; done), by repeat (first | exact Drawn0.refl _ | apply Drawn0.step)⟩
  · rw [if_neg c3] at H
    have c3b0 : ((l0.length : Int) == (l1.length : Int)) = false := beq_eq_false_iff_ne.mpr c3
    have c3b1 : ((l0.length : Int) != (l1.length : Int)) = true := bne_iff_ne.mpr c3
    have c3b2 : (l0.length == l1.length) = false := by first | simpa using c3 | (simp at c3 ⊢; omega)
    obtain rfl := Option.some.inj H
    go_enter Tryd.func19, Tryd.ntmps19
    go_wp2
    repeat (go_quiet (fail); try go_wp2)
    go_ret
    exact ⟨by first | rfl | (simp; done) | (simp [*]; done), by repeat (first | exact Drawn0.refl _ | apply Drawn0.step)⟩

end Go.Proofs.YtcjfofcgbpbdmaaDoor.PX

namespace Go.Proofs.YtcjfofcgbpbdmaaDoor.PX
open Go.RowKit Go.Proofs.YtcjfofcgbpbdmaaDoorW.PrintWords Go.Proofs.YtcjfofcgbpbdmaaDoorW.PrintLast Go.Proofs.YtcjfofcgbpbdmaaDoorW.PrintMore
attribute [local go_sem] max2_int min2_int max_two min_two max_three min_three max_four min_four   -- for this text's walks alone
set_option linter.unusedVariables false
set_option linter.unusedSimpArgs false

/-! ### laws_eqGame: function 7 -/
def laws_eqGame.f (k : Nat) (l0_0 : List (List Int)) (l1_0 : List (List Int)) : Option (Bool) := (laws_eqInt64SS.f k l0_0 l1_0).bind fun t306 => (if t306 = true then (some true) else (some false))
theorem laws_eqGame.mono : ∀ a0 a1 k, LeO (laws_eqGame.f k a0 a1) (laws_eqGame.f (k + 1) a0 a1) := by
  intro a0 a1 k
  unfold laws_eqGame.f
  repeat' first
      | (with_reducible exact laws_eqInt64SS.mono _ _ _)
      | (with_reducible exact LeO.refl _)
      | (with_reducible exact LeO.none _)
      | (with_reducible refine LeO.ite ?_ ?_)
      | (with_reducible refine LeO.bind ?_ (fun _ => ?_))
      | exact laws_eqInt64SS.mono _ _ _
      | exact LeO.none _
      | refine LeO.ite ?_ ?_
      | refine LeO.bind ?_ (fun _ => ?_)
set_option maxHeartbeats 8000000 in
set_option maxRecDepth 100000 in
theorem laws_eqGame.calls (k : Nat) (A0_0 : Option Addr) (c0_0 : Nat) (l0_0 : List (List Int)) (A1_0 : Option Addr) (c1_0 : Nat) (l1_0 : List (List Int)) (r : Bool) (w : World) (hr0_0 : Kd.C (Kd.slice 2 (Kd.int .i64)) w A0_0 l0_0.length l0_0) (hc0_0 : l0_0.length ≤ c0_0) (hr1_0 : Kd.C (Kd.slice 2 (Kd.int .i64)) w A1_0 l1_0.length l1_0) (hc1_0 : l1_0.length ≤ c1_0) (h : laws_eqGame.f k l0_0 l1_0 = some r) :
    Calls Tryd.prog 7 #[.agg #[.slice A0_0 l0_0.length c0_0], .agg #[.slice A1_0 l1_0.length c1_0]] w fun e w' => e = .returned (.bool r) ∧ Below w.heap.size w w' := by
  have hu24 := Tryd.underlying24
  have HR0_0 := Aside0.mk hr0_0
  have HC0_0 := Aside0.mk hc0_0
  clear hr0_0 hc0_0
  have HR1_0 := Aside0.mk hr1_0
  have HC1_0 := Aside0.mk hc1_0
  clear hr1_0 hc1_0
  have HB := Aside0.mk (Below.refl w.heap.size w)
  have H : ((laws_eqInt64SS.f k l0_0 l1_0).bind fun t306 => (if t306 = true then (some true) else (some false))) = some r := h
  clear h
  replace H := Option.bind_eq_some_iff.mp H
  obtain ⟨t306, A30, H⟩ := H
  replace H : (if t306 = true then (some true) else (some false)) = some r := H
  have A3 := Aside0.mk A30
  clear A30
  by_cases c4 : t306 = true
  · subst c4
    have H1 : (some true) = some r := by rw [if_pos rfl] at H; exact H
    clear H
    have H := H1
    clear H1
    obtain rfl := Option.some.inj H
    go_enter Tryd.func7, Tryd.ntmps7
    go_wp2_with (first | ((with_reducible refine gate_dst (N := 2) rfl ?_); refine box_event ?hg (N := 2) ?hd (cs := #[.slice A0_0 l0_0.length c0_0]) (t := 24) ?hr ?_; (case hd => rfl); (case hg => rfl); (case hr => first | (go_simp; done) | (go_simp; rfl)); intro gb304 hg w5 hbox hb; have n0_ := Aside0.mk (below_step (by repeat (first | (with_reducible first | exact HB.out | apply below_alloc | apply pw_below_drewN | apply below_drew1) | exact HB.out)) hb); have n1_ := Aside0.mk (hbox); have n2_ := Aside0.mk ((by rw [hg]; exact (below_size (by repeat (first | (with_reducible first | exact HB.out | apply below_alloc | apply pw_below_drewN | apply below_drew1) | exact HB.out))) : w.heap.size ≤ gb304)); have n3_ := Aside0.mk ((by rw [hg]; exact (below_size (by repeat (first | (with_reducible first | exact HB.out | apply below_alloc | apply pw_below_drewN | apply below_drew1) | exact HB.out))) : w.heap.size ≤ gb304)); clear HB; have HB := n0_; have BK304 := n1_; have GW304 := n2_; have GE304 := n3_; clear n0_ n1_ n2_ n3_; clear hb hbox hg) | ((with_reducible refine gate_dst (N := 3) rfl ?_); refine box_event ?hg (N := 3) ?hd (cs := #[.slice A1_0 l1_0.length c1_0]) (t := 24) ?hr ?_; (case hd => rfl); (case hg => rfl); (case hr => first | (go_simp; done) | (go_simp; rfl)); intro gb305 hg w6 hbox hb; have n0_ := Aside0.mk (blk_below (g := gb304) (o := .cells #[.slice A0_0 l0_0.length c0_0] 24 (0, 0)) (by (with_reducible repeat (first | refine blk_drewN ?_ _ | refine blk_drew ?_ | refine blk_alloc ?_ _)); exact BK304.out) hb); have n1_ := Aside0.mk (below_step (by repeat (first | (with_reducible first | exact HB.out | apply below_alloc | apply pw_below_drewN | apply below_drew1 | refine below_set ?_ GE304.out) | exact HB.out)) hb); have n2_ := Aside0.mk (hbox); have n3_ := Aside0.mk ((by rw [hg]; exact (below_size (by repeat (first | (with_reducible first | exact HB.out | apply below_alloc | apply pw_below_drewN | apply below_drew1 | refine below_set ?_ GE304.out) | exact HB.out))) : w.heap.size ≤ gb305)); have n4_ := Aside0.mk ((by rw [hg]; exact (below_size (by repeat (first | (with_reducible first | exact HB.out | apply below_alloc | apply pw_below_drewN | apply below_drew1 | refine below_set ?_ GE304.out) | exact HB.out))) : w.heap.size ≤ gb305)); have n5_ := Aside0.mk ((by rw [hg]; exact Nat.ne_of_lt (blk_lt (g := gb304) (o := .cells #[.slice A0_0 l0_0.length c0_0] 24 (0, 0)) (by (with_reducible repeat (first | refine blk_drewN ?_ _ | refine blk_drew ?_ | refine blk_alloc ?_ _)); exact BK304.out)) : gb304 ≠ gb305)); have n6_ := Aside0.mk ((by rw [hg]; exact Nat.ne_of_gt (blk_lt (g := gb304) (o := .cells #[.slice A0_0 l0_0.length c0_0] 24 (0, 0)) (by (with_reducible repeat (first | refine blk_drewN ?_ _ | refine blk_drew ?_ | refine blk_alloc ?_ _)); exact BK304.out)) : gb305 ≠ gb304)); clear BK304; clear HB; have BK304 := n0_; have HB := n1_; have BK305 := n2_; have GW305 := n3_; have GE305 := n4_; have NB304_305 := n5_; have NB305_304 := n6_; clear n0_ n1_ n2_ n3_ n4_ n5_ n6_; clear hb hbox hg; have hnb7 := NB304_305.out; have hnc7 := NB305_304.out; have hcz8_0 : w6.cell? ⟨gb304, 0, none⟩ = some (.slice A0_0 l0_0.length c0_0) := (blk_cell BK304.out 0).trans rfl; have hfz8_0 := blk_frozen BK304.out 0; have hcz9_0 : w6.cell? ⟨gb305, 0, none⟩ = some (.slice A1_0 l1_0.length c1_0) := (blk_cell BK305.out 0).trans rfl; have hfz9_0 := blk_frozen BK305.out 0) | ((with_reducible refine gate_callee (f := 19) rfl ?_); refine goesL_ (some 9) rfl rfl Tryd.func19 (by kernel_rfl) rfl #[.slice A0_0 l0_0.length c0_0, .slice A1_0 l1_0.length c1_0] rfl (by (try simp only [List.map_toArray, List.map_cons, List.map_nil]); first | done | rfl | (simp only [List.length_drop, List.length_take]; rfl)) ?_; (with_reducible refine (laws_eqInt64SS.calls k _ _ l0_0 _ _ l1_0 true _ ?side1 ?side2 ?side3 ?side4 A3.out).mono ?_); (case side1 => repeat (first | exact (Kd.C_below HR0_0.out HB.out) | (with_reducible refine Kd.C_alloc ?_ _) | (with_reducible refine Kd.C_drewN ?_ _) | (with_reducible refine Kd.C_drew ?_))); (case side2 => exact HC0_0.out); (case side3 => repeat (first | exact (Kd.C_below HR1_0.out HB.out) | (with_reducible refine Kd.C_alloc ?_ _) | (with_reducible refine Kd.C_drewN ?_ _) | (with_reducible refine Kd.C_drew ?_))); (case side4 => exact HC1_0.out); rintro e w' ⟨rfl, ⟨nd, rfl⟩⟩; refine ⟨_, rfl, ?_⟩))
    go_ret
    exact ⟨by first | rfl | (simp [errW_none, errW_some] <;> rfl) | (simp [*, errW_none, errW_some] <;> rfl), by repeat (first | (with_reducible first | exact HB.out | apply below_alloc | apply pw_below_drewN | apply below_drew1 | refine below_set ?_ GE304.out | refine below_set ?_ GE305.out) | exact HB.out)⟩
  · replace c4 := Bool.eq_false_iff.mpr c4
    subst c4
    have H1 : (some false) = some r := by rw [if_neg (show ¬ (false = true) by decide)] at H; exact H
    clear H
    have H := H1
    clear H1
    obtain rfl := Option.some.inj H
    go_enter Tryd.func7, Tryd.ntmps7
    go_wp2_with (first | ((with_reducible refine gate_dst (N := 2) rfl ?_); refine box_event ?hg (N := 2) ?hd (cs := #[.slice A0_0 l0_0.length c0_0]) (t := 24) ?hr ?_; (case hd => rfl); (case hg => rfl); (case hr => first | (go_simp; done) | (go_simp; rfl)); intro gb304 hg w10 hbox hb; have n0_ := Aside0.mk (below_step (by repeat (first | (with_reducible first | exact HB.out | apply below_alloc | apply pw_below_drewN | apply below_drew1) | exact HB.out)) hb); have n1_ := Aside0.mk (hbox); have n2_ := Aside0.mk ((by rw [hg]; exact (below_size (by repeat (first | (with_reducible first | exact HB.out | apply below_alloc | apply pw_below_drewN | apply below_drew1) | exact HB.out))) : w.heap.size ≤ gb304)); have n3_ := Aside0.mk ((by rw [hg]; exact (below_size (by repeat (first | (with_reducible first | exact HB.out | apply below_alloc | apply pw_below_drewN | apply below_drew1) | exact HB.out))) : w.heap.size ≤ gb304)); clear HB; have HB := n0_; have BK304 := n1_; have GW304 := n2_; have GE304 := n3_; clear n0_ n1_ n2_ n3_; clear hb hbox hg) | ((with_reducible refine gate_dst (N := 3) rfl ?_); refine box_event ?hg (N := 3) ?hd (cs := #[.slice A1_0 l1_0.length c1_0]) (t := 24) ?hr ?_; (case hd => rfl); (case hg => rfl); (case hr => first | (go_simp; done) | (go_simp; rfl)); intro gb305 hg w11 hbox hb; have n0_ := Aside0.mk (blk_below (g := gb304) (o := .cells #[.slice A0_0 l0_0.length c0_0] 24 (0, 0)) (by (with_reducible repeat (first | refine blk_drewN ?_ _ | refine blk_drew ?_ | refine blk_alloc ?_ _)); exact BK304.out) hb); have n1_ := Aside0.mk (below_step (by repeat (first | (with_reducible first | exact HB.out | apply below_alloc | apply pw_below_drewN | apply below_drew1 | refine below_set ?_ GE304.out) | exact HB.out)) hb); have n2_ := Aside0.mk (hbox); have n3_ := Aside0.mk ((by rw [hg]; exact (below_size (by repeat (first | (with_reducible first | exact HB.out | apply below_alloc | apply pw_below_drewN | apply below_drew1 | refine below_set ?_ GE304.out) | exact HB.out))) : w.heap.size ≤ gb305)); have n4_ := Aside0.mk ((by rw [hg]; exact (below_size (by repeat (first | (with_reducible first | exact HB.out | apply below_alloc | apply pw_below_drewN | apply below_drew1 | refine below_set ?_ GE304.out) | exact HB.out))) : w.heap.size ≤ gb305)); have n5_ := Aside0.mk ((by rw [hg]; exact Nat.ne_of_lt (blk_lt (g := gb304) (o := .cells #[.slice A0_0 l0_0.length c0_0] 24 (0, 0)) (by (with_reducible repeat (first | refine blk_drewN ?_ _ | refine blk_drew ?_ | refine blk_alloc ?_ _)); exact BK304.out)) : gb304 ≠ gb305)); have n6_ := Aside0.mk ((by rw [hg]; exact Nat.ne_of_gt (blk_lt (g := gb304) (o := .cells #[.slice A0_0 l0_0.length c0_0] 24 (0, 0)) (by (with_reducible repeat (first | refine blk_drewN ?_ _ | refine blk_drew ?_ | refine blk_alloc ?_ _)); exact BK304.out)) : gb305 ≠ gb304)); clear BK304; clear HB; have BK304 := n0_; have HB := n1_; have BK305 := n2_; have GW305 := n3_; have GE305 := n4_; have NB304_305 := n5_; have NB305_304 := n6_; clear n0_ n1_ n2_ n3_ n4_ n5_ n6_; clear hb hbox hg; have hnb12 := NB304_305.out; have hnc12 := NB305_304.out; have hcz13_0 : w11.cell? ⟨gb304, 0, none⟩ = some (.slice A0_0 l0_0.length c0_0) := (blk_cell BK304.out 0).trans rfl; have hfz13_0 := blk_frozen BK304.out 0; have hcz14_0 : w11.cell? ⟨gb305, 0, none⟩ = some (.slice A1_0 l1_0.length c1_0) := (blk_cell BK305.out 0).trans rfl; have hfz14_0 := blk_frozen BK305.out 0) | ((with_reducible refine gate_callee (f := 19) rfl ?_); refine goesL_ (some 9) rfl rfl Tryd.func19 (by kernel_rfl) rfl #[.slice A0_0 l0_0.length c0_0, .slice A1_0 l1_0.length c1_0] rfl (by (try simp only [List.map_toArray, List.map_cons, List.map_nil]); first | done | rfl | (simp only [List.length_drop, List.length_take]; rfl)) ?_; (with_reducible refine (laws_eqInt64SS.calls k _ _ l0_0 _ _ l1_0 false _ ?side1 ?side2 ?side3 ?side4 A3.out).mono ?_); (case side1 => repeat (first | exact (Kd.C_below HR0_0.out HB.out) | (with_reducible refine Kd.C_alloc ?_ _) | (with_reducible refine Kd.C_drewN ?_ _) | (with_reducible refine Kd.C_drew ?_))); (case side2 => exact HC0_0.out); (case side3 => repeat (first | exact (Kd.C_below HR1_0.out HB.out) | (with_reducible refine Kd.C_alloc ?_ _) | (with_reducible refine Kd.C_drewN ?_ _) | (with_reducible refine Kd.C_drew ?_))); (case side4 => exact HC1_0.out); rintro e w' ⟨rfl, ⟨nd, rfl⟩⟩; refine ⟨_, rfl, ?_⟩))
    go_ret
    exact ⟨by first | rfl | (simp [errW_none, errW_some] <;> rfl) | (simp [*, errW_none, errW_some] <;> rfl), by repeat (first | (with_reducible first | exact HB.out | apply below_alloc | apply pw_below_drewN | apply below_drew1 | refine below_set ?_ GE304.out | refine below_set ?_ GE305.out) | exact HB.out)⟩

-- NOT PRINTED: function 20 (laws_markInt64SS)

-- NOT PRINTED: function 8 (laws_markGame)

/-! ### laws_heldInt64SS: function 21 -/
def laws_heldInt64SS.l0 : Nat → List (List Int) → Int → Int → Option (Int)
  | 0, _, _, _ => none
  | k + 1, x0, x1, x5 => if x5 < (x0.length : Int) then (if 0 ≤ x5 then ((laws_heldInt64S.f k (rd_L3 x0 x5) x1).bind fun t310 => (if t310 < 0 then (some (-1)) else (laws_heldInt64SS.l0 k x0 t310 (wrap64 (x5 + 1))))) else (none)) else (some x1)
def laws_heldInt64SS.f (k : Nat) (l0 : List (List Int)) (a1 : Int) : Option (Int) := laws_heldInt64SS.l0 k l0 a1 0
theorem laws_heldInt64SS.mono_l : ∀ k, (∀ y0 y1 y2, LeO (laws_heldInt64SS.l0 k y0 y1 y2) (laws_heldInt64SS.l0 (k + 1) y0 y1 y2))
  | 0 => fun _ _ _ r h => by simp [laws_heldInt64SS.l0] at h
  | k + 1 => by
    have ih0 := laws_heldInt64SS.mono_l k
    · intro y0 y1 y2
      unfold laws_heldInt64SS.l0
      repeat' first
      | (with_reducible exact ih0 _ _ _)
      | (with_reducible exact laws_heldInt64S.mono _ _ _)
      | (with_reducible exact LeO.refl _)
      | (with_reducible exact LeO.none _)
      | (with_reducible refine LeO.ite ?_ ?_)
      | (with_reducible refine LeO.bind ?_ (fun _ => ?_))
      | exact ih0 _ _ _
      | exact laws_heldInt64S.mono _ _ _
      | exact LeO.none _
      | refine LeO.ite ?_ ?_
      | refine LeO.bind ?_ (fun _ => ?_)
theorem laws_heldInt64SS.mono : ∀ a0 a1 k, LeO (laws_heldInt64SS.f k a0 a1) (laws_heldInt64SS.f (k + 1) a0 a1) := by
  intro a0 a1 k
  have ih0 := laws_heldInt64SS.mono_l k
  unfold laws_heldInt64SS.f
  repeat' first
      | (with_reducible exact ih0 _ _ _)
      | (with_reducible exact laws_heldInt64S.mono _ _ _)
      | (with_reducible exact LeO.refl _)
      | (with_reducible exact LeO.none _)
      | (with_reducible refine LeO.ite ?_ ?_)
      | (with_reducible refine LeO.bind ?_ (fun _ => ?_))
      | exact ih0 _ _ _
      | exact laws_heldInt64S.mono _ _ _
      | exact LeO.none _
      | refine LeO.ite ?_ ?_
      | refine LeO.bind ?_ (fun _ => ?_)
set_option maxHeartbeats 8000000 in
set_option maxRecDepth 100000 in
theorem laws_heldInt64SS.calls (k : Nat) (A0 : Option Addr) (c0 : Nat) (l0 : List (List Int)) (a1 : Int) (r : Int) (w : World) (hr0 : Kd.C (Kd.slice 2 (Kd.int .i64)) w A0 l0.length l0) (hc0 : l0.length ≤ c0) (h : laws_heldInt64SS.f k l0 a1 = some r) :
    Calls Tryd.prog 21 #[.slice A0 l0.length c0, .int .i64 a1] w fun e w' => e = .returned (.int .i64 r) ∧ Drawn0 w w' := by
  have HR0 := Aside0.mk hr0
  have HC0 := Aside0.mk hc0
  clear hr0 hc0
  have H : (laws_heldInt64SS.l0 k l0 a1 0) = some r := h
  clear h
  have H' := Aside0.mk H
  clear H
  go_enter Tryd.func21, Tryd.ntmps21
  go_wp2
  go_loopg [1, 5] k (fun kq v1 v5 w' => ∃ (x1_1 : Int) (x5_1 : Int), v1 = .int .i64 x1_1 ∧ v5 = .int .i64 x5_1 ∧ Aside0 (laws_heldInt64SS.l0 kq l0 x1_1 x5_1 = some r) ∧ Aside0 (kq ≤ k) ∧ Drawn0 w w')
  case atStart => exact ⟨(a1), (0), (by first | rfl | (simp; done) | (simp [*]; done)), (by first | rfl | (simp; done) | (simp [*]; done)), H', ⟨Nat.le_refl _⟩, by repeat (first | exact Drawn0.refl _ | apply Drawn0.step)⟩
  case round =>
    clear H'
    try clear c2
    try clear p2
    obtain ⟨x1_1, x5_1, rfl, rfl, HA, HK1, ⟨m1, rfl⟩⟩ := hrel
    cases gk with
    | zero => exact absurd HA.out (by simp [laws_heldInt64SS.l0])
    | succ k1 =>
      have H := HA.out
      clear HA
      simp only [laws_heldInt64SS.l0] at H
      by_cases c3 : x5_1 < (l0.length : Int)
      · rw [if_pos c3] at H
        have c3b0 : decide (x5_1 < (l0.length : Int)) = true := decide_eq_true c3
        clear c3
        by_cases c4 : 0 ≤ x5_1
        · rw [if_pos c4] at H
          have c4b0 : decide (0 ≤ x5_1) = true := decide_eq_true c4
          clear c4
          replace H := Option.bind_eq_some_iff.mp H
          obtain ⟨t310, A50, H⟩ := H
          replace H : (if t310 < 0 then (some (-1)) else (laws_heldInt64SS.l0 k1 l0 t310 (wrap64 (x5_1 + 1)))) = some r := H
          have A5 := Aside0.mk A50
          clear A50
          by_cases c6 : t310 < 0
          · rw [if_pos c6] at H
            have c6b0 : decide (t310 < 0) = true := decide_eq_true c6
            clear c6
            obtain rfl := Option.some.inj H
            have p309 : 0 ≤ (x5_1 : Int) := of_decide_eq_true (by first | (with_reducible assumption) | assumption)
            have q309 : x5_1 < (l0.length : Int) := of_decide_eq_true (by first | (with_reducible assumption) | assumption)
            obtain ⟨ad309, A309_0, c309_0, e309, hx309_0, hl309_0, hi309_0⟩ := at_L3 HR0.out x5_1 p309 q309
            cases e309
            have HR309_0 := Aside0.mk hi309_0
            have HC309_0 := Aside0.mk hl309_0
            clear hi309_0 hl309_0
            replace p309 := eq_true p309
            replace q309 := eq_true q309
            go_wp2_with (first | ((with_reducible refine gate_callee (f := 29) rfl ?_); refine goesL_ (some 17) rfl rfl Tryd.func29 (by kernel_rfl) rfl #[.slice A309_0 (rd_L3 l0 x5_1).length c309_0, .int .i64 x1_1] rfl (by (try simp only [List.map_toArray, List.map_cons, List.map_nil]); first | done | rfl | (simp only [List.length_drop, List.length_take]; rfl)) ?_; (with_reducible refine (laws_heldInt64S.calls k1 _ _ (rd_L3 l0 x5_1) x1_1 t310 _ ?side1 ?side2 A5.out).mono ?_); (case side1 => repeat (first | exact HR309_0.out | (with_reducible refine Kd.C_alloc ?_ _) | (with_reducible refine Kd.C_drewN ?_ _) | (with_reducible refine Kd.C_drew ?_))); (case side2 => exact HC309_0.out); rintro e w' ⟨rfl, ⟨nd, rfl⟩⟩; refine ⟨_, rfl, ?_⟩))
            go_ret
            exact ⟨by first | rfl | (simp; done) | (simp [*]; done), by repeat (first | exact Drawn0.refl _ | apply Drawn0.step)⟩
          · rw [if_neg c6] at H
            have c6b0 : decide (t310 < 0) = false := decide_eq_false c6
            clear c6
            have H' := Aside0.mk H
            clear H
            have p309 : 0 ≤ (x5_1 : Int) := of_decide_eq_true (by first | (with_reducible assumption) | assumption)
            have q309 : x5_1 < (l0.length : Int) := of_decide_eq_true (by first | (with_reducible assumption) | assumption)
            obtain ⟨ad309, A309_0, c309_0, e309, hx309_0, hl309_0, hi309_0⟩ := at_L3 HR0.out x5_1 p309 q309
            cases e309
            have HR309_0 := Aside0.mk hi309_0
            have HC309_0 := Aside0.mk hl309_0
            clear hi309_0 hl309_0
            replace p309 := eq_true p309
            replace q309 := eq_true q309
            go_wp2_with (first | ((with_reducible refine gate_callee (f := 29) rfl ?_); refine goesL_ (some 17) rfl rfl Tryd.func29 (by kernel_rfl) rfl #[.slice A309_0 (rd_L3 l0 x5_1).length c309_0, .int .i64 x1_1] rfl (by (try simp only [List.map_toArray, List.map_cons, List.map_nil]); first | done | rfl | (simp only [List.length_drop, List.length_take]; rfl)) ?_; (with_reducible refine (laws_heldInt64S.calls k1 _ _ (rd_L3 l0 x5_1) x1_1 t310 _ ?side1 ?side2 A5.out).mono ?_); (case side1 => repeat (first | exact HR309_0.out | (with_reducible refine Kd.C_alloc ?_ _) | (with_reducible refine Kd.C_drewN ?_ _) | (with_reducible refine Kd.C_drew ?_))); (case side2 => exact HC309_0.out); rintro e w' ⟨rfl, ⟨nd, rfl⟩⟩; refine ⟨_, rfl, ?_⟩))
            go_roundg k1
            case measure => have := HK1.out; omega
            case rel => exact ⟨(t310), (wrap64 (x5_1 + 1)), (by first | rfl | (simp; done) | (simp [*]; done)), (by first | rfl | (simp; done) | (simp [*]; done)), H', ⟨by have := HK1.out; omega⟩, by repeat (first | exact Drawn0.refl _ | apply Drawn0.step)⟩
        · rw [if_neg c4] at H
          exact absurd H (by simp)
      · rw [if_neg c3] at H
        have c3b0 : decide (x5_1 < (l0.length : Int)) = false := decide_eq_false c3
        clear c3
        obtain rfl := Option.some.inj H
        go_wp2
        go_ret
        exact ⟨by first | rfl | (simp; done) | (simp [*]; done), by repeat (first | exact Drawn0.refl _ | apply Drawn0.step)⟩

/-! ### laws_heldGame: function 9 -/
def laws_heldGame.f (k : Nat) (l0_0 : List (List Int)) (a1 : Int) : Option (Int) := (laws_heldInt64SS.f k l0_0 a1).bind fun t312 => (if t312 < 0 then (some (-1)) else (some t312))
theorem laws_heldGame.mono : ∀ a0 a1 k, LeO (laws_heldGame.f k a0 a1) (laws_heldGame.f (k + 1) a0 a1) := by
  intro a0 a1 k
  unfold laws_heldGame.f
  repeat' first
      | (with_reducible exact laws_heldInt64SS.mono _ _ _)
      | (with_reducible exact LeO.refl _)
      | (with_reducible exact LeO.none _)
      | (with_reducible refine LeO.ite ?_ ?_)
      | (with_reducible refine LeO.bind ?_ (fun _ => ?_))
      | exact laws_heldInt64SS.mono _ _ _
      | exact LeO.none _
      | refine LeO.ite ?_ ?_
      | refine LeO.bind ?_ (fun _ => ?_)
set_option maxHeartbeats 8000000 in
set_option maxRecDepth 100000 in
theorem laws_heldGame.calls (k : Nat) (A0_0 : Option Addr) (c0_0 : Nat) (l0_0 : List (List Int)) (a1 : Int) (r : Int) (w : World) (hr0_0 : Kd.C (Kd.slice 2 (Kd.int .i64)) w A0_0 l0_0.length l0_0) (hc0_0 : l0_0.length ≤ c0_0) (h : laws_heldGame.f k l0_0 a1 = some r) :
    Calls Tryd.prog 9 #[.agg #[.slice A0_0 l0_0.length c0_0], .int .i64 a1] w fun e w' => e = .returned (.int .i64 r) ∧ Below w.heap.size w w' := by
  have hu24 := Tryd.underlying24
  have HR0_0 := Aside0.mk hr0_0
  have HC0_0 := Aside0.mk hc0_0
  clear hr0_0 hc0_0
  have HB := Aside0.mk (Below.refl w.heap.size w)
  have H : ((laws_heldInt64SS.f k l0_0 a1).bind fun t312 => (if t312 < 0 then (some (-1)) else (some t312))) = some r := h
  clear h
  replace H := Option.bind_eq_some_iff.mp H
  obtain ⟨t312, A30, H⟩ := H
  replace H : (if t312 < 0 then (some (-1)) else (some t312)) = some r := H
  have A3 := Aside0.mk A30
  clear A30
  by_cases c4 : t312 < 0
  · rw [if_pos c4] at H
    have c4b0 : decide (t312 < 0) = true := decide_eq_true c4
    clear c4
    obtain rfl := Option.some.inj H
    go_enter Tryd.func9, Tryd.ntmps9
    go_wp2_with (first | ((with_reducible refine gate_dst (N := 2) rfl ?_); refine box_event ?hg (N := 2) ?hd (cs := #[.slice A0_0 l0_0.length c0_0]) (t := 24) ?hr ?_; (case hd => rfl); (case hg => rfl); (case hr => first | (go_simp; done) | (go_simp; rfl)); intro gb311 hg w5 hbox hb; have n0_ := Aside0.mk (below_step (by repeat (first | (with_reducible first | exact HB.out | apply below_alloc | apply pw_below_drewN | apply below_drew1) | exact HB.out)) hb); have n1_ := Aside0.mk (hbox); have n2_ := Aside0.mk ((by rw [hg]; exact (below_size (by repeat (first | (with_reducible first | exact HB.out | apply below_alloc | apply pw_below_drewN | apply below_drew1) | exact HB.out))) : w.heap.size ≤ gb311)); have n3_ := Aside0.mk ((by rw [hg]; exact (below_size (by repeat (first | (with_reducible first | exact HB.out | apply below_alloc | apply pw_below_drewN | apply below_drew1) | exact HB.out))) : w.heap.size ≤ gb311)); clear HB; have HB := n0_; have BK311 := n1_; have GW311 := n2_; have GE311 := n3_; clear n0_ n1_ n2_ n3_; clear hb hbox hg; have hcz6_0 : w5.cell? ⟨gb311, 0, none⟩ = some (.slice A0_0 l0_0.length c0_0) := (blk_cell BK311.out 0).trans rfl; have hfz6_0 := blk_frozen BK311.out 0) | ((with_reducible refine gate_callee (f := 21) rfl ?_); refine goesL_ (some 8) rfl rfl Tryd.func21 (by kernel_rfl) rfl #[.slice A0_0 l0_0.length c0_0, .int .i64 a1] rfl (by (try simp only [List.map_toArray, List.map_cons, List.map_nil]); first | done | rfl | (simp only [List.length_drop, List.length_take]; rfl)) ?_; (with_reducible refine (laws_heldInt64SS.calls k _ _ l0_0 a1 t312 _ ?side1 ?side2 A3.out).mono ?_); (case side1 => repeat (first | exact (Kd.C_below HR0_0.out HB.out) | (with_reducible refine Kd.C_alloc ?_ _) | (with_reducible refine Kd.C_drewN ?_ _) | (with_reducible refine Kd.C_drew ?_))); (case side2 => exact HC0_0.out); rintro e w' ⟨rfl, ⟨nd, rfl⟩⟩; refine ⟨_, rfl, ?_⟩))
    go_ret
    exact ⟨by first | rfl | (simp [errW_none, errW_some] <;> rfl) | (simp [*, errW_none, errW_some] <;> rfl), by repeat (first | (with_reducible first | exact HB.out | apply below_alloc | apply pw_below_drewN | apply below_drew1 | refine below_set ?_ GE311.out) | exact HB.out)⟩
  · rw [if_neg c4] at H
    have c4b0 : decide (t312 < 0) = false := decide_eq_false c4
    clear c4
    obtain rfl := Option.some.inj H
    go_enter Tryd.func9, Tryd.ntmps9
    go_wp2_with (first | ((with_reducible refine gate_dst (N := 2) rfl ?_); refine box_event ?hg (N := 2) ?hd (cs := #[.slice A0_0 l0_0.length c0_0]) (t := 24) ?hr ?_; (case hd => rfl); (case hg => rfl); (case hr => first | (go_simp; done) | (go_simp; rfl)); intro gb311 hg w7 hbox hb; have n0_ := Aside0.mk (below_step (by repeat (first | (with_reducible first | exact HB.out | apply below_alloc | apply pw_below_drewN | apply below_drew1) | exact HB.out)) hb); have n1_ := Aside0.mk (hbox); have n2_ := Aside0.mk ((by rw [hg]; exact (below_size (by repeat (first | (with_reducible first | exact HB.out | apply below_alloc | apply pw_below_drewN | apply below_drew1) | exact HB.out))) : w.heap.size ≤ gb311)); have n3_ := Aside0.mk ((by rw [hg]; exact (below_size (by repeat (first | (with_reducible first | exact HB.out | apply below_alloc | apply pw_below_drewN | apply below_drew1) | exact HB.out))) : w.heap.size ≤ gb311)); clear HB; have HB := n0_; have BK311 := n1_; have GW311 := n2_; have GE311 := n3_; clear n0_ n1_ n2_ n3_; clear hb hbox hg; have hcz8_0 : w7.cell? ⟨gb311, 0, none⟩ = some (.slice A0_0 l0_0.length c0_0) := (blk_cell BK311.out 0).trans rfl; have hfz8_0 := blk_frozen BK311.out 0) | ((with_reducible refine gate_callee (f := 21) rfl ?_); refine goesL_ (some 8) rfl rfl Tryd.func21 (by kernel_rfl) rfl #[.slice A0_0 l0_0.length c0_0, .int .i64 a1] rfl (by (try simp only [List.map_toArray, List.map_cons, List.map_nil]); first | done | rfl | (simp only [List.length_drop, List.length_take]; rfl)) ?_; (with_reducible refine (laws_heldInt64SS.calls k _ _ l0_0 a1 t312 _ ?side1 ?side2 A3.out).mono ?_); (case side1 => repeat (first | exact (Kd.C_below HR0_0.out HB.out) | (with_reducible refine Kd.C_alloc ?_ _) | (with_reducible refine Kd.C_drewN ?_ _) | (with_reducible refine Kd.C_drew ?_))); (case side2 => exact HC0_0.out); rintro e w' ⟨rfl, ⟨nd, rfl⟩⟩; refine ⟨_, rfl, ?_⟩))
    go_ret
    exact ⟨by first | rfl | (simp [errW_none, errW_some] <;> rfl) | (simp [*, errW_none, errW_some] <;> rfl), by repeat (first | (with_reducible first | exact HB.out | apply below_alloc | apply pw_below_drewN | apply below_drew1 | refine below_set ?_ GE311.out) | exact HB.out)⟩

-- NOT PRINTED: function 3 (laws_FnExactParseGame)

end Go.Proofs.YtcjfofcgbpbdmaaDoor.PX

/- Games of equal rows are equal; the number of all moves of a game. -/
namespace Go.Proofs.YtcjfofcgbpbdmaaDoor.PX
open Go.RowKit Go.Proofs.YtcjfofcgbpbdmaaDoorW.PrintWords Go.Proofs.YtcjfofcgbpbdmaaDoorW.PrintLast Go.Proofs.YtcjfofcgbpbdmaaDoorW.PrintMore
attribute [local go_sem] max2_int min2_int max_two min_two max_three min_three max_four min_four
set_option linter.unusedVariables false
set_option linter.unusedSimpArgs false
def total : List (List Int) → Int
  | [] => 0
  | row :: rest => row.length + total rest
theorem total_nonneg : ∀ g : List (List Int), 0 ≤ total g
  | [] => by simp [total]
  | row :: rest => by have := total_nonneg rest; simp only [total]; omega
theorem total_mem {g : List (List Int)} {row : List Int} (h : row ∈ g) : (row.length : Int) ≤ total g := by
  induction g with
  | nil => simp at h
  | cons x rest ih =>
    simp only [total]
    have := total_nonneg rest
    rcases List.mem_cons.1 h with rfl | h
    · omega
    · have := ih h
      omega
theorem eqSS_loop (g : List (List Int)) (hl : ∀ row ∈ g, row.length < 4611686018427387904) (hg : g.length < 4611686018427387904) (d : Nat) : ∀ i : Nat, i + d = g.length → Ev (fun k => laws_eqInt64SS.l0 k g g (i : Int)) true := by
  induction d with
  | zero =>
    intro i hd
    refine Ev.step (f := fun _ => some true) (fun k => ?_) (Ev.now true)
    simp only [laws_eqInt64SS.l0]; rw [if_neg (by omega)]
  | succ d ih =>
    intro i hd
    obtain ⟨row, hp⟩ := get_some (xs := g) (i := i) (by omega)
    have hr : rd_L3 g (i : Int) = row := by rw [rdL1_nat]; exact getD_of hp
    refine Ev.step (f := fun k => (laws_eqInt64S.f k row row).bind fun t => if t = true then laws_eqInt64SS.l0 k g g ((i + 1 : Nat) : Int) else some false) (fun k => ?_) (Ev.bind (eqI_ev row (hl row (List.mem_of_getElem? hp))) ?_)
    · simp only [laws_eqInt64SS.l0]
      rw [if_pos (by omega), if_pos (by omega), if_pos (by omega), hr, wrapS (by omega) (by omega), cast_succ]
    · exact Ev.congr (fun k => by simp) (ih (i + 1) (by omega))
theorem eqG_ev (g : List (List Int)) (hl : ∀ row ∈ g, row.length < 4611686018427387904) (hg : g.length < 4611686018427387904) : Ev (fun k => laws_eqGame.f k g g) true := by
  have hS : Ev (fun k => laws_eqInt64SS.f k g g) true := Ev.congr (fun k => by unfold laws_eqInt64SS.f; rw [if_pos rfl]; rfl) (eqSS_loop g hl hg g.length 0 (by omega))
  exact Ev.congr (f := fun k => (laws_eqInt64SS.f k g g).bind fun t => if t = true then some true else some false) (fun k => rfl) (Ev.bind hS (Ev.congr (f := fun _ => some true) (fun k => by simp) (Ev.now true)))

end Go.Proofs.YtcjfofcgbpbdmaaDoor.PX

/- markInt64SS, a contract: the marks a, a + 1, .. lie in rows that lie apart, and nothing else has turned (conditions: the rows are the caller's own and apart; sizes fit). -/
namespace Go.Proofs.YtcjfofcgbpbdmaaDoor.PX
open Go.RowKit Go.Proofs.YtcjfofcgbpbdmaaDoorW.PrintWords Go.Proofs.YtcjfofcgbpbdmaaDoorW.PrintLast Go.Proofs.YtcjfofcgbpbdmaaDoorW.PrintMore
attribute [local go_sem] max2_int min2_int max_two min_two max_three min_three max_four min_four
set_option linter.unusedVariables false
set_option linter.unusedSimpArgs false
/-- The marks, row by row. -/
def markL (a : Int) : List (List Int) → List (List Int)
  | [] => []
  | row :: rest => marks a row.length :: markL (a + row.length) rest
theorem markL_length : ∀ (a : Int) (g : List (List Int)), (markL a g).length = g.length
  | _, [] => rfl
  | a, row :: rest => by simp only [markL, List.length_cons, markL_length]
theorem total_append : ∀ (g h : List (List Int)), total (g ++ h) = total g + total h
  | [], h => by simp [total]
  | row :: rest, h => by simp only [List.cons_append, total, total_append rest h]; omega
theorem markL_append : ∀ (a : Int) (g h : List (List Int)), markL a (g ++ h) = markL a g ++ markL (a + total g) h
  | a, [], h => by simp [markL, total]
  | a, row :: rest, h => by
    simp only [List.cons_append, markL, total, markL_append _ rest h]
    rw [show a + (row.length : Int) + total rest = a + (row.length + total rest) by omega]
theorem take_snoc {α : Type} {xs : List α} {j : Nat} {x : α} (h : xs[j]? = some x) : xs.take (j + 1) = xs.take j ++ [x] := by
  obtain ⟨hl, e⟩ := List.getElem?_eq_some_iff.1 h
  rw [List.take_succ_eq_append_getElem hl, e]
theorem total_take (g : List (List Int)) (j : Nat) : 0 ≤ total (g.take j) ∧ total (g.take j) ≤ total g := by
  have h1 := total_nonneg (g.take j)
  have h2 := total_nonneg (g.drop j)
  have h3 : total g = total (g.take j) + total (g.drop j) := by rw [← total_append, List.take_append_drop]
  omega
set_option maxHeartbeats 8000000 in
set_option maxRecDepth 100000 in
theorem laws_markInt64SS.calls (ok : Nat → Prop) (v : Value) (xs : List (List Int)) (a : Int) (w0 w : World) (hB : Below w0.heap.size w0 w) (ho : Kd.S (Kd.slice 2 (Kd.int .i64)) 30 w w0.heap.size ok v xs) (ha : 0 ≤ a) (hn : a + total xs < 4611686018427387904) (hl : xs.length < 4611686018427387904) :
    Calls Tryd.prog 20 #[v, .int .i64 a] w fun e w' => e = .returned (.int .i64 (a + total xs)) ∧ Kd.S (Kd.slice 2 (Kd.int .i64)) 30 w' w0.heap.size ok v (markL a xs) ∧ Below w0.heap.size w0 w' ∧ Kept w w' ok := by
  obtain ⟨A, c, hv⟩ := Kd.S_slice ho
  obtain ⟨n, hnl⟩ : ∃ n, n = xs.length := ⟨_, rfl⟩
  rw [← hnl] at hv
  subst hv
  have HO := Aside0.mk ho
  have HB := Aside0.mk hB
  have HN := Aside0.mk hnl
  have HA := Aside0.mk ha
  have HT := Aside0.mk hn
  have HL := Aside0.mk hl
  clear ho hB hnl ha hn hl
  go_enter Tryd.func20, Tryd.ntmps20
  go_wp2
  go_loopg [1, 5] (n + 1) (fun kq v1 v5 wr => ∃ (x1 x5 : Int), v1 = .int .i64 x1 ∧ v5 = .int .i64 x5 ∧ Aside0 (∃ j : Nat, x5 = (j : Int) ∧ x1 = a + total (xs.take j) ∧ j ≤ n ∧ kq + j = n + 1 ∧ Kd.S (Kd.slice 2 (Kd.int .i64)) 30 wr w0.heap.size ok (.slice A n c) (markL a (xs.take j) ++ xs.drop j)) ∧ Aside0 (Below w0.heap.size w0 wr) ∧ Aside0 (Kept w wr ok))
  case atStart => exact ⟨a, 0, (by first | rfl | (simp; done) | (simp [*]; done)), (by first | rfl | (simp; done) | (simp [*]; done)), ⟨0, rfl, by simp [total], Nat.zero_le _, rfl, by simpa [markL] using HO.out⟩, HB, ⟨Kept.refl _ _⟩⟩
  case round =>
    obtain ⟨x1, x5, rfl, rfl, ⟨j, h5, h1, hj, hq, hS⟩, HBr, HK⟩ := hrel
    have H5 := Aside0.mk h5
    have H1 := Aside0.mk h1
    have HJ := Aside0.mk hj
    have HQ := Aside0.mk hq
    have HS := Aside0.mk hS
    clear h5 h1 hj hq hS
    by_cases c3 : x5 < (n : Int)
    · have hjn : j < xs.length := by have := H5.out; have := HN.out; omega
      obtain ⟨row, hrow⟩ := get_some hjn
      have hlen : (markL a (xs.take j)).length = j := by rw [markL_length, List.length_take]; omega
      obtain ⟨g, cap, hg, _, _, _⟩ := Kd.S_form HS.out (by rw [List.length_append, hlen, List.length_drop]; omega)
      injection hg with hA hn_ hc
      clear hn_
      subst hA
      subst hc
      have hi0 : 0 ≤ x5 := by rw [H5.out]; omega
      obtain ⟨oki, cl, hcl, hM, hcc, hoki, hH⟩ := Kd.S_lend HS.out [] x5 hi0 c3
      obtain ⟨vj, rfl, hR⟩ := hM
      have hget : (markL a (xs.take j) ++ xs.drop j).getD x5.toNat [] = row := by
        rw [H5.out, Int.toNat_natCast]
        apply getD_of
        rw [List.getElem?_append_right (by omega), hlen, Nat.sub_self, List.getElem?_drop, Nat.add_zero, hrow]
      rw [hget] at hR
      have hx := hcc 0 vj rfl
      simp only [show ((Kd.slice 2 (Kd.int .i64))).sz = 1 from rfl, Nat.mul_one, Nat.add_zero] at hx
      have htl := total_take xs j
      have htr : total (xs.take (j + 1)) = total (xs.take j) + row.length := by rw [take_snoc hrow, total_append]; simp [total]
      have htl2 := total_take xs (j + 1)
      obtain ⟨K, hK⟩ := mark_ev row x1 (by have := H1.out; have := HA.out; omega) (by have := H1.out; have := HT.out; omega)
      have HM := Aside0.mk (hK K (Nat.le_refl _))
      have HR := Aside0.mk hR
      have HH := Aside0.mk hH
      have HOK := Aside0.mk hoki
      have HROW := Aside0.mk hrow
      have HLEN := Aside0.mk hlen
      have HTR := Aside0.mk htr
      have HTL := Aside0.mk htl
      have HTL2 := Aside0.mk htl2
      have c3b0 : decide (x5 < (n : Int)) = true := decide_eq_true c3
      have c4b0 : decide (0 ≤ x5) = true := decide_eq_true hi0
      have HJN := Aside0.mk hjn
      clear hK hR hH hoki hrow hlen htr htl htl2 hget hcl hcc hjn
      replace hi0 := eq_true hi0
      replace c3 := eq_true c3
      go_wp2_with ((with_reducible refine gate_callee (f := 28) rfl ?_); refine goesL_ (some 17) rfl rfl Tryd.func28 (by kernel_rfl) rfl #[vj, .int .i64 x1] rfl (by (try simp only [List.map_toArray, List.map_cons, List.map_nil]); first | done | rfl) ?_; (with_reducible refine (laws_markInt64S.calls K oki vj row x1 _ _ w0 wr HBr.out HR.out HM.out).mono ?_); rintro e w1 ⟨rfl, hy0, hb, hkp⟩; refine ⟨_, rfl, ?_⟩; have HY := Aside0.mk (Kd.R_reok rfl hy0 (fun k_ e_ => HR.out.1 k_ e_)); have HBn := Aside0.mk hb; have HKP := Aside0.mk hkp; clear hy0 hb hkp)
      go_roundg (n - j)
      case measure => have := HQ.out; have := HJ.out; have := HJN.out; have := HN.out; omega
      case rel =>
        refine ⟨x1 + (row.length : Int), wrap64 (x5 + 1), (by first | rfl | (simp; done) | (simp [*]; done)), (by first | rfl | (simp; done) | (simp [*]; done)), ⟨j + 1, ?_, ?_, ?_, ?_, ?_⟩, HBn, ⟨HK.out.then_ HKP.out (fun k hk => .inl (HOK.out k hk).1)⟩⟩
        · have := H5.out; have := HJN.out; have := HL.out; unfold wrap64; omega
        · rw [HTR.out, H1.out]; omega
        · have := HJN.out; have := HN.out; omega
        · have := HQ.out; have := HJN.out; have := HN.out; omega
        · have hb := Kd.H_back (Kd.H_kept HH.out HKP.out (fun k _ h2 h3 => h2 h3)) (x' := marks x1 row.length) ⟨vj, rfl, HY.out⟩ (fun k hk => hk)
          have e : (markL a (xs.take j) ++ xs.drop j).set x5.toNat (marks x1 row.length) = markL a (xs.take (j + 1)) ++ xs.drop (j + 1) := by
            rw [H5.out, Int.toNat_natCast, drop_of HROW.out, take_snoc HROW.out, markL_append, H1.out]
            conv => lhs; rw [show j = (markL a (xs.take j)).length from HLEN.out.symm]
            rw [HLEN.out, List.set_append_right _ _ (by rw [HLEN.out]; exact Nat.le_refl _), HLEN.out, Nat.sub_self, List.set_cons_zero]
            simp [markL]
          rw [e] at hb
          exact hb
    · have c3b0 : decide (x5 < (n : Int)) = false := decide_eq_false c3
      have HC := Aside0.mk c3
      clear c3
      go_wp2
      go_ret
      have hjn : j = n := by have := HC.out; have := H5.out; have := HJ.out; omega
      have hS := HS.out
      rw [hjn, HN.out, List.take_length, List.drop_length, List.append_nil] at hS
      have h1 := H1.out
      rw [hjn, HN.out, List.take_length] at h1
      refine ⟨?_, ?_, HBr.out, HK.out⟩
      · rw [← h1]; rfl
      · rw [HN.out]; exact hS

end Go.Proofs.YtcjfofcgbpbdmaaDoor.PX

/- markGame, a contract: the marks lie in the game's rows, and nothing else that was there has turned (conditions: the rows are the caller's own and apart; sizes fit). -/
namespace Go.Proofs.YtcjfofcgbpbdmaaDoor.PX
open Go.RowKit Go.Proofs.YtcjfofcgbpbdmaaDoorW.PrintWords Go.Proofs.YtcjfofcgbpbdmaaDoorW.PrintLast Go.Proofs.YtcjfofcgbpbdmaaDoorW.PrintMore
attribute [local go_sem] max2_int min2_int max_two min_two max_three min_three max_four min_four
set_option linter.unusedVariables false
set_option linter.unusedSimpArgs false
set_option maxHeartbeats 8000000 in
set_option maxRecDepth 100000 in
theorem laws_markGame.calls (ok : Nat → Prop) (A : Option Addr) (n c : Nat) (xs : List (List Int)) (a : Int) (w0 w : World) (hB : Below w0.heap.size w0 w) (ho : Kd.S (Kd.slice 2 (Kd.int .i64)) 30 w w0.heap.size ok (.slice A n c) xs) (ha : 0 ≤ a) (hn : a + total xs < 4611686018427387904) (hl : xs.length < 4611686018427387904) :
    Calls Tryd.prog 8 #[.agg #[.slice A n c], .int .i64 a] w fun e w' => e = .returned (.int .i64 (a + total xs)) ∧ Kd.S (Kd.slice 2 (Kd.int .i64)) 30 w' w0.heap.size ok (.slice A n c) (markL a xs) ∧ Below w0.heap.size w0 w' ∧ Kept w w' ok := by
  have HO := Aside0.mk ho
  have HB := Aside0.mk hB
  have HA := Aside0.mk ha
  have HT := Aside0.mk hn
  have HL := Aside0.mk hl
  clear ho hB ha hn hl
  have huG := Tryd.underlying24
  go_enter Tryd.func8, Tryd.ntmps8
  go_wp2_with (first | ((with_reducible refine gate_dst (N := 2) rfl ?_); refine box_event ?hg (N := 2) ?hd (cs := #[.slice A n c]) (t := 24) ?hr ?_; (case hd => rfl); (case hg => rfl); (case hr => first | (go_simp; done) | (go_simp; rfl)); intro gb hg w2 hbox hb; have n0_ := Aside0.mk (Kd.S_below HO.out hb); have n1_ := Aside0.mk (below_then HB.out HB.out.size hb); have HK := Aside0.mk (Kept.of_below hb ok); have HBX := Aside0.mk hbox; clear HO HB hb hbox hg; have HO := n0_; have HB := n1_; clear n0_ n1_; have hcz : w2.cell? ⟨gb, 0, none⟩ = some (.slice A n c) := (blk_cell HBX.out 0).trans rfl; have hfz := blk_frozen HBX.out 0) | ((with_reducible refine gate_callee (f := 20) rfl ?_); refine goesL_ (some 8) rfl rfl Tryd.func20 (by kernel_rfl) rfl #[.slice A n c, .int .i64 a] rfl (by (try simp only [List.map_toArray, List.map_cons, List.map_nil]); first | done | rfl) ?_; (with_reducible refine (laws_markInt64SS.calls ok _ xs a w0 _ HB.out HO.out HA.out HT.out HL.out).mono ?_); rintro e w3 ⟨rfl, hs, hb, hk⟩; refine ⟨_, rfl, ?_⟩; have HS := Aside0.mk hs; have HB3 := Aside0.mk hb; have HK3 := Aside0.mk hk; clear hs hb hk hcz hfz))
  go_ret
  exact ⟨rfl, HS.out, HB3.out, HK.out.then_ HK3.out (fun k hk => .inl hk)⟩

end Go.Proofs.YtcjfofcgbpbdmaaDoor.PX

/- The law FnExactParseGame along its good road: where the callees answer alike, it returns true and leaves all old memory as it was. -/
namespace Go.Proofs.YtcjfofcgbpbdmaaDoor.PX
open Go.RowKit Go.Proofs.YtcjfofcgbpbdmaaDoorW.PrintWords Go.Proofs.YtcjfofcgbpbdmaaDoorW.PrintLast Go.Proofs.YtcjfofcgbpbdmaaDoorW.PrintMore
attribute [local go_sem] max2_int min2_int max_two min_two max_three min_three max_four min_four
set_option linter.unusedVariables false
set_option linter.unusedSimpArgs false

set_option maxHeartbeats 16000000 in
set_option maxRecDepth 100000 in
theorem laws_FnExactParseGame.good (k : Nat) (a0 : ByteArray) (r0 : List (List Int)) (r1 : Int) (tm0 : Int) (w : World)  (D_len1 : decide (1048576 < (a0.size : Int)) = false) (E_spec_ParseGame_3_h : spec_ParseGame.f k a0 = some (r0, r1)) (E_impl_ParseGame_19_h : impl_ParseGame.f k a0 = some (r0, r1)) (E_laws_eqGame_35_h : laws_eqGame.f k r0 r0 = some true) (D_tm0 : decide (tm0 < 0) = false) (HM1_F24_h : 1 + total r0 < 4611686018427387904) (HM2_F24_h : r0.length < 4611686018427387904) (tm0_eq_h : 1 + total r0 = tm0) (E_laws_heldGame_40_h : laws_heldGame.f k (markL 1 r0) 1 = some tm0) (hG : Good w) :
    Calls Tryd.prog 3 #[.string a0] w fun e w' => e = .returned (.bool true) ∧ Below w.heap.size w w' := by
  have E_spec_ParseGame_3 := Aside0.mk E_spec_ParseGame_3_h
  clear E_spec_ParseGame_3_h
  have E_impl_ParseGame_19 := Aside0.mk E_impl_ParseGame_19_h
  clear E_impl_ParseGame_19_h
  have E_laws_eqGame_35 := Aside0.mk E_laws_eqGame_35_h
  clear E_laws_eqGame_35_h
  have HM1_F24 := Aside0.mk HM1_F24_h
  clear HM1_F24_h
  have HM2_F24 := Aside0.mk HM2_F24_h
  clear HM2_F24_h
  have tm0_eq := Aside0.mk tm0_eq_h
  clear tm0_eq_h
  have E_laws_heldGame_40 := Aside0.mk E_laws_heldGame_40_h
  clear E_laws_heldGame_40_h
  have hu24 := Tryd.underlying24
  have HB := Aside0.mk (Below.refl w.heap.size w)
  have HG := Aside0.mk hG
  clear hG
  go_enter Tryd.func3, Tryd.ntmps3
  go_wp2_with (first | ((with_reducible refine gate_dst (N := 16) rfl ?_); (try (refine gate_guard (by rfl) ?_; dsimp only)); refine goesL_ (some 16) rfl rfl Tryd.func5 (by kernel_rfl) rfl #[.string a0] rfl (by (try simp only [List.map_toArray, List.map_cons, List.map_nil]); first | done | rfl) ?_; (with_reducible refine (spec_ParseGame.calls k a0 r0 r1 _ E_spec_ParseGame_3.out).mono ?_); rintro e w2 ⟨v4, rfl, ho5, hb⟩; refine ⟨_, rfl, ?_⟩; obtain ⟨Ao6, co7, e_Ao6⟩ := Kd.S_slice ho5; subst e_Ao6; have F8 := Aside0.mk (S_ivl ho5 HB.out.size); have Z9 : Aside0 (w.heap.size ≤ w2.heap.size) := Aside0.mk (hb.size); have n0_ := Aside0.mk (below_then HB.out HB.out.size hb); clear HB; have HB := n0_; clear n0_; (try clear hb ho5)) | ((with_reducible refine gate_dst (N := 3) rfl ?_); (try (refine gate_guard (by rfl) ?_; dsimp only)); refine box_event ?hg (N := 3) ?hd (cs := #[.slice none 0 0]) (t := 24) ?hr ?_; (case hd => rfl); (case hg => rfl); (case hr => first | (go_simp; done) | (go_simp; rfl)); intro gb10 hg w11 hbox hb; have Z14 : Aside0 (w2.heap.size ≤ w11.heap.size) := Aside0.mk (hb.size); have BK12 := Aside0.mk hbox; have GP13 := Aside0.mk hg; have Z15 : Aside0 (gb10 < w11.heap.size) := Aside0.mk (blk_lt hbox); have n0_ := Aside0.mk (below_then HB.out HB.out.size hb); have n1_ := Aside0.mk (Kd.S_below F8.out hb); clear HB F8; have HB := n0_; have F8 := n1_; clear n0_ n1_; clear hb hbox hg; (try clear hz_gb10_0); have hz_gb10_0 : w11.cell? ⟨gb10, 0, none⟩ = some (.slice none 0 0) := (blk_cell BK12.out 0).trans rfl; (try clear hf_gb10_0); have hf_gb10_0 := blk_frozen BK12.out 0) | ((with_reducible refine gate_store (t := 24) (p := 3) rfl ?_); (try (refine gate_guard (by rfl) ?_; dsimp only)); refine store_event (t := 24) (p := 3) (v := ?vo_w16) (w1 := (w11.setCell ⟨gb10, 0, none⟩ (.slice Ao6 r0.length co7))) ?hg ?ho ?hn ?hr ?_; (case ho => rfl); (case hg => rfl); (case hn => rfl); (case hr => first | (go_simp; done) | (go_simp; rfl)); intro w16 hw; have Z17 : Aside0 (w11.heap.size ≤ w16.heap.size) := Aside0.mk (by rw [hw]; simp [World.setCell]); have n0_ := Aside0.mk ((by rw [hw]; exact below_set (HB.out) (by have z0_ := Z9.out; have z1_ := Z14.out; have z2_ := Z15.out; have g_ := GP13.out; have hb_ := HB.out.size; omega) : Below w.heap.size w w16)); have n1_ := Aside0.mk (hw.symm ▸ (Kd.S_far (p := ⟨gb10, 0, none⟩) (F8.out) (fun k_ h_ => by have z0_ := Z9.out; have z1_ := Z14.out; have z2_ := Z15.out; have g_ := GP13.out; unfold Ivl at h_; show k_ ≠ gb10; omega) _)); have n2_ := Aside0.mk ((by rw [hw]; exact blk_put (cs := #[.slice none 0 0]) (BK12.out) 0 _ rfl : w16.heap[gb10]? = some (.cells #[.slice Ao6 r0.length co7] 24 (0, 0)))); clear HB F8 BK12; have HB := n0_; have F8 := n1_; have BK12 := n2_; clear n0_ n1_ n2_; clear hw; (try clear hz_gb10_0); have hz_gb10_0 : w16.cell? ⟨gb10, 0, none⟩ = some (.slice Ao6 r0.length co7) := (blk_cell BK12.out 0).trans rfl; (try clear hf_gb10_0); have hf_gb10_0 := blk_frozen BK12.out 0) | ((with_reducible refine gate_dst (N := 21) rfl ?_); (try (refine gate_guard (by rfl) ?_; dsimp only)); refine goesL_ (some 21) rfl rfl Tryd.func6 (by kernel_rfl) rfl #[.string a0] rfl (by (try simp only [List.map_toArray, List.map_cons, List.map_nil]); first | done | rfl) ?_; (with_reducible refine (impl_ParseGame.calls k a0 r0 r1 _ E_impl_ParseGame_19.out (HG.out.below HB.out)).mono ?_); rintro e w18 ⟨v20, rfl, ho21, hb⟩; refine ⟨_, rfl, ?_⟩; obtain ⟨Ao22, co23, e_Ao22⟩ := Kd.S_slice ho21; subst e_Ao22; have F24 := Aside0.mk (S_ivl ho21 HB.out.size); have Z25 : Aside0 (w16.heap.size ≤ w18.heap.size) := Aside0.mk (hb.size); have n0_ := Aside0.mk (below_then HB.out HB.out.size hb); have n1_ := Aside0.mk (Kd.S_below F8.out hb); have n2_ := Aside0.mk (blk_below (g := gb10) (o := .cells #[.slice Ao6 r0.length co7] 24 (0, 0)) BK12.out hb); clear HB F8 BK12; have HB := n0_; have F8 := n1_; have BK12 := n2_; clear n0_ n1_ n2_; (try clear hb ho21); (try clear hz_gb10_0); have hz_gb10_0 : w18.cell? ⟨gb10, 0, none⟩ = some (.slice Ao6 r0.length co7) := (blk_cell BK12.out 0).trans rfl; (try clear hf_gb10_0); have hf_gb10_0 := blk_frozen BK12.out 0) | ((with_reducible refine gate_dst (N := 5) rfl ?_); (try (refine gate_guard (by rfl) ?_; dsimp only)); refine box_event ?hg (N := 5) ?hd (cs := #[.slice none 0 0]) (t := 24) ?hr ?_; (case hd => rfl); (case hg => rfl); (case hr => first | (go_simp; done) | (go_simp; rfl)); intro gb26 hg w27 hbox hb; have Z30 : Aside0 (w18.heap.size ≤ w27.heap.size) := Aside0.mk (hb.size); have BK28 := Aside0.mk hbox; have GP29 := Aside0.mk hg; have Z31 : Aside0 (gb26 < w27.heap.size) := Aside0.mk (blk_lt hbox); have n0_ := Aside0.mk (below_then HB.out HB.out.size hb); have n1_ := Aside0.mk (Kd.S_below F8.out hb); have n2_ := Aside0.mk (blk_below (g := gb10) (o := .cells #[.slice Ao6 r0.length co7] 24 (0, 0)) BK12.out hb); have n3_ := Aside0.mk (Kd.S_below F24.out hb); clear HB F8 BK12 F24; have HB := n0_; have F8 := n1_; have BK12 := n2_; have F24 := n3_; clear n0_ n1_ n2_ n3_; clear hb hbox hg; (try clear hz_gb10_0); have hz_gb10_0 : w27.cell? ⟨gb10, 0, none⟩ = some (.slice Ao6 r0.length co7) := (blk_cell BK12.out 0).trans rfl; (try clear hf_gb10_0); have hf_gb10_0 := blk_frozen BK12.out 0; (try clear hz_gb26_0); have hz_gb26_0 : w27.cell? ⟨gb26, 0, none⟩ = some (.slice none 0 0) := (blk_cell BK28.out 0).trans rfl; (try clear hf_gb26_0); have hf_gb26_0 := blk_frozen BK28.out 0) | ((with_reducible refine gate_store (t := 24) (p := 5) rfl ?_); (try (refine gate_guard (by rfl) ?_; dsimp only)); refine store_event (t := 24) (p := 5) (v := ?vo_w32) (w1 := (w27.setCell ⟨gb26, 0, none⟩ (.slice Ao22 r0.length co23))) ?hg ?ho ?hn ?hr ?_; (case ho => rfl); (case hg => rfl); (case hn => rfl); (case hr => first | (go_simp; done) | (go_simp; rfl)); intro w32 hw; have Z33 : Aside0 (w27.heap.size ≤ w32.heap.size) := Aside0.mk (by rw [hw]; simp [World.setCell]); have n0_ := Aside0.mk ((by rw [hw]; exact below_set (HB.out) (by have z0_ := Z9.out; have z1_ := Z14.out; have z2_ := Z15.out; have z3_ := Z17.out; have z4_ := Z25.out; have z5_ := Z30.out; have z6_ := Z31.out; have g_ := GP29.out; have hb_ := HB.out.size; omega) : Below w.heap.size w w32)); have n1_ := Aside0.mk (hw.symm ▸ (Kd.S_far (p := ⟨gb26, 0, none⟩) (F8.out) (fun k_ h_ => by have z0_ := Z9.out; have z1_ := Z14.out; have z2_ := Z15.out; have z3_ := Z17.out; have z4_ := Z25.out; have z5_ := Z30.out; have z6_ := Z31.out; have g_ := GP29.out; unfold Ivl at h_; show k_ ≠ gb26; omega) _)); have n2_ := Aside0.mk ((by rw [hw]; exact blk_far (BK12.out) (by have z0_ := Z9.out; have z1_ := Z14.out; have z2_ := Z15.out; have z3_ := Z17.out; have z4_ := Z25.out; have z5_ := Z30.out; have z6_ := Z31.out; have g1_ := GP13.out; have g2_ := GP29.out; show gb10 ≠ gb26; omega) _ : w32.heap[gb10]? = some (.cells #[.slice Ao6 r0.length co7] 24 (0, 0)))); have n3_ := Aside0.mk (hw.symm ▸ (Kd.S_far (p := ⟨gb26, 0, none⟩) (F24.out) (fun k_ h_ => by have z0_ := Z9.out; have z1_ := Z14.out; have z2_ := Z15.out; have z3_ := Z17.out; have z4_ := Z25.out; have z5_ := Z30.out; have z6_ := Z31.out; have g_ := GP29.out; unfold Ivl at h_; show k_ ≠ gb26; omega) _)); have n4_ := Aside0.mk ((by rw [hw]; exact blk_put (cs := #[.slice none 0 0]) (BK28.out) 0 _ rfl : w32.heap[gb26]? = some (.cells #[.slice Ao22 r0.length co23] 24 (0, 0)))); clear HB F8 BK12 F24 BK28; have HB := n0_; have F8 := n1_; have BK12 := n2_; have F24 := n3_; have BK28 := n4_; clear n0_ n1_ n2_ n3_ n4_; clear hw; (try clear hz_gb10_0); have hz_gb10_0 : w32.cell? ⟨gb10, 0, none⟩ = some (.slice Ao6 r0.length co7) := (blk_cell BK12.out 0).trans rfl; (try clear hf_gb10_0); have hf_gb10_0 := blk_frozen BK12.out 0; (try clear hz_gb26_0); have hz_gb26_0 : w32.cell? ⟨gb26, 0, none⟩ = some (.slice Ao22 r0.length co23) := (blk_cell BK28.out 0).trans rfl; (try clear hf_gb26_0); have hf_gb26_0 := blk_frozen BK28.out 0) | ((with_reducible refine gate_dst (N := 26) rfl ?_); (try (refine gate_guard (by rfl) ?_; dsimp only)); refine goesL_ (some 26) rfl rfl Tryd.func7 (by kernel_rfl) rfl #[.agg #[.slice Ao22 r0.length co23], .agg #[.slice Ao6 r0.length co7]] rfl (by (try simp only [List.map_toArray, List.map_cons, List.map_nil]); first | done | rfl) ?_; (with_reducible refine (laws_eqGame.calls k _ _ r0 _ _ r0 true _ ?side1 ?side2 ?side3 ?side4 E_laws_eqGame_35.out).mono ?_); (case side1 => exact (Kd.S_reads' F24.out).2.2); (case side2 => exact (Kd.S_reads' F24.out).2.1); (case side3 => exact (Kd.S_reads' F8.out).2.2); (case side4 => exact (Kd.S_reads' F8.out).2.1); rintro e w34 ⟨rfl, hb⟩; refine ⟨_, rfl, ?_⟩; have Z36 : Aside0 (w32.heap.size ≤ w34.heap.size) := Aside0.mk (hb.size); have n0_ := Aside0.mk (below_then HB.out HB.out.size hb); have n1_ := Aside0.mk (Kd.S_below F8.out hb); have n2_ := Aside0.mk (blk_below (g := gb10) (o := .cells #[.slice Ao6 r0.length co7] 24 (0, 0)) BK12.out hb); have n3_ := Aside0.mk (Kd.S_below F24.out hb); have n4_ := Aside0.mk (blk_below (g := gb26) (o := .cells #[.slice Ao22 r0.length co23] 24 (0, 0)) BK28.out hb); clear HB F8 BK12 F24 BK28; have HB := n0_; have F8 := n1_; have BK12 := n2_; have F24 := n3_; have BK28 := n4_; clear n0_ n1_ n2_ n3_ n4_; (try clear hb); (try clear hz_gb10_0); have hz_gb10_0 : w34.cell? ⟨gb10, 0, none⟩ = some (.slice Ao6 r0.length co7) := (blk_cell BK12.out 0).trans rfl; (try clear hf_gb10_0); have hf_gb10_0 := blk_frozen BK12.out 0; (try clear hz_gb26_0); have hz_gb26_0 : w34.cell? ⟨gb26, 0, none⟩ = some (.slice Ao22 r0.length co23) := (blk_cell BK28.out 0).trans rfl; (try clear hf_gb26_0); have hf_gb26_0 := blk_frozen BK28.out 0) | ((with_reducible refine gate_dst (N := 35) rfl ?_); (try (refine gate_guard (by rfl) ?_; dsimp only)); refine goesL_ (some 35) rfl rfl Tryd.func8 (by kernel_rfl) rfl #[.agg #[.slice Ao22 r0.length co23], .int .i64 1] rfl (by (try simp only [List.map_toArray, List.map_cons, List.map_nil]); first | done | rfl) ?_; (with_reducible refine (laws_markGame.calls (Ivl w16.heap.size w18.heap.size) _ _ _ r0 1 w _ HB.out F24.out (by decide) HM1_F24.out HM2_F24.out).mono ?_); rintro e w37 ⟨rfl, hs, hB, hk⟩; refine ⟨_, rfl, ?_⟩; rw [tm0_eq.out]; have Z38 : Aside0 (w34.heap.size ≤ w37.heap.size) := Aside0.mk (hk.1); have n0_ := Aside0.mk (hB); have n1_ := Aside0.mk (Kd.S_kept F8.out hk (fun k_ h1_ h2_ => by have z0_ := Z9.out; have z1_ := Z14.out; have z2_ := Z15.out; have z3_ := Z17.out; have z4_ := Z25.out; have z5_ := Z30.out; have z6_ := Z31.out; have z7_ := Z33.out; have z8_ := Z36.out; unfold Ivl at h1_ h2_; omega)); have n2_ := Aside0.mk (blk_kept BK12.out hk (fun h_ => by have z0_ := Z9.out; have z1_ := Z14.out; have z2_ := Z15.out; have z3_ := Z17.out; have z4_ := Z25.out; have z5_ := Z30.out; have z6_ := Z31.out; have z7_ := Z33.out; have z8_ := Z36.out; have g_ := GP13.out; unfold Ivl at h_; omega)); have n3_ := Aside0.mk (blk_kept BK28.out hk (fun h_ => by have z0_ := Z9.out; have z1_ := Z14.out; have z2_ := Z15.out; have z3_ := Z17.out; have z4_ := Z25.out; have z5_ := Z30.out; have z6_ := Z31.out; have z7_ := Z33.out; have z8_ := Z36.out; have g_ := GP29.out; unfold Ivl at h_; omega)); have n4_ := Aside0.mk (hs); clear HB F8 BK12 BK28 F24; have HB := n0_; have F8 := n1_; have BK12 := n2_; have BK28 := n3_; have F24 := n4_; clear n0_ n1_ n2_ n3_ n4_; (try clear hs hB hk); (try clear hz_gb10_0); have hz_gb10_0 : w37.cell? ⟨gb10, 0, none⟩ = some (.slice Ao6 r0.length co7) := (blk_cell BK12.out 0).trans rfl; (try clear hf_gb10_0); have hf_gb10_0 := blk_frozen BK12.out 0; (try clear hz_gb26_0); have hz_gb26_0 : w37.cell? ⟨gb26, 0, none⟩ = some (.slice Ao22 r0.length co23) := (blk_cell BK28.out 0).trans rfl; (try clear hf_gb26_0); have hf_gb26_0 := blk_frozen BK28.out 0) | ((with_reducible refine gate_dst (N := 38) rfl ?_); (try (refine gate_guard (by rfl) ?_; dsimp only)); refine goesL_ (some 38) rfl rfl Tryd.func9 (by kernel_rfl) rfl #[.agg #[.slice Ao22 (markL 1 r0).length co23], .int .i64 1] rfl (by (try simp only [List.map_toArray, List.map_cons, List.map_nil]); first | done | (rw [show (markL 1 r0).length = r0.length from markL_length _ _] <;> rfl) | rfl) ?_; (with_reducible refine (laws_heldGame.calls k _ _ (markL 1 r0) 1 tm0 _ ?side1 ?side2 E_laws_heldGame_40.out).mono ?_); (case side1 => first | (exact (Kd.S_reads' F24.out).2.2) | (rw [show (markL 1 r0).length = r0.length from markL_length _ _]; exact (Kd.S_reads' F24.out).2.2)); (case side2 => first | (exact (Kd.S_reads' F24.out).2.1) | (rw [show (markL 1 r0).length = r0.length from markL_length _ _]; exact (Kd.S_reads' F24.out).2.1)); rintro e w39 ⟨rfl, hb⟩; refine ⟨_, rfl, ?_⟩; have Z41 : Aside0 (w37.heap.size ≤ w39.heap.size) := Aside0.mk (hb.size); have n0_ := Aside0.mk (below_then HB.out HB.out.size hb); have n1_ := Aside0.mk (Kd.S_below F8.out hb); have n2_ := Aside0.mk (blk_below (g := gb10) (o := .cells #[.slice Ao6 r0.length co7] 24 (0, 0)) BK12.out hb); have n3_ := Aside0.mk (Kd.S_below F24.out hb); have n4_ := Aside0.mk (blk_below (g := gb26) (o := .cells #[.slice Ao22 r0.length co23] 24 (0, 0)) BK28.out hb); clear HB F8 BK12 F24 BK28; have HB := n0_; have F8 := n1_; have BK12 := n2_; have F24 := n3_; have BK28 := n4_; clear n0_ n1_ n2_ n3_ n4_; (try clear hb); (try clear hz_gb10_0); have hz_gb10_0 : w39.cell? ⟨gb10, 0, none⟩ = some (.slice Ao6 r0.length co7) := (blk_cell BK12.out 0).trans rfl; (try clear hf_gb10_0); have hf_gb10_0 := blk_frozen BK12.out 0; (try clear hz_gb26_0); have hz_gb26_0 : w39.cell? ⟨gb26, 0, none⟩ = some (.slice Ao22 r0.length co23) := (blk_cell BK28.out 0).trans rfl; (try clear hf_gb26_0); have hf_gb26_0 := blk_frozen BK28.out 0) | ((with_reducible refine gate_dst (N := 46) rfl ?_); (try (refine gate_guard (by rfl) ?_; dsimp only)); refine goesL_ (some 46) rfl rfl Tryd.func6 (by kernel_rfl) rfl #[.string a0] rfl (by (try simp only [List.map_toArray, List.map_cons, List.map_nil]); first | done | rfl) ?_; (with_reducible refine (impl_ParseGame.calls k a0 r0 r1 _ E_impl_ParseGame_19.out (HG.out.below HB.out)).mono ?_); rintro e w42 ⟨v43, rfl, ho44, hb⟩; refine ⟨_, rfl, ?_⟩; obtain ⟨Ao45, co46, e_Ao45⟩ := Kd.S_slice ho44; subst e_Ao45; have F47 := Aside0.mk (S_ivl ho44 HB.out.size); have Z48 : Aside0 (w39.heap.size ≤ w42.heap.size) := Aside0.mk (hb.size); have n0_ := Aside0.mk (below_then HB.out HB.out.size hb); have n1_ := Aside0.mk (Kd.S_below F8.out hb); have n2_ := Aside0.mk (blk_below (g := gb10) (o := .cells #[.slice Ao6 r0.length co7] 24 (0, 0)) BK12.out hb); have n3_ := Aside0.mk (Kd.S_below F24.out hb); have n4_ := Aside0.mk (blk_below (g := gb26) (o := .cells #[.slice Ao22 r0.length co23] 24 (0, 0)) BK28.out hb); clear HB F8 BK12 F24 BK28; have HB := n0_; have F8 := n1_; have BK12 := n2_; have F24 := n3_; have BK28 := n4_; clear n0_ n1_ n2_ n3_ n4_; (try clear hb ho44); (try clear hz_gb10_0); have hz_gb10_0 : w42.cell? ⟨gb10, 0, none⟩ = some (.slice Ao6 r0.length co7) := (blk_cell BK12.out 0).trans rfl; (try clear hf_gb10_0); have hf_gb10_0 := blk_frozen BK12.out 0; (try clear hz_gb26_0); have hz_gb26_0 : w42.cell? ⟨gb26, 0, none⟩ = some (.slice Ao22 r0.length co23) := (blk_cell BK28.out 0).trans rfl; (try clear hf_gb26_0); have hf_gb26_0 := blk_frozen BK28.out 0) | ((with_reducible refine gate_dst (N := 9) rfl ?_); (try (refine gate_guard (by rfl) ?_; dsimp only)); refine box_event ?hg (N := 9) ?hd (cs := #[.slice none 0 0]) (t := 24) ?hr ?_; (case hd => rfl); (case hg => rfl); (case hr => first | (go_simp; done) | (go_simp; rfl)); intro gb49 hg w50 hbox hb; have Z53 : Aside0 (w42.heap.size ≤ w50.heap.size) := Aside0.mk (hb.size); have BK51 := Aside0.mk hbox; have GP52 := Aside0.mk hg; have Z54 : Aside0 (gb49 < w50.heap.size) := Aside0.mk (blk_lt hbox); have n0_ := Aside0.mk (below_then HB.out HB.out.size hb); have n1_ := Aside0.mk (Kd.S_below F8.out hb); have n2_ := Aside0.mk (blk_below (g := gb10) (o := .cells #[.slice Ao6 r0.length co7] 24 (0, 0)) BK12.out hb); have n3_ := Aside0.mk (Kd.S_below F24.out hb); have n4_ := Aside0.mk (blk_below (g := gb26) (o := .cells #[.slice Ao22 r0.length co23] 24 (0, 0)) BK28.out hb); have n5_ := Aside0.mk (Kd.S_below F47.out hb); clear HB F8 BK12 F24 BK28 F47; have HB := n0_; have F8 := n1_; have BK12 := n2_; have F24 := n3_; have BK28 := n4_; have F47 := n5_; clear n0_ n1_ n2_ n3_ n4_ n5_; clear hb hbox hg; (try clear hz_gb10_0); have hz_gb10_0 : w50.cell? ⟨gb10, 0, none⟩ = some (.slice Ao6 r0.length co7) := (blk_cell BK12.out 0).trans rfl; (try clear hf_gb10_0); have hf_gb10_0 := blk_frozen BK12.out 0; (try clear hz_gb26_0); have hz_gb26_0 : w50.cell? ⟨gb26, 0, none⟩ = some (.slice Ao22 r0.length co23) := (blk_cell BK28.out 0).trans rfl; (try clear hf_gb26_0); have hf_gb26_0 := blk_frozen BK28.out 0; (try clear hz_gb49_0); have hz_gb49_0 : w50.cell? ⟨gb49, 0, none⟩ = some (.slice none 0 0) := (blk_cell BK51.out 0).trans rfl; (try clear hf_gb49_0); have hf_gb49_0 := blk_frozen BK51.out 0) | ((with_reducible refine gate_store (t := 24) (p := 9) rfl ?_); (try (refine gate_guard (by rfl) ?_; dsimp only)); refine store_event (t := 24) (p := 9) (v := ?vo_w55) (w1 := (w50.setCell ⟨gb49, 0, none⟩ (.slice Ao45 r0.length co46))) ?hg ?ho ?hn ?hr ?_; (case ho => rfl); (case hg => rfl); (case hn => rfl); (case hr => first | (go_simp; done) | (go_simp; rfl)); intro w55 hw; have Z56 : Aside0 (w50.heap.size ≤ w55.heap.size) := Aside0.mk (by rw [hw]; simp [World.setCell]); have n0_ := Aside0.mk ((by rw [hw]; exact below_set (HB.out) (by have z0_ := Z9.out; have z1_ := Z14.out; have z2_ := Z15.out; have z3_ := Z17.out; have z4_ := Z25.out; have z5_ := Z30.out; have z6_ := Z31.out; have z7_ := Z33.out; have z8_ := Z36.out; have z9_ := Z38.out; have z10_ := Z41.out; have z11_ := Z48.out; have z12_ := Z53.out; have z13_ := Z54.out; have g_ := GP52.out; have hb_ := HB.out.size; omega) : Below w.heap.size w w55)); have n1_ := Aside0.mk (hw.symm ▸ (Kd.S_far (p := ⟨gb49, 0, none⟩) (F8.out) (fun k_ h_ => by have z0_ := Z9.out; have z1_ := Z14.out; have z2_ := Z15.out; have z3_ := Z17.out; have z4_ := Z25.out; have z5_ := Z30.out; have z6_ := Z31.out; have z7_ := Z33.out; have z8_ := Z36.out; have z9_ := Z38.out; have z10_ := Z41.out; have z11_ := Z48.out; have z12_ := Z53.out; have z13_ := Z54.out; have g_ := GP52.out; unfold Ivl at h_; show k_ ≠ gb49; omega) _)); have n2_ := Aside0.mk ((by rw [hw]; exact blk_far (BK12.out) (by have z0_ := Z9.out; have z1_ := Z14.out; have z2_ := Z15.out; have z3_ := Z17.out; have z4_ := Z25.out; have z5_ := Z30.out; have z6_ := Z31.out; have z7_ := Z33.out; have z8_ := Z36.out; have z9_ := Z38.out; have z10_ := Z41.out; have z11_ := Z48.out; have z12_ := Z53.out; have z13_ := Z54.out; have g1_ := GP13.out; have g2_ := GP52.out; show gb10 ≠ gb49; omega) _ : w55.heap[gb10]? = some (.cells #[.slice Ao6 r0.length co7] 24 (0, 0)))); have n3_ := Aside0.mk (hw.symm ▸ (Kd.S_far (p := ⟨gb49, 0, none⟩) (F24.out) (fun k_ h_ => by have z0_ := Z9.out; have z1_ := Z14.out; have z2_ := Z15.out; have z3_ := Z17.out; have z4_ := Z25.out; have z5_ := Z30.out; have z6_ := Z31.out; have z7_ := Z33.out; have z8_ := Z36.out; have z9_ := Z38.out; have z10_ := Z41.out; have z11_ := Z48.out; have z12_ := Z53.out; have z13_ := Z54.out; have g_ := GP52.out; unfold Ivl at h_; show k_ ≠ gb49; omega) _)); have n4_ := Aside0.mk ((by rw [hw]; exact blk_far (BK28.out) (by have z0_ := Z9.out; have z1_ := Z14.out; have z2_ := Z15.out; have z3_ := Z17.out; have z4_ := Z25.out; have z5_ := Z30.out; have z6_ := Z31.out; have z7_ := Z33.out; have z8_ := Z36.out; have z9_ := Z38.out; have z10_ := Z41.out; have z11_ := Z48.out; have z12_ := Z53.out; have z13_ := Z54.out; have g1_ := GP29.out; have g2_ := GP52.out; show gb26 ≠ gb49; omega) _ : w55.heap[gb26]? = some (.cells #[.slice Ao22 r0.length co23] 24 (0, 0)))); have n5_ := Aside0.mk (hw.symm ▸ (Kd.S_far (p := ⟨gb49, 0, none⟩) (F47.out) (fun k_ h_ => by have z0_ := Z9.out; have z1_ := Z14.out; have z2_ := Z15.out; have z3_ := Z17.out; have z4_ := Z25.out; have z5_ := Z30.out; have z6_ := Z31.out; have z7_ := Z33.out; have z8_ := Z36.out; have z9_ := Z38.out; have z10_ := Z41.out; have z11_ := Z48.out; have z12_ := Z53.out; have z13_ := Z54.out; have g_ := GP52.out; unfold Ivl at h_; show k_ ≠ gb49; omega) _)); have n6_ := Aside0.mk ((by rw [hw]; exact blk_put (cs := #[.slice none 0 0]) (BK51.out) 0 _ rfl : w55.heap[gb49]? = some (.cells #[.slice Ao45 r0.length co46] 24 (0, 0)))); clear HB F8 BK12 F24 BK28 F47 BK51; have HB := n0_; have F8 := n1_; have BK12 := n2_; have F24 := n3_; have BK28 := n4_; have F47 := n5_; have BK51 := n6_; clear n0_ n1_ n2_ n3_ n4_ n5_ n6_; clear hw; (try clear hz_gb10_0); have hz_gb10_0 : w55.cell? ⟨gb10, 0, none⟩ = some (.slice Ao6 r0.length co7) := (blk_cell BK12.out 0).trans rfl; (try clear hf_gb10_0); have hf_gb10_0 := blk_frozen BK12.out 0; (try clear hz_gb26_0); have hz_gb26_0 : w55.cell? ⟨gb26, 0, none⟩ = some (.slice Ao22 r0.length co23) := (blk_cell BK28.out 0).trans rfl; (try clear hf_gb26_0); have hf_gb26_0 := blk_frozen BK28.out 0; (try clear hz_gb49_0); have hz_gb49_0 : w55.cell? ⟨gb49, 0, none⟩ = some (.slice Ao45 r0.length co46) := (blk_cell BK51.out 0).trans rfl; (try clear hf_gb49_0); have hf_gb49_0 := blk_frozen BK51.out 0) | ((with_reducible refine gate_dst (N := 51) rfl ?_); (try (refine gate_guard (by rfl) ?_; dsimp only)); refine goesL_ (some 51) rfl rfl Tryd.func7 (by kernel_rfl) rfl #[.agg #[.slice Ao45 r0.length co46], .agg #[.slice Ao6 r0.length co7]] rfl (by (try simp only [List.map_toArray, List.map_cons, List.map_nil]); first | done | rfl) ?_; (with_reducible refine (laws_eqGame.calls k _ _ r0 _ _ r0 true _ ?side1 ?side2 ?side3 ?side4 E_laws_eqGame_35.out).mono ?_); (case side1 => exact (Kd.S_reads' F47.out).2.2); (case side2 => exact (Kd.S_reads' F47.out).2.1); (case side3 => exact (Kd.S_reads' F8.out).2.2); (case side4 => exact (Kd.S_reads' F8.out).2.1); rintro e w57 ⟨rfl, hb⟩; refine ⟨_, rfl, ?_⟩; have Z58 : Aside0 (w55.heap.size ≤ w57.heap.size) := Aside0.mk (hb.size); have n0_ := Aside0.mk (below_then HB.out HB.out.size hb); have n1_ := Aside0.mk (Kd.S_below F8.out hb); have n2_ := Aside0.mk (blk_below (g := gb10) (o := .cells #[.slice Ao6 r0.length co7] 24 (0, 0)) BK12.out hb); have n3_ := Aside0.mk (Kd.S_below F24.out hb); have n4_ := Aside0.mk (blk_below (g := gb26) (o := .cells #[.slice Ao22 r0.length co23] 24 (0, 0)) BK28.out hb); have n5_ := Aside0.mk (Kd.S_below F47.out hb); have n6_ := Aside0.mk (blk_below (g := gb49) (o := .cells #[.slice Ao45 r0.length co46] 24 (0, 0)) BK51.out hb); clear HB F8 BK12 F24 BK28 F47 BK51; have HB := n0_; have F8 := n1_; have BK12 := n2_; have F24 := n3_; have BK28 := n4_; have F47 := n5_; have BK51 := n6_; clear n0_ n1_ n2_ n3_ n4_ n5_ n6_; (try clear hb); (try clear hz_gb10_0); have hz_gb10_0 : w57.cell? ⟨gb10, 0, none⟩ = some (.slice Ao6 r0.length co7) := (blk_cell BK12.out 0).trans rfl; (try clear hf_gb10_0); have hf_gb10_0 := blk_frozen BK12.out 0; (try clear hz_gb26_0); have hz_gb26_0 : w57.cell? ⟨gb26, 0, none⟩ = some (.slice Ao22 r0.length co23) := (blk_cell BK28.out 0).trans rfl; (try clear hf_gb26_0); have hf_gb26_0 := blk_frozen BK28.out 0; (try clear hz_gb49_0); have hz_gb49_0 : w57.cell? ⟨gb49, 0, none⟩ = some (.slice Ao45 r0.length co46) := (blk_cell BK51.out 0).trans rfl; (try clear hf_gb49_0); have hf_gb49_0 := blk_frozen BK51.out 0) | ((with_reducible refine gate_dst (N := 60) rfl ?_); (try (refine gate_guard (by rfl) ?_; dsimp only)); refine goesL_ (some 60) rfl rfl Tryd.func9 (by kernel_rfl) rfl #[.agg #[.slice Ao22 (markL 1 r0).length co23], .int .i64 1] rfl (by (try simp only [List.map_toArray, List.map_cons, List.map_nil]); first | done | (rw [show (markL 1 r0).length = r0.length from markL_length _ _] <;> rfl) | rfl) ?_; (with_reducible refine (laws_heldGame.calls k _ _ (markL 1 r0) 1 tm0 _ ?side1 ?side2 E_laws_heldGame_40.out).mono ?_); (case side1 => first | (exact (Kd.S_reads' F24.out).2.2) | (rw [show (markL 1 r0).length = r0.length from markL_length _ _]; exact (Kd.S_reads' F24.out).2.2)); (case side2 => first | (exact (Kd.S_reads' F24.out).2.1) | (rw [show (markL 1 r0).length = r0.length from markL_length _ _]; exact (Kd.S_reads' F24.out).2.1)); rintro e w59 ⟨rfl, hb⟩; refine ⟨_, rfl, ?_⟩; have Z60 : Aside0 (w57.heap.size ≤ w59.heap.size) := Aside0.mk (hb.size); have n0_ := Aside0.mk (below_then HB.out HB.out.size hb); have n1_ := Aside0.mk (Kd.S_below F8.out hb); have n2_ := Aside0.mk (blk_below (g := gb10) (o := .cells #[.slice Ao6 r0.length co7] 24 (0, 0)) BK12.out hb); have n3_ := Aside0.mk (Kd.S_below F24.out hb); have n4_ := Aside0.mk (blk_below (g := gb26) (o := .cells #[.slice Ao22 r0.length co23] 24 (0, 0)) BK28.out hb); have n5_ := Aside0.mk (Kd.S_below F47.out hb); have n6_ := Aside0.mk (blk_below (g := gb49) (o := .cells #[.slice Ao45 r0.length co46] 24 (0, 0)) BK51.out hb); clear HB F8 BK12 F24 BK28 F47 BK51; have HB := n0_; have F8 := n1_; have BK12 := n2_; have F24 := n3_; have BK28 := n4_; have F47 := n5_; have BK51 := n6_; clear n0_ n1_ n2_ n3_ n4_ n5_ n6_; (try clear hb); (try clear hz_gb10_0); have hz_gb10_0 : w59.cell? ⟨gb10, 0, none⟩ = some (.slice Ao6 r0.length co7) := (blk_cell BK12.out 0).trans rfl; (try clear hf_gb10_0); have hf_gb10_0 := blk_frozen BK12.out 0; (try clear hz_gb26_0); have hz_gb26_0 : w59.cell? ⟨gb26, 0, none⟩ = some (.slice Ao22 r0.length co23) := (blk_cell BK28.out 0).trans rfl; (try clear hf_gb26_0); have hf_gb26_0 := blk_frozen BK28.out 0; (try clear hz_gb49_0); have hz_gb49_0 : w59.cell? ⟨gb49, 0, none⟩ = some (.slice Ao45 r0.length co46) := (blk_cell BK51.out 0).trans rfl; (try clear hf_gb49_0); have hf_gb49_0 := blk_frozen BK51.out 0))
  go_ret
  exact ⟨rfl, HB.out⟩

theorem laws_FnExactParseGame.good_of (a0 : ByteArray) (r0 : List (List Int)) (r1 : Int) (tm0 : Int) (w : World)  (D_len1 : decide (1048576 < (a0.size : Int)) = false) (E_spec_ParseGame_3_h : Ev (fun k => spec_ParseGame.f k a0) ((r0, r1))) (E_impl_ParseGame_19_h : Ev (fun k => impl_ParseGame.f k a0) ((r0, r1))) (E_laws_eqGame_35_h : Ev (fun k => laws_eqGame.f k r0 r0) (true)) (D_tm0 : decide (tm0 < 0) = false) (HM1_F24_h : 1 + total r0 < 4611686018427387904) (HM2_F24_h : r0.length < 4611686018427387904) (tm0_eq_h : 1 + total r0 = tm0) (E_laws_heldGame_40_h : Ev (fun k => laws_heldGame.f k (markL 1 r0) 1) (tm0)) (hG : Good w) :
    Calls Tryd.prog 3 #[.string a0] w fun e w' => e = .returned (.bool true) ∧ Below w.heap.size w w' := by
  obtain ⟨k0, e0⟩ := E_spec_ParseGame_3_h
  obtain ⟨k1, e1⟩ := E_impl_ParseGame_19_h
  obtain ⟨k2, e2⟩ := E_laws_eqGame_35_h
  obtain ⟨k3, e3⟩ := E_laws_heldGame_40_h
  exact laws_FnExactParseGame.good (k0 + k1 + k2 + k3) a0 r0 r1 tm0 w  D_len1 (e0 (k0 + k1 + k2 + k3) (by omega)) (e1 (k0 + k1 + k2 + k3) (by omega)) (e2 (k0 + k1 + k2 + k3) (by omega)) D_tm0 HM1_F24_h HM2_F24_h tm0_eq_h (e3 (k0 + k1 + k2 + k3) (by omega)) hG

set_option maxHeartbeats 16000000 in
set_option maxRecDepth 100000 in
theorem laws_FnExactParseGame.early0 (k : Nat) (a0 : ByteArray)  (w : World)  (D_len1 : decide (1048576 < (a0.size : Int)) = true) :
    Calls Tryd.prog 3 #[.string a0] w fun e w' => e = .returned (.bool true) ∧ Below w.heap.size w w' := by
  have HB := Aside0.mk (Below.refl w.heap.size w)
  go_enter Tryd.func3, Tryd.ntmps3
  go_wp2
  go_ret
  exact ⟨rfl, HB.out⟩

theorem laws_FnExactParseGame.early0_of (a0 : ByteArray)  (w : World)  (D_len1 : decide (1048576 < (a0.size : Int)) = true) :
    Calls Tryd.prog 3 #[.string a0] w fun e w' => e = .returned (.bool true) ∧ Below w.heap.size w w' := by
  exact laws_FnExactParseGame.early0 (0) a0  w  D_len1

end Go.Proofs.YtcjfofcgbpbdmaaDoor.PX

/- Marks laid into a game are found again (no condition but sizes that fit). -/
namespace Go.Proofs.YtcjfofcgbpbdmaaDoor.PX
open Go.RowKit Go.Proofs.YtcjfofcgbpbdmaaDoorW.PrintWords Go.Proofs.YtcjfofcgbpbdmaaDoorW.PrintLast Go.Proofs.YtcjfofcgbpbdmaaDoorW.PrintMore
attribute [local go_sem] max2_int min2_int max_two min_two max_three min_three max_four min_four
set_option linter.unusedVariables false
set_option linter.unusedSimpArgs false
theorem heldSS_loop (g : List (List Int)) (a : Int) (ha : 0 ≤ a) (hn : a + total g < 4611686018427387904) (hg : g.length < 4611686018427387904) (d : Nat) : ∀ (i : Nat), i + d = g.length →
    Ev (fun k => laws_heldInt64SS.l0 k (markL a g) (a + total (g.take i)) i) (a + total g) := by
  induction d with
  | zero =>
    intro i hd
    have e : i = g.length := by omega
    subst e
    refine Ev.step (f := fun _ => some (a + total g)) (fun k => ?_) (Ev.now _)
    simp only [laws_heldInt64SS.l0]
    rw [if_neg (by rw [markL_length]; omega), List.take_length]
  | succ d ih =>
    intro i hd
    obtain ⟨row, hp⟩ := get_some (xs := g) (i := i) (by omega)
    have hx := ih (i + 1) (by omega)
    have et : total (g.take (i + 1)) = total (g.take i) + row.length := by
      rw [List.take_add_one, hp]
      have : ∀ (x y : List (List Int)), total (x ++ y) = total x + total y := fun x y => by
        induction x with
        | nil => simp [total]
        | cons z r ihx => simp only [List.cons_append, total, ihx]; omega
      rw [this]
      simp [total]
    have hb : total (g.take i) + row.length + total (g.drop (i + 1)) = total g := by
      have : ∀ (x y : List (List Int)), total (x ++ y) = total x + total y := fun x y => by
        induction x with
        | nil => simp [total]
        | cons z r ihx => simp only [List.cons_append, total, ihx]; omega
      have e := congrArg total (List.take_append_drop i g)
      rw [this, drop_of hp] at e
      simp only [total] at e
      omega
    have h0 := total_nonneg (g.take i)
    have h1 := total_nonneg (g.drop (i + 1))
    have hget : rd_L3 (markL a g) (i : Int) = marks (a + total (g.take i)) row.length := by
      rw [rdL1_nat]
      have e : markL a g = markL a (g.take i) ++ markL (a + total (g.take i)) (g.drop i) := by rw [← markL_append, List.take_append_drop]
      rw [e, drop_of hp, List.getD_eq_getElem?_getD, List.getElem?_append_right (by rw [markL_length, List.length_take]; omega), markL_length, List.length_take, show i - min i g.length = 0 by omega]
      rfl
    have hh := held_ev row.length (a + total (g.take i)) (by omega) (by omega)
    rw [et, ← Int.add_assoc] at hx
    refine Ev.step (fun k => by simp only [laws_heldInt64SS.l0]; rw [if_pos (by rw [markL_length]; omega), if_pos (by omega), hget]) (Ev.bind hh (Ev.congr (fun k => ?_) hx))
    rw [if_neg (by omega), wrapS (by omega) (by omega), cast_succ]
theorem heldG_ev (g : List (List Int)) (a : Int) (ha : 0 ≤ a) (hn : a + total g < 4611686018427387904) (hg : g.length < 4611686018427387904) : Ev (fun k => laws_heldGame.f k (markL a g) a) (a + total g) := by
  have h := heldSS_loop g a ha hn hg g.length 0 (by omega)
  have h0 := total_nonneg g
  have e : a + total (g.take 0) = a := by simp [total]
  rw [e] at h
  unfold laws_heldGame.f
  refine Ev.bind (g := fun k => laws_heldInt64SS.f k (markL a g) a) (Ev.congr (fun k => rfl) h) (Ev.congr (f := fun _ => some (a + total g)) (fun k => ?_) (Ev.now _))
  rw [if_neg (by omega)]
theorem total_le (n : Nat) : ∀ g : List (List Int), (∀ row ∈ g, row.length ≤ n) → total g ≤ (g.length : Int) * n
  | [], _ => by simp [total]
  | row :: rest, h => by
    have := total_le n rest (fun r hr => h r (by simp [hr]))
    have h1 := h row (by simp)
    simp only [total, List.length_cons]
    have e : (((rest.length + 1 : Nat) : Int)) * (n : Int) = (rest.length : Int) * n + n := by rw [Int.natCast_add, Int.add_mul]; simp
    omega

end Go.Proofs.YtcjfofcgbpbdmaaDoor.PX
