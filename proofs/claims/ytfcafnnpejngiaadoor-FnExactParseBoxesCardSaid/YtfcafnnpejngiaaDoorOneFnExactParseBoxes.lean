/- The row of FnExactParseBoxes, out of its plain law (no condition). -/
import Derived.Laws.RangeAny
import Derived.Test.YtfcafnnpejngiaaDoorRows
import Derived.Stop.LaidErr
import Derived.Lib.LaidTab
import Derived.MakeChecks
import Derived.WalkKit
import Derived.ProofKit
import Derived.OpenShut
import Derived.ShutString
import Derived.ChangeOld
import Derived.Below
import Derived.Carry
import Derived.SizedLaws
import Derived.Lib.SmallJoins
import Derived.Test.YtfcafnnpejngiaaDoorCards
import Derived.Test.YtfcafnnpejngiaaDoorTie
import Derived.Deep.DeepHandedRow
import Derived.SevenTiedAt
import Derived.Lay
import Derived.Test.YtfcafnnpejngiaaDoorPk5FnExactParseBoxes
/- ParseBoxes: the program and the reference answer alike (condition: a text of at most 2 to the 20th bytes). -/
namespace Go.Proofs.YtfcafnnpejngiaaDoor.PX
open Go.RowKit Go.Proofs.YtfcafnnpejngiaaDoorW.PrintWords Go.Proofs.YtfcafnnpejngiaaDoorW.PrintLast Go.Proofs.YtfcafnnpejngiaaDoorW.PrintMore
attribute [local go_sem] max2_int min2_int max_two min_two max_three min_three max_four min_four
set_option linter.unusedVariables false
set_option linter.unusedSimpArgs false
theorem bs_eq (l : List UInt8) : bs l = bsP l := rfl
theorem shl_bit (b t : Nat) (hb : b ≤ 1) (ht : t < 30) : shl .i64 (b : Int) (t : Int) = ((b * 2 ^ t : Nat) : Int) := by
  have hp := pow_small ht
  have hm : b * 2 ^ t ≤ 1 * 2 ^ t := Nat.mul_le_mul_right _ hb
  unfold shl
  rw [Int.toNat_natCast, show min t IntKind.i64.bits = t from Nat.min_eq_left (by simp only [IntKind.bits]; omega)]
  have e1 : (b : Int) * 2 ^ t = ((b * 2 ^ t : Nat) : Int) := by simp
  rw [e1]
  exact wrap_small (by omega) (by omega)
theorem or_bit (x b t : Nat) (hx : x < 2 ^ t) (hb : b ≤ 1) (ht : t < 30) : Go.bits .or .i64 (x : Int) (shl .i64 (b : Int) (t : Int)) = ((x + 2 ^ t * b : Nat) : Int) := by
  have hp := pow_small ht
  have hm : b * 2 ^ t ≤ 1 * 2 ^ t := Nat.mul_le_mul_right _ hb
  rw [shl_bit b t hb ht, or_nat _ _ (by omega) (by omega), Nat.mul_comm b, Nat.or_comm, ← Nat.two_pow_add_eq_or_of_lt hx b, Nat.add_comm]
theorem bitN {E i : Nat} (he : E < 1073741824) (hi : i < 30) : Go.bits .and .i64 (shr .i64 (E : Int) (i : Int)) 1 = ((E / 2 ^ i % 2 : Nat) : Int) := by
  have h1 : shr .i64 (E : Int) (i : Int) = ((E / 2 ^ i : Nat) : Int) := by
    unfold shr
    rw [Int.toNat_natCast, show min i IntKind.i64.bits = i from Nat.min_eq_left (by simp only [IntKind.bits]; omega)]
    exact (Int.natCast_ediv E (2 ^ i)).symm ▸ by simp
  have h2 : E / 2 ^ i ≤ E := Nat.div_le_self E (2 ^ i)
  rw [h1, and_one _ (by omega)]
def preU (w h : Int) : List UInt8 := [UInt8.ofNat (48 + w.toNat), 120, UInt8.ofNat (48 + h.toNat), 58]
theorem dig_small {w : Int} (h : 1 ≤ w ∧ w ≤ 3) : dig w = [UInt8.ofNat (48 + w.toNat)] := by
  unfold dig
  rw [Lib.decDigits_one (by omega)]
theorem text_of {w h : Int} (hw : 1 ≤ w ∧ w ≤ 3) (hh : 1 ≤ h ∧ h ≤ 3) (l : List UInt8) (hl : okBits l) (h24 : l.length ≤ 24) : ∀ n, n ≤ l.length → boxTextU w h ((valB l : Nat) : Int) n = preU w h ++ l.take n
  | 0, _ => by
    rw [boxTextU, dig_small hw, dig_small hh]
    simp [preU]
  | n + 1, hn => by
    obtain ⟨b, hb⟩ := get_some (xs := l) (i := n) (by omega)
    have hv := valB_lt l
    have h2 : (2 : Nat) ^ l.length ≤ 2 ^ 24 := Nat.pow_le_pow_right (by decide) h24
    rw [boxTextU, text_of hw hh l hl h24 n (by omega), bitN (by omega) (by omega), valB_bit l n b hb, List.take_add_one, hb]
    have hd : dig (((if b = 49 then 1 else 0 : Nat)) : Int) = [b] := by
      rcases hl b (List.mem_of_getElem? hb) with e | e
      · subst e; rw [if_neg (by decide)]; unfold dig; rw [Lib.decDigits_one (by decide)]; rfl
      · subst e; rw [if_pos rfl]; unfold dig; rw [Lib.decDigits_one (by decide)]; rfl
    rw [hd, List.append_assoc]
    rfl
def cntB (w h : Int) : Int := w * (h + 1) + h * (w + 1)
/-- A text of a position: its sides, its signs. -/
def isText (t : List UInt8) (w h : Int) (l : List UInt8) : Prop := okBits l ∧ isB w h ((valB l : Nat) : Int) = true ∧ ((l.length : Nat) : Int) = cntB w h ∧ t = preU w h ++ l
theorem cnt_le {w h : Int} (hw : 1 ≤ w ∧ w ≤ 3) (hh : 1 ≤ h ∧ h ≤ 3) : 4 ≤ cntB w h ∧ cntB w h ≤ 24 := by
  rcases three hw with rfl | rfl | rfl <;> rcases three hh with rfl | rfl | rfl <;> exact ⟨by decide, by decide⟩
theorem boxText_of {w h : Int} {l : List UInt8} {t : List UInt8} (ht : isText t w h l) : boxText w h ((valB l : Nat) : Int) = (bs t, 0) := by
  obtain ⟨h1, h2, h3, rfl⟩ := ht
  obtain ⟨hw, hh, _⟩ := isB_parts h2
  have h4 := cnt_le hw hh
  unfold boxText
  rw [if_pos h2, show (w * (h + 1) + h * (w + 1)).toNat = l.length from by unfold cntB at h3; omega, text_of hw hh l h1 (by omega) l.length (Nat.le_refl _), List.take_length]
theorem text_from {w h E : Int} {s : ByteArray} (hb : (boxText w h E).2 = 0) (hs : (boxText w h E).1.toList = s.toList) : ∃ l, isText s.data.toList w h l ∧ E = ((valB l : Nat) : Int) := by
  unfold boxText at hb hs
  by_cases hB : isB w h E = true
  · rw [if_pos hB] at hs
    obtain ⟨hw, hh, n, rfl, hn⟩ := isB_parts hB
    have h4 := cnt_le hw hh
    have hlt : n < 2 ^ (cntB w h).toNat := by
      have := hB
      simp only [isB, decide_eq_true_eq] at this
      have h5 : (n : Int) < 2 ^ (cntB w h).toNat := this.2.2.2
      exact_mod_cast h5
    obtain ⟨l, h1, h2, h3⟩ := valB_ex (cntB w h).toNat n hlt
    refine ⟨l, ⟨h1, by rw [h3]; exact hB, by rw [h2]; omega, ?_⟩, by rw [h3]⟩
    have h6 := text_of hw hh l h1 (by omega) l.length (Nat.le_refl _)
    rw [List.take_length, h3] at h6
    have h7 : (w * (h + 1) + h * (w + 1)).toNat = l.length := by unfold cntB at h2; omega
    have h8 : bs (boxTextU w h (n : Int) l.length) = s := by
      refine bsP_ext ?_
      have := hs
      rw [ByteArray.toList_eq, ByteArray.toList_eq, h7] at this
      exact this
    rw [← h8, bs_data, h6]
  · rw [if_neg hB] at hb
    cases hb
-- the program
def implFin (s : ByteArray) (w h E : Int) : Int × Int × Int × Int := if (boxText w h E).2 = 0 then (if (boxText w h E).1.toList = s.toList then (w, h, E, 0) else (0, 0, 0, 6)) else (0, 0, 0, 6)
theorem fin_ev (s : ByteArray) (w h E : Int) : Ev (fun k => (impl_BoxesText.f k w h E).bind fun bt187 => (if bt187.2 = 0 then (if bt187.1.toList = s.toList then (some (w, h, E, 0)) else (some (0, 0, 0, 6))) else (some (0, 0, 0, 6)))) (implFin s w h E) := by
  refine Ev.bind (implBText_ev w h E) ?_
  unfold implFin
  by_cases h1 : (boxText w h E).2 = 0
  · rw [if_pos h1]
    by_cases h2 : (boxText w h E).1.toList = s.toList
    · rw [if_pos h2]
      exact Ev.congr (f := fun _ => some _) (fun k => by rw [if_pos h1, if_pos h2]) (Ev.now _)
    · rw [if_neg h2]
      exact Ev.congr (f := fun _ => some _) (fun k => by rw [if_pos h1, if_neg h2]) (Ev.now _)
  · rw [if_neg h1]
    exact Ev.congr (f := fun _ => some _) (fun k => by rw [if_neg h1]) (Ev.now _)
theorem width_pos (s : ByteArray) (pos : Nat) (h : pos < s.size) : 1 ≤ (Utf8.decode s pos).2 := by
  by_cases ha : (s[pos]'h).toNat < 128
  · rw [decode_ascii s pos h ha]
    exact Nat.le_refl _
  · exact (decode_high s pos h (by omega)).2
theorem rnext_nat (s : ByteArray) (p : Nat) : rnext s (p : Int) = ((p + (Utf8.decode s p).2 : Nat) : Int) := by
  unfold rnext
  rw [Int.toNat_natCast]
theorem runeLoop (a0 s : ByteArray) (w h : Int) : ∀ (d p : Nat) (x : Int), s.size ≤ p + d → ∃ E, Ev (fun k => impl_ParseBoxes.l0 k a0 s (s.size : Int) (p : Int) w h x) (implFin a0 w h E)
  | 0, p, x, hd => ⟨x, Ev.step (fun k => by rw [impl_ParseBoxes.l0, if_neg (by omega)]) (fin_ev a0 w h x)⟩
  | d + 1, p, x, hd => by
    by_cases hp : p < s.size
    · have hw := width_pos s p hp
      by_cases hb : bt s (p : Int) = 49
      · obtain ⟨E, hE⟩ := runeLoop a0 s w h d (p + (Utf8.decode s p).2) (Go.bits .or .i64 x (shl .i64 1 (p : Int))) (by omega)
        exact ⟨E, Ev.step (fun k => by rw [impl_ParseBoxes.l0, if_pos (by omega), if_pos (by omega), if_pos (by omega), if_pos hb, rnext_nat]) hE⟩
      · obtain ⟨E, hE⟩ := runeLoop a0 s w h d (p + (Utf8.decode s p).2) x (by omega)
        exact ⟨E, Ev.step (fun k => by rw [impl_ParseBoxes.l0, if_pos (by omega), if_pos (by omega), if_pos (by omega), if_neg hb, rnext_nat]) hE⟩
    · exact ⟨x, Ev.step (fun k => by rw [impl_ParseBoxes.l0, if_neg (by omega)]) (fin_ev a0 w h x)⟩
theorem asciiLoop (a0 : ByteArray) (w h : Int) (l : List UInt8) (hl : okBits l) (h24 : l.length ≤ 24) : ∀ (d i : Nat), i + d = l.length →
    Ev (fun k => impl_ParseBoxes.l0 k a0 (bsP l) ((bsP l).size : Int) (i : Int) w h ((valB (l.take i) : Nat) : Int)) (implFin a0 w h ((valB l : Nat) : Int))
  | 0, i, hd => by
    rw [List.take_of_length_le (by omega)]
    exact Ev.step (fun k => by rw [impl_ParseBoxes.l0, if_neg (by rw [bsP_size]; omega)]) (fin_ev a0 w h _)
  | d + 1, i, hd => by
    have ih := asciiLoop a0 w h l hl h24 d (i + 1) (by omega)
    obtain ⟨b, t, hb⟩ : ∃ b t, l.drop i = b :: t := ⟨_, _, List.drop_eq_getElem_cons (by omega)⟩
    have hb2 : (bsP l).data.toList.drop i = b :: t := by rw [bsP_data]; exact hb
    obtain ⟨h1, h2, h3⟩ := bt_list (bsP l) i b t hb2
    have hg : l[i]? = some b := by
      have := congrArg List.head? hb
      rw [List.head?_drop] at this
      exact this
    have hok := hl b (List.mem_of_getElem? hg)
    have hbn : b.toNat < 128 := by rcases hok with e | e <;> subst e <;> decide
    have hget : ((bsP l)[i]'h2).toNat = b.toNat := by
      have e := bt_at (bsP l) (i : Int) (by simpa using h2)
      rw [h1] at e
      simp only [Int.toNat_natCast] at e
      omega
    have hn : rnext (bsP l) (i : Int) = ((i + 1 : Nat) : Int) := by
      rw [rnext_nat, decode_ascii (bsP l) i h2 (by omega)]
    have ht : l.take (i + 1) = l.take i ++ [b] := by rw [List.take_add_one, hg]; rfl
    have hlt := valB_lt (l.take i)
    rw [List.length_take, Nat.min_eq_left (by omega)] at hlt
    rw [ht, valB_snoc, List.length_take, Nat.min_eq_left (by omega)] at ih
    rcases hok with e | e
    · subst e
      rw [if_neg (by decide), Nat.mul_zero, Nat.add_zero] at ih
      exact Ev.step (fun k => by rw [impl_ParseBoxes.l0, if_pos (by omega), if_pos (by omega), if_pos (by omega), h1, if_neg (by decide), hn]; rfl) ih
    · subst e
      rw [if_pos rfl] at ih
      have ho := or_bit (valB (l.take i)) 1 i hlt (Nat.le_refl _) (by omega)
      refine Ev.step (fun k => ?_) ih
      rw [impl_ParseBoxes.l0, if_pos (by omega), if_pos (by omega), if_pos (by omega), h1, if_pos (by decide), hn, ← ho]
      rfl
theorem impl_j0 (a0 s : ByteArray) (L : List Int) (b : Bool) (hb : b = false → L.length = 2) : ∃ r, Ev (fun k => impl_ParseBoxes.j0 k a0 s L b) r ∧ (r = (0, 0, 0, 6) ∨ ∃ w h E, r = (w, h, E, 0) ∧ (boxText w h E).2 = 0 ∧ (boxText w h E).1.toList = a0.toList) := by
  cases b with
  | true => exact ⟨_, Ev.step (f := fun _ => some (0, 0, 0, 6)) (fun k => by rw [impl_ParseBoxes.j0, if_pos rfl]) (Ev.now _), .inl rfl⟩
  | false =>
    have hl := hb rfl
    obtain ⟨E, hE⟩ := runeLoop a0 s (rd L 0) (rd L 1) s.size 0 0 (by omega)
    refine ⟨_, Ev.step (fun k => by rw [impl_ParseBoxes.j0, if_neg (fun e => Bool.noConfusion e), if_pos (by omega), if_pos (by omega)]; rfl) hE, ?_⟩
    unfold implFin
    by_cases h1 : (boxText (rd L 0) (rd L 1) E).2 = 0
    · rw [if_pos h1]
      by_cases h2 : (boxText (rd L 0) (rd L 1) E).1.toList = a0.toList
      · rw [if_pos h2]; exact .inr ⟨_, _, _, rfl, h1, h2⟩
      · rw [if_neg h2]; exact .inl rfl
    · rw [if_neg h1]; exact .inl rfl
theorem cut_len (c : UInt8) (l : List UInt8) : (Lib.cut l [c]).1.length ≤ l.length := by
  by_cases h : c ∈ l
  · obtain ⟨a, b, h1, _, h3⟩ := cut_hit c l h
    rw [h1]; simp only; omega
  · rw [(cut_miss c l h).1]; exact Nat.le_refl _
theorem cut_val (s : ByteArray) (hs : s.size ≤ 1048576) : strings_Cut.f s (⟨#[58]⟩ : ByteArray) = some (bsP (Lib.cut s.data.toList [58]).1, bsP (Lib.cut s.data.toList [58]).2.1, (Lib.cut s.data.toList [58]).2.2) := by
  unfold strings_Cut.f
  rw [if_pos (by omega)]
  rfl
theorem impl_all (s : ByteArray) (hs : s.size ≤ 1048576) : ∃ r, Ev (fun k => impl_ParseBoxes.f k s) r ∧ (r = (0, 0, 0, 6) ∨ ∃ w h E, r = (w, h, E, 0) ∧ (boxText w h E).2 = 0 ∧ (boxText w h E).1.toList = s.toList) := by
  have hz := Lib.size_eq s
  have hcl := cut_len 58 s.data.toList
  have hN := implSides_ev (Lib.cut s.data.toList [58]).1 (by omega)
  have key : ∀ b : Bool, (b = false → (implSides (Lib.cut s.data.toList [58]).1).1.length = 2) → (∀ k, (if (implSides (Lib.cut s.data.toList [58]).1).2 = true then (if ((implSides (Lib.cut s.data.toList [58]).1).1.length : Int) = 2 then (impl_ParseBoxes.j0 k s (bsP (Lib.cut s.data.toList [58]).2.1) (implSides (Lib.cut s.data.toList [58]).1).1 (decide (((bsP (Lib.cut s.data.toList [58]).2.1).size : Int) > 24))) else (impl_ParseBoxes.j0 k s (bsP (Lib.cut s.data.toList [58]).2.1) (implSides (Lib.cut s.data.toList [58]).1).1 true)) else (impl_ParseBoxes.j0 k s (bsP (Lib.cut s.data.toList [58]).2.1) (implSides (Lib.cut s.data.toList [58]).1).1 true)) = impl_ParseBoxes.j0 k s (bsP (Lib.cut s.data.toList [58]).2.1) (implSides (Lib.cut s.data.toList [58]).1).1 b) →
      ∃ r, Ev (fun k => impl_ParseBoxes.f k s) r ∧ (r = (0, 0, 0, 6) ∨ ∃ w h E, r = (w, h, E, 0) ∧ (boxText w h E).2 = 0 ∧ (boxText w h E).1.toList = s.toList) := by
    intro b hb he
    obtain ⟨r, hr, hor⟩ := impl_j0 s (bsP (Lib.cut s.data.toList [58]).2.1) (implSides (Lib.cut s.data.toList [58]).1).1 b hb
    refine ⟨r, ?_, hor⟩
    unfold impl_ParseBoxes.f
    refine Ev.congr (fun k => by rw [cut_val s hs, Option.bind_some]) (Ev.bind hN ?_)
    exact Ev.congr he hr
  by_cases h1 : (implSides (Lib.cut s.data.toList [58]).1).2 = true
  · by_cases h2 : ((implSides (Lib.cut s.data.toList [58]).1).1.length : Int) = 2
    · exact key (decide (((bsP (Lib.cut s.data.toList [58]).2.1).size : Int) > 24)) (fun _ => by omega) (fun k => by rw [if_pos h1, if_pos h2])
    · exact key true (fun e => Bool.noConfusion e) (fun k => by rw [if_pos h1, if_neg h2])
  · exact key true (fun e => Bool.noConfusion e) (fun k => by rw [if_neg h1])
theorem ofNat_ne (n : Nat) (h : n < 10) (c : UInt8) (hc : c.toNat < 48 ∨ 57 < c.toNat) : UInt8.ofNat (48 + n) ≠ c := fun e => by
  have := congrArg UInt8.toNat e
  rw [dig_valG h] at this
  omega
theorem pre_split {w h : Int} (hw : 1 ≤ w ∧ w ≤ 3) (hh : 1 ≤ h ∧ h ≤ 3) (l : List UInt8) (hl : okBits l) : splitU 58 (preU w h ++ l) = [[UInt8.ofNat (48 + w.toNat), 120, UInt8.ofNat (48 + h.toNat)], l] ∧ Lib.cut (preU w h ++ l) [58] = ([UInt8.ofNat (48 + w.toNat), 120, UInt8.ofNat (48 + h.toNat)], l, true) := by
  have n1 := ofNat_ne w.toNat (by omega) 58 (.inr (by decide))
  have n2 := ofNat_ne h.toNat (by omega) 58 (.inr (by decide))
  have hm : (58 : UInt8) ∉ [UInt8.ofNat (48 + w.toNat), 120, UInt8.ofNat (48 + h.toNat)] := by
    simp only [List.mem_cons, List.not_mem_nil, or_false]
    rintro (e | e | e)
    · exact n1 e.symm
    · exact absurd e (by decide)
    · exact n2 e.symm
  have hm2 : (58 : UInt8) ∉ l := fun e => by rcases hl _ e with e | e <;> exact absurd e (by decide)
  have ha := splitU_app 58 l [UInt8.ofNat (48 + w.toNat), 120, UInt8.ofNat (48 + h.toNat)] hm
  rw [splitU_none 58 l hm2] at ha
  exact ha
theorem impl_on (s : ByteArray) (hs : s.size ≤ 1048576) (w h : Int) (l : List UInt8) (ht : isText s.data.toList w h l) : Ev (fun k => impl_ParseBoxes.f k s) (w, h, ((valB l : Nat) : Int), 0) := by
  have hbt := boxText_of ht
  obtain ⟨h1, h2, h3, h4⟩ := ht
  obtain ⟨hw, hh, _⟩ := isB_parts h2
  have h5 := cnt_le hw hh
  have hc := (pre_split hw hh l h1).2
  rw [← h4] at hc
  have hN := implSides_ev [UInt8.ofNat (48 + w.toNat), 120, UInt8.ofNat (48 + h.toNat)] (by simp)
  rw [sides_of (m := w.toNat) (n := h.toNat) (by omega) (by omega), show ((w.toNat : Nat) : Int) = w by omega, show ((h.toNat : Nat) : Int) = h by omega] at hN
  have hf : implFin s w h ((valB l : Nat) : Int) = (w, h, ((valB l : Nat) : Int), 0) := by
    unfold implFin
    rw [hbt]
    rw [if_pos rfl, if_pos (by rw [ByteArray.toList_eq, ByteArray.toList_eq, bs_data])]
  have hloop := asciiLoop s w h l h1 (by omega) l.length 0 (by omega)
  rw [List.take_zero, hf] at hloop
  unfold impl_ParseBoxes.f
  refine Ev.congr (fun k => by rw [cut_val s hs, hc, Option.bind_some]) (Ev.bind hN ?_)
  refine Ev.congr (f := fun k => impl_ParseBoxes.j0 k s (bsP l) [w, h] (decide (((bsP l).size : Int) > 24))) (fun k => (if_pos rfl).trans (if_pos rfl)) (Ev.step (fun k => ?_) hloop)
  rw [impl_ParseBoxes.j0, if_neg (by rw [bsP_size]; simp; omega), if_pos (by simp), if_pos (by simp)]
  rfl
-- the reference
def specFin (w h : Int) (l : List UInt8) : Int × Int × Int × Bool := if (l.all (fun b => b == 48 || b == 49) && (isB w h ((valB l : Nat) : Int) && decide (((l.length : Nat) : Int) = cntB w h))) = true then (w, h, ((valB l : Nat) : Int), true) else (0, 0, 0, false)
theorem spec_end (w h : Int) (l : List UInt8) (hl : okBits l) : Ev (fun (_ : Nat) => (spec_l03Is.f w h ((valB l : Nat) : Int)).bind fun t130 => (if t130 = true then ((spec_l03Count.f w h ((valB l : Nat) : Int)).bind fun t132 => (if (((bsP l).size : Nat) : Int) = t132 then (some (w, h, ((valB l : Nat) : Int), true)) else (some (0, 0, 0, false)))) else (some (0, 0, 0, false)))) (specFin w h l) := by
  have ha : l.all (fun b => b == 48 || b == 49) = true := List.all_eq_true.2 (fun b hb => by rcases hl b hb with e | e <;> subst e <;> decide)
  unfold specFin
  rw [ha, Bool.true_and]
  cases hB : isB w h ((valB l : Nat) : Int) with
  | false => exact Ev.congr (f := fun _ => some _) (fun k => by rw [l03Is_eq, hB]; rfl) (Ev.now _)
  | true =>
    obtain ⟨hw, hh, _⟩ := isB_parts hB
    obtain ⟨c, hc, h2, h3, _⟩ := count_eq (e := ((valB l : Nat) : Int)) hw hh
    have h4 := cnt_le hw hh
    have h5 : ((c : Nat) : Int) = cntB w h := by unfold cntB at h4 ⊢; omega
    refine Ev.congr (f := fun _ => if (((bsP l).size : Nat) : Int) = ((c : Nat) : Int) then some (w, h, ((valB l : Nat) : Int), true) else some (0, 0, 0, false)) (fun k => by rw [l03Is_eq, hB, Option.bind_some, if_pos rfl, h3, Option.bind_some]) ?_
    rw [bsP_size, h5, Bool.true_and]
    by_cases he : ((l.length : Nat) : Int) = cntB w h
    · exact Ev.congr (f := fun _ => some _) (fun k => by rw [if_pos he, decide_eq_true he, if_pos rfl]) (Ev.now _)
    · exact Ev.congr (f := fun _ => some _) (fun k => by rw [if_neg he, decide_eq_false he, if_neg (fun e => Bool.noConfusion e)]) (Ev.now _)
theorem specLoop (x4 : List ByteArray) (hx : x4.length = 2) (w h : Int) (l : List UInt8) (hr : rdOf ByteArray.empty x4 1 = bsP l) (h24 : l.length ≤ 24) : ∀ (d i : Nat), i + d = l.length → (∀ b ∈ l.take i, b = 48 ∨ b = 49) →
    Ev (fun k => spec_l03Read.l0 k x4 (i : Int) w h ((valB (l.take i) : Nat) : Int)) (specFin w h l)
  | 0, i, hd, hok => by
    rw [List.take_of_length_le (by omega)] at hok ⊢
    refine Ev.step (fun k => ?_) (spec_end w h l hok)
    rw [spec_l03Read.l0, if_pos (by omega), hr, if_neg (by rw [bsP_size]; omega)]
  | d + 1, i, hd, hok => by
    have hi30 : i < 30 := by omega
    have hil : i ≤ l.length := by omega
    have hnext : i + 1 + d = l.length := by omega
    have c0 : (1 : Int) < (x4.length : Int) := by rw [hx]; decide
    have c1 : (i : Int) < (((bsP l).size : Nat) : Int) := by rw [bsP_size]; omega
    have c2 : (0 : Int) ≤ (i : Int) := Int.natCast_nonneg i
    obtain ⟨b, t, hb⟩ : ∃ b t, l.drop i = b :: t := ⟨_, _, List.drop_eq_getElem_cons (by omega)⟩
    have hb2 : (bsP l).data.toList.drop i = b :: t := by rw [bsP_data]; exact hb
    obtain ⟨h1, h2, h3⟩ := bt_list (bsP l) i b t hb2
    have hg : l[i]? = some b := by
      have := congrArg List.head? hb
      rw [List.head?_drop] at this
      exact this
    have ht : l.take (i + 1) = l.take i ++ [b] := by rw [List.take_add_one, hg]; rfl
    have hlt := valB_lt (l.take i)
    rw [List.length_take, Nat.min_eq_left hil] at hlt
    have hu : IntKind.u64.wrap (i : Int) = (i : Int) := by simp only [IntKind.wrap, IntKind.bits, IntKind.signed]; simp; omega
    have hw1 : wrap64 ((i : Int) + 1) = ((i + 1 : Nat) : Int) := by rw [wrapS (by omega) (by omega)]; rfl
    by_cases e0 : b = 48
    · have ih := specLoop x4 hx w h l hr h24 d (i + 1) hnext (fun y hy => by
        rw [ht] at hy
        rcases List.mem_append.1 hy with q | q
        · exact hok y q
        · exact .inl ((List.mem_singleton.1 q).trans e0))
      rw [ht, valB_snoc, List.length_take, Nat.min_eq_left hil, if_neg (by rw [e0]; decide)] at ih
      have ho := or_bit (valB (l.take i)) 0 i hlt (Nat.zero_le _) hi30
      have hb0 : ((b.toNat : Int) - 48) % 256 = ((0 : Nat) : Int) := by rw [e0]; decide
      have hbb : (b.toNat : Int) = 48 := by rw [e0]; decide
      refine Ev.step (fun k => ?_) ih
      rw [spec_l03Read.l0, if_pos c0, hr, if_pos c1, if_pos c2, h1, if_pos hbb, hu, if_pos c2, hw1, hb0, ho]
    · by_cases e1 : b = 49
      · have ih := specLoop x4 hx w h l hr h24 d (i + 1) hnext (fun y hy => by
          rw [ht] at hy
          rcases List.mem_append.1 hy with q | q
          · exact hok y q
          · exact .inr ((List.mem_singleton.1 q).trans e1))
        rw [ht, valB_snoc, List.length_take, Nat.min_eq_left hil, if_pos e1] at ih
        have ho := or_bit (valB (l.take i)) 1 i hlt (Nat.le_refl _) hi30
        have hb0 : ((b.toNat : Int) - 48) % 256 = ((1 : Nat) : Int) := by rw [e1]; decide
        have hbb : (b.toNat : Int) = 49 := by rw [e1]; decide
        refine Ev.step (fun k => ?_) ih
        rw [spec_l03Read.l0, if_pos c0, hr, if_pos c1, if_pos c2, h1, if_neg (show ¬ (b.toNat : Int) = 48 by omega), if_pos hbb, hu, if_pos c2, hw1, hb0, ho]
      · have n0 : ¬ (b.toNat : Int) = 48 := fun e => e0 (UInt8.toNat_inj.1 (show b.toNat = 48 by omega))
        have n1 : ¬ (b.toNat : Int) = 49 := fun e => e1 (UInt8.toNat_inj.1 (show b.toNat = 49 by omega))
        have hf : specFin w h l = (0, 0, 0, false) := by
          unfold specFin
          rw [if_neg]
          intro e
          have := (Bool.and_eq_true_iff.1 e).1
          have := List.all_eq_true.1 this b (List.mem_of_getElem? hg)
          simp only [Bool.or_eq_true, beq_iff_eq] at this
          exact this.elim e0 e1
        rw [hf]
        refine Ev.step (f := fun _ => some (0, 0, 0, false)) (fun k => ?_) (Ev.now _)
        rw [spec_l03Read.l0, if_pos c0, hr, if_pos c1, if_pos c2, h1, if_neg n0, if_neg n1]
def specR (r : Int × Int × Int × Bool) : Int × Int × Int × Int := if r.2.2.2 = true then (r.1, r.2.1, r.2.2.1, 0) else (0, 0, 0, 6)
theorem spec_fin (s : ByteArray) (r : Int × Int × Int × Bool) (h : Ev (fun k => spec_l03Read.f k s) r) : Ev (fun k => spec_ParseBoxes.f k s) (specR r) := by
  unfold spec_ParseBoxes.f
  refine Ev.bind h ?_
  unfold specR
  by_cases e : r.2.2.2 = true
  · exact Ev.congr (f := fun _ => some _) (fun k => by rw [if_pos e, if_pos e]) (Ev.now _)
  · exact Ev.congr (f := fun _ => some _) (fun k => by rw [if_neg e, if_neg e]) (Ev.now _)
theorem spec_bad_j0 (L : List ByteArray) : Ev (fun k => spec_l03Read.j0 k L true) (0, 0, 0, false) :=
  Ev.step (f := fun _ => some (0, 0, 0, false)) (fun k => by rw [spec_l03Read.j0, if_pos rfl]) (Ev.now _)
theorem spec_read (s : ByteArray) (hs : s.size ≤ 1048576) (a : List UInt8) (l : List UInt8) (x y : UInt8) (ha : a = [x, 120, y]) (hp : splitU 58 s.data.toList = [a, l]) (h24 : l.length ≤ 24) :
    Ev (fun k => spec_l03Read.f k s) (specFin ((x.toNat : Int) - 48) ((y.toNat : Int) - 48) l) := by
  have hv := splitS_ev s 58 hs
  rw [hp] at hv
  subst ha
  have r0 : rdOf ByteArray.empty (List.map bsP [[x, 120, y], l]) 0 = bsP [x, 120, y] := rfl
  have r1 : rdOf ByteArray.empty (List.map bsP [[x, 120, y], l]) 1 = bsP l := rfl
  have b0 : bt (bsP [x, 120, y]) 0 = (x.toNat : Int) := (bt_list (bsP [x, 120, y]) 0 x [120, y] rfl).1
  have b1 : bt (bsP [x, 120, y]) 1 = 120 := (bt_list (bsP [x, 120, y]) 1 120 [y] rfl).1
  have b2 : bt (bsP [x, 120, y]) 2 = (y.toNat : Int) := (bt_list (bsP [x, 120, y]) 2 y [] rfl).1
  have hsz : (((bsP [x, 120, y]).size : Nat) : Int) = 3 := rfl
  have hl : ((List.map bsP [[x, 120, y], l]).length : Int) = 2 := rfl
  have hx := x.toNat_lt
  have hy := y.toNat_lt
  have w1 : wrap64 ((wrap64 (x.toNat : Int)) - 48) = (x.toNat : Int) - 48 := by rw [wrapS (i := (x.toNat : Int)) (by omega) (by omega), wrapS (by omega) (by omega)]
  have w2 : wrap64 ((wrap64 (y.toNat : Int)) - 48) = (y.toNat : Int) - 48 := by rw [wrapS (i := (y.toNat : Int)) (by omega) (by omega), wrapS (by omega) (by omega)]
  have hloop := specLoop (List.map bsP [[x, 120, y], l]) rfl ((x.toNat : Int) - 48) ((y.toNat : Int) - 48) l r1 h24 l.length 0 (by omega) (fun b hb => by rw [List.take_zero] at hb; cases hb)
  rw [List.take_zero] at hloop
  unfold spec_l03Read.f
  refine Ev.bind hv ?_
  refine Ev.congr (fun k => by rw [hl, if_pos rfl, if_pos (by decide), r0, hsz, if_pos rfl, if_pos (by decide), b1, if_pos rfl, if_pos (by decide), r1, decide_eq_false (show ¬ (((bsP l).size : Nat) : Int) > 24 by rw [bsP_size]; omega)]) (Ev.step (fun k => ?_) hloop)
  rw [spec_l03Read.j0, if_neg (fun e => Bool.noConfusion e), hl, if_pos (by decide), r0, hsz, if_pos (by decide), if_pos (by decide), b0, b2, w1, w2]
  rfl
theorem spec_on (s : ByteArray) (hs : s.size ≤ 1048576) (w h : Int) (l : List UInt8) (ht : isText s.data.toList w h l) : Ev (fun k => spec_ParseBoxes.f k s) (w, h, ((valB l : Nat) : Int), 0) := by
  obtain ⟨h1, h2, h3, h4⟩ := ht
  obtain ⟨hw, hh, _⟩ := isB_parts h2
  have h5 := cnt_le hw hh
  have hp := (pre_split hw hh l h1).1
  rw [← h4] at hp
  have hr := spec_fin s _ (spec_read s hs _ l _ _ rfl hp (by omega))
  rw [dig_valG (d := w.toNat) (by omega), dig_valG (d := h.toNat) (by omega), show ((48 + w.toNat : Nat) : Int) - 48 = w by omega, show ((48 + h.toNat : Nat) : Int) - 48 = h by omega] at hr
  have ha : l.all (fun b => b == 48 || b == 49) = true := List.all_eq_true.2 (fun b hb => by rcases h1 b hb with e | e <;> subst e <;> decide)
  have hf : specFin w h l = (w, h, ((valB l : Nat) : Int), true) := by
    unfold specFin
    rw [if_pos]
    rw [ha, h2, decide_eq_true h3]
    rfl
  rw [hf] at hr
  exact hr
theorem spec_bad (s : ByteArray) (hs : s.size ≤ 1048576) (hno : ∀ w h l, ¬ isText s.data.toList w h l) : Ev (fun k => spec_ParseBoxes.f k s) (0, 0, 0, 6) := by
  have hv := splitS_ev s 58 hs
  have bad : Ev (fun k => spec_l03Read.f k s) (0, 0, 0, false) → Ev (fun k => spec_ParseBoxes.f k s) (0, 0, 0, 6) := fun h => spec_fin s _ h
  by_cases h2 : (splitU 58 s.data.toList).length = 2
  · obtain ⟨a, l, hp⟩ : ∃ a l, splitU 58 s.data.toList = [a, l] := by
      cases h : splitU 58 s.data.toList with
      | nil => rw [h] at h2; cases h2
      | cons a t =>
        cases t with
        | nil => rw [h] at h2; cases h2
        | cons b t2 =>
          cases t2 with
          | nil => exact ⟨a, b, rfl⟩
          | cons c t3 => rw [h] at h2; simp at h2
    have hl : ((List.map bsP [a, l]).length : Int) = 2 := rfl
    have r0 : rdOf ByteArray.empty (List.map bsP [a, l]) 0 = bsP a := rfl
    have r1 : rdOf ByteArray.empty (List.map bsP [a, l]) 1 = bsP l := rfl
    rw [hp] at hv
    by_cases h3 : a.length = 3
    · obtain ⟨x, z, y, rfl⟩ : ∃ x z y, a = [x, z, y] := by
        match a, h3 with
        | [x, z, y], _ => exact ⟨x, z, y, rfl⟩
      have hsz : (((bsP [x, z, y]).size : Nat) : Int) = 3 := rfl
      have b1 : bt (bsP [x, z, y]) 1 = (z.toNat : Int) := (bt_list (bsP [x, z, y]) 1 z [y] rfl).1
      by_cases h4 : z = 120
      · subst h4
        by_cases h5 : l.length ≤ 24
        · have hr := spec_fin s _ (spec_read s hs _ l x y rfl hp h5)
          have hf : specFin ((x.toNat : Int) - 48) ((y.toNat : Int) - 48) l = (0, 0, 0, false) := by
            unfold specFin
            rw [if_neg]
            intro e
            obtain ⟨e1, e2⟩ := Bool.and_eq_true_iff.1 e
            obtain ⟨e2, e3⟩ := Bool.and_eq_true_iff.1 e2
            obtain ⟨hw, hh, _⟩ := isB_parts e2
            refine hno _ _ l ⟨fun b hb => ?_, e2, of_decide_eq_true e3, ?_⟩
            · have := List.all_eq_true.1 e1 b hb
              simp only [Bool.or_eq_true, beq_iff_eq] at this
              exact this
            · rw [(splitU_two 58 _ _ _ hp).1]
              have u1 : UInt8.ofNat (48 + ((x.toNat : Int) - 48).toNat) = x := UInt8.toNat_inj.1 (by rw [dig_valG (by omega)]; omega)
              have u2 : UInt8.ofNat (48 + ((y.toNat : Int) - 48).toNat) = y := UInt8.toNat_inj.1 (by rw [dig_valG (by omega)]; omega)
              unfold preU
              rw [u1, u2]
              rfl
          rw [hf] at hr
          exact hr
        · refine bad ?_
          unfold spec_l03Read.f
          refine Ev.bind hv ?_
          refine Ev.congr (fun k => ?_) (spec_bad_j0 (List.map bsP [[x, 120, y], l]))
          rw [hl, if_pos rfl, if_pos (by decide), r0, hsz, if_pos rfl, if_pos (by decide), b1, if_pos (by decide), if_pos (by decide), r1, decide_eq_true (show (((bsP l).size : Nat) : Int) > 24 by rw [bsP_size]; omega)]
      · have n4 : ¬ (z.toNat : Int) = 120 := fun e => h4 (UInt8.toNat_inj.1 (show z.toNat = 120 by omega))
        refine bad ?_
        unfold spec_l03Read.f
        refine Ev.bind hv ?_
        refine Ev.congr (fun k => ?_) (spec_bad_j0 (List.map bsP [[x, z, y], l]))
        rw [hl, if_pos rfl, if_pos (by decide), r0, hsz, if_pos rfl, if_pos (by decide), b1, if_neg n4]
    · refine bad ?_
      unfold spec_l03Read.f
      refine Ev.bind hv ?_
      refine Ev.congr (fun k => ?_) (spec_bad_j0 (List.map bsP [a, l]))
      rw [hl, if_pos rfl, if_pos (by decide), r0, if_neg (by rw [bsP_size]; omega)]
  · refine bad ?_
    unfold spec_l03Read.f
    refine Ev.bind hv ?_
    refine Ev.congr (fun k => ?_) (spec_bad_j0 ((splitU 58 s.data.toList).map bsP))
    rw [if_neg (by rw [List.length_map]; omega)]
theorem alike (s : ByteArray) (hs : s.size ≤ 1048576) : ∃ r : Int × Int × Int × Int, Ev (fun k => spec_ParseBoxes.f k s) r ∧ Ev (fun k => impl_ParseBoxes.f k s) r := by
  by_cases hD : ∃ w h l, isText s.data.toList w h l
  · obtain ⟨w, h, l, ht⟩ := hD
    exact ⟨_, spec_on s hs w h l ht, impl_on s hs w h l ht⟩
  · refine ⟨_, spec_bad s hs (fun w h l ht => hD ⟨w, h, l, ht⟩), ?_⟩
    obtain ⟨r, hr, hor⟩ := impl_all s hs
    rcases hor with e | ⟨w, h, E, rfl, h1, h2⟩
    · rw [← e]; exact hr
    · obtain ⟨l, hl, _⟩ := text_from h1 h2
      exact absurd ⟨w, h, l, hl⟩ hD

end Go.Proofs.YtfcafnnpejngiaaDoor.PX

/- The program's ParseBoxes and the reference's answer alike (condition: none). -/
namespace Go.Proofs.YtfcafnnpejngiaaDoor.Pure
open Go.RowKit Go.Proofs.YtfcafnnpejngiaaDoor.PX Go.Proofs.YtfcafnnpejngiaaDoorW.PrintWords Go.Proofs.YtfcafnnpejngiaaDoorW.PrintLast Go.Proofs.YtfcafnnpejngiaaDoorW.PrintMore
set_option linter.unusedSimpArgs false
set_option linter.unusedVariables false

theorem FnExactParseBoxes : ∀ (a0 : ByteArray), a0.size ≤ 140737488351232 → ∃ k, laws_FnExactParseBoxes.f k a0 = some true := by
  intro a0 _
  refine Ev.rounds ?_
  by_cases hs : a0.size ≤ 1048576
  rotate_left
  · refine Ev.congr (f := fun _ => some true) (fun k => ?_) (Ev.now _)
    rw [laws_FnExactParseBoxes.f, if_pos (by omega)]
  obtain ⟨⟨a, b, c, e⟩, h1, h2⟩ := alike a0 hs
  refine Ev.congr (fun k => by rw [laws_FnExactParseBoxes.f, if_neg (by omega)]) (Ev.bind h1 (Ev.bind h2 ?_))
  refine Ev.congr (f := fun _ => some true) (fun k => ?_) (Ev.now _)
  unfold laws_eqBoxes.f
  simp only [if_true, Option.bind_some]

end Go.Proofs.YtfcafnnpejngiaaDoor.Pure

/- What a row's list of variables and the world's shape give: the facts that the reading functions ask (no condition beside the list). -/
namespace Go.Proofs.YtfcafnnpejngiaaDoor.PX
open Go.RowKit Go.Shelf
theorem gPow : Tryd.prog.globalNamed "internal/strconv.uint64pow10" = some 5 := by kernel_rfl
theorem gPowType : (Tryd.prog.globals[5]?).map (·.type) = some 109 := by kernel_rfl
theorem cellsPow : Tryd.prog.cellsOf 109 = 20 := by kernel_rfl
theorem cellsU64 : Tryd.prog.cellsOf 57 = 1 := by kernel_rfl
theorem gSyn : Tryd.prog.globalNamed "strconv.ErrSyntax" = some 3 := by kernel_rfl
theorem gSynType : (Tryd.prog.globals[3]?).map (·.type) = some 71 := by kernel_rfl
theorem gRng : Tryd.prog.globalNamed "strconv.ErrRange" = some 4 := by kernel_rfl
theorem gRngType : (Tryd.prog.globals[4]?).map (·.type) = some 71 := by kernel_rfl
theorem cellsES : Tryd.prog.cellsOf 116 = 1 := by kernel_rfl
theorem cellsSt : Tryd.prog.cellsOf 9 = 1 := by kernel_rfl
theorem starES : "*" ++ "errors.errorString" = "*errors.errorString" := by decide
theorem rowPES (u : TypeId) (h : Tryd.prog.typeName? 3 u = some "*errors.errorString") : u = 114 :=
  typeName_ptr_named (nm := "errors.errorString") (by rw [starES]; kernel_rfl) (by kernel_rfl) (by decide) u (by rw [starES]; exact h)
theorem good_fnExactParseBoxes {W : World} (hL : laidMetH Tryd.prog Rows.fnExactParseBoxesRow.laid W) (hsh : W.ShapedOpen Tryd.prog) : Good W := by
  rw [Go.MakeChecks.laidMetH_plain _ _ _ (by kernel_rfl)] at hL
  have h3 : laidMet Tryd.prog (("internal/strconv.uint64pow10", Lib.tabData .u64 Lib.pow10Tab) :: _) W := hL.tail.tail
  obtain ⟨a_Rng, s_Rng, hv_Rng, -, -, -⟩ := laid_sentinel hL.tail.tail.tail.tail gRng gRngType Tryd.underlying71 rowPES Tryd.underlying114 Tryd.underlying116 rfl rfl Tryd.underlying9 cellsES cellsSt
  obtain ⟨a_Syn, s_Syn, hv_Syn, -, -, -⟩ := laid_sentinel hL.tail.tail.tail.tail.tail gSyn gSynType Tryd.underlying71 rowPES Tryd.underlying114 Tryd.underlying116 rfl rfl Tryd.underlying9 cellsES cellsSt
  exact ⟨Tryd.laysM146.s1_3 W hsh, Lib.tabIs_of_head gPow gPowType Tryd.underlying109 Tryd.underlying57 cellsU64 cellsPow h3, ⟨_, _, hv_Syn⟩, ⟨_, _, hv_Rng⟩⟩
end Go.Proofs.YtfcafnnpejngiaaDoor.PX

/- The row of FnExactParseBoxes, out of its plain law (no condition). -/
namespace Go.Proofs.YtfcafnnpejngiaaDoor.fnExactParseBoxes
open Go.ChangeShapes Go.WideShapes Go.ChangeAt Go.RowKit
open Go.ChangeMaps (open_string shut_string)
set_option linter.unusedVariables false
theorem own : ownKnob Tryd.prog.godebug = none := by kernel_rfl
theorem laid : laidOutB Tryd.prog = true := by kernel_rfl
theorem laid_met (os : Os) : laidMet Tryd.prog Rows.fnExactParseBoxesRow.laid ((World.laidAll Tryd.prog os Rows.fnExactParseBoxesRow.laid).forCall (fun _ _ => 0) ⟨#[], #[.string ⟨#[]⟩], []⟩).memory :=
  laidMet_laidAll #[.string ⟨#[]⟩] (by kernel_rfl) (by kernel_rfl)
theorem reads (os : Os) {H : Type} (enc : TypeId × Value → H) : ∃ places, DataW.whole enc Tryd.prog ((World.laidAll Tryd.prog os Rows.fnExactParseBoxesRow.laid).forCall (fun _ _ => 0) ⟨#[], #[.string ⟨#[]⟩], []⟩).memory Tryd.f4.params.toList Rows.fnExactParseBoxesSpec.vars false #[.string ⟨#[]⟩].toList 8 = some ([.lit (.string [])], [], places) :=
  ⟨[], by kernel_rfl⟩
set_option maxRecDepth 100000 in
theorem lifted (os : Os) (started : os.Started) (H : Type) (enc : TypeId × Value → H) (F : Stop.Interp) :
    ReturnsInHanded {} Tryd.checked os 4 .any ((OpenSpec.ofChange Rows.fnExactParseBoxesSpec).preRow enc Tryd.prog Tryd.f4 Rows.fnExactParseBoxesRow.domain false Rows.fnExactParseBoxesRow.laid) (((OpenSpec.ofChange Rows.fnExactParseBoxesSpec).at F).post enc Tryd.prog Tryd.f4 false true false false) := by
  obtain ⟨places, hx⟩ := reads os enc
  refine returnsInHanded_of_row (C := Tryd.checked) (s := OpenSpec.ofChange Rows.fnExactParseBoxesSpec) own started (by kernel_rfl) Tryd.func4
    (witness_row_at (enc := enc) (C := Tryd.checked) false (World.laidAll Tryd.prog os Rows.fnExactParseBoxesRow.laid) #[.string ⟨#[]⟩] (World.laidAll_os _ _ _) (by kernel_rfl) (by kernel_rfl) (by kernel_rfl)
      (OpenSpec.preRow_of_cond 8 hx (by kernel_rfl) (fun k hk => by cases hk) (by kernel_rfl) (laid_met os))) ?_
  intro W base args ds gs before hval0 hW hcnd hcond hsz0 hL hsh _
  have hsz : (DataW.weightsEach Tryd.prog (Tryd.f4.params.toList ++ Rows.fnExactParseBoxesSpec.plain.varTypes Tryd.prog) (ds ++ gs)).all (· ≤ reachBytes) = true := hsz0
  have hval : ∀ (j : Nat) t v, Tryd.f4.params[j]? = some t → args[j]? = some v → Value.okWide Tryd.prog W .any base t v := hval0
  have hW' := hW
  obtain ⟨p, q, hA0, hV, rfl, hfz, hnd⟩ := hW
  have hA : DataW.TrodAll enc Tryd.prog W 0 (fun _ => true) true Tryd.f4.params.toList args.toList ds p := hA0
  rw [Tryd.params4] at hA hval hsz
  obtain ⟨v0, vs0, d0, ds0, p0, q0, hargs, rfl, rfl, h0, r0⟩ := trodAll_cons hA
  obtain ⟨rfl, rfl, rfl⟩ := trodAll_nil r0
  obtain rfl : args = #[v0] := by cases args; simp_all
  obtain ⟨rfl, rfl⟩ := trodVars_none hV
  have hk0 := h0
  have hlt0 : ∀ x ∈ p0, x.block < W.heap.size := fun x hx => hW'.lt x (by simp [hx])
  obtain ⟨a0, rfl, rfl, rfl, w0⟩ := open_string Tryd.underlying9 (hval 0 9 v0 rfl rfl) h0
  have u0 : a0.size ≤ 140737488351232 := by have z := sized_string hsz (j := 0) (t := 9) rfl rfl; rw [Array.length_toList] at z; exact z
  clear hA0 hval0 hsz0 hsz
  obtain ⟨k, hk⟩ := Pure.FnExactParseBoxes a0 u0
  refine (PX.laws_FnExactParseBoxes.calls k a0 true W hk (PX.good_fnExactParseBoxes hL hsh)).mono fun e W' ⟨he, bel0⟩ => ?_
  have bel : Below W.heap.size W W' := bel0
  subst he
  exact ⟨_, rfl, _, _, _, [], _, [], hW', trodAll_mk1 (shut_bool Tryd.underlying4 _), (trodAll_cons_mk (Below.trod laid (by kernel_rfl) (of_decide_eq_true (by kernel_rfl)) hk0 bel hlt0) trodAll_mk0), rfl, bel.frame _, fun h => by cases h⟩
theorem said : Rows.FnExactParseBoxesSaid :=
  OpenClaim.holds_of_cond 4 Tryd.f4 rfl rfl rfl rfl rfl rfl rfl ⟨rfl, rfl, rfl, rfl, rfl⟩ rfl rfl rfl rfl rfl (by kernel_rfl) Tryd.func4 (by kernel_rfl)
    (of_decide_eq_true (by kernel_rfl)) (by unfold Func.isWrapper; first | (rw [if_pos (by decide +kernel)]; kernel_rfl) | (rw [if_neg (by decide +kernel)]; exact ⟨rfl, rfl⟩))
    (fun os started H enc _ F => by rw [OpenClaim.pre_eq_preRow]; exact lifted os started H enc F)
theorem plain (f : FuncId) (fn : Func) (hf : Tryd.pinned.checked.prog.funcNamed "loop.example/g01388/laws.FnExactParseBoxes" = some f) (hfn : Tryd.pinned.checked.prog.funcs[f]? = some fn) :
    true = Tryd.pinned.checked.prog.looks [] ∧ ∀ (j : Nat) t, fn.params[j]? = some t → Tryd.pinned.checked.prog.wantsStandIn t = false := by
  obtain rfl : f = 4 := Option.some.inj ((show Tryd.prog.funcNamed "loop.example/g01388/laws.FnExactParseBoxes" = some 4 by kernel_rfl).symm.trans hf) |>.symm
  obtain rfl : fn = Tryd.f4 := (Option.some.inj (Tryd.func4.symm.trans hfn)).symm
  refine ⟨by kernel_rfl, fun j t ht => ?_⟩
  rw [Tryd.params4] at ht
  have hm : t ∈ [9] := by simpa using Array.mem_of_getElem? ht
  have hall : ([9].all fun u => !Tryd.prog.wantsStandIn u) = true := by kernel_rfl
  exact (show Tryd.prog.wantsStandIn t = false by simpa using List.all_eq_true.1 hall t hm)
theorem proved : Rows.FnExactParseBoxesCardSaid :=
  Claim7.holds_tied_plain_at .later [] _ _ _ _ said (fun _ h => by cases h) (by kernel_rfl) (fun _ h => by cases h) fnExactParseBoxes_row_tie rfl ⟨rfl, rfl⟩ (by kernel_rfl) rfl plain (by kernel_rfl)
#print axioms proved
end Go.Proofs.YtfcafnnpejngiaaDoor.fnExactParseBoxes
namespace Go.Proofs.YtfcafnnpejngiaaDoor
/-- The card, under a short name, for the claim. -/
theorem fnExactParseBoxes_holds : Rows.FnExactParseBoxesCardSaid := fnExactParseBoxes.proved
end Go.Proofs.YtfcafnnpejngiaaDoor
