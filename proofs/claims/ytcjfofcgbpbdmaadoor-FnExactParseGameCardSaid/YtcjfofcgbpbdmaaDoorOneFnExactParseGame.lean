/- The row of FnExactParseGame, out of its plain law (no condition). -/
import Derived.Lib.SplitLaws
import Derived.Laws.Strings
import Derived.Test.YtcjfofcgbpbdmaaDoorRows
import Derived.Stop.LaidErr
import Derived.Lib.LaidTab
import Derived.MakeChecks
import Derived.WalkKit
import Derived.ProofKit
import Derived.OpenShut
import Derived.ShutString
import Derived.ChangeOld
import Derived.Below
import Derived.Carry
import Derived.SizedLaws
import Derived.Lib.SmallJoins
import Derived.Test.YtcjfofcgbpbdmaaDoorCards
import Derived.Test.YtcjfofcgbpbdmaaDoorTie
import Derived.Deep.DeepHandedRow
import Derived.SevenTiedAt
import Derived.Lay
import Derived.Test.YtcjfofcgbpbdmaaDoorPk4FnExactParseGame
/- Splitting at one byte: the library's split, its cut, and the reference's loop answer alike (condition: a text of at most 2 to the 20th bytes). -/
namespace Go.Proofs.YtcjfofcgbpbdmaaDoor.PX
open Go.RowKit Go.Proofs.YtcjfofcgbpbdmaaDoorW.PrintWords Go.Proofs.YtcjfofcgbpbdmaaDoorW.PrintLast Go.Proofs.YtcjfofcgbpbdmaaDoorW.PrintMore
attribute [local go_sem] max2_int min2_int max_two min_two max_three min_three max_four min_four
set_option linter.unusedVariables false
set_option linter.unusedSimpArgs false
def bsP (l : List UInt8) : ByteArray := ⟨l.toArray⟩
theorem bsP_data (l : List UInt8) : (bsP l).data.toList = l := by simp [bsP]
theorem bsP_of (s : ByteArray) : bsP s.data.toList = s := by obtain ⟨⟨l⟩⟩ := s; rfl
theorem bsP_ext {a b : ByteArray} (h : a.data.toList = b.data.toList) : a = b := by rw [← bsP_of a, ← bsP_of b, h]
theorem bsP_size (l : List UInt8) : (bsP l).size = l.length := by simp [bsP, ByteArray.size]
def consHead (p : List UInt8) : List (List UInt8) → List (List UInt8)
  | [] => [p]
  | h :: t => (p ++ h) :: t
def splitU (c : UInt8) : List UInt8 → List (List UInt8)
  | [] => [[]]
  | b :: l => if b = c then [] :: splitU c l else consHead [b] (splitU c l)
theorem consHead_two (p q : List UInt8) (l : List (List UInt8)) : consHead p (consHead q l) = consHead (p ++ q) l := by
  cases l <;> simp [consHead]
theorem splitU_ne (c : UInt8) : ∀ l, splitU c l ≠ []
  | [] => by simp [splitU]
  | b :: l => by
    unfold splitU
    split
    · simp
    · cases splitU c l <;> simp [consHead]
theorem consHead_nil (c : UInt8) (l : List UInt8) : consHead [] (splitU c l) = splitU c l := by
  cases h : splitU c l with
  | nil => exact absurd h (splitU_ne c l)
  | cons a t => rfl
theorem splitK_ne (b c : UInt8) (l : List UInt8) (h : b ≠ c) (k : Nat) : Lib.splitK [c] 0 k (b :: l) = consHead [b] (Lib.splitK [c] 0 k l) := by
  have hp : ([c] : List UInt8).isPrefixOf (b :: l) = false := by simp [List.isPrefixOf, Ne.symm h]
  have hix : Lib.index (b :: l) [c] = if Lib.index l [c] == -1 then -1 else Lib.index l [c] + 1 := by rw [Lib.index, hp]; simp
  cases k with
  | zero => rfl
  | succ k =>
    unfold Lib.splitK
    by_cases hm : Lib.index l [c] = -1
    · rw [hix, if_pos (beq_iff_eq.2 hm), if_pos (beq_iff_eq.2 rfl), if_pos (beq_iff_eq.2 hm)]
      rfl
    · have hge := Lib.index_ge l [c]
      obtain ⟨j, hj⟩ : ∃ j : Nat, Lib.index l [c] = j := ⟨(Lib.index l [c]).toNat, by omega⟩
      have hix' : Lib.index (b :: l) [c] = ((j + 1 : Nat) : Int) := by rw [hix, if_neg (fun e => hm (beq_iff_eq.1 e)), hj]; omega
      rw [hix', hj, if_neg (fun e => by have := beq_iff_eq.1 e; omega), if_neg (fun e => by have := beq_iff_eq.1 e; omega)]
      simp [consHead]
theorem splitK_all (c : UInt8) : ∀ l, Lib.splitK [c] 0 (Lib.count l [c]) l = splitU c l
  | [] => by
    have : Lib.count [] [c] = 0 := by rw [Lib.count_one]; rfl
    rw [this]
    rfl
  | b :: l => by
    by_cases h : b = c
    · subst h
      have hix : Lib.index (b :: l) [b] = ((0 : Nat) : Int) := by rw [Lib.index]; simp [List.isPrefixOf]
      rw [Lib.count_cons_eq, Nat.add_comm, Lib.splitK, hix, if_neg (by decide), splitU, if_pos rfl, ← splitK_all b l]
      rfl
    · rw [Lib.count_cons_ne b c l h, splitK_ne b c l h, splitK_all c l, splitU, if_neg h]
theorem cut_cons_ne (b c : UInt8) (l : List UInt8) (h : b ≠ c) : Lib.cut (b :: l) [c] = (b :: (Lib.cut l [c]).1, (Lib.cut l [c]).2.1, (Lib.cut l [c]).2.2) := by
  have hp : ([c] : List UInt8).isPrefixOf (b :: l) = false := by simp [List.isPrefixOf, Ne.symm h]
  have hix : Lib.index (b :: l) [c] = if Lib.index l [c] == -1 then -1 else Lib.index l [c] + 1 := by rw [Lib.index, hp]; simp
  unfold Lib.cut
  by_cases hm : Lib.index l [c] = -1
  · rw [hix, if_pos (beq_iff_eq.2 hm), hm]
    rfl
  · have hge := Lib.index_ge l [c]
    obtain ⟨j, hj⟩ : ∃ j : Nat, Lib.index l [c] = j := ⟨(Lib.index l [c]).toNat, by omega⟩
    have hix' : Lib.index (b :: l) [c] = ((j + 1 : Nat) : Int) := by rw [hix, if_neg (fun e => hm (beq_iff_eq.1 e)), hj]; omega
    rw [hix', hj, if_pos (by omega), if_pos (by omega)]
    simp
theorem cut_miss (c : UInt8) : ∀ l, c ∉ l → Lib.cut l [c] = (l, [], false) ∧ splitU c l = [l]
  | [], _ => ⟨rfl, rfl⟩
  | b :: l, h => by
    have hb : b ≠ c := fun e => h (by simp [e])
    have ih := cut_miss c l (fun e => h (by simp [e]))
    rw [cut_cons_ne b c l hb, ih.1, splitU, if_neg hb, ih.2]
    exact ⟨rfl, rfl⟩
theorem cut_hit (c : UInt8) : ∀ l, c ∈ l → ∃ a b, Lib.cut l [c] = (a, b, true) ∧ splitU c l = a :: splitU c b ∧ a.length + 1 + b.length = l.length
  | [], h => by simp at h
  | b :: l, h => by
    by_cases hb : b = c
    · subst hb
      have hix : Lib.index (b :: l) [b] = ((0 : Nat) : Int) := by rw [Lib.index]; simp [List.isPrefixOf]
      refine ⟨[], l, ?_, ?_, by simp; omega⟩
      · unfold Lib.cut
        rw [hix]
        simp
      · rw [splitU, if_pos rfl]
    · have hm : c ∈ l := by
        rcases List.mem_cons.1 h with e | e
        · exact absurd e.symm hb
        · exact e
      obtain ⟨a, d, h1, h2, h3⟩ := cut_hit c l hm
      refine ⟨b :: a, d, by rw [cut_cons_ne b c l hb, h1], by rw [splitU, if_neg hb, h2]; rfl, by simp; omega⟩
theorem splitU_one (c : UInt8) : ∀ l, (splitU c l).length = l.count c + 1
  | [] => rfl
  | b :: l => by
    unfold splitU
    split
    · rename_i e
      subst e
      simp [splitU_one b l]
    · rename_i e
      have h1 : (consHead [b] (splitU c l)).length = (splitU c l).length := by
        cases h : splitU c l with
        | nil => exact absurd h (splitU_ne c l)
        | cons a t => rfl
      rw [h1, splitU_one c l, List.count_cons_of_ne (by simpa using e)]
theorem splitU_len (c : UInt8) (l : List UInt8) : (splitU c l).length ≤ l.length + 1 := by
  rw [splitU_one]
  have := List.count_le_length (a := c) (l := l)
  omega
theorem split_word_len (c : UInt8) : ∀ l w, w ∈ splitU c l → w.length ≤ l.length
  | [], w, h => by simp [splitU] at h; simp [h]
  | b :: l, w, h => by
    unfold splitU at h
    split at h
    · rcases List.mem_cons.1 h with e | e
      · simp [e]
      · have := split_word_len c l w e
        simp; omega
    · cases hs : splitU c l with
      | nil => exact absurd hs (splitU_ne c l)
      | cons a t =>
        rw [hs] at h
        rcases List.mem_cons.1 h with e | e
        · have := split_word_len c l a (by rw [hs]; simp)
          simp [e]; omega
        · have := split_word_len c l w (by rw [hs]; simp [e])
          simp; omega
theorem strings_Split_val (s : ByteArray) (c : UInt8) (h : s.size ≤ 1048576) : strings_Split.f s ⟨#[c]⟩ = some ((splitU c s.data.toList).map bsP) := by
  unfold strings_Split.f
  rw [if_pos ⟨by omega, Nat.le_refl 1⟩]
  congr 1
  have hd := Lib.splitB_data (⟨#[c]⟩ : ByteArray) 0 (Lib.countB s ⟨#[c]⟩) s
  have hc : Lib.countB s ⟨#[c]⟩ = Lib.count s.data.toList [c] := rfl
  rw [hc] at hd ⊢
  have he : ((⟨#[c]⟩ : ByteArray)).data.toList = [c] := rfl
  rw [he, splitK_all c] at hd
  rw [← hd, List.map_map]
  have : (bsP ∘ fun x : ByteArray => x.data.toList) = id := by funext x; exact bsP_of x
  rw [this, List.map_id]
theorem Ev_cast {α : Type} {g : Nat → Option α} {a b : α} (h : Ev g a) (e : a = b) : Ev g b := e ▸ h
theorem bt_list (s : ByteArray) (i : Nat) (b : UInt8) (l : List UInt8) (h : s.data.toList.drop i = b :: l) : bt s (i : Int) = (b.toNat : Int) ∧ i < s.size ∧ s.data.toList.drop (i + 1) = l := by
  have hl : i < s.data.toList.length := by
    by_cases hh : i < s.data.toList.length
    · exact hh
    · rw [List.drop_of_length_le (by omega)] at h; cases h
  have hsz : i < s.size := by rw [Lib.size_eq]; exact hl
  rw [List.drop_eq_getElem_cons hl] at h
  obtain ⟨e1, e2⟩ := List.cons.inj h
  refine ⟨?_, hsz, e2⟩
  unfold bt
  rw [dif_pos (by simpa using hsz)]
  congr 1
  rw [← e1]
  rfl
theorem splitS_loop (s : ByteArray) (c : UInt8) (hs : s.size ≤ 1048576) : ∀ (d : Nat) (i at_ : Nat) (acc : List ByteArray), i + d = s.size → at_ ≤ i → acc.length ≤ i →
    Ev (fun k => spec_l01Split.l0 k s (c.toNat : Int) acc (at_ : Int) (i : Int)) (acc ++ (consHead ((s.data.toList.drop at_).take (i - at_)) (splitU c (s.data.toList.drop i))).map bsP)
  | 0, i, at_, acc, hd, ha, hl => by
    have hsz := Lib.size_eq s
    refine Ev.step (f := fun _ => some (acc ++ [s.extract at_ s.size])) (fun k => ?_) ?_
    · rw [spec_l01Split.l0, if_neg (by omega), if_pos (by omega), if_pos (by omega), if_pos (by omega)]
      rfl
    · have e1 : s.data.toList.drop i = [] := List.drop_of_length_le (by omega)
      have e2 : s.extract at_ s.size = bsP ((s.data.toList.drop at_).take (i - at_)) := by
        refine bsP_ext ?_
        rw [Lib.extract_to_end, bsP_data, List.take_of_length_le (by rw [List.length_drop]; omega)]
      rw [e1, e2]
      refine Ev_cast (Ev.now _) ?_
      simp [splitU, consHead]
  | d + 1, i, at_, acc, hd, ha, hl => by
    have hsz := Lib.size_eq s
    have hi : i < s.data.toList.length := by omega
    obtain ⟨b, l, hb⟩ : ∃ b l, s.data.toList.drop i = b :: l := ⟨_, _, List.drop_eq_getElem_cons hi⟩
    obtain ⟨h1, h2, h3⟩ := bt_list s i b l hb
    have hw : wrap64 ((i : Int) + 1) = ((i + 1 : Nat) : Int) := by rw [wrapS (by omega) (by omega)]; rfl
    by_cases e : b = c
    · subst e
      have ih := splitS_loop s b hs d (i + 1) (i + 1) (acc ++ [s.extract at_ i]) (by omega) (Nat.le_refl _) (by simp; omega)
      refine Ev.step (fun k => ?_) (Ev_cast ih ?_)
      · rw [spec_l01Split.l0, if_pos (by omega), if_pos (by omega), h1, if_pos rfl, if_pos (by omega), if_pos (by omega), if_pos (by omega), if_pos (by omega), hw]
        rfl
      · have e2 : s.extract at_ i = bsP ((s.data.toList.drop at_).take (i - at_)) := by
          refine bsP_ext ?_
          rw [Lib.extract_data, bsP_data]
        rw [e2, hb, h3, splitU, if_pos rfl, Nat.sub_self, List.take_zero, consHead_nil]
        simp [consHead]
    · have ih := splitS_loop s c hs d (i + 1) at_ acc (by omega) (by omega) (by omega)
      refine Ev.step (fun k => ?_) (Ev_cast ih ?_)
      · rw [spec_l01Split.l0, if_pos (by omega), if_pos (by omega), h1, if_neg (fun x => e (UInt8.toNat_inj.1 (by omega))), hw]
      · have e3 : (s.data.toList.drop at_).take (i + 1 - at_) = (s.data.toList.drop at_).take (i - at_) ++ [b] := by
          rw [show i + 1 - at_ = (i - at_) + 1 by omega, List.take_add_one, List.getElem?_drop, show at_ + (i - at_) = i by omega]
          have : s.data.toList[i]? = some b := by
            have := congrArg List.head? hb
            rw [List.head?_drop] at this
            exact this
          rw [this]
          rfl
        rw [e3, hb, h3, splitU, if_neg e, consHead_two]
theorem splitS_ev (s : ByteArray) (c : UInt8) (hs : s.size ≤ 1048576) : Ev (fun k => spec_l01Split.f k s (c.toNat : Int)) ((splitU c s.data.toList).map bsP) := by
  have h := splitS_loop s c hs s.size 0 0 [] (by omega) (Nat.le_refl _) (Nat.le_refl _)
  simp only [List.drop_zero, Nat.sub_self, List.take_zero, consHead_nil, List.nil_append] at h
  exact h

end Go.Proofs.YtcjfofcgbpbdmaaDoor.PX

/- The number of a word: the program's and the reference's, both in plain lists. -/
namespace Go.Proofs.YtcjfofcgbpbdmaaDoor.PX
open Go.RowKit Go.Proofs.YtcjfofcgbpbdmaaDoorW.PrintWords Go.Proofs.YtcjfofcgbpbdmaaDoorW.PrintLast Go.Proofs.YtcjfofcgbpbdmaaDoorW.PrintMore
attribute [local go_sem] max2_int min2_int max_two min_two max_three min_three max_four min_four
set_option linter.unusedVariables false
set_option linter.unusedSimpArgs false
def digFrom : Int → List UInt8 → Int
  | acc, [] => acc
  | acc, b :: l => if (b.toNat : Int) < 48 then -1 else if (b.toNat : Int) > 57 then -1 else digFrom (acc * 10 + ((b.toNat : Int) - 48)) l
def specNum (w : List UInt8) : Int := if w.length = 0 ∨ w.length > 9 ∨ (w.length > 1 ∧ w.head? = some 48) then -1 else digFrom 0 w
theorem digFrom_ge : ∀ (l : List UInt8) (acc : Int), 0 ≤ acc → digFrom acc l = -1 ∨ acc ≤ digFrom acc l
  | [], acc, h => .inr (Int.le_refl _)
  | b :: l, acc, h => by
    unfold digFrom
    split
    · exact .inl rfl
    · split
      · exact .inl rfl
      · rcases digFrom_ge l (acc * 10 + ((b.toNat : Int) - 48)) (by omega) with e | e
        · exact .inl e
        · exact .inr (by omega)
theorem digLoop (s : ByteArray) (hs : s.size ≤ 9) : ∀ (d i : Nat) (acc : Int), i + d = s.size → 0 ≤ acc → acc < ((10 ^ i : Nat) : Int) →
    Ev (fun k => spec_l01Number.l0 k s acc (i : Int)) (digFrom acc (s.data.toList.drop i))
  | 0, i, acc, hd, h0, h1 => by
    have hsz := Lib.size_eq s
    have e1 : s.data.toList.drop i = [] := List.drop_of_length_le (by omega)
    rw [e1]
    refine Ev.step (f := fun _ => some acc) (fun k => ?_) (Ev.now _)
    rw [spec_l01Number.l0, if_neg (by omega)]
  | d + 1, i, acc, hd, h0, h1 => by
    have hsz := Lib.size_eq s
    have hi : i < s.data.toList.length := by omega
    obtain ⟨b, l, hb⟩ : ∃ b l, s.data.toList.drop i = b :: l := ⟨_, _, List.drop_eq_getElem_cons hi⟩
    obtain ⟨h2, h3, h4⟩ := bt_list s i b l hb
    have hp : (10 ^ i : Nat) ≤ 10 ^ 8 := Nat.pow_le_pow_right (by omega) (by omega)
    have hp1 : (10 ^ (i + 1) : Nat) = 10 ^ i * 10 := Nat.pow_succ 10 i
    have hp8 : (10 ^ 8 : Nat) = 100000000 := by decide
    have hw : wrap64 ((i : Int) + 1) = ((i + 1 : Nat) : Int) := by rw [wrapS (by omega) (by omega)]; rfl
    rw [hb]
    by_cases hlo : (b.toNat : Int) < 48
    · refine Ev.step (f := fun _ => some (-1)) (fun k => ?_) (Ev_cast (Ev.now _) ?_)
      · rw [spec_l01Number.l0, if_pos (by omega), if_pos (by omega), h2, if_pos hlo]
      · rw [digFrom, if_pos hlo]
    · by_cases hhi : (b.toNat : Int) > 57
      · refine Ev.step (f := fun _ => some (-1)) (fun k => ?_) (Ev_cast (Ev.now _) ?_)
        · rw [spec_l01Number.l0, if_pos (by omega), if_pos (by omega), h2, if_neg hlo, if_pos hhi]
        · rw [digFrom, if_neg hlo, if_pos hhi]
      · have ih := digLoop s hs d (i + 1) (acc * 10 + ((b.toNat : Int) - 48)) (by omega) (by omega) (by rw [hp1]; omega)
        refine Ev.step (fun k => ?_) (Ev_cast ih ?_)
        · have e1 : ((b.toNat : Int) - 48) % 256 = (b.toNat : Int) - 48 := by omega
          rw [spec_l01Number.l0, if_pos (by omega), if_pos (by omega), h2, if_neg hlo, if_neg hhi, hw, e1, wrapS (i := acc * 10) (by omega) (by omega), wrapS (by omega) (by omega)]
        · rw [h4, digFrom, if_neg hlo, if_neg hhi]
theorem specNum_ev (w : List UInt8) (hw : w.length ≤ 1048576) : Ev (fun k => spec_l01Number.f k (bsP w)) (specNum w) := by
  have hsz := bsP_size w
  have bad : Ev (fun k => spec_l01Number.j0 k (bsP w) true) (-1) := by
    refine Ev.step (f := fun _ => some (-1)) (fun k => ?_) (Ev.now _)
    rw [spec_l01Number.j0, if_pos rfl]
  have good : w.length ≤ 9 → Ev (fun k => spec_l01Number.j0 k (bsP w) false) (digFrom 0 w) := by
    intro h9
    have h := digLoop (bsP w) (by omega) (bsP w).size 0 0 (by omega) (by omega) (by decide)
    rw [List.drop_zero, bsP_data] at h
    refine Ev.step (fun k => ?_) h
    rw [spec_l01Number.j0, if_neg (by decide)]
    rfl
  unfold specNum
  by_cases h0 : w.length = 0
  · rw [if_pos (.inl h0)]
    refine Ev.congr (fun k => ?_) bad
    rw [spec_l01Number.f, if_pos (by omega)]
  · by_cases h9 : w.length > 9
    · rw [if_pos (.inr (.inl h9))]
      refine Ev.congr (fun k => ?_) bad
      rw [spec_l01Number.f, if_neg (by omega), if_pos (by omega)]
    · by_cases h1 : w.length > 1
      · obtain ⟨b, l, hb⟩ : ∃ b l, w = b :: l := by
          cases w with
          | nil => simp at h0
          | cons b l => exact ⟨b, l, rfl⟩
        obtain ⟨h2, _, _⟩ := bt_list (bsP w) 0 b l (by rw [bsP_data, List.drop_zero]; exact hb)
        have hf : ∀ k, spec_l01Number.f k (bsP w) = spec_l01Number.j0 k (bsP w) ((b.toNat : Int) == 48) := by
          intro k
          rw [spec_l01Number.f, if_neg (by omega), if_neg (by omega), if_pos (by omega), if_pos (by omega)]
          have h2' : bt (bsP w) 0 = (b.toNat : Int) := h2
          rw [h2']
        refine Ev.congr hf ?_
        by_cases h48 : b = 48
        · rw [if_pos (.inr (.inr ⟨h1, by rw [hb, h48]; rfl⟩)), h48]
          exact bad
        · have e : ((b.toNat : Int) == 48) = false := beq_eq_false_iff_ne.2 (fun x => h48 (UInt8.toNat_inj.1 (by have : (48 : UInt8).toNat = 48 := rfl; omega)))
          rw [e, if_neg (by rintro (x | x | ⟨_, x⟩); exact h0 x; exact h9 x; rw [hb] at x; exact h48 (Option.some.inj x))]
          exact good (by omega)
      · rw [if_neg (by omega)]
        refine Ev.congr (fun k => ?_) (good (by omega))
        rw [spec_l01Number.f, if_neg (by omega), if_neg (by omega), if_neg (by omega)]
def small (n : Nat) : List UInt8 := if n < 10 then [UInt8.ofNat (48 + n)] else [UInt8.ofNat (48 + n / 10), UInt8.ofNat (48 + n % 10)]
theorem itoa_small {n : Nat} (h : n < 31) : Lib.itoa (n : Int) = small n := by
  unfold Lib.itoa small
  rw [if_neg (by omega), Int.toNat_natCast]
  by_cases h10 : n < 10
  · rw [if_pos h10, Lib.decDigits_one h10]
  · rw [if_neg h10, Lib.decDigits_two h10 (by omega)]
theorem small_spec : ∀ n : Fin 31, specNum (small n.val) = (n.val : Int) ∧ (59 : UInt8) ∉ small n.val := by decide
theorem parse_of (b : UInt8) (r : List UInt8) (u : Nat) (hb : 48 ≤ b.toNat ∧ b.toNat ≤ 57) (hu : u < 100) (h : Lib.parseUintM (2 ^ 64 - 1) 0 (b :: r) = .ok u) : Lib.parseIntB 64 (b :: r) = .ok (u : Int) := by
  unfold Lib.parseIntB Lib.parseUintB
  simp only
  rw [if_neg (show ¬ (b.toNat = 43 ∨ b.toNat = 45) by omega), if_neg (by simp), h]
  simp only
  rw [if_neg (by omega), if_neg (by omega), if_neg (by omega)]
theorem dig_val {d : Nat} (h : d < 10) : (UInt8.ofNat (48 + d)).toNat = 48 + d := by
  rw [UInt8.toNat_ofNat']
  omega
theorem small_parse : ∀ n : Fin 31, Lib.parseIntB 64 (small n.val) = .ok (n.val : Int) := by
  intro n
  have hn := n.isLt
  unfold small
  by_cases h : n.val < 10
  · rw [if_pos h]
    refine parse_of _ _ _ (by rw [dig_val h]; omega) (by omega) ?_
    rw [Lib.parseUintM, dig_val h, if_pos (by omega), if_neg (by omega), if_neg (by omega), Lib.parseUintM]
    congr 1
    omega
  · rw [if_neg h]
    have h1 : n.val / 10 < 10 := by omega
    have h2 : n.val % 10 < 10 := by omega
    refine parse_of _ _ _ (by rw [dig_val h1]; omega) (by omega) ?_
    rw [Lib.parseUintM, dig_val h1, if_pos (by omega), if_neg (by omega), if_neg (by omega), Lib.parseUintM, dig_val h2, if_pos (by omega), if_neg (by omega), if_neg (by omega), Lib.parseUintM]
    congr 1
    omega
theorem small_num (n : Fin 31) : numOf (small n.val) 30 = ((n.val : Int), true) := by
  unfold numOf
  rw [small_parse n]
  have h := n.isLt
  simp only
  rw [if_pos (itoa_small h), if_pos (by simp only [Bool.and_eq_true, decide_eq_true_eq]; omega)]
theorem num_word {w : List UInt8} (h : (numOf w 30).2 = true) : ∃ n : Fin 31, w = small n.val := by
  unfold numOf at h
  split at h
  · rename_i n hn
    split at h
    · rename_i he
      split at h
      · rename_i hb
        simp only [Bool.and_eq_true, decide_eq_true_eq] at hb
        obtain ⟨m, rfl⟩ : ∃ m : Nat, n = (m : Int) := ⟨n.toNat, by omega⟩
        have hm : m < 31 := by omega
        exact ⟨⟨m, hm⟩, by rw [← he]; exact itoa_small hm⟩
      · cases h
    · cases h
  · cases h
theorem num_some {w : List UInt8} (h : (numOf w 30).2 = true) : specNum w = (numOf w 30).1 ∧ 0 ≤ specNum w ∧ (59 : UInt8) ∉ w := by
  obtain ⟨n, rfl⟩ := num_word h
  obtain ⟨h1, h3⟩ := small_spec n
  rw [h1, small_num n]
  exact ⟨rfl, by omega, h3⟩
theorem u8_eq {b : UInt8} {m : Nat} (h : b.toNat = m) : b = UInt8.ofNat m := by
  subst h
  exact (UInt8.ofNat_toNat).symm
theorem spec_small {w : List UInt8} (h0 : 0 ≤ specNum w) (h1 : specNum w ≤ 30) : (numOf w 30).2 = true := by
  have key : ∃ n : Nat, n < 31 ∧ w = small n := by
    unfold specNum at h0 h1
    split at h0
    · omega
    · rename_i hc
      rw [if_neg hc] at h1
      match w with
      | [] => exact absurd (.inl rfl) hc
      | [b] =>
        have hb := b.toNat_lt
        simp only [digFrom] at h0 h1
        split at h0
        · omega
        · rename_i c1
          rw [if_neg c1] at h1
          split at h0
          · omega
          · rename_i c2
            rw [if_neg c2] at h1
            refine ⟨b.toNat - 48, by omega, ?_⟩
            unfold small
            rw [if_pos (by omega), ← u8_eq (b := b) (by omega)]
      | [b, b2] =>
        have hb := b.toNat_lt
        have hb48 : b.toNat ≠ 48 := fun e => hc (.inr (.inr ⟨by simp, by rw [u8_eq e]; rfl⟩))
        simp only [digFrom] at h0 h1
        split at h0
        · omega
        · rename_i c1
          rw [if_neg c1] at h1
          split at h0
          · omega
          · rename_i c2
            rw [if_neg c2] at h1
            split at h0
            · omega
            · rename_i c3
              rw [if_neg c3] at h1
              split at h0
              · omega
              · rename_i c4
                rw [if_neg c4] at h1
                refine ⟨(b.toNat - 48) * 10 + (b2.toNat - 48), by omega, ?_⟩
                unfold small
                rw [if_neg (by omega), ← u8_eq (b := b) (by omega), ← u8_eq (b := b2) (by omega)]
      | b :: b2 :: b3 :: l =>
        exfalso
        have hb48 : b.toNat ≠ 48 := fun e => hc (.inr (.inr ⟨by simp, by rw [u8_eq e]; rfl⟩))
        unfold digFrom at h0 h1
        split at h0
        · omega
        · rename_i c1
          rw [if_neg c1] at h1
          split at h0
          · omega
          · rename_i c2
            rw [if_neg c2] at h1
            unfold digFrom at h0 h1
            split at h0
            · omega
            · rename_i c3
              rw [if_neg c3] at h1
              split at h0
              · omega
              · rename_i c4
                rw [if_neg c4] at h1
                rcases digFrom_ge (b3 :: l) ((0 * 10 + ((b.toNat : Int) - 48)) * 10 + ((b2.toNat : Int) - 48)) (by omega) with e | e
                · omega
                · unfold digFrom at h0 h1
                  split at h0
                  · omega
                  · rename_i c5
                    rw [if_neg c5] at h1
                    split at h0
                    · omega
                    · rename_i c6
                      rw [if_neg c6] at h1
                      rcases digFrom_ge l (((0 * 10 + ((b.toNat : Int) - 48)) * 10 + ((b2.toNat : Int) - 48)) * 10 + ((b3.toNat : Int) - 48)) (by omega) with e | e <;> omega
  obtain ⟨n, hn, rfl⟩ := key
  have := small_num ⟨n, hn⟩
  simp only at this
  rw [this]

end Go.Proofs.YtcjfofcgbpbdmaaDoor.PX

/- The number of a word up to 40: the program's and the reference's. -/
namespace Go.Proofs.YtcjfofcgbpbdmaaDoor.PX
open Go.RowKit Go.Proofs.YtcjfofcgbpbdmaaDoorW.PrintWords Go.Proofs.YtcjfofcgbpbdmaaDoorW.PrintLast Go.Proofs.YtcjfofcgbpbdmaaDoorW.PrintMore
attribute [local go_sem] max2_int min2_int max_two min_two max_three min_three max_four min_four
set_option linter.unusedVariables false
set_option linter.unusedSimpArgs false
def smallG (n : Nat) : List UInt8 := if n < 10 then [UInt8.ofNat (48 + n)] else [UInt8.ofNat (48 + n / 10), UInt8.ofNat (48 + n % 10)]
theorem itoa_smallG {n : Nat} (h : n < 41) : Lib.itoa (n : Int) = smallG n := by
  unfold Lib.itoa smallG
  rw [if_neg (by omega), Int.toNat_natCast]
  by_cases h10 : n < 10
  · rw [if_pos h10, Lib.decDigits_one h10]
  · rw [if_neg h10, Lib.decDigits_two h10 (by omega)]
theorem small_specG : ∀ n : Fin 41, specNum (smallG n.val) = (n.val : Int) ∧ (59 : UInt8) ∉ smallG n.val := by decide
theorem parse_ofG (b : UInt8) (r : List UInt8) (u : Nat) (hb : 48 ≤ b.toNat ∧ b.toNat ≤ 57) (hu : u < 100) (h : Lib.parseUintM (2 ^ 64 - 1) 0 (b :: r) = .ok u) : Lib.parseIntB 64 (b :: r) = .ok (u : Int) := by
  unfold Lib.parseIntB Lib.parseUintB
  simp only
  rw [if_neg (show ¬ (b.toNat = 43 ∨ b.toNat = 45) by omega), if_neg (by simp), h]
  simp only
  rw [if_neg (by omega), if_neg (by omega), if_neg (by omega)]
theorem dig_valG {d : Nat} (h : d < 10) : (UInt8.ofNat (48 + d)).toNat = 48 + d := by
  rw [UInt8.toNat_ofNat']
  omega
theorem small_parseG : ∀ n : Fin 41, Lib.parseIntB 64 (smallG n.val) = .ok (n.val : Int) := by
  intro n
  have hn := n.isLt
  unfold smallG
  by_cases h : n.val < 10
  · rw [if_pos h]
    refine parse_ofG _ _ _ (by rw [dig_valG h]; omega) (by omega) ?_
    rw [Lib.parseUintM, dig_valG h, if_pos (by omega), if_neg (by omega), if_neg (by omega), Lib.parseUintM]
    congr 1
    omega
  · rw [if_neg h]
    have h1 : n.val / 10 < 10 := by omega
    have h2 : n.val % 10 < 10 := by omega
    refine parse_ofG _ _ _ (by rw [dig_valG h1]; omega) (by omega) ?_
    rw [Lib.parseUintM, dig_valG h1, if_pos (by omega), if_neg (by omega), if_neg (by omega), Lib.parseUintM, dig_valG h2, if_pos (by omega), if_neg (by omega), if_neg (by omega), Lib.parseUintM]
    congr 1
    omega
theorem small_numG (n : Fin 41) : numOf (smallG n.val) 40 = ((n.val : Int), true) := by
  unfold numOf
  rw [small_parseG n]
  have h := n.isLt
  simp only
  rw [if_pos (itoa_smallG h), if_pos (by simp only [Bool.and_eq_true, decide_eq_true_eq]; omega)]
theorem num_wordG {w : List UInt8} (h : (numOf w 40).2 = true) : ∃ n : Fin 41, w = smallG n.val := by
  unfold numOf at h
  split at h
  · rename_i n hn
    split at h
    · rename_i he
      split at h
      · rename_i hb
        simp only [Bool.and_eq_true, decide_eq_true_eq] at hb
        obtain ⟨m, rfl⟩ : ∃ m : Nat, n = (m : Int) := ⟨n.toNat, by omega⟩
        have hm : m < 41 := by omega
        exact ⟨⟨m, hm⟩, by rw [← he]; exact itoa_smallG hm⟩
      · cases h
    · cases h
  · cases h
theorem num_someG {w : List UInt8} (h : (numOf w 40).2 = true) : specNum w = (numOf w 40).1 ∧ 0 ≤ specNum w ∧ (59 : UInt8) ∉ w := by
  obtain ⟨n, rfl⟩ := num_wordG h
  obtain ⟨h1, h3⟩ := small_specG n
  rw [h1, small_numG n]
  exact ⟨rfl, by omega, h3⟩
theorem u8_eqG {b : UInt8} {m : Nat} (h : b.toNat = m) : b = UInt8.ofNat m := by
  subst h
  exact (UInt8.ofNat_toNat).symm
theorem spec_smallG {w : List UInt8} (h0 : 0 ≤ specNum w) (h1 : specNum w ≤ 40) : (numOf w 40).2 = true := by
  have key : ∃ n : Nat, n < 41 ∧ w = smallG n := by
    unfold specNum at h0 h1
    split at h0
    · omega
    · rename_i hc
      rw [if_neg hc] at h1
      match w with
      | [] => exact absurd (.inl rfl) hc
      | [b] =>
        have hb := b.toNat_lt
        simp only [digFrom] at h0 h1
        split at h0
        · omega
        · rename_i c1
          rw [if_neg c1] at h1
          split at h0
          · omega
          · rename_i c2
            rw [if_neg c2] at h1
            refine ⟨b.toNat - 48, by omega, ?_⟩
            unfold smallG
            rw [if_pos (by omega), ← u8_eqG (b := b) (by omega)]
      | [b, b2] =>
        have hb := b.toNat_lt
        have hb48 : b.toNat ≠ 48 := fun e => hc (.inr (.inr ⟨by simp, by rw [u8_eqG e]; rfl⟩))
        simp only [digFrom] at h0 h1
        split at h0
        · omega
        · rename_i c1
          rw [if_neg c1] at h1
          split at h0
          · omega
          · rename_i c2
            rw [if_neg c2] at h1
            split at h0
            · omega
            · rename_i c3
              rw [if_neg c3] at h1
              split at h0
              · omega
              · rename_i c4
                rw [if_neg c4] at h1
                refine ⟨(b.toNat - 48) * 10 + (b2.toNat - 48), by omega, ?_⟩
                unfold smallG
                rw [if_neg (by omega), ← u8_eqG (b := b) (by omega), ← u8_eqG (b := b2) (by omega)]
      | b :: b2 :: b3 :: l =>
        exfalso
        have hb48 : b.toNat ≠ 48 := fun e => hc (.inr (.inr ⟨by simp, by rw [u8_eqG e]; rfl⟩))
        unfold digFrom at h0 h1
        split at h0
        · omega
        · rename_i c1
          rw [if_neg c1] at h1
          split at h0
          · omega
          · rename_i c2
            rw [if_neg c2] at h1
            unfold digFrom at h0 h1
            split at h0
            · omega
            · rename_i c3
              rw [if_neg c3] at h1
              split at h0
              · omega
              · rename_i c4
                rw [if_neg c4] at h1
                rcases digFrom_ge (b3 :: l) ((0 * 10 + ((b.toNat : Int) - 48)) * 10 + ((b2.toNat : Int) - 48)) (by omega) with e | e
                · omega
                · unfold digFrom at h0 h1
                  split at h0
                  · omega
                  · rename_i c5
                    rw [if_neg c5] at h1
                    split at h0
                    · omega
                    · rename_i c6
                      rw [if_neg c6] at h1
                      rcases digFrom_ge l (((0 * 10 + ((b.toNat : Int) - 48)) * 10 + ((b2.toNat : Int) - 48)) * 10 + ((b3.toNat : Int) - 48)) (by omega) with e | e <;> omega
  obtain ⟨n, hn, rfl⟩ := key
  have := small_numG ⟨n, hn⟩
  simp only at this
  rw [this]

end Go.Proofs.YtcjfofcgbpbdmaaDoor.PX

/- The reference's reading of a game's text, up to its last test: the rows of numbers, in plain lists (condition: a text of at most 2 to the 20th bytes). -/
namespace Go.Proofs.YtcjfofcgbpbdmaaDoor.PX
open Go.RowKit Go.Proofs.YtcjfofcgbpbdmaaDoorW.PrintWords Go.Proofs.YtcjfofcgbpbdmaaDoorW.PrintLast Go.Proofs.YtcjfofcgbpbdmaaDoorW.PrintMore
attribute [local go_sem] max2_int min2_int max_two min_two max_three min_three max_four min_four
set_option linter.unusedVariables false
set_option linter.unusedSimpArgs false
def specRow (w : List UInt8) : List Int := if w = [] then [] else (splitU 46 w).map specNum
theorem rd_wordG (ws : List (List UInt8)) (i : Nat) (w : List UInt8) (t : List (List UInt8)) (h : ws.drop i = w :: t) : rdOf ByteArray.empty (ws.map bsP) (i : Int) = bsP w ∧ i < ws.length ∧ ws.drop (i + 1) = t := by
  have hl : i < ws.length := by
    by_cases hh : i < ws.length
    · exact hh
    · rw [List.drop_of_length_le (by omega)] at h; cases h
  rw [List.drop_eq_getElem_cons hl] at h
  obtain ⟨e1, e2⟩ := List.cons.inj h
  refine ⟨?_, hl, e2⟩
  unfold rdOf
  rw [Int.toNat_natCast, List.getD_eq_getElem?_getD, List.getElem?_map, List.getElem?_eq_getElem hl, e1]
  rfl
theorem readRow_loop (x4 : List ByteArray) (x6 : Int) (rows : List (List Int)) (r : List (List Int) × Bool) (hr : rows.length < 5864062014805) (ws : List (List UInt8)) (hn : ws.length ≤ 1048577) (hw : ∀ w ∈ ws, w.length ≤ 1048576) : ∀ (d i : Nat) (acc : List Int), i + d = ws.length → acc.length ≤ i →
    Ev (fun k => spec_l01Read.l0 k x4 (wrap64 (x6 + 1)) (rows ++ [acc ++ (ws.drop i).map specNum])) r → Ev (fun k => spec_l01Read.l1 k x4 x6 acc (ws.map bsP) (i : Int) rows) r
  | 0, i, acc, hd, ha, h => by
    rw [List.drop_of_length_le (by omega), List.map_nil, List.append_nil] at h
    refine Ev.step (fun k => ?_) h
    rw [spec_l01Read.l1, if_neg (by rw [List.length_map]; omega), if_pos hr]
  | d + 1, i, acc, hd, ha, h => by
    obtain ⟨w, t, hw0⟩ : ∃ w t, ws.drop i = w :: t := ⟨_, _, List.drop_eq_getElem_cons (by omega)⟩
    obtain ⟨h1, h2, h3⟩ := rd_wordG ws i w t hw0
    have hlw : w.length ≤ 1048576 := hw w (List.mem_of_mem_drop (i := i) (by rw [hw0]; simp))
    have hx : wrap64 ((i : Int) + 1) = ((i + 1 : Nat) : Int) := by rw [wrapS (by omega) (by omega)]; rfl
    have ih := readRow_loop x4 x6 rows r hr ws hn hw d (i + 1) (acc ++ [specNum w]) (by omega) (by simp; omega) (by
      rw [h3]
      rw [hw0] at h
      simpa using h)
    have hstep : ∀ k, spec_l01Read.l1 (k + 1) x4 x6 acc (ws.map bsP) (i : Int) rows = (spec_l01Number.f k (bsP w)).bind fun t266 => (if acc.length < 17592186044416 then (spec_l01Read.l1 k x4 x6 (acc ++ [t266]) (ws.map bsP) ((i + 1 : Nat) : Int) rows) else (none)) := by
      intro k
      rw [spec_l01Read.l1, if_pos (by rw [List.length_map]; omega), if_pos (by omega), h1, hx]
    refine Ev.step hstep (Ev.bind (specNum_ev w hlw) ?_)
    exact Ev.congr (fun k => by rw [if_pos (by omega)]) ih
theorem read_loop (r : List (List Int) × Bool) (ws : List (List UInt8)) (hn : ws.length ≤ 1048577) (hw : ∀ w ∈ ws, w.length ≤ 1048576)
    (hend : Ev (fun k => (spec_l01Is.f k (ws.map specRow)).bind fun t253 => (if t253 = true then (some (ws.map specRow, true)) else (some (([] : List (List Int)), false)))) r) : ∀ (d i : Nat), i + d = ws.length →
    Ev (fun k => spec_l01Read.l0 k (ws.map bsP) (i : Int) ((ws.take i).map specRow)) r
  | 0, i, hd => by
    have e : (ws.take i).map specRow = ws.map specRow := by rw [List.take_of_length_le (by omega)]
    rw [e]
    refine Ev.step (fun k => ?_) hend
    rw [spec_l01Read.l0, if_neg (by rw [List.length_map]; omega)]
  | d + 1, i, hd => by
    obtain ⟨w, t, hw0⟩ : ∃ w t, ws.drop i = w :: t := ⟨_, _, List.drop_eq_getElem_cons (by omega)⟩
    obtain ⟨h1, h2, h3⟩ := rd_wordG ws i w t hw0
    have hlw : w.length ≤ 1048576 := hw w (List.mem_of_mem_drop (i := i) (by rw [hw0]; simp))
    have hx : wrap64 ((i : Int) + 1) = ((i + 1 : Nat) : Int) := by rw [wrapS (by omega) (by omega)]; rfl
    have hget : ws[i]? = some w := by
      have := congrArg List.head? hw0
      rw [List.head?_drop] at this
      exact this
    have ht : (ws.take (i + 1)).map specRow = (ws.take i).map specRow ++ [specRow w] := by
      rw [List.take_add_one, hget]
      simp
    have ih := read_loop r ws hn hw hend d (i + 1) (by omega)
    rw [ht] at ih
    have hlen : ((ws.take i).map specRow).length < 5864062014805 := by rw [List.length_map, List.length_take]; omega
    by_cases he : w = []
    · refine Ev.step (fun k => ?_) ih
      rw [spec_l01Read.l0, if_pos (by rw [List.length_map]; omega), Option.bind_some, if_pos (by omega), h1, if_pos (by rw [ByteArray.toList_eq, bsP_data, he]), if_pos hlen, hx]
      unfold specRow
      rw [if_pos he]
    · have hsp := splitS_ev (bsP w) 46 (by rw [bsP_size]; omega)
      rw [bsP_data] at hsp
      have hl := splitU_len 46 w
      have row := readRow_loop (ws.map bsP) (i : Int) ((ws.take i).map specRow) r hlen (splitU 46 w) (by omega) (fun v hv => Nat.le_trans (split_word_len 46 w v hv) hlw) (splitU 46 w).length 0 [] (by omega) (Nat.le_refl _) (by
        rw [hx, List.drop_zero, List.nil_append]
        have : specRow w = (splitU 46 w).map specNum := by unfold specRow; rw [if_neg he]
        rw [← this]
        exact ih)
      refine Ev.step (fun k => ?_) (Ev.bind (f := fun k t => spec_l01Read.l1 k (ws.map bsP) (i : Int) [] t 0 ((ws.take i).map specRow)) hsp row)
      rw [spec_l01Read.l0, if_pos (by rw [List.length_map]; omega), Option.bind_some, if_pos (by omega), h1, if_neg (by rw [ByteArray.toList_eq, bsP_data]; exact he)]
      rfl

end Go.Proofs.YtcjfofcgbpbdmaaDoor.PX

/- A row of numbers between points: the program's reading, in plain lists, against the reference's (condition: a text of at most 2 to the 20th bytes). -/
namespace Go.Proofs.YtcjfofcgbpbdmaaDoor.PX
open Go.RowKit Go.Proofs.YtcjfofcgbpbdmaaDoorW.PrintWords Go.Proofs.YtcjfofcgbpbdmaaDoorW.PrintLast Go.Proofs.YtcjfofcgbpbdmaaDoorW.PrintMore
attribute [local go_sem] max2_int min2_int max_two min_two max_three min_three max_four min_four
set_option linter.unusedVariables false
set_option linter.unusedSimpArgs false
def implFromG : List Int → List (List UInt8) → List Int × Bool
  | acc, [] => (acc, true)
  | acc, w :: t => if (numOf w 40).2 = true then implFromG (acc ++ [(numOf w 40).1]) t else ([], false)
def implRow (s : List UInt8) : List Int × Bool := if s = [] then ([], true) else implFromG [] (splitU 46 s)
theorem implRow_loop (ws : List (List UInt8)) (hn : ws.length ≤ 1048577) (hw : ∀ w ∈ ws, w.length ≤ 1048576) : ∀ (d i : Nat) (acc : List Int), i + d = ws.length → acc.length ≤ i →
    Ev (fun k => impl_numbersOf.l0 k 40 acc (ws.map bsP) (ws.length : Int) (i : Int)) (implFromG acc (ws.drop i))
  | 0, i, acc, hd, ha => by
    rw [List.drop_of_length_le (by omega)]
    refine Ev.step (f := fun _ => some (acc, true)) (fun k => ?_) (Ev.now _)
    rw [impl_numbersOf.l0, if_neg (by omega)]
  | d + 1, i, acc, hd, ha => by
    obtain ⟨w, t, h⟩ : ∃ w t, ws.drop i = w :: t := ⟨_, _, List.drop_eq_getElem_cons (by omega)⟩
    obtain ⟨h1, h2, h3⟩ := rd_wordG ws i w t h
    have hlw : w.length ≤ 1048576 := hw w (List.mem_of_mem_drop (i := i) (by rw [h]; simp))
    have hnum : impl_number.f (bsP w) 40 = some (numOf w 40) := by
      unfold impl_number.f
      rw [if_pos (by rw [bsP_size]; omega), bsP_data]
    have hx : wrap64 ((i : Int) + 1) = ((i + 1 : Nat) : Int) := by rw [wrapS (by omega) (by omega)]; rfl
    rw [h, implFromG]
    by_cases hok : (numOf w 40).2 = true
    · rw [if_pos hok]
      have ih := implRow_loop ws hn hw d (i + 1) (acc ++ [(numOf w 40).1]) (by omega) (by simp; omega)
      rw [h3] at ih
      refine Ev.step (fun k => ?_) ih
      rw [impl_numbersOf.l0, if_pos (by omega), if_pos (by omega), if_pos (by rw [List.length_map]; omega), h1, hnum, Option.bind_some, if_pos hok, if_pos (by omega), hx]
    · rw [if_neg hok]
      refine Ev.step (f := fun _ => some ([], false)) (fun k => ?_) (Ev.now _)
      rw [impl_numbersOf.l0, if_pos (by omega), if_pos (by omega), if_pos (by rw [List.length_map]; omega), h1, hnum, Option.bind_some, if_neg hok]
theorem implRow_ev (s : List UInt8) (hs : s.length ≤ 1048576) : Ev (fun k => impl_numbersOf.f k (bsP s) (⟨#[46]⟩ : ByteArray) 40) (implRow s) := by
  have hnil : (bsP s).toList = ([] : List UInt8) ↔ s = [] := by rw [ByteArray.toList_eq, bsP_data]
  unfold implRow
  by_cases h : s = []
  · rw [if_pos h]
    refine Ev.congr (f := fun _ => some ([], true)) (fun k => ?_) (Ev.now _)
    rw [impl_numbersOf.f, Option.bind_some, if_pos (hnil.2 h)]
  · rw [if_neg h]
    have hl := splitU_len 46 s
    have hv := strings_Split_val (bsP s) 46 (by rw [bsP_size]; omega)
    rw [bsP_data] at hv
    have hlp := implRow_loop (splitU 46 s) (by omega) (fun w hw => Nat.le_trans (split_word_len 46 s w hw) hs) (splitU 46 s).length 0 [] (by omega) (Nat.le_refl _)
    rw [List.drop_zero] at hlp
    refine Ev.congr (fun k => ?_) hlp
    rw [impl_numbersOf.f, Option.bind_some, if_neg (fun x => h (hnil.1 x)), hv, Option.bind_some, List.length_map]
    rfl
theorem fromG_same : ∀ (ws : List (List UInt8)) (acc : List Int), (implFromG acc ws).2 = true → (implFromG acc ws).1 = acc ++ ws.map specNum
  | [], acc, _ => by simp [implFromG]
  | w :: t, acc, h => by
    unfold implFromG at h ⊢
    by_cases hok : (numOf w 40).2 = true
    · rw [if_pos hok] at h ⊢
      obtain ⟨e1, _, _⟩ := num_someG hok
      rw [fromG_same t _ h, ← e1]
      simp
    · rw [if_neg hok] at h
      cases h
theorem fromG_bad : ∀ (ws : List (List UInt8)) (acc : List Int), (implFromG acc ws).2 = false → ∃ x ∈ ws.map specNum, x < 0 ∨ 40 < x
  | [], acc, h => by cases h
  | w :: t, acc, h => by
    unfold implFromG at h
    by_cases hok : (numOf w 40).2 = true
    · rw [if_pos hok] at h
      obtain ⟨x, hx, h2⟩ := fromG_bad t _ h
      exact ⟨x, by simp at hx ⊢; exact .inr hx, h2⟩
    · refine ⟨specNum w, by simp, ?_⟩
      by_cases h0 : 0 ≤ specNum w
      · by_cases h40 : specNum w ≤ 40
        · exact absurd (spec_smallG h0 h40) hok
        · exact .inr (by omega)
      · exact .inl (by omega)
theorem row_same {s : List UInt8} (h : (implRow s).2 = true) : (implRow s).1 = specRow s := by
  unfold implRow specRow at *
  by_cases hs : s = []
  · rw [if_pos hs, if_pos hs]
  · rw [if_neg hs] at h ⊢
    rw [if_neg hs, fromG_same _ _ h, List.nil_append]
theorem row_bad {s : List UInt8} (h : (implRow s).2 = false) : ∃ x ∈ specRow s, x < 0 ∨ 40 < x := by
  unfold implRow specRow at *
  by_cases hs : s = []
  · rw [if_pos hs] at h; cases h
  · rw [if_neg hs] at h ⊢
    exact fromG_bad _ _ h

end Go.Proofs.YtcjfofcgbpbdmaaDoor.PX

/- The program's reading of a game's text, up to its last test: rows that all are read, or an error (condition: a text of at most 2 to the 20th bytes). -/
namespace Go.Proofs.YtcjfofcgbpbdmaaDoor.PX
open Go.RowKit Go.Proofs.YtcjfofcgbpbdmaaDoorW.PrintWords Go.Proofs.YtcjfofcgbpbdmaaDoorW.PrintLast Go.Proofs.YtcjfofcgbpbdmaaDoorW.PrintMore
attribute [local go_sem] max2_int min2_int max_two min_two max_three min_three max_four min_four
set_option linter.unusedVariables false
set_option linter.unusedSimpArgs false
theorem parseG_good (r : List (List Int) × Int) (ws : List (List UInt8)) (hn : ws.length ≤ 1048577) (hw : ∀ w ∈ ws, w.length ≤ 1048576) (hok : ∀ w ∈ ws, (implRow w).2 = true)
    (hend : Ev (fun k => (impl_IsGame.f k (ws.map specRow)).bind fun t300 => (if t300 = true then (some (ws.map specRow, 0)) else (some (([] : List (List Int)), 6)))) r) : ∀ (d i : Nat), i + d = ws.length →
    Ev (fun k => impl_ParseGame.l0 k (ws.map bsP) (ws.length : Int) (i : Int) ((ws.take i).map specRow)) r
  | 0, i, hd => by
    have e : (ws.take i).map specRow = ws.map specRow := by rw [List.take_of_length_le (by omega)]
    rw [e]
    refine Ev.step (fun k => ?_) hend
    rw [impl_ParseGame.l0, if_neg (by omega)]
  | d + 1, i, hd => by
    obtain ⟨w, t, hw0⟩ : ∃ w t, ws.drop i = w :: t := ⟨_, _, List.drop_eq_getElem_cons (by omega)⟩
    obtain ⟨h1, h2, h3⟩ := rd_wordG ws i w t hw0
    have hm : w ∈ ws := List.mem_of_mem_drop (i := i) (by rw [hw0]; simp)
    have hx : wrap64 ((i : Int) + 1) = ((i + 1 : Nat) : Int) := by rw [wrapS (by omega) (by omega)]; rfl
    have hget : ws[i]? = some w := by
      have := congrArg List.head? hw0
      rw [List.head?_drop] at this
      exact this
    have ht : (ws.take (i + 1)).map specRow = (ws.take i).map specRow ++ [specRow w] := by
      rw [List.take_add_one, hget]
      simp
    have ih := parseG_good r ws hn hw hok hend d (i + 1) (by omega)
    rw [ht] at ih
    have hlen : ((ws.take i).map specRow).length < 5864062014805 := by rw [List.length_map, List.length_take]; omega
    refine Ev.step (fun k => ?_) (Ev.bind (f := fun k bt293 => (if bt293.2 = true then (if ((ws.take i).map specRow).length < 5864062014805 then (impl_ParseGame.l0 k (ws.map bsP) (ws.length : Int) ((i + 1 : Nat) : Int) ((ws.take i).map specRow ++ [bt293.1])) else (none)) else (some (([] : List (List Int)), 6)))) (implRow_ev w (hw w hm)) ?_)
    · rw [impl_ParseGame.l0, if_pos (by omega), if_pos (by omega), if_pos (by rw [List.length_map]; omega), h1, hx]
    · refine Ev.congr (fun k => ?_) ih
      rw [if_pos (hok w hm), if_pos hlen, row_same (hok w hm)]
theorem parseG_bad (ws : List (List UInt8)) (hn : ws.length ≤ 1048577) (hw : ∀ w ∈ ws, w.length ≤ 1048576) : ∀ (d i : Nat) (rows : List (List Int)), i + d = ws.length → rows.length ≤ i → (∃ w ∈ ws.drop i, (implRow w).2 = false) →
    Ev (fun k => impl_ParseGame.l0 k (ws.map bsP) (ws.length : Int) (i : Int) rows) ([], 6)
  | 0, i, rows, hd, hr, hb => by
    rw [List.drop_of_length_le (by omega)] at hb
    obtain ⟨w, h, _⟩ := hb
    cases h
  | d + 1, i, rows, hd, hr, hb => by
    obtain ⟨w, t, hw0⟩ : ∃ w t, ws.drop i = w :: t := ⟨_, _, List.drop_eq_getElem_cons (by omega)⟩
    obtain ⟨h1, h2, h3⟩ := rd_wordG ws i w t hw0
    have hm : w ∈ ws := List.mem_of_mem_drop (i := i) (by rw [hw0]; simp)
    have hx : wrap64 ((i : Int) + 1) = ((i + 1 : Nat) : Int) := by rw [wrapS (by omega) (by omega)]; rfl
    refine Ev.step (fun k => ?_) (Ev.bind (f := fun k bt293 => (if bt293.2 = true then (if rows.length < 5864062014805 then (impl_ParseGame.l0 k (ws.map bsP) (ws.length : Int) ((i + 1 : Nat) : Int) (rows ++ [bt293.1])) else (none)) else (some (([] : List (List Int)), 6)))) (implRow_ev w (hw w hm)) ?_)
    · rw [impl_ParseGame.l0, if_pos (by omega), if_pos (by omega), if_pos (by rw [List.length_map]; omega), h1, hx]
    · by_cases hk : (implRow w).2 = true
      · have ih := parseG_bad ws hn hw d (i + 1) (rows ++ [(implRow w).1]) (by omega) (by simp; omega) (by
          rw [h3]
          rw [hw0] at hb
          obtain ⟨v, hv, hf⟩ := hb
          rcases List.mem_cons.1 hv with e | e
          · rw [e, hk] at hf; cases hf
          · exact ⟨v, e, hf⟩)
        refine Ev.congr (fun k => ?_) ih
        rw [if_pos hk, if_pos (by omega)]
      · exact Ev.congr (f := fun _ => some ([], 6)) (fun k => by rw [if_neg hk]) (Ev.now _)

end Go.Proofs.YtcjfofcgbpbdmaaDoor.PX

/- ParseGame: the program and the reference answer alike (condition: a text of at most 2 to the 20th bytes). -/
namespace Go.Proofs.YtcjfofcgbpbdmaaDoor.PX
open Go.RowKit Go.Proofs.YtcjfofcgbpbdmaaDoorW.PrintWords Go.Proofs.YtcjfofcgbpbdmaaDoorW.PrintLast Go.Proofs.YtcjfofcgbpbdmaaDoorW.PrintMore
attribute [local go_sem] max2_int min2_int max_two min_two max_three min_three max_four min_four
set_option linter.unusedVariables false
set_option linter.unusedSimpArgs false
def gameOf (rows : List (List Int)) : List (List Int) × Int := if isGame rows = true then (rows, 0) else ([], 6)
theorem okRow_in (n : Int) : ∀ (l : List Int) (last : Int), okRow last n l = true → ∀ x ∈ l, last < x ∧ x < n
  | [], _, _, x, hx => by cases hx
  | y :: r, last, h, x, hx => by
    simp only [okRow, Bool.and_eq_true, decide_eq_true_eq] at h
    rcases List.mem_cons.1 hx with e | e
    · rw [e]; exact ⟨h.1, h.2.1⟩
    · have := okRow_in n r y h.2.2 x e
      exact ⟨by omega, this.2⟩
theorem okRows_in (n : Int) : ∀ (g : List (List Int)) (p : Int), 0 ≤ p → okRows n p g = true → ∀ row ∈ g, ∀ x ∈ row, 0 ≤ x ∧ x < n
  | [], _, _, _, row, hr, _, _ => by cases hr
  | y :: r, p, hp, h, row, hr, x, hx => by
    simp only [okRows, Bool.and_eq_true] at h
    rcases List.mem_cons.1 hr with e | e
    · rw [e] at hx
      have := okRow_in n y p h.1 x hx
      exact ⟨by omega, this.2⟩
    · exact okRows_in n r (p + 1) (by omega) h.2 row e x hx
theorem isGame_in {g : List (List Int)} (h : isGame g = true) : g.length ≤ 40 ∧ ∀ row ∈ g, ∀ x ∈ row, 0 ≤ x ∧ x ≤ 40 := by
  simp only [isGame, Bool.and_eq_true, decide_eq_true_eq] at h
  refine ⟨h.2.1, fun row hr x hx => ?_⟩
  have := okRows_in g.length g 0 (by omega) h.2.2 row hr x hx
  exact ⟨this.1, by omega⟩
theorem specRow_len (w : List UInt8) : (specRow w).length ≤ w.length + 1 := by
  unfold specRow
  split
  · simp
  · rw [List.length_map]; exact splitU_len 46 w
theorem rows_small (s : List UInt8) (hs : s.length ≤ 1048576) : ∀ row ∈ (splitU 44 s).map specRow, row.length ≤ 1048577 := by
  intro row hr
  obtain ⟨w, hw, rfl⟩ := List.mem_map.1 hr
  have h1 := specRow_len w
  have h2 := split_word_len 44 s w hw
  omega
theorem totalLe (M : Nat) : ∀ g : List (List Int), (∀ row ∈ g, row.length ≤ M) → total g ≤ (g.length * M : Nat)
  | [], _ => by simp [total]
  | y :: r, h => by
    have h1 := totalLe M r (fun row hr => h row (List.mem_cons_of_mem _ hr))
    have h2 := h y (by simp)
    have e : (y :: r).length * M = r.length * M + M := by rw [List.length_cons, Nat.succ_mul]
    rw [e]
    simp only [total]
    omega
theorem gameOf_small (s : List UInt8) (hs : s.length ≤ 1048576) : (gameOf ((splitU 44 s).map specRow)).1.length ≤ 40 ∧ total (gameOf ((splitU 44 s).map specRow)).1 ≤ 41943080 ∧ ∀ row ∈ (gameOf ((splitU 44 s).map specRow)).1, row.length ≤ 1048577 := by
  unfold gameOf
  split
  · rename_i h
    have h1 := (isGame_in h).1
    have h2 := totalLe 1048577 _ (rows_small s hs)
    refine ⟨h1, ?_, rows_small s hs⟩
    have h3 : ((splitU 44 s).map specRow).length * 1048577 ≤ 40 * 1048577 := Nat.mul_le_mul_right _ h1
    exact Int.le_trans h2 (by omega)
  · exact ⟨by simp, by simp [total], fun row hr => by cases hr⟩
theorem spec_ev (s : ByteArray) (hs : s.size ≤ 1048576) : Ev (fun k => spec_ParseGame.f k s) (gameOf ((splitU 44 s.data.toList).map specRow)) := by
  have hz := Lib.size_eq s
  have hn := splitU_len 44 s.data.toList
  have hw : ∀ w ∈ splitU 44 s.data.toList, w.length ≤ 1048576 := fun w h => by have := split_word_len 44 s.data.toList w h; omega
  have hrow := rows_small s.data.toList (by omega)
  have hI := l01Is_ev ((splitU 44 s.data.toList).map specRow) (fun row h => by have := hrow row h; omega) (by rw [List.length_map]; omega)
  have hR := read_loop (if isGame ((splitU 44 s.data.toList).map specRow) = true then ((splitU 44 s.data.toList).map specRow, true) else ([], false)) (splitU 44 s.data.toList) (by omega) hw (by
    refine Ev.bind hI ?_
    split <;> exact Ev.now _) (splitU 44 s.data.toList).length 0 (by omega)
  have hRead : Ev (fun k => spec_l01Read.f k s) (if isGame ((splitU 44 s.data.toList).map specRow) = true then ((splitU 44 s.data.toList).map specRow, true) else ([], false)) := by
    unfold spec_l01Read.f
    exact Ev.bind (splitS_ev s 44 hs) hR
  unfold spec_ParseGame.f
  refine Ev.bind hRead ?_
  unfold gameOf
  by_cases h : isGame ((splitU 44 s.data.toList).map specRow) = true
  · rw [if_pos h, if_pos h]
    exact Ev.congr (f := fun _ => some _) (fun k => by rw [if_pos rfl]) (Ev.now _)
  · rw [if_neg h, if_neg h]
    exact Ev.congr (f := fun _ => some _) (fun k => by rw [if_neg (fun e => Bool.noConfusion e)]) (Ev.now _)
theorem impl_ev (s : ByteArray) (hs : s.size ≤ 1048576) : Ev (fun k => impl_ParseGame.f k s) (gameOf ((splitU 44 s.data.toList).map specRow)) := by
  have hz := Lib.size_eq s
  have hn := splitU_len 44 s.data.toList
  have hw : ∀ w ∈ splitU 44 s.data.toList, w.length ≤ 1048576 := fun w h => by have := split_word_len 44 s.data.toList w h; omega
  have hrow := rows_small s.data.toList (by omega)
  have hI := IsGame_ev ((splitU 44 s.data.toList).map specRow) (fun row h => by have := hrow row h; omega) (by rw [List.length_map]; omega)
  have hl : (((splitU 44 s.data.toList).map bsP).length : Int) = ((splitU 44 s.data.toList).length : Int) := by rw [List.length_map]
  unfold impl_ParseGame.f
  refine Ev.congr (fun k => by rw [strings_Split_val s 44 hs, Option.bind_some, hl]) ?_
  by_cases hok : ∀ w ∈ splitU 44 s.data.toList, (implRow w).2 = true
  · refine parseG_good _ (splitU 44 s.data.toList) (by omega) hw hok ?_ (splitU 44 s.data.toList).length 0 (by omega)
    refine Ev.bind hI ?_
    unfold gameOf
    by_cases h : isGame ((splitU 44 s.data.toList).map specRow) = true
    · rw [if_pos h]
      exact Ev.congr (f := fun _ => some _) (fun k => by rw [if_pos h]) (Ev.now _)
    · rw [if_neg h]
      exact Ev.congr (f := fun _ => some _) (fun k => by rw [if_neg h]) (Ev.now _)
  · have hb : ∃ w ∈ (splitU 44 s.data.toList).drop 0, (implRow w).2 = false := by
      rw [List.drop_zero]
      refine Classical.byContradiction fun hc => hok fun w hw0 => ?_
      cases e : (implRow w).2 with
      | true => rfl
      | false => exact absurd ⟨w, hw0, e⟩ hc
    have hbad := parseG_bad (splitU 44 s.data.toList) (by omega) hw (splitU 44 s.data.toList).length 0 [] (by omega) (by simp) hb
    have e : gameOf ((splitU 44 s.data.toList).map specRow) = ([], 6) := by
      unfold gameOf
      rw [if_neg]
      intro hg
      obtain ⟨w, hw0, hf⟩ := hb
      rw [List.drop_zero] at hw0
      obtain ⟨x, hx, hlt⟩ := row_bad hf
      have := (isGame_in hg).2 _ (List.mem_map_of_mem hw0) x hx
      omega
    rw [e]
    exact hbad

end Go.Proofs.YtcjfofcgbpbdmaaDoor.PX

/- The law FnExactParseGame holds of every text: both sides tell the same (condition: what the reading functions ask of the variables). -/
namespace Go.Proofs.YtcjfofcgbpbdmaaDoor.PX
open Go.RowKit Go.Proofs.YtcjfofcgbpbdmaaDoorW.PrintWords Go.Proofs.YtcjfofcgbpbdmaaDoorW.PrintLast Go.Proofs.YtcjfofcgbpbdmaaDoorW.PrintMore
theorem laws_FnExactParseGame.done (a0 : ByteArray) (w : World) (_ : a0.size ≤ 140737488351232) (hG : Good w) :
    Calls Tryd.prog 3 #[.string a0] w fun e w' => e = .returned (.bool true) ∧ Below w.heap.size w w' := by
  by_cases hs : a0.size ≤ 1048576
  rotate_left
  · exact laws_FnExactParseGame.early0_of a0 w (decide_eq_true (by omega))
  have hz := Lib.size_eq a0
  obtain ⟨h1, h2, h3⟩ := gameOf_small a0.data.toList (by omega)
  have hp := total_nonneg (gameOf ((splitU 44 a0.data.toList).map specRow)).1
  exact laws_FnExactParseGame.good_of a0 (gameOf ((splitU 44 a0.data.toList).map specRow)).1 (gameOf ((splitU 44 a0.data.toList).map specRow)).2 (1 + total (gameOf ((splitU 44 a0.data.toList).map specRow)).1) w
    (decide_eq_false (by omega)) (spec_ev a0 hs) (impl_ev a0 hs) (eqG_ev _ (fun row hr => by have := h3 row hr; omega) (by omega)) (decide_eq_false (by omega)) (by omega) (by omega) rfl (heldG_ev _ 1 (by omega) (by omega) (by omega)) hG

end Go.Proofs.YtcjfofcgbpbdmaaDoor.PX

/- What a row's list of variables and the world's shape give: the facts that the reading functions ask (no condition beside the list). -/
namespace Go.Proofs.YtcjfofcgbpbdmaaDoor.PX
open Go.RowKit Go.Shelf
theorem gPow : Tryd.prog.globalNamed "internal/strconv.uint64pow10" = some 5 := by kernel_rfl
theorem gPowType : (Tryd.prog.globals[5]?).map (·.type) = some 113 := by kernel_rfl
theorem cellsPow : Tryd.prog.cellsOf 113 = 20 := by kernel_rfl
theorem cellsU64 : Tryd.prog.cellsOf 83 = 1 := by kernel_rfl
theorem gSyn : Tryd.prog.globalNamed "strconv.ErrSyntax" = some 3 := by kernel_rfl
theorem gSynType : (Tryd.prog.globals[3]?).map (·.type) = some 65 := by kernel_rfl
theorem gRng : Tryd.prog.globalNamed "strconv.ErrRange" = some 4 := by kernel_rfl
theorem gRngType : (Tryd.prog.globals[4]?).map (·.type) = some 65 := by kernel_rfl
theorem cellsES : Tryd.prog.cellsOf 111 = 1 := by kernel_rfl
theorem cellsSt : Tryd.prog.cellsOf 9 = 1 := by kernel_rfl
theorem starES : "*" ++ "errors.errorString" = "*errors.errorString" := by decide
theorem rowPES (u : TypeId) (h : Tryd.prog.typeName? 3 u = some "*errors.errorString") : u = 109 :=
  typeName_ptr_named (nm := "errors.errorString") (by rw [starES]; kernel_rfl) (by kernel_rfl) (by decide) u (by rw [starES]; exact h)
theorem good_fnExactParseEnding {W : World} (hL : laidMetH Tryd.prog Rows.fnExactParseEndingRow.laid W) (hsh : W.ShapedOpen Tryd.prog) : Good W := by
  rw [Go.MakeChecks.laidMetH_plain _ _ _ (by kernel_rfl)] at hL
  have h3 : laidMet Tryd.prog (("internal/strconv.uint64pow10", Lib.tabData .u64 Lib.pow10Tab) :: _) W := hL.tail.tail
  obtain ⟨a_Rng, s_Rng, hv_Rng, -, -, -⟩ := laid_sentinel hL.tail.tail.tail.tail gRng gRngType Tryd.underlying65 rowPES Tryd.underlying109 Tryd.underlying111 rfl rfl Tryd.underlying9 cellsES cellsSt
  obtain ⟨a_Syn, s_Syn, hv_Syn, -, -, -⟩ := laid_sentinel hL.tail.tail.tail.tail.tail gSyn gSynType Tryd.underlying65 rowPES Tryd.underlying109 Tryd.underlying111 rfl rfl Tryd.underlying9 cellsES cellsSt
  exact ⟨Tryd.laysM146.s1_3 W hsh, Lib.tabIs_of_head gPow gPowType Tryd.underlying113 Tryd.underlying83 cellsU64 cellsPow h3, ⟨_, _, hv_Syn⟩, ⟨_, _, hv_Rng⟩⟩
theorem good_fnExactParseGame {W : World} (hL : laidMetH Tryd.prog Rows.fnExactParseGameRow.laid W) (hsh : W.ShapedOpen Tryd.prog) : Good W := by
  rw [Go.MakeChecks.laidMetH_plain _ _ _ (by kernel_rfl)] at hL
  have h3 : laidMet Tryd.prog (("internal/strconv.uint64pow10", Lib.tabData .u64 Lib.pow10Tab) :: _) W := hL.tail.tail
  obtain ⟨a_Rng, s_Rng, hv_Rng, -, -, -⟩ := laid_sentinel hL.tail.tail.tail.tail gRng gRngType Tryd.underlying65 rowPES Tryd.underlying109 Tryd.underlying111 rfl rfl Tryd.underlying9 cellsES cellsSt
  obtain ⟨a_Syn, s_Syn, hv_Syn, -, -, -⟩ := laid_sentinel hL.tail.tail.tail.tail.tail gSyn gSynType Tryd.underlying65 rowPES Tryd.underlying109 Tryd.underlying111 rfl rfl Tryd.underlying9 cellsES cellsSt
  exact ⟨Tryd.laysM146.s1_3 W hsh, Lib.tabIs_of_head gPow gPowType Tryd.underlying113 Tryd.underlying83 cellsU64 cellsPow h3, ⟨_, _, hv_Syn⟩, ⟨_, _, hv_Rng⟩⟩
end Go.Proofs.YtcjfofcgbpbdmaaDoor.PX

/- The row of FnExactParseGame, out of its plain law (no condition). -/
namespace Go.Proofs.YtcjfofcgbpbdmaaDoor.fnExactParseGame
open Go.ChangeShapes Go.WideShapes Go.ChangeAt Go.RowKit
open Go.ChangeMaps (open_string shut_string)
set_option linter.unusedVariables false
theorem own : ownKnob Tryd.prog.godebug = none := by kernel_rfl
theorem laid : laidOutB Tryd.prog = true := by kernel_rfl
theorem laid_met (os : Os) : laidMet Tryd.prog Rows.fnExactParseGameRow.laid ((World.laidAll Tryd.prog os Rows.fnExactParseGameRow.laid).forCall (fun _ _ => 0) ⟨#[], #[.string ⟨#[]⟩], []⟩).memory :=
  laidMet_laidAll #[.string ⟨#[]⟩] (by kernel_rfl) (by kernel_rfl)
theorem reads (os : Os) {H : Type} (enc : TypeId × Value → H) : ∃ places, DataW.whole enc Tryd.prog ((World.laidAll Tryd.prog os Rows.fnExactParseGameRow.laid).forCall (fun _ _ => 0) ⟨#[], #[.string ⟨#[]⟩], []⟩).memory Tryd.f3.params.toList Rows.fnExactParseGameSpec.vars false #[.string ⟨#[]⟩].toList 8 = some ([.lit (.string [])], [], places) :=
  ⟨[], by kernel_rfl⟩
set_option maxRecDepth 100000 in
theorem lifted (os : Os) (started : os.Started) (H : Type) (enc : TypeId × Value → H) (F : Stop.Interp) :
    ReturnsInHanded {} Tryd.checked os 3 .any ((OpenSpec.ofChange Rows.fnExactParseGameSpec).preRow enc Tryd.prog Tryd.f3 Rows.fnExactParseGameRow.domain false Rows.fnExactParseGameRow.laid) (((OpenSpec.ofChange Rows.fnExactParseGameSpec).at F).post enc Tryd.prog Tryd.f3 false true false false) := by
  obtain ⟨places, hx⟩ := reads os enc
  refine returnsInHanded_of_row (C := Tryd.checked) (s := OpenSpec.ofChange Rows.fnExactParseGameSpec) own started (by kernel_rfl) Tryd.func3
    (witness_row_at (enc := enc) (C := Tryd.checked) false (World.laidAll Tryd.prog os Rows.fnExactParseGameRow.laid) #[.string ⟨#[]⟩] (World.laidAll_os _ _ _) (by kernel_rfl) (by kernel_rfl) (by kernel_rfl)
      (OpenSpec.preRow_of_cond 8 hx (by kernel_rfl) (fun k hk => by cases hk) (by kernel_rfl) (laid_met os))) ?_
  intro W base args ds gs before hval0 hW hcnd hcond hsz0 hL hsh _
  have hsz : (DataW.weightsEach Tryd.prog (Tryd.f3.params.toList ++ Rows.fnExactParseGameSpec.plain.varTypes Tryd.prog) (ds ++ gs)).all (· ≤ reachBytes) = true := hsz0
  have hval : ∀ (j : Nat) t v, Tryd.f3.params[j]? = some t → args[j]? = some v → Value.okWide Tryd.prog W .any base t v := hval0
  have hW' := hW
  obtain ⟨p, q, hA0, hV, rfl, hfz, hnd⟩ := hW
  have hA : DataW.TrodAll enc Tryd.prog W 0 (fun _ => true) true Tryd.f3.params.toList args.toList ds p := hA0
  rw [Tryd.params3] at hA hval hsz
  obtain ⟨v0, vs0, d0, ds0, p0, q0, hargs, rfl, rfl, h0, r0⟩ := trodAll_cons hA
  obtain ⟨rfl, rfl, rfl⟩ := trodAll_nil r0
  obtain rfl : args = #[v0] := by cases args; simp_all
  obtain ⟨rfl, rfl⟩ := trodVars_none hV
  have hk0 := h0
  have hlt0 : ∀ x ∈ p0, x.block < W.heap.size := fun x hx => hW'.lt x (by simp [hx])
  obtain ⟨a0, rfl, rfl, rfl, w0⟩ := open_string Tryd.underlying9 (hval 0 9 v0 rfl rfl) h0
  have u0 : a0.size ≤ 140737488351232 := by have z := sized_string hsz (j := 0) (t := 9) rfl rfl; rw [Array.length_toList] at z; exact z
  clear hA0 hval0 hsz0 hsz
  refine (PX.laws_FnExactParseGame.done a0 W u0 (PX.good_fnExactParseGame hL hsh)).mono fun e W' ⟨he, bel0⟩ => ?_
  have bel : Below W.heap.size W W' := bel0
  subst he
  exact ⟨_, rfl, _, _, _, [], _, [], hW', trodAll_mk1 (shut_bool Tryd.underlying4 _), (trodAll_cons_mk (Below.trod laid (by kernel_rfl) (of_decide_eq_true (by kernel_rfl)) hk0 bel hlt0) trodAll_mk0), rfl, bel.frame _, fun h => by cases h⟩
theorem said : Rows.FnExactParseGameSaid :=
  OpenClaim.holds_of_cond 3 Tryd.f3 rfl rfl rfl rfl rfl rfl rfl ⟨rfl, rfl, rfl, rfl, rfl⟩ rfl rfl rfl rfl rfl (by kernel_rfl) Tryd.func3 (by kernel_rfl)
    (of_decide_eq_true (by kernel_rfl)) (by unfold Func.isWrapper; first | (rw [if_pos (by decide +kernel)]; kernel_rfl) | (rw [if_neg (by decide +kernel)]; exact ⟨rfl, rfl⟩))
    (fun os started H enc _ F => by rw [OpenClaim.pre_eq_preRow]; exact lifted os started H enc F)
theorem plain (f : FuncId) (fn : Func) (hf : Tryd.pinned.checked.prog.funcNamed "loop.example/g01388/laws.FnExactParseGame" = some f) (hfn : Tryd.pinned.checked.prog.funcs[f]? = some fn) :
    true = Tryd.pinned.checked.prog.looks [] ∧ ∀ (j : Nat) t, fn.params[j]? = some t → Tryd.pinned.checked.prog.wantsStandIn t = false := by
  obtain rfl : f = 3 := Option.some.inj ((show Tryd.prog.funcNamed "loop.example/g01388/laws.FnExactParseGame" = some 3 by kernel_rfl).symm.trans hf) |>.symm
  obtain rfl : fn = Tryd.f3 := (Option.some.inj (Tryd.func3.symm.trans hfn)).symm
  refine ⟨by kernel_rfl, fun j t ht => ?_⟩
  rw [Tryd.params3] at ht
  have hm : t ∈ [9] := by simpa using Array.mem_of_getElem? ht
  have hall : ([9].all fun u => !Tryd.prog.wantsStandIn u) = true := by kernel_rfl
  exact (show Tryd.prog.wantsStandIn t = false by simpa using List.all_eq_true.1 hall t hm)
theorem proved : Rows.FnExactParseGameCardSaid :=
  Claim7.holds_tied_plain_at .later [] _ _ _ _ said (fun _ h => by cases h) (by kernel_rfl) (fun _ h => by cases h) fnExactParseGame_row_tie rfl ⟨rfl, rfl⟩ (by kernel_rfl) rfl plain (by kernel_rfl)
#print axioms proved
end Go.Proofs.YtcjfofcgbpbdmaaDoor.fnExactParseGame
namespace Go.Proofs.YtcjfofcgbpbdmaaDoor
/-- The card, under a short name, for the claim. -/
theorem fnExactParseGame_holds : Rows.FnExactParseGameCardSaid := fnExactParseGame.proved
end Go.Proofs.YtcjfofcgbpbdmaaDoor
