/- The row of FnExactParseSprouts, out of its plain law (no condition). -/
import Derived.Lib.SplitLaws
import Derived.Test.YtfcafnnpejngiaaDoorRows
import Derived.WalkKit
import Derived.ProofKit
import Derived.OpenShut
import Derived.ShutString
import Derived.ChangeOld
import Derived.Below
import Derived.Carry
import Derived.SizedLaws
import Derived.Lib.SmallJoins
import Derived.Test.YtfcafnnpejngiaaDoorCards
import Derived.Test.YtfcafnnpejngiaaDoorTie
import Derived.Deep.DeepHandedRow
import Derived.SevenTiedAt
import Derived.Lay
import Derived.Test.YtfcafnnpejngiaaDoorPk5FnExactParseSprouts
/- Splitting at one byte: the library's split, its cut, and the reference's loop answer alike (condition: a text of at most 2 to the 20th bytes). -/
namespace Go.Proofs.YtfcafnnpejngiaaDoor.PX
open Go.RowKit Go.Proofs.YtfcafnnpejngiaaDoorW.PrintWords Go.Proofs.YtfcafnnpejngiaaDoorW.PrintLast Go.Proofs.YtfcafnnpejngiaaDoorW.PrintMore
attribute [local go_sem] max2_int min2_int max_two min_two max_three min_three max_four min_four
set_option linter.unusedVariables false
set_option linter.unusedSimpArgs false
def bsP (l : List UInt8) : ByteArray := ⟨l.toArray⟩
theorem bsP_data (l : List UInt8) : (bsP l).data.toList = l := by simp [bsP]
theorem bsP_of (s : ByteArray) : bsP s.data.toList = s := by obtain ⟨⟨l⟩⟩ := s; rfl
theorem bsP_ext {a b : ByteArray} (h : a.data.toList = b.data.toList) : a = b := by rw [← bsP_of a, ← bsP_of b, h]
theorem bsP_size (l : List UInt8) : (bsP l).size = l.length := by simp [bsP, ByteArray.size]
def consHead (p : List UInt8) : List (List UInt8) → List (List UInt8)
  | [] => [p]
  | h :: t => (p ++ h) :: t
def splitU (c : UInt8) : List UInt8 → List (List UInt8)
  | [] => [[]]
  | b :: l => if b = c then [] :: splitU c l else consHead [b] (splitU c l)
theorem consHead_two (p q : List UInt8) (l : List (List UInt8)) : consHead p (consHead q l) = consHead (p ++ q) l := by
  cases l <;> simp [consHead]
theorem splitU_ne (c : UInt8) : ∀ l, splitU c l ≠ []
  | [] => by simp [splitU]
  | b :: l => by
    unfold splitU
    split
    · simp
    · cases splitU c l <;> simp [consHead]
theorem consHead_nil (c : UInt8) (l : List UInt8) : consHead [] (splitU c l) = splitU c l := by
  cases h : splitU c l with
  | nil => exact absurd h (splitU_ne c l)
  | cons a t => rfl
theorem splitK_ne (b c : UInt8) (l : List UInt8) (h : b ≠ c) (k : Nat) : Lib.splitK [c] 0 k (b :: l) = consHead [b] (Lib.splitK [c] 0 k l) := by
  have hp : ([c] : List UInt8).isPrefixOf (b :: l) = false := by simp [List.isPrefixOf, Ne.symm h]
  have hix : Lib.index (b :: l) [c] = if Lib.index l [c] == -1 then -1 else Lib.index l [c] + 1 := by rw [Lib.index, hp]; simp
  cases k with
  | zero => rfl
  | succ k =>
    unfold Lib.splitK
    by_cases hm : Lib.index l [c] = -1
    · rw [hix, if_pos (beq_iff_eq.2 hm), if_pos (beq_iff_eq.2 rfl), if_pos (beq_iff_eq.2 hm)]
      rfl
    · have hge := Lib.index_ge l [c]
      obtain ⟨j, hj⟩ : ∃ j : Nat, Lib.index l [c] = j := ⟨(Lib.index l [c]).toNat, by omega⟩
      have hix' : Lib.index (b :: l) [c] = ((j + 1 : Nat) : Int) := by rw [hix, if_neg (fun e => hm (beq_iff_eq.1 e)), hj]; omega
      rw [hix', hj, if_neg (fun e => by have := beq_iff_eq.1 e; omega), if_neg (fun e => by have := beq_iff_eq.1 e; omega)]
      simp [consHead]
theorem splitK_all (c : UInt8) : ∀ l, Lib.splitK [c] 0 (Lib.count l [c]) l = splitU c l
  | [] => by
    have : Lib.count [] [c] = 0 := by rw [Lib.count_one]; rfl
    rw [this]
    rfl
  | b :: l => by
    by_cases h : b = c
    · subst h
      have hix : Lib.index (b :: l) [b] = ((0 : Nat) : Int) := by rw [Lib.index]; simp [List.isPrefixOf]
      rw [Lib.count_cons_eq, Nat.add_comm, Lib.splitK, hix, if_neg (by decide), splitU, if_pos rfl, ← splitK_all b l]
      rfl
    · rw [Lib.count_cons_ne b c l h, splitK_ne b c l h, splitK_all c l, splitU, if_neg h]
theorem cut_cons_ne (b c : UInt8) (l : List UInt8) (h : b ≠ c) : Lib.cut (b :: l) [c] = (b :: (Lib.cut l [c]).1, (Lib.cut l [c]).2.1, (Lib.cut l [c]).2.2) := by
  have hp : ([c] : List UInt8).isPrefixOf (b :: l) = false := by simp [List.isPrefixOf, Ne.symm h]
  have hix : Lib.index (b :: l) [c] = if Lib.index l [c] == -1 then -1 else Lib.index l [c] + 1 := by rw [Lib.index, hp]; simp
  unfold Lib.cut
  by_cases hm : Lib.index l [c] = -1
  · rw [hix, if_pos (beq_iff_eq.2 hm), hm]
    rfl
  · have hge := Lib.index_ge l [c]
    obtain ⟨j, hj⟩ : ∃ j : Nat, Lib.index l [c] = j := ⟨(Lib.index l [c]).toNat, by omega⟩
    have hix' : Lib.index (b :: l) [c] = ((j + 1 : Nat) : Int) := by rw [hix, if_neg (fun e => hm (beq_iff_eq.1 e)), hj]; omega
    rw [hix', hj, if_pos (by omega), if_pos (by omega)]
    simp
theorem cut_miss (c : UInt8) : ∀ l, c ∉ l → Lib.cut l [c] = (l, [], false) ∧ splitU c l = [l]
  | [], _ => ⟨rfl, rfl⟩
  | b :: l, h => by
    have hb : b ≠ c := fun e => h (by simp [e])
    have ih := cut_miss c l (fun e => h (by simp [e]))
    rw [cut_cons_ne b c l hb, ih.1, splitU, if_neg hb, ih.2]
    exact ⟨rfl, rfl⟩
theorem cut_hit (c : UInt8) : ∀ l, c ∈ l → ∃ a b, Lib.cut l [c] = (a, b, true) ∧ splitU c l = a :: splitU c b ∧ a.length + 1 + b.length = l.length
  | [], h => by simp at h
  | b :: l, h => by
    by_cases hb : b = c
    · subst hb
      have hix : Lib.index (b :: l) [b] = ((0 : Nat) : Int) := by rw [Lib.index]; simp [List.isPrefixOf]
      refine ⟨[], l, ?_, ?_, by simp; omega⟩
      · unfold Lib.cut
        rw [hix]
        simp
      · rw [splitU, if_pos rfl]
    · have hm : c ∈ l := by
        rcases List.mem_cons.1 h with e | e
        · exact absurd e.symm hb
        · exact e
      obtain ⟨a, d, h1, h2, h3⟩ := cut_hit c l hm
      refine ⟨b :: a, d, by rw [cut_cons_ne b c l hb, h1], by rw [splitU, if_neg hb, h2]; rfl, by simp; omega⟩
theorem splitU_one (c : UInt8) : ∀ l, (splitU c l).length = l.count c + 1
  | [] => rfl
  | b :: l => by
    unfold splitU
    split
    · rename_i e
      subst e
      simp [splitU_one b l]
    · rename_i e
      have h1 : (consHead [b] (splitU c l)).length = (splitU c l).length := by
        cases h : splitU c l with
        | nil => exact absurd h (splitU_ne c l)
        | cons a t => rfl
      rw [h1, splitU_one c l, List.count_cons_of_ne (by simpa using e)]
theorem splitU_len (c : UInt8) (l : List UInt8) : (splitU c l).length ≤ l.length + 1 := by
  rw [splitU_one]
  have := List.count_le_length (a := c) (l := l)
  omega
theorem split_word_len (c : UInt8) : ∀ l w, w ∈ splitU c l → w.length ≤ l.length
  | [], w, h => by simp [splitU] at h; simp [h]
  | b :: l, w, h => by
    unfold splitU at h
    split at h
    · rcases List.mem_cons.1 h with e | e
      · simp [e]
      · have := split_word_len c l w e
        simp; omega
    · cases hs : splitU c l with
      | nil => exact absurd hs (splitU_ne c l)
      | cons a t =>
        rw [hs] at h
        rcases List.mem_cons.1 h with e | e
        · have := split_word_len c l a (by rw [hs]; simp)
          simp [e]; omega
        · have := split_word_len c l w (by rw [hs]; simp [e])
          simp; omega
theorem strings_Split_val (s : ByteArray) (c : UInt8) (h : s.size ≤ 1048576) : strings_Split.f s ⟨#[c]⟩ = some ((splitU c s.data.toList).map bsP) := by
  unfold strings_Split.f
  rw [if_pos ⟨by omega, Nat.le_refl 1⟩]
  congr 1
  have hd := Lib.splitB_data (⟨#[c]⟩ : ByteArray) 0 (Lib.countB s ⟨#[c]⟩) s
  have hc : Lib.countB s ⟨#[c]⟩ = Lib.count s.data.toList [c] := rfl
  rw [hc] at hd ⊢
  have he : ((⟨#[c]⟩ : ByteArray)).data.toList = [c] := rfl
  rw [he, splitK_all c] at hd
  rw [← hd, List.map_map]
  have : (bsP ∘ fun x : ByteArray => x.data.toList) = id := by funext x; exact bsP_of x
  rw [this, List.map_id]
theorem Ev_cast {α : Type} {g : Nat → Option α} {a b : α} (h : Ev g a) (e : a = b) : Ev g b := e ▸ h
theorem bt_list (s : ByteArray) (i : Nat) (b : UInt8) (l : List UInt8) (h : s.data.toList.drop i = b :: l) : bt s (i : Int) = (b.toNat : Int) ∧ i < s.size ∧ s.data.toList.drop (i + 1) = l := by
  have hl : i < s.data.toList.length := by
    by_cases hh : i < s.data.toList.length
    · exact hh
    · rw [List.drop_of_length_le (by omega)] at h; cases h
  have hsz : i < s.size := by rw [Lib.size_eq]; exact hl
  rw [List.drop_eq_getElem_cons hl] at h
  obtain ⟨e1, e2⟩ := List.cons.inj h
  refine ⟨?_, hsz, e2⟩
  unfold bt
  rw [dif_pos (by simpa using hsz)]
  congr 1
  rw [← e1]
  rfl
theorem splitS_loop (s : ByteArray) (c : UInt8) (hs : s.size ≤ 1048576) : ∀ (d : Nat) (i at_ : Nat) (acc : List ByteArray), i + d = s.size → at_ ≤ i → acc.length ≤ i →
    Ev (fun k => spec_l01Split.l0 k s (c.toNat : Int) acc (at_ : Int) (i : Int)) (acc ++ (consHead ((s.data.toList.drop at_).take (i - at_)) (splitU c (s.data.toList.drop i))).map bsP)
  | 0, i, at_, acc, hd, ha, hl => by
    have hsz := Lib.size_eq s
    refine Ev.step (f := fun _ => some (acc ++ [s.extract at_ s.size])) (fun k => ?_) ?_
    · rw [spec_l01Split.l0, if_neg (by omega), if_pos (by omega), if_pos (by omega), if_pos (by omega)]
      rfl
    · have e1 : s.data.toList.drop i = [] := List.drop_of_length_le (by omega)
      have e2 : s.extract at_ s.size = bsP ((s.data.toList.drop at_).take (i - at_)) := by
        refine bsP_ext ?_
        rw [Lib.extract_to_end, bsP_data, List.take_of_length_le (by rw [List.length_drop]; omega)]
      rw [e1, e2]
      refine Ev_cast (Ev.now _) ?_
      simp [splitU, consHead]
  | d + 1, i, at_, acc, hd, ha, hl => by
    have hsz := Lib.size_eq s
    have hi : i < s.data.toList.length := by omega
    obtain ⟨b, l, hb⟩ : ∃ b l, s.data.toList.drop i = b :: l := ⟨_, _, List.drop_eq_getElem_cons hi⟩
    obtain ⟨h1, h2, h3⟩ := bt_list s i b l hb
    have hw : wrap64 ((i : Int) + 1) = ((i + 1 : Nat) : Int) := by rw [wrapS (by omega) (by omega)]; rfl
    by_cases e : b = c
    · subst e
      have ih := splitS_loop s b hs d (i + 1) (i + 1) (acc ++ [s.extract at_ i]) (by omega) (Nat.le_refl _) (by simp; omega)
      refine Ev.step (fun k => ?_) (Ev_cast ih ?_)
      · rw [spec_l01Split.l0, if_pos (by omega), if_pos (by omega), h1, if_pos rfl, if_pos (by omega), if_pos (by omega), if_pos (by omega), if_pos (by omega), hw]
        rfl
      · have e2 : s.extract at_ i = bsP ((s.data.toList.drop at_).take (i - at_)) := by
          refine bsP_ext ?_
          rw [Lib.extract_data, bsP_data]
        rw [e2, hb, h3, splitU, if_pos rfl, Nat.sub_self, List.take_zero, consHead_nil]
        simp [consHead]
    · have ih := splitS_loop s c hs d (i + 1) at_ acc (by omega) (by omega) (by omega)
      refine Ev.step (fun k => ?_) (Ev_cast ih ?_)
      · rw [spec_l01Split.l0, if_pos (by omega), if_pos (by omega), h1, if_neg (fun x => e (UInt8.toNat_inj.1 (by omega))), hw]
      · have e3 : (s.data.toList.drop at_).take (i + 1 - at_) = (s.data.toList.drop at_).take (i - at_) ++ [b] := by
          rw [show i + 1 - at_ = (i - at_) + 1 by omega, List.take_add_one, List.getElem?_drop, show at_ + (i - at_) = i by omega]
          have : s.data.toList[i]? = some b := by
            have := congrArg List.head? hb
            rw [List.head?_drop] at this
            exact this
          rw [this]
          rfl
        rw [e3, hb, h3, splitU, if_neg e, consHead_two]
theorem splitS_ev (s : ByteArray) (c : UInt8) (hs : s.size ≤ 1048576) : Ev (fun k => spec_l01Split.f k s (c.toNat : Int)) ((splitU c s.data.toList).map bsP) := by
  have h := splitS_loop s c hs s.size 0 0 [] (by omega) (Nat.le_refl _) (Nat.le_refl _)
  simp only [List.drop_zero, Nat.sub_self, List.take_zero, consHead_nil, List.nil_append] at h
  exact h

end Go.Proofs.YtfcafnnpejngiaaDoor.PX

/- ParseSprouts: the program and the reference answer alike (condition: a text of at most 2 to the 20th bytes). -/
namespace Go.Proofs.YtfcafnnpejngiaaDoor.PX
open Go.RowKit Go.Proofs.YtfcafnnpejngiaaDoorW.PrintWords Go.Proofs.YtfcafnnpejngiaaDoorW.PrintLast Go.Proofs.YtfcafnnpejngiaaDoorW.PrintMore
attribute [local go_sem] max2_int min2_int max_two min_two max_three min_three max_four min_four
set_option linter.unusedVariables false
set_option linter.unusedSimpArgs false
theorem rd_wordS (ws : List (List UInt8)) (i : Nat) (w : List UInt8) (t : List (List UInt8)) (h : ws.drop i = w :: t) : rdOf ByteArray.empty (ws.map bsP) (i : Int) = bsP w ∧ i < ws.length ∧ ws.drop (i + 1) = t := by
  have hl : i < ws.length := by
    by_cases hh : i < ws.length
    · exact hh
    · rw [List.drop_of_length_le (by omega)] at h; cases h
  rw [List.drop_eq_getElem_cons hl] at h
  obtain ⟨e1, e2⟩ := List.cons.inj h
  refine ⟨?_, hl, e2⟩
  unfold rdOf
  rw [Int.toNat_natCast, List.getD_eq_getElem?_getD, List.getElem?_map, List.getElem?_eq_getElem hl, ← e1]
  rfl
def chr (b : UInt8) : Int := (b.toNat : Int) - 97
def okc (b : UInt8) : Prop := 0 ≤ chr b ∧ chr b ≤ 19
def bnd (w : List UInt8) : List Int := w.map chr
def reg (p : List UInt8) : List (List Int) := if p = [] then [] else (splitU 44 p).map bnd
def upW (z : Int) (w : List UInt8) : Int := w.foldl (fun z b => mx z (chr b + 1)) z
def upP (z : Int) (p : List UInt8) : Int := (splitU 44 p).foldl upW z
theorem chr_w (b : UInt8) : wrap64 ((wrap64 (b.toNat : Int)) - 97) = chr b ∧ wrap64 (chr b + 1) = chr b + 1 := by
  have := b.toNat_lt
  unfold chr
  exact ⟨by rw [wrapS (i := (b.toNat : Int)) (by omega) (by omega), wrapS (by omega) (by omega)], by rw [wrapS (by omega) (by omega)]⟩
abbrev Res := Int × List (List (List Int)) × Int
-- the program
theorem implW (x6 : ByteArray) (x7 : List (List Int)) (h7 : x7.length < 5864062014805) (x15 : List ByteArray) (x16 x17 : Int) (x23 : List ByteArray) (x24 x25 : Int) (rows : List (List (List Int))) (r : Res) (w : List UInt8) (hw : w.length ≤ 1048576) :
    ∀ (d i : Nat) (acc : List Int) (z : Int), i + d = w.length → acc.length ≤ i → Ev (fun k => impl_ParseSprouts.l1 k x6 (x7 ++ [acc ++ bnd (w.drop i)]) x15 x16 x17 x23 x24 (wrap64 (x25 + 1)) (upW z (w.drop i)) rows) r →
      Ev (fun k => impl_ParseSprouts.l2 k x6 x7 (bsP w) acc x15 x16 x17 x23 x24 x25 (w.length : Int) (i : Int) z rows) r
  | 0, i, acc, z, hd, ha, h => by
    rw [List.drop_of_length_le (by omega)] at h
    have e : acc ++ bnd [] = acc := List.append_nil _
    have ez : upW z [] = z := rfl
    rw [e, ez] at h
    exact Ev.step (fun k => by rw [impl_ParseSprouts.l2, if_neg (by omega), if_pos h7]) h
  | d + 1, i, acc, z, hd, ha, h => by
    have q1 : i + 1 + d = w.length := by omega
    have q2 : (i : Int) < (w.length : Int) := by omega
    have q3 : (0 : Int) ≤ (i : Int) := Int.natCast_nonneg i
    have q4 : (i : Int) < (((bsP w).size : Nat) : Int) := by rw [bsP_size]; exact q2
    have q5 : acc.length < 17592186044416 := by omega
    have hx : wrap64 ((i : Int) + 1) = ((i + 1 : Nat) : Int) := by rw [wrapS (by omega) (by omega)]; rfl
    obtain ⟨b, t, hb⟩ : ∃ b t, w.drop i = b :: t := ⟨_, _, List.drop_eq_getElem_cons (by omega)⟩
    have hb2 : (bsP w).data.toList.drop i = b :: t := by rw [bsP_data]; exact hb
    obtain ⟨h1, h2, h3⟩ := bt_list (bsP w) i b t hb2
    rw [bsP_data] at h3
    obtain ⟨e1, e2⟩ := chr_w b
    have h' : Ev (fun k => impl_ParseSprouts.l1 k x6 (x7 ++ [(acc ++ [chr b]) ++ bnd (w.drop (i + 1))]) x15 x16 x17 x23 x24 (wrap64 (x25 + 1)) (upW (mx z (chr b + 1)) (w.drop (i + 1))) rows) r := by
      rw [hb] at h
      rw [h3, List.append_assoc]
      exact h
    have ih := implW x6 x7 h7 x15 x16 x17 x23 x24 x25 rows r w hw d (i + 1) (acc ++ [chr b]) (mx z (chr b + 1)) q1 (by rw [List.length_append]; exact Nat.add_le_add_right ha 1) h'
    exact Ev.step (fun k => by rw [impl_ParseSprouts.l2, if_pos q2, if_pos q3, if_pos q4, if_pos q5, h1, e1, e2, hx]) ih
theorem implP (p : List UInt8) (x15 : List ByteArray) (x16 x17 : Int) (rows : List (List (List Int))) (hr : rows.length < 5864062014805) (r : Res) (ws : List (List UInt8)) (hn : ws.length ≤ 1048577) (hw : ∀ w ∈ ws, w.length ≤ 1048576) :
    ∀ (d i : Nat) (x7 : List (List Int)) (z : Int), i + d = ws.length → x7.length ≤ i → Ev (fun k => impl_ParseSprouts.l0 k x15 x16 (wrap64 (x17 + 1)) ((ws.drop i).foldl upW z) (rows ++ [if p = [] then [] else x7 ++ (ws.drop i).map bnd])) r →
      Ev (fun k => impl_ParseSprouts.l1 k (bsP p) x7 x15 x16 x17 (ws.map bsP) (ws.length : Int) (i : Int) z rows) r
  | 0, i, x7, z, hd, ha, h => by
    have hnil : (bsP p).toList = ([] : List UInt8) ↔ p = [] := by rw [ByteArray.toList_eq, bsP_data]
    rw [List.drop_of_length_le (by omega)] at h
    have e : x7 ++ ([] : List (List UInt8)).map bnd = x7 := List.append_nil _
    have ez : ([] : List (List UInt8)).foldl upW z = z := rfl
    rw [e, ez] at h
    by_cases hp : p = []
    · rw [if_pos hp] at h
      exact Ev.step (fun k => by rw [impl_ParseSprouts.l1, if_neg (by omega), if_pos (hnil.2 hp), if_pos hr]) h
    · rw [if_neg hp] at h
      exact Ev.step (fun k => by rw [impl_ParseSprouts.l1, if_neg (by omega), if_neg (fun x => hp (hnil.1 x)), if_pos hr]) h
  | d + 1, i, x7, z, hd, ha, h => by
    obtain ⟨w, t, hw0⟩ : ∃ w t, ws.drop i = w :: t := ⟨_, _, List.drop_eq_getElem_cons (by omega)⟩
    obtain ⟨h1, h2, h3⟩ := rd_wordS ws i w t hw0
    have hm : w ∈ ws := List.mem_of_mem_drop (i := i) (by rw [hw0]; simp)
    have hx : wrap64 ((i : Int) + 1) = ((i + 1 : Nat) : Int) := by rw [wrapS (by omega) (by omega)]; rfl
    have h' : Ev (fun k => impl_ParseSprouts.l0 k x15 x16 (wrap64 (x17 + 1)) ((ws.drop (i + 1)).foldl upW (upW z w)) (rows ++ [if p = [] then [] else (x7 ++ [bnd w]) ++ (ws.drop (i + 1)).map bnd])) r := by
      rw [hw0] at h
      rw [h3, List.append_assoc]
      exact h
    have ih := implP p x15 x16 x17 rows hr r ws hn hw d (i + 1) (x7 ++ [bnd w]) (upW z w) (by omega) (by simp; omega) h'
    have hW := implW (bsP p) x7 (by omega) x15 x16 x17 (ws.map bsP) (ws.length : Int) (i : Int) rows r w (hw w hm) w.length 0 [] z (by omega) (Nat.le_refl _) (by rw [hx, List.drop_zero, List.nil_append]; exact ih)
    refine Ev.step (fun k => ?_) hW
    rw [impl_ParseSprouts.l1, if_pos (by omega), if_pos (by omega), if_pos (by rw [List.length_map]; omega), h1, bsP_size]
    rfl
theorem implR (r : Res) (ps : List (List UInt8)) (hn : ps.length ≤ 1048577) (hp : ∀ p ∈ ps, p.length ≤ 1048576) : ∀ (d i : Nat) (z : Int) (rows : List (List (List Int))), i + d = ps.length → rows.length ≤ i →
    Ev (fun k => (impl_IsSprouts.f k ((ps.drop i).foldl upP z) (rows ++ (ps.drop i).map reg)).bind fun t => if t = true then some ((ps.drop i).foldl upP z, rows ++ (ps.drop i).map reg, 0) else some (0, ([] : List (List (List Int))), 6)) r →
      Ev (fun k => impl_ParseSprouts.l0 k (ps.map bsP) (ps.length : Int) (i : Int) z rows) r
  | 0, i, z, rows, hd, ha, h => by
    rw [List.drop_of_length_le (by omega)] at h
    have e : rows ++ ([] : List (List UInt8)).map reg = rows := List.append_nil _
    have ez : ([] : List (List UInt8)).foldl upP z = z := rfl
    rw [e, ez] at h
    exact Ev.step (fun k => by rw [impl_ParseSprouts.l0, if_neg (by omega)]) h
  | d + 1, i, z, rows, hd, ha, h => by
    obtain ⟨p, t, hp0⟩ : ∃ p t, ps.drop i = p :: t := ⟨_, _, List.drop_eq_getElem_cons (by omega)⟩
    obtain ⟨h1, h2, h3⟩ := rd_wordS ps i p t hp0
    have hm : p ∈ ps := List.mem_of_mem_drop (i := i) (by rw [hp0]; simp)
    have hpl := hp p hm
    have hx : wrap64 ((i : Int) + 1) = ((i + 1 : Nat) : Int) := by rw [wrapS (by omega) (by omega)]; rfl
    have h' : Ev (fun k => (impl_IsSprouts.f k ((ps.drop (i + 1)).foldl upP (upP z p)) ((rows ++ [reg p]) ++ (ps.drop (i + 1)).map reg)).bind fun t => if t = true then some ((ps.drop (i + 1)).foldl upP (upP z p), (rows ++ [reg p]) ++ (ps.drop (i + 1)).map reg, 0) else some (0, ([] : List (List (List Int))), 6)) r := by
      rw [hp0] at h
      rw [h3, List.append_assoc]
      exact h
    have ih := implR r ps hn hp d (i + 1) (upP z p) (rows ++ [reg p]) (by omega) (by simp; omega) h'
    have hs := strings_Split_val (bsP p) 44 (by rw [bsP_size]; omega)
    rw [bsP_data] at hs
    have hl := splitU_len 44 p
    have hP := implP p (ps.map bsP) (ps.length : Int) (i : Int) rows (by omega) r (splitU 44 p) (by omega) (fun w hw => Nat.le_trans (split_word_len 44 p w hw) hpl) (splitU 44 p).length 0 [] z (by omega) (Nat.le_refl _) (by
      rw [hx, List.drop_zero, List.nil_append]
      exact ih)
    refine Ev.step (fun k => ?_) hP
    rw [impl_ParseSprouts.l0, if_pos (by omega), if_pos (by omega), if_pos (by rw [List.length_map]; omega), h1, hs, Option.bind_some, List.length_map]
    rfl
-- the reference
theorem in_19 (b : UInt8) : spec_l01In.f (chr b) 0 19 = some (decide (0 ≤ chr b) && decide (chr b ≤ 19)) := in_eq _ _ _
theorem specW (x5 : List ByteArray) (x6 : Int) (x7 : List (List Int)) (h7 : x7.length < 5864062014805) (x8 : List ByteArray) (x9 : Int) (hx0 : 0 ≤ x9) (hx1 : x9 < (x8.length : Int)) (rows : List (List (List Int))) (r : Res) (w : List UInt8) (hw : w.length ≤ 1048576) (hr : rdOf ByteArray.empty x8 x9 = bsP w) :
    ∀ (d i : Nat) (acc : List Int) (z : Int), i + d = w.length → acc.length ≤ i → ((∀ b ∈ w.drop i, okc b) → Ev (fun k => spec_ParseSprouts.l1 k x5 x6 (x7 ++ [acc ++ bnd (w.drop i)]) x8 (wrap64 (x9 + 1)) (upW z (w.drop i)) rows) r) → ((∃ b ∈ w.drop i, ¬ okc b) → r = (0, [], 6)) →
      Ev (fun k => spec_ParseSprouts.l2 k x5 x6 x7 x8 x9 acc (i : Int) z rows) r
  | 0, i, acc, z, hd, ha, h, hbad => by
    have hsz := bsP_size w
    rw [List.drop_of_length_le (by omega)] at h
    have h := h (fun b hb => by cases hb)
    have e : acc ++ bnd [] = acc := List.append_nil _
    have ez : upW z [] = z := rfl
    rw [e, ez] at h
    exact Ev.step (fun k => by rw [spec_ParseSprouts.l2, if_pos hx0, if_pos hx1, hr, if_neg (by omega), if_pos h7]) h
  | d + 1, i, acc, z, hd, ha, h, hbad => by
    have q1 : i + 1 + d = w.length := by omega
    have c1 : (i : Int) < (((bsP w).size : Nat) : Int) := by rw [bsP_size]; omega
    have q3 : (0 : Int) ≤ (i : Int) := Int.natCast_nonneg i
    have q5 : acc.length < 17592186044416 := by omega
    have hx : wrap64 ((i : Int) + 1) = ((i + 1 : Nat) : Int) := by rw [wrapS (by omega) (by omega)]; rfl
    obtain ⟨b, t, hb⟩ : ∃ b t, w.drop i = b :: t := ⟨_, _, List.drop_eq_getElem_cons (by omega)⟩
    have hb2 : (bsP w).data.toList.drop i = b :: t := by rw [bsP_data]; exact hb
    obtain ⟨h1, h2, h3⟩ := bt_list (bsP w) i b t hb2
    rw [bsP_data] at h3
    obtain ⟨e1, e2⟩ := chr_w b
    by_cases hc : okc b
    · have ih := specW x5 x6 x7 h7 x8 x9 hx0 hx1 rows r w hw hr d (i + 1) (acc ++ [chr b]) (mx z (chr b + 1)) q1 (by rw [List.length_append]; exact Nat.add_le_add_right ha 1) (fun hall => by
        have h := h (fun y hy => by
          rw [hb] at hy
          rcases List.mem_cons.1 hy with e | e
          · rw [e]; exact hc
          · exact hall y (by rw [h3]; exact e))
        rw [hb] at h
        rw [h3, List.append_assoc]
        exact h) (fun ⟨y, hy, hny⟩ => hbad ⟨y, by rw [hb]; rw [h3] at hy; exact List.mem_cons_of_mem _ hy, hny⟩)
      refine Ev.step (fun k => ?_) ih
      rw [spec_ParseSprouts.l2, if_pos hx0, if_pos hx1, hr, if_pos c1, if_pos q3, h1, e1, in_19, Option.bind_some, if_pos (by rw [decide_eq_true hc.1, decide_eq_true hc.2]; rfl), if_pos q5, e2, hx]
    · rw [hbad ⟨b, by rw [hb]; simp, hc⟩]
      refine Ev.step (f := fun _ => some (0, [], 6)) (fun k => ?_) (Ev.now _)
      rw [spec_ParseSprouts.l2, if_pos hx0, if_pos hx1, hr, if_pos c1, if_pos q3, h1, e1, in_19, Option.bind_some, if_neg (fun e => hc (by
        simp only [Bool.and_eq_true, decide_eq_true_eq] at e
        exact e))]
theorem specP (x5 : List ByteArray) (x6 : Int) (rows : List (List (List Int))) (hr : rows.length < 5864062014805) (r : Res) (ws : List (List UInt8)) (hn : ws.length ≤ 1048577) (hw : ∀ w ∈ ws, w.length ≤ 1048576) :
    ∀ (d i : Nat) (x7 : List (List Int)) (z : Int), i + d = ws.length → x7.length ≤ i → ((∀ w ∈ ws.drop i, ∀ b ∈ w, okc b) → Ev (fun k => spec_ParseSprouts.l0 k x5 (wrap64 (x6 + 1)) ((ws.drop i).foldl upW z) (rows ++ [x7 ++ (ws.drop i).map bnd])) r) → ((∃ w ∈ ws.drop i, ∃ b ∈ w, ¬ okc b) → r = (0, [], 6)) →
      Ev (fun k => spec_ParseSprouts.l1 k x5 x6 x7 (ws.map bsP) (i : Int) z rows) r
  | 0, i, x7, z, hd, ha, h, hbad => by
    rw [List.drop_of_length_le (by omega)] at h
    have h := h (fun b hb => by cases hb)
    have e : x7 ++ ([] : List (List UInt8)).map bnd = x7 := List.append_nil _
    have ez : ([] : List (List UInt8)).foldl upW z = z := rfl
    rw [e, ez] at h
    exact Ev.step (fun k => by rw [spec_ParseSprouts.l1, if_neg (by rw [List.length_map]; omega), if_pos hr]) h
  | d + 1, i, x7, z, hd, ha, h, hbad => by
    obtain ⟨w, t, hw0⟩ : ∃ w t, ws.drop i = w :: t := ⟨_, _, List.drop_eq_getElem_cons (by omega)⟩
    obtain ⟨h1, h2, h3⟩ := rd_wordS ws i w t hw0
    have hm : w ∈ ws := List.mem_of_mem_drop (i := i) (by rw [hw0]; simp)
    have hx : wrap64 ((i : Int) + 1) = ((i + 1 : Nat) : Int) := by rw [wrapS (by omega) (by omega)]; rfl
    have hlen : (i : Int) < ((ws.map bsP).length : Int) := by rw [List.length_map]; omega
    have hW := specW x5 x6 x7 (by omega) (ws.map bsP) (i : Int) (Int.natCast_nonneg i) hlen rows r w (hw w hm) h1 w.length 0 [] z (by omega) (Nat.le_refl _) (fun hall => by
      rw [hx, List.drop_zero, List.nil_append]
      refine specP x5 x6 rows hr r ws hn hw d (i + 1) (x7 ++ [bnd w]) (upW z w) (by omega) (by simp; omega) (fun hall2 => ?_) (fun ⟨v, hv, hb⟩ => hbad ⟨v, by rw [hw0]; rw [h3] at hv; exact List.mem_cons_of_mem _ hv, hb⟩)
      have h := h (fun v hv => by
        rw [hw0] at hv
        rcases List.mem_cons.1 hv with e | e
        · rw [e]; rw [List.drop_zero] at hall; exact hall
        · exact hall2 v (by rw [h3]; exact e))
      rw [hw0] at h
      rw [h3, List.append_assoc]
      exact h) (fun ⟨b, hb, hnb⟩ => hbad ⟨w, by rw [hw0]; simp, b, by rw [List.drop_zero] at hb; exact hb, hnb⟩)
    refine Ev.step (fun k => ?_) hW
    rw [spec_ParseSprouts.l1, if_pos hlen]
    rfl
def okP (p : List UInt8) : Prop := p ≠ [] → ∀ w ∈ splitU 44 p, ∀ b ∈ w, okc b
theorem specR (r : Res) (ps : List (List UInt8)) (hn : ps.length ≤ 1048577) (hp : ∀ p ∈ ps, p.length ≤ 1048576) : ∀ (d i : Nat) (z : Int) (rows : List (List (List Int))), i + d = ps.length → rows.length ≤ i →
    ((∀ p ∈ ps.drop i, okP p) → Ev (fun k => (spec_l02Is.f k ((ps.drop i).foldl upP z) (rows ++ (ps.drop i).map reg)).bind fun t => if t = true then some ((ps.drop i).foldl upP z, rows ++ (ps.drop i).map reg, 0) else some (0, ([] : List (List (List Int))), 6)) r) → ((∃ p ∈ ps.drop i, ¬ okP p) → r = (0, [], 6)) →
      Ev (fun k => spec_ParseSprouts.l0 k (ps.map bsP) (i : Int) z rows) r
  | 0, i, z, rows, hd, ha, h, hbad => by
    rw [List.drop_of_length_le (by omega)] at h
    have h := h (fun b hb => by cases hb)
    have e : rows ++ ([] : List (List UInt8)).map reg = rows := List.append_nil _
    have ez : ([] : List (List UInt8)).foldl upP z = z := rfl
    rw [e, ez] at h
    exact Ev.step (fun k => by rw [spec_ParseSprouts.l0, if_neg (by rw [List.length_map]; omega)]) h
  | d + 1, i, z, rows, hd, ha, h, hbad => by
    obtain ⟨p, t, hp0⟩ : ∃ p t, ps.drop i = p :: t := ⟨_, _, List.drop_eq_getElem_cons (by omega)⟩
    obtain ⟨h1, h2, h3⟩ := rd_wordS ps i p t hp0
    have hm : p ∈ ps := List.mem_of_mem_drop (i := i) (by rw [hp0]; simp)
    have hpl := hp p hm
    have hnil : (bsP p).toList = ([] : List UInt8) ↔ p = [] := by rw [ByteArray.toList_eq, bsP_data]
    have hx : wrap64 ((i : Int) + 1) = ((i + 1 : Nat) : Int) := by rw [wrapS (by omega) (by omega)]; rfl
    have hlen : (i : Int) < ((ps.map bsP).length : Int) := by rw [List.length_map]; omega
    have next : okP p → Ev (fun k => spec_ParseSprouts.l0 k (ps.map bsP) ((i + 1 : Nat) : Int) (upP z p) (rows ++ [reg p])) r := fun hok => by
      refine specR r ps hn hp d (i + 1) (upP z p) (rows ++ [reg p]) (by omega) (by simp; omega) (fun hall => ?_) (fun ⟨v, hv, hb⟩ => hbad ⟨v, by rw [hp0]; rw [h3] at hv; exact List.mem_cons_of_mem _ hv, hb⟩)
      have h := h (fun v hv => by
        rw [hp0] at hv
        rcases List.mem_cons.1 hv with e | e
        · rw [e]; exact hok
        · exact hall v (by rw [h3]; exact e))
      rw [hp0] at h
      rw [h3, List.append_assoc]
      exact h
    by_cases he : p = []
    · have hz : upP z p = z := by rw [he]; rfl
      have hg : reg p = [] := by unfold reg; rw [if_pos he]
      have hN := next (fun q => absurd he q)
      rw [hz, hg] at hN
      refine Ev.step (fun k => ?_) hN
      rw [spec_ParseSprouts.l0, if_pos hlen, Option.bind_some, if_pos (by omega), h1, if_pos (hnil.2 he), if_pos (by omega), hx]
    · have hs := splitS_ev (bsP p) 44 (by rw [bsP_size]; omega)
      rw [bsP_data] at hs
      have hl := splitU_len 44 p
      refine Ev.step (f := fun k => (spec_l01Split.f k (bsP p) 44).bind fun t159 => spec_ParseSprouts.l1 k (ps.map bsP) (i : Int) [] t159 0 z rows) (fun k => by rw [spec_ParseSprouts.l0, if_pos hlen, Option.bind_some, if_pos (by omega), h1, if_neg (fun x => he (hnil.1 x))]) (Ev.bind hs ?_)
      have hP := specP (ps.map bsP) (i : Int) rows (by omega) r (splitU 44 p) (by omega) (fun w hw => Nat.le_trans (split_word_len 44 p w hw) hpl) (splitU 44 p).length 0 [] z (by omega) (Nat.le_refl _) (fun hall => by
        rw [hx, List.drop_zero, List.nil_append]
        rw [List.drop_zero] at hall
        have hN := next (fun _ => hall)
        have hg : reg p = (splitU 44 p).map bnd := by unfold reg; rw [if_neg he]
        rw [hg] at hN
        exact hN) (fun ⟨w, hw, b, hb, hnb⟩ => hbad ⟨p, by rw [hp0]; simp, fun hok => hnb (hok he w (by rw [List.drop_zero] at hw; exact hw) b hb)⟩)
      exact hP
-- sizes
theorem split_sum (c : UInt8) : ∀ l : List UInt8, ((splitU c l).map (fun p => p.length + 1)).sum = l.length + 1
  | [] => rfl
  | b :: l => by
    have ih := split_sum c l
    unfold splitU
    split
    · rw [List.map_cons, List.sum_cons, ih]; simp; omega
    · cases h : splitU c l with
      | nil => exact absurd h (splitU_ne c l)
      | cons a t =>
        rw [h, List.map_cons, List.sum_cons] at ih
        show ((([b] ++ a) :: t).map (fun p => p.length + 1)).sum = _
        rw [List.map_cons, List.sum_cons, List.length_append]
        simp only [List.length_cons, List.length_nil] at ih ⊢
        omega
theorem total_bnd : ∀ ws : List (List UInt8), total (ws.map bnd) + (ws.length : Int) = ((ws.map (fun p => p.length + 1)).sum : Nat)
  | [] => rfl
  | w :: t => by
    have ih := total_bnd t
    simp only [List.map_cons, total, List.sum_cons, List.length_cons, bnd, List.length_map] at ih ⊢
    omega
theorem reg_len (p : List UInt8) : (reg p).length ≤ p.length + 1 := by
  unfold reg
  split
  · simp
  · rw [List.length_map]; exact splitU_len 44 p
theorem reg_total (p : List UInt8) : total (reg p) ≤ (p.length : Int) + 1 := by
  unfold reg
  split
  · simp [total]; omega
  · have h1 := total_bnd (splitU 44 p)
    rw [split_sum] at h1
    omega
theorem flat_len : ∀ ps : List (List UInt8), ((ps.map reg).flatten).length ≤ (ps.map (fun p => p.length + 1)).sum
  | [] => Nat.le_refl _
  | p :: t => by
    have ih := flat_len t
    have h := reg_len p
    simp only [List.map_cons, List.flatten_cons, List.length_append, List.sum_cons]
    omega
theorem allB_in (n : Int) (b : List Int) : ∀ (l : List Int) (s s' : List Int × List Bool), stepB n b l s = some s' → ∀ x ∈ l, 0 ≤ x ∧ x ≤ n - 1
  | [], s, s', h, x, hx => by cases hx
  | y :: t, s, s', h, x, hx => by
    unfold stepB at h
    by_cases c : 0 ≤ y ∧ y ≤ n - 1
    · rw [if_pos c] at h
      rcases List.mem_cons.1 hx with e | e
      · rw [e]; exact c
      · exact allB_in n b t _ s' h x e
    · rw [if_neg c] at h; cases h
theorem allB_all (n : Int) : ∀ (l : List (List Int)) (s s' : List Int × List Bool), allB n l s = some s' → ∀ b ∈ l, ∀ x ∈ b, 0 ≤ x ∧ x ≤ n - 1
  | [], s, s', h, b, hb, x, hx => by cases hb
  | c :: t, s, s', h, b, hb, x, hx => by
    unfold allB at h
    by_cases e : c = []
    · rw [if_pos e] at h; cases h
    · rw [if_neg e] at h
      obtain ⟨s1, h1, h2⟩ := Option.bind_eq_some_iff.1 h
      rcases List.mem_cons.1 hb with q | q
      · rw [q] at hx; exact allB_in n c c s s1 h1 x hx
      · exact allB_all n t s1 s' h2 b q x hx
theorem degOf_in {n : Int} {R : List (List (List Int))} {c : List Int} (h : degOf n R = some c) : ∀ g ∈ R, ∀ b ∈ g, ∀ x ∈ b, 0 ≤ x ∧ x ≤ 19 := by
  unfold degOf at h
  by_cases e : (1 ≤ n ∧ n ≤ 20) ∧ R ≠ []
  · rw [if_pos e] at h
    obtain ⟨s, hs, _⟩ := Option.bind_eq_some_iff.1 h
    intro g hg b hb x hx
    have := allB_all n R.flatten _ s hs b (List.mem_flatten.2 ⟨g, hg, hb⟩) x hx
    omega
  · rw [if_neg e] at h; cases h
-- both
def spR (s : List UInt8) : Res := if (pairOf (degOf ((splitU 47 s).foldl upP 0) ((splitU 47 s).map reg))).2 = true then ((splitU 47 s).foldl upP 0, (splitU 47 s).map reg, 0) else (0, [], 6)
theorem both_ev (s : ByteArray) (hs : s.size ≤ 1048576) : Ev (fun k => spec_ParseSprouts.f k s) (spR s.data.toList) ∧ Ev (fun k => impl_ParseSprouts.f k s) (spR s.data.toList) := by
  have hz := Lib.size_eq s
  have hn := splitU_len 47 s.data.toList
  have hp : ∀ p ∈ splitU 47 s.data.toList, p.length ≤ 1048576 := fun p h => by have := split_word_len 47 s.data.toList p h; omega
  have hg : ∀ g ∈ (splitU 47 s.data.toList).map reg, g.length < 4611686018427387904 ∧ ∀ b ∈ g, b.length < 4611686018427387904 := fun g hg => by
    obtain ⟨p, hp1, rfl⟩ := List.mem_map.1 hg
    have h1 := reg_len p
    have h2 := reg_total p
    have h3 := hp p hp1
    refine ⟨by omega, fun b hb => ?_⟩
    have := total_mem hb
    omega
  have hRl : ((splitU 47 s.data.toList).map reg).length < 4611686018427387904 := by rw [List.length_map]; omega
  have hF : ((splitU 47 s.data.toList).map reg).flatten.length ≤ 1000000000 := by
    have h1 := flat_len (splitU 47 s.data.toList)
    rw [split_sum] at h1
    omega
  have hS := specDeg_ev ((splitU 47 s.data.toList).foldl upP 0) ((splitU 47 s.data.toList).map reg) hg hRl
  have hI := implDeg_ev ((splitU 47 s.data.toList).foldl upP 0) ((splitU 47 s.data.toList).map reg) (fun g h => (hg g h).2) hRl hF
  have fin : ∀ {f : Nat → Option Bool}, Ev f (pairOf (degOf ((splitU 47 s.data.toList).foldl upP 0) ((splitU 47 s.data.toList).map reg))).2 →
      Ev (fun k => (f k).bind fun t => if t = true then some ((splitU 47 s.data.toList).foldl upP 0, (splitU 47 s.data.toList).map reg, 0) else some (0, ([] : List (List (List Int))), 6)) (spR s.data.toList) := fun {f} hf => by
    refine Ev.bind hf ?_
    unfold spR
    by_cases e : (pairOf (degOf ((splitU 47 s.data.toList).foldl upP 0) ((splitU 47 s.data.toList).map reg))).2 = true
    · exact Ev.congr (f := fun _ => some _) (fun k => by rw [if_pos e, if_pos e]) (Ev.now _)
    · exact Ev.congr (f := fun _ => some _) (fun k => by rw [if_neg e, if_neg e]) (Ev.now _)
  have hI2 : Ev (fun k => impl_IsSprouts.f k ((splitU 47 s.data.toList).foldl upP 0) ((splitU 47 s.data.toList).map reg)) (pairOf (degOf ((splitU 47 s.data.toList).foldl upP 0) ((splitU 47 s.data.toList).map reg))).2 := by
    unfold impl_IsSprouts.f
    exact Ev.bind hI (Ev.now _)
  have hS2 : Ev (fun k => spec_l02Is.f k ((splitU 47 s.data.toList).foldl upP 0) ((splitU 47 s.data.toList).map reg)) (pairOf (degOf ((splitU 47 s.data.toList).foldl upP 0) ((splitU 47 s.data.toList).map reg))).2 := by
    unfold spec_l02Is.f
    exact Ev.bind hS (Ev.now _)
  refine ⟨?_, ?_⟩
  · unfold spec_ParseSprouts.f
    refine Ev.bind (splitS_ev s 47 hs) ?_
    refine specR (spR s.data.toList) (splitU 47 s.data.toList) (by omega) hp (splitU 47 s.data.toList).length 0 0 [] (by omega) (Nat.le_refl _) (fun _ => fin hS2) (fun ⟨p, hpm, hnp⟩ => ?_)
    rw [List.drop_zero] at hpm
    unfold spR
    rw [if_neg]
    intro e
    cases hdg : degOf ((splitU 47 s.data.toList).foldl upP 0) ((splitU 47 s.data.toList).map reg) with
    | none => rw [hdg] at e; cases e
    | some c =>
      refine hnp (fun hne w hw b hb => ?_)
      refine degOf_in hdg (reg p) (List.mem_map_of_mem hpm) (bnd w) ?_ (chr b) (List.mem_map_of_mem hb)
      unfold reg
      rw [if_neg hne]
      exact List.mem_map_of_mem hw
  · unfold impl_ParseSprouts.f
    refine Ev.congr (fun k => by rw [strings_Split_val s 47 hs, Option.bind_some, List.length_map]) ?_
    exact implR (spR s.data.toList) (splitU 47 s.data.toList) (by omega) hp (splitU 47 s.data.toList).length 0 0 [] (by omega) (Nat.le_refl _) (fin hI2)
theorem total3_le : ∀ R : List (List (List Int)), (∀ g ∈ R, total g ≤ 2097152) → total3 R ≤ (R.length : Int) * 2097152
  | [], _ => by simp [total3]
  | g :: t, h => by
    have ih := total3_le t (fun x hx => h x (List.mem_cons_of_mem _ hx))
    have hg := h g (by simp)
    simp only [total3, List.length_cons]
    rw [Int.natCast_add, Int.add_mul]
    simp
    omega
theorem spR_fits (s : List UInt8) (hs : s.length ≤ 1048576) : (spR s).2.1.length ≤ 2097152 ∧ (∀ g ∈ (spR s).2.1, g.length ≤ 2097152 ∧ total g ≤ 2097152) := by
  have hn := splitU_len 47 s
  unfold spR
  split
  · refine ⟨by rw [List.length_map]; omega, fun g hg => ?_⟩
    obtain ⟨p, hp1, rfl⟩ := List.mem_map.1 hg
    have h1 := reg_len p
    have h2 := reg_total p
    have h3 := split_word_len 47 s p hp1
    exact ⟨by omega, by omega⟩
  · exact ⟨by simp, fun g hg => by cases hg⟩

end Go.Proofs.YtfcafnnpejngiaaDoor.PX

/- The law FnExactParseSprouts holds of every text: both sides tell the same (condition: what the reading functions ask of the variables). -/
namespace Go.Proofs.YtfcafnnpejngiaaDoor.PX
open Go.RowKit Go.Proofs.YtfcafnnpejngiaaDoorW.PrintWords Go.Proofs.YtfcafnnpejngiaaDoorW.PrintLast Go.Proofs.YtfcafnnpejngiaaDoorW.PrintMore
theorem laws_FnExactParseSprouts.done (a0 : ByteArray) (w : World) (_ : a0.size ≤ 140737488351232) (hG : Good w) :
    Calls Tryd.prog 3 #[.string a0] w fun e w' => e = .returned (.bool true) ∧ Below w.heap.size w w' := by
  by_cases hs : a0.size ≤ 1048576
  rotate_left
  · exact laws_FnExactParseSprouts.early0_of a0 w (decide_eq_true (by omega))
  have hz := Lib.size_eq a0
  obtain ⟨h1, h2⟩ := spR_fits a0.data.toList (by omega)
  obtain ⟨h3, h4⟩ := both_ev a0 hs
  have h5 := total3_le (spR a0.data.toList).2.1 (fun g hg => (h2 g hg).2)
  have h0 := total3_nonneg (spR a0.data.toList).2.1
  have hf : Fits3 (spR a0.data.toList).2.1 := ⟨by omega, fun g hg => by have := (h2 g hg).1; omega⟩
  exact laws_FnExactParseSprouts.good_of a0 (spR a0.data.toList).1 (spR a0.data.toList).2.1 (spR a0.data.toList).2.2 (1 + total3 (spR a0.data.toList).2.1) w
    (decide_eq_false (by omega)) h3 h4 (eq3_ev _ _ h2 h1) (decide_eq_false (by omega)) (by omega) hf rfl (held3_ev _ _ 1 (by omega) (by omega) hf) hG

end Go.Proofs.YtfcafnnpejngiaaDoor.PX

/- What a row's list of variables and the world's shape give: the fact that strings.Split asks (no condition beside the list). -/
namespace Go.Proofs.YtfcafnnpejngiaaDoor.PX
open Go.RowKit Go.Shelf
theorem good_fnExactParseSprouts {W : World} (_hL : laidMetH Tryd.prog Rows.fnExactParseSproutsRow.laid W) (hsh : W.ShapedOpen Tryd.prog) : Good W := ⟨Tryd.laysM146.s1_3 W hsh⟩
end Go.Proofs.YtfcafnnpejngiaaDoor.PX

/- The row of FnExactParseSprouts, out of its plain law (no condition). -/
namespace Go.Proofs.YtfcafnnpejngiaaDoor.fnExactParseSprouts
open Go.ChangeShapes Go.WideShapes Go.ChangeAt Go.RowKit
open Go.ChangeMaps (open_string shut_string)
set_option linter.unusedVariables false
theorem own : ownKnob Tryd.prog.godebug = none := by kernel_rfl
theorem laid : laidOutB Tryd.prog = true := by kernel_rfl
theorem laid_met (os : Os) : laidMet Tryd.prog Rows.fnExactParseSproutsRow.laid ((World.laidAll Tryd.prog os Rows.fnExactParseSproutsRow.laid).forCall (fun _ _ => 0) ⟨#[], #[.string ⟨#[]⟩], []⟩).memory :=
  laidMet_laidAll #[.string ⟨#[]⟩] (by kernel_rfl) (by kernel_rfl)
theorem reads (os : Os) {H : Type} (enc : TypeId × Value → H) : ∃ places, DataW.whole enc Tryd.prog ((World.laidAll Tryd.prog os Rows.fnExactParseSproutsRow.laid).forCall (fun _ _ => 0) ⟨#[], #[.string ⟨#[]⟩], []⟩).memory Tryd.f3.params.toList Rows.fnExactParseSproutsSpec.vars false #[.string ⟨#[]⟩].toList 8 = some ([.lit (.string [])], [], places) :=
  ⟨[], by kernel_rfl⟩
set_option maxRecDepth 100000 in
theorem lifted (os : Os) (started : os.Started) (H : Type) (enc : TypeId × Value → H) (F : Stop.Interp) :
    ReturnsInHanded {} Tryd.checked os 3 .any ((OpenSpec.ofChange Rows.fnExactParseSproutsSpec).preRow enc Tryd.prog Tryd.f3 Rows.fnExactParseSproutsRow.domain false Rows.fnExactParseSproutsRow.laid) (((OpenSpec.ofChange Rows.fnExactParseSproutsSpec).at F).post enc Tryd.prog Tryd.f3 false true false false) := by
  obtain ⟨places, hx⟩ := reads os enc
  refine returnsInHanded_of_row (C := Tryd.checked) (s := OpenSpec.ofChange Rows.fnExactParseSproutsSpec) own started (by kernel_rfl) Tryd.func3
    (witness_row_at (enc := enc) (C := Tryd.checked) false (World.laidAll Tryd.prog os Rows.fnExactParseSproutsRow.laid) #[.string ⟨#[]⟩] (World.laidAll_os _ _ _) (by kernel_rfl) (by kernel_rfl) (by kernel_rfl)
      (OpenSpec.preRow_of_cond 8 hx (by kernel_rfl) (fun k hk => by cases hk) (by kernel_rfl) (laid_met os))) ?_
  intro W base args ds gs before hval0 hW hcnd hcond hsz0 hL hsh _
  have hsz : (DataW.weightsEach Tryd.prog (Tryd.f3.params.toList ++ Rows.fnExactParseSproutsSpec.plain.varTypes Tryd.prog) (ds ++ gs)).all (· ≤ reachBytes) = true := hsz0
  have hval : ∀ (j : Nat) t v, Tryd.f3.params[j]? = some t → args[j]? = some v → Value.okWide Tryd.prog W .any base t v := hval0
  have hW' := hW
  obtain ⟨p, q, hA0, hV, rfl, hfz, hnd⟩ := hW
  have hA : DataW.TrodAll enc Tryd.prog W 0 (fun _ => true) true Tryd.f3.params.toList args.toList ds p := hA0
  rw [Tryd.params3] at hA hval hsz
  obtain ⟨v0, vs0, d0, ds0, p0, q0, hargs, rfl, rfl, h0, r0⟩ := trodAll_cons hA
  obtain ⟨rfl, rfl, rfl⟩ := trodAll_nil r0
  obtain rfl : args = #[v0] := by cases args; simp_all
  obtain ⟨rfl, rfl⟩ := trodVars_none hV
  have hk0 := h0
  have hlt0 : ∀ x ∈ p0, x.block < W.heap.size := fun x hx => hW'.lt x (by simp [hx])
  obtain ⟨a0, rfl, rfl, rfl, w0⟩ := open_string Tryd.underlying9 (hval 0 9 v0 rfl rfl) h0
  have u0 : a0.size ≤ 140737488351232 := by have z := sized_string hsz (j := 0) (t := 9) rfl rfl; rw [Array.length_toList] at z; exact z
  clear hA0 hval0 hsz0 hsz
  refine (PX.laws_FnExactParseSprouts.done a0 W u0 (PX.good_fnExactParseSprouts hL hsh)).mono fun e W' ⟨he, bel0⟩ => ?_
  have bel : Below W.heap.size W W' := bel0
  subst he
  exact ⟨_, rfl, _, _, _, [], _, [], hW', trodAll_mk1 (shut_bool Tryd.underlying4 _), (trodAll_cons_mk (Below.trod laid (by kernel_rfl) (of_decide_eq_true (by kernel_rfl)) hk0 bel hlt0) trodAll_mk0), rfl, bel.frame _, fun h => by cases h⟩
theorem said : Rows.FnExactParseSproutsSaid :=
  OpenClaim.holds_of_cond 3 Tryd.f3 rfl rfl rfl rfl rfl rfl rfl ⟨rfl, rfl, rfl, rfl, rfl⟩ rfl rfl rfl rfl rfl (by kernel_rfl) Tryd.func3 (by kernel_rfl)
    (of_decide_eq_true (by kernel_rfl)) (by unfold Func.isWrapper; first | (rw [if_pos (by decide +kernel)]; kernel_rfl) | (rw [if_neg (by decide +kernel)]; exact ⟨rfl, rfl⟩))
    (fun os started H enc _ F => by rw [OpenClaim.pre_eq_preRow]; exact lifted os started H enc F)
theorem plain (f : FuncId) (fn : Func) (hf : Tryd.pinned.checked.prog.funcNamed "loop.example/g01388/laws.FnExactParseSprouts" = some f) (hfn : Tryd.pinned.checked.prog.funcs[f]? = some fn) :
    true = Tryd.pinned.checked.prog.looks [] ∧ ∀ (j : Nat) t, fn.params[j]? = some t → Tryd.pinned.checked.prog.wantsStandIn t = false := by
  obtain rfl : f = 3 := Option.some.inj ((show Tryd.prog.funcNamed "loop.example/g01388/laws.FnExactParseSprouts" = some 3 by kernel_rfl).symm.trans hf) |>.symm
  obtain rfl : fn = Tryd.f3 := (Option.some.inj (Tryd.func3.symm.trans hfn)).symm
  refine ⟨by kernel_rfl, fun j t ht => ?_⟩
  rw [Tryd.params3] at ht
  have hm : t ∈ [9] := by simpa using Array.mem_of_getElem? ht
  have hall : ([9].all fun u => !Tryd.prog.wantsStandIn u) = true := by kernel_rfl
  exact (show Tryd.prog.wantsStandIn t = false by simpa using List.all_eq_true.1 hall t hm)
theorem proved : Rows.FnExactParseSproutsCardSaid :=
  Claim7.holds_tied_plain_at .later [] _ _ _ _ said (fun _ h => by cases h) (by kernel_rfl) (fun _ h => by cases h) fnExactParseSprouts_row_tie rfl ⟨rfl, rfl⟩ (by kernel_rfl) rfl plain (by kernel_rfl)
#print axioms proved
end Go.Proofs.YtfcafnnpejngiaaDoor.fnExactParseSprouts
namespace Go.Proofs.YtfcafnnpejngiaaDoor
/-- The card, under a short name, for the claim. -/
theorem fnExactParseSprouts_holds : Rows.FnExactParseSproutsCardSaid := fnExactParseSprouts.proved
end Go.Proofs.YtfcafnnpejngiaaDoor
