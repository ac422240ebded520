/- The row of FnGameValues, out of its plain law (no condition). -/
import Derived.Lib.SplitLaws
import Derived.Laws.Strings
import Derived.Test.YtnlbbpgmmeapfaaGreatDoorRows
import Derived.Stop.LaidErr
import Derived.Lib.LaidTab
import Derived.MakeChecks
import Derived.WalkKit
import Derived.ProofKit
import Derived.OpenShut
import Derived.ShutString
import Derived.ChangeOld
import Derived.Below
import Derived.Carry
import Derived.SizedLaws
import Derived.Lib.SmallJoins
import Derived.Test.YtnlbbpgmmeapfaaGreatDoorCards
import Derived.Test.YtnlbbpgmmeapfaaGreatDoorTie
import Derived.Deep.DeepHandedRow
import Derived.SevenTiedAt
import Derived.Lay
import Derived.Test.YtnlbbpgmmeapfaaGreatDoorPk6FnGameValues
import Derived.Test.YtnlbbpgmmeapfaaGreatDoorPk7FnGameValues
import Derived.Test.YtnlbbpgmmeapfaaGreatDoorPk8FnGameValues
import Derived.Test.YtnlbbpgmmeapfaaGreatDoorPk9FnGameValues
import Derived.Test.YtnlbbpgmmeapfaaGreatDoorPk10FnGameValues
import Derived.Test.YtnlbbpgmmeapfaaGreatDoorPk11FnGameValues
import Derived.Test.YtnlbbpgmmeapfaaGreatDoorPk12FnGameValues
import Derived.Test.YtnlbbpgmmeapfaaGreatDoorPk13FnGameValues
import Derived.Test.YtnlbbpgmmeapfaaGreatDoorPk14FnGameValues
namespace Go.Proofs.YtnlbbpgmmeapfaaGreatDoor.PX
open Go.RowKit Go.Proofs.YtnlbbpgmmeapfaaGreatDoorW.PrintWords Go.Proofs.YtnlbbpgmmeapfaaGreatDoorW.PrintLast Go.Proofs.YtnlbbpgmmeapfaaGreatDoorW.PrintMore
attribute [local go_sem] max2_int min2_int max_two min_two max_three min_three max_four min_four
set_option linter.unusedVariables false
set_option linter.unusedSimpArgs false
set_option maxHeartbeats 8000000
set_option maxRecDepth 100000
theorem Za.calls (k : Nat) (A0 : Option Addr) (c0 : Nat) (l0 : List Int) (r : Bool) (w : World) (hr0 : Kd.C (Kd.int .u8) w A0 l0.length l0) (hc0 : l0.length ≤ c0) (h : Za.f k l0 = some r) (hG : Good w) :
 Calls Tryz.prog 3 #[.slice A0 l0.length c0] w fun e w' => e = .returned (.bool r) ∧ Below w.heap.size w w' :=
 Za.sec0 (Za.sec1 (Za.sec2 (Za.sec3)) (Za.sec4 (Za.sec5 (Za.sec6) (Za.sec7)))) k A0 c0 l0 r w hr0 hc0 h hG
theorem likeI_loop (xs : List Int) (hn : xs.length < 4611686018427387904) (d : Nat) : ∀ i : Nat, i + d = xs.length → Ev (fun k => Zp.l0 k xs xs (i : Int)) true := by
 induction d with
 | zero =>
  intro i hd
  refine Ev.step (f := fun _ => some true) (fun k => ?_) (Ev.now true)
  simp only [Zp.l0];rw [if_neg (by omega)]
 | succ d ih =>
  intro i hd
  refine Ev.step (fun k => ?_) (ih (i + 1) (by omega))
  simp only [Zp.l0];rw [if_pos (by omega),if_pos (by omega),if_pos (by omega),if_true,wrapS (by omega) (by omega),cast_succ]
theorem likeI_ev (xs : List Int) (hn : xs.length < 4611686018427387904) : Ev (fun k => Zp.f k xs xs) true := by
 refine Ev.congr (fun k => ?_) (likeI_loop xs hn xs.length 0 (by omega))
 unfold Zp.f
 rw [if_pos rfl];rfl
theorem rows_loop (g : List (List Int)) (hg : g.length < 4611686018427387904) (hr : ∀ row ∈ g, row.length < 4611686018427387904) (d : Nat) : ∀ i : Nat, i + d = g.length → Ev (fun k => Zag.l0 k g g (i : Int)) true := by
 induction d with
 | zero =>
  intro i hd
  refine Ev.step (f := fun _ => some true) (fun k => ?_) (Ev.now true)
  simp only [Zag.l0];rw [if_neg (by omega)]
 | succ d ih =>
  intro i hd
  obtain ⟨row,hi⟩ := get_some (xs := g) (i := i) (by omega)
  refine Ev.step (f := fun k => (Zp.f k row row).bind fun t => if t = true then Zag.l0 k g g ((i + 1 : Nat) : Int) else some false) (fun k => ?_) (Ev.bind (likeI_ev row (hr _ (List.mem_of_getElem? hi))) (Ev.congr (fun k => by rw [if_pos rfl]) (ih (i + 1) (by omega))))
  simp only [Zag.l0]
  rw [if_pos (by omega),if_pos (by omega),if_pos (by omega),rdL2_nat,getD_of hi,wrapS (by omega) (by omega),cast_succ]
theorem games_ev (g : List (List Int)) (hg : g.length < 4611686018427387904) (hr : ∀ row ∈ g, row.length < 4611686018427387904) : Ev (fun k => Zan.f k g g) true := by
 unfold Zan.f
 refine Ev.bind (Ev.congr (fun k => ?_) (rows_loop g hg hr g.length 0 (by omega))) (Ev.now _)
 unfold Zag.f
 rw [if_pos rfl];rfl
theorem boolsV_loop (xs : List Bool) (hn : xs.length < 4611686018427387904) (d : Nat) : ∀ i : Nat, i + d = xs.length → Ev (fun k => ZG.l0 k xs xs (i : Int)) true := by
 induction d with
 | zero =>
  intro i hd
  refine Ev.step (f := fun _ => some true) (fun k => ?_) (Ev.now true)
  simp only [ZG.l0];rw [if_neg (by omega)]
 | succ d ih =>
  intro i hd
  refine Ev.step (fun k => ?_) (ih (i + 1) (by omega))
  simp only [ZG.l0];rw [if_pos (by omega),if_pos (by omega),if_pos (by omega),bne_self_eq_false,if_neg (by decide),wrapS (by omega) (by omega),cast_succ]
theorem boolsV_ev (xs : List Bool) (hn : xs.length < 4611686018427387904) : Ev (fun k => ZG.f k xs xs) true := by
 refine Ev.congr (fun k => ?_) (boolsV_loop xs hn xs.length 0 (by omega))
 unfold ZG.f
 rw [if_pos rfl];rfl
theorem hasV_loop (xs : List Int) (x : Int) (hn : xs.length < 4611686018427387904) (d : Nat) : ∀ i : Nat, i + d = xs.length → Ev (fun k => ZU.l0 k xs x (i : Int)) (decide (x ∈ xs.drop i)) := by
 induction d with
 | zero =>
  intro i hd
  refine Ev.step (f := fun _ => some _) (fun k => ?_) (Ev.now _)
  simp only [ZU.l0];rw [if_neg (by omega),List.drop_of_length_le (by omega)];simp
 | succ d ih =>
  intro i hd
  obtain ⟨y,hi⟩ := get_some (xs := xs) (i := i) (by omega)
  by_cases c : y = x
  ·refine Ev.step (f := fun _ => some _) (fun k => ?_) (Ev.now _)
   simp only [ZU.l0]
   rw [if_pos (by omega),if_pos (by omega),rd_nat,getD_of hi,if_pos c,drop_of hi,c];simp
  ·have e : decide (x ∈ xs.drop i) = decide (x ∈ xs.drop (i + 1)) := by
    rw [drop_of hi]
    exact decide_eq_decide.2 ⟨fun h => (List.mem_cons.1 h).resolve_left (fun e => c e.symm),fun h => List.mem_cons_of_mem _ h⟩
   rw [e]
   refine Ev.step (fun k => ?_) (ih (i + 1) (by omega))
   simp only [ZU.l0]
   rw [if_pos (by omega),if_pos (by omega),rd_nat,getD_of hi,if_neg c,wrapS (by omega) (by omega),cast_succ]
theorem hasV_ev (xs : List Int) (x : Int) (hn : xs.length < 4611686018427387904) : Ev (fun k => ZU.f k xs x) (decide (x ∈ xs)) := by
 have h := hasV_loop xs x hn xs.length 0 (by omega)
 rw [List.drop_zero] at h
 exact h
def bsP (l : List UInt8) : ByteArray := ⟨l.toArray⟩
theorem bsP_data (l : List UInt8) : (bsP l).data.toList = l := by simp [bsP]
theorem bsP_of (s : ByteArray) : bsP s.data.toList = s := by obtain ⟨⟨l⟩⟩ := s; rfl
theorem bsP_ext {a b : ByteArray} (h : a.data.toList = b.data.toList) : a = b := by rw [← bsP_of a, ← bsP_of b, h]
theorem bsP_size (l : List UInt8) : (bsP l).size = l.length := by simp [bsP, ByteArray.size]
def consHead (p : List UInt8) : List (List UInt8) → List (List UInt8)
 | [] => [p]
 | h :: t => (p ++ h) :: t
def splitU (c : UInt8) : List UInt8 → List (List UInt8)
 | [] => [[]]
 | b :: l => if b = c then [] :: splitU c l else consHead [b] (splitU c l)
theorem consHead_two (p q : List UInt8) (l : List (List UInt8)) : consHead p (consHead q l) = consHead (p ++ q) l := by
 cases l <;> simp [consHead]
theorem splitU_ne (c : UInt8) : ∀ l, splitU c l ≠ []
 | [] => by simp [splitU]
 | b :: l => by
  unfold splitU
  split
  ·simp
  ·cases splitU c l <;> simp [consHead]
theorem consHead_nil (c : UInt8) (l : List UInt8) : consHead [] (splitU c l) = splitU c l := by
 cases h : splitU c l with
 | nil => exact absurd h (splitU_ne c l)
 | cons a t => rfl
theorem splitK_ne (b c : UInt8) (l : List UInt8) (h : b ≠ c) (k : Nat) : Lib.splitK [c] 0 k (b :: l) = consHead [b] (Lib.splitK [c] 0 k l) := by
 have hp : ([c] : List UInt8).isPrefixOf (b :: l) = false := by simp [List.isPrefixOf,Ne.symm h]
 have hix : Lib.index (b :: l) [c] = if Lib.index l [c] == -1 then -1 else Lib.index l [c] + 1 := by rw [Lib.index,hp];simp
 cases k with
 | zero => rfl
 | succ k =>
  unfold Lib.splitK
  by_cases hm : Lib.index l [c] = -1
  ·rw [hix,if_pos (beq_iff_eq.2 hm),if_pos (beq_iff_eq.2 rfl),if_pos (beq_iff_eq.2 hm)]
   rfl
  ·have hge := Lib.index_ge l [c]
   obtain ⟨j,hj⟩ : ∃ j : Nat,Lib.index l [c] = j := ⟨(Lib.index l [c]).toNat,by omega⟩
   have hix' : Lib.index (b :: l) [c] = ((j + 1 : Nat) : Int) := by rw [hix,if_neg (fun e => hm (beq_iff_eq.1 e)),hj];omega
   rw [hix',hj,if_neg (fun e => by have := beq_iff_eq.1 e;omega),if_neg (fun e => by have := beq_iff_eq.1 e;omega)]
   simp [consHead]
theorem splitK_all (c : UInt8) : ∀ l, Lib.splitK [c] 0 (Lib.count l [c]) l = splitU c l
 | [] => by
  have : Lib.count [] [c] = 0 := by rw [Lib.count_one];rfl
  rw [this]
  rfl
 | b :: l => by
  by_cases h : b = c
  ·subst h
   have hix : Lib.index (b :: l) [b] = ((0 : Nat) : Int) := by rw [Lib.index];simp [List.isPrefixOf]
   rw [Lib.count_cons_eq,Nat.add_comm,Lib.splitK,hix,if_neg (by decide),splitU,if_pos rfl,← splitK_all b l]
   rfl
  ·rw [Lib.count_cons_ne b c l h,splitK_ne b c l h,splitK_all c l,splitU,if_neg h]
theorem splitU_one (c : UInt8) : ∀ l, (splitU c l).length = l.count c + 1
 | [] => rfl
 | b :: l => by
  unfold splitU
  split
  ·rename_i e
   subst e
   simp [splitU_one b l]
  ·rename_i e
   have h1 : (consHead [b] (splitU c l)).length = (splitU c l).length := by
    cases h : splitU c l with
    | nil => exact absurd h (splitU_ne c l)
    | cons a t => rfl
   rw [h1,splitU_one c l,List.count_cons_of_ne (by simpa using e)]
theorem splitU_len (c : UInt8) (l : List UInt8) : (splitU c l).length ≤ l.length + 1 := by
 rw [splitU_one]
 have := List.count_le_length (a := c) (l := l)
 omega
theorem split_word_len (c : UInt8) : ∀ l w, w ∈ splitU c l → w.length ≤ l.length
 | [],w,h => by simp [splitU] at h;simp [h]
 | b :: l,w,h => by
  unfold splitU at h
  split at h
  ·rcases List.mem_cons.1 h with e | e
   ·simp [e]
   ·have := split_word_len c l w e
    simp;omega
  ·cases hs : splitU c l with
   | nil => exact absurd hs (splitU_ne c l)
   | cons a t =>
    rw [hs] at h
    rcases List.mem_cons.1 h with e | e
    ·have := split_word_len c l a (by rw [hs];simp)
     simp [e];omega
    ·have := split_word_len c l w (by rw [hs];simp [e])
     simp;omega
theorem strings_Split_val (s : ByteArray) (c : UInt8) (h : s.size ≤ 4294967280) : strings_Split.f s ⟨#[c]⟩ = some ((splitU c s.data.toList).map bsP) := by
 unfold strings_Split.f
 rw [if_pos ⟨by omega,Nat.le_refl 1⟩]
 congr 1
 have hd := Lib.splitB_data (⟨#[c]⟩ : ByteArray) 0 (Lib.countB s ⟨#[c]⟩) s
 have hc : Lib.countB s ⟨#[c]⟩ = Lib.count s.data.toList [c] := rfl
 rw [hc] at hd ⊢
 have he : ((⟨#[c]⟩ : ByteArray)).data.toList = [c] := rfl
 rw [he,splitK_all c] at hd
 rw [← hd,List.map_map]
 have : (bsP ∘ fun x : ByteArray => x.data.toList) = id := by funext x;exact bsP_of x
 rw [this,List.map_id]
theorem Ev_cast {α : Type} {g : Nat → Option α} {a b : α} (h : Ev g a) (e : a = b) : Ev g b := e ▸ h
theorem bt_list (s : ByteArray) (i : Nat) (b : UInt8) (l : List UInt8) (h : s.data.toList.drop i = b :: l) : bt s (i : Int) = (b.toNat : Int) ∧ i < s.size ∧ s.data.toList.drop (i + 1) = l := by
 have hl : i < s.data.toList.length := by
  by_cases hh : i < s.data.toList.length
  ·exact hh
  ·rw [List.drop_of_length_le (by omega)] at h;cases h
 have hsz : i < s.size := by rw [Lib.size_eq];exact hl
 rw [List.drop_eq_getElem_cons hl] at h
 obtain ⟨e1,e2⟩ := List.cons.inj h
 refine ⟨?_,hsz,e2⟩
 unfold bt
 rw [dif_pos (by simpa using hsz)]
 congr 1
 rw [← e1]
 rfl
theorem splitS_loop (s : ByteArray) (c : UInt8) (hs : s.size ≤ 4294967280) : ∀ (d : Nat) (i at_ : Nat) (acc : List ByteArray), i + d = s.size → at_ ≤ i → acc.length ≤ i →
 Ev (fun k => ZL.l0 k s (c.toNat : Int) acc (at_ : Int) (i : Int)) (acc ++ (consHead ((s.data.toList.drop at_).take (i - at_)) (splitU c (s.data.toList.drop i))).map bsP)
 | 0,i,at_,acc,hd,ha,hl => by
  have hsz := Lib.size_eq s
  refine Ev.step (f := fun _ => some (acc ++ [s.extract at_ s.size])) (fun k => ?_) ?_
  ·rw [ZL.l0,if_neg (by omega),if_pos (by omega),if_pos (by omega),if_pos (by omega)]
   rfl
  ·have e1 : s.data.toList.drop i = [] := List.drop_of_length_le (by omega)
   have e2 : s.extract at_ s.size = bsP ((s.data.toList.drop at_).take (i - at_)) := by
    refine bsP_ext ?_
    rw [Lib.extract_to_end,bsP_data,List.take_of_length_le (by rw [List.length_drop];omega)]
   rw [e1,e2]
   refine Ev_cast (Ev.now _) ?_
   simp [splitU,consHead]
 | d + 1,i,at_,acc,hd,ha,hl => by
  have hsz := Lib.size_eq s
  have hi : i < s.data.toList.length := by omega
  obtain ⟨b,l,hb⟩ : ∃ b l,s.data.toList.drop i = b :: l := ⟨_,_,List.drop_eq_getElem_cons hi⟩
  obtain ⟨h1,h2,h3⟩ := bt_list s i b l hb
  have hw : wrap64 ((i : Int) + 1) = ((i + 1 : Nat) : Int) := by rw [wrapS (by omega) (by omega)];rfl
  by_cases e : b = c
  ·subst e
   have ih := splitS_loop s b hs d (i + 1) (i + 1) (acc ++ [s.extract at_ i]) (by omega) (Nat.le_refl _) (by simp;omega)
   refine Ev.step (fun k => ?_) (Ev_cast ih ?_)
   ·rw [ZL.l0,if_pos (by omega),if_pos (by omega),h1,if_pos rfl,if_pos (by omega),if_pos (by omega),if_pos (by omega),if_pos (by omega),hw]
    rfl
   ·have e2 : s.extract at_ i = bsP ((s.data.toList.drop at_).take (i - at_)) := by
     refine bsP_ext ?_
     rw [Lib.extract_data,bsP_data]
    rw [e2,hb,h3,splitU,if_pos rfl,Nat.sub_self,List.take_zero,consHead_nil]
    simp [consHead]
  ·have ih := splitS_loop s c hs d (i + 1) at_ acc (by omega) (by omega) (by omega)
   refine Ev.step (fun k => ?_) (Ev_cast ih ?_)
   ·rw [ZL.l0,if_pos (by omega),if_pos (by omega),h1,if_neg (fun x => e (UInt8.toNat_inj.1 (by omega))),hw]
   ·have e3 : (s.data.toList.drop at_).take (i + 1 - at_) = (s.data.toList.drop at_).take (i - at_) ++ [b] := by
     rw [show i + 1 - at_ = (i - at_) + 1 by omega,List.take_add_one,List.getElem?_drop,show at_ + (i - at_) = i by omega]
     have : s.data.toList[i]? = some b := by
      have := congrArg List.head? hb
      rw [List.head?_drop] at this
      exact this
     rw [this]
     rfl
    rw [e3,hb,h3,splitU,if_neg e,consHead_two]
theorem splitS_ev (s : ByteArray) (c : UInt8) (hs : s.size ≤ 4294967280) : Ev (fun k => ZL.f k s (c.toNat : Int)) ((splitU c s.data.toList).map bsP) := by
 have h := splitS_loop s c hs s.size 0 0 [] (by omega) (Nat.le_refl _) (Nat.le_refl _)
 simp only [List.drop_zero,Nat.sub_self,List.take_zero,consHead_nil,List.nil_append] at h
 exact h
def digFrom : Int → List UInt8 → Int
 | acc,[] => acc
 | acc,b :: l => if (b.toNat : Int) < 48 then -1 else if (b.toNat : Int) > 57 then -1 else digFrom (acc * 10 + ((b.toNat : Int) - 48)) l
def specNum (w : List UInt8) : Int := if w.length = 0 ∨ w.length > 9 ∨ (w.length > 1 ∧ w.head? = some 48) then -1 else digFrom 0 w
theorem digFrom_ge : ∀ (l : List UInt8) (acc : Int), 0 ≤ acc → digFrom acc l = -1 ∨ acc ≤ digFrom acc l
 | [],acc,h => .inr (Int.le_refl _)
 | b :: l,acc,h => by
  unfold digFrom
  split
  ·exact .inl rfl
  ·split
   ·exact .inl rfl
   ·rcases digFrom_ge l (acc * 10 + ((b.toNat : Int) - 48)) (by omega) with e | e
    ·exact .inl e
    ·exact .inr (by omega)
theorem digLoop (s : ByteArray) (hs : s.size ≤ 9) : ∀ (d i : Nat) (acc : Int), i + d = s.size → 0 ≤ acc → acc < ((10 ^ i : Nat) : Int) →
 Ev (fun k => Zi.l0 k s acc (i : Int)) (digFrom acc (s.data.toList.drop i))
 | 0,i,acc,hd,h0,h1 => by
  have hsz := Lib.size_eq s
  have e1 : s.data.toList.drop i = [] := List.drop_of_length_le (by omega)
  rw [e1]
  refine Ev.step (f := fun _ => some acc) (fun k => ?_) (Ev.now _)
  rw [Zi.l0,if_neg (by omega)]
 | d + 1,i,acc,hd,h0,h1 => by
  have hsz := Lib.size_eq s
  have hi : i < s.data.toList.length := by omega
  obtain ⟨b,l,hb⟩ : ∃ b l,s.data.toList.drop i = b :: l := ⟨_,_,List.drop_eq_getElem_cons hi⟩
  obtain ⟨h2,h3,h4⟩ := bt_list s i b l hb
  have hp : (10 ^ i : Nat) ≤ 10 ^ 8 := Nat.pow_le_pow_right (by omega) (by omega)
  have hp1 : (10 ^ (i + 1) : Nat) = 10 ^ i * 10 := Nat.pow_succ 10 i
  have hp8 : (10 ^ 8 : Nat) = 100000000 := by decide
  have hw : wrap64 ((i : Int) + 1) = ((i + 1 : Nat) : Int) := by rw [wrapS (by omega) (by omega)];rfl
  rw [hb]
  by_cases hlo : (b.toNat : Int) < 48
  ·refine Ev.step (f := fun _ => some (-1)) (fun k => ?_) (Ev_cast (Ev.now _) ?_)
   ·rw [Zi.l0,if_pos (by omega),if_pos (by omega),h2,if_pos hlo]
   ·rw [digFrom,if_pos hlo]
  ·by_cases hhi : (b.toNat : Int) > 57
   ·refine Ev.step (f := fun _ => some (-1)) (fun k => ?_) (Ev_cast (Ev.now _) ?_)
    ·rw [Zi.l0,if_pos (by omega),if_pos (by omega),h2,if_neg hlo,if_pos hhi]
    ·rw [digFrom,if_neg hlo,if_pos hhi]
   ·have ih := digLoop s hs d (i + 1) (acc * 10 + ((b.toNat : Int) - 48)) (by omega) (by omega) (by rw [hp1];omega)
    refine Ev.step (fun k => ?_) (Ev_cast ih ?_)
    ·have e1 : ((b.toNat : Int) - 48) % 256 = (b.toNat : Int) - 48 := by omega
     rw [Zi.l0,if_pos (by omega),if_pos (by omega),h2,if_neg hlo,if_neg hhi,hw,e1,wrapS (i := acc * 10) (by omega) (by omega),wrapS (by omega) (by omega)]
    ·rw [h4,digFrom,if_neg hlo,if_neg hhi]
theorem specNum_ev (w : List UInt8) (hw : w.length ≤ 4294967280) : Ev (fun k => Zi.f k (bsP w)) (specNum w) := by
 have hsz := bsP_size w
 have bad : Ev (fun k => Zi.j0 k (bsP w) true) (-1) := by
  refine Ev.step (f := fun _ => some (-1)) (fun k => ?_) (Ev.now _)
  rw [Zi.j0,if_pos rfl]
 have good : w.length ≤ 9 → Ev (fun k => Zi.j0 k (bsP w) false) (digFrom 0 w) := by
  intro h9
  have h := digLoop (bsP w) (by omega) (bsP w).size 0 0 (by omega) (by omega) (by decide)
  rw [List.drop_zero,bsP_data] at h
  refine Ev.step (fun k => ?_) h
  rw [Zi.j0,if_neg (by decide)]
  rfl
 unfold specNum
 by_cases h0 : w.length = 0
 ·rw [if_pos (.inl h0)]
  refine Ev.congr (fun k => ?_) bad
  rw [Zi.f,if_pos (by omega)]
 ·by_cases h9 : w.length > 9
  ·rw [if_pos (.inr (.inl h9))]
   refine Ev.congr (fun k => ?_) bad
   rw [Zi.f,if_neg (by omega),if_pos (by omega)]
  ·by_cases h1 : w.length > 1
   ·obtain ⟨b,l,hb⟩ : ∃ b l,w = b :: l := by
     cases w with
     | nil => simp at h0
     | cons b l => exact ⟨b,l,rfl⟩
    obtain ⟨h2,_,_⟩ := bt_list (bsP w) 0 b l (by rw [bsP_data,List.drop_zero];exact hb)
    have hf : ∀ k,Zi.f k (bsP w) = Zi.j0 k (bsP w) ((b.toNat : Int) == 48) := by
     intro k
     rw [Zi.f,if_neg (by omega),if_neg (by omega),if_pos (by omega),if_pos (by omega)]
     have h2' : bt (bsP w) 0 = (b.toNat : Int) := h2
     rw [h2']
    refine Ev.congr hf ?_
    by_cases h48 : b = 48
    ·rw [if_pos (.inr (.inr ⟨h1,by rw [hb,h48];rfl⟩)),h48]
     exact bad
    ·have e : ((b.toNat : Int) == 48) = false := beq_eq_false_iff_ne.2 (fun x => h48 (UInt8.toNat_inj.1 (by have : (48 : UInt8).toNat = 48 := rfl;omega)))
     rw [e,if_neg (by rintro (x | x | ⟨_,x⟩);exact h0 x;exact h9 x;rw [hb] at x;exact h48 (Option.some.inj x))]
     exact good (by omega)
   ·rw [if_neg (by omega)]
    refine Ev.congr (fun k => ?_) (good (by omega))
    rw [Zi.f,if_neg (by omega),if_neg (by omega),if_neg (by omega)]
def smallG (n : Nat) : List UInt8 := if n < 10 then [UInt8.ofNat (48 + n)] else [UInt8.ofNat (48 + n / 10), UInt8.ofNat (48 + n % 10)]
theorem itoa_smallG {n : Nat} (h : n < 41) : Lib.itoa (n : Int) = smallG n := by
 unfold Lib.itoa smallG
 rw [if_neg (by omega),Int.toNat_natCast]
 by_cases h10 : n < 10
 ·rw [if_pos h10,Lib.decDigits_one h10]
 ·rw [if_neg h10,Lib.decDigits_two h10 (by omega)]
theorem small_specG : ∀ n : Fin 41, specNum (smallG n.val) = (n.val : Int) ∧ (59 : UInt8) ∉ smallG n.val := by decide
theorem parse_ofG (b : UInt8) (r : List UInt8) (u : Nat) (hb : 48 ≤ b.toNat ∧ b.toNat ≤ 57) (hu : u < 100) (h : Lib.parseUintM (2 ^ 64 - 1) 0 (b :: r) = .ok u) : Lib.parseIntB 64 (b :: r) = .ok (u : Int) := by
 unfold Lib.parseIntB Lib.parseUintB
 simp only
 rw [if_neg (show ¬ (b.toNat = 43 ∨ b.toNat = 45) by omega),if_neg (by simp),h]
 simp only
 rw [if_neg (by omega),if_neg (by omega),if_neg (by omega)]
theorem dig_valG {d : Nat} (h : d < 10) : (UInt8.ofNat (48 + d)).toNat = 48 + d := by
 rw [UInt8.toNat_ofNat']
 omega
theorem small_parseG : ∀ n : Fin 41, Lib.parseIntB 64 (smallG n.val) = .ok (n.val : Int) := by
 intro n
 have hn := n.isLt
 unfold smallG
 by_cases h : n.val < 10
 ·rw [if_pos h]
  refine parse_ofG _ _ _ (by rw [dig_valG h];omega) (by omega) ?_
  rw [Lib.parseUintM,dig_valG h,if_pos (by omega),if_neg (by omega),if_neg (by omega),Lib.parseUintM]
  congr 1
  omega
 ·rw [if_neg h]
  have h1 : n.val / 10 < 10 := by omega
  have h2 : n.val % 10 < 10 := by omega
  refine parse_ofG _ _ _ (by rw [dig_valG h1];omega) (by omega) ?_
  rw [Lib.parseUintM,dig_valG h1,if_pos (by omega),if_neg (by omega),if_neg (by omega),Lib.parseUintM,dig_valG h2,if_pos (by omega),if_neg (by omega),if_neg (by omega),Lib.parseUintM]
  congr 1
  omega
theorem small_numG (n : Fin 41) : numOf (smallG n.val) 40 = ((n.val : Int), true) := by
 unfold numOf
 rw [small_parseG n]
 have h := n.isLt
 simp only
 rw [if_pos (itoa_smallG h),if_pos (by simp only [Bool.and_eq_true,decide_eq_true_eq];omega)]
theorem num_wordG {w : List UInt8} (h : (numOf w 40).2 = true) : ∃ n : Fin 41, w = smallG n.val := by
 unfold numOf at h
 split at h
 ·rename_i n hn
  split at h
  ·rename_i he
   split at h
   ·rename_i hb
    simp only [Bool.and_eq_true,decide_eq_true_eq] at hb
    obtain ⟨m,rfl⟩ : ∃ m : Nat,n = (m : Int) := ⟨n.toNat,by omega⟩
    have hm : m < 41 := by omega
    exact ⟨⟨m,hm⟩,by rw [← he];exact itoa_smallG hm⟩
   ·cases h
  ·cases h
 ·cases h
theorem num_someG {w : List UInt8} (h : (numOf w 40).2 = true) : specNum w = (numOf w 40).1 ∧ 0 ≤ specNum w ∧ (59 : UInt8) ∉ w := by
 obtain ⟨n,rfl⟩ := num_wordG h
 obtain ⟨h1,h3⟩ := small_specG n
 rw [h1,small_numG n]
 exact ⟨rfl,by omega,h3⟩
theorem u8_eqG {b : UInt8} {m : Nat} (h : b.toNat = m) : b = UInt8.ofNat m := by
 subst h
 exact (UInt8.ofNat_toNat).symm
theorem ZaB {w : List UInt8} (h0 : 0 ≤ specNum w) (h1 : specNum w ≤ 40) : (numOf w 40).2 = true := by
 have key : ∃ n : Nat,n < 41 ∧ w = smallG n := by
  unfold specNum at h0 h1
  split at h0
  ·omega
  ·rename_i hc
   rw [if_neg hc] at h1
   match w with
   | [] => exact absurd (.inl rfl) hc
   | [b] =>
    have hb := b.toNat_lt
    simp only [digFrom] at h0 h1
    split at h0
    ·omega
    ·rename_i c1
     rw [if_neg c1] at h1
     split at h0
     ·omega
     ·rename_i c2
      rw [if_neg c2] at h1
      refine ⟨b.toNat - 48,by omega,?_⟩
      unfold smallG
      rw [if_pos (by omega),← u8_eqG (b := b) (by omega)]
   | [b,b2] =>
    have hb := b.toNat_lt
    have hb48 : b.toNat ≠ 48 := fun e => hc (.inr (.inr ⟨by simp,by rw [u8_eqG e];rfl⟩))
    simp only [digFrom] at h0 h1
    split at h0
    ·omega
    ·rename_i c1
     rw [if_neg c1] at h1
     split at h0
     ·omega
     ·rename_i c2
      rw [if_neg c2] at h1
      split at h0
      ·omega
      ·rename_i c3
       rw [if_neg c3] at h1
       split at h0
       ·omega
       ·rename_i c4
        rw [if_neg c4] at h1
        refine ⟨(b.toNat - 48) * 10 + (b2.toNat - 48),by omega,?_⟩
        unfold smallG
        rw [if_neg (by omega),← u8_eqG (b := b) (by omega),← u8_eqG (b := b2) (by omega)]
   | b :: b2 :: b3 :: l =>
    exfalso
    have hb48 : b.toNat ≠ 48 := fun e => hc (.inr (.inr ⟨by simp,by rw [u8_eqG e];rfl⟩))
    unfold digFrom at h0 h1
    split at h0
    ·omega
    ·rename_i c1
     rw [if_neg c1] at h1
     split at h0
     ·omega
     ·rename_i c2
      rw [if_neg c2] at h1
      unfold digFrom at h0 h1
      split at h0
      ·omega
      ·rename_i c3
       rw [if_neg c3] at h1
       split at h0
       ·omega
       ·rename_i c4
        rw [if_neg c4] at h1
        rcases digFrom_ge (b3 :: l) ((0 * 10 + ((b.toNat : Int) - 48)) * 10 + ((b2.toNat : Int) - 48)) (by omega) with e | e
        ·omega
        ·unfold digFrom at h0 h1
         split at h0
         ·omega
         ·rename_i c5
          rw [if_neg c5] at h1
          split at h0
          ·omega
          ·rename_i c6
           rw [if_neg c6] at h1
           rcases digFrom_ge l (((0 * 10 + ((b.toNat : Int) - 48)) * 10 + ((b2.toNat : Int) - 48)) * 10 + ((b3.toNat : Int) - 48)) (by omega) with e | e <;> omega
 obtain ⟨n,hn,rfl⟩ := key
 have := small_numG ⟨n,hn⟩
 simp only at this
 rw [this]
def specRow (w : List UInt8) : List Int := if w = [] then [] else (splitU 46 w).map specNum
theorem rd_wordG (ws : List (List UInt8)) (i : Nat) (w : List UInt8) (t : List (List UInt8)) (h : ws.drop i = w :: t) : rdOf ByteArray.empty (ws.map bsP) (i : Int) = bsP w ∧ i < ws.length ∧ ws.drop (i + 1) = t := by
 have hl : i < ws.length := by
  by_cases hh : i < ws.length
  ·exact hh
  ·rw [List.drop_of_length_le (by omega)] at h;cases h
 rw [List.drop_eq_getElem_cons hl] at h
 obtain ⟨e1,e2⟩ := List.cons.inj h
 refine ⟨?_,hl,e2⟩
 unfold rdOf
 rw [Int.toNat_natCast,List.getD_eq_getElem?_getD,List.getElem?_map,List.getElem?_eq_getElem hl,e1]
 rfl
theorem readRow_loop (x4 : List ByteArray) (x6 : Int) (rows : List (List Int)) (r : List (List Int) × Bool) (hr : rows.length < 5864062014805) (ws : List (List UInt8)) (hn : ws.length ≤ 4294967281) (hw : ∀ w ∈ ws, w.length ≤ 4294967280) : ∀ (d i : Nat) (acc : List Int), i + d = ws.length → acc.length ≤ i →
 Ev (fun k => Zq.l0 k x4 (wrap64 (x6 + 1)) (rows ++ [acc ++ (ws.drop i).map specNum])) r → Ev (fun k => Zq.l1 k x4 x6 acc (ws.map bsP) (i : Int) rows) r
 | 0,i,acc,hd,ha,h => by
  rw [List.drop_of_length_le (by omega),List.map_nil,List.append_nil] at h
  refine Ev.step (fun k => ?_) h
  rw [Zq.l1,if_neg (by rw [List.length_map];omega),if_pos hr]
 | d + 1,i,acc,hd,ha,h => by
  obtain ⟨w,t,hw0⟩ : ∃ w t,ws.drop i = w :: t := ⟨_,_,List.drop_eq_getElem_cons (by omega)⟩
  obtain ⟨h1,h2,h3⟩ := rd_wordG ws i w t hw0
  have hlw : w.length ≤ 4294967280 := hw w (List.mem_of_mem_drop (i := i) (by rw [hw0];simp))
  have hx : wrap64 ((i : Int) + 1) = ((i + 1 : Nat) : Int) := by rw [wrapS (by omega) (by omega)];rfl
  have ih := readRow_loop x4 x6 rows r hr ws hn hw d (i + 1) (acc ++ [specNum w]) (by omega) (by simp;omega) (by
   rw [h3]
   rw [hw0] at h
   simpa using h)
  have hstep : ∀ k,Zq.l1 (k + 1) x4 x6 acc (ws.map bsP) (i : Int) rows = (Zi.f k (bsP w)).bind fun t266 => (if acc.length < 17592186044416 then (Zq.l1 k x4 x6 (acc ++ [t266]) (ws.map bsP) ((i + 1 : Nat) : Int) rows) else (none)) := by
   intro k
   rw [Zq.l1,if_pos (by rw [List.length_map];omega),if_pos (by omega),h1,hx]
  refine Ev.step hstep (Ev.bind (specNum_ev w hlw) ?_)
  exact Ev.congr (fun k => by rw [if_pos (by omega)]) ih
theorem read_loop (r : List (List Int) × Bool) (ws : List (List UInt8)) (hn : ws.length ≤ 4294967281) (hw : ∀ w ∈ ws, w.length ≤ 4294967280)
 (hend : Ev (fun k => (Zj.f k (ws.map specRow)).bind fun t253 => (if t253 = true then (some (ws.map specRow,true)) else (some (([] : List (List Int)),false)))) r) : ∀ (d i : Nat),i + d = ws.length →
 Ev (fun k => Zq.l0 k (ws.map bsP) (i : Int) ((ws.take i).map specRow)) r
 | 0,i,hd => by
  have e : (ws.take i).map specRow = ws.map specRow := by rw [List.take_of_length_le (by omega)]
  rw [e]
  refine Ev.step (fun k => ?_) hend
  rw [Zq.l0,if_neg (by rw [List.length_map];omega)]
 | d + 1,i,hd => by
  obtain ⟨w,t,hw0⟩ : ∃ w t,ws.drop i = w :: t := ⟨_,_,List.drop_eq_getElem_cons (by omega)⟩
  obtain ⟨h1,h2,h3⟩ := rd_wordG ws i w t hw0
  have hlw : w.length ≤ 4294967280 := hw w (List.mem_of_mem_drop (i := i) (by rw [hw0];simp))
  have hx : wrap64 ((i : Int) + 1) = ((i + 1 : Nat) : Int) := by rw [wrapS (by omega) (by omega)];rfl
  have hget : ws[i]? = some w := by
   have := congrArg List.head? hw0
   rw [List.head?_drop] at this
   exact this
  have ht : (ws.take (i + 1)).map specRow = (ws.take i).map specRow ++ [specRow w] := by
   rw [List.take_add_one,hget]
   simp
  have ih := read_loop r ws hn hw hend d (i + 1) (by omega)
  rw [ht] at ih
  have hlen : ((ws.take i).map specRow).length < 5864062014805 := by rw [List.length_map,List.length_take];omega
  by_cases he : w = []
  ·refine Ev.step (fun k => ?_) ih
   rw [Zq.l0,if_pos (by rw [List.length_map];omega),Option.bind_some,if_pos (by omega),h1,if_pos (by rw [ByteArray.toList_eq,bsP_data,he]),if_pos hlen,hx]
   unfold specRow
   rw [if_pos he]
  ·have hsp := splitS_ev (bsP w) 46 (by rw [bsP_size];omega)
   rw [bsP_data] at hsp
   have hl := splitU_len 46 w
   have row := readRow_loop (ws.map bsP) (i : Int) ((ws.take i).map specRow) r hlen (splitU 46 w) (by omega) (fun v hv => Nat.le_trans (split_word_len 46 w v hv) hlw) (splitU 46 w).length 0 [] (by omega) (Nat.le_refl _) (by
    rw [hx,List.drop_zero,List.nil_append]
    have : specRow w = (splitU 46 w).map specNum := by unfold specRow;rw [if_neg he]
    rw [← this]
    exact ih)
   refine Ev.step (fun k => ?_) (Ev.bind (f := fun k t => Zq.l1 k (ws.map bsP) (i : Int) [] t 0 ((ws.take i).map specRow)) hsp row)
   rw [Zq.l0,if_pos (by rw [List.length_map];omega),Option.bind_some,if_pos (by omega),h1,if_neg (by rw [ByteArray.toList_eq,bsP_data];exact he)]
   rfl
def implFromG : List Int → List (List UInt8) → List Int × Bool
 | acc,[] => (acc,true)
 | acc,w :: t => if (numOf w 40).2 = true then implFromG (acc ++ [(numOf w 40).1]) t else ([],false)
def implRow (s : List UInt8) : List Int × Bool := if s = [] then ([], true) else implFromG [] (splitU 46 s)
theorem implRow_loop (ws : List (List UInt8)) (hn : ws.length ≤ 4294967281) (hw : ∀ w ∈ ws, w.length ≤ 4294967280) : ∀ (d i : Nat) (acc : List Int), i + d = ws.length → acc.length ≤ i →
 Ev (fun k => ZJ.l0 k 40 acc (ws.map bsP) (ws.length : Int) (i : Int)) (implFromG acc (ws.drop i))
 | 0,i,acc,hd,ha => by
  rw [List.drop_of_length_le (by omega)]
  refine Ev.step (f := fun _ => some (acc,true)) (fun k => ?_) (Ev.now _)
  rw [ZJ.l0,if_neg (by omega)]
 | d + 1,i,acc,hd,ha => by
  obtain ⟨w,t,h⟩ : ∃ w t,ws.drop i = w :: t := ⟨_,_,List.drop_eq_getElem_cons (by omega)⟩
  obtain ⟨h1,h2,h3⟩ := rd_wordG ws i w t h
  have hlw : w.length ≤ 4294967280 := hw w (List.mem_of_mem_drop (i := i) (by rw [h];simp))
  have hnum : Zaw.f (bsP w) 40 = some (numOf w 40) := by
   unfold Zaw.f
   rw [if_pos (by rw [bsP_size];omega),bsP_data]
  have hx : wrap64 ((i : Int) + 1) = ((i + 1 : Nat) : Int) := by rw [wrapS (by omega) (by omega)];rfl
  rw [h,implFromG]
  by_cases hok : (numOf w 40).2 = true
  ·rw [if_pos hok]
   have ih := implRow_loop ws hn hw d (i + 1) (acc ++ [(numOf w 40).1]) (by omega) (by simp;omega)
   rw [h3] at ih
   refine Ev.step (fun k => ?_) ih
   rw [ZJ.l0,if_pos (by omega),if_pos (by omega),if_pos (by rw [List.length_map];omega),h1,hnum,Option.bind_some,if_pos hok,if_pos (by omega),hx]
  ·rw [if_neg hok]
   refine Ev.step (f := fun _ => some ([],false)) (fun k => ?_) (Ev.now _)
   rw [ZJ.l0,if_pos (by omega),if_pos (by omega),if_pos (by rw [List.length_map];omega),h1,hnum,Option.bind_some,if_neg hok]
theorem implRow_ev (s : List UInt8) (hs : s.length ≤ 4294967280) : Ev (fun k => ZJ.f k (bsP s) (⟨#[46]⟩ : ByteArray) 40) (implRow s) := by
 have hnil : (bsP s).toList = ([] : List UInt8) ↔ s = [] := by rw [ByteArray.toList_eq,bsP_data]
 unfold implRow
 by_cases h : s = []
 ·rw [if_pos h]
  refine Ev.congr (f := fun _ => some ([],true)) (fun k => ?_) (Ev.now _)
  rw [ZJ.f,Option.bind_some,if_pos (hnil.2 h)]
 ·rw [if_neg h]
  have hl := splitU_len 46 s
  have hv := strings_Split_val (bsP s) 46 (by rw [bsP_size];omega)
  rw [bsP_data] at hv
  have hlp := implRow_loop (splitU 46 s) (by omega) (fun w hw => Nat.le_trans (split_word_len 46 s w hw) hs) (splitU 46 s).length 0 [] (by omega) (Nat.le_refl _)
  rw [List.drop_zero] at hlp
  refine Ev.congr (fun k => ?_) hlp
  rw [ZJ.f,Option.bind_some,if_neg (fun x => h (hnil.1 x)),hv,Option.bind_some,List.length_map]
  rfl
theorem fromG_same : ∀ (ws : List (List UInt8)) (acc : List Int), (implFromG acc ws).2 = true → (implFromG acc ws).1 = acc ++ ws.map specNum
 | [],acc,_ => by simp [implFromG]
 | w :: t,acc,h => by
  unfold implFromG at h ⊢
  by_cases hok : (numOf w 40).2 = true
  ·rw [if_pos hok] at h ⊢
   obtain ⟨e1,_,_⟩ := num_someG hok
   rw [fromG_same t _ h,← e1]
   simp
  ·rw [if_neg hok] at h
   cases h
theorem fromG_bad : ∀ (ws : List (List UInt8)) (acc : List Int), (implFromG acc ws).2 = false → ∃ x ∈ ws.map specNum, x < 0 ∨ 40 < x
 | [],acc,h => by cases h
 | w :: t,acc,h => by
  unfold implFromG at h
  by_cases hok : (numOf w 40).2 = true
  ·rw [if_pos hok] at h
   obtain ⟨x,hx,h2⟩ := fromG_bad t _ h
   exact ⟨x,by simp at hx ⊢;exact .inr hx,h2⟩
  ·refine ⟨specNum w,by simp,?_⟩
   by_cases h0 : 0 ≤ specNum w
   ·by_cases h40 : specNum w ≤ 40
    ·exact absurd (ZaB h0 h40) hok
    ·exact .inr (by omega)
   ·exact .inl (by omega)
theorem row_same {s : List UInt8} (h : (implRow s).2 = true) : (implRow s).1 = specRow s := by
 unfold implRow specRow at *
 by_cases hs : s = []
 ·rw [if_pos hs,if_pos hs]
 ·rw [if_neg hs] at h ⊢
  rw [if_neg hs,fromG_same _ _ h,List.nil_append]
theorem row_bad {s : List UInt8} (h : (implRow s).2 = false) : ∃ x ∈ specRow s, x < 0 ∨ 40 < x := by
 unfold implRow specRow at *
 by_cases hs : s = []
 ·rw [if_pos hs] at h;cases h
 ·rw [if_neg hs] at h ⊢
  exact fromG_bad _ _ h
theorem parseG_good (r : List (List Int) × Int) (ws : List (List UInt8)) (hn : ws.length ≤ 4294967281) (hw : ∀ w ∈ ws, w.length ≤ 4294967280) (hok : ∀ w ∈ ws, (implRow w).2 = true)
 (hend : Ev (fun k => (Zn.f k (ws.map specRow)).bind fun t300 => (if t300 = true then (some (ws.map specRow,0)) else (some (([] : List (List Int)),6)))) r) : ∀ (d i : Nat),i + d = ws.length →
 Ev (fun k => Zr.l0 k (ws.map bsP) (ws.length : Int) (i : Int) ((ws.take i).map specRow)) r
 | 0,i,hd => by
  have e : (ws.take i).map specRow = ws.map specRow := by rw [List.take_of_length_le (by omega)]
  rw [e]
  refine Ev.step (fun k => ?_) hend
  rw [Zr.l0,if_neg (by omega)]
 | d + 1,i,hd => by
  obtain ⟨w,t,hw0⟩ : ∃ w t,ws.drop i = w :: t := ⟨_,_,List.drop_eq_getElem_cons (by omega)⟩
  obtain ⟨h1,h2,h3⟩ := rd_wordG ws i w t hw0
  have hm : w ∈ ws := List.mem_of_mem_drop (i := i) (by rw [hw0];simp)
  have hx : wrap64 ((i : Int) + 1) = ((i + 1 : Nat) : Int) := by rw [wrapS (by omega) (by omega)];rfl
  have hget : ws[i]? = some w := by
   have := congrArg List.head? hw0
   rw [List.head?_drop] at this
   exact this
  have ht : (ws.take (i + 1)).map specRow = (ws.take i).map specRow ++ [specRow w] := by
   rw [List.take_add_one,hget]
   simp
  have ih := parseG_good r ws hn hw hok hend d (i + 1) (by omega)
  rw [ht] at ih
  have hlen : ((ws.take i).map specRow).length < 5864062014805 := by rw [List.length_map,List.length_take];omega
  refine Ev.step (fun k => ?_) (Ev.bind (f := fun k bt293 => (if bt293.2 = true then (if ((ws.take i).map specRow).length < 5864062014805 then (Zr.l0 k (ws.map bsP) (ws.length : Int) ((i + 1 : Nat) : Int) ((ws.take i).map specRow ++ [bt293.1])) else (none)) else (some (([] : List (List Int)),6)))) (implRow_ev w (hw w hm)) ?_)
  ·rw [Zr.l0,if_pos (by omega),if_pos (by omega),if_pos (by rw [List.length_map];omega),h1,hx]
  ·refine Ev.congr (fun k => ?_) ih
   rw [if_pos (hok w hm),if_pos hlen,row_same (hok w hm)]
theorem parseG_bad (ws : List (List UInt8)) (hn : ws.length ≤ 4294967281) (hw : ∀ w ∈ ws, w.length ≤ 4294967280) : ∀ (d i : Nat) (rows : List (List Int)), i + d = ws.length → rows.length ≤ i → (∃ w ∈ ws.drop i, (implRow w).2 = false) →
 Ev (fun k => Zr.l0 k (ws.map bsP) (ws.length : Int) (i : Int) rows) ([],6)
 | 0,i,rows,hd,hr,hb => by
  rw [List.drop_of_length_le (by omega)] at hb
  obtain ⟨w,h,_⟩ := hb
  cases h
 | d + 1,i,rows,hd,hr,hb => by
  obtain ⟨w,t,hw0⟩ : ∃ w t,ws.drop i = w :: t := ⟨_,_,List.drop_eq_getElem_cons (by omega)⟩
  obtain ⟨h1,h2,h3⟩ := rd_wordG ws i w t hw0
  have hm : w ∈ ws := List.mem_of_mem_drop (i := i) (by rw [hw0];simp)
  have hx : wrap64 ((i : Int) + 1) = ((i + 1 : Nat) : Int) := by rw [wrapS (by omega) (by omega)];rfl
  refine Ev.step (fun k => ?_) (Ev.bind (f := fun k bt293 => (if bt293.2 = true then (if rows.length < 5864062014805 then (Zr.l0 k (ws.map bsP) (ws.length : Int) ((i + 1 : Nat) : Int) (rows ++ [bt293.1])) else (none)) else (some (([] : List (List Int)),6)))) (implRow_ev w (hw w hm)) ?_)
  ·rw [Zr.l0,if_pos (by omega),if_pos (by omega),if_pos (by rw [List.length_map];omega),h1,hx]
  ·by_cases hk : (implRow w).2 = true
   ·have ih := parseG_bad ws hn hw d (i + 1) (rows ++ [(implRow w).1]) (by omega) (by simp;omega) (by
     rw [h3]
     rw [hw0] at hb
     obtain ⟨v,hv,hf⟩ := hb
     rcases List.mem_cons.1 hv with e | e
     ·rw [e,hk] at hf;cases hf
     ·exact ⟨v,e,hf⟩)
    refine Ev.congr (fun k => ?_) ih
    rw [if_pos hk,if_pos (by omega)]
   ·exact Ev.congr (f := fun _ => some ([],6)) (fun k => by rw [if_neg hk]) (Ev.now _)
def gameOf (rows : List (List Int)) : List (List Int) × Int := if isGame rows = true then (rows, 0) else ([], 6)
theorem okRow_in (n : Int) : ∀ (l : List Int) (last : Int), okRow last n l = true → ∀ x ∈ l, last < x ∧ x < n
 | [],_,_,x,hx => by cases hx
 | y :: r,last,h,x,hx => by
  simp only [okRow,Bool.and_eq_true,decide_eq_true_eq] at h
  rcases List.mem_cons.1 hx with e | e
  ·rw [e];exact ⟨h.1,h.2.1⟩
  ·have := okRow_in n r y h.2.2 x e
   exact ⟨by omega,this.2⟩
theorem okRows_in (n : Int) : ∀ (g : List (List Int)) (p : Int), 0 ≤ p → okRows n p g = true → ∀ row ∈ g, ∀ x ∈ row, 0 ≤ x ∧ x < n
 | [],_,_,_,row,hr,_,_ => by cases hr
 | y :: r,p,hp,h,row,hr,x,hx => by
  simp only [okRows,Bool.and_eq_true] at h
  rcases List.mem_cons.1 hr with e | e
  ·rw [e] at hx
   have := okRow_in n y p h.1 x hx
   exact ⟨by omega,this.2⟩
  ·exact okRows_in n r (p + 1) (by omega) h.2 row e x hx
theorem isGame_in {g : List (List Int)} (h : isGame g = true) : g.length ≤ 40 ∧ ∀ row ∈ g, ∀ x ∈ row, 0 ≤ x ∧ x ≤ 40 := by
 simp only [isGame,Bool.and_eq_true,decide_eq_true_eq] at h
 refine ⟨h.2.1,fun row hr x hx => ?_⟩
 have := okRows_in g.length g 0 (by omega) h.2.2 row hr x hx
 exact ⟨this.1,by omega⟩
theorem specRow_len (w : List UInt8) : (specRow w).length ≤ w.length + 1 := by
 unfold specRow
 split
 ·simp
 ·rw [List.length_map];exact splitU_len 46 w
theorem rows_small (s : List UInt8) (hs : s.length ≤ 4294967280) : ∀ row ∈ (splitU 44 s).map specRow, row.length ≤ 4294967281 := by
 intro row hr
 obtain ⟨w,hw,rfl⟩ := List.mem_map.1 hr
 have h1 := specRow_len w
 have h2 := split_word_len 44 s w hw
 omega
theorem totalLe (M : Nat) : ∀ g : List (List Int), (∀ row ∈ g, row.length ≤ M) → total g ≤ (g.length * M : Nat)
 | [],_ => by simp [total]
 | y :: r,h => by
  have h1 := totalLe M r (fun row hr => h row (List.mem_cons_of_mem _ hr))
  have h2 := h y (by simp)
  have e : (y :: r).length * M = r.length * M + M := by rw [List.length_cons,Nat.succ_mul]
  rw [e]
  simp only [total]
  omega
theorem gameOf_small (s : List UInt8) (hs : s.length ≤ 4294967280) : (gameOf ((splitU 44 s).map specRow)).1.length ≤ 40 ∧ total (gameOf ((splitU 44 s).map specRow)).1 ≤ 171798691240 ∧ ∀ row ∈ (gameOf ((splitU 44 s).map specRow)).1, row.length ≤ 4294967281 := by
 unfold gameOf
 split
 ·rename_i h
  have h1 := (isGame_in h).1
  have h2 := totalLe 4294967281 _ (rows_small s hs)
  refine ⟨h1,?_,rows_small s hs⟩
  have h3 : ((splitU 44 s).map specRow).length * 4294967281 ≤ 40 * 4294967281 := Nat.mul_le_mul_right _ h1
  exact Int.le_trans h2 (by omega)
 ·exact ⟨by simp,by simp [total],fun row hr => by cases hr⟩
theorem ZaD (s : ByteArray) (hs : s.size ≤ 4294967280) : Ev (fun k => Zac.f k s) (gameOf ((splitU 44 s.data.toList).map specRow)) := by
 have hz := Lib.size_eq s
 have hn := splitU_len 44 s.data.toList
 have hw : ∀ w ∈ splitU 44 s.data.toList,w.length ≤ 4294967280 := fun w h => by have := split_word_len 44 s.data.toList w h;omega
 have hrow := rows_small s.data.toList (by omega)
 have hI := l01Is_ev ((splitU 44 s.data.toList).map specRow) (fun row h => by have := hrow row h;omega) (by rw [List.length_map];omega)
 have hR := read_loop (if isGame ((splitU 44 s.data.toList).map specRow) = true then ((splitU 44 s.data.toList).map specRow,true) else ([],false)) (splitU 44 s.data.toList) (by omega) hw (by
  refine Ev.bind hI ?_
  split <;> exact Ev.now _) (splitU 44 s.data.toList).length 0 (by omega)
 have hRead : Ev (fun k => Zq.f k s) (if isGame ((splitU 44 s.data.toList).map specRow) = true then ((splitU 44 s.data.toList).map specRow,true) else ([],false)) := by
  unfold Zq.f
  exact Ev.bind (splitS_ev s 44 hs) hR
 unfold Zac.f
 refine Ev.bind hRead ?_
 unfold gameOf
 by_cases h : isGame ((splitU 44 s.data.toList).map specRow) = true
 ·rw [if_pos h,if_pos h]
  exact Ev.congr (f := fun _ => some _) (fun k => by rw [if_pos rfl]) (Ev.now _)
 ·rw [if_neg h,if_neg h]
  exact Ev.congr (f := fun _ => some _) (fun k => by rw [if_neg (fun e => Bool.noConfusion e)]) (Ev.now _)
theorem ZaC (s : ByteArray) (hs : s.size ≤ 4294967280) : Ev (fun k => Zr.f k s) (gameOf ((splitU 44 s.data.toList).map specRow)) := by
 have hz := Lib.size_eq s
 have hn := splitU_len 44 s.data.toList
 have hw : ∀ w ∈ splitU 44 s.data.toList,w.length ≤ 4294967280 := fun w h => by have := split_word_len 44 s.data.toList w h;omega
 have hrow := rows_small s.data.toList (by omega)
 have hI := IsGame_ev ((splitU 44 s.data.toList).map specRow) (fun row h => by have := hrow row h;omega) (by rw [List.length_map];omega)
 have hl : (((splitU 44 s.data.toList).map bsP).length : Int) = ((splitU 44 s.data.toList).length : Int) := by rw [List.length_map]
 unfold Zr.f
 refine Ev.congr (fun k => by rw [strings_Split_val s 44 hs,Option.bind_some,hl]) ?_
 by_cases hok : ∀ w ∈ splitU 44 s.data.toList,(implRow w).2 = true
 ·refine parseG_good _ (splitU 44 s.data.toList) (by omega) hw hok ?_ (splitU 44 s.data.toList).length 0 (by omega)
  refine Ev.bind hI ?_
  unfold gameOf
  by_cases h : isGame ((splitU 44 s.data.toList).map specRow) = true
  ·rw [if_pos h]
   exact Ev.congr (f := fun _ => some _) (fun k => by rw [if_pos h]) (Ev.now _)
  ·rw [if_neg h]
   exact Ev.congr (f := fun _ => some _) (fun k => by rw [if_neg h]) (Ev.now _)
 ·have hb : ∃ w ∈ (splitU 44 s.data.toList).drop 0,(implRow w).2 = false := by
   rw [List.drop_zero]
   refine Classical.byContradiction fun hc => hok fun w hw0 => ?_
   cases e : (implRow w).2 with
   | true => rfl
   | false => exact absurd ⟨w,hw0,e⟩ hc
  have hbad := parseG_bad (splitU 44 s.data.toList) (by omega) hw (splitU 44 s.data.toList).length 0 [] (by omega) (by simp) hb
  have e : gameOf ((splitU 44 s.data.toList).map specRow) = ([],6) := by
   unfold gameOf
   rw [if_neg]
   intro hg
   obtain ⟨w,hw0,hf⟩ := hb
   rw [List.drop_zero] at hw0
   obtain ⟨x,hx,hlt⟩ := row_bad hf
   have := (isGame_in hg).2 _ (List.mem_map_of_mem hw0) x hx
   omega
  rw [e]
  exact hbad
theorem split_app (c : UInt8) : ∀ (w l : List UInt8), c ∉ w → splitU c (w ++ l) = consHead w (splitU c l)
 | [],l,_ => by rw [List.nil_append,consHead_nil]
 | b :: w,l,h => by
  have hb : b ≠ c := fun e => h (by simp [e])
  rw [List.cons_append,splitU,if_neg hb,split_app c w l (fun e => h (by simp [e])),consHead_two]
  rfl
theorem split_flat (c : UInt8) : ∀ (t : List (List UInt8)) (j : Nat) (w : List UInt8), c ∉ w → (∀ v ∈ t, c ∉ v) → splitU c (w ++ flatU c (j + 1) t) = w :: t
 | [],j,w,hw,_ => by rw [split_app c w _ hw,flatU,splitU,consHead,List.append_nil]
 | v :: t,j,w,hw,ht => by
  have ih := split_flat c t (j + 1) v (ht v (by simp)) (fun u hu => ht u (by simp [hu]))
  rw [split_app c w _ hw,flatU,if_neg (by omega),List.append_assoc]
  show consHead w (splitU c (c :: (v ++ flatU c (j + 1 + 1) t))) = _
  rw [splitU,if_pos rfl,ih,consHead,List.append_nil]
theorem split_flat0 (c : UInt8) (ws : List (List UInt8)) (hn : ws ≠ []) (h : ∀ v ∈ ws, c ∉ v) : splitU c (flatU c 0 ws) = ws := by
 cases ws with
 | nil => exact absurd rfl hn
 | cons w t =>
  rw [flatU,if_pos rfl,List.nil_append]
  exact split_flat c t 0 w (h w (by simp)) (fun v hv => h v (by simp [hv]))
theorem dig_small {x : Int} (h0 : 0 ≤ x) (h1 : x ≤ 40) : dig x = smallG x.toNat := by
 unfold dig smallG
 by_cases c : x.toNat < 10
 ·rw [if_pos c,Lib.decDigits_one c]
 ·rw [if_neg c,Lib.decDigits_two (by omega) (by omega)]
theorem small_signs : ∀ n : Fin 41, smallG n.val ≠ [] ∧ (44 : UInt8) ∉ smallG n.val ∧ (46 : UInt8) ∉ smallG n.val := by decide
theorem dig_facts {x : Int} (h0 : 0 ≤ x) (h1 : x ≤ 40) : specNum (dig x) = x ∧ dig x ≠ [] ∧ (44 : UInt8) ∉ dig x ∧ (46 : UInt8) ∉ dig x := by
 have hs := small_specG ⟨x.toNat,by omega⟩
 have hg := small_signs ⟨x.toNat,by omega⟩
 rw [dig_small h0 h1]
 exact ⟨by rw [hs.1];show ((x.toNat : Nat) : Int) = x;omega,hg⟩
theorem flat_not (c s : UInt8) (hc : c ≠ s) : ∀ (ws : List (List UInt8)) (j : Nat), (∀ v ∈ ws, c ∉ v) → c ∉ flatU s j ws
 | [],j,_ => by simp [flatU]
 | v :: t,j,h => by
  have ih := flat_not c s hc t (j + 1) (fun u hu => h u (by simp [hu]))
  rw [flatU]
  simp only [List.mem_append,not_or]
  refine ⟨⟨?_,h v (by simp)⟩,ih⟩
  split
  ·simp
  ·simp [hc]
theorem row_back {row : List Int} (h : ∀ x ∈ row, 0 ≤ x ∧ x ≤ 40) : specRow (textU 46 row) = row ∧ (44 : UInt8) ∉ textU 46 row := by
 have h46 : ∀ v ∈ row.map dig,(46 : UInt8) ∉ v := fun v hv => by
  obtain ⟨x,hx,rfl⟩ := List.mem_map.1 hv
  exact (dig_facts (h x hx).1 (h x hx).2).2.2.2
 have h44 : ∀ v ∈ row.map dig,(44 : UInt8) ∉ v := fun v hv => by
  obtain ⟨x,hx,rfl⟩ := List.mem_map.1 hv
  exact (dig_facts (h x hx).1 (h x hx).2).2.2.1
 refine ⟨?_,flat_not 44 46 (by decide) _ 0 h44⟩
 cases row with
 | nil => rfl
 | cons x t =>
  have hx := dig_facts (h x (by simp)).1 (h x (by simp)).2
  have hne : textU 46 (x :: t) ≠ [] := by
   unfold textU
   rw [List.map_cons,flatU,if_pos rfl,List.nil_append]
   intro e
   exact hx.2.1 (List.append_eq_nil_iff.1 e).1
  unfold specRow
  rw [if_neg hne]
  unfold textU
  rw [split_flat0 46 _ (by simp) h46,List.map_map]
  have : ∀ l : List Int,(∀ x ∈ l,0 ≤ x ∧ x ≤ 40) → l.map (specNum ∘ dig) = l := fun l hl => by
   induction l with
   | nil => rfl
   | cons a r ih => rw [List.map_cons,ih (fun y hy => hl y (by simp [hy])),Function.comp_apply,(dig_facts (hl a (by simp)).1 (hl a (by simp)).2).1]
  exact this _ h
theorem game_back {g : List (List Int)} (h : isGame g = true) : gameOf ((splitU 44 (gameTextU g)).map specRow) = (g, 0) := by
 have hin := isGame_in h
 have hne : g.map (textU 46) ≠ [] := by
  have := (game_len h).1
  intro e
  have := congrArg List.length e
  simp at this
  subst this
  simp at *
 have hg : (splitU 44 (gameTextU g)).map specRow = g := by
  unfold gameTextU
  rw [split_flat0 44 _ hne (fun v hv => by
   obtain ⟨row,hr,rfl⟩ := List.mem_map.1 hv
   exact (row_back (hin.2 row hr)).2),List.map_map]
  have : ∀ l : List (List Int),(∀ row ∈ l,∀ x ∈ row,0 ≤ x ∧ x ≤ 40) → l.map (specRow ∘ textU 46) = l := fun l hl => by
   induction l with
   | nil => rfl
   | cons a r ih => rw [List.map_cons,ih (fun y hy => hl y (by simp [hy])),Function.comp_apply,(row_back (hl a (by simp))).1]
  exact this g hin.2
 rw [hg]
 unfold gameOf
 rw [if_pos h]
theorem ends_has {g : List (List Int)} {p : Nat} {row : List Int} (hr : g[p]? = some row) : decide ((p : Int) ∈ endsUpto g g.length) = ((row.length : Int) == 0) := by
 have hp := (List.getElem?_eq_some_iff.1 hr).1
 have e : endRow g p = ((row.length : Int) == 0) := by unfold endRow;rw [getD_of hr]
 rw [← e]
 by_cases c : endRow g p = true
 ·rw [c]
  refine decide_eq_true ?_
  unfold endsUpto
  exact List.mem_map.2 ⟨p,List.mem_filter.2 ⟨List.mem_range.2 hp,c⟩,rfl⟩
 ·rw [Bool.not_eq_true] at c
  rw [c]
  refine decide_eq_false fun h => ?_
  unfold endsUpto at h
  obtain ⟨q,hq,e2⟩ := List.mem_map.1 h
  have : q = p := by omega
  rw [this] at hq
  have := (List.mem_filter.1 hq).2
  rw [c] at this
  exact Bool.noConfusion this
theorem gv_le {g : List (List Int)} (h : isGame g = true) {p : Nat} {row : List Int} (hr : g[p]? = some row) : 0 ≤ gv g p ∧ gv g p ≤ 40 := by
 have h1 := gv_at h hr
 have h2 := (mexOf_is (row.map fun q => gv g q.toNat)).1
 rw [List.length_map] at h2
 have h3 := (game_row h hr).2
 rw [h1]
 unfold mexI
 omega
theorem num_two {a b : Int} (ha : 0 ≤ a) (hb : 0 ≤ b) : nimOf [a, b] = (nimFrom 0 [a, b], 0) := by
 have e : areNum [a,b] = true := by
  unfold areNum
  rw [decide_eq_true (by simp),List.any_cons,List.any_cons,decide_eq_false (by omega),decide_eq_false (by omega)]
  rfl
 unfold nimOf
 rw [if_pos e]
theorem rd_gv (g : List (List Int)) {q : Int} : rd (backs mexI 0 g) q = gv g q.toNat := rfl
theorem j10_ok (l : List Int) (hb : Bytes l) (hl : l.length ≤ 4096) : Ev (fun k => Za.j10 k l) true := by
 obtain ⟨xs,e1,hx⟩ := mex_draw l hb hl
 obtain ⟨t,e2,ht⟩ := line_draw l hb hl
 have hs := gameOf_small t.data.toList (by have := Lib.size_eq t;omega)
 refine Ev.step (fun k => by rw [Za.j10]) (Ev.bind e1 ?_)
 refine Ev.bind (MexI_ev xs (by omega)) ?_
 refine Ev.bind (MexS_ev xs (by omega)) ?_
 refine Ev.bind (nimi_ev xs (by omega)) ?_
 refine Ev.bind (nims_ev xs (by omega)) ?_
 refine Ev.bind e2 ?_
 refine Ev.bind (ZaC t ht) ?_
 refine Ev.bind (ZaD t ht) ?_
 refine Ev.congr (fun k => by rw [if_pos rfl,if_pos rfl,if_pos rfl,if_pos rfl,if_pos rfl]) ?_
 exact Ev.bind (games_ev _ (by have := hs.1;omega) (fun row hr => by have := hs.2.2 row hr;omega)) (Ev.now _)
theorem succ_wrap {j : Nat} (h : j < 1000000) : wrap64 ((j : Int) + 1) = ((j + 1 : Nat) : Int) := by rw [wrapS (by omega) (by omega), cast_succ]
theorem place_wrap {a b i j : Nat} (hi : i < a) (hj : j < b) (ha : a ≤ 40) (hb : b ≤ 40) : wrap64 (wrap64 ((b : Int) * (i : Int)) + (j : Int)) = ((b * i + j : Nat) : Int) := by
 have hm : b * i ≤ 40 * 40 := Nat.mul_le_mul hb (by omega)
 rw [show (b : Int) * (i : Int) = ((b * i : Nat) : Int) from (Int.natCast_mul b i).symm]
 generalize b * i = x at hm ⊢
 rw [wrapS (i := (x : Int)) (by omega) (by omega),wrapS (by omega) (by omega)]
 omega
theorem l3_ok {g h : List (List Int)} (hg : isGame g = true) (hh : isGame h = true) (hn : (g.length : Int) * (h.length : Int) ≤ 40) (l : List Int) (i : Nat) (hi : i < g.length)
 (next : Ev (fun k => Za.l2 k l (backs mexI 0 g) (backs mexI 0 h) (backs mexI 0 (gridS g h g.length 0)) (g.length : Int) ((i + 1 : Nat) : Int)) true) : ∀ d j : Nat,j + d = h.length →
 Ev (fun k => Za.l3 k l (backs mexI 0 g) (backs mexI 0 h) (backs mexI 0 (gridS g h g.length 0)) (i : Int) (g.length : Int) (i : Int) (h.length : Int) (j : Int)) true := by
 have hgl := game_len hg
 have hhl := game_len hh
 intro d
 induction d with
 | zero =>
  intro j hj
  refine Ev.step (fun k => ?_) next
  rw [Za.l3,if_neg (by omega),wrapS (by omega) (by omega),cast_succ]
 | succ d ih =>
  intro j hj
  have f1 : (j : Int) < (h.length : Int) := by omega
  have f2 : (0 : Int) ≤ (i : Int) := by omega
  have f3 : (i : Int) < ((backs mexI 0 g).length : Int) := by rw [backs_length];omega
  have f4 : (0 : Int) ≤ (j : Int) := by omega
  have f5 : (j : Int) < ((backs mexI 0 h).length : Int) := by rw [backs_length];omega
  have ih2 := ih (j + 1) (by omega)
  clear ih next
  obtain ⟨rg,hrg⟩ := get_some (xs := g) (i := i) hi
  obtain ⟨rh,hrh⟩ := get_some (xs := h) (i := j) (by omega)
  have ba := gv_le hg hrg
  have bb := gv_le hh hrh
  have hlt : h.length * i + j < g.length * h.length := by
   have h1 : h.length * (i + 1) ≤ h.length * g.length := Nat.mul_le_mul_left _ (by omega)
   rw [Nat.mul_succ,Nat.mul_comm h.length g.length] at h1
   omega
  have hz : (gridS g h g.length 0).length = g.length * h.length := gridS_size g h g.length 0
  have f7 : (0 : Int) ≤ ((h.length * i + j : Nat) : Int) := by omega
  have f8 : ((h.length * i + j : Nat) : Int) < ((backs mexI 0 (gridS g h g.length 0)).length : Int) := by rw [backs_length,hz];omega
  have e1 : rd (backs mexI 0 g) (i : Int) = gv g i := by rw [rd_nat];rfl
  have e2 : rd (backs mexI 0 h) (j : Int) = gv h j := by rw [rd_nat];rfl
  have q1 : gv g i < 4611686018427387904 := by omega
  have q2 : gv h j < 4611686018427387904 := by omega
  have q3 : j < h.length := by omega
  have q4 : g.length * h.length ≤ h.length * i + j + g.length * h.length := Nat.le_add_left _ _
  have f6 := succ_wrap (j := j) (by omega)
  have hx := place_wrap (a := g.length) (b := h.length) (i := i) (j := j) hi q3 hgl.2 hhl.2
  have hS := sum_gv hg hh hn (g.length * h.length) i j hi q3 q4
  have e3 : rd (backs mexI 0 (gridS g h g.length 0)) ((h.length * i + j : Nat) : Int) = (nimFrom 0 [gv g i,gv h j]) := by
   rw [rd_nat,nim_two ba.1 bb.1 q1 q2,← hS];rfl
  refine Ev.step (fun k => by rw [Za.l3,if_pos f1,if_pos f2,if_pos f3,if_pos f4,if_pos f5,e1,e2,show ((backs mexI 0 h).length : Int) = (h.length : Int) by rw [backs_length],hx]) (Ev.bind (nimi_ev [gv g i,gv h j] (by simp)) ?_)
  rw [num_two ba.1 bb.1]
  refine Ev.congr (fun k => ?_) ih2
  rw [if_pos rfl,if_pos f7,if_pos f8,if_pos e3,f6]
theorem l2_ok {g h : List (List Int)} (hg : isGame g = true) (hh : isGame h = true) (hn : (g.length : Int) * (h.length : Int) ≤ 40) (l : List Int) (hb : Bytes l) (hl : l.length ≤ 4096) : ∀ d i : Nat, i + d = g.length →
 Ev (fun k => Za.l2 k l (backs mexI 0 g) (backs mexI 0 h) (backs mexI 0 (gridS g h g.length 0)) (g.length : Int) (i : Int)) true := by
 intro d
 induction d with
 | zero =>
  intro i hi
  refine Ev.step (fun k => ?_) (j10_ok l hb hl)
  rw [Za.l2,if_neg (by omega)]
 | succ d ih =>
  intro i hi
  refine Ev.step (fun k => ?_) (l3_ok hg hh hn l i (by omega) (ih (i + 1) (by omega)) h.length 0 (by omega))
  rw [Za.l2,if_pos (by omega),backs_length]
  rfl
theorem sum_rows (g h : List (List Int)) : (sumOf g h).1.length ≤ 40 ∧ ∀ row ∈ (sumOf g h).1, row.length ≤ 100 := by
 unfold sumOf
 split
 ·rename_i c
  rw [Bool.and_eq_true] at c
  split
  ·rename_i e
   have := isGame_okG (sum_game c.1 c.2 e)
   exact ⟨this.2,fun row hr => (this.1 row hr).2⟩
  ·exact ⟨by simp,fun row hr => by cases hr⟩
 ·exact ⟨by simp,fun row hr => by cases hr⟩
theorem j5_ok (l : List Int) (hb : Bytes l) (hl : l.length ≤ 4096) : Ev (fun k => Za.j5 k l) true := by
 obtain ⟨g,h,eD,sg,sh⟩ := sum_draw l hb hl
 have hz := sum_rows g h
 refine Ev.step (fun k => by rw [Za.j5]) (Ev.bind eD ?_)
 refine Ev.bind (implSum_ev g h sg.rows sg.len sh.rows sh.len) ?_
 refine Ev.bind (specSum_ev g h sg.rows sg.len sh.rows sh.len) ?_
 refine Ev.congr (fun k => by rw [if_pos rfl]) ?_
 refine Ev.bind (games_ev (sumOf g h).1 (by omega) (fun row hr => by have := hz.2 row hr;omega)) ?_
 by_cases c : (isGame g && isGame h) = true ∧ (g.length : Int) * (h.length : Int) ≤ 40
 ·have c1 := (Bool.and_eq_true _ _ ▸ c.1 : isGame g = true ∧ isGame h = true)
  have es : sumOf g h = (gridS g h g.length 0,0) := by unfold sumOf;rw [if_pos c.1,if_pos c.2]
  have hS := sum_game c1.1 c1.2 c.2
  have hk := isGame_okG hS
  have eg : grundies g = (backs mexI 0 g,0) := by unfold grundies;rw [if_pos c1.1]
  have eh : grundies h = (backs mexI 0 h,0) := by unfold grundies;rw [if_pos c1.2]
  have eS : grundies (gridS g h g.length 0) = (backs mexI 0 (gridS g h g.length 0),0) := by unfold grundies;rw [if_pos hS]
  have rg := implGrundy_ev g sg.rows sg.len
  have rh := implGrundy_ev h sh.rows sh.len
  have rS := implGrundy_ev (gridS g h g.length 0) (fun row hr => by have := (hk.1 row hr).2;omega) (by have := hk.2;omega)
  rw [eg] at rg
  rw [eh] at rh
  rw [eS] at rS
  rw [es]
  refine Ev.step (fun k => by rw [Za.j6,if_neg (by decide),if_pos rfl]) (Ev.bind rg ?_)
  refine Ev.bind rh ?_
  refine Ev.bind rS ?_
  refine Ev.congr (fun k => by rw [if_pos rfl,if_pos rfl,if_pos rfl]) ?_
  refine Ev.step (fun k => ?_) (l2_ok c1.1 c1.2 c.2 l hb hl g.length 0 (by omega))
  have e1 : ((backs mexI 0 (gridS g h g.length 0)).length : Int) = wrap64 (((backs mexI 0 g).length : Int) * ((backs mexI 0 h).length : Int)) := by
   have hgl := game_len c1.1
   have hhl := game_len c1.2
   have hm := mul_bound (m := (g.length : Int)) (q := (h.length : Int)) (by omega) (by omega) (by omega) (by omega)
   rw [backs_length,backs_length,backs_length,wrapS (by omega) (by omega),gridS_size]
   simp
  rw [Za.j7]
  show (if (((backs mexI 0 (gridS g h g.length 0)).length : Int) != wrap64 (((backs mexI 0 g).length : Int) * ((backs mexI 0 h).length : Int))) = true then _ else _) = _
  rw [e1,bne_self_eq_false,if_neg (by decide),backs_length]
  rfl
 ·have e : (sumOf g h).2 ≠ 0 := by
   unfold sumOf
   by_cases c1 : (isGame g && isGame h) = true
   ·rw [if_pos c1,if_neg (fun x => c ⟨c1,x⟩)];decide
   ·rw [if_neg c1];decide
  refine Ev.step (fun k => ?_) (j10_ok l hb hl)
  rw [Za.j6,if_neg (by decide),if_neg e]
theorem l1_ok {g : List (List Int)} (hg : isGame g = true) (l : List Int) (W M : List Bool) (E : List Int) (p : Nat) (row : List Int) (hr : g[p]? = some row)
 (next : Ev (fun k => Za.l0 k l (backs mexI 0 g) W M E (g.length : Int) ((p + 1 : Nat) : Int) g) true) : ∀ d i : Nat,i + d = row.length →
 Ev (fun k => Za.l1 k l (backs mexI 0 g) W M E (p : Int) ((row.take i).map fun q => gv g q.toNat) (g.length : Int) (p : Int) (row.length : Int) (i : Int) g) true := by
 have hgl := game_len hg
 have hp := (List.getElem?_eq_some_iff.1 hr).1
 have hrow := game_row hg hr
 intro d
 induction d with
 | zero =>
  intro i hi
  have ea : areNum (row.map fun q => gv g q.toNat) = true := by
   unfold areNum
   rw [decide_eq_true (by rw [List.length_map];omega),Bool.true_and,Bool.not_eq_true',List.any_eq_false]
   intro x hx
   obtain ⟨q,hq,rfl⟩ := List.mem_map.1 hx
   have hq2 := row_lt hg hr hq
   have := gv_nonneg hg hq2.2.1
   rw [decide_eq_false (by omega)]
   decide
  have em : mexPair (row.map fun q => gv g q.toNat) = (gv g p,0) := by
   unfold mexPair
   rw [if_pos ea,gv_at hg hr]
   rfl
  have hM := MexI_ev (row.map fun q => gv g q.toNat) (by rw [List.length_map];omega)
  rw [em] at hM
  rw [List.take_of_length_le (by omega)]
  refine Ev.step (fun k => by rw [Za.l1,if_neg (by omega)]) (Ev.bind hM ?_)
  refine Ev.congr (fun k => ?_) next
  rw [if_pos rfl,if_pos (by omega),if_pos (by rw [backs_length];omega),if_pos (by rw [rd_nat];rfl),wrapS (by omega) (by omega),cast_succ]
 | succ d ih =>
  intro i hi
  obtain ⟨q,hq⟩ := get_some (xs := row) (i := i) (by omega)
  have hq2 := row_lt hg hr (List.mem_of_getElem? hq)
  have ht : (row.take (i + 1)).map (fun q => gv g q.toNat) = (row.take i).map (fun q => gv g q.toNat) ++ [gv g q.toNat] := by
   rw [List.take_add_one,hq];simp
  have ih2 := ih (i + 1) (by omega)
  rw [ht] at ih2
  refine Ev.step (fun k => ?_) ih2
  rw [Za.l1,if_pos (by omega),if_pos (by omega),if_pos (by omega),if_pos (by omega),rdL2_nat,getD_of hr,if_pos (by omega),rd_nat,getD_of hq,if_pos (by omega),if_pos (by rw [backs_length];omega),if_pos (by rw [List.length_map,List.length_take];omega),rd_gv,wrapS (by omega) (by omega),cast_succ]
theorem l0_ok {g : List (List Int)} (hg : isGame g = true) (l : List Int) (hb : Bytes l) (hl : l.length ≤ 4096) : ∀ d p : Nat, p + d = g.length →
 Ev (fun k => Za.l0 k l (backs mexI 0 g) (backs (wonOf false) false g) (backs (wonOf true) false g) (endsUpto g g.length) (g.length : Int) (p : Int) g) true := by
 have hgl := game_len hg
 intro d
 induction d with
 | zero =>
  intro p hp
  refine Ev.step (fun k => ?_) (j5_ok l hb hl)
  rw [Za.l0,if_neg (by omega)]
 | succ d ih =>
  intro p hp
  obtain ⟨row,hr⟩ := get_some (xs := g) (i := p) (by omega)
  have hE := endsUpto_len g g.length
  have s3 : Ev (fun k => Za.j3 k l (backs mexI 0 g) (backs (wonOf false) false g) (backs (wonOf true) false g) (endsUpto g g.length) (p : Int) (g.length : Int) (p : Int) false g) true := by
   refine Ev.step (fun k => ?_) (l1_ok hg l _ _ _ p row hr (ih (p + 1) (by omega)) row.length 0 (by omega))
   rw [Za.j3,if_neg (by decide),if_pos (by omega),if_pos (by omega),rdL2_nat,getD_of hr]
   rfl
  have hw : (rdOf false (backs (wonOf false) false g) (p : Int) != (rd (backs mexI 0 g) (p : Int) != 0)) = false := by
   rw [rdOf_nat,rd_nat]
   have := won_gv hg g.length p (by omega) (by omega)
   show (wv g p != (gv g p != 0)) = false
   rw [this]
   by_cases c : gv g p = 0
   ·rw [c];rfl
   ·rw [decide_eq_true c,bne_iff_ne.2 c];rfl
  have hH := hasV_ev (endsUpto g g.length) (p : Int) (by omega)
  rw [ends_has hr] at hH
  refine Ev.step (fun k => by rw [Za.l0,if_pos (by omega),if_pos (by omega),if_pos (by rw [backs_length];omega),if_pos (by rw [backs_length];omega),hw,if_neg (by decide)]) (Ev.bind hH ?_)
  refine Ev.congr (fun k => ?_) s3
  rw [if_pos (by omega),rdL2_nat,getD_of hr,bne_self_eq_false,if_neg (by decide)]
  by_cases c : (row.length : Int) = 0
  ·have hrow : row = [] := List.length_eq_zero_iff.1 (by omega)
   have hm : rdOf false (backs (wonOf true) false g) (p : Int) = true := by
    rw [rdOf_nat,backs_at (wonOf true) false hg hr,hrow];rfl
   rw [if_pos c,if_pos (by rw [backs_length];omega),hm]
   rfl
  ·rw [if_neg c]
theorem specIsGame_ev (g : List (List Int)) (hl : ∀ row ∈ g, row.length < 4611686018427387904) (hg : g.length < 4611686018427387904) : Ev (fun k => Zav.f k g) (isGame g) := by
 unfold Zav.f
 exact Ev.bind (l01Is_ev g hl hg) (Ev.now _)
theorem law_ev (l : List Int) (hb : Bytes l) : Ev (fun k => Za.f k l) true := by
 by_cases hbig : (l.length : Int) > 4096
 ·refine Ev.congr (f := fun _ => some true) (fun k => ?_) (Ev.now true)
  unfold Za.f Zay.f
  rw [Option.bind_some,if_pos (decide_eq_true hbig)]
 have hl : l.length ≤ 4096 := by omega
 obtain ⟨g,eD,sg⟩ := grundy_draw l hb hl
 have b1 := grundies_len g
 have b2 := wons_len false g
 have b3 := wons_len true g
 have b4 := endsOf_len g
 refine Ev.congr (fun k => by unfold Za.f Zay.f;rw [Option.bind_some,if_neg (by rw [decide_eq_false hbig];decide)]) ?_
 refine Ev.bind eD ?_
 refine Ev.bind (implGrundy_ev g sg.rows sg.len) ?_
 refine Ev.bind (specGrundy_ev g sg.rows sg.len) ?_
 refine Ev.bind (implWon_ev g sg.rows sg.len) ?_
 refine Ev.bind (specWon_ev g sg.rows sg.len) ?_
 refine Ev.bind (implMis_ev g sg.rows sg.len) ?_
 refine Ev.bind (specMis_ev g sg.rows sg.len) ?_
 refine Ev.bind (implEnds_ev g sg.rows sg.len) ?_
 refine Ev.bind (specEnds_ev g sg.rows sg.len) ?_
 refine Ev.congr (fun k => by rw [if_pos rfl]) (Ev.bind (likeI_ev _ (by omega)) ?_)
 refine Ev.congr (fun k => by rw [if_pos rfl,if_pos rfl]) (Ev.bind (boolsV_ev _ (by omega)) ?_)
 refine Ev.congr (fun k => by rw [if_pos rfl,if_pos rfl]) (Ev.bind (boolsV_ev _ (by omega)) ?_)
 refine Ev.congr (fun k => by rw [if_pos rfl,if_pos rfl]) (Ev.bind (likeI_ev _ (by omega)) ?_)
 refine Ev.congr (fun k => by rw [if_pos rfl]) (Ev.bind (IsGame_ev g sg.rows sg.len) ?_)
 refine Ev.bind (specIsGame_ev g sg.rows sg.len) ?_
 by_cases c : isGame g = true
 ·have e1 : grundies g = (backs mexI 0 g,0) := by unfold grundies;rw [if_pos c]
  have e2 : wons false g = (backs (wonOf false) false g,0) := by unfold wons;rw [if_pos c]
  have e3 : wons true g = (backs (wonOf true) false g,0) := by unfold wons;rw [if_pos c]
  have e4 : endsOf g = (endsUpto g g.length,0) := by unfold endsOf;rw [if_pos c]
  have hT := implGameText_ev g sg.rows sg.len
  have hk := isGame_okG c
  have e5 : gameText g = (bs (gameTextU g),0) := by unfold gameText;rw [if_pos c]
  rw [e5] at hT
  have hz := textG_len g hk.1 (by omega)
  have hP := ZaC (bs (gameTextU g)) (by rw [bs_size];omega)
  rw [bs_data,game_back c] at hP
  rw [e1,e2,e3,e4]
  refine Ev.step (fun k => by rw [Za.j0,if_neg (by rw [bne_self_eq_false];decide),if_pos rfl]) (Ev.bind hT ?_)
  refine Ev.bind hP ?_
  refine Ev.congr (fun k => by rw [if_pos rfl,if_pos rfl]) (Ev.bind (games_ev g sg.len sg.rows) ?_)
  refine Ev.step (fun k => ?_) (l0_ok c l hb hl g.length 0 (by omega))
  rw [Za.j1,if_neg (by decide),backs_length]
  rfl
 ·have e1 : (grundies g).2 ≠ 0 := by unfold grundies;rw [if_neg c];decide
  refine Ev.step (fun k => ?_) (j5_ok l hb hl)
  rw [Za.j0,if_neg (by rw [bne_self_eq_false];decide),if_neg e1]
end Go.Proofs.YtnlbbpgmmeapfaaGreatDoor.PX
namespace Go.Proofs.YtnlbbpgmmeapfaaGreatDoor.Pure
open Go.RowKit Go.Proofs.YtnlbbpgmmeapfaaGreatDoor.PX Go.Proofs.YtnlbbpgmmeapfaaGreatDoorW.PrintWords
set_option maxHeartbeats 8000000
set_option maxRecDepth 100000
theorem FnGameValues : ∀ (l0 : List Int), (l0.length ≤ 9223372036854775807 ∧ ∀ x0 ∈ l0, (Lit.int .u8 x0).wf = true) → ∃ k, Za.f k l0 = some true := by
 intro l hw
 refine Ev.rounds (law_ev l fun x hx => ?_)
 have := hw.2 x hx
 have e1 : IntKind.u8.min = 0 := by decide
 have e2 : IntKind.u8.max = 255 := by decide
 simp only [Lit.wf,Bool.and_eq_true,decide_eq_true_eq] at this
 omega
end Go.Proofs.YtnlbbpgmmeapfaaGreatDoor.Pure
namespace Go.Proofs.YtnlbbpgmmeapfaaGreatDoor.PX
open Go.RowKit Go.Shelf
set_option maxHeartbeats 8000000
set_option maxRecDepth 100000
theorem gPow : Tryz.prog.globalNamed "internal/strconv.uint64pow10" = some 1 := by kernel_rfl
theorem gPowType : (Tryz.prog.globals[1]?).map (·.type) = some 143 := by kernel_rfl
theorem cellsPow : Tryz.prog.cellsOf 143 = 20 := by kernel_rfl
theorem cellsU64 : Tryz.prog.cellsOf 85 = 1 := by kernel_rfl
theorem gSyn : Tryz.prog.globalNamed "strconv.ErrSyntax" = some 4 := by kernel_rfl
theorem gSynType : (Tryz.prog.globals[4]?).map (·.type) = some 95 := by kernel_rfl
theorem gRng : Tryz.prog.globalNamed "strconv.ErrRange" = some 5 := by kernel_rfl
theorem gRngType : (Tryz.prog.globals[5]?).map (·.type) = some 95 := by kernel_rfl
theorem cellsES : Tryz.prog.cellsOf 163 = 1 := by kernel_rfl
theorem cellsSt : Tryz.prog.cellsOf 9 = 1 := by kernel_rfl
theorem starES : "*" ++ "errors.errorString" = "*errors.errorString" := by decide
theorem rowPES (u : TypeId) (h : Tryz.prog.typeName? 3 u = some "*errors.errorString") : u = 161 :=
 typeName_ptr_named (nm := "errors.errorString") (by rw [starES]; kernel_rfl) (by kernel_rfl) (by decide) u (by rw [starES]; exact h)
theorem good_fnGameValues {W : World} (hL : laidMetH Tryz.prog Rows.fnGameValuesRow.laid W) (hsh : W.ShapedOpen Tryz.prog) : Good W := by
 rw [Go.MakeChecks.laidMetH_plain _ _ _ (by kernel_rfl)] at hL;have h3 : laidMet Tryz.prog (("internal/strconv.uint64pow10", Lib.tabData .u64 Lib.pow10Tab) :: _) W := hL.tail.tail;obtain ⟨a_Rng, s_Rng, hv_Rng, -, -, -⟩ := laid_sentinel hL.tail.tail.tail.tail gRng gRngType Tryz.underlying95 rowPES Tryz.underlying161 Tryz.underlying163 rfl rfl Tryz.underlying9 cellsES cellsSt;obtain ⟨a_Syn, s_Syn, hv_Syn, -, -, -⟩ := laid_sentinel hL.tail.tail.tail.tail.tail gSyn gSynType Tryz.underlying95 rowPES Tryz.underlying161 Tryz.underlying163 rfl rfl Tryz.underlying9 cellsES cellsSt;exact ⟨Tryz.laysM146.s1_3 W hsh, Lib.tabIs_of_head gPow gPowType Tryz.underlying143 Tryz.underlying85 cellsU64 cellsPow h3, ⟨_, _, hv_Syn⟩, ⟨_, _, hv_Rng⟩⟩
end Go.Proofs.YtnlbbpgmmeapfaaGreatDoor.PX
namespace Go.Proofs.YtnlbbpgmmeapfaaGreatDoor.fnGameValues
open Go.ChangeShapes Go.WideShapes Go.ChangeAt Go.RowKit
open Go.ChangeMaps (open_string shut_string)
set_option linter.unusedVariables false
theorem own : ownKnob Tryz.prog.godebug = none := by kernel_rfl
theorem laid : laidOutB Tryz.prog = true := by kernel_rfl
theorem laid_met (os : Os) : laidMet Tryz.prog Rows.fnGameValuesRow.laid ((World.laidAll Tryz.prog os Rows.fnGameValuesRow.laid).forCall (fun _ _ => 0) ⟨#[], #[.slice none 0 0], []⟩).memory :=
  laidMet_laidAll #[.slice none 0 0] (by kernel_rfl) (by kernel_rfl)
theorem reads (os : Os) {H : Type} (enc : TypeId × Value → H) : ∃ places, DataW.whole enc Tryz.prog ((World.laidAll Tryz.prog os Rows.fnGameValuesRow.laid).forCall (fun _ _ => 0) ⟨#[], #[.slice none 0 0], []⟩).memory Tryz.f3.params.toList Rows.fnGameValuesSpec.vars false #[.slice none 0 0].toList 8 = some ([.nil], [], places) :=
  ⟨[], by kernel_rfl⟩
set_option maxRecDepth 100000 in
theorem lifted (os : Os) (started : os.Started) (H : Type) (enc : TypeId × Value → H) (F : Stop.Interp) :
    ReturnsInHanded {} Tryz.checked os 3 .any ((OpenSpec.ofChange Rows.fnGameValuesSpec).preRow enc Tryz.prog Tryz.f3 Rows.fnGameValuesRow.domain false Rows.fnGameValuesRow.laid) (((OpenSpec.ofChange Rows.fnGameValuesSpec).at F).post enc Tryz.prog Tryz.f3 false true false false) := by
  obtain ⟨places, hx⟩ := reads os enc
  refine returnsInHanded_of_row (C := Tryz.checked) (s := OpenSpec.ofChange Rows.fnGameValuesSpec) own started (by kernel_rfl) Tryz.func3
    (witness_row_at (enc := enc) (C := Tryz.checked) false (World.laidAll Tryz.prog os Rows.fnGameValuesRow.laid) #[.slice none 0 0] (World.laidAll_os _ _ _) (by kernel_rfl) (by kernel_rfl) (by kernel_rfl)
      (OpenSpec.preRow_of_cond 8 hx (by kernel_rfl) (fun k hk => by cases hk) (by kernel_rfl) (laid_met os))) ?_
  intro W base args ds gs before hval0 hW hcnd hcond hsz0 hL hsh _
  have hsz : (DataW.weightsEach Tryz.prog (Tryz.f3.params.toList ++ Rows.fnGameValuesSpec.plain.varTypes Tryz.prog) (ds ++ gs)).all (· ≤ reachBytes) = true := hsz0
  have hval : ∀ (j : Nat) t v, Tryz.f3.params[j]? = some t → args[j]? = some v → Value.okWide Tryz.prog W .any base t v := hval0
  have hW' := hW
  obtain ⟨p, q, hA0, hV, rfl, hfz, hnd⟩ := hW
  have hA : DataW.TrodAll enc Tryz.prog W 0 (fun _ => true) true Tryz.f3.params.toList args.toList ds p := hA0
  rw [Tryz.params3] at hA hval hsz
  obtain ⟨v0, vs0, d0, ds0, p0, q0, hargs, rfl, rfl, h0, r0⟩ := trodAll_cons hA
  obtain ⟨rfl, rfl, rfl⟩ := trodAll_nil r0
  obtain rfl : args = #[v0] := by cases args; simp_all
  obtain ⟨rfl, rfl⟩ := trodVars_none hV
  have hk0 := h0
  have hlt0 : ∀ x ∈ p0, x.block < W.heap.size := fun x hx => hW'.lt x (by simp [hx])
  obtain ⟨fu0, hf0⟩ := h0
  obtain ⟨aa0, ll0, cc0, rfl⟩ := okWide_slice Tryz.underlying22 (hval 0 22 v0 rfl rfl)
  obtain ⟨A0, n0, l0, e0, hc0, hr0, w0⟩ := Go.Proofs.YtnlbbpgmmeapfaaGreatDoor.Opens.opened_slice Tryz.underlying22 (by kernel_rfl) (Go.Proofs.YtnlbbpgmmeapfaaGreatDoor.Opens.opens_int Tryz.underlying5) (show DataW.trod enc Tryz.prog W 0 (fun _ => true) true fu0 22 [.slice aa0 ll0 cc0] = _ from hf0)
  obtain ⟨rfl, rfl, rfl⟩ : aa0 = A0 ∧ ll0 = l0.length ∧ cc0 = n0 := by simpa using e0
  clear hA0 hval0 hsz0 hsz
  obtain ⟨k, hk⟩ := Pure.FnGameValues l0 w0
  refine (PX.Za.calls k _ _ l0 true W hr0 hc0 hk (PX.good_fnGameValues hL hsh)).mono fun e W' ⟨he, bel0⟩ => ?_
  have bel : Below W.heap.size W W' := bel0
  subst he
  exact ⟨_, rfl, _, _, _, [], _, [], hW', trodAll_mk1 (shut_bool Tryz.underlying4 _), (trodAll_cons_mk (Below.trod laid (by kernel_rfl) (of_decide_eq_true (by kernel_rfl)) hk0 bel hlt0) trodAll_mk0), rfl, bel.frame _, fun h => by cases h⟩
theorem said : Rows.FnGameValuesSaid :=
  OpenClaim.holds_of_cond 3 Tryz.f3 rfl rfl rfl rfl rfl rfl rfl ⟨rfl, rfl, rfl, rfl, rfl⟩ rfl rfl rfl rfl rfl (by kernel_rfl) Tryz.func3 (by kernel_rfl)
    (of_decide_eq_true (by kernel_rfl)) (by unfold Func.isWrapper; first | (rw [if_pos (by decide +kernel)]; kernel_rfl) | (rw [if_neg (by decide +kernel)]; exact ⟨rfl, rfl⟩))
    (fun os started H enc _ F => by rw [OpenClaim.pre_eq_preRow]; exact lifted os started H enc F)
theorem plain (f : FuncId) (fn : Func) (hf : Tryz.pinned.checked.prog.funcNamed "loop.example/g01388/laws.FnGameValues" = some f) (hfn : Tryz.pinned.checked.prog.funcs[f]? = some fn) :
    true = Tryz.pinned.checked.prog.looks [] ∧ ∀ (j : Nat) t, fn.params[j]? = some t → Tryz.pinned.checked.prog.wantsStandIn t = false := by
  obtain rfl : f = 3 := Option.some.inj ((show Tryz.prog.funcNamed "loop.example/g01388/laws.FnGameValues" = some 3 by kernel_rfl).symm.trans hf) |>.symm
  obtain rfl : fn = Tryz.f3 := (Option.some.inj (Tryz.func3.symm.trans hfn)).symm
  refine ⟨by kernel_rfl, fun j t ht => ?_⟩
  rw [Tryz.params3] at ht
  have hm : t ∈ [22] := by simpa using Array.mem_of_getElem? ht
  have hall : ([22].all fun u => !Tryz.prog.wantsStandIn u) = true := by kernel_rfl
  exact (show Tryz.prog.wantsStandIn t = false by simpa using List.all_eq_true.1 hall t hm)
theorem proved : Rows.FnGameValuesCardSaid :=
  Claim7.holds_tied_plain_at .later [] _ _ _ _ said (fun _ h => by cases h) (by kernel_rfl) (fun _ h => by cases h) fnGameValues_row_tie rfl ⟨rfl, rfl⟩ (by kernel_rfl) rfl plain (by kernel_rfl)
#print axioms proved
end Go.Proofs.YtnlbbpgmmeapfaaGreatDoor.fnGameValues
namespace Go.Proofs.YtnlbbpgmmeapfaaGreatDoor
theorem fnGameValues_holds : Rows.FnGameValuesCardSaid := fnGameValues.proved
end Go.Proofs.YtnlbbpgmmeapfaaGreatDoor
