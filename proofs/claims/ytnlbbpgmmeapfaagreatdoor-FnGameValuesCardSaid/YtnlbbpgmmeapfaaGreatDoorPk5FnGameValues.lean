/- Part 5 of the texts under the row of FnGameValues (no condition). -/
import Derived.Laws.Bits64b
import Derived.Deep.Slices
import Derived.Lib.SmallJoins
import Derived.Shelf.Strings.Builder1
import Derived.Shelf.Strings.Builder2
import Derived.Shelf.Strings.OnBuilder
import Derived.Shelf.Strconv.Itoa0
import Derived.Shelf.Strconv.Itoa1
import Derived.Shelf.LaysM
import Derived.Shelf.Strconv.Itoa2
import Derived.Shelf.Strconv.Itoa3
import Derived.Shelf.Strconv.Itoa4
import Derived.Shelf.Strconv.ParseIntEmpty
import Derived.Shelf.Strconv.Clone
import Derived.Shelf.Strconv.SyntaxError
import Derived.Shelf.LaysC
import Derived.Shelf.Strconv.ToError
import Derived.Shelf.Strconv.Lower
import Derived.Shelf.Strconv.ParseUint10
import Derived.Shelf.Strconv.ParseUint10Empty
import Derived.Shelf.Strconv.ParseUint10Any
import Derived.Shelf.Strconv.ParseInt10
import Derived.Shelf.Strconv.RangeError
import Derived.Shelf.Strconv.ToErrorRange
import Derived.Shelf.Strconv.ParseUintEmpty
import Derived.Shelf.Strconv.ParseUint10b64
import Derived.Shelf.Strconv.ParseUint10b32
import Derived.Shelf.Strconv.ParseUint10b16
import Derived.Shelf.Strconv.ParseUint10b8
import Derived.Shelf.Strconv.ParseUint10At
import Derived.Shelf.Strconv.ParseInt10At64
import Derived.Shelf.Strconv.ParseInt10At32
import Derived.Shelf.Strconv.ParseInt10At16
import Derived.Shelf.Strconv.ParseInt10At8
import Derived.Shelf.Strconv.ParseInt10All
import Derived.Shelf.Strconv.ParseIntPublic10
import Derived.Shelf.Strconv.ErrVarParseInt
import Derived.Shelf.Strings.Search1
import Derived.Shelf.Strings.Search2
import Derived.Shelf.Strings.Search3
import Derived.Shelf.Strings.Count
import Derived.Shelf.Strings.Shaped
import Derived.Shelf.Strings.Split
import Derived.Shelf.Strings.SplitShaped
import Derived.Shelf.Unicode.DecodeSlow
import Derived.Test.YtnlbbpgmmeapfaaGreatDoorProg
import Derived.Lib.AppendIntMem
import Derived.Laws.Strings
import Derived.Test.YtnlbbpgmmeapfaaGreatDoorPk4FnGameValues
namespace Go.Proofs.YtnlbbpgmmeapfaaGreatDoor.PX
open Go.RowKit Go.Proofs.YtnlbbpgmmeapfaaGreatDoorW.PrintWords Go.Proofs.YtnlbbpgmmeapfaaGreatDoorW.PrintLast Go.Proofs.YtnlbbpgmmeapfaaGreatDoorW.PrintMore
attribute [local go_sem] max2_int min2_int max_two min_two max_three min_three max_four min_four
set_option linter.unusedVariables false
set_option linter.unusedSimpArgs false
set_option maxHeartbeats 8000000
set_option maxRecDepth 100000
theorem gS_u64 (h : Nat) : IntKind.u64.wrap ((IntKind.u64.wrap ((h : Int) * 6364136223846793005)) + 1442695040888963407) = ((lcgS h : Nat) : Int) := by
 rw [IntKind.wrap_u64,IntKind.wrap_u64]
 unfold lcgS stG
 omega
theorem gS_lt (h : Nat) : lcgS h < 18446744073709551616 := by
 unfold lcgS stG
 exact Nat.mod_lt _ (by decide)
theorem gX_and (y : Nat) (hy : y < 18446744073709551616) : Go.bits .and .u64 ((y : Int) / 8589934592) 16777215 = ((lcgX y : Nat) : Int) := by
 have e : ((y : Int) / 8589934592) = ((y / 8589934592 : Nat) : Int) := by omega
 rw [e,show (16777215 : Int) = ((16777215 : Nat) : Int) from rfl,bits_and_u64_nat _ 16777215 (by omega) (by decide)]
 have q := Nat.and_two_pow_sub_one_eq_mod (y / 8589934592) 24
 have q2 : (y / 8589934592) &&& 16777215 = y / 8589934592 % 16777216 := q
 rw [q2]
 rfl
theorem next_tail {s : List Int} {n : Int} (hn : (s.length : Int) ≤ n) (h : Nat) {a : Int} (ha : 1 ≤ a) : Zb.f s n (h : Int) a = some (Int.tmod ((lcgX (lcgS h) : Nat) : Int) a, n, ((lcgS h : Nat) : Int)) := by
 have hx := gX_lt (lcgS h)
 unfold Zb.f
 rw [gS_u64,gX_and _ (gS_lt h),if_neg (by omega),if_neg (by omega),if_neg (by omega),wrapS (by omega) (by omega)]
def Bytes (s : List Int) : Prop := ∀ x ∈ s, 0 ≤ x ∧ x ≤ 255
def At (s : List Int) (n : Int) : Prop := 0 ≤ n ∧ n ≤ (s.length : Int)
theorem and24 (x : Int) (h0 : 0 ≤ x) (h1 : x < 18446744073709551616) : 0 ≤ Go.bits .and .u64 x 16777215 ∧ Go.bits .and .u64 x 16777215 ≤ 16777215 := by
 obtain ⟨n,rfl⟩ := Int.eq_ofNat_of_zero_le h0
 rw [show (16777215 : Int) = ((16777215 : Nat) : Int) from rfl,bits_and_u64_nat n 16777215 (by omega) (by decide)]
 have := Nat.and_le_right (n := n) (m := 16777215)
 omega
theorem rd_mem {l : List Int} {r : Int} (h0 : 0 ≤ r) (h1 : r < (l.length : Int)) : rd l r ∈ l := by
 obtain ⟨n,rfl⟩ := Int.eq_ofNat_of_zero_le h0
 obtain ⟨x,hx⟩ := get_some (xs := l) (i := n) (by omega)
 rw [rd_nat,getD_of hx]
 exact List.mem_of_getElem? hx
theorem next_ok {s : List Int} {n m a : Int} (hb : Bytes s) (hl : s.length ≤ 4096) (hi : At s n) :
 ∃ r n' m',Zb.f s n m a = some (r,n',m') ∧ At s n' ∧ 0 ≤ r ∧ (r < a ∨ r = 0) := by
 unfold Zb.f
 by_cases c : a < 1
 ·rw [if_pos c]
  exact ⟨_,_,_,rfl,hi,Int.le_refl 0,Or.inr rfl⟩
 rw [if_neg c]
 generalize hm2 : IntKind.u64.wrap ((IntKind.u64.wrap (m * 6364136223846793005)) + 1442695040888963407) = m2
 have hm3 : 0 ≤ m2 ∧ m2 < 18446744073709551616 := by
  rw [← hm2,IntKind.wrap_u64];omega
 have h24 := and24 (m2 / 8589934592) (by omega) (by omega)
 generalize Go.bits .and .u64 (m2 / 8589934592) 16777215 = z at h24 ⊢
 by_cases d : n < (s.length : Int)
 ·have hx := hb _ (rd_mem hi.1 d)
  have hi1 := hi.1
  rw [if_pos d,if_pos hi.1,if_neg (by omega),wrapS (i := z) (by omega) (by omega),wrapS (i := rd s n) (by omega) (by omega),wrapS (i := z + rd s n) (by omega) (by omega),wrapS (i := n + 1) (by omega) (by omega)]
  exact ⟨_,_,_,rfl,⟨by omega,by omega⟩,Int.tmod_nonneg _ (by omega),Or.inl (Int.tmod_lt_of_pos _ (by omega))⟩
 ·rw [if_neg d,if_neg (by omega),wrapS (i := z) (by omega) (by omega)]
  exact ⟨_,_,_,rfl,hi,Int.tmod_nonneg _ (by omega),Or.inl (Int.tmod_lt_of_pos _ (by omega))⟩
theorem pick_ok {s l : List Int} {n m : Int} (hb : Bytes s) (hl : s.length ≤ 4096) (hi : At s n) (h0 : 0 < l.length) :
 ∃ x n' m',ZP.f s n m l = some (x,n',m') ∧ At s n' ∧ x ∈ l := by
 unfold ZP.f
 obtain ⟨r,n',m',e,hi',h1,h2⟩ := next_ok (m := m) (a := (l.length : Int)) hb hl hi
 have h3 : r < (l.length : Int) := by omega
 rw [e,Option.bind_some,if_pos h1,if_pos h3]
 exact ⟨_,_,_,rfl,hi',rd_mem h1 h3⟩
theorem from_loop (l : List Int) (hl : l.length ≤ 4096) : ∀ (d i : Nat) (m : Int), i + d = l.length → ∃ m', Ev (fun k => Zv.l0 k l (i : Int) l 0 m) (l, 0, m')
 | 0,i,m,h => ⟨m,Ev.step (f := fun _ => some (l,0,m)) (fun k => by
  simp only [Zv.l0]
  rw [if_neg (by omega)]) (Ev.now _)⟩
 | d + 1,i,m,h => by
  obtain ⟨m',ih⟩ := from_loop l hl d (i + 1) (IntKind.u64.wrap ((IntKind.u64.wrap ((IntKind.u64.wrap (m * 1099511628211)) + (IntKind.u64.wrap (rd l (i : Int))))) + 229)) (by omega)
  refine ⟨m',Ev.step (fun k => ?_) ih⟩
  simp only [Zv.l0]
  rw [if_pos (by omega),if_pos (by omega),if_pos (by omega),wrapS (i := (i : Int) + 1) (by omega) (by omega),cast_succ]
theorem from_ok (l : List Int) (hl : l.length ≤ 4096) : ∃ m', Ev (fun k => Zv.f k l) (l, 0, m') := from_loop l hl l.length 0 _ (by omega)
theorem own_val (l : List Int) (h : l.length < 17592186044416) : Zad.f l = some l := by
 unfold Zad.f
 rw [Option.bind_some,if_pos (by simpa using h)]
 rfl
def Rw (b : Nat) (c : Int) (x : List Int) : Prop := x.length ≤ b ∧ ∀ y ∈ x, 0 ≤ y ∧ y < c
theorem append_rows {a : List (List Int)} {row : List Int} {b : Nat} {c : Int} (h : ∀ x ∈ a, Rw b c x) (hr : Rw b c row) : ∀ x ∈ a ++ [row], Rw b c x := by
 intro x hx
 rcases List.mem_append.1 hx with hx | hx
 ·exact h x hx
 ·rw [List.mem_singleton.1 hx];exact hr
theorem in_snoc {row : List Int} {x c : Int} (h : ∀ y ∈ row, 0 ≤ y ∧ y < c) (h0 : 0 ≤ x) (h1 : x < c) : ∀ y ∈ row ++ [x], 0 ≤ y ∧ y < c := by
 intro y hy
 rcases List.mem_append.1 hy with hy | hy
 ·exact h y hy
 ·rw [List.mem_singleton.1 hy];exact ⟨h0,h1⟩
theorem put_in {l r : List Int} {x c : Int} (hm : ∀ y ∈ r, y ∈ l ∨ y = x) (h : ∀ y ∈ l, 0 ≤ y ∧ y < c) (h0 : 0 ≤ x) (h1 : x < c) : ∀ y ∈ r, 0 ≤ y ∧ y < c := by
 intro y hy
 rcases hm y hy with e | e
 ·exact h y e
 ·rw [e];exact ⟨h0,h1⟩
theorem mul_in {a b : Int} (a0 : 0 ≤ a) (a1 : a ≤ 7) (b0 : 0 ≤ b) (b1 : b ≤ 6) : 0 ≤ a * b ∧ a * b ≤ 42 := ⟨Int.mul_nonneg a0 b0, Int.le_trans (Int.mul_le_mul a1 b1 b0 (by decide)) (by decide)⟩
theorem dof_in {s : List Int} (hb : Bytes s) (hl : s.length ≤ 4096) (N few : Int) (p : Nat) (hN : N ≤ 40) (acc : List (List Int)) (hacc : acc.length ≤ 40) (Q : List (List Int) × Int × Int → Prop)
 (out : ∀ (row : List Int) (n m : Int),At s n → Rw 40 N row → ∃ r,Ev (fun k => Ze.l0 k N few ((p : Int) + 1) s n m (acc ++ [row])) r ∧ Q r) (hp : (p : Int) ≤ 40) :
 ∀ (e j : Nat) (row : List Int) (n m : Int),N ≤ (j : Int) + e → row.length + e ≤ 40 → (∀ y ∈ row,0 ≤ y ∧ y < N) → (j : Int) ≤ 100 → At s n → ∃ r,Ev (fun k => Ze.l1 k N few p row j s n m acc) r ∧ Q r := by
 have fin : ∀ (j : Nat) (row : List Int) (n m : Int),¬ (j : Int) < N → Rw 40 N row → At s n → ∃ r,Ev (fun k => Ze.l1 k N few p row j s n m acc) r ∧ Q r := by
  intro j row n m h1 h2 h3
  obtain ⟨r,h,hq⟩ := out row n m h3 h2
  refine ⟨r,Ev.step (fun k => ?_) h,hq⟩
  simp only [Ze.l1]
  rw [if_neg h1,if_pos (by omega),wrapS (i := (p : Int) + 1) (by omega) (by omega)]
 intro e
 induction e with
 | zero =>
  intro j row n m h1 h2 hE h3 h4
  exact fin j row n m (by omega) ⟨by omega,hE⟩ h4
 | succ e ih =>
  intro j row n m h1 h2 hE h3 h4
  by_cases c : (j : Int) < N
  ·obtain ⟨x,n1,m1,e1,hi1,-⟩ := next_ok (m := m) (a := wrap64 (few + 1)) hb hl h4
   have ej : wrap64 ((j : Int) + 1) = ((j + 1 : Nat) : Int) := by rw [wrapS (by omega) (by omega)];omega
   by_cases c1 : x = 0
   ·obtain ⟨r,h,hq⟩ := ih (j + 1) (row ++ [(j : Int)]) n1 m1 (by omega) (by simp;omega) (in_snoc hE (by omega) c) (by omega) hi1
    refine ⟨r,Ev.step (fun k => ?_) h,hq⟩
    simp only [Ze.l1]
    rw [if_pos c,e1,Option.bind_some,if_pos c1,if_pos (by omega),ej]
   ·by_cases c2 : few = 1
    ·obtain ⟨y,n2,m2,e2,hi2,-⟩ := next_ok (m := m1) (a := 3) hb hl hi1
     by_cases c3 : y > 0
     ·obtain ⟨r,h,hq⟩ := ih (j + 1) (row ++ [(j : Int)]) n2 m2 (by omega) (by simp;omega) (in_snoc hE (by omega) c) (by omega) hi2
      refine ⟨r,Ev.step (fun k => ?_) h,hq⟩
      simp only [Ze.l1]
      rw [if_pos c,e1,Option.bind_some,if_neg c1,if_pos c2,e2,Option.bind_some,if_pos c3,if_pos (by omega),ej]
     ·obtain ⟨r,h,hq⟩ := ih (j + 1) row n2 m2 (by omega) (by omega) hE (by omega) hi2
      refine ⟨r,Ev.step (fun k => ?_) h,hq⟩
      simp only [Ze.l1]
      rw [if_pos c,e1,Option.bind_some,if_neg c1,if_pos c2,e2,Option.bind_some,if_neg c3,ej]
    ·obtain ⟨r,h,hq⟩ := ih (j + 1) row n1 m1 (by omega) (by omega) hE (by omega) hi1
     refine ⟨r,Ev.step (fun k => ?_) h,hq⟩
     simp only [Ze.l1]
     rw [if_pos c,e1,Option.bind_some,if_neg c1,if_neg c2,ej]
  ·exact fin j row n m c ⟨by omega,hE⟩ h4
theorem dof_out {s : List Int} (hb : Bytes s) (hl : s.length ≤ 4096) (N few : Int) (hN : N ≤ 40) : ∀ (d p : Nat) (acc : List (List Int)) (n m : Int), (p : Int) + d = N → acc.length = p → (∀ x ∈ acc, Rw 40 N x) → At s n →
 ∃ r : List (List Int) × Int × Int,Ev (fun k => Ze.l0 k N few p s n m acc) r ∧ ((r.1.length : Int) = N ∧ (∀ x ∈ r.1,Rw 40 N x) ∧ At s r.2.1)
 | 0,p,acc,n,m,h1,h2,h3,h4 => ⟨(acc,n,m),Ev.step (f := fun _ => some (acc,n,m)) (fun k => by
  simp only [Ze.l0]
  rw [if_neg (by omega)]) (Ev.now _),by show (acc.length : Int) = N;omega,h3,h4⟩
 | d + 1,p,acc,n,m,h1,h2,h3,h4 => by
  have ih := dof_out hb hl N few hN d (p + 1)
  obtain ⟨r,h,hq⟩ := dof_in hb hl N few p hN acc (by omega) _ (fun row n m hn hr => by
   have := ih (acc ++ [row]) n m (by omega) (by simp;omega) (append_rows h3 hr) hn
   rw [cast_succ];exact this) (by omega) d (p + 1) [] n m (by omega) (by simp;omega) (by simp) (by omega) h4
  refine ⟨r,Ev.step (fun k => ?_) h,hq⟩
  simp only [Ze.l0]
  rw [if_pos (by omega),wrapS (i := (p : Int) + 1) (by omega) (by omega),cast_succ]
theorem drawof_ok {s : List Int} {n m N : Int} (hb : Bytes s) (hl : s.length ≤ 4096) (hi : At s n) (h0 : 0 ≤ N) (h1 : N ≤ 40) :
 ∃ g n' m',Ev (fun k => Ze.f k s n m N) (g,n',m') ∧ (g.length : Int) = N ∧ (∀ x ∈ g,Rw 40 N x) ∧ At s n' := by
 obtain ⟨x,n1,m1,e1,hi1,-⟩ := pick_ok (m := m) (l := ([1,2,3,6] : List Int)) hb hl hi (by simp)
 obtain ⟨⟨g,n2,m2⟩,h,h2,h3,h4⟩ := dof_out hb hl N x h1 N.toNat 0 [] n1 m1 (by omega) rfl (by simp) hi1
 exact ⟨g,n2,m2,Ev.congr (fun k => by unfold Ze.f;rw [e1,Option.bind_some];rfl) h,h2,h3,h4⟩
theorem put_loop (l : List Int) (x : Int) (hl : l.length ≤ 1000) : ∀ i : Nat, i ≤ l.length → ∃ r, Ev (fun k => ZF.l0 k l x i) r ∧ r.length ≤ l.length + 1 ∧ ∀ y ∈ r, y ∈ l ∨ y = x := by
 have fin : ∀ i : Nat,i ≤ l.length → ∃ r : List Int,(Zad.f (l.take ((i : Nat) : Int).toNat)).bind (fun t => if t.length < 17592186044416 then ((some (t ++ [x] : List Int)).bind fun y => ((some (l.drop ((i : Nat) : Int).toNat : List Int)).bind fun z => (if y.length + z.length < 17592186044416 then (some (y ++ z)) else (none)))) else (none)) = some r ∧ r.length ≤ l.length + 1 ∧ ∀ y ∈ r,y ∈ l ∨ y = x := by
  intro i hi
  rw [Int.toNat_natCast,own_val _ (by rw [List.length_take];omega),Option.bind_some,if_pos (by rw [List.length_take];omega),Option.bind_some,Option.bind_some,if_pos (by simp;omega)]
  refine ⟨_,rfl,by simp;omega,fun y hy => ?_⟩
  rcases List.mem_append.1 hy with h | h
  ·rcases List.mem_append.1 h with h | h
   ·exact .inl (List.mem_of_mem_take h)
   ·exact .inr (List.mem_singleton.1 h)
  ·exact .inl (List.mem_of_mem_drop h)
 intro i
 induction i with
 | zero =>
  intro hi
  obtain ⟨r,h,hr⟩ := fin 0 hi
  refine ⟨r,Ev.step (f := fun _ => some r) (fun k => ?_) (Ev.now _),hr⟩
  simp only [ZF.l0]
  rw [if_neg (by omega),if_pos (by omega),if_pos (by omega)]
  exact h
 | succ i ih =>
  intro hi
  have ei : wrap64 (((i + 1 : Nat) : Int) - 1) = (i : Int) := by rw [wrapS (by omega) (by omega)];omega
  by_cases c1 : rd l (i : Int) > x
  ·obtain ⟨r,h,hr⟩ := ih (by omega)
   refine ⟨r,Ev.step (fun k => ?_) h,hr⟩
   simp only [ZF.l0]
   rw [if_pos (by omega),ei,if_pos (by omega),if_pos (by omega),if_pos c1]
  ·by_cases c2 : rd l (i : Int) = x
   ·refine ⟨l,Ev.step (f := fun _ => some l) (fun k => ?_) (Ev.now _),by omega,fun y hy => .inl hy⟩
    simp only [ZF.l0]
    rw [if_pos (by omega),ei,if_pos (by omega),if_pos (by omega),if_neg c1,if_pos c2]
   ·obtain ⟨r,h,hr⟩ := fin (i + 1) hi
    refine ⟨r,Ev.step (f := fun _ => some r) (fun k => ?_) (Ev.now _),hr⟩
    simp only [ZF.l0]
    rw [if_pos (by omega),ei,if_pos (by omega),if_pos (by omega),if_neg c1,if_neg c2,if_pos (by omega),if_pos (by omega)]
    exact h
theorem put_ok (l : List Int) (x : Int) (hl : l.length ≤ 1000) : ∃ r, Ev (fun k => ZF.f k l x) r ∧ r.length ≤ l.length + 1 ∧ ∀ y ∈ r, y ∈ l ∨ y = x := put_loop l x hl l.length (Nat.le_refl _)
theorem nums_loop {s : List Int} (hb : Bytes s) (hl : s.length ≤ 4096) : ∀ (c : Nat) (xs : List Int) (n m : Int), c ≤ 100 → xs.length + c ≤ 100 → (∀ y ∈ xs, 0 ≤ y ∧ y < 41) → At s n →
 ∃ ys n' m',Ev (fun k => Zy.l0 k xs c s n m) (ys,n',m') ∧ ys.length ≤ xs.length + c ∧ At s n' ∧ ∀ y ∈ ys,0 ≤ y ∧ y < 41
 | 0,xs,n,m,_,_,hE,hi => ⟨xs,n,m,Ev.step (f := fun _ => some (xs,n,m)) (fun k => by
  simp only [Zy.l0]
  rw [if_neg (by omega)]) (Ev.now _),by omega,hi,hE⟩
 | c + 1,xs,n,m,hc,hx,hE,hi => by
  obtain ⟨a,n1,m1,e1,hi1,ha⟩ := pick_ok (m := m) (l := ([4,8,39] : List Int)) hb hl hi (by simp)
  obtain ⟨b,n2,m2,e2,hi2,b0,b1⟩ := next_ok (m := m1) (a := a) hb hl hi1
  have ha2 : a = 4 ∨ a = 8 ∨ a = 39 := by simpa using ha
  have eb : wrap64 (1 + b) = 1 + b := wrapS (by omega) (by omega)
  obtain ⟨zs,h3,hz,hm⟩ := put_ok xs (wrap64 (1 + b)) (by omega)
  obtain ⟨ys,n',m',h4,hy,hi4⟩ := nums_loop hb hl c zs n2 m2 (by omega) (by omega) (put_in hm hE (by omega) (by omega)) hi2
  refine ⟨ys,n',m',Ev.step (fun k => ?_) (Ev.bind (f := fun k t => Zy.l0 k t (c : Int) s n2 m2) h3 h4),by omega,hi4⟩
  simp only [Zy.l0]
  rw [if_pos (by omega),e1,Option.bind_some,e2,Option.bind_some,show wrap64 (((c + 1 : Nat) : Int) - 1) = (c : Int) by rw [wrapS (by omega) (by omega)];omega]
theorem nums_ok {s : List Int} {n m : Int} (hb : Bytes s) (hl : s.length ≤ 4096) (hi : At s n) : ∃ ys n' m', Ev (fun k => Zy.f k s n m) (ys, n', m') ∧ ys.length ≤ 4 ∧ At s n' ∧ ∀ y ∈ ys, 0 ≤ y ∧ y < 41 := by
 obtain ⟨a,n1,m1,e1,hi1,p1,p2⟩ := next_ok (m := m) (a := 4) hb hl hi
 obtain ⟨q,rfl⟩ := Int.eq_ofNat_of_zero_le p1
 obtain ⟨ys,n',m',h,hy,hi2⟩ := nums_loop hb hl (1 + q) [] n1 m1 (by omega) (by simp;omega) (by simp) hi1
 refine ⟨ys,n',m',Ev.congr (fun k => ?_) h,by simp at hy;omega,hi2⟩
 unfold Zy.f
 rw [e1,Option.bind_some,wrapS (by omega) (by omega)]
 rfl
theorem heapd_in (K : Int) (l : List Int) (i : Nat) (acc : List (List Int)) (hl : l.length ≤ 40) (hE : ∀ y ∈ l, 0 ≤ y ∧ y < 41) (hK : K ≤ 40) (ha : acc.length ≤ 100) (hi : (i : Int) ≤ 100) (r : List (List Int) → Prop)
 (out : ∀ row : List Int,Rw 40 41 row → ∃ g,Ev (fun k => ZC.l0 k K l ((i : Int) + 1) (acc ++ [row])) g ∧ r g) : ∀ (e j : Nat) (row : List Int),j + e = l.length → row.length ≤ j → (∀ y ∈ row,0 ≤ y ∧ y < 41) →
 ∃ g,Ev (fun k => ZC.l1 k K l i row j acc) g ∧ r g
 | 0,j,row,h1,h2,h3 => by
  obtain ⟨g,h,hg⟩ := out row ⟨by omega,h3⟩
  refine ⟨g,Ev.step (fun k => ?_) h,hg⟩
  simp only [ZC.l1]
  rw [if_neg (by omega),if_pos (by omega),wrapS (i := (i : Int) + 1) (by omega) (by omega)]
 | e + 1,j,row,h1,h2,h3 => by
  have hr := hE _ (rd_mem (l := l) (r := (j : Int)) (by omega) (by omega))
  have hw : wrap64 ((i : Int) + (rd l (j : Int))) = (i : Int) + rd l (j : Int) := wrapS (by omega) (by omega)
  by_cases c : (wrap64 ((i : Int) + (rd l (j : Int)))) ≤ K
  ·obtain ⟨g,h,hg⟩ := heapd_in K l i acc hl hE hK ha hi r out e (j + 1) (row ++ [wrap64 ((i : Int) + (rd l (j : Int)))]) (by omega) (by simp;omega) (in_snoc h3 (by omega) (by omega))
   refine ⟨g,Ev.step (fun k => ?_) h,hg⟩
   simp only [ZC.l1]
   rw [if_pos (by omega),if_pos (by omega),if_pos c,if_pos (by omega),wrapS (i := (j : Int) + 1) (by omega) (by omega),cast_succ]
  ·obtain ⟨g,h,hg⟩ := heapd_in K l i acc hl hE hK ha hi r out e (j + 1) row (by omega) (by omega) h3
   refine ⟨g,Ev.step (fun k => ?_) h,hg⟩
   simp only [ZC.l1]
   rw [if_pos (by omega),if_pos (by omega),if_neg c,wrapS (i := (j : Int) + 1) (by omega) (by omega),cast_succ]
theorem heapd_loop (K : Int) (l : List Int) (hl : l.length ≤ 40) (hE : ∀ y ∈ l, 0 ≤ y ∧ y < 41) (hK : K ≤ 40) : ∀ (d i : Nat) (acc : List (List Int)), (i : Int) + d = K + 1 → acc.length = i → (∀ x ∈ acc, Rw 40 41 x) →
 ∃ g : List (List Int),Ev (fun k => ZC.l0 k K l i acc) g ∧ ((g.length : Int) = K + 1 ∧ ∀ x ∈ g,Rw 40 41 x)
 | 0,i,acc,h1,h2,h3 => ⟨acc,Ev.step (f := fun _ => some acc) (fun k => by
  simp only [ZC.l0]
  rw [if_neg (by omega)]) (Ev.now _),by omega,h3⟩
 | d + 1,i,acc,h1,h2,h3 => by
  obtain ⟨g,h,hg⟩ := heapd_in K l i acc hl hE hK (by omega) (by omega) _ (fun row hr => by
   have := heapd_loop K l hl hE hK d (i + 1) (acc ++ [row]) (by omega) (by simp;omega) (append_rows h3 hr)
   rw [cast_succ];exact this) l.length 0 [] (by omega) (by simp) (by simp)
  refine ⟨g,Ev.step (fun k => ?_) h,hg⟩
  simp only [ZC.l0]
  rw [if_pos (by omega)]
  rfl
theorem heapd_ok (K : Int) (l : List Int) (hl : l.length ≤ 40) (hE : ∀ y ∈ l, 0 ≤ y ∧ y < 41) (h0 : 0 ≤ K) (hK : K ≤ 40) : ∃ g : List (List Int), Ev (fun k => ZC.f k K l) g ∧ (g.length : Int) = K + 1 ∧ ∀ x ∈ g, Rw 40 41 x :=
 heapd_loop K l hl hE hK (K + 1).toNat 0 [] (by omega) rfl (by simp)
theorem sum3 (x5 : Int) (x0 : 0 ≤ x5) (x7 : x5 ≤ 7) (g h : List (List Int)) (p q : Nat) (acc : List (List Int)) (hg : g.length ≤ 7) (hq0 : q ≤ 7) (ha : acc.length ≤ 1000) (grow : List Int) (hgr : g[p]? = some grow) (hgE : ∀ y ∈ grow, 0 ≤ y ∧ y < 7) (Q : List (List Int) → Prop)
 (out : ∀ row : List Int,Rw 100 100 row → ∃ r,Ev (fun k => Zd.l1 k x5 p ((q : Int) + 1) g h (acc ++ [row])) r ∧ Q r) : ∀ (e j : Nat) (row : List Int),j + e = grow.length → grow.length ≤ 40 → row.length + e ≤ 100 → (∀ y ∈ row,0 ≤ y ∧ y < 100) →
 ∃ r,Ev (fun k => Zd.l3 k x5 p q row j g h acc) r ∧ Q r
 | 0,j,row,h1,h2,h3,hE => by
  obtain ⟨r,hr,hQ⟩ := out row ⟨by omega,hE⟩
  have hp : p < g.length := (List.getElem?_eq_some_iff.1 hgr).1
  refine ⟨r,Ev.step (fun k => ?_) hr,hQ⟩
  simp only [Zd.l3]
  rw [if_pos (by omega),if_pos (by omega),rdL2_nat,getD_of hgr,if_neg (by omega),if_pos (by omega),wrapS (i := (q : Int) + 1) (by omega) (by omega)]
 | e + 1,j,row,h1,h2,h3,hE => by
  have hp : p < g.length := (List.getElem?_eq_some_iff.1 hgr).1
  have hr := hgE _ (rd_mem (l := grow) (r := (j : Int)) (by omega) (by omega))
  have hx := mul_in x0 x7 hr.1 (by omega)
  have e1 : wrap64 (x5 * (rd grow (j : Int))) = x5 * (rd grow (j : Int)) := wrapS (by omega) (by omega)
  have e2 : wrap64 ((wrap64 (x5 * (rd grow (j : Int)))) + (q : Int)) = x5 * (rd grow (j : Int)) + (q : Int) := by rw [e1];exact wrapS (by omega) (by omega)
  obtain ⟨t,ht,hl,hm⟩ := put_ok row (wrap64 ((wrap64 (x5 * (rd grow (j : Int)))) + (q : Int))) (by omega)
  obtain ⟨r,hr,hQ⟩ := sum3 x5 x0 x7 g h p q acc hg hq0 ha grow hgr hgE Q out e (j + 1) t (by omega) h2 (by omega) (put_in hm hE (by omega) (by omega))
  refine ⟨r,Ev.step (fun k => ?_) (Ev.bind (f := fun k t => Zd.l3 k x5 p q t ((j + 1 : Nat) : Int) g h acc) ht hr),hQ⟩
  simp only [Zd.l3]
  rw [if_pos (by omega),if_pos (by omega),rdL2_nat,getD_of hgr,if_pos (by omega),if_pos (by omega),wrapS (i := (j : Int) + 1) (by omega) (by omega),cast_succ]
theorem sum2 (x5 : Int) (x0 : 0 ≤ x5) (x7 : x5 ≤ 7) (g h : List (List Int)) (p q : Nat) (acc : List (List Int)) (hg : g.length ≤ 7) (hh : h.length ≤ 7) (ha : acc.length ≤ 1000) (grow hrow : List Int) (hgr : g[p]? = some grow) (hgE : ∀ y ∈ grow, 0 ≤ y ∧ y < 7) (hgl : grow.length ≤ 40) (hhr : h[q]? = some hrow) (hhE : ∀ y ∈ hrow, 0 ≤ y ∧ y < 7) (Q : List (List Int) → Prop)
 (out : ∀ row : List Int,Rw 100 100 row → ∃ r,Ev (fun k => Zd.l1 k x5 p ((q : Int) + 1) g h (acc ++ [row])) r ∧ Q r) : ∀ (e j : Nat) (row : List Int),j + e = hrow.length → hrow.length ≤ 40 → row.length + e ≤ 60 → (∀ y ∈ row,0 ≤ y ∧ y < 100) →
 ∃ r,Ev (fun k => Zd.l2 k x5 p q row j g h acc) r ∧ Q r
 | 0,j,row,h1,h2,h3,hE => by
  have hq : q < h.length := (List.getElem?_eq_some_iff.1 hhr).1
  obtain ⟨r,hr,hQ⟩ := sum3 x5 x0 x7 g h p q acc hg (by omega) ha grow hgr hgE Q out grow.length 0 row (by omega) hgl (by omega) hE
  refine ⟨r,Ev.step (fun k => ?_) hr,hQ⟩
  simp only [Zd.l2]
  rw [if_pos (by omega),if_pos (by omega),rdL2_nat,getD_of hhr,if_neg (by omega)]
  rfl
 | e + 1,j,row,h1,h2,h3,hE => by
  have hq : q < h.length := (List.getElem?_eq_some_iff.1 hhr).1
  have hr := hhE _ (rd_mem (l := hrow) (r := (j : Int)) (by omega) (by omega))
  have hpl : p < g.length := (List.getElem?_eq_some_iff.1 hgr).1
  have hx := mul_in (b := (p : Int)) x0 x7 (by omega) (by omega)
  have e1 : wrap64 (x5 * (p : Int)) = x5 * (p : Int) := wrapS (by omega) (by omega)
  have e2 : wrap64 ((wrap64 (x5 * (p : Int))) + (rd hrow (j : Int))) = x5 * (p : Int) + (rd hrow (j : Int)) := by rw [e1];exact wrapS (by omega) (by omega)
  obtain ⟨t,ht,hl,hm⟩ := put_ok row (wrap64 ((wrap64 (x5 * (p : Int))) + (rd hrow (j : Int)))) (by omega)
  obtain ⟨r,hr,hQ⟩ := sum2 x5 x0 x7 g h p q acc hg hh ha grow hrow hgr hgE hgl hhr hhE Q out e (j + 1) t (by omega) h2 (by omega) (put_in hm hE (by omega) (by omega))
  refine ⟨r,Ev.step (fun k => ?_) (Ev.bind (f := fun k t => Zd.l2 k x5 p q t ((j + 1 : Nat) : Int) g h acc) ht hr),hQ⟩
  simp only [Zd.l2]
  rw [if_pos (by omega),if_pos (by omega),rdL2_nat,getD_of hhr,if_pos (by omega),if_pos (by omega),wrapS (i := (j : Int) + 1) (by omega) (by omega),cast_succ]
theorem sum1 (g h : List (List Int)) (hg : g.length ≤ 7) (hh : h.length ≤ 7) (hgl : ∀ x ∈ g, Rw 40 7 x) (hhl : ∀ x ∈ h, Rw 40 7 x) (p : Nat) (hp : p < g.length) (Q : List (List Int) → Prop) (M : Nat)
 (out : ∀ acc : List (List Int),acc.length = M + h.length → (∀ x ∈ acc,Rw 100 100 x) → ∃ r,Ev (fun k => Zd.l0 k h.length ((p : Int) + 1) g h acc) r ∧ Q r) (hM : M ≤ 100) : ∀ (e q : Nat) (acc : List (List Int)),q + e = h.length → acc.length = M + q → (∀ x ∈ acc,Rw 100 100 x) →
 ∃ r,Ev (fun k => Zd.l1 k h.length p q g h acc) r ∧ Q r
 | 0,q,acc,h1,h2,h3 => by
  obtain ⟨r,hr,hQ⟩ := out acc (by omega) h3
  refine ⟨r,Ev.step (fun k => ?_) hr,hQ⟩
  simp only [Zd.l1]
  rw [if_neg (by omega),wrapS (i := (p : Int) + 1) (by omega) (by omega)]
 | e + 1,q,acc,h1,h2,h3 => by
  obtain ⟨grow,hgr⟩ := get_some (xs := g) (i := p) hp
  obtain ⟨hrow,hhr⟩ := get_some (xs := h) (i := q) (by omega)
  obtain ⟨r,hr,hQ⟩ := sum2 h.length (by omega) (by omega) g h p q acc hg hh (by omega) grow hrow hgr (hgl _ (List.mem_of_getElem? hgr)).2 (hgl _ (List.mem_of_getElem? hgr)).1 hhr (hhl _ (List.mem_of_getElem? hhr)).2 Q (fun row hrow_ => by
   have := sum1 g h hg hh hgl hhl p hp Q M out hM e (q + 1) (acc ++ [row]) (by omega) (by simp;omega) (append_rows h3 hrow_)
   rw [cast_succ];exact this) hrow.length 0 [] (by omega) (hhl _ (List.mem_of_getElem? hhr)).1 (by have := (hhl _ (List.mem_of_getElem? hhr)).1;simp;omega) (by simp)
  refine ⟨r,Ev.step (fun k => ?_) hr,hQ⟩
  simp only [Zd.l1]
  rw [if_pos (by omega)]
  rfl
theorem sum0 (g h : List (List Int)) (hg : g.length ≤ 7) (hh : h.length ≤ 7) (hgl : ∀ x ∈ g, Rw 40 7 x) (hhl : ∀ x ∈ h, Rw 40 7 x) : ∀ (e p : Nat) (acc : List (List Int)), p + e = g.length → acc.length = p * h.length → (∀ x ∈ acc, Rw 100 100 x) →
 ∃ r : List (List Int),Ev (fun k => Zd.l0 k h.length p g h acc) r ∧ (r.length = g.length * h.length ∧ ∀ x ∈ r,Rw 100 100 x)
 | 0,p,acc,h1,h2,h3 => ⟨acc,Ev.step (f := fun _ => some acc) (fun k => by
  simp only [Zd.l0,Zl.f]
  rw [Option.bind_some,if_neg (by omega)]) (Ev.now _),by rw [h2,show p = g.length by omega],h3⟩
 | e + 1,p,acc,h1,h2,h3 => by
  have hm : p * h.length ≤ 7 * 7 := Nat.mul_le_mul (by omega) hh
  obtain ⟨r,hr,hQ⟩ := sum1 g h hg hh hgl hhl p (by omega) _ (p * h.length) (fun acc2 h4 h5 => by
   have := sum0 g h hg hh hgl hhl e (p + 1) acc2 (by omega) (by rw [h4,Nat.succ_mul]) h5
   rw [cast_succ];exact this) (by omega) h.length 0 acc (by omega) (by omega) h3
  refine ⟨r,Ev.step (fun k => ?_) hr,hQ⟩
  simp only [Zd.l0,Zl.f]
  rw [Option.bind_some,if_pos (by omega)]
  rfl
theorem sumd_ok (g h : List (List Int)) (hg : g.length ≤ 7) (hh : h.length ≤ 7) (hgl : ∀ x ∈ g, Rw 40 7 x) (hhl : ∀ x ∈ h, Rw 40 7 x) :
 ∃ r : List (List Int),Ev (fun k => Zd.f k g h) r ∧ (r.length = g.length * h.length ∧ ∀ x ∈ r,Rw 100 100 x) := by
 obtain ⟨r,hr,hq⟩ := sum0 g h hg hh hgl hhl g.length 0 [] (by omega) (by simp) (by simp)
 exact ⟨r,Ev.congr (fun k => by unfold Zd.f;simp only [Zl.f];rw [Option.bind_some];rfl) hr,hq⟩
theorem draw_ok {s : List Int} {n m : Int} (hb : Bytes s) (hl : s.length ≤ 4096) (hi : At s n) :
 ∃ g n' m',Ev (fun k => Zaj.f k s n m) (g,n',m') ∧ 1 ≤ g.length ∧ g.length ≤ 100 ∧ (∀ x ∈ g,x.length ≤ 200) ∧ At s n' ∧ ∀ x ∈ g,Rw 100 100 x := by
 obtain ⟨a,n1,m1,e1,hi1,a0,a1⟩ := next_ok (m := m) (a := 4) hb hl hi
 have up : ∀ {g : List (List Int)} {b : Nat} {c : Int},b ≤ 100 → (∀ x ∈ g,Rw b c x) → ∀ x ∈ g,x.length ≤ 200 := fun hb h x hx => by have := (h x hx).1;omega
 have ux : ∀ {g : List (List Int)} {b : Nat} {c : Int},b ≤ 100 → c ≤ 100 → (∀ x ∈ g,Rw b c x) → ∀ x ∈ g,Rw 100 100 x := fun hb hc h x hx => ⟨by have := (h x hx).1;omega,fun y hy => by have := (h x hx).2 y hy;omega⟩
 by_cases c0 : a = 0
 ·obtain ⟨b,n2,m2,e2,hi2,b0,b1⟩ := next_ok (m := m1) (a := 40) hb hl hi1
  obtain ⟨g,n3,m3,e3,g1,g2,hi3⟩ := drawof_ok (m := m2) (N := wrap64 (1 + b)) hb hl hi2 (by rw [wrapS (by omega) (by omega)];omega) (by rw [wrapS (by omega) (by omega)];omega)
  rw [wrapS (by omega) (by omega)] at g1
  refine ⟨g,n3,m3,?_,by omega,by omega,up (by omega) g2,hi3,ux (by omega) (by first | omega | (rw [wrapS (by omega) (by omega)];omega)) g2⟩
  exact Ev.congr (fun k => by unfold Zaj.f;rw [e1,Option.bind_some,if_pos c0,e2,Option.bind_some]) (Ev.bind e3 (Ev.now _))
 by_cases c1 : a = 1
 ·obtain ⟨b,n2,m2,e2,hi2,b0,b1⟩ := next_ok (m := m1) (a := 40) hb hl hi1
  obtain ⟨l,n3,m3,e3,l1,hi3,lE⟩ := nums_ok (m := m2) hb hl hi2
  obtain ⟨g,e4,g1,g2⟩ := heapd_ok b l (by omega) lE b0 (by omega)
  refine ⟨g,n3,m3,?_,by omega,by omega,up (by omega) g2,hi3,ux (by omega) (by first | omega | (rw [wrapS (by omega) (by omega)];omega)) g2⟩
  exact Ev.congr (fun k => by unfold Zaj.f;rw [e1,Option.bind_some,if_neg c0,if_pos c1,e2,Option.bind_some]) (Ev.bind e3 (Ev.bind (f := fun _ t => some (t,n3,m3)) e4 (Ev.now _)))
 by_cases c2 : a = 2
 ·obtain ⟨b,n2,m2,e2,hi2,b0,b1⟩ := next_ok (m := m1) (a := 6) hb hl hi1
  obtain ⟨g,n3,m3,e3,g1,g2,hi3⟩ := drawof_ok (m := m2) (N := wrap64 (1 + b)) hb hl hi2 (by rw [wrapS (by omega) (by omega)];omega) (by rw [wrapS (by omega) (by omega)];omega)
  rw [wrapS (by omega) (by omega)] at g1
  obtain ⟨c,n4,m4,e4,hi4,c0',c1'⟩ := next_ok (m := m3) (a := 6) hb hl hi3
  obtain ⟨h,n5,m5,e5,h1,h2,hi5⟩ := drawof_ok (m := m4) (N := wrap64 (1 + c)) hb hl hi4 (by rw [wrapS (by omega) (by omega)];omega) (by rw [wrapS (by omega) (by omega)];omega)
  rw [wrapS (by omega) (by omega)] at h1
  have u7 : ∀ {g : List (List Int)} {c : Int},c ≤ 7 → (∀ x ∈ g,Rw 40 c x) → ∀ x ∈ g,Rw 40 7 x := fun hc h x hx => ⟨(h x hx).1,fun y hy => by have := (h x hx).2 y hy;omega⟩
  obtain ⟨r,e6,r1,r2⟩ := sumd_ok g h (by omega) (by omega) (u7 (by rw [wrapS (by omega) (by omega)];omega) g2) (u7 (by rw [wrapS (by omega) (by omega)];omega) h2)
  have rl : r.length ≤ 10 * 10 := by rw [r1];exact Nat.mul_le_mul (by omega) (by omega)
  have rp : 0 < r.length := by rw [r1];exact Nat.mul_pos (by omega) (by omega)
  refine ⟨r,n5,m5,?_,by omega,by omega,up (by omega) r2,hi5,r2⟩
  exact Ev.congr (fun k => by unfold Zaj.f;rw [e1,Option.bind_some,if_neg c0,if_neg c1,if_pos c2,e2,Option.bind_some]) (Ev.bind e3 (Ev.congr (fun k => by rw [e4,Option.bind_some]) (Ev.bind e5 (Ev.bind (f := fun _ t => some (t,n5,m5)) e6 (Ev.now _)))))
 ·obtain ⟨b,n2,m2,e2,hi2,b0,b1⟩ := next_ok (m := m1) (a := 8) hb hl hi1
  obtain ⟨g,n3,m3,e3,g1,g2,hi3⟩ := drawof_ok (m := m2) (N := wrap64 (1 + b)) hb hl hi2 (by rw [wrapS (by omega) (by omega)];omega) (by rw [wrapS (by omega) (by omega)];omega)
  rw [wrapS (by omega) (by omega)] at g1
  refine ⟨g,n3,m3,?_,by omega,by omega,up (by omega) g2,hi3,ux (by omega) (by first | omega | (rw [wrapS (by omega) (by omega)];omega)) g2⟩
  exact Ev.congr (fun k => by unfold Zaj.f Zas.f;rw [e1,Option.bind_some,if_neg c0,if_neg c1,if_neg c2,e2,Option.bind_some]) (Ev.bind (Ev.bind e3 (Ev.now _)) (Ev.now _))
theorem append_len {a : List (List Int)} {row : List Int} {b : Nat} (h : ∀ x ∈ a, x.length ≤ b) (hr : row.length ≤ b) : ∀ x ∈ a ++ [row], x.length ≤ b := by
 intro x hx
 rcases List.mem_append.1 hx with hx | hx
 ·exact h x hx
 ·rw [List.mem_singleton.1 hx];exact hr
theorem copy_loop (g : List (List Int)) (hg : g.length ≤ 1000) (hr : ∀ x ∈ g, x.length ≤ 1000) : ∀ d i : Nat, i + d = g.length → Ev (fun k => ZB.l0 k (i : Int) g (g.take i)) g
 | 0,i,h => by
  refine Ev.step (f := fun _ => some g) (fun k => ?_) (Ev.now _)
  simp only [ZB.l0]
  rw [if_neg (by omega),List.take_of_length_le (by omega)]
 | d + 1,i,h => by
  obtain ⟨row,hi⟩ := get_some (xs := g) (i := i) (by omega)
  have ih := copy_loop g hg hr d (i + 1) (by omega)
  refine Ev.step (fun k => ?_) ih
  have hl := hr _ (List.mem_of_getElem? hi)
  simp only [ZB.l0]
  rw [if_pos (by omega),if_pos (by omega),rdL2_nat,getD_of hi,own_val row (by omega),Option.bind_some,if_pos (by rw [List.length_take];omega),wrapS (i := (i : Int) + 1) (by omega) (by omega),cast_succ,List.take_add_one,hi]
  rfl
theorem copy_ok (g : List (List Int)) (hg : g.length ≤ 1000) (hr : ∀ x ∈ g, x.length ≤ 1000) : Ev (fun k => ZB.f k g) g := copy_loop g hg hr g.length 0 (by omega)
theorem fill_loop (s : List Int) (n m : Int) : ∀ (d : Nat) (g : List (List Int)), 41 ≤ g.length + d → g.length ≤ 1000 → (∀ x ∈ g, x.length ≤ 1000) →
 ∃ r : List (List Int),Ev (fun k => Zu.l0 k s n m g) (r,n,m) ∧ r.length ≤ 1000 ∧ ∀ x ∈ r,x.length ≤ 1000
 | 0,g,h1,h2,h3 => ⟨g,Ev.step (f := fun _ => some (g,n,m)) (fun k => by
  simp only [Zu.l0]
  rw [if_neg (by omega)]) (Ev.now _),h2,h3⟩
 | d + 1,g,h1,h2,h3 => by
  by_cases c : (g.length : Int) ≤ 40
  ·obtain ⟨r,hr,h4⟩ := fill_loop s n m d (g ++ [[]]) (by simp;omega) (by simp;omega) (append_len h3 (by simp))
   refine ⟨r,Ev.step (fun k => ?_) hr,h4⟩
   simp only [Zu.l0]
   rw [if_pos c,if_pos (by omega)]
  ·refine ⟨g,Ev.step (f := fun _ => some (g,n,m)) (fun k => ?_) (Ev.now _),h2,h3⟩
   simp only [Zu.l0]
   rw [if_neg c]
theorem badg_ok {s : List Int} {n m : Int} (hb : Bytes s) (hl : s.length ≤ 4096) (hi : At s n) (g : List (List Int)) (g0 : 1 ≤ g.length) (g1 : g.length ≤ 100) (g2 : ∀ x ∈ g, x.length ≤ 200) :
 ∃ r n' m',Ev (fun k => Zu.f k s n m g) (r,n',m') ∧ r.length ≤ 1000 ∧ (∀ x ∈ r,x.length ≤ 1000) ∧ At s n' := by
 have up : ∀ x ∈ g,x.length ≤ 1000 := fun x hx => by have := g2 x hx;omega
 have hc := copy_ok g (by omega) up
 obtain ⟨a,n1,m1,e1,hi1,-⟩ := next_ok (m := m) (a := 50) hb hl hi
 by_cases c0 : a = 0
 ·refine ⟨[],n1,m1,?_,by simp,by simp,hi1⟩
  unfold Zu.f
  exact Ev.bind hc (Ev.congr (f := fun _ => some (([] : List (List Int)),n1,m1)) (fun k => by rw [e1,Option.bind_some,if_pos c0]) (Ev.now _))
 by_cases c1 : a = 1
 ·obtain ⟨b,n2,m2,e2,hi2,b0,b1⟩ := next_ok (m := m1) (a := (g.length : Int)) hb hl hi1
  have hb2 : b < (g.length : Int) := by omega
  obtain ⟨q,rfl⟩ := Int.eq_ofNat_of_zero_le b0
  obtain ⟨row,hq⟩ := get_some (xs := g) (i := q) (by omega)
  have hrl := g2 _ (List.mem_of_getElem? hq)
  obtain ⟨x,n3,m3,e3,hi3,-⟩ := pick_ok (m := m2) (l := ([0,(-1),(g.length : Int),(q : Int)] : List Int)) hb hl hi2 (by simp)
  refine ⟨g.set q (row ++ [x]),n3,m3,?_,by rw [List.length_set];omega,?_,hi3⟩
  ·unfold Zu.f
   refine Ev.bind hc (Ev.congr (f := fun _ => some (g.set q (row ++ [x]),n3,m3)) (fun k => ?_) (Ev.now _))
   simp only [Zl.f]
   rw [e1,Option.bind_some,if_neg c0,if_pos c1,Option.bind_some,e2,Option.bind_some,if_pos b0,if_pos hb2,Option.bind_some,e3,Option.bind_some,rdL2_nat,getD_of hq,if_pos (by omega),Int.toNat_natCast]
  ·intro y hy
   rcases List.mem_or_eq_of_mem_set hy with h | h
   ·exact up y h
   ·rw [h];simp;omega
 by_cases c2 : a = 2
 ·obtain ⟨r,hr,h4,h5⟩ := fill_loop s n1 m1 41 g (by omega) (by omega) up
  refine ⟨r,n1,m1,?_,h4,h5,hi1⟩
  unfold Zu.f
  exact Ev.bind hc (Ev.congr (fun k => by rw [e1,Option.bind_some,if_neg c0,if_neg c1,if_pos c2]) hr)
 ·refine ⟨g,n1,m1,?_,by omega,up,hi1⟩
  unfold Zu.f
  exact Ev.bind hc (Ev.congr (f := fun _ => some (g,n1,m1)) (fun k => by rw [e1,Option.bind_some,if_neg c0,if_neg c1,if_neg c2]) (Ev.now _))
def Sm (g : List (List Int)) : Prop := g.length ≤ 1000 ∧ ∀ x ∈ g, x.length ≤ 1000
theorem Sm.rows {g : List (List Int)} (h : Sm g) : ∀ row ∈ g, row.length < 4611686018427387904 := fun x hx => by have := h.2 x hx; omega
theorem Sm.len {g : List (List Int)} (h : Sm g) : g.length < 4611686018427387904 := by have := h.1; omega
theorem grundy_draw (l : List Int) (hb : Bytes l) (hl : l.length ≤ 4096) : ∃ g, Ev (fun k => Zal.f k l) g ∧ Sm g := by
 obtain ⟨m1,e1⟩ := from_ok l hl
 have hi1 : At l 0 := ⟨Int.le_refl 0,by omega⟩
 obtain ⟨g,n2,m2,e2,g0,g1,g2,hi2,-⟩ := draw_ok (m := m1) hb hl hi1
 obtain ⟨r,n5,m5,e5,r1,r2,-⟩ := badg_ok (m := m2) hb hl hi2 g g0 g1 g2
 refine ⟨r,?_,r1,r2⟩
 unfold Zal.f Zat.f
 exact Ev.bind e1 (Ev.bind (Ev.bind e2 (Ev.bind e5 (Ev.now _))) (Ev.now _))
theorem sum_draw (l : List Int) (hb : Bytes l) (hl : l.length ≤ 4096) : ∃ g h, Ev (fun k => ZD.f k l) (g, h) ∧ Sm g ∧ Sm h := by
 obtain ⟨m1,e1⟩ := from_ok l hl
 have hi1 : At l 0 := ⟨Int.le_refl 0,by omega⟩
 obtain ⟨a,n2,m2,e2,hi2,a0,a1⟩ := next_ok (m := m1) (a := 7) hb hl hi1
 have ea : wrap64 (1 + a) = 1 + a := wrapS (by omega) (by omega)
 obtain ⟨g,n3,m3,e3,g1,g2,hi3⟩ := drawof_ok (m := m2) (N := wrap64 (1 + a)) hb hl hi2 (by omega) (by omega)
 obtain ⟨b,n4,m4,e4,hi4,b0,b1⟩ := next_ok (m := m3) (a := 7) hb hl hi3
 have eb : wrap64 (1 + b) = 1 + b := wrapS (by omega) (by omega)
 obtain ⟨h,n5,m5,e5,h1,h2,hi5⟩ := drawof_ok (m := m4) (N := wrap64 (1 + b)) hb hl hi4 (by omega) (by omega)
 obtain ⟨r,n6,m6,e6,r1,r2,hi6⟩ := badg_ok (m := m5) hb hl hi5 g (by omega) (by omega) (fun x hx => by have := (g2 x hx).1;omega)
 obtain ⟨t,n7,m7,e7,t1,t2,-⟩ := badg_ok (m := m6) hb hl hi6 h (by omega) (by omega) (fun x hx => by have := (h2 x hx).1;omega)
 refine ⟨r,t,?_,⟨r1,r2⟩,⟨t1,t2⟩⟩
 unfold ZD.f
 refine Ev.bind e1 (Ev.congr (fun k => by rw [e2,Option.bind_some]) (Ev.bind e3 (Ev.congr (fun k => by rw [e4,Option.bind_some]) (Ev.bind e5 (Ev.bind e6 (Ev.bind (f := fun _ u => some (r,u.1)) e7 (Ev.now _)))))))
theorem list_loop {s : List Int} (hb : Bytes s) (hl : s.length ≤ 4096) : ∀ (c : Nat) (acc : List Int) (n m : Int), acc.length + c ≤ 100 → At s n → ∃ ys, Ev (fun k => Zx.l0 k acc (c : Int) s n m) ys ∧ ys.length ≤ 101
 | 0,acc,n,m,ha,hi => by
  obtain ⟨d,n1,m1,e1,-,-⟩ := next_ok (m := m) (a := 16) hb hl hi
  by_cases d0 : d = 0
  ·refine ⟨acc ++ [-1],Ev.step (f := fun _ => some (acc ++ [-1])) (fun k => ?_) (Ev.now _),by simp;omega⟩
   rw [Zx.l0,if_neg (by omega),e1,Option.bind_some,if_pos d0,if_pos (by omega)]
  by_cases d1 : d = 1
  ·refine ⟨acc ++ [4611686018427387904],Ev.step (f := fun _ => some (acc ++ [4611686018427387904])) (fun k => ?_) (Ev.now _),by simp;omega⟩
   rw [Zx.l0,if_neg (by omega),e1,Option.bind_some,if_neg d0,if_pos d1,if_pos (by omega)]
  ·refine ⟨acc,Ev.step (f := fun _ => some acc) (fun k => ?_) (Ev.now _),by omega⟩
   rw [Zx.l0,if_neg (by omega),e1,Option.bind_some,if_neg d0,if_neg d1]
 | c + 1,acc,n,m,ha,hi => by
  obtain ⟨x,n1,m1,e1,hi1,-⟩ := pick_ok (m := m) (l := ([4,12,1073741824] : List Int)) hb hl hi (by simp)
  obtain ⟨y,n2,m2,e2,hi2,-⟩ := next_ok (m := m1) (a := x) hb hl hi1
  obtain ⟨ys,h,hy⟩ := list_loop hb hl c (acc ++ [y]) n2 m2 (by simp;omega) hi2
  refine ⟨ys,Ev.step (fun k => ?_) h,hy⟩
  rw [Zx.l0,if_pos (by omega),e1,Option.bind_some,e2,Option.bind_some,if_pos (by omega),wrapS (by omega) (by omega),show ((c + 1 : Nat) : Int) - 1 = (c : Int) by omega]
theorem mex_draw (l : List Int) (hb : Bytes l) (hl : l.length ≤ 4096) : ∃ xs, Ev (fun k => Zab.f k l) xs ∧ xs.length ≤ 101 := by
 obtain ⟨m1,e1⟩ := from_ok l hl
 have hi1 : At l 0 := ⟨Int.le_refl 0,by omega⟩
 obtain ⟨x,n2,m2,e2,hi2,hx⟩ := pick_ok (m := m1) (l := ([4,12,40] : List Int)) hb hl hi1 (by simp)
 have hx2 : x = 4 ∨ x = 12 ∨ x = 40 := by simpa using hx
 obtain ⟨c,n3,m3,e3,hi3,c0,c1⟩ := next_ok (m := m2) (a := x) hb hl hi2
 obtain ⟨ys,h,hy⟩ := list_loop hb hl c.toNat [] n3 m3 (by simp;omega) hi3
 rw [Int.toNat_of_nonneg c0] at h
 refine ⟨ys,?_,hy⟩
 unfold Zab.f Zx.f
 exact Ev.bind (Ev.bind e1 (Ev.congr (fun k => by rw [e2,Option.bind_some,e3,Option.bind_some]) h)) (Ev.now _)
end Go.Proofs.YtnlbbpgmmeapfaaGreatDoor.PX
namespace Go.Proofs.YtnlbbpgmmeapfaaGreatDoor.Opens
open Go.RowKit Go.ChangeShapes Go.WideShapes Go.ChangeAt Go.Deep Go.WideElems Go.Joins Go.Proofs.YtnlbbpgmmeapfaaGreatDoorW.PrintWords
set_option linter.unusedVariables false
set_option linter.unusedSimpArgs false
set_option maxHeartbeats 8000000
set_option maxRecDepth 100000
variable {H : Type} {enc : TypeId × Value → H} {P : Program} {w : World} {base : Nat} {spare : Nat → Bool} {held : Bool}
def Opens (enc : TypeId × Value → H) (P : Program) (w : World) (base : Nat) (spare : Nat → Bool) (held : Bool) {α : Type} (t : TypeId) (d : Kd α) (Q : α → Prop) : Prop :=
 ∀ n cs y,DataW.trod enc P w base spare held n t cs = some y → ∃ x,d.K w x cs ∧ Q x
theorem opens_int {t : TypeId} {k : IntKind} (ht : P.underlying t = some (.int k)) : Opens enc P w base spare held t (Kd.int k) (fun x => (Lit.int k x).wf = true) := by
 intro n cs y h
 obtain ⟨x,rfl,_,hw⟩ := DataW.trod_int ht h
 exact ⟨x,rfl,hw⟩
theorem choose_list {α : Type} {R : Nat → α → Prop} : ∀ (n : Nat), (∀ i, i < n → ∃ x, R i x) → ∃ xs : List α, xs.length = n ∧ ∀ i x, xs[i]? = some x → R i x
 | 0,_ => ⟨[],rfl,fun i x h => by simp at h⟩
 | n + 1,h => by
  obtain ⟨xs,hl,hx⟩ := choose_list n (fun i hi => h i (Nat.lt_succ_of_lt hi))
  obtain ⟨x,hn⟩ := h n (Nat.lt_succ_self n)
  refine ⟨xs ++ [x],by simp [hl],fun i z hz => ?_⟩
  rcases Nat.lt_or_ge i xs.length with hi | hi
  ·rw [List.getElem?_append_left hi] at hz
   exact hx i z hz
  ·rw [List.getElem?_append_right hi] at hz
   have : i - xs.length = 0 := by
    rcases Nat.eq_zero_or_pos (i - xs.length) with e | e
    ·exact e
    ·rw [List.getElem?_eq_none (by simp;omega)] at hz
     exact absurd hz (by simp)
   rw [this] at hz
   have hz' : x = z := by simpa using hz
   subst hz'
   have : i = n := by omega
   subst this
   exact hn
theorem opens_slice {α : Type} {t e : TypeId} {d : Kd α} {Q : α → Prop} (ht : P.underlying t = some (.slice e)) (hc : P.cellsOf e = d.sz) (he : Opens enc P w base spare held e d Q) :
 Opens enc P w base spare held t (Kd.slice e d) (fun xs => xs.length ≤ 9223372036854775807 ∧ ∀ x ∈ xs,Q x) := by
 intro n cs y h
 rcases open_slice ht h with ⟨rfl,rfl⟩ | ⟨a,len,cap,m,n',D,Pl,rfl,hb,hl,hm,hmm,hx,hall⟩
 ·exact ⟨[],⟨none,0,rfl,Nat.le_refl _,rfl,by simp,fun h => absurd h (by simp)⟩,by simp,fun x hx => by simp at hx⟩
 ·have hlm : len ≤ m := by rw [hmm];split <;> omega
  have hch : ∀ i,i < len → ∃ x : α,(∃ c,c.length = d.sz ∧ d.K w x c ∧ ∀ j u,c[j]? = some u → w.cell? (a.add (i * d.sz + j)) = some u) ∧ Q x := by
   intro i hi
   obtain ⟨cs',hcs,htr⟩ := hall i (by omega)
   obtain ⟨x,hK,hQ⟩ := he _ _ _ htr
   refine ⟨x,⟨cs',d.K_len hK,hK,fun j u hu => ?_⟩,hQ⟩
   have hj : j < P.cellsOf e := by
    rw [hc,← d.K_len hK]
    exact (List.getElem?_eq_some_iff.1 hu).1
   have h3 := (World.cells?_some hcs).2.2 j hj
   rw [Addr.add_add,hc] at h3
   rw [h3,hu]
  obtain ⟨xs,hlen,hxs⟩ := choose_list len hch
  subst hlen
  refine ⟨xs,⟨some a,cap,rfl,hl,rfl,by simp only [maxLen] at hm;omega,fun _ => ⟨a,rfl,fun j p hj => (hxs j p hj).1⟩⟩,by simp only [maxLen] at hm;omega,fun x hx => ?_⟩
  obtain ⟨i,hi,hix⟩ := List.getElem_of_mem hx
  exact (hxs i x (by rw [List.getElem?_eq_getElem hi,hix])).2
theorem opened_slice {α : Type} {t e : TypeId} {d : Kd α} {Q : α → Prop} (ht : P.underlying t = some (.slice e)) (hc : P.cellsOf e = d.sz) (he : Opens enc P w base spare held e d Q) {n : Nat} {v : Value} {y : DataW H × List MemPlace}
 (h : DataW.trod enc P w base spare held n t [v] = some y) : ∃ A c,∃ xs : List α,v = .slice A xs.length c ∧ xs.length ≤ c ∧ Kd.C d w A xs.length xs ∧ xs.length ≤ 9223372036854775807 ∧ ∀ x ∈ xs,Q x := by
 obtain ⟨xs,⟨A,c,e1,hl,hC⟩,hQ⟩ := opens_slice ht hc he _ _ _ h
 simp only [List.cons.injEq,and_true] at e1
 exact ⟨A,c,xs,e1,hl,hC,hQ⟩
end Go.Proofs.YtnlbbpgmmeapfaaGreatDoor.Opens
namespace Go.Proofs
open Go.Shelf
set_option maxHeartbeats 8000000
set_option maxRecDepth 100000
def Tryz.lays156_ren : Go.Shelf.Ren := ⟨fun | 156 => 50 | 165 => 71 | 166 => 72 | 169 => 73 | 240 => 89 | 241 => 90 | 276 => 98 | 277 => 99 | n => n, fun | 31 => 66 | 9 => 9 | 3 => 3 | 4 => 4 | 0 => 0 | 20 => 20 | 72 => 92 | 76 => 96 | 70 => 90 | 37 => 22 | 75 => 95 | 127 => 114 | 164 => 121 | 5 => 5 | 80 => 98 | n => n, fun | n => n⟩
theorem Tryz.lays156 : Go.Proofs.Lays.n156 Tryz.prog Tryz.lays156_ren := {
  mixed := by kernel_rfl
  f156 := Tryz.func50.trans (congrArg some (by kernel_rfl))
  f165 := Tryz.func71.trans (congrArg some (by kernel_rfl))
  f166 := Tryz.func72.trans (congrArg some (by kernel_rfl))
  f169 := Tryz.func73.trans (congrArg some (by kernel_rfl))
  f240 := Tryz.func89.trans (congrArg some (by kernel_rfl))
  f241 := Tryz.func90.trans (congrArg some (by kernel_rfl))
  f276 := Tryz.func98.trans (congrArg some (by kernel_rfl))
  f277 := Tryz.func99.trans (congrArg some (by kernel_rfl))
  t0 := Tryz.underlying0
  a0 := Tryz.isAgg0
  z0 := Tryz.sizeOf0
  v0 := Tryz.zeroValue0
  t3 := Tryz.underlying3
  a3 := Tryz.isAgg3
  z3 := Tryz.sizeOf3
  v3 := Tryz.zeroValue3
  t4 := Tryz.underlying4
  a4 := Tryz.isAgg4
  z4 := Tryz.sizeOf4
  v4 := Tryz.zeroValue4
  t9 := Tryz.underlying9
  a9 := Tryz.isAgg9
  z9 := Tryz.sizeOf9
  v9 := Tryz.zeroValue9
  t20 := Tryz.underlying20
  a20 := Tryz.isAgg20
  z20 := Tryz.sizeOf20
  v20 := Tryz.zeroValue20
  t31 := Tryz.underlying66
  a31 := Tryz.isAgg66
  z31 := Tryz.sizeOf66
  v31 := Tryz.zeroValue66
  t37 := Tryz.underlying22
  a37 := Tryz.isAgg22
  z37 := Tryz.sizeOf22
  v37 := Tryz.zeroValue22
  t70 := Tryz.underlying90
  a70 := Tryz.isAgg90
  z70 := Tryz.sizeOf90
  v70 := Tryz.zeroValue90
  t72 := Tryz.underlying92
  a72 := Tryz.isAgg92
  z72 := Tryz.sizeOf92
  v72 := Tryz.zeroValue92
  t75 := Tryz.underlying95
  a75 := Tryz.isAgg95
  z75 := Tryz.sizeOf95
  v75 := Tryz.zeroValue95
  t76 := Tryz.underlying96
  a76 := Tryz.isAgg96
  z76 := Tryz.sizeOf96
  v76 := Tryz.zeroValue96
  t127 := Tryz.underlying114
  a127 := Tryz.isAgg114
  z127 := Tryz.sizeOf114
  v127 := Tryz.zeroValue114
  t164 := Tryz.underlying121
  a164 := Tryz.isAgg121
  z164 := Tryz.sizeOf121
  v164 := Tryz.zeroValue121 }
theorem Tryz.Builder_Extra_156 : Builder.Extra Tryz.prog Tryz.lays156_ren := {
  sizeBuilder := by kernel_rfl
  liesBuilder := by kernel_rfl
  t5 := Tryz.underlying5
  a5 := Tryz.isAgg5
  z5 := Tryz.sizeOf5
  v5 := Tryz.zeroValue5
  infoByte := by kernel_rfl
  cellsByte := by kernel_rfl
  sizeByte := by kernel_rfl
  neB5 := by decide }
open Go.RowKit in
theorem Tryz.strings_Join_none (a : Option Addr) (c : Nat) (sep : ByteArray) (w : World) :
    Calls Tryz.prog 50 #[.slice a 0 c, .string sep] w fun e w' => e = .returned (.string ⟨#[]⟩) ∧ w' = w := Any.strings_Join_none Tryz.lays156 Tryz.Builder_Extra_156 a c sep w
open Go.RowKit in
theorem Tryz.strings_Join (bk o c : Nat) (xs : List ByteArray) (sep : ByteArray) (w : World) (hcells : ∀ (j : Nat) x, xs[j]? = some x → w.cell? ⟨bk, o + j, none⟩ = some (.string x)) (hbk : bk < w.heap.size) (hN : xs.length ≤ 140737488355328) (hcap : xs.length ≤ c) (hlen : (Lib.join (xs.map (·.data.toList)) sep.data.toList).length ≤ 140737488355328) :
    Calls Tryz.prog 50 #[.slice (some ⟨bk, o, none⟩) xs.length c, .string sep] w fun e w' => e = .returned (.string ⟨(Lib.join (xs.map (·.data.toList)) sep.data.toList).toArray⟩) ∧ Below w.heap.size w w' := Any.strings_Join Tryz.lays156 Tryz.Builder_Extra_156 bk o c xs sep w hcells hbk hN hcap hlen
def Tryz.laysM173_ren : Go.Shelf.Ren := ⟨fun | 173 => 88 | 246 => 97 | 283 => 106 | 284 => 107 | 285 => 108 | 286 => 109 | 129 => 121 | 317 => 120 | 318 => 122 | 319 => 123 | 320 => 124 | 337 => 132 | 338 => 133 | n => n, fun | 2 => 2 | 3 => 3 | 9 => 9 | 4 => 4 | 171 => 130 | 0 => 0 | 53 => 85 | 37 => 22 | 5 => 5 | 173 => 133 | 212 => 143 | 51 => 144 | 20 => 20 | 213 => 145 | 46 => 104 | 232 => 164 | 233 => 165 | n => n, fun | 17 => 1 | 18 => 6 | 19 => 7 | n => n⟩
theorem Tryz.laysM173 : Go.Proofs.LaysM.n173 Tryz.prog Tryz.laysM173_ren := {
  mixed := by kernel_rfl
  f129 := Tryz.func121.trans (congrArg some (by kernel_rfl))
  f173 := Tryz.func88.trans (congrArg some (by kernel_rfl))
  f246 := Tryz.func97.trans (congrArg some (by kernel_rfl))
  f283 := Tryz.func106.trans (congrArg some (by kernel_rfl))
  f284 := Tryz.func107.trans (congrArg some (by kernel_rfl))
  f285 := Tryz.func108.trans (congrArg some (by kernel_rfl))
  f286 := Tryz.func109.trans (congrArg some (by kernel_rfl))
  f317 := Tryz.func120.trans (congrArg some (by kernel_rfl))
  f318 := Tryz.func122.trans (congrArg some (by kernel_rfl))
  f319 := Tryz.func123.trans (congrArg some (by kernel_rfl))
  f320 := Tryz.func124.trans (congrArg some (by kernel_rfl))
  f337 := Tryz.func132.trans (congrArg some (by kernel_rfl))
  f338 := Tryz.func133.trans (congrArg some (by kernel_rfl))
  t0 := Tryz.underlying0
  a0 := Tryz.isAgg0
  z0 := Tryz.sizeOf0
  v0 := Tryz.zeroValue0
  t2 := Tryz.underlying2
  a2 := Tryz.isAgg2
  z2 := Tryz.sizeOf2
  v2 := Tryz.zeroValue2
  t3 := Tryz.underlying3
  a3 := Tryz.isAgg3
  z3 := Tryz.sizeOf3
  v3 := Tryz.zeroValue3
  t4 := Tryz.underlying4
  a4 := Tryz.isAgg4
  z4 := Tryz.sizeOf4
  v4 := Tryz.zeroValue4
  t5 := Tryz.underlying5
  a5 := Tryz.isAgg5
  z5 := Tryz.sizeOf5
  v5 := Tryz.zeroValue5
  t9 := Tryz.underlying9
  a9 := Tryz.isAgg9
  z9 := Tryz.sizeOf9
  v9 := Tryz.zeroValue9
  t20 := Tryz.underlying20
  a20 := Tryz.isAgg20
  z20 := Tryz.sizeOf20
  v20 := Tryz.zeroValue20
  t37 := Tryz.underlying22
  a37 := Tryz.isAgg22
  z37 := Tryz.sizeOf22
  v37 := Tryz.zeroValue22
  t46 := Tryz.underlying104
  a46 := Tryz.isAgg104
  z46 := Tryz.sizeOf104
  v46 := Tryz.zeroValue104
  t51 := Tryz.underlying144
  a51 := Tryz.isAgg144
  z51 := Tryz.sizeOf144
  v51 := Tryz.zeroValue144
  t53 := Tryz.underlying85
  a53 := Tryz.isAgg85
  z53 := Tryz.sizeOf85
  v53 := Tryz.zeroValue85
  t171 := Tryz.underlying130
  a171 := Tryz.isAgg130
  z171 := Tryz.sizeOf130
  v171 := Tryz.zeroValue130
  t173 := Tryz.underlying133
  a173 := Tryz.isAgg133
  z173 := Tryz.sizeOf133
  v173 := Tryz.zeroValue133
  t212 := Tryz.underlying143
  a212 := Tryz.isAgg143
  z212 := Tryz.sizeOf143
  v212 := Tryz.zeroValue143
  t213 := Tryz.underlying145
  a213 := Tryz.isAgg145
  z213 := Tryz.sizeOf145
  t232 := Tryz.underlying164
  a232 := Tryz.isAgg164
  z232 := Tryz.sizeOf164
  v232 := Tryz.zeroValue164
  t233 := Tryz.underlying165
  a233 := Tryz.isAgg165
  z233 := Tryz.sizeOf165
  v233 := Tryz.zeroValue165
  g17 := by kernel_rfl
  g18 := by kernel_rfl
  g19 := by kernel_rfl
  i0 := by kernel_rfl
  i2 := by kernel_rfl
  i3 := by kernel_rfl
  i4 := by kernel_rfl
  i5 := by kernel_rfl
  i9 := by kernel_rfl
  i20 := by kernel_rfl
  i37 := by kernel_rfl
  i46 := by kernel_rfl
  i51 := by kernel_rfl
  i53 := by kernel_rfl
  i171 := by kernel_rfl
  i173 := by kernel_rfl
  i212 := by kernel_rfl
  i232 := by kernel_rfl
  i233 := by kernel_rfl
  m17 := by kernel_rfl
  m18 := by kernel_rfl
  m19 := by kernel_rfl }
open Go.RowKit Go.Sort Go.Lib in
theorem Tryz.strconv_FormatInt_10 (n : Int) (h0 : -9223372036854775808 ≤ n) (h1 : n ≤ 9223372036854775807) (w : World) (htab : Lib.TabIs Tryz.prog w "internal/strconv.uint64pow10" .u64 Lib.pow10Tab) :
    Calls Tryz.prog 88 #[.int .i64 n, .int .i64 10] w fun e w' => e = .returned (.string ⟨(Lib.itoa n).toArray⟩) ∧ ∃ k os, w' = grow (w.drewN k) os := Any.strconv_FormatInt_10 Tryz.laysM173 n h0 h1 w htab
def Tryz.lays173_ren : Go.Shelf.Ren := ⟨fun | 173 => 88 | 246 => 97 | 283 => 106 | 284 => 107 | 285 => 108 | 286 => 109 | 129 => 121 | 317 => 120 | 318 => 122 | 319 => 123 | 320 => 124 | 337 => 132 | 338 => 133 | n => n, fun | 2 => 2 | 3 => 3 | 9 => 9 | 4 => 4 | 171 => 130 | 0 => 0 | 53 => 85 | 37 => 22 | 5 => 5 | 173 => 133 | 212 => 143 | 51 => 144 | 20 => 20 | 213 => 145 | 46 => 104 | 232 => 164 | 233 => 165 | n => n, fun | 17 => 1 | 18 => 6 | 19 => 7 | n => n⟩
theorem Tryz.lays173 : Go.Proofs.Lays.n173 Tryz.prog Tryz.lays173_ren := {
  mixed := by kernel_rfl
  f129 := Tryz.func121.trans (congrArg some (by kernel_rfl))
  f173 := Tryz.func88.trans (congrArg some (by kernel_rfl))
  f246 := Tryz.func97.trans (congrArg some (by kernel_rfl))
  f283 := Tryz.func106.trans (congrArg some (by kernel_rfl))
  f284 := Tryz.func107.trans (congrArg some (by kernel_rfl))
  f285 := Tryz.func108.trans (congrArg some (by kernel_rfl))
  f286 := Tryz.func109.trans (congrArg some (by kernel_rfl))
  f317 := Tryz.func120.trans (congrArg some (by kernel_rfl))
  f318 := Tryz.func122.trans (congrArg some (by kernel_rfl))
  f319 := Tryz.func123.trans (congrArg some (by kernel_rfl))
  f320 := Tryz.func124.trans (congrArg some (by kernel_rfl))
  f337 := Tryz.func132.trans (congrArg some (by kernel_rfl))
  f338 := Tryz.func133.trans (congrArg some (by kernel_rfl))
  t0 := Tryz.underlying0
  a0 := Tryz.isAgg0
  z0 := Tryz.sizeOf0
  v0 := Tryz.zeroValue0
  t2 := Tryz.underlying2
  a2 := Tryz.isAgg2
  z2 := Tryz.sizeOf2
  v2 := Tryz.zeroValue2
  t3 := Tryz.underlying3
  a3 := Tryz.isAgg3
  z3 := Tryz.sizeOf3
  v3 := Tryz.zeroValue3
  t4 := Tryz.underlying4
  a4 := Tryz.isAgg4
  z4 := Tryz.sizeOf4
  v4 := Tryz.zeroValue4
  t5 := Tryz.underlying5
  a5 := Tryz.isAgg5
  z5 := Tryz.sizeOf5
  v5 := Tryz.zeroValue5
  t9 := Tryz.underlying9
  a9 := Tryz.isAgg9
  z9 := Tryz.sizeOf9
  v9 := Tryz.zeroValue9
  t20 := Tryz.underlying20
  a20 := Tryz.isAgg20
  z20 := Tryz.sizeOf20
  v20 := Tryz.zeroValue20
  t37 := Tryz.underlying22
  a37 := Tryz.isAgg22
  z37 := Tryz.sizeOf22
  v37 := Tryz.zeroValue22
  t46 := Tryz.underlying104
  a46 := Tryz.isAgg104
  z46 := Tryz.sizeOf104
  v46 := Tryz.zeroValue104
  t51 := Tryz.underlying144
  a51 := Tryz.isAgg144
  z51 := Tryz.sizeOf144
  v51 := Tryz.zeroValue144
  t53 := Tryz.underlying85
  a53 := Tryz.isAgg85
  z53 := Tryz.sizeOf85
  v53 := Tryz.zeroValue85
  t171 := Tryz.underlying130
  a171 := Tryz.isAgg130
  z171 := Tryz.sizeOf130
  v171 := Tryz.zeroValue130
  t173 := Tryz.underlying133
  a173 := Tryz.isAgg133
  z173 := Tryz.sizeOf133
  v173 := Tryz.zeroValue133
  t212 := Tryz.underlying143
  a212 := Tryz.isAgg143
  z212 := Tryz.sizeOf143
  v212 := Tryz.zeroValue143
  t213 := Tryz.underlying145
  a213 := Tryz.isAgg145
  z213 := Tryz.sizeOf145
  t232 := Tryz.underlying164
  a232 := Tryz.isAgg164
  z232 := Tryz.sizeOf164
  v232 := Tryz.zeroValue164
  t233 := Tryz.underlying165
  a233 := Tryz.isAgg165
  z233 := Tryz.sizeOf165
  v233 := Tryz.zeroValue165
  g17 := by kernel_rfl
  g18 := by kernel_rfl
  g19 := by kernel_rfl }
open Go.RowKit Go.Sort Go.Lib in
theorem Tryz.strconv_FormatInt_10_small (i : Nat) (hi : i < 100) (w : World) :
    Calls Tryz.prog 88 #[.int .i64 i, .int .i64 10] w fun e w' => e = .returned (.string ⟨(Lib.decDigits i).toArray⟩) ∧ w' = w := Any.strconv_FormatInt_10_small Tryz.lays173 i hi w
def Tryz.laysC174_ren : Go.Shelf.Ren := ⟨fun | 174 => 94 | 247 => 104 | 245 => 105 | 287 => 115 | 279 => 116 | 280 => 117 | 281 => 118 | 282 => 119 | 321 => 127 | 322 => 128 | 316 => 129 | 171 => 131 | 205 => 130 | 243 => 134 | 246 => 97 | 283 => 106 | 284 => 107 | 285 => 108 | 286 => 109 | 129 => 121 | 317 => 120 | 318 => 122 | 319 => 123 | 320 => 124 | 337 => 132 | 338 => 133 | n => n, fun | 9 => 9 | 3 => 3 | 2 => 2 | 75 => 95 | 85 => 117 | 4 => 4 | 167 => 136 | 5 => 5 | 53 => 85 | 175 => 137 | 46 => 104 | 168 => 139 | 37 => 22 | 0 => 0 | 210 => 158 | 21 => 21 | 127 => 114 | 145 => 163 | 143 => 161 | 171 => 130 | 173 => 133 | 212 => 143 | 51 => 144 | 20 => 20 | 213 => 145 | 232 => 164 | 233 => 165 | 80 => 98 | n => n, fun | 15 => 4 | 16 => 5 | 17 => 1 | 18 => 6 | 19 => 7 | n => n⟩
theorem Tryz.laysC174 : Go.Proofs.LaysC.n174 Tryz.prog Tryz.laysC174_ren := {
  mixed := by kernel_rfl
  f129 := Tryz.func121.trans (congrArg some (by kernel_rfl))
  f171 := Tryz.func131.trans (congrArg some (by kernel_rfl))
  f174 := Tryz.func94.trans (congrArg some (by kernel_rfl))
  f205 := Tryz.func130.trans (congrArg some (by kernel_rfl))
  f243 := Tryz.func134.trans (congrArg some (by kernel_rfl))
  f245 := Tryz.func105.trans (congrArg some (by kernel_rfl))
  f246 := Tryz.func97.trans (congrArg some (by kernel_rfl))
  f247 := Tryz.func104.trans (congrArg some (by kernel_rfl))
  f279 := Tryz.func116.trans (congrArg some (by kernel_rfl))
  f280 := Tryz.func117.trans (congrArg some (by kernel_rfl))
  f281 := Tryz.func118.trans (congrArg some (by kernel_rfl))
  f282 := Tryz.func119.trans (congrArg some (by kernel_rfl))
  f283 := Tryz.func106.trans (congrArg some (by kernel_rfl))
  f284 := Tryz.func107.trans (congrArg some (by kernel_rfl))
  f285 := Tryz.func108.trans (congrArg some (by kernel_rfl))
  f286 := Tryz.func109.trans (congrArg some (by kernel_rfl))
  f287 := Tryz.func115.trans (congrArg some (by kernel_rfl))
  f316 := Tryz.func129.trans (congrArg some (by kernel_rfl))
  f317 := Tryz.func120.trans (congrArg some (by kernel_rfl))
  f318 := Tryz.func122.trans (congrArg some (by kernel_rfl))
  f319 := Tryz.func123.trans (congrArg some (by kernel_rfl))
  f320 := Tryz.func124.trans (congrArg some (by kernel_rfl))
  f321 := Tryz.func127.trans (congrArg some (by kernel_rfl))
  f322 := Tryz.func128.trans (congrArg some (by kernel_rfl))
  f337 := Tryz.func132.trans (congrArg some (by kernel_rfl))
  f338 := Tryz.func133.trans (congrArg some (by kernel_rfl))
  t0 := Tryz.underlying0
  a0 := Tryz.isAgg0
  z0 := Tryz.sizeOf0
  v0 := Tryz.zeroValue0
  t2 := Tryz.underlying2
  a2 := Tryz.isAgg2
  z2 := Tryz.sizeOf2
  v2 := Tryz.zeroValue2
  t3 := Tryz.underlying3
  a3 := Tryz.isAgg3
  z3 := Tryz.sizeOf3
  v3 := Tryz.zeroValue3
  t4 := Tryz.underlying4
  a4 := Tryz.isAgg4
  z4 := Tryz.sizeOf4
  v4 := Tryz.zeroValue4
  t5 := Tryz.underlying5
  a5 := Tryz.isAgg5
  z5 := Tryz.sizeOf5
  v5 := Tryz.zeroValue5
  t9 := Tryz.underlying9
  a9 := Tryz.isAgg9
  z9 := Tryz.sizeOf9
  v9 := Tryz.zeroValue9
  t20 := Tryz.underlying20
  a20 := Tryz.isAgg20
  z20 := Tryz.sizeOf20
  v20 := Tryz.zeroValue20
  t21 := Tryz.underlying21
  a21 := Tryz.isAgg21
  z21 := Tryz.sizeOf21
  v21 := Tryz.zeroValue21
  t37 := Tryz.underlying22
  a37 := Tryz.isAgg22
  z37 := Tryz.sizeOf22
  v37 := Tryz.zeroValue22
  t46 := Tryz.underlying104
  a46 := Tryz.isAgg104
  z46 := Tryz.sizeOf104
  v46 := Tryz.zeroValue104
  t51 := Tryz.underlying144
  a51 := Tryz.isAgg144
  z51 := Tryz.sizeOf144
  v51 := Tryz.zeroValue144
  t53 := Tryz.underlying85
  a53 := Tryz.isAgg85
  z53 := Tryz.sizeOf85
  v53 := Tryz.zeroValue85
  t75 := Tryz.underlying95
  a75 := Tryz.isAgg95
  z75 := Tryz.sizeOf95
  v75 := Tryz.zeroValue95
  t85 := Tryz.underlying117
  a85 := Tryz.isAgg117
  z85 := Tryz.sizeOf117
  v85 := Tryz.zeroValue117
  t127 := Tryz.underlying114
  a127 := Tryz.isAgg114
  z127 := Tryz.sizeOf114
  v127 := Tryz.zeroValue114
  t143 := Tryz.underlying161
  a143 := Tryz.isAgg161
  z143 := Tryz.sizeOf161
  v143 := Tryz.zeroValue161
  t145 := Tryz.underlying163
  a145 := Tryz.isAgg163
  z145 := Tryz.sizeOf163
  v145 := Tryz.zeroValue163
  t167 := Tryz.underlying136
  a167 := Tryz.isAgg136
  z167 := Tryz.sizeOf136
  v167 := Tryz.zeroValue136
  t168 := Tryz.underlying139
  a168 := Tryz.isAgg139
  z168 := Tryz.sizeOf139
  v168 := Tryz.zeroValue139
  t171 := Tryz.underlying130
  a171 := Tryz.isAgg130
  z171 := Tryz.sizeOf130
  v171 := Tryz.zeroValue130
  t173 := Tryz.underlying133
  a173 := Tryz.isAgg133
  z173 := Tryz.sizeOf133
  v173 := Tryz.zeroValue133
  t175 := Tryz.underlying137
  a175 := Tryz.isAgg137
  z175 := Tryz.sizeOf137
  v175 := Tryz.zeroValue137
  t210 := Tryz.underlying158
  a210 := Tryz.isAgg158
  z210 := Tryz.sizeOf158
  v210 := Tryz.zeroValue158
  t212 := Tryz.underlying143
  a212 := Tryz.isAgg143
  z212 := Tryz.sizeOf143
  v212 := Tryz.zeroValue143
  t213 := Tryz.underlying145
  a213 := Tryz.isAgg145
  z213 := Tryz.sizeOf145
  t232 := Tryz.underlying164
  a232 := Tryz.isAgg164
  z232 := Tryz.sizeOf164
  v232 := Tryz.zeroValue164
  t233 := Tryz.underlying165
  a233 := Tryz.isAgg165
  z233 := Tryz.sizeOf165
  v233 := Tryz.zeroValue165
  g15 := by kernel_rfl
  g16 := by kernel_rfl
  g17 := by kernel_rfl
  g18 := by kernel_rfl
  g19 := by kernel_rfl
  t80 := Tryz.underlying98
  a80 := Tryz.isAgg98
  z80 := Tryz.sizeOf98
  v80 := Tryz.zeroValue98
  i0 := by kernel_rfl
  i2 := by kernel_rfl
  i3 := by kernel_rfl
  i4 := by kernel_rfl
  i5 := by kernel_rfl
  i9 := by kernel_rfl
  i20 := by kernel_rfl
  i21 := by kernel_rfl
  i37 := by kernel_rfl
  i46 := by kernel_rfl
  i51 := by kernel_rfl
  i53 := by kernel_rfl
  i75 := by kernel_rfl
  i80 := by kernel_rfl
  i85 := by kernel_rfl
  i127 := by kernel_rfl
  i143 := by kernel_rfl
  i145 := by kernel_rfl
  i167 := by kernel_rfl
  i168 := by kernel_rfl
  i171 := by kernel_rfl
  i173 := by kernel_rfl
  i175 := by kernel_rfl
  i210 := by kernel_rfl
  i212 := by kernel_rfl
  i232 := by kernel_rfl
  i233 := by kernel_rfl
  m15 := by kernel_rfl
  m16 := by kernel_rfl
  m17 := by kernel_rfl
  m18 := by kernel_rfl
  m19 := by kernel_rfl
  c0 := by kernel_rfl
  c2 := by kernel_rfl
  c3 := by kernel_rfl
  c4 := by kernel_rfl
  c5 := by kernel_rfl
  c9 := by kernel_rfl
  c20 := by kernel_rfl
  c21 := by kernel_rfl
  c37 := by kernel_rfl
  c46 := by kernel_rfl
  c51 := by kernel_rfl
  c53 := by kernel_rfl
  c75 := by kernel_rfl
  c80 := by kernel_rfl
  c85 := by kernel_rfl
  c127 := by kernel_rfl
  c143 := by kernel_rfl
  c145 := by kernel_rfl
  c167 := by kernel_rfl
  c168 := by kernel_rfl
  c171 := by kernel_rfl
  c173 := by kernel_rfl
  c175 := by kernel_rfl
  c210 := by kernel_rfl
  c212 := by kernel_rfl
  c213 := by kernel_rfl
  c232 := by kernel_rfl
  c233 := by kernel_rfl }
open Go.RowKit in
theorem Tryz.strconv_ParseInt_10_at64_ok (s : ByteArray) (hmax : s.size ≤ 9223372036854775806) (v : Int) (h : Lib.parseIntB 64 s.data.toList = .ok v) (w : World) :
    Calls Tryz.prog 94 #[.string s, .int .i64 10, .int .i64 64] w fun e w' => e = .returned (.tuple #[.int .i64 v, .nilIface]) ∧ (w' = w ∨ ∃ t, w' = Lib.bytesWorld w 5 t) := Any.strconv_ParseInt_10_at64_ok Tryz.laysC174 s hmax v h w
open Go.RowKit in
theorem Tryz.strconv_ParseInt_10_at64_syntax_var (s : ByteArray) (hlim : s.size ≤ 281474976710656) (h : Lib.parseIntB 64 s.data.toList = .«syntax») (tp : TypeId) (p : Value) (w : World) (hvar : w.var? Tryz.prog "strconv.ErrSyntax" = some #[.iface tp p]) :
    Calls Tryz.prog 94 #[.string s, .int .i64 10, .int .i64 64] w fun e w' => ∃ N, e = .returned (.tuple #[.int .i64 (0), .iface 139 (.pointer (some ⟨N, 0, none⟩))]) ∧ w.heap.size ≤ N ∧ w'.heap[N]? = some (.cells #[.string ⟨#[80, 97, 114, 115, 101, 73, 110, 116]⟩, .string s, .iface tp p] 158 (0, 0)) ∧ Below w.heap.size w w' := Any.strconv_ParseInt_10_at64_syntax_var Tryz.laysC174 s hlim h tp p w hvar
open Go.RowKit in
theorem Tryz.strconv_ParseInt_10_at64_range_var (s : ByteArray) (hlim : s.size ≤ 281474976710656) (h : Lib.parseIntB 64 s.data.toList = .range) (tp : TypeId) (p : Value) (w : World) (hvar : w.var? Tryz.prog "strconv.ErrRange" = some #[.iface tp p]) :
    Calls Tryz.prog 94 #[.string s, .int .i64 10, .int .i64 64] w fun e w' => ∃ N, e = .returned (.tuple #[.int .i64 (Lib.intSat 64 s.data.toList), .iface 139 (.pointer (some ⟨N, 0, none⟩))]) ∧ w.heap.size ≤ N ∧ w'.heap[N]? = some (.cells #[.string ⟨#[80, 97, 114, 115, 101, 73, 110, 116]⟩, .string s, .iface tp p] 158 (0, 0)) ∧ Below w.heap.size w w' := Any.strconv_ParseInt_10_at64_range_var Tryz.laysC174 s hlim h tp p w hvar
def Tryz.lays146_ren : Go.Shelf.Ren := ⟨fun | 146 => 51 | 221 => 74 | 268 => 91 | 138 => 92 | 143 => 93 | 195 => 100 | 197 => 101 | 218 => 102 | 219 => 103 | 260 => 110 | 217 => 111 | 225 => 112 | 224 => 113 | 267 => 114 | 266 => 125 | 314 => 126 | n => n, fun | 9 => 9 | 31 => 66 | 3 => 3 | 4 => 4 | 0 => 0 | 105 => 125 | 21 => 21 | 5 => 5 | 46 => 104 | 119 => 148 | 139 => 151 | 138 => 150 | 146 => 152 | 51 => 144 | n => n, fun | 1 => 0 | 3 => 2 | 4 => 3 | n => n⟩
theorem Tryz.lays146 : Go.Proofs.Lays.n146 Tryz.prog Tryz.lays146_ren := {
  mixed := by kernel_rfl
  f138 := Tryz.func92.trans (congrArg some (by kernel_rfl))
  f143 := Tryz.func93.trans (congrArg some (by kernel_rfl))
  f146 := Tryz.func51.trans (congrArg some (by kernel_rfl))
  f195 := Tryz.func100.trans (congrArg some (by kernel_rfl))
  f197 := Tryz.func101.trans (congrArg some (by kernel_rfl))
  f217 := Tryz.func111.trans (congrArg some (by kernel_rfl))
  f218 := Tryz.func102.trans (congrArg some (by kernel_rfl))
  f219 := Tryz.func103.trans (congrArg some (by kernel_rfl))
  f221 := Tryz.func74.trans (congrArg some (by kernel_rfl))
  f224 := Tryz.func113.trans (congrArg some (by kernel_rfl))
  f225 := Tryz.func112.trans (congrArg some (by kernel_rfl))
  f260 := Tryz.func110.trans (congrArg some (by kernel_rfl))
  f266 := Tryz.func125.trans (congrArg some (by kernel_rfl))
  f267 := Tryz.func114.trans (congrArg some (by kernel_rfl))
  f268 := Tryz.func91.trans (congrArg some (by kernel_rfl))
  f314 := Tryz.func126.trans (congrArg some (by kernel_rfl))
  t0 := Tryz.underlying0
  a0 := Tryz.isAgg0
  z0 := Tryz.sizeOf0
  v0 := Tryz.zeroValue0
  t3 := Tryz.underlying3
  a3 := Tryz.isAgg3
  z3 := Tryz.sizeOf3
  v3 := Tryz.zeroValue3
  t4 := Tryz.underlying4
  a4 := Tryz.isAgg4
  z4 := Tryz.sizeOf4
  v4 := Tryz.zeroValue4
  t5 := Tryz.underlying5
  a5 := Tryz.isAgg5
  z5 := Tryz.sizeOf5
  v5 := Tryz.zeroValue5
  t9 := Tryz.underlying9
  a9 := Tryz.isAgg9
  z9 := Tryz.sizeOf9
  v9 := Tryz.zeroValue9
  t21 := Tryz.underlying21
  a21 := Tryz.isAgg21
  z21 := Tryz.sizeOf21
  v21 := Tryz.zeroValue21
  t31 := Tryz.underlying66
  a31 := Tryz.isAgg66
  z31 := Tryz.sizeOf66
  v31 := Tryz.zeroValue66
  t46 := Tryz.underlying104
  a46 := Tryz.isAgg104
  z46 := Tryz.sizeOf104
  v46 := Tryz.zeroValue104
  t51 := Tryz.underlying144
  a51 := Tryz.isAgg144
  z51 := Tryz.sizeOf144
  v51 := Tryz.zeroValue144
  t105 := Tryz.underlying125
  a105 := Tryz.isAgg125
  z105 := Tryz.sizeOf125
  v105 := Tryz.zeroValue125
  t119 := Tryz.underlying148
  a119 := Tryz.isAgg148
  z119 := Tryz.sizeOf148
  t138 := Tryz.underlying150
  a138 := Tryz.isAgg150
  z138 := Tryz.sizeOf150
  v138 := Tryz.zeroValue150
  t139 := Tryz.underlying151
  a139 := Tryz.isAgg151
  z139 := Tryz.sizeOf151
  v139 := Tryz.zeroValue151
  t146 := Tryz.underlying152
  a146 := Tryz.isAgg152
  z146 := Tryz.sizeOf152
  v146 := Tryz.zeroValue152
  g1 := by kernel_rfl
  g3 := by kernel_rfl
  g4 := by kernel_rfl }
open Go.RowKit Go.Lib in
theorem Tryz.strings_Split (s sep : ByteArray) (m : Int) (w : World) (hs : s.size < 4294967281) (hm : w.cell? ⟨0, 0, none⟩ = some (.int .i64 m)) (h1 : 1 ≤ sep.size) :
    Calls Tryz.prog 51 #[.string s, .string sep] w fun e w' =>
      e = .returned (.slice (some ⟨w.heap.size, 0, none⟩) (Lib.countB s sep + 1) (Lib.countB s sep + 1)) ∧ w' = w.alloc (.cells ((Lib.splitB sep 0 (Lib.countB s sep) s).map Value.string).toArray 9) := Any.strings_Split Tryz.lays146 (by kernel_rfl) s sep m w hs hm h1
def Tryz.laysM146_ren : Go.Shelf.Ren := ⟨fun | 146 => 51 | 221 => 74 | 268 => 91 | 138 => 92 | 143 => 93 | 195 => 100 | 197 => 101 | 218 => 102 | 219 => 103 | 260 => 110 | 217 => 111 | 225 => 112 | 224 => 113 | 267 => 114 | 266 => 125 | 314 => 126 | n => n, fun | 9 => 9 | 31 => 66 | 3 => 3 | 4 => 4 | 0 => 0 | 105 => 125 | 21 => 21 | 5 => 5 | 46 => 104 | 119 => 148 | 139 => 151 | 138 => 150 | 146 => 152 | 51 => 144 | n => n, fun | 1 => 0 | 3 => 2 | 4 => 3 | n => n⟩
theorem Tryz.laysM146 : Go.Proofs.LaysM.n146 Tryz.prog Tryz.laysM146_ren := {
  mixed := by kernel_rfl
  f138 := Tryz.func92.trans (congrArg some (by kernel_rfl))
  f143 := Tryz.func93.trans (congrArg some (by kernel_rfl))
  f146 := Tryz.func51.trans (congrArg some (by kernel_rfl))
  f195 := Tryz.func100.trans (congrArg some (by kernel_rfl))
  f197 := Tryz.func101.trans (congrArg some (by kernel_rfl))
  f217 := Tryz.func111.trans (congrArg some (by kernel_rfl))
  f218 := Tryz.func102.trans (congrArg some (by kernel_rfl))
  f219 := Tryz.func103.trans (congrArg some (by kernel_rfl))
  f221 := Tryz.func74.trans (congrArg some (by kernel_rfl))
  f224 := Tryz.func113.trans (congrArg some (by kernel_rfl))
  f225 := Tryz.func112.trans (congrArg some (by kernel_rfl))
  f260 := Tryz.func110.trans (congrArg some (by kernel_rfl))
  f266 := Tryz.func125.trans (congrArg some (by kernel_rfl))
  f267 := Tryz.func114.trans (congrArg some (by kernel_rfl))
  f268 := Tryz.func91.trans (congrArg some (by kernel_rfl))
  f314 := Tryz.func126.trans (congrArg some (by kernel_rfl))
  t0 := Tryz.underlying0
  a0 := Tryz.isAgg0
  z0 := Tryz.sizeOf0
  v0 := Tryz.zeroValue0
  t3 := Tryz.underlying3
  a3 := Tryz.isAgg3
  z3 := Tryz.sizeOf3
  v3 := Tryz.zeroValue3
  t4 := Tryz.underlying4
  a4 := Tryz.isAgg4
  z4 := Tryz.sizeOf4
  v4 := Tryz.zeroValue4
  t5 := Tryz.underlying5
  a5 := Tryz.isAgg5
  z5 := Tryz.sizeOf5
  v5 := Tryz.zeroValue5
  t9 := Tryz.underlying9
  a9 := Tryz.isAgg9
  z9 := Tryz.sizeOf9
  v9 := Tryz.zeroValue9
  t21 := Tryz.underlying21
  a21 := Tryz.isAgg21
  z21 := Tryz.sizeOf21
  v21 := Tryz.zeroValue21
  t31 := Tryz.underlying66
  a31 := Tryz.isAgg66
  z31 := Tryz.sizeOf66
  v31 := Tryz.zeroValue66
  t46 := Tryz.underlying104
  a46 := Tryz.isAgg104
  z46 := Tryz.sizeOf104
  v46 := Tryz.zeroValue104
  t51 := Tryz.underlying144
  a51 := Tryz.isAgg144
  z51 := Tryz.sizeOf144
  v51 := Tryz.zeroValue144
  t105 := Tryz.underlying125
  a105 := Tryz.isAgg125
  z105 := Tryz.sizeOf125
  v105 := Tryz.zeroValue125
  t119 := Tryz.underlying148
  a119 := Tryz.isAgg148
  z119 := Tryz.sizeOf148
  t138 := Tryz.underlying150
  a138 := Tryz.isAgg150
  z138 := Tryz.sizeOf150
  v138 := Tryz.zeroValue150
  t139 := Tryz.underlying151
  a139 := Tryz.isAgg151
  z139 := Tryz.sizeOf151
  v139 := Tryz.zeroValue151
  t146 := Tryz.underlying152
  a146 := Tryz.isAgg152
  z146 := Tryz.sizeOf152
  v146 := Tryz.zeroValue152
  g1 := by kernel_rfl
  g3 := by kernel_rfl
  g4 := by kernel_rfl
  i0 := by kernel_rfl
  i3 := by kernel_rfl
  i4 := by kernel_rfl
  i5 := by kernel_rfl
  i9 := by kernel_rfl
  i21 := by kernel_rfl
  i31 := by kernel_rfl
  i46 := by kernel_rfl
  i51 := by kernel_rfl
  i105 := by kernel_rfl
  i138 := by kernel_rfl
  i139 := by kernel_rfl
  i146 := by kernel_rfl
  m1 := by kernel_rfl
  s1_3 := fun w h => Go.Proofs.cell_of_shapedOpen_int (zero := #[.int .i64 0]) (t := 3) h (of_decide_eq_true (by kernel_rfl)) (by kernel_rfl) rfl (by kernel_rfl) (by kernel_rfl) Tryz.underlying3
  m3 := by kernel_rfl
  m4 := by kernel_rfl }
end Go.Proofs
namespace Go.Proofs.YtnlbbpgmmeapfaaGreatDoor.PX
open Go.RowKit Go.Proofs.YtnlbbpgmmeapfaaGreatDoorW.PrintWords Go.Proofs.YtnlbbpgmmeapfaaGreatDoorW.PrintLast Go.Proofs.YtnlbbpgmmeapfaaGreatDoorW.PrintMore
attribute [local go_sem] max2_int min2_int max_two min_two max_three min_three max_four min_four
set_option linter.unusedVariables false
set_option linter.unusedSimpArgs false
set_option maxHeartbeats 8000000
set_option maxRecDepth 100000
def strings_Join.f (l0 : List ByteArray) (a1 : ByteArray) : Option ByteArray := if l0.length ≤ 140737488355328 ∧ (Lib.join (l0.map (·.data.toList)) a1.data.toList).length ≤ 140737488355328 then some ⟨(Lib.join (l0.map (·.data.toList)) a1.data.toList).toArray⟩ else none
theorem strings_Join.calls (A0 : Option Addr) (c0 : Nat) (l0 : List ByteArray) (a1 : ByteArray) (r : ByteArray) (w : World) (hr0 : Kd.C Kd.string w A0 l0.length l0) (hc0 : l0.length ≤ c0) (h : strings_Join.f l0 a1 = some r) :
 Calls Tryz.prog 50 #[.slice A0 l0.length c0,.string a1] w fun e w' => e = .returned (.string r) ∧ Below w.heap.size w w' := by
 unfold strings_Join.f at h
 split at h
 ·rename_i hh;obtain rfl := Option.some.inj h
  cases l0 with
  | nil =>
   refine (Tryz.strings_Join_none A0 c0 a1 w).mono ?_;rintro e w' ⟨rfl,rfl⟩;exact ⟨rfl,Below.refl _ _⟩
  | cons x xs =>
   have hat : ∀ i : Nat,i < (x :: xs).length → ∃ ad,A0 = some ad ∧ w.cell? (ad.add i) = some (.string (rdOf ByteArray.empty (x :: xs) (i : Int))) := fun i hi => Kd.at_string hr0 (i : Int) (by omega) (by omega)
   obtain ⟨ad,rfl,h0⟩ := hat 0 (by simp);obtain ⟨bk,o,sp⟩ := ad;have hs : sp = none ∧ bk < w.heap.size := by
    unfold World.cell? at h0
    split at h0
    ·rename_i cs t z hb;refine ⟨?_,(Array.getElem?_eq_some_iff.1 hb).1⟩
     split at h0
     ·exact absurd h0 (by simp)
     ·rename_i hn
      cases sp with
      | none => rfl
      | some s => exact absurd rfl hn
    ·exact absurd h0 (by simp)
   obtain ⟨rfl,hbk⟩ := hs;refine Tryz.strings_Join bk o c0 (x :: xs) a1 w (fun j y hy => ?_) hbk hh.1 hc0 hh.2;obtain ⟨hj,hy⟩ := List.getElem?_eq_some_iff.1 hy;obtain ⟨ad,e,hc⟩ := hat j hj;obtain rfl := Option.some.inj e;rw [show rdOf ByteArray.empty (x :: xs) (j : Int) = y from by rw [← hy];unfold rdOf;simp [List.getD_eq_getElem?_getD,List.getElem?_eq_getElem hj]] at hc;have e2 : ((⟨bk,o,none⟩ : Addr).add j) = ⟨bk,o + j,none⟩ := by unfold Addr.add;split <;> simp_all
   exact e2 ▸ hc
 ·exact absurd h (by simp)
structure Good (w : World) : Prop where
 max : ∃ m,w.cell? ⟨0,0,none⟩ = some (.int .i64 m)
 tab : Lib.TabIs Tryz.prog w "internal/strconv.uint64pow10" .u64 Lib.pow10Tab
 syn : ∃ tp p, w.var? Tryz.prog "strconv.ErrSyntax" = some #[.iface tp p]
 rng : ∃ tp p, w.var? Tryz.prog "strconv.ErrRange" = some #[.iface tp p]
theorem var_lt {P : Program} {w : World} {n : String} {cs : Array Value} (h : w.var? P n = some cs) : ∃ g, P.globalNamed n = some g ∧ g < w.heap.size := by
 unfold World.var? at h;obtain ⟨g,hg,h⟩ := Option.bind_eq_some_iff.1 h;refine ⟨g,hg,?_⟩
 split at h
 ·rename_i hb;exact (Array.getElem?_eq_some_iff.1 hb).1
 ·cases h
theorem var_below {P : Program} {w w' : World} {n : String} {cs : Array Value} (h : w.var? P n = some cs) (hb : Below w.heap.size w w') : w'.var? P n = some cs := by
 obtain ⟨g,hg,hlt⟩ := var_lt h;unfold World.var? at h ⊢;rw [hg] at h ⊢;simp only [Option.bind_some] at h ⊢;rw [hb.block g hlt];exact h
theorem Good.below {w w' : World} (h : Good w) (hb : Below w.heap.size w w') : Good w' := by
 obtain ⟨⟨m,h1⟩,h2,⟨a,b,h3⟩,⟨c,d,h4⟩⟩ := h;exact ⟨⟨m,pw_cell_below hb h1⟩,var_below h2 hb,⟨a,b,var_below h3 hb⟩,⟨c,d,var_below h4 hb⟩⟩
def strings_Split.f (a0 : ByteArray) (a1 : ByteArray) : Option (List ByteArray) := if a0.size < 4294967281 ∧ 1 ≤ a1.size then some (Lib.splitB a1 0 (Lib.countB a0 a1) a0) else none
theorem strings_Split.calls (a0 : ByteArray) (a1 : ByteArray) (r : List ByteArray) (w : World) (h : strings_Split.f a0 a1 = some r) (hG : Good w) :
 Calls Tryz.prog 51 #[.string a0,.string a1] w fun e w' => ∃ v0_ : Value,e = .returned (v0_) ∧ Kd.R Kd.string 9 w' w.heap.size (fun _ => True) v0_ r ∧ Below w.heap.size w w' := by
 unfold strings_Split.f at h
 split at h
 rotate_left
 ·cases h
 rename_i hh;obtain rfl := Option.some.inj h;obtain ⟨m,hm⟩ := hG.max;refine (Tryz.strings_Split a0 a1 m w hh.1 hm hh.2).mono ?_;rintro e w' ⟨rfl,rfl⟩;have hl : (Lib.splitB a1 0 (Lib.countB a0 a1) a0).length = Lib.countB a0 a1 + 1 := Lib.splitB_all a1 hh.2 0 _ a0 rfl;have hc : Lib.countB a0 a1 ≤ a0.size := Lib.countB_le a1 hh.2 a0.size a0 (Nat.le_refl _);refine ⟨_,rfl,Kd.R_of_own ⟨?_,.inr ⟨w.heap.size,Lib.countB a0 a1 + 1,((Lib.splitB a1 0 (Lib.countB a0 a1) a0).map Value.string).toArray,by rw [hl],Nat.le_refl _,blk_new _ _,by rw [hl];exact Nat.le_refl _,by unfold maxLen;omega,?_,?_⟩⟩ (fun _ _ => trivial),below_alloc (Below.refl _ _) _⟩
 ·simp [encs]
 ·simp [hl]
 ·rw [Nat.mul_one,List.toList_toArray,List.take_of_length_le (by rw [List.length_map];exact Nat.le_refl _)]
  rfl
def strconv_FormatInt.f (a0 : Int) (a1 : Int) : Option ByteArray := if 0 ≤ a0 ∧ a0 < 100 ∧ a1 = 10 then some ⟨(Lib.decDigits a0.toNat).toArray⟩ else none
theorem strconv_FormatInt.calls (a0 : Int) (a1 : Int) (r : ByteArray) (w : World) (h : strconv_FormatInt.f a0 a1 = some r) :
 Calls Tryz.prog 88 #[.int .i64 a0,.int .i64 a1] w fun e w' => e = .returned (.string r) ∧ Below w.heap.size w w' := by
 unfold strconv_FormatInt.f at h
 split at h
 ·rename_i hh;obtain ⟨h0,h1,rfl⟩ := hh;obtain rfl := Option.some.inj h;obtain ⟨i,rfl⟩ : ∃ i : Nat,a0 = (i : Int) := ⟨a0.toNat,by omega⟩;refine (Tryz.strconv_FormatInt_10_small i (by omega) w).mono ?_;rintro e w' ⟨rfl,rfl⟩;exact ⟨by rw [Int.toNat_natCast],Below.refl _ _⟩
 ·cases h
def Zar.f (a0 : Int) : Option (ByteArray) := (strconv_FormatInt.f a0 10).bind fun t523 => (some t523)
theorem Zar.calls (a0 : Int) (r : ByteArray) (w : World) (h : Zar.f a0 = some r) :
 Calls Tryz.prog 70 #[.int .i64 a0] w fun e w' => e = .returned (.string r) ∧ Below w.heap.size w w' := by
 have HB := aK (Below.refl w.heap.size w);have H := h;clear h;unfold Zar.f at H;replace H := bE H;obtain ⟨t523,A2,H⟩ := H;obtain rfl := Option.some.inj H;go_enter Tryz.func70,Tryz.ntmps70
 go_wp2_with ((with_reducible refine wP ?_);first | (refine gT 4 Tryz.func88 (strconv_FormatInt.calls a0 10 t523 _ A2.out) ?_;intro w3 hb;replace HB := hB HB hb;clear hb))
 go_ret;exact eR (bN HB)
def Zae.l0 : Nat → ByteArray → List ByteArray → List Int → Int → Int → Option (ByteArray)
 | 0,_,_,_,_,_ => none
 | k + 1,x1,x5,x9,x10,x11 => if x11 < x10 then (if 0 ≤ x11 then (if x11 < (x9.length : Int) then ((Zar.f (rd x9 x11)).bind fun t528 => (if x5.length < 8796093022208 then (Zae.l0 k x1 (x5 ++ [t528]) x9 x10 (wrap64 (x11 + 1))) else (none))) else (none)) else (none)) else ((strings_Join.f x5 x1).bind fun t532 => (some t532))
def Zae.f (k : Nat) (l0 : List Int) (a1 : ByteArray) : Option (ByteArray) := Zae.l0 k a1 (([] : List ByteArray)) l0 (l0.length : Int) 0
theorem Zae.calls (k : Nat) (A0 : Option Addr) (c0 : Nat) (l0 : List Int) (a1 : ByteArray) (r : ByteArray) (w : World) (hr0 : Kd.C (Kd.int .i64) w A0 l0.length l0) (hc0 : l0.length ≤ c0) (h : Zae.f k l0 a1 = some r) :
 Calls Tryz.prog 49 #[.slice A0 l0.length c0,.string a1] w fun e w' => e = .returned (.string r) ∧ Below w.heap.size w w' := by
 have HR0 := aK hr0;have HC0 := aK hc0;clear hr0 hc0;have HB := aK (Below.refl w.heap.size w);have H := h;clear h;unfold Zae.f at H;obtain ⟨y524,hy524⟩ : ∃ y_ : List ByteArray,y_ = (([] : List ByteArray)) := ⟨_,rfl⟩;rw [← hy524] at H;have Ny524 := aK hy524;clear hy524;have H' := aK H;clear H;go_enter Tryz.func49,Tryz.ntmps49
 go_wp2_with ((with_reducible refine wP ?_);first | (refine Kd.R_lit Kd.string _ 9 ?hg (N := 8) ?hd (xs := ([] : List ByteArray)) (inner := []) (ok := fun _ => True) (okp := fun _ => True) ?hr ?hp (fun _ hk => hk) trivial (Below.refl _ _) (Nat.le_refl _) (by simp) ?_;(case hd => rfl);(case hg => rfl);(case hr => first | (go_simp;done) | (go_simp;rfl));(case hp => exact (Reps.none _ _));intro v525 w3 ho4 hb hg_ hnew_;clear hg_ hnew_;(first | rw [← Ny524.out] at ho4 | (simp only [Int.reduceToNat] at ho4;rw [← Ny524.out] at ho4));have HO526 := rl ho4 HB;replace HB := hB HB hb;clear hb ho4))
 go_loopg [5,11] k (fun kq v5 v11 w' => ∃ (x5_1 : List ByteArray) (x11_1 : Int),v11 = .int .i64 x11_1 ∧ Aside0 (Zae.l0 kq a1 x5_1 l0 (l0.length : Int) x11_1 = some r) ∧ Aside0 (kq ≤ k) ∧ Aside0 (Kd.R Kd.string 9 w' w.heap.size (fun _ => True) v5 x5_1) ∧ Aside0 (Below w.heap.size w w'))
 case atStart => exact ⟨(y524),(0),rD,H',⟨Nat.le_refl _⟩,⟨rN HO526⟩,⟨bN HB⟩⟩
 case round =>
  clear H';obtain ⟨x5_1,x11_1,rfl,HA,HK1,HO_5,HB⟩ := hrel
  cases gk with
  | zero => exact absurd HA.out (by simp [Zae.l0])
  | succ k1 =>
   have H := HA.out;clear HA;simp only [Zae.l0] at H;replace H := iT H;obtain ⟨c5b0,H⟩|⟨c5b0,H⟩ := H
   ·replace H := iP H;obtain ⟨c6b0,H⟩ := H;replace H := iP H;obtain ⟨c7b0,H⟩ := H;replace H := bE H;obtain ⟨t528,A8,H⟩ := H;replace H := iA H;obtain ⟨LMc9,H⟩ := H;obtain ⟨y529,hy529⟩ : ∃ y_ : List ByteArray,y_ = (x5_1 ++ [t528]) := ⟨_,rfl⟩;rw [← hy529] at H;have Ny529 := aK hy529;clear hy529;have H' := aK H;clear H;obtain ⟨ad527,rfl,-,hx527_0,p527,q527⟩ := aI HR0.out HB x11_1
    go_wp2_with (first | ((with_reducible refine wP ?_);refine gT 17 Tryz.func70 (Zar.calls (rd l0 x11_1) t528 _ A8.out) ?_;intro w10 hb;replace HO_5 := rB HO_5 hb;replace HB := hB HB hb;clear hb) | ((with_reducible refine gate_builtin (b := .append) (xs := #[.tmp 15,.tmp 18]) rfl ?_);at_builtin;refine Kd.R_append Kd.string (w0 := w) w.heap.size rfl (.tmp 15) (.tmp 18) 66 9 (.string ⟨#[]⟩) 16 rfl Tryz.underlying66 info9 rfl (by decide) (by omega) u5 x5_1 t528 [.string t528] (fun _ => True) (fun _ => False) rfl rfl ?aP (fun _ hk => hk.elim) ?aF ?aO ?aB ?aS ?aL ?_;(case aP => exact rfl);(case aB => exact (bN HB));(case aF => exact (fun _ _ => trivial));(case aO => exact (rN HO_5));(case aS => exact (below_size (bN HB)));(case aL => have := LMc9.out;omega);intro v530 w11 ho hb hg hat;rw [← Ny529.out] at ho;replace HB := aK (hb);have HO531 := aK (ho);clear HO_5;clear ho hb hg hat))
    go_roundg k1
    case measure => have := HK1.out;omega
    case rel => exact ⟨(y529),(wrap64 (x11_1 + 1)),rD,H',o1 HK1,⟨rN HO531⟩,⟨bN HB⟩⟩
   ·replace H := bE H;obtain ⟨t532,A12,H⟩ := H;obtain rfl := Option.some.inj H;obtain ⟨Ao13,co13,eo13⟩ := Kd.R_slice HO_5.out;subst eo13
    go_wp2_with ((with_reducible refine wP ?_);first | (refine gT 23 Tryz.func50 (strings_Join.calls _ _ x5_1 a1 t532 _ (cR HO_5) (rq HO_5) A12.out) ?_;intro w14 hb;replace HO_5 := rB HO_5 hb;replace HB := hB HB hb;clear hb))
    go_ret;exact eR (bN HB)
def ZS.l0 : Nat → List ByteArray → List (List Int) → Int → Int → Option (ByteArray × Int)
 | 0,_,_,_,_ => none
 | k + 1,x4,x12,x13,x14 => if x14 < x13 then (if 0 ≤ x14 then (if x14 < (x12.length : Int) then ((Zae.f k (rd_L2 x12 x14) (⟨#[46]⟩ : ByteArray)).bind fun t539 => (if x4.length < 8796093022208 then (ZS.l0 k (x4 ++ [t539]) x12 x13 (wrap64 (x14 + 1))) else (none))) else (none)) else (none)) else ((strings_Join.f x4 (⟨#[44]⟩ : ByteArray)).bind fun t543 => (some (t543,0)))
def ZS.f (k : Nat) (l0_0 : List (List Int)) : Option (ByteArray × Int) := (Zn.f k l0_0).bind fun t534 => (if t534 = true then (ZS.l0 k (([] : List ByteArray)) l0_0 (l0_0.length : Int) 0) else (some ((⟨#[]⟩ : ByteArray), 1)))
theorem ZS.calls (k : Nat) (A0_0 : Option Addr) (c0_0 : Nat) (l0_0 : List (List Int)) (r1 : ByteArray) (r2 : Int) (w : World) (hr0_0 : Kd.C (Kd.slice 2 (Kd.int .i64)) w A0_0 l0_0.length l0_0) (hc0_0 : l0_0.length ≤ c0_0) (h : ZS.f k l0_0 = some (r1, r2)) :
 Calls Tryz.prog 18 #[.agg #[.slice A0_0 l0_0.length c0_0]] w fun e w' => e = .returned (.tuple #[.string r1,.int .i64 r2]) ∧ Below w.heap.size w w' := by
 have hu26 := Tryz.underlying26;have HR0_0 := aK hr0_0;have HC0_0 := aK hc0_0;clear hr0_0 hc0_0;have HB := aK (Below.refl w.heap.size w);have H := h;clear h;unfold ZS.f at H;replace H := bE H;obtain ⟨t534,A2,H⟩ := H;replace H := iB H;obtain ⟨rfl,H⟩|⟨rfl,H⟩ := H
 ·obtain ⟨y535,hy535⟩ : ∃ y_ : List ByteArray,y_ = (([] : List ByteArray)) := ⟨_,rfl⟩;rw [← hy535] at H;have Ny535 := aK hy535;clear hy535;have H' := aK H;clear H;go_enter Tryz.func18,Tryz.ntmps18
  go_wp2_with ((with_reducible refine wP ?_);first | (refine boxE 1 #[.slice A0_0 l0_0.length c0_0] 26 ?_;intro gb533 hg w4 hbox hb;have BK533 := aK (hbox);have GW533 := aK (zG HB hg);have GE533 := aK (zG HB hg);replace HB := hB HB hb;clear hb hbox hg;have hcz5_0 := z0 BK533;have hfz5_0 := fZ BK533 0) | (refine gT 8 Tryz.func16 (Zn.calls k _ _ l0_0 true _ (cB HR0_0 HB) HC0_0.out A2.out) ?_;intro w6 hb;replace BK533 := kB BK533 hb;replace HB := hB HB hb;clear hb) | (refine Kd.R_lit Kd.string _ 9 ?hg (N := 10) ?hd (xs := ([] : List ByteArray)) (inner := []) (ok := fun _ => True) (okp := fun _ => True) ?hr ?hp (fun _ hk => hk) trivial (Below.refl _ _) (Nat.le_refl _) (by simp) ?_;(case hd => rfl);(case hg => rfl);(case hr => first | (go_simp;done) | (go_simp;rfl));(case hp => exact (Reps.none _ _));intro v536 w7 ho8 hb hg_ hnew_;clear hg_ hnew_;(first | rw [← Ny535.out] at ho8 | (simp only [Int.reduceToNat] at ho8;rw [← Ny535.out] at ho8));have HO537 := rl ho8 HB;replace BK533 := kB BK533 hb;replace HB := hB HB hb;clear hb ho8;have hcz9_0 := z0 BK533;have hfz9_0 := fZ BK533 0))
  go_loopg [4,14] k (fun kq v4 v14 w' => ∃ (x4_1 : List ByteArray) (x14_1 : Int),v14 = .int .i64 x14_1 ∧ Aside0 (ZS.l0 kq x4_1 l0_0 (l0_0.length : Int) x14_1 = some (r1,r2)) ∧ Aside0 (kq ≤ k) ∧ Aside0 (Kd.R Kd.string 9 w' w.heap.size (fun _ => True) v4 x4_1) ∧ Aside0 (w'.heap[gb533]? = some (.cells #[(.slice A0_0 l0_0.length c0_0)] 26 (0,0))) ∧ Aside0 (Below w.heap.size w w'))
  case atStart => exact ⟨(y535),(0),rD,H',⟨Nat.le_refl _⟩,⟨rN HO537⟩,⟨kN BK533⟩,⟨bN HB⟩⟩
  case round =>
   clear H';clear hcz5_0 hcz9_0 hfz5_0 hfz9_0;obtain ⟨x4_1,x14_1,rfl,HA,HK1,HO_4,BK533,HB⟩ := hrel
   cases gk with
   | zero => exact absurd HA.out (by simp [ZS.l0])
   | succ k1 =>
    have H := HA.out;clear HA;simp only [ZS.l0] at H;replace H := iT H;obtain ⟨c10b0,H⟩|⟨c10b0,H⟩ := H
    ·replace H := iP H;obtain ⟨c11b0,H⟩ := H;replace H := iP H;obtain ⟨c12b0,H⟩ := H;replace H := bE H;obtain ⟨t539,A13,H⟩ := H;replace H := iA H;obtain ⟨LMc14,H⟩ := H;obtain ⟨y540,hy540⟩ : ∃ y_ : List ByteArray,y_ = (x4_1 ++ [t539]) := ⟨_,rfl⟩;rw [← hy540] at H;have Ny540 := aK hy540;clear hy540;have H' := aK H;clear H;obtain ⟨ad538,A538_0,c538_0,rfl,-,hx538_0,HR538_0,HC538_0,p538,q538⟩ := aL HR0_0.out HB x14_1
     go_wp2_with (first | ((with_reducible refine wP ?_);refine gT 20 Tryz.func49 (Zae.calls k1 _ _ (rd_L2 l0_0 x14_1) (⟨#[46]⟩ : ByteArray) t539 _ (cB HR538_0 HB) HC538_0.out A13.out) ?_;intro w15 hb;replace HO_4 := rB HO_4 hb;replace BK533 := kB BK533 hb;replace HB := hB HB hb;clear hb) | ((with_reducible refine gate_builtin (b := .append) (xs := #[.tmp 18,.tmp 21]) rfl ?_);at_builtin;refine Kd.R_append Kd.string (w0 := w) w.heap.size rfl (.tmp 18) (.tmp 21) 66 9 (.string ⟨#[]⟩) 16 rfl Tryz.underlying66 info9 rfl (by decide) (by omega) u4 x4_1 t539 [.string t539] (fun _ => True) (fun _ => False) rfl rfl ?aP (fun _ hk => hk.elim) ?aF ?aO ?aB ?aS ?aL ?_;(case aP => exact rfl);(case aB => exact (bN HB));(case aF => exact (fun _ _ => trivial));(case aO => exact (rN HO_4));(case aS => exact (below_size (bN HB)));(case aL => have := LMc14.out;omega);intro v541 w16 ho hb hg hat;rw [← Ny540.out] at ho;replace BK533 := aK (blk_grown (g := gb533) (o := .cells #[.slice (some ad538) l0_0.length c0_0] 26 (0,0)) (kN BK533) hg (Kd.R_ne HO_4.out BK533.out (by decide)));replace HB := aK (hb);have HO542 := aK (ho);clear HO_4;clear ho hb hg hat))
     go_roundg k1
     case measure => have := HK1.out;omega
     case rel => exact ⟨(y540),(wrap64 (x14_1 + 1)),rD,H',o1 HK1,⟨rN HO542⟩,⟨kN BK533⟩,⟨bN HB⟩⟩
    ·replace H := bE H;obtain ⟨t543,A17,H⟩ := H;simp only [Option.some.injEq,Prod.mk.injEq] at H;obtain ⟨rfl,rfl⟩ := H;obtain ⟨Ao18,co18,eo18⟩ := Kd.R_slice HO_4.out;subst eo18
     go_wp2_with ((with_reducible refine wP ?_);first | (refine gT 25 Tryz.func50 (strings_Join.calls _ _ x4_1 (⟨#[44]⟩ : ByteArray) t543 _ (cR HO_4) (rq HO_4) A17.out) ?_;intro w19 hb;replace HO_4 := rB HO_4 hb;replace BK533 := kB BK533 hb;replace HB := hB HB hb;clear hb))
     go_ret2;exact eR (bN HB)
 ·simp only [Option.some.injEq,Prod.mk.injEq] at H;obtain ⟨rfl,rfl⟩ := H;go_enter Tryz.func18,Tryz.ntmps18
  go_wp2_with ((with_reducible refine wP ?_);first | (refine boxE 1 #[.slice A0_0 l0_0.length c0_0] 26 ?_;intro gb533 hg w20 hbox hb;have BK533 := aK (hbox);have GW533 := aK (zG HB hg);have GE533 := aK (zG HB hg);replace HB := hB HB hb;clear hb hbox hg;have hcz21_0 := z0 BK533;have hfz21_0 := fZ BK533 0) | (refine gT 8 Tryz.func16 (Zn.calls k _ _ l0_0 false _ (cB HR0_0 HB) HC0_0.out A2.out) ?_;intro w22 hb;replace BK533 := kB BK533 hb;replace HB := hB HB hb;clear hb))
  go_ret2;exact eR (bN HB)
def bs (l : List UInt8) : ByteArray := ⟨l.toArray⟩
theorem bs_append (a b : List UInt8) : bs a ++ bs b = bs (a ++ b) := ByteArray.ext (by rw [ByteArray.data_append]; simp [bs])
theorem bs_size (a : List UInt8) : (bs a).size = a.length := by simp [bs, ByteArray.size]
theorem bs_data (a : List UInt8) : (bs a).data.toList = a := by simp [bs]
def dig (n : Int) : List UInt8 := Lib.decDigits n.toNat
theorem dig_len {n : Int} (h0 : 0 ≤ n) (h1 : n < 100) : (dig n).length ≤ 2 := by
 unfold dig
 by_cases h : n.toNat < 10
 ·rw [Lib.decDigits_one h];simp
 ·rw [Lib.decDigits_two h (by omega)];simp
theorem format_eq {n : Int} (h0 : 0 ≤ n) (h1 : n < 100) : Zar.f n = some (bs (dig n)) := by
 unfold Zar.f strconv_FormatInt.f
 rw [if_pos ⟨h0,h1,rfl⟩]
 rfl
theorem u8_of {n : Int} (h0 : 0 ≤ n) (h1 : n < 10) : bs [UInt8.ofNat (48 + n.toNat)] = strOfNums [(wrap64 (48 + n)) % 256] := by
 have e : (wrap64 (48 + n)) % 256 = ((48 + n.toNat : Nat) : Int) := by unfold wrap64;omega
 rw [e]
 rfl
theorem dec_one {n : Int} (h0 : 0 ≤ n) (h1 : n < 10) : Ev (fun k => ZK.f k n) (bs (dig n)) := by
 refine Ev.step (f := fun _ => some (bs (dig n))) (fun k => ?_) (Ev.now _)
 rw [ZK.f,if_neg (by omega),if_pos h1]
 unfold dig
 rw [Lib.decDigits_one (by omega),u8_of h0 h1]
theorem dec_ev {n : Int} (h0 : 0 ≤ n) (h1 : n < 100) : Ev (fun k => ZK.f k n) (bs (dig n)) := by
 by_cases h : n < 10
 ·exact dec_one h0 h
 ·have ed : wrap64 (Int.tdiv n 10) = n / 10 := by rw [Int.tdiv_eq_ediv_of_nonneg h0];unfold wrap64;omega
  have em : Int.tmod n 10 = n % 10 := Int.tmod_eq_emod_of_nonneg h0
  refine Ev.step (fun k => by rw [ZK.f,if_neg (by omega),if_neg h,ed,em]) (Ev.bind (dec_one (n := n / 10) (by omega) (by omega)) ?_)
  refine Ev.congr (f := fun _ => some (bs (dig n))) (fun k => ?_) (Ev.now _)
  rw [Option.bind_some,← u8_of (n := n % 10) (by omega) (by omega)]
  have l1 : (dig (n / 10)).length ≤ 2 := dig_len (by omega) (by omega)
  rw [bs_size,bs_size,if_pos (by simp only [List.length_singleton];omega),bs_append]
  have e2 : dig n = dig (n / 10) ++ [UInt8.ofNat (48 + (n % 10).toNat)] := by
   unfold dig
   rw [Lib.decDigits_two (i := n.toNat) (by omega) (by omega),Lib.decDigits_one (i := (n / 10).toNat) (by omega),show n.toNat / 10 = (n / 10).toNat by omega,show n.toNat % 10 = (n % 10).toNat by omega]
   rfl
  rw [e2]
def flatU (s : UInt8) : Nat → List (List UInt8) → List UInt8
 | _,[] => []
 | j,w :: t => (if j = 0 then [] else [s]) ++ w ++ flatU s (j + 1) t
theorem tail_flatU (s : UInt8) : ∀ (t : List (List UInt8)) (j : Nat), Lib.joinTail [s] t = flatU s (j + 1) t
 | [],j => rfl
 | w :: t,j => by
  have ih := tail_flatU s t (j + 1)
  unfold Lib.joinTail at ih ⊢
  rw [List.map_cons,List.flatten_cons,ih,flatU,if_neg (by omega)]
theorem join_flatU (s : UInt8) : ∀ ws : List (List UInt8), Lib.join ws [s] = flatU s 0 ws
 | [] => rfl
 | w :: t => by rw [Lib.join_cons,tail_flatU s t 0,flatU,if_pos rfl,List.nil_append]
theorem flatU_len (s : UInt8) (m : Nat) : ∀ (ws : List (List UInt8)) (j : Nat), (∀ w ∈ ws, w.length ≤ m) → (flatU s j ws).length ≤ ws.length * (m + 1)
 | [],j,_ => by simp [flatU]
 | w :: t,j,h => by
  have ih := flatU_len s m t (j + 1) (fun x hx => h x (List.mem_cons_of_mem _ hx))
  have hw := h w (List.mem_cons_self ..)
  have h1 : (if j = 0 then ([] : List UInt8) else [s]).length ≤ 1 := by split <;> simp
  simp only [flatU,List.length_append,List.length_cons]
  rw [Nat.succ_mul]
  omega
def okD (l : List Int) : Prop := ∀ x ∈ l, 0 ≤ x ∧ x < 100
theorem digs_len {l : List Int} (h : okD l) : ∀ w ∈ l.map dig, w.length ≤ 2 := fun w hw => by
 obtain ⟨x,hx,rfl⟩ := List.mem_map.1 hw
 exact dig_len (h x hx).1 (h x hx).2
def textU (s : UInt8) (l : List Int) : List UInt8 := flatU s 0 (l.map dig)
theorem textU_len (s : UInt8) {l : List Int} (h : okD l) : (textU s l).length ≤ l.length * 3 := by
 have := flatU_len s 2 (l.map dig) 0 (digs_len h)
 rwa [List.length_map] at this
theorem joinU_f (s : UInt8) (ws : List (List UInt8)) (m : Nat) (h : ∀ w ∈ ws, w.length ≤ m) (hl : ws.length ≤ 1048576) (hm : m ≤ 4194304) : strings_Join.f (ws.map bs) (⟨#[s]⟩ : ByteArray) = some (bs (flatU s 0 ws)) := by
 have e : (ws.map bs).map (·.data.toList) = ws := by rw [List.map_map];exact (List.map_congr_left (fun w _ => bs_data w)).trans (List.map_id _)
 have hf := flatU_len s m ws 0 h
 have hb : ws.length * (m + 1) ≤ 1048576 * (4194304 + 1) := Nat.mul_le_mul hl (by omega)
 unfold strings_Join.f
 rw [e,show ((⟨#[s]⟩ : ByteArray).data.toList) = [s] from rfl,join_flatU,List.length_map,if_pos ⟨by omega,by omega⟩]
 rfl
theorem joined_loop (s : UInt8) (l : List Int) (hd : okD l) (hl : l.length ≤ 1048576) : ∀ (d i : Nat), i + d = l.length → Ev (fun k => Zae.l0 k (⟨#[s]⟩ : ByteArray) ((l.take i).map (fun x => bs (dig x))) l (l.length : Int) (i : Int)) (bs (textU s l))
 | 0,i,hi => by
  refine Ev.step (f := fun _ => some (bs (textU s l))) (fun k => ?_) (Ev.now _)
  rw [Zae.l0,if_neg (by omega),List.take_of_length_le (by omega),show (l.map fun x => bs (dig x)) = (l.map dig).map bs by rw [List.map_map];rfl,joinU_f s (l.map dig) 2 (digs_len hd) (by rw [List.length_map];exact hl) (by omega)]
  rfl
 | d + 1,i,hi => by
  obtain ⟨x,hx⟩ := get_some (xs := l) (i := i) (by omega)
  have hm := hd x (List.mem_of_getElem? hx)
  have ih := joined_loop s l hd hl d (i + 1) (by omega)
  rw [List.take_add_one,hx,Option.toList_some,List.map_append,List.map_cons,List.map_nil] at ih
  refine Ev.step (fun k => ?_) ih
  rw [Zae.l0,if_pos (by omega),if_pos (by omega),if_pos (by omega),rd_nat,getD_of hx,format_eq hm.1 hm.2,Option.bind_some,if_pos (by rw [List.length_map,List.length_take];omega),wrapS (i := (i : Int) + 1) (by omega) (by omega),cast_succ]
theorem joined_ev (s : UInt8) (l : List Int) (hd : okD l) (hl : l.length ≤ 1048576) : Ev (fun k => Zae.f k l (⟨#[s]⟩ : ByteArray)) (bs (textU s l)) := joined_loop s l hd hl l.length 0 (by omega)
def gameTextU (g : List (List Int)) : List UInt8 := flatU 44 0 (g.map (textU 46))
def okG (g : List (List Int)) : Prop := ∀ row ∈ g, okD row ∧ row.length ≤ 100
theorem dec_stepG {x : Int} (h0 : 0 ≤ x) (h1 : x < 100) (acc : List UInt8) (hl : acc.length ≤ 1048576) : (bs acc).size + (bs (dig x)).size ≤ 9223372036854775807 := by
 have := dig_len h0 h1
 rw [bs_size,bs_size];omega
theorem t01_l1 {g : List (List Int)} {row : List Int} {p : Nat} (hp : g[p]? = some row) (hd : okD row) (hl : row.length ≤ 100) (hg : g.length ≤ 1000) (r : ByteArray) : ∀ (d i : Nat) (acc : List UInt8), i + d = row.length → acc.length + 3 * d ≤ 1000000 → Ev (fun k => Zk.l0 k (bs (acc ++ flatU 46 i ((row.drop i).map dig))) ((p + 1 : Nat) : Int) g) r → Ev (fun k => Zk.l1 k (bs acc) (p : Int) (i : Int) g) r
 | 0,i,acc,hi,ha,h => by
  have hpl := (List.getElem?_eq_some_iff.1 hp).1
  rw [List.drop_of_length_le (by omega),List.map_nil,flatU,List.append_nil] at h
  refine Ev.step (fun k => ?_) h
  rw [Zk.l1,rdL2_nat,getD_of hp,if_pos (by omega),if_pos (by omega),if_neg (by omega),wrapS (i := (p : Int) + 1) (by omega) (by omega),cast_succ]
 | d + 1,i,acc,hi,ha,h => by
  have hpl := (List.getElem?_eq_some_iff.1 hp).1
  obtain ⟨x,hx⟩ := get_some (xs := row) (i := i) (by omega)
  have hm := hd x (List.mem_of_getElem? hx)
  have hgl := dig_len hm.1 hm.2
  rw [drop_of hx,List.map_cons,flatU,show acc ++ ((if i = 0 then ([] : List UInt8) else [46]) ++ dig x ++ flatU 46 (i + 1) ((row.drop (i + 1)).map dig)) = (acc ++ if i = 0 then [] else [46]) ++ dig x ++ flatU 46 (i + 1) ((row.drop (i + 1)).map dig) by simp only [List.append_assoc]] at h
  have ih := t01_l1 hp hd hl hg r d (i + 1) ((acc ++ if i = 0 then [] else [46]) ++ dig x) (by omega) (by
   have : (if i = 0 then ([] : List UInt8) else [46]).length ≤ 1 := by split <;> simp
   simp only [List.length_append];omega) h
  by_cases c : i = 0
  ·subst c
   refine Ev.step (fun k => by rw [Zk.l1,rdL2_nat,getD_of hp,if_pos (by omega),if_pos (by omega),if_pos (by omega),if_neg (by omega),if_pos (by omega),rd_nat,getD_of hx]) (Ev.bind (dec_ev hm.1 hm.2) ?_)
   refine Ev.congr (fun k => ?_) ih
   rw [if_pos (dec_stepG hm.1 hm.2 acc (by omega)),bs_append,if_pos rfl,List.append_nil,wrapS (i := ((0 : Nat) : Int) + 1) (by omega) (by omega),cast_succ]
  ·refine Ev.step (fun k => by rw [Zk.l1,rdL2_nat,getD_of hp,if_pos (by omega),if_pos (by omega),if_pos (by omega),if_pos (by omega),if_pos (by rw [bs_size];omega),if_pos (by omega),rd_nat,getD_of hx]) (Ev.bind (dec_ev hm.1 hm.2) ?_)
   refine Ev.congr (fun k => ?_) ih
   rw [show (⟨#[46]⟩ : ByteArray) = bs [46] from rfl,bs_append,if_pos (dec_stepG hm.1 hm.2 _ (by simp only [List.length_append,List.length_singleton];omega)),bs_append,if_neg c,wrapS (i := (i : Int) + 1) (by omega) (by omega),cast_succ]
theorem t01_l0 (g : List (List Int)) (hok : okG g) (hg : g.length ≤ 100) : ∀ (d p : Nat) (acc : List UInt8), p + d = g.length → acc.length + 302 * d ≤ 100000 → Ev (fun k => Zk.l0 k (bs acc) (p : Int) g) (bs (acc ++ flatU 44 p ((g.drop p).map (textU 46))))
 | 0,p,acc,hi,ha => by
  refine Ev.step (f := fun _ => some (bs acc)) (fun k => ?_) (by rw [List.drop_of_length_le (by omega),List.map_nil,flatU,List.append_nil];exact Ev.now _)
  rw [Zk.l0,if_neg (by omega)]
 | d + 1,p,acc,hi,ha => by
  obtain ⟨row,hr⟩ := get_some (xs := g) (i := p) (by omega)
  obtain ⟨hd,hl⟩ := hok row (List.mem_of_getElem? hr)
  have ht := textU_len 46 hd
  have ih := t01_l0 g hok hg d (p + 1) ((acc ++ if p = 0 then [] else [44]) ++ textU 46 row) (by omega) (by
   have : (if p = 0 then ([] : List UInt8) else [44]).length ≤ 1 := by split <;> simp
   simp only [List.length_append];omega)
  rw [drop_of hr,List.map_cons,flatU,show acc ++ ((if p = 0 then ([] : List UInt8) else [44]) ++ textU 46 row ++ flatU 44 (p + 1) ((g.drop (p + 1)).map (textU 46))) = (acc ++ if p = 0 then [] else [44]) ++ textU 46 row ++ flatU 44 (p + 1) ((g.drop (p + 1)).map (textU 46)) by simp only [List.append_assoc]]
  have h1 := t01_l1 hr hd hl (by omega) _ row.length 0 (acc ++ if p = 0 then [] else [44]) (by omega) (by
   have : (if p = 0 then ([] : List UInt8) else [44]).length ≤ 1 := by split <;> simp
   simp only [List.length_append];omega) (by rw [List.drop_zero];exact ih)
  have h2 : Ev (fun k => Zk.j1 k (bs (acc ++ if p = 0 then [] else [44])) (p : Int) g) _ := Ev.step (fun k => by rw [Zk.j1];rfl) h1
  refine Ev.step (fun k => ?_) h2
  by_cases c : p = 0
  ·rw [Zk.l0,if_pos (by omega),if_neg (by omega),if_pos c,List.append_nil]
  ·rw [Zk.l0,if_pos (by omega),if_pos (by omega),if_pos (by rw [bs_size];omega),show (⟨#[44]⟩ : ByteArray) = bs [44] from rfl,bs_append,if_neg c]
theorem game_loop (g : List (List Int)) (hok : okG g) (hg : g.length ≤ 100) : ∀ (d i : Nat), i + d = g.length → Ev (fun k => ZS.l0 k ((g.take i).map (fun row => bs (textU 46 row))) g (g.length : Int) (i : Int)) (bs (gameTextU g), 0)
 | 0,i,hi => by
  refine Ev.step (f := fun _ => some (bs (gameTextU g),0)) (fun k => ?_) (Ev.now _)
  have hw : ∀ w ∈ g.map (textU 46),w.length ≤ 300 := fun w hw => by
   obtain ⟨row,hr,rfl⟩ := List.mem_map.1 hw
   have := textU_len 46 (hok row hr).1
   have := (hok row hr).2
   omega
  rw [ZS.l0,if_neg (by omega),List.take_of_length_le (by omega),show (g.map fun row => bs (textU 46 row)) = (g.map (textU 46)).map bs by rw [List.map_map];rfl,joinU_f 44 (g.map (textU 46)) 300 hw (by rw [List.length_map];omega) (by omega)]
  rfl
 | d + 1,i,hi => by
  obtain ⟨row,hr⟩ := get_some (xs := g) (i := i) (by omega)
  obtain ⟨hd,hl⟩ := hok row (List.mem_of_getElem? hr)
  have ih := game_loop g hok hg d (i + 1) (by omega)
  rw [List.take_add_one,hr,Option.toList_some,List.map_append,List.map_cons,List.map_nil] at ih
  refine Ev.step (fun k => by rw [ZS.l0,if_pos (by omega),if_pos (by omega),if_pos (by omega),rdL2_nat,getD_of hr]) (Ev.bind (joined_ev 46 row hd (by omega)) ?_)
  refine Ev.congr (fun k => ?_) ih
  rw [if_pos (by rw [List.length_map,List.length_take];omega),wrapS (i := (i : Int) + 1) (by omega) (by omega),cast_succ]
def gameText (g : List (List Int)) : ByteArray × Int := if isGame g = true then (bs (gameTextU g), 0) else (⟨#[]⟩, 1)
theorem isGame_okG {g : List (List Int)} (h : isGame g = true) : okG g ∧ g.length ≤ 40 := by
 unfold isGame at h
 simp only [Bool.and_eq_true,decide_eq_true_eq] at h
 obtain ⟨h1,h2,h3⟩ := h
 refine ⟨fun row hr => ?_,h2⟩
 obtain ⟨i,hi⟩ := List.mem_iff_getElem?.1 hr
 have hil := (List.getElem?_eq_some_iff.1 hi).1
 have ho := okRows_get h3 hi
 have hm := okRow_mem ho
 have hl := okRow_len ho (by omega)
 exact ⟨fun x hx => by have := hm x hx;omega,by omega⟩
theorem implGameText_ev (g : List (List Int)) (hl : ∀ row ∈ g, row.length < 4611686018427387904) (hg : g.length < 4611686018427387904) : Ev (fun k => ZS.f k g) (gameText g) := by
 unfold ZS.f gameText
 refine Ev.bind (IsGame_ev g hl hg) ?_
 cases hE : isGame g with
 | false => exact Ev.congr (f := fun _ => some (⟨#[]⟩,1)) (fun k => rfl) (Ev.now _)
 | true =>
  obtain ⟨h1,h2⟩ := isGame_okG hE
  exact Ev.congr (fun k => by rw [if_pos rfl];rfl) (game_loop g h1 (by omega) g.length 0 (by omega))
theorem sign_len (l : List ByteArray) (h : ∀ x ∈ l, x.size ≤ 1) (i : Int) : (rdOf ByteArray.empty l i).size ≤ 1 := by
 unfold rdOf
 rw [List.getD_eq_getElem?_getD]
 cases e : l[i.toNat]? with
 | none => exact Nat.zero_le _
 | some x => exact h x (List.mem_of_getElem? e)
def signs : List ByteArray := ([(⟨#[48]⟩ : ByteArray), (⟨#[49]⟩ : ByteArray), (⟨#[50]⟩ : ByteArray), (⟨#[57]⟩ : ByteArray), (⟨#[44]⟩ : ByteArray), (⟨#[46]⟩ : ByteArray), (⟨#[45]⟩ : ByteArray), (⟨#[32]⟩ : ByteArray), (⟨#[120]⟩ : ByteArray), (⟨#[10]⟩ : ByteArray)] : List ByteArray)
theorem signs_len (i : Int) : (rdOf ByteArray.empty signs i).size ≤ 1 := sign_len signs (by decide) i
theorem dam_nil {s : List Int} {n m r1 n1 m1 : Int} {t : ByteArray} (ht : t.size = 0) (e1 : Zb.f s n m 10 = some (r1, n1, m1)) (h0 : 0 ≤ r1) (h1 : r1 < 10) : ∃ t', ZW.f s n m t = some (t', n1, m1) ∧ t'.size ≤ 1 := by
 refine ⟨_,?_,signs_len r1⟩
 unfold ZW.f
 show (Zb.f s n m 10).bind _ = _
 rw [e1,Option.bind_some]
 show (if 0 ≤ r1 then (if r1 < 10 then _ else none) else none) = _
 rw [if_pos h0,if_pos h1,if_pos (by omega)]
 rfl
theorem dam_some {s : List Int} {n m r1 n1 m1 r2 n2 m2 r3 n3 m3 : Int} {t : ByteArray} (ht : t.size ≠ 0) (hs : t.size ≤ 4611686018427387904) (e1 : Zb.f s n m 10 = some (r1, n1, m1)) (h0 : 0 ≤ r1) (h1 : r1 < 10)
 (e2 : Zb.f s n1 m1 (t.size : Int) = some (r2,n2,m2)) (h2 : 0 ≤ r2) (h3 : r2 < (t.size : Int)) (e3 : Zb.f s n2 m2 3 = some (r3,n3,m3)) : ∃ t',ZW.f s n m t = some (t',n3,m3) ∧ t'.size ≤ t.size + 1 := by
 have hc := signs_len r1
 have hw : wrap64 (r2 + 1) = r2 + 1 := wrapS (by omega) (by omega)
 have x1 : (t.extract 0 r2.toNat).size = r2.toNat := by rw [ByteArray.size_extract];omega
 have x2 : (t.extract (r2 + 1).toNat t.size).size = t.size - (r2 + 1).toNat := by rw [ByteArray.size_extract];omega
 have x3 : (t.extract r2.toNat t.size).size = t.size - r2.toNat := by rw [ByteArray.size_extract];omega
 have e : ZW.f s n m t = if r3 = 0 then some (((t.extract 0 r2.toNat) ++ (rdOf ByteArray.empty signs r1)) ++ (t.extract (r2 + 1).toNat t.size),n3,m3) else if r3 = 1 then some ((t.extract 0 r2.toNat) ++ (t.extract (r2 + 1).toNat t.size),n3,m3) else some (((t.extract 0 r2.toNat) ++ (rdOf ByteArray.empty signs r1)) ++ (t.extract r2.toNat t.size),n3,m3) := by
  unfold ZW.f
  show (Zb.f s n m 10).bind _ = _
  rw [e1,Option.bind_some]
  show (if 0 ≤ r1 then (if r1 < 10 then _ else none) else none) = _
  rw [if_pos h0,if_pos h1,if_neg (by omega),e2,Option.bind_some]
  show (Zb.f s n2 m2 3).bind _ = _
  rw [e3,Option.bind_some]
  show (if r3 = 0 then (if 0 ≤ r2 then (if r2 ≤ (t.size : Int) then (if (t.extract 0 r2.toNat).size + (rdOf ByteArray.empty signs r1).size ≤ 9223372036854775807 then (if 0 ≤ wrap64 (r2 + 1) then (if wrap64 (r2 + 1) ≤ (t.size : Int) then (if ((t.extract 0 r2.toNat) ++ (rdOf ByteArray.empty signs r1)).size + (t.extract (wrap64 (r2 + 1)).toNat t.size).size ≤ 9223372036854775807 then _ else none) else none) else none) else none) else none) else none) else (if r3 = 1 then (if 0 ≤ r2 then (if r2 ≤ (t.size : Int) then (if 0 ≤ wrap64 (r2 + 1) then (if wrap64 (r2 + 1) ≤ (t.size : Int) then (if (t.extract 0 r2.toNat).size + (t.extract (wrap64 (r2 + 1)).toNat t.size).size ≤ 9223372036854775807 then _ else none) else none) else none) else none) else none) else (if 0 ≤ r2 then (if r2 ≤ (t.size : Int) then (if (t.extract 0 r2.toNat).size + (rdOf ByteArray.empty signs r1).size ≤ 9223372036854775807 then (if ((t.extract 0 r2.toNat) ++ (rdOf ByteArray.empty signs r1)).size + (t.extract r2.toNat t.size).size ≤ 9223372036854775807 then _ else none) else none) else none) else none))) = _
  rw [hw]
  by_cases c0 : r3 = 0
  ·rw [if_pos c0,if_pos c0,if_pos h2,if_pos (by omega),if_pos (by omega),if_pos (by omega),if_pos (by omega),if_pos (by rw [ByteArray.size_append];omega)]
   rfl
  ·rw [if_neg c0,if_neg c0]
   by_cases c1 : r3 = 1
   ·rw [if_pos c1,if_pos c1,if_pos h2,if_pos (by omega),if_pos (by omega),if_pos (by omega),if_pos (by omega)]
   ·rw [if_neg c1,if_neg c1,if_pos h2,if_pos (by omega),if_pos (by omega),if_pos (by rw [ByteArray.size_append];omega)]
    rfl
 rw [e]
 split
 ·exact ⟨_,rfl,by rw [ByteArray.size_append,ByteArray.size_append];omega⟩
 ·split
  ·exact ⟨_,rfl,by rw [ByteArray.size_append];omega⟩
  ·exact ⟨_,rfl,by rw [ByteArray.size_append,ByteArray.size_append];omega⟩
theorem next_any (s : List Int) (n m a : Int) (ha : 1 ≤ a) : Zb.f s n m a = Zb.f s n ((m % 18446744073709551616).toNat : Int) a := by
 have e : IntKind.u64.wrap (m * 6364136223846793005) = IntKind.u64.wrap (((m % 18446744073709551616).toNat : Int) * 6364136223846793005) := by
  rw [IntKind.wrap_u64,IntKind.wrap_u64]
  omega
 unfold Zb.f
 rw [e]
 simp only [if_neg (show ¬ a < 1 by omega)]
theorem next_val {s : List Int} {n : Int} (hn : (s.length : Int) ≤ n) (h : Nat) {a : Int} (ha : 1 ≤ a) : ∃ r, Zb.f s n (h : Int) a = some (r, n, ((lcgS h : Nat) : Int)) ∧ 0 ≤ r ∧ r < a :=
 ⟨_,next_tail hn h ha,Int.tmod_nonneg _ (by omega),Int.tmod_lt_of_pos _ (by omega)⟩
theorem it_one (f : Nat → Nat) (x : Nat) : it f 1 x = f x := rfl
theorem it_three (f : Nat → Nat) (x : Nat) : it f 3 x = f (f (f x)) := rfl
theorem it_two (f : Nat → Nat) (x : Nat) : it f 1 (f x) = it f 2 x := rfl
theorem it_four (f : Nat → Nat) (x : Nat) : it f 3 (f x) = it f 4 x := rfl
theorem dam_tail {s : List Int} {n : Int} (hn : (s.length : Int) ≤ n) (h : Nat) (t : ByteArray) (hs : t.size ≤ 4611686018427387904) :
 ∃ t',ZW.f s n (h : Int) t = some (t',n,((it lcgS (if t.size = 0 then 1 else 3) h : Nat) : Int)) ∧ t'.size ≤ t.size + 1 := by
 obtain ⟨r1,e1,p1,q1⟩ := next_val hn h (a := 10) (by omega)
 by_cases c : t.size = 0
 ·obtain ⟨t',e,l⟩ := dam_nil c e1 p1 q1
  exact ⟨t',by rw [if_pos c,it_one];exact e,by omega⟩
 ·obtain ⟨r2,e2,p2,q2⟩ := next_val hn (lcgS h) (a := (t.size : Int)) (by omega)
  obtain ⟨r3,e3,p3,q3⟩ := next_val hn (lcgS (lcgS h)) (a := 3) (by omega)
  obtain ⟨t',e,l⟩ := dam_some c hs e1 p1 q1 e2 p2 q2 e3
  exact ⟨t',by rw [if_neg c,it_three];exact e,l⟩
def dmS (s : List Int) (n : Int) (q : ByteArray × Nat) : ByteArray := match ZW.f s n ((lcgS q.2 : Nat) : Int) q.1 with | some r => r.1 | none => q.1
def posS (s : List Int) (n : Int) (t : ByteArray) (h : Nat) : Nat → (ByteArray × Nat) × Nat
 | 0 => ((t,h),0)
 | i + 1 => let q := posS s n t h i;((dmS s n q.1,it lcgS (if q.1.1.size = 0 then 2 else 4) q.1.2),q.2 + if q.1.1.size = 0 then 2 else 4)
theorem posS_at (s : List Int) (n : Int) (t : ByteArray) (h : Nat) : ∀ i, (posS s n t h i).1.2 = it lcgS (posS s n t h i).2 h
 | 0 => rfl
 | i + 1 => by
  show it lcgS _ (posS s n t h i).1.2 = it lcgS (_ + _) h
  rw [posS_at s n t h i,it_add]
def testS (s : List Int) (n : Int) (t : ByteArray) (h : Nat) (i : Nat) : Prop := lcgX (lcgS (posS s n t h i).1.2) % 3 = 0
theorem testS_at {s : List Int} {n : Int} {t : ByteArray} {h i : Nat} (ht : testS s n t h i) : lcgX (it lcgS ((posS s n t h i).2 + 1) h) % 3 = 0 := by
 unfold testS at ht
 rw [posS_at] at ht
 rw [it_add,it_one]
 exact ht
theorem tests_stop (s : List Int) (n : Int) (t : ByteArray) (h : Nat) : ∃ i, ¬ testS s n t h i := by
 refine Classical.byContradiction fun hc => ?_
 have hall : ∀ i,testS s n t h i := fun i => Classical.byContradiction fun x => hc ⟨i,x⟩
 obtain ⟨J,hJ⟩ : ∃ J : Nat,J = 72057594037927936 := ⟨_,rfl⟩
 have hp : ∀ i,(posS s n t h (i + 1)).2 = (posS s n t h i).2 + 2 ∨ (posS s n t h (i + 1)).2 = (posS s n t h i).2 + 4 := fun i => by
  show (posS s n t h i).2 + (if _ then 2 else 4) = _ ∨ (posS s n t h i).2 + (if _ then 2 else 4) = _
  split
  ·exact .inl rfl
  ·exact .inr rfl
 have hm : ∀ i,2 * i ≤ (posS s n t h i).2 := fun i => by
  induction i with
  | zero => exact Nat.zero_le _
  | succ i ih => rcases hp i with e | e <;> omega
 have h1 := tests_end J h hJ (fun i => (posS s n t h i).2) (J + 8) rfl (fun i _ => hp i) (fun i _ => testS_at (hall i))
 have h2 := hm (J + 8)
 omega
theorem size_rounds {s : List Int} {n : Int} (hn : (s.length : Int) ≤ n) (t : ByteArray) (h B a b : Nat) (ha : a = 262144) (hb : b = 2147483648) (hB : t.size ≤ B) (h1 : 1 ≤ B) (h2 : B ≤ 1000000) : ∀ i, (∀ j, j < i → testS s n t h j) →
 ∃ j c,j + c = i ∧ (posS s n t h i).1.1.size ≤ B + c ∧ c ≤ 3 * a + b ∧ ∀ x,x ≤ c → (posS s n t h (j + x)).2 = (posS s n t h j).2 + 4 * x
 | 0,_ => ⟨0,0,rfl,hB,Nat.zero_le _,fun x hx => by rw [Nat.le_zero.1 hx];rfl⟩
 | i + 1,ht => by
  obtain ⟨j,c,e,l,lc,hx⟩ := size_rounds hn t h B a b ha hb hB h1 h2 i (fun j hj => ht j (by omega))
  have hsz : (posS s n t h i).1.1.size ≤ 4611686018427387904 := by omega
  obtain ⟨t',e1,l1⟩ := dam_tail hn (lcgS (posS s n t h i).1.2) (posS s n t h i).1.1 hsz
  have ed : dmS s n (posS s n t h i).1 = t' := by unfold dmS;rw [e1]
  have es : (posS s n t h (i + 1)).1.1.size ≤ (posS s n t h i).1.1.size + 1 := by
   show (dmS s n (posS s n t h i).1).size ≤ _
   rw [ed];exact l1
  by_cases z : (posS s n t h i).1.1.size = 0
  ·exact ⟨i + 1,0,rfl,Nat.le_trans es (by omega),Nat.zero_le _,fun x hx => by rw [Nat.le_zero.1 hx];rfl⟩
  ·have ep : (posS s n t h (i + 1)).2 = (posS s n t h i).2 + 4 := by
    show _ + (if _ then 2 else 4) = _
    rw [if_neg z]
   have hx2 : ∀ x,x ≤ c + 1 → (posS s n t h (j + x)).2 = (posS s n t h j).2 + 4 * x := fun x h3 => by
    by_cases q : x ≤ c
    ·exact hx x q
    ·obtain rfl : x = c + 1 := by omega
     rw [show j + (c + 1) = i + 1 by omega,ep,← e,hx c (Nat.le_refl _)]
     omega
   have hf := fours_end (it lcgS ((posS s n t h j).2 + 1) h) (c + 1) a b ha hb (fun x h3 => by
    have := testS_at (ht (j + x) (by omega))
    rw [hx2 x (by omega),show (posS s n t h j).2 + 4 * x + 1 = (posS s n t h j).2 + 1 + 4 * x by omega,it_add] at this
    exact this)
   exact ⟨j,c + 1,by omega,Nat.le_trans es (by omega),hf,hx2⟩
theorem three_mod (x : Nat) : Int.tmod ((x : Nat) : Int) 3 = 0 ↔ x % 3 = 0 := by
 rw [Int.tmod_eq_emod_of_nonneg (by omega)]
 omega
theorem tail_ends {s : List Int} {n : Int} (hn : (s.length : Int) ≤ n) (t : ByteArray) (h B : Nat) (hB : t.size ≤ B) (h1 : 1 ≤ B) (h2 : B ≤ 1000000) : ∃ r, Ev (fun k => Zf.l0 k t s n (h : Int)) r ∧ r.size ≤ 4294967280 := by
 obtain ⟨a,ha⟩ : ∃ a : Nat,a = 262144 := ⟨_,rfl⟩
 obtain ⟨b,hb⟩ : ∃ b : Nat,b = 2147483648 := ⟨_,rfl⟩
 obtain ⟨N0,h0⟩ := tests_stop s n t h
 obtain ⟨N,-,hN,hmin⟩ := least (fun i => ¬ testS s n t h i) N0 h0
 have hT : ∀ j,j < N → testS s n t h j := fun j hj => Classical.byContradiction fun x => hmin j hj x
 have hS : ∀ i,i ≤ N → (posS s n t h i).1.1.size ≤ 4294967280 := fun i hi => by
  obtain ⟨j,c,_,l,lc,_⟩ := size_rounds hn t h B a b ha hb hB h1 h2 i (fun j hj => hT j (by omega))
  omega
 have go : ∀ d i,i + d = N → Ev (fun k => Zf.l0 k (posS s n t h i).1.1 s n ((posS s n t h i).1.2 : Int)) (posS s n t h N).1.1 := fun d => by
  induction d with
  | zero =>
   intro i hi
   obtain rfl : i = N := by omega
   refine Ev.step (f := fun _ => some (posS s n t h i).1.1) (fun k => ?_) (Ev.now _)
   rw [Zf.l0,next_tail hn _ (by omega),Option.bind_some,if_neg (fun e => hN ((three_mod _).1 e))]
  | succ d ih =>
   intro i hi
   obtain ⟨t',e1,l1⟩ := dam_tail hn (lcgS (posS s n t h i).1.2) (posS s n t h i).1.1 (by have := hS i (by omega);omega)
   have ed : dmS s n (posS s n t h i).1 = t' := by unfold dmS;rw [e1]
   have eh : it lcgS (if (posS s n t h i).1.1.size = 0 then 1 else 3) (lcgS (posS s n t h i).1.2) = (posS s n t h (i + 1)).1.2 := by
    show _ = it lcgS (if _ then 2 else 4) (posS s n t h i).1.2
    by_cases z : (posS s n t h i).1.1.size = 0
    ·rw [if_pos z,if_pos z];exact it_two lcgS _
    ·rw [if_neg z,if_neg z];exact it_four lcgS _
   refine Ev.step (fun k => ?_) (ih (i + 1) (by omega))
   rw [Zf.l0,next_tail hn _ (by omega),Option.bind_some,if_pos ((three_mod _).2 (hT i (by omega))),e1,Option.bind_some,eh,← ed]
   rfl
 exact ⟨_,go N 0 (by omega),hS N (Nat.le_refl _)⟩
theorem next_up {s : List Int} {n m a : Int} (hb : Bytes s) (hl : s.length ≤ 4096) (hi : At s n) (ha : 1 ≤ a) (hn : n < (s.length : Int)) :
 ∃ r n' m',Zb.f s n m a = some (r,n',m') ∧ At s n' ∧ 0 ≤ r ∧ r < a ∧ n + 1 ≤ n' := by
 obtain ⟨r,n',m',e,h1,h2,h3⟩ := next_ok (m := m) (a := a) hb hl hi
 refine ⟨r,n',m',e,h1,h2,by omega,?_⟩
 unfold Zb.f at e
 rw [if_neg (by omega),if_pos hn,if_pos hi.1,if_neg (by omega)] at e
 have e2 := congrArg (fun x => x.2.1) (Option.some.inj e)
 have := hi.1
 have e3 : wrap64 (n + 1) = n + 1 := wrapS (by omega) (by omega)
 simp only at e2
 omega
theorem next_ge {s : List Int} {n m a : Int} (hb : Bytes s) (hl : s.length ≤ 4096) (hi : At s n) (ha : 1 ≤ a) :
 ∃ r n' m',Zb.f s n m a = some (r,n',m') ∧ At s n' ∧ 0 ≤ r ∧ r < a ∧ n ≤ n' := by
 by_cases hn : n < (s.length : Int)
 ·obtain ⟨r,n',m',e,h1,h2,h3,h4⟩ := next_up (m := m) hb hl hi ha hn
  exact ⟨r,n',m',e,h1,h2,h3,by omega⟩
 ·obtain ⟨r,e,h2,h3⟩ := next_val (s := s) (n := n) (by omega) ((m % 18446744073709551616).toNat) ha
  exact ⟨r,n,_,by rw [next_any s n m a ha];exact e,hi,h2,h3,Int.le_refl _⟩
theorem dam_any {s : List Int} {n m : Int} (hb : Bytes s) (hl : s.length ≤ 4096) (hi : At s n) (t : ByteArray) (hs : t.size ≤ 4611686018427387904) :
 ∃ t' n' m',ZW.f s n m t = some (t',n',m') ∧ At s n' ∧ t'.size ≤ t.size + 1 ∧ n ≤ n' := by
 obtain ⟨r1,n1,m1,e1,i1,p1,q1,g1⟩ := next_ge (m := m) (a := 10) hb hl hi (by omega)
 by_cases c : t.size = 0
 ·obtain ⟨t',e,l⟩ := dam_nil c e1 p1 q1
  exact ⟨t',_,_,e,i1,by omega,g1⟩
 ·obtain ⟨r2,n2,m2,e2,i2,p2,q2,g2⟩ := next_ge (m := m1) (a := (t.size : Int)) hb hl i1 (by omega)
  obtain ⟨r3,n3,m3,e3,i3,p3,q3,g3⟩ := next_ge (m := m2) (a := 3) hb hl i2 (by omega)
  obtain ⟨t',e,l⟩ := dam_some c hs e1 p1 q1 e2 p2 q2 e3
  exact ⟨t',_,_,e,i3,l,by omega⟩
theorem loop_to {s : List Int} (hb : Bytes s) (hl : s.length ≤ 4096) : ∀ (d : Nat) (n m : Int) (t : ByteArray), At s n → (s.length : Int) ≤ n + d → t.size + d ≤ 1000000 → ∃ r, Ev (fun k => Zf.l0 k t s n m) r ∧ r.size ≤ 4294967280
 | 0,n,m,t,hi,hd,hs => by
  obtain ⟨r,h,hr⟩ := tail_ends (s := s) (n := n) (by omega) t ((m % 18446744073709551616).toNat) 1000000 (by omega) (by omega) (Nat.le_refl _)
  refine ⟨r,?_,hr⟩
  have e : ∀ k,Zf.l0 k t s n m = Zf.l0 k t s n ((m % 18446744073709551616).toNat : Int) := fun k => by
   cases k with
   | zero => rfl
   | succ k => rw [Zf.l0,Zf.l0,next_any s n m 3 (by omega)]
  exact Ev.congr e h
 | d + 1,n,m,t,hi,hd,hs => by
  by_cases hn : ¬ n < (s.length : Int)
  ·exact loop_to hb hl d n m t hi (by omega) (by omega)
  have hn : n < (s.length : Int) := by omega
  obtain ⟨v,n1,m1,e1,hi1,v0,v1,g1⟩ := next_up (m := m) (a := 3) hb hl hi (by omega) hn
  by_cases c : v = 0
  ·obtain ⟨t',n2,m2,e2,hi2,l2,g2⟩ := dam_any (m := m1) hb hl hi1 t (by omega)
   obtain ⟨r,h,hr⟩ := loop_to hb hl d n2 m2 t' hi2 (by omega) (by omega)
   refine ⟨r,Ev.step (fun k => ?_) h,hr⟩
   rw [Zf.l0,e1,Option.bind_some,if_pos c,e2,Option.bind_some]
  ·refine ⟨t,Ev.step (f := fun _ => some t) (fun k => ?_) (Ev.now _),by omega⟩
   rw [Zf.l0,e1,Option.bind_some,if_neg c]
theorem textG_len (g : List (List Int)) (hok : okG g) (hg : g.length ≤ 100) : (gameTextU g).length ≤ 100000 := by
 have h := flatU_len 44 400 (g.map (textU 46)) 0 (fun w hw => by
  obtain ⟨row,hr,rfl⟩ := List.mem_map.1 hw
  have := textU_len 46 (hok row hr).1
  have := (hok row hr).2
  omega)
 rw [List.length_map] at h
 have := Nat.mul_le_mul_right 401 hg
 unfold gameTextU
 omega
theorem line_draw (l : List Int) (hb : Bytes l) (hl : l.length ≤ 4096) : ∃ t, Ev (fun k => Zf.f k l) t ∧ t.size ≤ 4294967280 := by
 obtain ⟨m1,e1⟩ := from_ok l hl
 obtain ⟨g,n2,m2,e2,g0,g1,-,hi2,gE⟩ := draw_ok (m := m1) hb hl (⟨Int.le_refl 0,by omega⟩ : At l 0)
 have hok : okG g := fun row hr => ⟨(gE row hr).2,(gE row hr).1⟩
 have h := t01_l0 g hok g1 g.length 0 [] (by omega) (by simp;omega)
 rw [List.drop_zero,List.nil_append] at h
 have hz := textG_len g hok g1
 obtain ⟨r,e3,hr⟩ := loop_to hb hl l.length n2 m2 (bs (gameTextU g)) hi2 (by have := hi2.1;omega) (by rw [bs_size];omega)
 refine ⟨r,?_,hr⟩
 unfold Zf.f
 exact Ev.bind e1 (Ev.bind e2 (Ev.bind (show Ev (fun k => Zk.f k g) (bs (gameTextU g)) from h) e3))
end Go.Proofs.YtnlbbpgmmeapfaaGreatDoor.PX
