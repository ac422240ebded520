/- The row of FnAnswers: the law FnAnswers holds for all arguments (condition: none beyond the row's own). -/
import Derived.Laws.Bits64b
import Derived.Test.YtkbjoiebaphdoaaRows
import Derived.WalkKit
import Derived.ProofKit
import Derived.OpenShut
import Derived.ShutString
import Derived.ChangeOld
import Derived.Below
import Derived.SizedLaws
import Derived.Test.YtkbjoiebaphdoaaPk7FnAnswers
namespace Go.Proofs.Ytkbjoiebaphdoaa.PA
open Go.RowKit Go.Proofs.YtkbjoiebaphdoaaW.PrintWords Go.Proofs.YtkbjoiebaphdoaaW.PrintLast Go.Proofs.YtkbjoiebaphdoaaW.PrintMore
attribute [local go_sem] max2_int min2_int max_two min_two max_three min_three max_four min_four
set_option linter.unusedVariables false
set_option linter.unusedSimpArgs false
def Bytes (s : List Int) : Prop := ∀ x ∈ s, 0 ≤ x ∧ x ≤ 255
def At (s : List Int) (n : Int) : Prop := 0 ≤ n ∧ n ≤ (s.length : Int)
theorem and24 (x : Int) (h0 : 0 ≤ x) (h1 : x < 18446744073709551616) : 0 ≤ Go.bits .and .u64 x 16777215 ∧ Go.bits .and .u64 x 16777215 ≤ 16777215 := by
  obtain ⟨n,rfl⟩ := Int.eq_ofNat_of_zero_le h0;rw [show (16777215 : Int) = ((16777215 : Nat) : Int) from rfl,bits_and_u64_nat n 16777215 (by omega) (by decide)];have := Nat.and_le_right (n := n) (m := 16777215);omega
theorem rd_mem {l : List Int} {r : Int} (h0 : 0 ≤ r) (h1 : r < (l.length : Int)) : rd l r ∈ l := by
  obtain ⟨n,rfl⟩ := Int.eq_ofNat_of_zero_le h0;obtain ⟨x,hx⟩ := get_some (xs := l) (i := n) (by omega);rw [rd_nat,getD_of hx];exact List.mem_of_getElem? hx
theorem next_ok {s : List Int} {n m a : Int} (hb : Bytes s) (hl : s.length ≤ 4096) (hi : At s n) :
    ∃ r n' m',spec_l01Next.f s n m a = some (r,n',m') ∧ At s n' ∧ 0 ≤ r ∧ (r < a ∨ r = 0) := by
  unfold spec_l01Next.f
  by_cases c : a < 1
  · rw [if_pos c]
    exact ⟨_,_,_,rfl,hi,Int.le_refl 0,Or.inr rfl⟩
  rw [if_neg c]
  generalize hm2 : IntKind.u64.wrap ((IntKind.u64.wrap (m * 6364136223846793005)) + 1442695040888963407) = m2
  have hm3 : 0 ≤ m2 ∧ m2 < 18446744073709551616 := by
    rw [← hm2,IntKind.wrap_u64];omega
  have h24 := and24 (m2 / 8589934592) (by omega) (by omega)
  generalize Go.bits .and .u64 (m2 / 8589934592) 16777215 = z at h24 ⊢
  by_cases d : n < (s.length : Int)
  · have hx := hb _ (rd_mem hi.1 d)
    have hi1 := hi.1;rw [if_pos d,if_pos hi.1,if_neg (by omega),wrapS (i := z) (by omega) (by omega),wrapS (i := rd s n) (by omega) (by omega),wrapS (i := z + rd s n) (by omega) (by omega),wrapS (i := n + 1) (by omega) (by omega)];exact ⟨_,_,_,rfl,⟨by omega,by omega⟩,Int.tmod_nonneg _ (by omega),Or.inl (Int.tmod_lt_of_pos _ (by omega))⟩
  · rw [if_neg d,if_neg (by omega),wrapS (i := z) (by omega) (by omega)]
    exact ⟨_,_,_,rfl,hi,Int.tmod_nonneg _ (by omega),Or.inl (Int.tmod_lt_of_pos _ (by omega))⟩
theorem pick_ok {s l : List Int} {n m : Int} (hb : Bytes s) (hl : s.length ≤ 4096) (hi : At s n) (h0 : 0 < l.length) :
    ∃ x n' m',spec_l01Pick.f s n m l = some (x,n',m') ∧ At s n' ∧ x ∈ l := by
  unfold spec_l01Pick.f;obtain ⟨r,n',m',e,hi',h1,h2⟩ := next_ok (m := m) (a := (l.length : Int)) hb hl hi;have h3 : r < (l.length : Int) := by omega
  rw [e,Option.bind_some,if_pos h1,if_pos h3];exact ⟨_,_,_,rfl,hi',rd_mem h1 h3⟩
theorem near_ok {s : List Int} {n m a : Int} (hb : Bytes s) (hl : s.length ≤ 4096) (hi : At s n) :
    ∃ x n' m',spec_l01Near.f s n m a = some (x,n',m') ∧ At s n' := by
  unfold spec_l01Near.f;obtain ⟨r,n1,m1,e,hi1,-⟩ := next_ok (m := m) (a := 14) hb hl hi;rw [e,Option.bind_some]
  by_cases c : r = 0
  · obtain ⟨x,n2,m2,e2,hi2,-⟩ := pick_ok (m := m1) (l := ([(-1),wrap64 (a + 1),1099511627776,(-4611686018427387904)] : List Int)) hb hl hi1 (by simp)
    rw [if_pos c,e2,Option.bind_some];exact ⟨_,_,_,rfl,hi2⟩
  · obtain ⟨x,n2,m2,e2,hi2,-⟩ := next_ok (m := m1) (a := wrap64 (a + 1)) hb hl hi1
    rw [if_neg c,e2,Option.bind_some];exact ⟨_,_,_,rfl,hi2⟩
theorem from_loop (l : List Int) (hl : l.length ≤ 4096) : ∀ (d i : Nat) (m : Int), i + d = l.length → ∃ m', Ev (fun k => spec_l01From.l0 k l (i : Int) l 0 m) (l, 0, m')
  | 0,i,m,h => ⟨m,Ev.step (f := fun _ => some (l,0,m)) (fun k => by
      simp only [spec_l01From.l0];rw [if_neg (by omega)]) (Ev.now _)⟩
  | d + 1,i,m,h => by
    obtain ⟨m',ih⟩ := from_loop l hl d (i + 1) (IntKind.u64.wrap ((IntKind.u64.wrap ((IntKind.u64.wrap (m * 1099511628211)) + (IntKind.u64.wrap (rd l (i : Int))))) + 229)) (by omega);refine ⟨m',Ev.step (fun k => ?_) ih⟩;simp only [spec_l01From.l0];rw [if_pos (by omega),if_pos (by omega),if_pos (by omega),wrapS (i := (i : Int) + 1) (by omega) (by omega),cast_succ]
theorem from_ok (l : List Int) (hl : l.length ≤ 4096) : ∃ m', Ev (fun k => spec_l01From.f k l) (l, 0, m') := from_loop l hl l.length 0 _ (by omega)
theorem drawlist_ok {s : List Int} (hb : Bytes s) (hl : s.length ≤ 4096) (x2 x3 : Int) : ∀ (c : Nat) (xs : List Int) (n m : Int), At s n → xs.length + c ≤ 1000 →
    ∃ ys n' m',Ev (fun k => spec_l04DrawList.l0 k (c : Int) x2 x3 xs s n m) (ys,n',m') ∧ At s n' ∧ ys.length ≤ 1000
  | 0,xs,n,m,hi,hx => ⟨xs,n,m,Ev.step (f := fun _ => some (xs,n,m)) (fun k => by
      simp only [spec_l04DrawList.l0];rw [if_neg (by omega)]) (Ev.now _),hi,by omega⟩
  | c + 1,xs,n,m,hi,hx => by
    have ih := drawlist_ok hb hl x2 x3 c;obtain ⟨r,n1,m1,e,hi1,-⟩ := next_ok (m := m) (a := x3) hb hl hi;have ec : wrap64 (((c + 1 : Nat) : Int) - 1) = (c : Int) := by rw [wrapS (by omega) (by omega)];omega
    have inner : ∀ (j : Nat) (zs : List Int) (v : Int),zs.length = xs.length + 1 → j < zs.length →
        ∃ ys n' m',Ev (fun k => spec_l04DrawList.l1 k ((c + 1 : Nat) : Int) x2 x3 zs v (j : Int) s n1 m1) (ys,n',m') ∧ At s n' ∧ ys.length ≤ 1000 := by
      intro j
      induction j with
      | zero =>
        intro zs v hz hj;obtain ⟨ys,n',m',h,h2⟩ := ih (zs.set 0 v) n1 m1 hi1 (by rw [List.length_set];omega);refine ⟨ys,n',m',Ev.step (fun k => ?_) h,h2⟩;simp only [spec_l04DrawList.l1];rw [if_neg (by omega),if_pos (by omega),if_pos (by omega),ec,Int.toNat_natCast]
      | succ j ihj =>
        intro zs v hz hj;have ej : wrap64 (((j + 1 : Nat) : Int) - 1) = (j : Int) := by rw [wrapS (by omega) (by omega)];omega
        by_cases cv : rd zs (j : Int) > v
        · obtain ⟨ys,n',m',h,h2⟩ := ihj (zs.set (j + 1) (rd zs (j : Int))) v (by rw [List.length_set];omega) (by rw [List.length_set];omega)
          refine ⟨ys,n',m',Ev.step (fun k => ?_) h,h2⟩;simp only [spec_l04DrawList.l1];rw [if_pos (by omega),ej,if_pos (by omega),if_pos (by omega),if_pos cv,if_pos (by omega),if_pos (by omega),Int.toNat_natCast]
        · obtain ⟨ys,n',m',h,h2⟩ := ih (zs.set (j + 1) v) n1 m1 hi1 (by rw [List.length_set];omega)
          refine ⟨ys,n',m',Ev.step (fun k => ?_) h,h2⟩;simp only [spec_l04DrawList.l1];rw [if_pos (by omega),ej,if_pos (by omega),if_pos (by omega),if_neg cv,if_pos (by omega),if_pos (by omega),ec,Int.toNat_natCast]
    obtain ⟨ys,n',m',h,h2⟩ := inner xs.length (xs ++ [wrap64 (x2 + r)]) (wrap64 (x2 + r)) (by simp) (by simp);refine ⟨ys,n',m',Ev.step (fun k => ?_) h,h2⟩;simp only [spec_l04DrawList.l0];rw [if_pos (by omega),e,Option.bind_some,if_pos (by omega)]
theorem list_ok {s : List Int} {n m a2 a3 c : Int} (hb : Bytes s) (hl : s.length ≤ 4096) (hi : At s n) (h0 : 0 ≤ c) (h1 : c ≤ 1000) :
    ∃ ys n' m',Ev (fun k => spec_l04DrawList.f k s n m c a2 a3) (ys,n',m') ∧ At s n' ∧ ys.length ≤ 1000 := by
  obtain ⟨q,rfl⟩ := Int.eq_ofNat_of_zero_le h0;exact drawlist_ok hb hl a2 a3 q [] n m hi (by simp;omega)
theorem drawof_ok {s : List Int} {n m : Int} (hb : Bytes s) (hl : s.length ≤ 4096) (hi : At s n) :
    ∃ a b n' m',Ev (fun k => spec_l04DrawOf.f k s n m) (a,b,n',m') ∧ At s n' ∧ a.length ≤ 1000 ∧ b.length ≤ 1000 := by
  unfold spec_l04DrawOf.f;obtain ⟨r1,n1,m1,e1,h1,p1⟩ := next_ok (m := m) (a := 5) hb hl hi;obtain ⟨r2,n2,m2,e2,h2,p2⟩ := pick_ok (m := m1) (l := ([0,0,1,2,2] : List Int)) hb hl h1 (by simp);obtain ⟨r3,n3,m3,e3,h3,p3⟩ := pick_ok (m := m2) (l := ([3,5,9] : List Int)) hb hl h2 (by simp);obtain ⟨a,n4,m4,e4,h4,p4⟩ := list_ok (m := m3) (a2 := 1) (a3 := r3) (c := r1) hb hl h3 (by omega) (by omega);obtain ⟨r5,n5,m5,e5,h5,p5⟩ := pick_ok (m := m4) (l := ([3,7] : List Int)) hb hl h4 (by simp);have q2 : 0 ≤ r2 ∧ r2 ≤ 2 := by simp at p2;omega
  obtain ⟨b,n6,m6,e6,h6,p6⟩ := list_ok (m := m5) (a2 := 4) (a3 := r5) (c := r2) hb hl h5 q2.1 (by omega);refine ⟨a,b,n6,m6,?_,h6,p4,p6⟩;refine Ev.congr (fun k => by rw [e1,Option.bind_some,e2,Option.bind_some,e3,Option.bind_some]) (Ev.bind e4 ?_);exact Ev.congr (fun k => by rw [e5,Option.bind_some]) (Ev.bind e6 (Ev.now _))
theorem bad_ok {s a b : List Int} {n m : Int} (hb : Bytes s) (hl : s.length ≤ 4096) (hi : At s n) (ha : a.length ≤ 1000) (hb2 : b.length ≤ 1000) :
    ∃ x y n' m',spec_l04Bad.f s n m a b = some (x,y,n',m') ∧ x.length ≤ 2000 ∧ y.length ≤ 2000 := by
  unfold spec_l04Bad.f;obtain ⟨r,n1,m1,e1,h1,-⟩ := next_ok (m := m) (a := 40) hb hl hi;rw [e1,Option.bind_some]
  by_cases c0 : r = 0
  · rw [if_pos c0,own_val a (by omega),Option.bind_some,if_pos (by omega)]
    exact ⟨_,_,_,_,rfl,by simp;omega,by omega⟩
  rw [if_neg c0]
  by_cases c1 : r = 1
  · obtain ⟨r2,n2,m2,e2,h2,-⟩ := pick_ok (m := m1) (l := ([3,31,30] : List Int)) hb hl h1 (by simp)
    rw [if_pos c1,e2,Option.bind_some,Option.bind_some,if_pos (by simp;omega)];exact ⟨_,_,_,_,rfl,by omega,by simp;omega⟩
  rw [if_neg c1]
  by_cases c2 : r = 2
  · rw [if_pos c2]
    exact ⟨_,_,_,_,rfl,by simp,by omega⟩
  · rw [if_neg c2]
    exact ⟨_,_,_,_,rfl,by omega,by omega⟩
theorem pickw_ok {s l : List Int} {n m x : Int} (hb : Bytes s) (hl : s.length ≤ 4096) (hi : At s n) :
    ∃ x' n' m',spec_l04With.pick s n m x l = some (x',n',m') ∧ At s n' := by
  unfold spec_l04With.pick
  by_cases c0 : l.length = 0
  · rw [if_pos c0]
    exact ⟨_,_,_,rfl,hi⟩
  obtain ⟨r,n1,m1,e1,h1,-⟩ := next_ok (m := m) (a := 8) hb hl hi;rw [if_neg c0,e1,Option.bind_some]
  by_cases c1 : r > 0
  · obtain ⟨q,n2,m2,e2,h2,p1,p2⟩ := next_ok (m := m1) (a := (l.length : Int)) hb hl h1
    rw [if_pos c1,e2,Option.bind_some,if_pos p1,if_pos (show q < (l.length : Int) by omega)];exact ⟨_,_,_,rfl,h2⟩
  · rw [if_neg c1]
    exact ⟨_,_,_,rfl,h1⟩
theorem with_ok (l : List Int) (hb : Bytes l) (hl : l.length ≤ 4096) : ∃ a b o x, Ev (fun k => spec_DrawBestAnswer.f k l) (a, b, o, x) ∧ a.length ≤ 2000 ∧ b.length ≤ 2000 := by
  obtain ⟨m0,e0⟩ := from_ok l hl;obtain ⟨a,b,n1,m1,e1,h1,pa,pb⟩ := drawof_ok (m := m0) hb hl (n := 0) ⟨by omega,by omega⟩;obtain ⟨r2,n2,m2,e2,h2,-⟩ := next_ok (m := m1) (a := 3) hb hl h1;obtain ⟨r3,n3,m3,e3,h3,-⟩ := pick_ok (m := m2) (l := ([0,1,3,4,(-1)] : List Int)) hb hl h2 (by simp);obtain ⟨x,n4,m4,e4,h4⟩ := pickw_ok (m := m3) (x := r3) (l := if r2 = 0 then b else a) hb hl h3;obtain ⟨c,d,n5,m5,e5,pc,pd⟩ := bad_ok (m := m4) (a := a) (b := b) hb hl h4 pa pb;refine ⟨c,d,(r2 == 0),x,?_,pc,pd⟩;have hw : Ev (fun k => spec_l04With.f k l) (c,d,(r2 == 0),x) := by
    unfold spec_l04With.f;refine Ev.bind e0 (Ev.bind e1 ?_);exact Ev.congr (f := fun _ => some (c,d,(r2 == 0),x)) (fun k => by rw [e2,Option.bind_some,e3,Option.bind_some,e4,Option.bind_some,e5,Option.bind_some]) (Ev.now _)
  unfold spec_DrawBestAnswer.f;exact Ev.bind hw (Ev.now _)
theorem drawturns_ok (l : List Int) (hb : Bytes l) (hl : l.length ≤ 4096) : ∃ a b c, Ev (fun k => spec_DrawTurnsOf.f k l) (a, b, c) := by
  obtain ⟨m0,e0⟩ := from_ok l hl;obtain ⟨r1,n1,m1,e1,h1,-⟩ := pick_ok (m := m0) (l := ([5,1000] : List Int)) hb hl (n := 0) ⟨by omega,by omega⟩ (by simp);obtain ⟨r2,n2,m2,e2,h2⟩ := near_ok (m := m1) (a := r1) hb hl h1;obtain ⟨r3,n3,m3,e3,h3,-⟩ := pick_ok (m := m2) (l := ([5,1000] : List Int)) hb hl h2 (by simp);obtain ⟨r4,n4,m4,e4,h4⟩ := near_ok (m := m3) (a := r3) hb hl h3;obtain ⟨r5,n5,m5,e5,h5⟩ := near_ok (m := m4) (a := 12) hb hl h4;obtain ⟨r6,n6,m6,e6,h6,-⟩ := pick_ok (m := m5) (l := ([0,1,2,r5] : List Int)) hb hl h5 (by simp);refine ⟨r2,r4,r6,?_⟩;unfold spec_DrawTurnsOf.f;refine Ev.bind e0 ?_;exact Ev.congr (f := fun _ => some (r2,r4,r6)) (fun k => by rw [e1,Option.bind_some,e2,Option.bind_some,e3,Option.bind_some,e4,Option.bind_some,e5,Option.bind_some,e6,Option.bind_some]) (Ev.now _)
theorem drawparts_ok (l : List Int) (hb : Bytes l) (hl : l.length ≤ 4096) : ∃ a b, Ev (fun k => spec_DrawBestParts.f k l) (a, b) := by
  obtain ⟨m0,e0⟩ := from_ok l hl;obtain ⟨r1,n1,m1,e1,h1,-⟩ := pick_ok (m := m0) (l := ([8,12,20] : List Int)) hb hl (n := 0) ⟨by omega,by omega⟩ (by simp);obtain ⟨r2,n2,m2,e2,h2⟩ := near_ok (m := m1) (a := r1) hb hl h1;obtain ⟨r3,n3,m3,e3,h3⟩ := near_ok (m := m2) (a := 6) hb hl h2;obtain ⟨r4,n4,m4,e4,h4,-⟩ := pick_ok (m := m3) (l := ([1,2,3,4,r3] : List Int)) hb hl h3 (by simp);refine ⟨r2,r4,?_⟩;unfold spec_DrawBestParts.f;refine Ev.bind e0 ?_;exact Ev.congr (f := fun _ => some (r2,r4)) (fun k => by rw [e1,Option.bind_some,e2,Option.bind_some,e3,Option.bind_some,e4,Option.bind_some]) (Ev.now _)
end Go.Proofs.Ytkbjoiebaphdoaa.PA
namespace Go.Proofs.Ytkbjoiebaphdoaa.Pure
open Go.RowKit Go.Proofs.Ytkbjoiebaphdoaa.PA Go.Proofs.YtkbjoiebaphdoaaW.PrintWords Go.Proofs.YtkbjoiebaphdoaaW.PrintLast
set_option linter.unusedVariables false
theorem j7_ok (a b : List Int) (o : Bool × Int) (hE : isEnd a b = true) (ho : o ∈ opens a b) : Ev (fun k => laws_FnAnswers.j7 k o.1 o.2 (worth a b o).2 (val a b) (val (lessC a o) (lessL b o)) false) true := by
  obtain ⟨hC,hL,h8⟩ := isEnd_ok hE;have hs := opens_size hC hL ho;have hr := rest_le hC hL h8 ho;have hv := worth_val ho;have hw := val_le hC hL (a.length + b.length) rfl;unfold worth at hv ⊢
  generalize val (lessC a o) (lessL b o) = r at hr hv ⊢
  generalize val a b = v at hv hw ⊢
  clear ho;obtain ⟨l,x⟩ := o;have hx1 : 1 ≤ x := hs.1;have hx2 : x ≤ 30 := hs.2;refine Ev.step (f := fun _ => some true) (fun k => ?_) (Ev.now _);simp only [laws_FnAnswers.j7];rw [if_neg (by decide)];have w1 : wrap64 (x - 8) = x - 8 := wrapS (by omega) (by omega);have w2 : wrap64 (x - 4) = x - 4 := wrapS (by omega) (by omega);have w3 : wrap64 (x + r) = x + r := wrapS (by omega) (by omega);have w4 : wrap64 (x - 8 - r) = x - 8 - r := wrapS (by omega) (by omega);have w5 : wrap64 (x - 4 - r) = x - 4 - r := wrapS (by omega) (by omega);have w6 : wrap64 (-(x - 8 - r)) = -(x - 8 - r) := wrapS (by omega) (by omega);have w7 : wrap64 (-(x - 4 - r)) = -(x - 4 - r) := wrapS (by omega) (by omega);have w8 : wrap64 (-(x + r)) = -(x + r) := wrapS (by omega) (by omega);rw [w1,w2,w3,w4,w5,w6,w7,w8]
  cases l with
  | true =>
    rw [if_pos rfl]
    by_cases c : r - moreO (true,x) < -x - r
    · have ea : ansOf (true,x) r = (r - moreO (true,x),true) := ansOf_ok (by rfl) c
      have em : moreO (true,x) = x - 8 := rfl;rw [ea] at hv ⊢;rw [em] at hv c;rw [if_pos rfl,if_pos (by omega)];exact congrArg some (decide_eq_true (by show v ≥ _;have : r - (x - 8) ≤ v := hv;omega))
    · have ea : ansOf (true,x) r = (-x - r,false) := ansOf_no (Or.inr c)
      have em : moreO (true,x) = x - 8 := rfl;rw [ea] at hv ⊢;rw [em] at c;rw [if_neg Bool.false_ne_true,if_pos (by omega)];exact congrArg some (decide_eq_true (by show v ≥ _;have : -x - r ≤ v := hv;omega))
  | false =>
    rw [if_neg (by decide)];have em : moreO (false,x) = x - 4 := rfl
    by_cases c3 : 3 ≤ x
    · by_cases c : r - moreO (false,x) < -x - r
      · have ea : ansOf (false,x) r = (r - moreO (false,x),true) := ansOf_ok (by unfold okO;simpa using c3) c
        rw [ea] at hv ⊢;rw [em] at hv c;rw [if_pos rfl,if_pos (by omega),if_pos (by omega)];exact congrArg some (decide_eq_true (by show v ≥ _;have : r - (x - 4) ≤ v := hv;omega))
      · have ea : ansOf (false,x) r = (-x - r,false) := ansOf_no (Or.inr c)
        rw [ea] at hv ⊢;rw [em] at c;rw [if_neg Bool.false_ne_true,if_neg (by omega),if_pos (by omega)];exact congrArg some (decide_eq_true (by show v ≥ _;have : -x - r ≤ v := hv;omega))
    · have ea : ansOf (false,x) r = (-x - r,false) := ansOf_no (Or.inl (by unfold okO;simpa using c3))
      rw [ea] at hv ⊢;rw [if_neg Bool.false_ne_true,if_pos (by omega)];exact congrArg some (decide_eq_true (by show v ≥ _;have : -x - r ≤ v := hv;omega))
theorem j6_ok (a b : List Int) (o : Bool × Int) (ha : a.length ≤ 2000) (hb : b.length ≤ 2000) :
    Ev (fun k => laws_FnAnswers.j6 k o.1 o.2 (ansVal a b o).1 (ansVal a b o).2 (afterOf a b o).2.2 false a b (afterOf a b o).1 (afterOf a b o).2.1) true := by
  cases hE : isEnd a b with
  | false =>
    have e1 : ansVal a b o = (false,1) := by unfold ansVal;rw [hE];rfl
    have e2 : afterOf a b o = ([],[],1) := by unfold afterOf;rw [hE];rfl
    rw [e1,e2];refine Ev.step (f := fun _ => some true) (fun k => ?_) (Ev.now _);simp only [laws_FnAnswers.j6];rw [if_neg (by decide),if_neg (by decide),if_neg (by decide)];rfl
  | true =>
    cases hI : isIn a b o with
    | false =>
      have e1 : ansVal a b o = (false,5) := by unfold ansVal;rw [if_pos hE,hI];rfl
      have e2 : afterOf a b o = ([],[],5) := by unfold afterOf;rw [if_pos hE,hI];rfl
      rw [e1,e2];refine Ev.step (f := fun _ => some true) (fun k => ?_) (Ev.now _);simp only [laws_FnAnswers.j6];rw [if_neg (by decide),if_neg (by decide),if_neg (by decide)];rfl
    | true =>
      have ho := isIn_opens.1 hI;have hl := less_len ho;have e1 : ansVal a b o = ((worth a b o).2,0) := by unfold ansVal;rw [if_pos hE,if_pos hI]
      have e2 : afterOf a b o = (lessC a o,lessL b o,0) := by unfold afterOf;rw [if_pos hE,if_pos hI]
      have v1 := implEnd_ev a b (by omega) (by omega);have v2 := implEnd_ev (lessC a o) (lessL b o) (by omega) (by omega);have b1 := implBoxes_ev a b (by omega) (by omega);have b2 := implBoxes_ev (lessC a o) (lessL b o) (by omega) (by omega);have f1 : endVal a b = (val a b,0) := by unfold endVal;rw [if_pos hE]
      have f2 : endVal (lessC a o) (lessL b o) = (val (lessC a o) (lessL b o),0) := by unfold endVal;rw [if_pos (isEnd_less hE ho)]
      have hbx := boxes_less hE ho;rw [f1] at v1;rw [f2] at v2;rw [hbx.1] at b1;rw [e1,e2];refine Ev.step (f := fun k => (impl_EndingValue.f k a b).bind fun bt632 => ((impl_EndingValue.f k (lessC a o) (lessL b o)).bind fun bt634 => ((impl_BoxesOf.f k a b).bind fun bt636 => ((impl_BoxesOf.f k (lessC a o) (lessL b o)).bind fun bt638 => (if bt632.2 = 0 then (if bt634.2 = 0 then (if bt636.2 = 0 then (if bt638.2 = 0 then (laws_FnAnswers.j7 k o.1 o.2 (worth a b o).2 bt632.1 bt634.1 (bt636.1 != (wrap64 (bt638.1 + o.2)))) else (laws_FnAnswers.j7 k o.1 o.2 (worth a b o).2 bt632.1 bt634.1 true)) else (laws_FnAnswers.j7 k o.1 o.2 (worth a b o).2 bt632.1 bt634.1 true)) else (laws_FnAnswers.j7 k o.1 o.2 (worth a b o).2 bt632.1 bt634.1 true)) else (laws_FnAnswers.j7 k o.1 o.2 (worth a b o).2 bt632.1 bt634.1 true)))))) (fun k => ?_) ?_
      · simp only [laws_FnAnswers.j6]
        rw [if_neg (by decide)];simp only [if_true]
      · refine Ev.bind v1 (Ev.bind v2 (Ev.bind b1 (Ev.bind b2 ?_)))
        refine Ev.congr (fun k => by rw [if_pos rfl,if_pos rfl,if_pos rfl,if_pos hbx.2,bne_self_eq_false]) (j7_ok a b o hE ho)
theorem FnAnswers : laws_FnAnswers.Pure := by
  intro l0 _ _ hwf;refine Ev.rounds (r := true) ?_;unfold laws_FnAnswers.f laws_big.f
  by_cases hbig : (l0.length : Int) > 4096
  · exact Ev.congr (f := fun _ => some true) (fun k => by rw [Option.bind_some,if_pos (decide_eq_true hbig)]) (Ev.now _)
  have hl : l0.length ≤ 4096 := by omega
  have hb : Bytes l0 := fun x hx => by
    have := hwf x hx;have e1 : IntKind.u8.min = 0 := by decide
    have e2 : IntKind.u8.max = 255 := by decide
    simp only [Lit.wf,Bool.and_eq_true,decide_eq_true_eq] at this;omega
  obtain ⟨a,b,ol,ob,eD,ha,hb2⟩ := with_ok l0 hb hl;obtain ⟨r,c,d,eT⟩ := drawturns_ok l0 hb hl;obtain ⟨n,q,eP⟩ := drawparts_ok l0 hb hl;obtain ⟨tr,t1,t2⟩ := turns_ok r c d;have hA := afterOf_len a b (ol,ob) (by omega);have s6 := j6_ok a b (ol,ob) ha hb2;have s5 : Ev (fun k => laws_FnAnswers.j5 k ol ob (ansVal a b (ol,ob)).1 (ansVal a b (ol,ob)).2 (afterOf a b (ol,ob)).2.2 n q (bestP n q).1 (bestP n q).2 false a b (afterOf a b (ol,ob)).1 (afterOf a b (ol,ob)).2.1) true := by
    by_cases c0 : (bestP n q).2 = 0
    · have hin := bestP_in n q c0
      have hs := lsum_ev (bestP n q).1 (by have := bestP_len n q;omega);rw [hin.1] at hs;refine Ev.step (f := fun k => (laws_sum.f k (bestP n q).1).bind fun t631 => (if t631 = n then (laws_FnAnswers.j6 k ol ob (ansVal a b (ol,ob)).1 (ansVal a b (ol,ob)).2 (afterOf a b (ol,ob)).2.2 (((bestP n q).1.length : Int) != q) a b (afterOf a b (ol,ob)).1 (afterOf a b (ol,ob)).2.1) else (laws_FnAnswers.j6 k ol ob (ansVal a b (ol,ob)).1 (ansVal a b (ol,ob)).2 (afterOf a b (ol,ob)).2.2 true a b (afterOf a b (ol,ob)).1 (afterOf a b (ol,ob)).2.1))) (fun k => ?_) (Ev.bind hs ?_)
      · simp only [laws_FnAnswers.j5]
        rw [if_neg (by decide),if_pos c0]
      · exact Ev.congr (fun k => by rw [if_pos rfl,hin.2,bne_self_eq_false]) s6
    · refine Ev.step (fun k => ?_) s6
      simp only [laws_FnAnswers.j5];rw [if_neg (by decide),if_neg c0]
  have s4 : Ev (fun k => laws_FnAnswers.j4 k l0 ol ob (ansVal a b (ol,ob)).1 (ansVal a b (ol,ob)).2 (afterOf a b (ol,ob)).2.2 false a b (afterOf a b (ol,ob)).1 (afterOf a b (ol,ob)).2.1) true := by
    refine Ev.step (f := fun k => (spec_DrawBestParts.f k l0).bind fun bt620 => ((impl_BestParts.f k bt620.1 bt620.2).bind fun bt622 => ((spec_BestParts.f k bt620.1 bt620.2).bind fun bt626 => (if bt622.2 = bt626.2 then ((laws_likeInts.f k bt622.1 bt626.1).bind fun t630 => (laws_FnAnswers.j5 k ol ob (ansVal a b (ol,ob)).1 (ansVal a b (ol,ob)).2 (afterOf a b (ol,ob)).2.2 bt620.1 bt620.2 bt622.1 bt622.2 (!t630) a b (afterOf a b (ol,ob)).1 (afterOf a b (ol,ob)).2.1)) else (laws_FnAnswers.j5 k ol ob (ansVal a b (ol,ob)).1 (ansVal a b (ol,ob)).2 (afterOf a b (ol,ob)).2.2 bt620.1 bt620.2 bt622.1 bt622.2 true a b (afterOf a b (ol,ob)).1 (afterOf a b (ol,ob)).2.1))))) (fun k => ?_) ?_
    · simp only [laws_FnAnswers.j4]
      rw [if_neg (by decide)]
    · refine Ev.bind eP (Ev.bind (implParts_ev n q) (Ev.bind (specParts_ev n q) ?_))
      exact Ev.congr (fun k => by rw [if_pos rfl]) (Ev.bind (likeI_ev _ (by have := bestP_len n q;omega)) s5)
  have s3 : Ev (fun k => laws_FnAnswers.j3 k l0 ol ob (ansVal a b (ol,ob)).1 (ansVal a b (ol,ob)).2 (afterOf a b (ol,ob)).2.2 false a b (afterOf a b (ol,ob)).1 (afterOf a b (ol,ob)).2.1) true := by
    refine Ev.step (f := fun k => (spec_DrawTurnsOf.f k l0).bind fun bt613 => ((impl_TurnsOf.f bt613.1 bt613.2.1 bt613.2.2).bind fun bt616 => ((spec_TurnsOf.f bt613.1 bt613.2.1 bt613.2.2).bind fun bt618 => (if bt616.2 = bt618.2 then (laws_FnAnswers.j4 k l0 ol ob (ansVal a b (ol,ob)).1 (ansVal a b (ol,ob)).2 (afterOf a b (ol,ob)).2.2 (bt616.1 != bt618.1) a b (afterOf a b (ol,ob)).1 (afterOf a b (ol,ob)).2.1) else (laws_FnAnswers.j4 k l0 ol ob (ansVal a b (ol,ob)).1 (ansVal a b (ol,ob)).2 (afterOf a b (ol,ob)).2.2 true a b (afterOf a b (ol,ob)).1 (afterOf a b (ol,ob)).2.1))))) (fun k => ?_) (Ev.bind eT ?_)
    · simp only [laws_FnAnswers.j3]
      rw [if_neg (by decide)]
    · exact Ev.congr (fun k => by rw [t1,t2,Option.bind_some,Option.bind_some,if_pos rfl,bne_self_eq_false]) s4
  have s2 : Ev (fun k => laws_FnAnswers.j2 k l0 ol ob (ansVal a b (ol,ob)).1 (ansVal a b (ol,ob)).2 (afterOf a b (ol,ob)).2.2 false a b (afterOf a b (ol,ob)).1 (afterOf a b (ol,ob)).2.1) true := by
    refine Ev.step (f := fun k => (impl_CountLong.f k a b).bind fun bt609 => ((spec_CountLong.f k a b).bind fun bt611 => (if bt609.2 = bt611.2 then (laws_FnAnswers.j3 k l0 ol ob (ansVal a b (ol,ob)).1 (ansVal a b (ol,ob)).2 (afterOf a b (ol,ob)).2.2 (bt609.1 != bt611.1) a b (afterOf a b (ol,ob)).1 (afterOf a b (ol,ob)).2.1) else (laws_FnAnswers.j3 k l0 ol ob (ansVal a b (ol,ob)).1 (ansVal a b (ol,ob)).2 (afterOf a b (ol,ob)).2.2 true a b (afterOf a b (ol,ob)).1 (afterOf a b (ol,ob)).2.1)))) (fun k => ?_) (Ev.bind (implLong_ev a b (by omega) (by omega)) (Ev.bind (specLong_ev a b (by omega) (by omega)) ?_))
    · simp only [laws_FnAnswers.j2]
      rw [if_neg (by decide)]
    · exact Ev.congr (fun k => by rw [if_pos rfl,bne_self_eq_false]) s3
  have s1 : Ev (fun k => laws_FnAnswers.j1 k l0 ol ob (ansVal a b (ol,ob)).1 (ansVal a b (ol,ob)).2 (afterOf a b (ol,ob)).2.2 false a b (afterOf a b (ol,ob)).1 (afterOf a b (ol,ob)).2.1) true := by
    refine Ev.step (f := fun k => (impl_SparingNumber.f k a b).bind fun bt605 => ((spec_SparingNumber.f k a b).bind fun bt607 => (if bt605.2 = bt607.2 then (laws_FnAnswers.j2 k l0 ol ob (ansVal a b (ol,ob)).1 (ansVal a b (ol,ob)).2 (afterOf a b (ol,ob)).2.2 (bt605.1 != bt607.1) a b (afterOf a b (ol,ob)).1 (afterOf a b (ol,ob)).2.1) else (laws_FnAnswers.j2 k l0 ol ob (ansVal a b (ol,ob)).1 (ansVal a b (ol,ob)).2 (afterOf a b (ol,ob)).2.2 true a b (afterOf a b (ol,ob)).1 (afterOf a b (ol,ob)).2.1)))) (fun k => ?_) (Ev.bind (implSparing_ev a b (by omega) (by omega)) (Ev.bind (specSparing_ev a b (by omega) (by omega)) ?_))
    · simp only [laws_FnAnswers.j1]
      rw [if_neg (by decide)]
    · exact Ev.congr (fun k => by rw [if_pos rfl,bne_self_eq_false]) s2
  have s0 : Ev (fun k => laws_FnAnswers.j0 k l0 ol ob (ansVal a b (ol,ob)).1 (ansVal a b (ol,ob)).2 false a b) true := by
    refine Ev.step (f := fun k => (impl_AfterOpening.f k a b ol ob).bind fun bt588 => ((spec_AfterOpening.f k a b ol ob).bind fun bt596 => (if bt588.2.2 = bt596.2.2 then ((laws_ending9.f k bt588.1 bt588.2.1 bt596.1 bt596.2.1).bind fun t604 => (laws_FnAnswers.j1 k l0 ol ob (ansVal a b (ol,ob)).1 (ansVal a b (ol,ob)).2 bt588.2.2 (!t604) a b bt588.1 bt588.2.1)) else (laws_FnAnswers.j1 k l0 ol ob (ansVal a b (ol,ob)).1 (ansVal a b (ol,ob)).2 bt588.2.2 true a b bt588.1 bt588.2.1)))) (fun k => ?_) (Ev.bind (implAfter_ev a b (ol,ob) (by omega) (by omega)) (Ev.bind (specAfter_ev a b (ol,ob) (by omega) (by omega)) ?_))
    · simp only [laws_FnAnswers.j0]
      rw [if_neg (by decide)]
    · exact Ev.congr (fun k => by rw [if_pos rfl]) (Ev.bind (end9_ev _ _ (by omega) (by omega)) s1)
  refine Ev.congr (fun k => by rw [Option.bind_some,if_neg (by rw [decide_eq_false hbig];decide)]) (Ev.bind eD (Ev.bind (implBestAnswer_ev a b (ol,ob) (by omega)) (Ev.bind (specBestAnswer_ev a b (ol,ob) (by omega) (by omega)) ?_)));exact Ev.congr (fun k => by rw [if_pos rfl,bne_self_eq_false]) s0
end Go.Proofs.Ytkbjoiebaphdoaa.Pure
/- The row of FnAnswers: the law FnAnswers holds for all arguments (condition: none beyond the row's own). -/
namespace Go.Proofs.Ytkbjoiebaphdoaa.fnAnswers
open Go.ChangeShapes Go.WideShapes Go.ChangeAt Go.RowKit
open Go.ChangeMaps (open_string shut_string)
set_option linter.unusedVariables false
theorem own : ownKnob Try.prog.godebug = none := by kernel_rfl
theorem laidOut : laidOutB Try.prog = true := by kernel_rfl
def IsRow (k : IntKind) (w : World) (a : Option Addr) (len cap : Nat) (zs : List Int) : Prop :=
  (a = none ∧ len = 0 ∧ cap = 0 ∧ zs = []) ∨
  ∃ x,a = some x ∧ len ≤ cap ∧ cap ≤ maxLen ∧ zs.length = cap ∧ (∀ i,i < zs.length → w.cell? (x.add i) = some (.int k (zs.getD i 0))) ∧ ∀ n ∈ zs,(Lit.int k n).wf = true
set_option maxRecDepth 100000 in
theorem lifted (os : Os) (started : os.Started) (H : Type) (enc : TypeId × Value → H) :
    ReturnsInHanded {} Try.checked os 13 .any (Rows.fnAnswersSpec.pre6 enc Try.prog Try.f13 Rows.fnAnswersRow.domain false) (Rows.fnAnswersSpec.post enc Try.prog Try.f13 false true false false) := by
  refine returnsInHanded_of_change_sized (C := Try.checked) own started (by kernel_rfl) Try.func13
    (ChangeSpec.witness6 (enc := enc) (C := Try.checked) false ⟨#[],#[.slice none 0 0],[]⟩ 8 (by kernel_rfl) (by kernel_rfl) (by kernel_rfl) (by kernel_rfl)) ?_
  intro W base args ds gs before hval0 hW hcnd hsz0 _;have hsz : (DataW.weightsEach Try.prog (Try.f13.params.toList ++ Rows.fnAnswersSpec.plain.varTypes Try.prog) (ds ++ gs)).all (· ≤ reachBytes) = true := hsz0;have hval : ∀ (j : Nat) t v,Try.f13.params[j]? = some t → args[j]? = some v → Value.okWide Try.prog W .any base t v := hval0;have hW' := hW;obtain ⟨p,q,hA0,hV,rfl,hfz,hnd⟩ := hW;have hA : DataW.TrodAll enc Try.prog W 0 (fun _ => true) true Try.f13.params.toList args.toList ds p := hA0;rw [Try.params13] at hA hval hsz;obtain ⟨v0,vs0,d0,ds0,p0,q0,hargs,rfl,rfl,h0,r0⟩ := trodAll_cons hA;obtain ⟨rfl,rfl,rfl⟩ := trodAll_nil r0;obtain rfl : args = #[v0] := by cases args;simp_all
  obtain ⟨rfl,rfl⟩ := trodVars_none hV;obtain ⟨a0,len0,cap0,rfl⟩ := okWide_slice Try.underlying51 (hval 0 51 v0 rfl rfl);have k0 := h0;have lt0 : ∀ x ∈ p0,x.block < W.heap.size := by obtain ⟨m,hm⟩ := k0;exact DataW.trod_lt m _ _ _ hm
  obtain ⟨z0,w0⟩ : ∃ zs,IsRow .u8 W a0 len0 cap0 zs := by
    obtain ⟨fuel,hf⟩ := h0;rcases open_ints Try.underlying51 Try.underlying5 (by kernel_rfl) hf with ⟨hcs,_⟩ | ⟨x,l,c,zs,hcs,_,hl,hm,hz,_,hcell,hwz⟩
    · simp [Value.cells] at hcs
      obtain ⟨rfl,rfl,rfl⟩ := hcs;exact ⟨[],.inl ⟨rfl,rfl,rfl,rfl⟩⟩
    · simp [Value.cells] at hcs
      obtain ⟨rfl,rfl,rfl⟩ := hcs;exact ⟨zs,.inr ⟨_,rfl,hl,hm,by simpa using hz,hcell,hwz⟩⟩
  have y0 : len0 * 1 ≤ 140737488351232 := Go.Proofs.YtkbjoiebaphdoaaW.PrintWords.sized_ints hsz (j := 0) (t := 51) rfl rfl Try.underlying51 Try.underlying5 (by kernel_rfl) (by kernel_rfl) h0;clear hA0 hval0 hsz0 hsz;refine (PA.laws_FnAnswers.walk Pure.FnAnswers a0 len0 cap0 z0 W w0 y0).mono fun e W' ⟨he,bel⟩ => ?_
  subst he;exact ⟨_,rfl,_,_,_,[],_,[],hW',trodAll_mk1 (shut_bool Try.underlying4 _),(trodAll_cons_mk (Below.trod laidOut (by kernel_rfl) (of_decide_eq_true (by kernel_rfl)) k0 bel lt0) trodAll_mk0),rfl,bel.frame _,fun h => by cases h⟩
theorem over : Rows.fnAnswersRow.holds Try.pinned (OpenSpec.ofChange Rows.fnAnswersSpec) :=
  OpenClaim.holds_of_wide 13 Try.f13 rfl rfl rfl rfl rfl rfl rfl ⟨rfl,rfl,rfl,rfl,rfl⟩ rfl rfl rfl rfl rfl (by kernel_rfl) Try.func13 (by kernel_rfl)
    (of_decide_eq_true (by kernel_rfl)) (by unfold Func.isWrapper;first | (rw [if_pos (by decide +kernel)];kernel_rfl) | (rw [if_neg (by decide +kernel)];exact ⟨rfl,rfl⟩))
    (fun os started H enc _ => lifted os started H enc)
theorem proved : Rows.FnAnswersSaid := over
#print axioms proved
end Go.Proofs.Ytkbjoiebaphdoaa.fnAnswers
namespace Go.Proofs.Ytkbjoiebaphdoaa
/-- The row, under a short name, for the claim. -/
theorem fnAnswers_holds : Rows.FnAnswersSaid := fnAnswers.proved
end Go.Proofs.Ytkbjoiebaphdoaa
