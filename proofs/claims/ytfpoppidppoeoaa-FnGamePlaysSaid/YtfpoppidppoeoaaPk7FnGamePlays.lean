/- Part 7 of the texts under the row of FnGamePlays (no condition). -/
import Derived.Laws.Bits64b
import Derived.Maps.OwnSet
import Derived.Maps.Views
import Derived.Test.YtfpoppidppoeoaaPk6FnGamePlays
namespace Go.Proofs.Ytfpoppidppoeoaa.PX
open Go.RowKit Go.Proofs.YtfpoppidppoeoaaW.PrintWords Go.Proofs.YtfpoppidppoeoaaW.PrintLast Go.Proofs.YtfpoppidppoeoaaW.PrintMore
attribute [local go_sem] max2_int min2_int max_two min_two max_three min_three max_four min_four
set_option linter.unusedVariables false
set_option linter.unusedSimpArgs false
set_option maxHeartbeats 8000000
set_option maxRecDepth 100000
def Bytes (s : List Int) : Prop := ∀ x ∈ s, 0 ≤ x ∧ x ≤ 255
def At (s : List Int) (n : Int) : Prop := 0 ≤ n ∧ n ≤ (s.length : Int)
theorem and24 (x : Int) (h0 : 0 ≤ x) (h1 : x < 18446744073709551616) : 0 ≤ Go.bits .and .u64 x 16777215 ∧ Go.bits .and .u64 x 16777215 ≤ 16777215 := by
 obtain ⟨n,rfl⟩ := Int.eq_ofNat_of_zero_le h0
 rw [show (16777215 : Int) = ((16777215 : Nat) : Int) from rfl,bits_and_u64_nat n 16777215 (by omega) (by decide)]
 have := Nat.and_le_right (n := n) (m := 16777215)
 omega
theorem rd_mem {l : List Int} {r : Int} (h0 : 0 ≤ r) (h1 : r < (l.length : Int)) : rd l r ∈ l := by
 obtain ⟨n,rfl⟩ := Int.eq_ofNat_of_zero_le h0
 obtain ⟨x,hx⟩ := get_some (xs := l) (i := n) (by omega)
 rw [rd_nat,getD_of hx]
 exact List.mem_of_getElem? hx
theorem next_ok {s : List Int} {n m a : Int} (hb : Bytes s) (hl : s.length ≤ 4096) (hi : At s n) :
 ∃ r n' m',Zx.f s n m a = some (r,n',m') ∧ At s n' ∧ 0 ≤ r ∧ (r < a ∨ r = 0) := by
 unfold Zx.f
 by_cases c : a < 1
 ·rw [if_pos c]
  exact ⟨_,_,_,rfl,hi,Int.le_refl 0,Or.inr rfl⟩
 rw [if_neg c]
 generalize hm2 : IntKind.u64.wrap ((IntKind.u64.wrap (m * 6364136223846793005)) + 1442695040888963407) = m2
 have hm3 : 0 ≤ m2 ∧ m2 < 18446744073709551616 := by
  rw [← hm2,IntKind.wrap_u64];omega
 have h24 := and24 (m2 / 8589934592) (by omega) (by omega)
 generalize Go.bits .and .u64 (m2 / 8589934592) 16777215 = z at h24 ⊢
 by_cases d : n < (s.length : Int)
 ·have hx := hb _ (rd_mem hi.1 d)
  have hi1 := hi.1
  rw [if_pos d,if_pos hi.1,if_neg (by omega),wrapS (i := z) (by omega) (by omega),wrapS (i := rd s n) (by omega) (by omega),wrapS (i := z + rd s n) (by omega) (by omega),wrapS (i := n + 1) (by omega) (by omega)]
  exact ⟨_,_,_,rfl,⟨by omega,by omega⟩,Int.tmod_nonneg _ (by omega),Or.inl (Int.tmod_lt_of_pos _ (by omega))⟩
 ·rw [if_neg d,if_neg (by omega),wrapS (i := z) (by omega) (by omega)]
  exact ⟨_,_,_,rfl,hi,Int.tmod_nonneg _ (by omega),Or.inl (Int.tmod_lt_of_pos _ (by omega))⟩
theorem pick_ok {s l : List Int} {n m : Int} (hb : Bytes s) (hl : s.length ≤ 4096) (hi : At s n) (h0 : 0 < l.length) :
 ∃ x n' m',Zar.f s n m l = some (x,n',m') ∧ At s n' ∧ x ∈ l := by
 unfold Zar.f
 obtain ⟨r,n',m',e,hi',h1,h2⟩ := next_ok (m := m) (a := (l.length : Int)) hb hl hi
 have h3 : r < (l.length : Int) := by omega
 rw [e,Option.bind_some,if_pos h1,if_pos h3]
 exact ⟨_,_,_,rfl,hi',rd_mem h1 h3⟩
theorem near_ok {s : List Int} {n m a : Int} (hb : Bytes s) (hl : s.length ≤ 4096) (hi : At s n) :
 ∃ x n' m',Zaq.f s n m a = some (x,n',m') ∧ At s n' := by
 unfold Zaq.f
 obtain ⟨r,n1,m1,e,hi1,-⟩ := next_ok (m := m) (a := 14) hb hl hi
 rw [e,Option.bind_some]
 by_cases c : r = 0
 ·obtain ⟨x,n2,m2,e2,hi2,-⟩ := pick_ok (m := m1) (l := ([(-1),wrap64 (a + 1),1099511627776,(-4611686018427387904)] : List Int)) hb hl hi1 (by simp)
  rw [if_pos c,e2,Option.bind_some]
  exact ⟨_,_,_,rfl,hi2⟩
 ·obtain ⟨x,n2,m2,e2,hi2,-⟩ := next_ok (m := m1) (a := wrap64 (a + 1)) hb hl hi1
  rw [if_neg c,e2,Option.bind_some]
  exact ⟨_,_,_,rfl,hi2⟩
theorem from_loop (l : List Int) (hl : l.length ≤ 4096) : ∀ (d i : Nat) (m : Int), i + d = l.length → ∃ m', Ev (fun k => ZD.l0 k l (i : Int) l 0 m) (l, 0, m')
 | 0,i,m,h => ⟨m,Ev.step (f := fun _ => some (l,0,m)) (fun k => by
  simp only [ZD.l0]
  rw [if_neg (by omega)]) (Ev.now _)⟩
 | d + 1,i,m,h => by
  obtain ⟨m',ih⟩ := from_loop l hl d (i + 1) (IntKind.u64.wrap ((IntKind.u64.wrap ((IntKind.u64.wrap (m * 1099511628211)) + (IntKind.u64.wrap (rd l (i : Int))))) + 229)) (by omega)
  refine ⟨m',Ev.step (fun k => ?_) ih⟩
  simp only [ZD.l0]
  rw [if_pos (by omega),if_pos (by omega),if_pos (by omega),wrapS (i := (i : Int) + 1) (by omega) (by omega),cast_succ]
theorem from_ok (l : List Int) (hl : l.length ≤ 4096) : ∃ m', Ev (fun k => ZD.f k l) (l, 0, m') := from_loop l hl l.length 0 _ (by omega)
theorem own_val (l : List Int) (h : l.length < 17592186044416) : Zax.f l = some l := by
 unfold Zax.f
 rw [Option.bind_some,if_pos (by simpa using h)]
 rfl
theorem append_rows {a : List (List Int)} {row : List Int} {b : Nat} (h : ∀ x ∈ a, x.length ≤ b) (hr : row.length ≤ b) : ∀ x ∈ a ++ [row], x.length ≤ b := by
 intro x hx
 rcases List.mem_append.1 hx with hx | hx
 ·exact h x hx
 ·rw [List.mem_singleton.1 hx];exact hr
theorem dof_in {s : List Int} (hb : Bytes s) (hl : s.length ≤ 4096) (N few : Int) (p : Nat) (hN : N ≤ 40) (acc : List (List Int)) (hacc : acc.length ≤ 40) (Q : List (List Int) × Int × Int → Prop)
 (out : ∀ (row : List Int) (n m : Int),At s n → row.length ≤ 40 → ∃ r,Ev (fun k => Zi.l0 k N few ((p : Int) + 1) s n m (acc ++ [row])) r ∧ Q r) (hp : (p : Int) ≤ 40) :
 ∀ (e j : Nat) (row : List Int) (n m : Int),N ≤ (j : Int) + e → row.length + e ≤ 40 → (j : Int) ≤ 100 → At s n → ∃ r,Ev (fun k => Zi.l1 k N few p row j s n m acc) r ∧ Q r := by
 have fin : ∀ (j : Nat) (row : List Int) (n m : Int),¬ (j : Int) < N → row.length ≤ 40 → At s n → ∃ r,Ev (fun k => Zi.l1 k N few p row j s n m acc) r ∧ Q r := by
  intro j row n m h1 h2 h3
  obtain ⟨r,h,hq⟩ := out row n m h3 h2
  refine ⟨r,Ev.step (fun k => ?_) h,hq⟩
  simp only [Zi.l1]
  rw [if_neg h1,if_pos (by omega),wrapS (i := (p : Int) + 1) (by omega) (by omega)]
 intro e
 induction e with
 | zero =>
  intro j row n m h1 h2 h3 h4
  exact fin j row n m (by omega) (by omega) h4
 | succ e ih =>
  intro j row n m h1 h2 h3 h4
  by_cases c : (j : Int) < N
  ·obtain ⟨x,n1,m1,e1,hi1,-⟩ := next_ok (m := m) (a := wrap64 (few + 1)) hb hl h4
   have ej : wrap64 ((j : Int) + 1) = ((j + 1 : Nat) : Int) := by rw [wrapS (by omega) (by omega)];omega
   by_cases c1 : x = 0
   ·obtain ⟨r,h,hq⟩ := ih (j + 1) (row ++ [(j : Int)]) n1 m1 (by omega) (by simp;omega) (by omega) hi1
    refine ⟨r,Ev.step (fun k => ?_) h,hq⟩
    simp only [Zi.l1]
    rw [if_pos c,e1,Option.bind_some,if_pos c1,if_pos (by omega),ej]
   ·by_cases c2 : few = 1
    ·obtain ⟨y,n2,m2,e2,hi2,-⟩ := next_ok (m := m1) (a := 3) hb hl hi1
     by_cases c3 : y > 0
     ·obtain ⟨r,h,hq⟩ := ih (j + 1) (row ++ [(j : Int)]) n2 m2 (by omega) (by simp;omega) (by omega) hi2
      refine ⟨r,Ev.step (fun k => ?_) h,hq⟩
      simp only [Zi.l1]
      rw [if_pos c,e1,Option.bind_some,if_neg c1,if_pos c2,e2,Option.bind_some,if_pos c3,if_pos (by omega),ej]
     ·obtain ⟨r,h,hq⟩ := ih (j + 1) row n2 m2 (by omega) (by omega) (by omega) hi2
      refine ⟨r,Ev.step (fun k => ?_) h,hq⟩
      simp only [Zi.l1]
      rw [if_pos c,e1,Option.bind_some,if_neg c1,if_pos c2,e2,Option.bind_some,if_neg c3,ej]
    ·obtain ⟨r,h,hq⟩ := ih (j + 1) row n1 m1 (by omega) (by omega) (by omega) hi1
     refine ⟨r,Ev.step (fun k => ?_) h,hq⟩
     simp only [Zi.l1]
     rw [if_pos c,e1,Option.bind_some,if_neg c1,if_neg c2,ej]
  ·exact fin j row n m c (by omega) h4
theorem dof_out {s : List Int} (hb : Bytes s) (hl : s.length ≤ 4096) (N few : Int) (hN : N ≤ 40) : ∀ (d p : Nat) (acc : List (List Int)) (n m : Int), (p : Int) + d = N → acc.length = p → (∀ x ∈ acc, x.length ≤ 40) → At s n →
 ∃ r : List (List Int) × Int × Int,Ev (fun k => Zi.l0 k N few p s n m acc) r ∧ ((r.1.length : Int) = N ∧ (∀ x ∈ r.1,x.length ≤ 40) ∧ At s r.2.1)
 | 0,p,acc,n,m,h1,h2,h3,h4 => ⟨(acc,n,m),Ev.step (f := fun _ => some (acc,n,m)) (fun k => by
  simp only [Zi.l0]
  rw [if_neg (by omega)]) (Ev.now _),by show (acc.length : Int) = N;omega,h3,h4⟩
 | d + 1,p,acc,n,m,h1,h2,h3,h4 => by
  have ih := dof_out hb hl N few hN d (p + 1)
  obtain ⟨r,h,hq⟩ := dof_in hb hl N few p hN acc (by omega) _ (fun row n m hn hr => by
   have := ih (acc ++ [row]) n m (by omega) (by simp;omega) (append_rows h3 hr) hn
   rw [cast_succ];exact this) (by omega) d (p + 1) [] n m (by omega) (by simp;omega) (by omega) h4
  refine ⟨r,Ev.step (fun k => ?_) h,hq⟩
  simp only [Zi.l0]
  rw [if_pos (by omega),wrapS (i := (p : Int) + 1) (by omega) (by omega),cast_succ]
theorem drawof_ok {s : List Int} {n m N : Int} (hb : Bytes s) (hl : s.length ≤ 4096) (hi : At s n) (h0 : 0 ≤ N) (h1 : N ≤ 40) :
 ∃ g n' m',Ev (fun k => Zi.f k s n m N) (g,n',m') ∧ (g.length : Int) = N ∧ (∀ x ∈ g,x.length ≤ 40) ∧ At s n' := by
 obtain ⟨x,n1,m1,e1,hi1,-⟩ := pick_ok (m := m) (l := ([1,2,3,6] : List Int)) hb hl hi (by simp)
 obtain ⟨⟨g,n2,m2⟩,h,h2,h3,h4⟩ := dof_out hb hl N x h1 N.toNat 0 [] n1 m1 (by omega) rfl (by simp) hi1
 exact ⟨g,n2,m2,Ev.congr (fun k => by unfold Zi.f;rw [e1,Option.bind_some];rfl) h,h2,h3,h4⟩
theorem put_loop (l : List Int) (x : Int) (hl : l.length ≤ 1000) : ∀ i : Nat, i ≤ l.length → ∃ r, Ev (fun k => ZR.l0 k l x i) r ∧ r.length ≤ l.length + 1 := by
 have fin : ∀ i : Nat,i ≤ l.length → ∃ r : List Int,(Zax.f (l.take ((i : Nat) : Int).toNat)).bind (fun t => if t.length < 17592186044416 then ((some (t ++ [x] : List Int)).bind fun y => ((some (l.drop ((i : Nat) : Int).toNat : List Int)).bind fun z => (if y.length + z.length < 17592186044416 then (some (y ++ z)) else (none)))) else (none)) = some r ∧ r.length ≤ l.length + 1 := by
  intro i hi
  rw [Int.toNat_natCast,own_val _ (by rw [List.length_take];omega),Option.bind_some,if_pos (by rw [List.length_take];omega),Option.bind_some,Option.bind_some,if_pos (by simp;omega)]
  exact ⟨_,rfl,by simp;omega⟩
 intro i
 induction i with
 | zero =>
  intro hi
  obtain ⟨r,h,hr⟩ := fin 0 hi
  refine ⟨r,Ev.step (f := fun _ => some r) (fun k => ?_) (Ev.now _),hr⟩
  simp only [ZR.l0]
  rw [if_neg (by omega),if_pos (by omega),if_pos (by omega)]
  exact h
 | succ i ih =>
  intro hi
  have ei : wrap64 (((i + 1 : Nat) : Int) - 1) = (i : Int) := by rw [wrapS (by omega) (by omega)];omega
  by_cases c1 : rd l (i : Int) > x
  ·obtain ⟨r,h,hr⟩ := ih (by omega)
   refine ⟨r,Ev.step (fun k => ?_) h,hr⟩
   simp only [ZR.l0]
   rw [if_pos (by omega),ei,if_pos (by omega),if_pos (by omega),if_pos c1]
  ·by_cases c2 : rd l (i : Int) = x
   ·refine ⟨l,Ev.step (f := fun _ => some l) (fun k => ?_) (Ev.now _),by omega⟩
    simp only [ZR.l0]
    rw [if_pos (by omega),ei,if_pos (by omega),if_pos (by omega),if_neg c1,if_pos c2]
   ·obtain ⟨r,h,hr⟩ := fin (i + 1) hi
    refine ⟨r,Ev.step (f := fun _ => some r) (fun k => ?_) (Ev.now _),hr⟩
    simp only [ZR.l0]
    rw [if_pos (by omega),ei,if_pos (by omega),if_pos (by omega),if_neg c1,if_neg c2,if_pos (by omega),if_pos (by omega)]
    exact h
theorem put_ok (l : List Int) (x : Int) (hl : l.length ≤ 1000) : ∃ r, Ev (fun k => ZR.f k l x) r ∧ r.length ≤ l.length + 1 := put_loop l x hl l.length (Nat.le_refl _)
theorem nums_loop {s : List Int} (hb : Bytes s) (hl : s.length ≤ 4096) : ∀ (c : Nat) (xs : List Int) (n m : Int), c ≤ 100 → xs.length + c ≤ 100 → At s n →
 ∃ ys n' m',Ev (fun k => Zu.l0 k xs c s n m) (ys,n',m') ∧ ys.length ≤ xs.length + c ∧ At s n'
 | 0,xs,n,m,_,_,hi => ⟨xs,n,m,Ev.step (f := fun _ => some (xs,n,m)) (fun k => by
  simp only [Zu.l0]
  rw [if_neg (by omega)]) (Ev.now _),by omega,hi⟩
 | c + 1,xs,n,m,hc,hx,hi => by
  obtain ⟨a,n1,m1,e1,hi1,-⟩ := pick_ok (m := m) (l := ([4,8,39] : List Int)) hb hl hi (by simp)
  obtain ⟨b,n2,m2,e2,hi2,-⟩ := next_ok (m := m1) (a := a) hb hl hi1
  obtain ⟨zs,h3,hz⟩ := put_ok xs (wrap64 (1 + b)) (by omega)
  obtain ⟨ys,n',m',h4,hy,hi4⟩ := nums_loop hb hl c zs n2 m2 (by omega) (by omega) hi2
  refine ⟨ys,n',m',Ev.step (fun k => ?_) (Ev.bind (f := fun k t => Zu.l0 k t (c : Int) s n2 m2) h3 h4),by omega,hi4⟩
  simp only [Zu.l0]
  rw [if_pos (by omega),e1,Option.bind_some,e2,Option.bind_some,show wrap64 (((c + 1 : Nat) : Int) - 1) = (c : Int) by rw [wrapS (by omega) (by omega)];omega]
theorem nums_ok {s : List Int} {n m : Int} (hb : Bytes s) (hl : s.length ≤ 4096) (hi : At s n) : ∃ ys n' m', Ev (fun k => Zu.f k s n m) (ys, n', m') ∧ ys.length ≤ 4 ∧ At s n' := by
 obtain ⟨a,n1,m1,e1,hi1,p1,p2⟩ := next_ok (m := m) (a := 4) hb hl hi
 obtain ⟨q,rfl⟩ := Int.eq_ofNat_of_zero_le p1
 obtain ⟨ys,n',m',h,hy,hi2⟩ := nums_loop hb hl (1 + q) [] n1 m1 (by omega) (by simp;omega) hi1
 refine ⟨ys,n',m',Ev.congr (fun k => ?_) h,by simp at hy;omega,hi2⟩
 unfold Zu.f
 rw [e1,Option.bind_some,wrapS (by omega) (by omega)]
 rfl
theorem heapd_in (K : Int) (l : List Int) (i : Nat) (acc : List (List Int)) (hl : l.length ≤ 40) (ha : acc.length ≤ 100) (hi : (i : Int) ≤ 100) (r : List (List Int) → Prop)
 (out : ∀ row : List Int,row.length ≤ 40 → ∃ g,Ev (fun k => Zv.l0 k K l ((i : Int) + 1) (acc ++ [row])) g ∧ r g) : ∀ (e j : Nat) (row : List Int),j + e = l.length → row.length ≤ j →
 ∃ g,Ev (fun k => Zv.l1 k K l i row j acc) g ∧ r g
 | 0,j,row,h1,h2 => by
  obtain ⟨g,h,hg⟩ := out row (by omega)
  refine ⟨g,Ev.step (fun k => ?_) h,hg⟩
  simp only [Zv.l1]
  rw [if_neg (by omega),if_pos (by omega),wrapS (i := (i : Int) + 1) (by omega) (by omega)]
 | e + 1,j,row,h1,h2 => by
  by_cases c : (wrap64 ((i : Int) + (rd l (j : Int)))) ≤ K
  ·obtain ⟨g,h,hg⟩ := heapd_in K l i acc hl ha hi r out e (j + 1) (row ++ [wrap64 ((i : Int) + (rd l (j : Int)))]) (by omega) (by simp;omega)
   refine ⟨g,Ev.step (fun k => ?_) h,hg⟩
   simp only [Zv.l1]
   rw [if_pos (by omega),if_pos (by omega),if_pos c,if_pos (by omega),wrapS (i := (j : Int) + 1) (by omega) (by omega),cast_succ]
  ·obtain ⟨g,h,hg⟩ := heapd_in K l i acc hl ha hi r out e (j + 1) row (by omega) (by omega)
   refine ⟨g,Ev.step (fun k => ?_) h,hg⟩
   simp only [Zv.l1]
   rw [if_pos (by omega),if_pos (by omega),if_neg c,wrapS (i := (j : Int) + 1) (by omega) (by omega),cast_succ]
theorem heapd_loop (K : Int) (l : List Int) (hl : l.length ≤ 40) (hK : K ≤ 40) : ∀ (d i : Nat) (acc : List (List Int)), (i : Int) + d = K + 1 → acc.length = i → (∀ x ∈ acc, x.length ≤ 40) →
 ∃ g : List (List Int),Ev (fun k => Zv.l0 k K l i acc) g ∧ ((g.length : Int) = K + 1 ∧ ∀ x ∈ g,x.length ≤ 40)
 | 0,i,acc,h1,h2,h3 => ⟨acc,Ev.step (f := fun _ => some acc) (fun k => by
  simp only [Zv.l0]
  rw [if_neg (by omega)]) (Ev.now _),by omega,h3⟩
 | d + 1,i,acc,h1,h2,h3 => by
  obtain ⟨g,h,hg⟩ := heapd_in K l i acc hl (by omega) (by omega) _ (fun row hr => by
   have := heapd_loop K l hl hK d (i + 1) (acc ++ [row]) (by omega) (by simp;omega) (append_rows h3 hr)
   rw [cast_succ];exact this) l.length 0 [] (by omega) (by simp)
  refine ⟨g,Ev.step (fun k => ?_) h,hg⟩
  simp only [Zv.l0]
  rw [if_pos (by omega)]
  rfl
theorem heapd_ok (K : Int) (l : List Int) (hl : l.length ≤ 40) (h0 : 0 ≤ K) (hK : K ≤ 40) : ∃ g : List (List Int), Ev (fun k => Zv.f k K l) g ∧ (g.length : Int) = K + 1 ∧ ∀ x ∈ g, x.length ≤ 40 :=
 heapd_loop K l hl hK (K + 1).toNat 0 [] (by omega) rfl (by simp)
theorem sum3 (x5 : Int) (g h : List (List Int)) (p q : Nat) (acc : List (List Int)) (hg : g.length ≤ 10) (hq0 : q ≤ 10) (ha : acc.length ≤ 1000) (grow : List Int) (hgr : g[p]? = some grow) (Q : List (List Int) → Prop)
 (out : ∀ row : List Int,row.length ≤ 200 → ∃ r,Ev (fun k => Zh.l1 k x5 p ((q : Int) + 1) g h (acc ++ [row])) r ∧ Q r) : ∀ (e j : Nat) (row : List Int),j + e = grow.length → grow.length ≤ 40 → row.length + e ≤ 200 →
 ∃ r,Ev (fun k => Zh.l3 k x5 p q row j g h acc) r ∧ Q r
 | 0,j,row,h1,h2,h3 => by
  obtain ⟨r,hr,hQ⟩ := out row (by omega)
  have hp : p < g.length := (List.getElem?_eq_some_iff.1 hgr).1
  refine ⟨r,Ev.step (fun k => ?_) hr,hQ⟩
  simp only [Zh.l3]
  rw [if_pos (by omega),if_pos (by omega),rdL2_nat,getD_of hgr,if_neg (by omega),if_pos (by omega),wrapS (i := (q : Int) + 1) (by omega) (by omega)]
 | e + 1,j,row,h1,h2,h3 => by
  have hp : p < g.length := (List.getElem?_eq_some_iff.1 hgr).1
  obtain ⟨t,ht,hl⟩ := put_ok row (wrap64 ((wrap64 (x5 * (rd grow (j : Int)))) + (q : Int))) (by omega)
  obtain ⟨r,hr,hQ⟩ := sum3 x5 g h p q acc hg hq0 ha grow hgr Q out e (j + 1) t (by omega) h2 (by omega)
  refine ⟨r,Ev.step (fun k => ?_) (Ev.bind (f := fun k t => Zh.l3 k x5 p q t ((j + 1 : Nat) : Int) g h acc) ht hr),hQ⟩
  simp only [Zh.l3]
  rw [if_pos (by omega),if_pos (by omega),rdL2_nat,getD_of hgr,if_pos (by omega),if_pos (by omega),wrapS (i := (j : Int) + 1) (by omega) (by omega),cast_succ]
theorem sum2 (x5 : Int) (g h : List (List Int)) (p q : Nat) (acc : List (List Int)) (hg : g.length ≤ 10) (hh : h.length ≤ 10) (ha : acc.length ≤ 1000) (grow hrow : List Int) (hgr : g[p]? = some grow) (hgl : grow.length ≤ 40) (hhr : h[q]? = some hrow) (Q : List (List Int) → Prop)
 (out : ∀ row : List Int,row.length ≤ 200 → ∃ r,Ev (fun k => Zh.l1 k x5 p ((q : Int) + 1) g h (acc ++ [row])) r ∧ Q r) : ∀ (e j : Nat) (row : List Int),j + e = hrow.length → hrow.length ≤ 40 → row.length + e ≤ 100 →
 ∃ r,Ev (fun k => Zh.l2 k x5 p q row j g h acc) r ∧ Q r
 | 0,j,row,h1,h2,h3 => by
  have hq : q < h.length := (List.getElem?_eq_some_iff.1 hhr).1
  obtain ⟨r,hr,hQ⟩ := sum3 x5 g h p q acc hg (by omega) ha grow hgr Q out grow.length 0 row (by omega) hgl (by omega)
  refine ⟨r,Ev.step (fun k => ?_) hr,hQ⟩
  simp only [Zh.l2]
  rw [if_pos (by omega),if_pos (by omega),rdL2_nat,getD_of hhr,if_neg (by omega)]
  rfl
 | e + 1,j,row,h1,h2,h3 => by
  have hq : q < h.length := (List.getElem?_eq_some_iff.1 hhr).1
  obtain ⟨t,ht,hl⟩ := put_ok row (wrap64 ((wrap64 (x5 * (p : Int))) + (rd hrow (j : Int)))) (by omega)
  obtain ⟨r,hr,hQ⟩ := sum2 x5 g h p q acc hg hh ha grow hrow hgr hgl hhr Q out e (j + 1) t (by omega) h2 (by omega)
  refine ⟨r,Ev.step (fun k => ?_) (Ev.bind (f := fun k t => Zh.l2 k x5 p q t ((j + 1 : Nat) : Int) g h acc) ht hr),hQ⟩
  simp only [Zh.l2]
  rw [if_pos (by omega),if_pos (by omega),rdL2_nat,getD_of hhr,if_pos (by omega),if_pos (by omega),wrapS (i := (j : Int) + 1) (by omega) (by omega),cast_succ]
theorem sum1 (g h : List (List Int)) (hg : g.length ≤ 10) (hh : h.length ≤ 10) (hgl : ∀ x ∈ g, x.length ≤ 40) (hhl : ∀ x ∈ h, x.length ≤ 40) (p : Nat) (hp : p < g.length) (Q : List (List Int) → Prop) (M : Nat)
 (out : ∀ acc : List (List Int),acc.length = M + h.length → (∀ x ∈ acc,x.length ≤ 200) → ∃ r,Ev (fun k => Zh.l0 k h.length ((p : Int) + 1) g h acc) r ∧ Q r) (hM : M ≤ 100) : ∀ (e q : Nat) (acc : List (List Int)),q + e = h.length → acc.length = M + q → (∀ x ∈ acc,x.length ≤ 200) →
 ∃ r,Ev (fun k => Zh.l1 k h.length p q g h acc) r ∧ Q r
 | 0,q,acc,h1,h2,h3 => by
  obtain ⟨r,hr,hQ⟩ := out acc (by omega) h3
  refine ⟨r,Ev.step (fun k => ?_) hr,hQ⟩
  simp only [Zh.l1]
  rw [if_neg (by omega),wrapS (i := (p : Int) + 1) (by omega) (by omega)]
 | e + 1,q,acc,h1,h2,h3 => by
  obtain ⟨grow,hgr⟩ := get_some (xs := g) (i := p) hp
  obtain ⟨hrow,hhr⟩ := get_some (xs := h) (i := q) (by omega)
  obtain ⟨r,hr,hQ⟩ := sum2 h.length g h p q acc hg hh (by omega) grow hrow hgr (hgl _ (List.mem_of_getElem? hgr)) hhr Q (fun row hrow_ => by
   have := sum1 g h hg hh hgl hhl p hp Q M out hM e (q + 1) (acc ++ [row]) (by omega) (by simp;omega) (append_rows h3 hrow_)
   rw [cast_succ];exact this) hrow.length 0 [] (by omega) (hhl _ (List.mem_of_getElem? hhr)) (by have := hhl _ (List.mem_of_getElem? hhr);simp;omega)
  refine ⟨r,Ev.step (fun k => ?_) hr,hQ⟩
  simp only [Zh.l1]
  rw [if_pos (by omega)]
  rfl
theorem sum0 (g h : List (List Int)) (hg : g.length ≤ 10) (hh : h.length ≤ 10) (hgl : ∀ x ∈ g, x.length ≤ 40) (hhl : ∀ x ∈ h, x.length ≤ 40) : ∀ (e p : Nat) (acc : List (List Int)), p + e = g.length → acc.length = p * h.length → (∀ x ∈ acc, x.length ≤ 200) →
 ∃ r : List (List Int),Ev (fun k => Zh.l0 k h.length p g h acc) r ∧ (r.length = g.length * h.length ∧ ∀ x ∈ r,x.length ≤ 200)
 | 0,p,acc,h1,h2,h3 => ⟨acc,Ev.step (f := fun _ => some acc) (fun k => by
  simp only [Zh.l0,Zq.f]
  rw [Option.bind_some,if_neg (by omega)]) (Ev.now _),by rw [h2,show p = g.length by omega],h3⟩
 | e + 1,p,acc,h1,h2,h3 => by
  have hm : p * h.length ≤ 10 * 10 := Nat.mul_le_mul (by omega) hh
  obtain ⟨r,hr,hQ⟩ := sum1 g h hg hh hgl hhl p (by omega) _ (p * h.length) (fun acc2 h4 h5 => by
   have := sum0 g h hg hh hgl hhl e (p + 1) acc2 (by omega) (by rw [h4,Nat.succ_mul]) h5
   rw [cast_succ];exact this) (by omega) h.length 0 acc (by omega) (by omega) h3
  refine ⟨r,Ev.step (fun k => ?_) hr,hQ⟩
  simp only [Zh.l0,Zq.f]
  rw [Option.bind_some,if_pos (by omega)]
  rfl
theorem sumd_ok (g h : List (List Int)) (hg : g.length ≤ 10) (hh : h.length ≤ 10) (hgl : ∀ x ∈ g, x.length ≤ 40) (hhl : ∀ x ∈ h, x.length ≤ 40) :
 ∃ r : List (List Int),Ev (fun k => Zh.f k g h) r ∧ (r.length = g.length * h.length ∧ ∀ x ∈ r,x.length ≤ 200) := by
 obtain ⟨r,hr,hq⟩ := sum0 g h hg hh hgl hhl g.length 0 [] (by omega) (by simp) (by simp)
 exact ⟨r,Ev.congr (fun k => by unfold Zh.f;simp only [Zq.f];rw [Option.bind_some];rfl) hr,hq⟩
theorem draw_ok {s : List Int} {n m : Int} (hb : Bytes s) (hl : s.length ≤ 4096) (hi : At s n) :
 ∃ g n' m',Ev (fun k => Zab.f k s n m) (g,n',m') ∧ 1 ≤ g.length ∧ g.length ≤ 100 ∧ (∀ x ∈ g,x.length ≤ 200) ∧ At s n' := by
 obtain ⟨a,n1,m1,e1,hi1,a0,a1⟩ := next_ok (m := m) (a := 4) hb hl hi
 have up : ∀ {g : List (List Int)},(∀ x ∈ g,x.length ≤ 40) → ∀ x ∈ g,x.length ≤ 200 := fun h x hx => by have := h x hx;omega
 by_cases c0 : a = 0
 ·obtain ⟨b,n2,m2,e2,hi2,b0,b1⟩ := next_ok (m := m1) (a := 40) hb hl hi1
  obtain ⟨g,n3,m3,e3,g1,g2,hi3⟩ := drawof_ok (m := m2) (N := wrap64 (1 + b)) hb hl hi2 (by rw [wrapS (by omega) (by omega)];omega) (by rw [wrapS (by omega) (by omega)];omega)
  rw [wrapS (by omega) (by omega)] at g1
  refine ⟨g,n3,m3,?_,by omega,by omega,up g2,hi3⟩
  exact Ev.congr (fun k => by unfold Zab.f;rw [e1,Option.bind_some,if_pos c0,e2,Option.bind_some]) (Ev.bind e3 (Ev.now _))
 by_cases c1 : a = 1
 ·obtain ⟨b,n2,m2,e2,hi2,b0,b1⟩ := next_ok (m := m1) (a := 40) hb hl hi1
  obtain ⟨l,n3,m3,e3,l1,hi3⟩ := nums_ok (m := m2) hb hl hi2
  obtain ⟨g,e4,g1,g2⟩ := heapd_ok b l (by omega) b0 (by omega)
  refine ⟨g,n3,m3,?_,by omega,by omega,up g2,hi3⟩
  exact Ev.congr (fun k => by unfold Zab.f;rw [e1,Option.bind_some,if_neg c0,if_pos c1,e2,Option.bind_some]) (Ev.bind e3 (Ev.bind (f := fun _ t => some (t,n3,m3)) e4 (Ev.now _)))
 by_cases c2 : a = 2
 ·obtain ⟨b,n2,m2,e2,hi2,b0,b1⟩ := next_ok (m := m1) (a := 6) hb hl hi1
  obtain ⟨g,n3,m3,e3,g1,g2,hi3⟩ := drawof_ok (m := m2) (N := wrap64 (1 + b)) hb hl hi2 (by rw [wrapS (by omega) (by omega)];omega) (by rw [wrapS (by omega) (by omega)];omega)
  rw [wrapS (by omega) (by omega)] at g1
  obtain ⟨c,n4,m4,e4,hi4,c0',c1'⟩ := next_ok (m := m3) (a := 6) hb hl hi3
  obtain ⟨h,n5,m5,e5,h1,h2,hi5⟩ := drawof_ok (m := m4) (N := wrap64 (1 + c)) hb hl hi4 (by rw [wrapS (by omega) (by omega)];omega) (by rw [wrapS (by omega) (by omega)];omega)
  rw [wrapS (by omega) (by omega)] at h1
  obtain ⟨r,e6,r1,r2⟩ := sumd_ok g h (by omega) (by omega) g2 h2
  have rl : r.length ≤ 10 * 10 := by rw [r1];exact Nat.mul_le_mul (by omega) (by omega)
  have rp : 0 < r.length := by rw [r1];exact Nat.mul_pos (by omega) (by omega)
  refine ⟨r,n5,m5,?_,by omega,by omega,r2,hi5⟩
  exact Ev.congr (fun k => by unfold Zab.f;rw [e1,Option.bind_some,if_neg c0,if_neg c1,if_pos c2,e2,Option.bind_some]) (Ev.bind e3 (Ev.congr (fun k => by rw [e4,Option.bind_some]) (Ev.bind e5 (Ev.bind (f := fun _ t => some (t,n5,m5)) e6 (Ev.now _)))))
 ·obtain ⟨b,n2,m2,e2,hi2,b0,b1⟩ := next_ok (m := m1) (a := 8) hb hl hi1
  obtain ⟨g,n3,m3,e3,g1,g2,hi3⟩ := drawof_ok (m := m2) (N := wrap64 (1 + b)) hb hl hi2 (by rw [wrapS (by omega) (by omega)];omega) (by rw [wrapS (by omega) (by omega)];omega)
  rw [wrapS (by omega) (by omega)] at g1
  refine ⟨g,n3,m3,?_,by omega,by omega,up g2,hi3⟩
  exact Ev.congr (fun k => by unfold Zab.f Zat.f;rw [e1,Option.bind_some,if_neg c0,if_neg c1,if_neg c2,e2,Option.bind_some]) (Ev.bind (Ev.bind e3 (Ev.now _)) (Ev.now _))
theorem copy_loop (g : List (List Int)) (hg : g.length ≤ 1000) (hr : ∀ x ∈ g, x.length ≤ 1000) : ∀ d i : Nat, i + d = g.length → Ev (fun k => ZI.l0 k (i : Int) g (g.take i)) g
 | 0,i,h => by
  refine Ev.step (f := fun _ => some g) (fun k => ?_) (Ev.now _)
  simp only [ZI.l0]
  rw [if_neg (by omega),List.take_of_length_le (by omega)]
 | d + 1,i,h => by
  obtain ⟨row,hi⟩ := get_some (xs := g) (i := i) (by omega)
  have ih := copy_loop g hg hr d (i + 1) (by omega)
  refine Ev.step (fun k => ?_) ih
  have hl := hr _ (List.mem_of_getElem? hi)
  simp only [ZI.l0]
  rw [if_pos (by omega),if_pos (by omega),rdL2_nat,getD_of hi,own_val row (by omega),Option.bind_some,if_pos (by rw [List.length_take];omega),wrapS (i := (i : Int) + 1) (by omega) (by omega),cast_succ,List.take_add_one,hi]
  rfl
theorem copy_ok (g : List (List Int)) (hg : g.length ≤ 1000) (hr : ∀ x ∈ g, x.length ≤ 1000) : Ev (fun k => ZI.f k g) g := copy_loop g hg hr g.length 0 (by omega)
theorem fill_loop (s : List Int) (n m : Int) : ∀ (d : Nat) (g : List (List Int)), 41 ≤ g.length + d → g.length ≤ 1000 → (∀ x ∈ g, x.length ≤ 1000) →
 ∃ r : List (List Int),Ev (fun k => ZF.l0 k s n m g) (r,n,m) ∧ r.length ≤ 1000 ∧ ∀ x ∈ r,x.length ≤ 1000
 | 0,g,h1,h2,h3 => ⟨g,Ev.step (f := fun _ => some (g,n,m)) (fun k => by
  simp only [ZF.l0]
  rw [if_neg (by omega)]) (Ev.now _),h2,h3⟩
 | d + 1,g,h1,h2,h3 => by
  by_cases c : (g.length : Int) ≤ 40
  ·obtain ⟨r,hr,h4⟩ := fill_loop s n m d (g ++ [[]]) (by simp;omega) (by simp;omega) (append_rows h3 (by simp))
   refine ⟨r,Ev.step (fun k => ?_) hr,h4⟩
   simp only [ZF.l0]
   rw [if_pos c,if_pos (by omega)]
  ·refine ⟨g,Ev.step (f := fun _ => some (g,n,m)) (fun k => ?_) (Ev.now _),h2,h3⟩
   simp only [ZF.l0]
   rw [if_neg c]
theorem badg_ok {s : List Int} {n m : Int} (hb : Bytes s) (hl : s.length ≤ 4096) (hi : At s n) (g : List (List Int)) (g0 : 1 ≤ g.length) (g1 : g.length ≤ 100) (g2 : ∀ x ∈ g, x.length ≤ 200) :
 ∃ r n' m',Ev (fun k => ZF.f k s n m g) (r,n',m') ∧ r.length ≤ 1000 ∧ (∀ x ∈ r,x.length ≤ 1000) ∧ At s n' := by
 have up : ∀ x ∈ g,x.length ≤ 1000 := fun x hx => by have := g2 x hx;omega
 have hc := copy_ok g (by omega) up
 obtain ⟨a,n1,m1,e1,hi1,-⟩ := next_ok (m := m) (a := 50) hb hl hi
 by_cases c0 : a = 0
 ·refine ⟨[],n1,m1,?_,by simp,by simp,hi1⟩
  unfold ZF.f
  exact Ev.bind hc (Ev.congr (f := fun _ => some (([] : List (List Int)),n1,m1)) (fun k => by rw [e1,Option.bind_some,if_pos c0]) (Ev.now _))
 by_cases c1 : a = 1
 ·obtain ⟨b,n2,m2,e2,hi2,b0,b1⟩ := next_ok (m := m1) (a := (g.length : Int)) hb hl hi1
  have hb2 : b < (g.length : Int) := by omega
  obtain ⟨q,rfl⟩ := Int.eq_ofNat_of_zero_le b0
  obtain ⟨row,hq⟩ := get_some (xs := g) (i := q) (by omega)
  have hrl := g2 _ (List.mem_of_getElem? hq)
  obtain ⟨x,n3,m3,e3,hi3,-⟩ := pick_ok (m := m2) (l := ([0,(-1),(g.length : Int),(q : Int)] : List Int)) hb hl hi2 (by simp)
  refine ⟨g.set q (row ++ [x]),n3,m3,?_,by rw [List.length_set];omega,?_,hi3⟩
  ·unfold ZF.f
   refine Ev.bind hc (Ev.congr (f := fun _ => some (g.set q (row ++ [x]),n3,m3)) (fun k => ?_) (Ev.now _))
   simp only [Zq.f]
   rw [e1,Option.bind_some,if_neg c0,if_pos c1,Option.bind_some,e2,Option.bind_some,if_pos b0,if_pos hb2,Option.bind_some,e3,Option.bind_some,rdL2_nat,getD_of hq,if_pos (by omega),Int.toNat_natCast]
  ·intro y hy
   rcases List.mem_or_eq_of_mem_set hy with h | h
   ·exact up y h
   ·rw [h];simp;omega
 by_cases c2 : a = 2
 ·obtain ⟨r,hr,h4,h5⟩ := fill_loop s n1 m1 41 g (by omega) (by omega) up
  refine ⟨r,n1,m1,?_,h4,h5,hi1⟩
  unfold ZF.f
  exact Ev.bind hc (Ev.congr (fun k => by rw [e1,Option.bind_some,if_neg c0,if_neg c1,if_pos c2]) hr)
 ·refine ⟨g,n1,m1,?_,by omega,up,hi1⟩
  unfold ZF.f
  exact Ev.bind hc (Ev.congr (f := fun _ => some (g,n1,m1)) (fun k => by rw [e1,Option.bind_some,if_neg c0,if_neg c1,if_neg c2]) (Ev.now _))
def Sm (g : List (List Int)) : Prop := g.length ≤ 1000 ∧ ∀ x ∈ g, x.length ≤ 1000
theorem Sm.rows {g : List (List Int)} (h : Sm g) : ∀ row ∈ g, row.length < 4611686018427387904 := fun x hx => by have := h.2 x hx; omega
theorem Sm.len {g : List (List Int)} (h : Sm g) : g.length < 4611686018427387904 := by have := h.1; omega
theorem playfrom_draw (l : List Int) (hb : Bytes l) (hl : l.length ≤ 4096) : ∃ g p, Ev (fun k => Zal.f k l) (g, p) ∧ Sm g := by
 obtain ⟨m1,e1⟩ := from_ok l hl
 have hi1 : At l 0 := ⟨Int.le_refl 0,by omega⟩
 obtain ⟨g,n2,m2,e2,g0,g1,g2,hi2⟩ := draw_ok (m := m1) hb hl hi1
 obtain ⟨p,n3,m3,e3,hi3⟩ := near_ok (m := m2) (a := wrap64 ((g.length : Int) - 1)) hb hl hi2
 obtain ⟨c,n4,m4,e4,hi4,-⟩ := next_ok (m := m3) (a := 3) hb hl hi3
 obtain ⟨r,n5,m5,e5,r1,r2,-⟩ := badg_ok (m := m4) hb hl hi4 g g0 g1 g2
 refine ⟨r,if c = 0 then 0 else p,?_,r1,r2⟩
 unfold Zal.f Zaw.f
 simp only [Zq.f]
 refine Ev.bind (a := (r,if c = 0 then 0 else p)) (Ev.bind e1 (Ev.bind e2 ?_)) (Ev.now _)
 by_cases c0 : c = 0
 ·rw [if_pos c0]
  exact Ev.congr (fun k => by rw [Option.bind_some,e3,Option.bind_some,e4,Option.bind_some,if_pos c0]) (Ev.bind e5 (Ev.now _))
 ·rw [if_neg c0]
  exact Ev.congr (fun k => by rw [Option.bind_some,e3,Option.bind_some,e4,Option.bind_some,if_neg c0]) (Ev.bind (f := fun _ t => some (t.1,p)) e5 (Ev.now _))
theorem lengths_draw (l : List Int) (hb : Bytes l) (hl : l.length ≤ 4096) : ∃ g, Ev (fun k => Zaj.f k l) g ∧ Sm g := by
 obtain ⟨m1,e1⟩ := from_ok l hl
 have hi1 : At l 0 := ⟨Int.le_refl 0,by omega⟩
 obtain ⟨g,n2,m2,e2,g0,g1,g2,hi2⟩ := draw_ok (m := m1) hb hl hi1
 obtain ⟨r,n5,m5,e5,r1,r2,-⟩ := badg_ok (m := m2) hb hl hi2 g g0 g1 g2
 refine ⟨r,?_,r1,r2⟩
 unfold Zaj.f Zau.f
 exact Ev.bind e1 (Ev.bind (Ev.bind e2 (Ev.bind e5 (Ev.now _))) (Ev.now _))
theorem heap_draw (l : List Int) (hb : Bytes l) (hl : l.length ≤ 4096) : ∃ K xs, Ev (fun k => Zae.f k l) (K, xs) ∧ xs.length ≤ 100 := by
 obtain ⟨m1,e1⟩ := from_ok l hl
 have hi1 : At l 0 := ⟨Int.le_refl 0,by omega⟩
 obtain ⟨K,n2,m2,e2,hi2⟩ := near_ok (m := m1) (a := 39) hb hl hi1
 obtain ⟨xs,n3,m3,e3,x1,hi3⟩ := nums_ok (m := m2) hb hl hi2
 obtain ⟨c,n4,m4,e4,hi4,-⟩ := next_ok (m := m3) (a := 12) hb hl hi3
 by_cases c0 : c = 0
 ·obtain ⟨y,n5,m5,e5,-⟩ := pick_ok (m := m4) (l := ([0,1,40] : List Int)) hb hl hi4 (by simp)
  refine ⟨K,xs ++ [y],?_,by simp;omega⟩
  unfold Zae.f
  refine Ev.bind e1 (Ev.congr (fun k => by rw [e2,Option.bind_some]) (Ev.bind e3 (Ev.congr (f := fun _ => some (K,xs ++ [y])) (fun k => ?_) (Ev.now _))))
  rw [e4,Option.bind_some,if_pos c0,e5,Option.bind_some,if_pos (by show xs.length < _;omega)]
 by_cases c1 : c = 1
 ·refine ⟨K,[],?_,by simp⟩
  unfold Zae.f
  refine Ev.bind e1 (Ev.congr (fun k => by rw [e2,Option.bind_some]) (Ev.bind e3 (Ev.congr (f := fun _ => some (K,([] : List Int))) (fun k => ?_) (Ev.now _))))
  rw [e4,Option.bind_some,if_neg c0,if_pos c1]
 ·refine ⟨K,xs,?_,by omega⟩
  unfold Zae.f
  refine Ev.bind e1 (Ev.congr (fun k => by rw [e2,Option.bind_some]) (Ev.bind e3 (Ev.congr (f := fun _ => some (K,xs)) (fun k => ?_) (Ev.now _))))
  rw [e4,Option.bind_some,if_neg c0,if_neg c1]
theorem equal_draw (l : List Int) (hb : Bytes l) (hl : l.length ≤ 4096) : ∃ g p h q, Ev (fun k => Zn.f k l) (g, p, h, q) ∧ Sm g ∧ Sm h := by
 obtain ⟨m1,e1⟩ := from_ok l hl
 have hi1 : At l 0 := ⟨Int.le_refl 0,by omega⟩
 obtain ⟨g,n2,m2,e2,g0,g1,g2,hi2⟩ := draw_ok (m := m1) hb hl hi1
 obtain ⟨h,n3,m3,e3,h0,h1,h2,hi3⟩ := draw_ok (m := m2) hb hl hi2
 obtain ⟨p,n4,m4,e4,hi4⟩ := near_ok (m := m3) (a := wrap64 ((g.length : Int) - 1)) hb hl hi3
 obtain ⟨q,n5,m5,e5,hi5⟩ := near_ok (m := m4) (a := wrap64 ((h.length : Int) - 1)) hb hl hi4
 obtain ⟨r,n6,m6,e6,r1,r2,hi6⟩ := badg_ok (m := m5) hb hl hi5 g g0 g1 g2
 obtain ⟨t,n7,m7,e7,t1,t2,-⟩ := badg_ok (m := m6) hb hl hi6 h h0 h1 h2
 refine ⟨r,p,t,q,?_,⟨r1,r2⟩,⟨t1,t2⟩⟩
 unfold Zn.f
 simp only [Zq.f]
 refine Ev.bind e1 (Ev.bind e2 (Ev.bind e3 ?_))
 exact Ev.congr (fun k => by rw [Option.bind_some,e4,Option.bind_some,Option.bind_some,e5,Option.bind_some]) (Ev.bind e6 (Ev.bind (f := fun _ u => some (r,p,u.1,q)) e7 (Ev.now _)))
end Go.Proofs.Ytfpoppidppoeoaa.PX
namespace Go.Proofs.Ytfpoppidppoeoaa.PX
open Go.RowKit Go.Proofs.YtfpoppidppoeoaaW.PrintWords Go.Proofs.YtfpoppidppoeoaaW.PrintLast Go.Proofs.YtfpoppidppoeoaaW.PrintMore
attribute [local go_sem] max2_int min2_int max_two min_two max_three min_three max_four min_four
set_option linter.unusedVariables false
set_option linter.unusedSimpArgs false
open Go.Maps (Keyed)
set_option maxHeartbeats 8000000
set_option maxRecDepth 100000
def setD (L : List Int) : DataW Unit := L.foldl (fun D x => D.put (.int .i64 x) (.lit (.bool true))) (.map [])
theorem setD_snoc (L : List Int) (x : Int) : setD (L ++ [x]) = (setD L).put (.int .i64 x) (.lit (.bool true)) := by unfold setD; rw [List.foldl_append]; rfl
theorem foldD_at (x : Int) : ∀ (L : List Int) (D : DataW Unit), Go.Maps.IsMap D → (L.foldl (fun D x => D.put (.int .i64 x) (.lit (.bool true))) D).atKey (.int .i64 x) (.lit (.bool false)) = if x ∈ L then .lit (.bool true) else D.atKey (.int .i64 x) (.lit (.bool false))
 | [],D,_ => by simp
 | y :: L,D,h => by
  rw [List.foldl_cons,foldD_at x L _ (h.put _ _)]
  by_cases c : x ∈ L
  ·rw [if_pos c,if_pos (List.mem_cons_of_mem _ c)]
  ·rw [if_neg c]
   by_cases e : x = y
   ·subst e
    rw [if_pos List.mem_cons_self]
    exact Go.Maps.atKey_put_same h (show Go.WideAt.IsKeyLit (.int .i64 x) from trivial) _ _
   ·rw [if_neg (fun hm => by rcases List.mem_cons.1 hm with h1 | h1;exact e h1;exact c h1)]
    exact Go.Maps.atKey_put_other (fun h1 => e (by injection h1)) _ _
theorem setD_at (L : List Int) (x : Int) : (setD L).atKey (.int .i64 x) (.lit (.bool false)) = .lit (.bool (decide (x ∈ L))) := by
 unfold setD
 rw [foldD_at x L _ ⟨[],rfl⟩]
 by_cases c : x ∈ L
 ·rw [if_pos c,decide_eq_true c]
 ·rw [if_neg c,decide_eq_false c];rfl
theorem keyLaw : Keyed Try.prog 2 := Go.Maps.int_keyed Try.underlying2
theorem zeroB (w : World) : (zeroValue 4).run Try.prog w = .ok (.bool false) w := by kernel_rfl
def SetAt (w : World) (b : Nat) (L : List Int) : Prop := w.ownsMap Try.prog 2 (plainElem (H := Unit) Try.prog 4) b L.length (setD L)
theorem SetAt.kept {w w' : World} {b : Nat} {L : List Int} {row : Option Nat} (h : SetAt w b L) (hg : w.grownBy w' row) (hne : some b ≠ row) : SetAt w' b L := World.ownsMap.kept h hg hne
theorem SetAt.below {w w' : World} {B b : Nat} {L : List Int} (h : SetAt w b L) (hg : Below B w w') (hb : b < B) : SetAt w' b L := by
 obtain ⟨es,clock,h1,F,hs,hD⟩ := h
 exact ⟨es,clock,(hg.block b hb).trans h1,F,hs,hD⟩
theorem SetAt.made (w : World) : SetAt (w.alloc (.map #[] 0)) w.heap.size [] := World.ownsMap_made w _ _ _
section
variable {ops : Array Oper} {rest : List Oper} {o : Oper} {a : Act} {Q : Exit → Act → World → Prop} {w : World}
theorem set_look (hg : o.guard = none) (m x : Operand) (hop : o.op = Op.lookup 53 m x false) (b : Nat) (L : List Int) (k : Int)
 (hm : a.eval m = .map (some b)) (h : SetAt w b L) (hx : a.eval x = .int .i64 k) (hk : (Lit.int .i64 k).wf = true)
 (hK : wpList Try.prog ops Q rest (a.put o.dst (.bool (decide (k ∈ L)))) w) : wpList Try.prog ops Q (o :: rest) a w := by
 refine wpList_plain hg fun K' hK' => ?_
 obtain ⟨v,ps,hrun,hv⟩ := World.ownsMap.lookup h keyLaw Try.underlying53 (zeroB w) (plainElem_bool Try.underlying4 false) (Go.Maps.keyOf_int_mk Try.underlying2 hk)
 rw [setD_at] at hv
 have e : v = .bool (decide (k ∈ L)) := by
  unfold plainElem at hv
  rw [Try.underlying4] at hv
  cases v <;> simp at hv
  rw [hv.1]
 subst e
 unfold Oper.wp
 simp [execOp,hop,hm,hx,hrun,Result.andThen]
 exact hK' _ _ hK
theorem set_put (hg : o.guard = none) (m x v : Operand) (hop : o.op = Op.mapUpdate 53 m x v ∨ o.op = Op.insert 53 m x v) (b : Nat) (L : List Int) (k : Int)
 (hm : a.eval m = .map (some b)) (h : SetAt w b L) (hn : L.length < maxLen) (hx : a.eval x = .int .i64 k) (hv : a.eval v = .bool true) (hk : (Lit.int .i64 k).wf = true)
 (hK : ∀ w',SetAt w' b (L ++ [k]) → w.grownBy w' (some b) → wpList Try.prog ops Q rest (a.put o.dst undef) w') : wpList Try.prog ops Q (o :: rest) a w := by
 refine wpList_plain hg fun K' hK' => ?_
 obtain ⟨w',hrun,r1,r2⟩ := World.ownsMap.update h keyLaw Try.underlying53 hn (Go.Maps.keyOf_int_mk Try.underlying2 hk) (plainElem_bool Try.underlying4 true)
 unfold Oper.wp
 have r3 : SetAt w' b (L ++ [k]) := by
  unfold SetAt
  rw [setD_snoc,List.length_append]
  exact r1
 rcases hop with hop | hop <;> simp [execOp,hop,hm,hx,hv,hrun,Result.andThen] <;> exact hK' _ _ (hK w' r3 r2)
theorem map_event (hgd : o.guard = none) {N : Tmp} (_hd : o.dst = some N)
 (hrun : (execOp a.eval o).run Try.prog w = .ok (.value (.map (some w.heap.size))) (w.alloc (.map #[] 0)))
 (h : ∀ g,g = w.heap.size → ∀ w1,SetAt w1 g [] → Below w.heap.size w w1 → wpList Try.prog ops Q rest (a.put o.dst (.map (some g))) w1) : wpList Try.prog ops Q (o :: rest) a w :=
 Kd.event_run hgd hrun (h _ rfl _ (SetAt.made w) (below_alloc (Below.refl _ _) _))
end
end Go.Proofs.Ytfpoppidppoeoaa.PX
namespace Go.Proofs.Ytfpoppidppoeoaa.PX
open Go.RowKit Go.Proofs.YtfpoppidppoeoaaW.PrintWords Go.Proofs.YtfpoppidppoeoaaW.PrintLast Go.Proofs.YtfpoppidppoeoaaW.PrintMore
attribute [local go_sem] max2_int min2_int max_two min_two max_three min_three max_four min_four
set_option linter.unusedVariables false
set_option linter.unusedSimpArgs false
set_option maxHeartbeats 8000000
set_option maxRecDepth 100000
def reachV (g : List (List Int)) (L : List Int) (q : Int) : Option (Bool × List Int) :=
 if 0 ≤ q then (if q < (g.length : Int) then (if q ∈ L then (if L.length + (rd_L2 g q).length < 4294967296 then (if (rd_L2 g q).all (fun x => (Lit.int .i64 x).wf) = true then some (true,L ++ rd_L2 g q) else none) else none) else some (false,L)) else none) else none
theorem reached1_has : HasFn 42 := ⟨_, Try.func42, by kernel_rfl, rfl⟩
theorem SetAt.ne {w : World} {b g : Nat} {L : List Int} {cs : Array Value} {t : TypeId} {fr : Nat × Nat} (h : SetAt w b L) (hg : w.heap[g]? = some (.cells cs t fr)) : some g ≠ some b := by
 obtain ⟨es,clock,h1,_⟩ := h;intro e;cases e;rw [h1] at hg;cases hg
theorem reached1.calls (w0 : World) (A0 : Option Addr) (c0 : Nat) (g : List (List Int)) (hr : Kd.C (Kd.slice 2 (Kd.int .i64)) w0 A0 g.length g) (gb b7 bm : Nat) (hbm : w0.heap.size ≤ bm) (L : List Int) (x : Int) (t : Bool × List Int) (w : World)
 (hb : Below w0.heap.size w0 w) (hG : w.heap[gb]? = some (.cells #[.slice A0 g.length c0] 26 (0,0))) (hM : w.heap[b7]? = some (.cells #[.map (some bm)] 53 (0,0)))
 (hS : SetAt w bm L) (h : reachV g L x = some t) :
 Calls Try.prog 42 (#[.int .i64 x] ++ #[.pointer (some ⟨b7,0,none⟩),.pointer (some ⟨gb,0,none⟩)]) w fun e w' => e = .returned (.bool t.1) ∧ SetAt w' bm t.2 ∧ w.grownBy w' (some bm) := by
 show Calls Try.prog 42 #[.int .i64 x,.pointer (some ⟨b7,0,none⟩),.pointer (some ⟨gb,0,none⟩)] w fun e w' => e = .returned (.bool t.1) ∧ SetAt w' bm t.2 ∧ w.grownBy w' (some bm)
 have hu := Try.underlying26;have hmax := Kd.C_max hr;have HR := aK hr;have HBM := aK hbm;have HB := aK hb;have HG := aK hG;have HM := aK hM;have HS := aK hS;have hzg : w.cell? ⟨gb,0,none⟩ = some (.slice A0 g.length c0) := (blk_cell HG.out 0).trans rfl;have hfg := fZ HG 0;have hzm : w.cell? ⟨b7,0,none⟩ = some (.map (some bm)) := (blk_cell HM.out 0).trans rfl;have hfm := fZ HM 0;clear hr hbm hb hG hM hS;unfold reachV at h
 by_cases c1 : 0 ≤ x
 rotate_left
 ·rw [if_neg c1] at h;exact absurd h (by simp)
 rw [if_pos c1] at h
 by_cases c2 : x < (g.length : Int)
 rotate_left
 ·rw [if_neg c2] at h;exact absurd h (by simp)
 rw [if_pos c2] at h;have HX := aK (show (Lit.int .i64 x).wf = true from WalkArith.wf_i64 (by omega));clear hmax
 by_cases c3 : x ∈ L
 ·rw [if_pos c3] at h
  by_cases c4 : L.length + (rd_L2 g x).length < 4294967296
  rotate_left
  ·rw [if_neg c4] at h;exact absurd h (by simp)
  rw [if_pos c4] at h
  by_cases c5 : (rd_L2 g x).all (fun x => (Lit.int .i64 x).wf) = true
  rotate_left
  ·rw [if_neg c5] at h;exact absurd h (by simp)
  rw [if_pos c5] at h;obtain rfl := Option.some.inj h;clear h;have C3 := aK (decide_eq_true c3);have C3' := aK c3;have C4 := aK c4;have C5 := aK c5;clear c3 c4 c5;have c1b := decide_eq_true c1;have c2b := decide_eq_true c2;obtain ⟨ad,A1,c6,e1,hx,hl,hi⟩ := at_L2 HR.out x c1 c2;cases e1;replace hx := cO HB hx;have HI := aK hi
  generalize rd_L2 g x = row at *
  replace c1 := eq_true c1;replace c2 := eq_true c2;clear hi;go_enter Try.func42,Try.ntmps42
  go_wp2_with (first | (at_lookup;refine set_look rfl _ _ rfl bm L x rfl HS.out rfl HX.out ?_;rw [C3.out]))
  go_loopg [16] (row.length + 1) (fun kq v16 w' => ∃ (x16 : Int),v16 = .int .i64 x16 ∧ Aside0 (∃ j : Nat,x16 = (j : Int) ∧ j ≤ row.length ∧ kq + j = row.length + 1 ∧ SetAt w' bm (L ++ row.take j)) ∧ Aside0 (w.grownBy w' (some bm)))
  case atStart => exact ⟨0,rfl,⟨0,rfl,Nat.zero_le _,rfl,by rw [List.take_zero,List.append_nil];exact HS.out⟩,⟨World.grownBy.refl _ _⟩⟩
  case round =>
   obtain ⟨x16,rfl,⟨j,hj0,hj1,hj2,hj3⟩,HGR⟩ := hrel;have HJ := aK hj0;have HJ1 := aK hj1;have HJ2 := aK hj2;have HJ3 := aK hj3;clear hj0 hj1 hj2 hj3 hzg hfg hzm hfm hx;have HBr := aK (Below.grown HB.out HGR.out HB.out.size (fun k hk => by cases hk;exact HBM.out));have HMr := aK (blk_grown HM.out HGR.out (SetAt.ne HS.out HM.out));have hzm : wr.cell? ⟨b7,0,none⟩ = some (.map (some bm)) := (blk_cell HMr.out 0).trans rfl;have hfm := fZ HMr 0
   by_cases c7 : x16 < (row.length : Int)
   ·have c7b := decide_eq_true c7;have p7 : 0 ≤ x16 := by rw [HJ.out];omega
    have p7b := decide_eq_true p7;obtain ⟨ad2,e2,hx2⟩ := Kd.at_int HI.out x16 p7 c7;cases e2;replace hx2 := cO HBr hx2;obtain ⟨y,hy⟩ : ∃ y,row[j]? = some y := ⟨_,List.getElem?_eq_getElem (by have := HJ.out;omega)⟩;have hrd : rd row x16 = y := by
     unfold rd;rw [HJ.out,Int.toNat_natCast,List.getD_eq_getElem?_getD,hy];rfl
    rw [hrd] at hx2;have HY := aK hy;have HW := aK (List.all_eq_true.1 C5.out y (List.mem_of_getElem? hy));clear hy hrd;replace p7 := eq_true p7;replace c7 := eq_true c7
    go_wp2_with (first | (at_mapUpdate;refine set_put rfl _ _ _ (.inl rfl) bm (L ++ row.take j) y rfl HJ3.out (by have := C4.out;simp only [List.length_append,List.length_take];unfold maxLen;omega) rfl rfl HW.out ?_;intro w5 hs5 hg5))
    go_roundg (row.length - j)
    case measure => have := HJ1.out;have := HJ2.out;have := (List.getElem?_eq_some_iff.1 HY.out).1;omega
    case rel =>
     have hlt := (List.getElem?_eq_some_iff.1 HY.out).1;refine ⟨(wrap64 (x16 + 1)),rD,⟨j + 1,?_,hlt,?_,?_⟩,⟨HGR.out.trans hg5⟩⟩
     ·have := HJ.out;have := Kd.C_max HI.out;unfold wrap64;omega
     ·have := HJ2.out;omega
     ·rw [List.take_add_one,HY.out,← List.append_assoc];exact hs5
   ·have c7b := decide_eq_false c7;have HN := aK c7;clear c7;have HEND := aK (show SetAt wr bm (L ++ row) by
     have h1 := HJ3.out;rw [List.take_of_length_le (by have := HN.out;have := HJ.out;omega)] at h1;exact h1)
    go_wp2_with (first | (at_lookup;refine set_look rfl _ _ rfl bm (L ++ row) x rfl HEND.out rfl HX.out ?_;rw [decide_eq_true (List.mem_append_left row C3'.out)]))
    go_ret;exact ⟨rfl,HEND.out,HGR.out⟩
 ·rw [if_neg c3] at h;obtain rfl := Option.some.inj h;clear h;have C3 := aK (decide_eq_false c3);clear c3;go_enter Try.func42,Try.ntmps42
  go_wp2_with (first | (at_lookup;refine set_look rfl _ _ rfl bm L x rfl HS.out rfl HX.out ?_;rw [C3.out]))
  go_ret;exact ⟨rfl,HS.out,World.grownBy.refl _ _⟩
theorem gate_insert {P : Program} {ops : Array Oper} {Q : Exit → Act → World → Prop} {rest : List Oper} {o : Oper} {a : Act} {w : World} {t : TypeId} {m x v : Operand} (_h : o.op = .insert t m x v) (h : wpList P ops Q (o :: rest) a w) : wpList P ops Q (o :: rest) a w := h
def Zao.f (k : Nat) (g : List (List Int)) (p : Int) : Option (List Int × Int) := (ZL.f k g p).bind fun t => if t = 0 then (if (Lit.int .i64 p).wf = true then (chosenS.f (reachV g) k [p] (g.length : Int)).bind fun r => some (r, 0) else none) else some ([], t)
theorem Zao.mono : ∀ a0 a1 k, LeO (Zao.f k a0 a1) (Zao.f (k + 1) a0 a1) := by
 intro a0 a1 k;unfold Zao.f;refine LeO.bind (ZL.mono _ _ _) (fun _ => ?_);exact LeO.ite (LeO.ite (LeO.bind (chosenS.mono _ _ _ _) (fun _ => LeO.refl _)) (LeO.refl _)) (LeO.refl _)
theorem Zao.calls (k : Nat) (A0_0 : Option Addr) (c0_0 : Nat) (l0_0 : List (List Int)) (a1 : Int) (r1 : List Int) (r2 : Int) (w : World) (hr0_0 : Kd.C (Kd.slice 2 (Kd.int .i64)) w A0_0 l0_0.length l0_0) (hc0_0 : l0_0.length ≤ c0_0) (h : Zao.f k l0_0 a1 = some (r1, r2)) :
 Calls Try.prog 10 #[.agg #[.slice A0_0 l0_0.length c0_0],.int .i64 a1] w fun e w' => ∃ v0_ : Value,e = .returned (.tuple #[v0_,.int .i64 r2]) ∧ Kd.R (Kd.int .i64) 2 w' w.heap.size (fun _ => True) v0_ r1 ∧ Below w.heap.size w w' := by
 have hu26 := Try.underlying26;have HR0_0 := aK hr0_0;have HC0_0 := aK hc0_0;clear hr0_0 hc0_0;have HB := aK (Below.refl w.heap.size w);unfold Zao.f at h;obtain ⟨t,A20,h⟩ := Option.bind_eq_some_iff.mp h;have A2 := aK A20;clear A20
 by_cases c : t = 0
 ·subst c;rw [if_pos rfl] at h
  by_cases c1 : (Lit.int .i64 a1).wf = true
  rotate_left
  ·rw [if_neg c1] at h;exact absurd h (by simp)
  rw [if_pos c1] at h;have HW1 := aK c1;clear c1;obtain ⟨r,A30,h⟩ := Option.bind_eq_some_iff.mp h;have A3 := aK A30;clear A30;simp only [Option.some.injEq,Prod.mk.injEq] at h;obtain ⟨rfl,rfl⟩ := h;go_enter Try.func10,Try.ntmps10
  go_wp2_with (first | ((with_reducible refine wP ?_);refine boxE 2 #[.slice A0_0 l0_0.length c0_0] 26 ?_;intro gb1 hg w2 hbox hb;have GPgb1 := aK hg;have BK := aK hbox;clear hg hbox;replace HB := aK (below_then HB.out HB.out.size hb);clear hb;have hz_gb1 : w2.cell? ⟨gb1,0,none⟩ = some (.slice A0_0 l0_0.length c0_0) := (blk_cell BK.out 0).trans rfl;have hf_gb1 := fZ BK 0) | ((with_reducible refine wP ?_);refine gT 10 Try.func33 (ZL.calls k _ _ l0_0 a1 0 _ (Kd.C_below HR0_0.out HB.out) HC0_0.out A2.out) ?_;intro w3 hb;replace HB := aK (below_then HB.out HB.out.size hb);replace BK := aK (blk_below (g := gb1) (o := .cells #[.slice A0_0 l0_0.length c0_0] 26 (0,0)) BK.out hb);clear hb;clear hz_gb1;have hz_gb1 : w3.cell? ⟨gb1,0,none⟩ = some (.slice A0_0 l0_0.length c0_0) := (blk_cell BK.out 0).trans rfl;replace hf_gb1 := fZ BK 0) | ((with_reducible refine gate_dst (N := 14) rfl ?_);refine map_event ?hg (N := 14) ?hd ?hr ?_;(case hd => rfl);(case hg => rfl);(case hr => first | (go_simp;done) | (go_simp;rfl));intro bm hg w4 hs hb;have GPbm := aK (show w.heap.size ≤ bm by rw [hg];exact HB.out.size);have HS := aK hs;clear hg hs;replace HB := aK (below_then HB.out HB.out.size hb);replace BK := aK (blk_below (g := gb1) (o := .cells #[.slice A0_0 l0_0.length c0_0] 26 (0,0)) BK.out hb);clear hb;clear hz_gb1;have hz_gb1 : w4.cell? ⟨gb1,0,none⟩ = some (.slice A0_0 l0_0.length c0_0) := (blk_cell BK.out 0).trans rfl;replace hf_gb1 := fZ BK 0) | ((with_reducible refine gate_insert rfl ?_);refine set_put rfl _ _ _ (.inr rfl) bm [] a1 rfl HS.out (by unfold maxLen;simp) rfl rfl HW1.out ?_;intro w5 hs hg;replace HB := aK (Below.grown HB.out hg HB.out.size (fun k hk => by cases hk;exact GPbm.out));replace BK := aK (blk_grown (o := .cells #[.slice A0_0 l0_0.length c0_0] 26 (0,0)) BK.out hg (SetAt.ne HS.out BK.out));replace HS := aK ((show SetAt w5 bm [a1] from hs));clear hs hg;clear hz_gb1;have hz_gb1 : w5.cell? ⟨gb1,0,none⟩ = some (.slice A0_0 l0_0.length c0_0) := (blk_cell BK.out 0).trans rfl;replace hf_gb1 := fZ BK 0) | ((with_reducible refine wP ?_);refine boxE 7 #[.map none] 53 ?_;intro gb2 hg w6 hbox hb;have GPgb2 := aK hg;have BK20 := aK hbox;clear hg hbox;have LT := aK (World.ownsMap.lt HS.out);have L1 := aK (blk_lt BK.out);have H4 := aK HB.out.size;replace HB := aK (below_then HB.out HB.out.size hb);replace BK := aK (blk_below (g := gb1) (o := .cells #[.slice A0_0 l0_0.length c0_0] 26 (0,0)) BK.out hb);replace HS := aK (SetAt.below HS.out hb LT.out);clear hb;clear hz_gb1;have hz_gb1 : w6.cell? ⟨gb1,0,none⟩ = some (.slice A0_0 l0_0.length c0_0) := (blk_cell BK.out 0).trans rfl;replace hf_gb1 := fZ BK 0;have hz_gb2 : w6.cell? ⟨gb2,0,none⟩ = some (.map none) := (blk_cell BK20.out 0).trans rfl;have hf_gb2 := fZ BK20 0) | ((with_reducible refine gate_store (t := 53) (p := 7) rfl ?_);refine store_event (t := 53) (p := 7) (v := ?vo_w6) (w1 := (w6.setCell ⟨gb2,0,none⟩ (.map (some bm)))) ?hg ?ho ?hn ?hr ?_;(case ho => rfl);(case hg => rfl);(case hn => rfl);(case hr => first | (go_simp;done) | (go_simp;rfl));intro w7 hw;replace HB := aK ((by rw [hw];exact below_set (HB.out) (by have g_ := GPgb2.out;have hb_ := H4.out;omega) : Below w.heap.size w w7));replace BK := aK ((by rw [hw];exact blk_far (BK.out) (by have l1_ := L1.out;have g2_ := GPgb2.out;show gb1 ≠ gb2;omega) _ : w7.heap[gb1]? = some (.cells #[.slice A0_0 l0_0.length c0_0] 26 (0,0))));replace BK20 := aK ((by rw [hw];exact blk_put (cs := #[.map none]) (BK20.out) 0 _ rfl : w7.heap[gb2]? = some (.cells #[.map (some bm)] 53 (0,0))));replace HS := aK ((by rw [hw];exact World.ownsMap.setCell HS.out (by have l1_ := LT.out;have g2_ := GPgb2.out;show bm ≠ gb2;omega) _ : SetAt w7 bm [a1]));have BK2 := BK20;clear BK20 hw;clear hz_gb1;have hz_gb1 : w7.cell? ⟨gb1,0,none⟩ = some (.slice A0_0 l0_0.length c0_0) := (blk_cell BK.out 0).trans rfl;replace hf_gb1 := fZ BK 0;clear hz_gb2;have hz_gb2 : w7.cell? ⟨gb2,0,none⟩ = some (.map (some bm)) := (blk_cell BK2.out 0).trans rfl;replace hf_gb2 := fZ BK2 0) | ((with_reducible refine wP ?_);refine gT 19 Try.func41 (calls_below (Zan.calls _ _ l0_0 (l0_0.length : Int) _ (Kd.C_below HR0_0.out HB.out) HC0_0.out rfl)) ?_;intro w8 hb;have LT7 := aK (World.ownsMap.lt HS.out);replace HB := aK (below_then HB.out HB.out.size hb);replace BK := aK (blk_below (g := gb1) (o := .cells #[.slice A0_0 l0_0.length c0_0] 26 (0,0)) BK.out hb);replace BK2 := aK (blk_below (g := gb2) (o := .cells #[.map (some bm)] 53 (0,0)) BK2.out hb);replace HS := aK (SetAt.below HS.out hb LT7.out);clear hb;clear hz_gb1;have hz_gb1 : w8.cell? ⟨gb1,0,none⟩ = some (.slice A0_0 l0_0.length c0_0) := (blk_cell BK.out 0).trans rfl;replace hf_gb1 := fZ BK 0;clear hz_gb2;have hz_gb2 : w8.cell? ⟨gb2,0,none⟩ = some (.map (some bm)) := (blk_cell BK2.out 0).trans rfl;replace hf_gb2 := fZ BK2 0) | ((with_reducible refine wP ?_);refine goesE (some 21) Try.func40 #[.int .i64 (l0_0.length : Int),.func (.func 42) #[] #[.pointer (some ⟨gb2,0,none⟩),.pointer (some ⟨gb1,0,none⟩)]] ?_;have LT8 := aK (World.ownsMap.lt HS.out);refine (chosenS.calls (reachV l0_0) (fun s w1 => SetAt w1 bm s ∧ w1.heap[gb2]? = some (.cells #[.map (some bm)] 53 (0,0)) ∧ w1.heap[gb1]? = some (.cells #[.slice A0_0 l0_0.length c0_0] 26 (0,0)) ∧ Below w.heap.size w w1) _ _ reached1_has w.heap.size bm k [a1] _ r _ GPbm.out LT8.out (fun s x t w1 hst hv => (reached1.calls w A0_0 c0_0 l0_0 HR0_0.out gb1 gb2 bm GPbm.out s x t w1 hst.2.2.2 hst.2.2.1 hst.2.1 hst.1 hv).mono (fun e w2_ hh => ⟨hh.1,⟨hh.2.1,blk_grown hst.2.1 hh.2.2 (SetAt.ne hst.1 hst.2.1),blk_grown hst.2.2.1 hh.2.2 (SetAt.ne hst.1 hst.2.2.1),Below.grown hst.2.2.2 hh.2.2 hst.2.2.2.size (fun j hj => by cases hj;exact GPbm.out)⟩,hh.2.2⟩)) (fun s w1 w2_ hsz hst hb => ⟨SetAt.below hst.1 hb LT8.out,(hb.block gb2 (blk_lt BK2.out)).trans hst.2.1,(hb.block gb1 (blk_lt BK.out)).trans hst.2.2.1,hst.2.2.2.trans (hb.mono HB.out.size)⟩) ⟨HS.out,BK2.out,BK.out,HB.out⟩ A3.out).mono ?_;rintro e w9 ⟨v9,rfl,ho,hb⟩;refine ⟨_,rfl,?_⟩;have HO := aK (Kd.R_lower ho HB.out.size);replace HB := aK (HB.out.trans hb);clear hb ho))
  go_ret2;exact ⟨_,rfl,HO.out,HB.out⟩
 ·rw [if_neg c] at h;simp only [Option.some.injEq,Prod.mk.injEq] at h;obtain ⟨rfl,rfl⟩ := h;have hne := bne_iff_ne.mpr c;have hne2 := beq_eq_false_iff_ne.mpr c;go_enter Try.func10,Try.ntmps10
  go_wp2_with ((with_reducible refine wP ?_);first | (refine boxE 2 #[.slice A0_0 l0_0.length c0_0] 26 ?_;intro gb1 hg w2 hbox hb;have GPgb1 := aK hg;have BK := aK hbox;clear hg hbox;replace HB := aK (below_then HB.out HB.out.size hb);clear hb;have hz_gb1 : w2.cell? ⟨gb1,0,none⟩ = some (.slice A0_0 l0_0.length c0_0) := (blk_cell BK.out 0).trans rfl;have hf_gb1 := fZ BK 0) | (refine gT 10 Try.func33 (ZL.calls k _ _ l0_0 a1 t _ (Kd.C_below HR0_0.out HB.out) HC0_0.out A2.out) ?_;intro w3 hb;replace HB := aK (below_then HB.out HB.out.size hb);replace BK := aK (blk_below (g := gb1) (o := .cells #[.slice A0_0 l0_0.length c0_0] 26 (0,0)) BK.out hb);clear hb;clear hz_gb1;have hz_gb1 : w3.cell? ⟨gb1,0,none⟩ = some (.slice A0_0 l0_0.length c0_0) := (blk_cell BK.out 0).trans rfl;replace hf_gb1 := fZ BK 0))
  go_ret2;exact ⟨_,rfl,Kd.R_nil _ _ _ _ _,HB.out⟩
end Go.Proofs.Ytfpoppidppoeoaa.PX
namespace Go.Proofs.Ytfpoppidppoeoaa.PX
open Go.RowKit Go.Proofs.YtfpoppidppoeoaaW.PrintWords Go.Proofs.YtfpoppidppoeoaaW.PrintLast Go.Proofs.YtfpoppidppoeoaaW.PrintMore
attribute [local go_sem] max2_int min2_int max_two min_two max_three min_three max_four min_four
set_option linter.unusedVariables false
set_option linter.unusedSimpArgs false
mutual
def Za.j0 : Nat → List Int → Int → List Int → Int → List Int → List Int → Bool → List (List Int) → Option (Bool)
 | 0,_,_,_,_,_,_,_,_ => none
 | k + 1,x0,x4,x5,x6,x9,x13,x135,xq4 => if x135 = true then (some false) else (if x6 = 0 then ((ZS.f k xq4).bind fun bt932 => ((Zav.f k xq4).bind fun bt936 => ((ZT.f k xq4).bind fun bt940 => ((ZY.f k xq4).bind fun bt944 => (if bt932.2 = 0 then (if bt936.2 = 0 then (if bt940.2 = 0 then (if bt944.2 = 0 then (if 0 ≤ x4 then (if x4 < (bt940.1.length : Int) then (if (x5.length : Int) < (rd bt940.1 x4) then (Za.j1 k x0 x4 x5 x9 x13 bt932.1 bt936.1 true xq4) else (if x4 < (bt944.1.length : Int) then (if (x5.length : Int) > (rd bt944.1 x4) then (Za.j1 k x0 x4 x5 x9 x13 bt932.1 bt936.1 true xq4) else (if x4 < (bt932.1.length : Int) then (Za.j1 k x0 x4 x5 x9 x13 bt932.1 bt936.1 ((rdOf false bt932.1 x4) != (decide ((x9.length : Int) > 0))) xq4) else (none))) else (none))) else (none)) else (none)) else (Za.j1 k x0 x4 x5 x9 x13 bt932.1 bt936.1 true xq4)) else (Za.j1 k x0 x4 x5 x9 x13 bt932.1 bt936.1 true xq4)) else (Za.j1 k x0 x4 x5 x9 x13 bt932.1 bt936.1 true xq4)) else (Za.j1 k x0 x4 x5 x9 x13 bt932.1 bt936.1 true xq4)))))) else (Za.j5 k x0))
def Za.j5 : Nat → List Int → Option (Bool)
 | 0,_ => none
 | k + 1,x0 => (Zaj.f k x0).bind fun t961 => ((ZK.f k t961).bind fun bt965 => ((Zf.f k t961).bind fun bt969 => ((Zah.f k t961).bind fun bt973 => ((Zb.f k t961).bind fun bt977 => ((ZT.f k t961).bind fun bt981 => ((Zo.f k t961).bind fun bt985 => ((ZY.f k t961).bind fun bt989 => ((Zm.f k t961).bind fun bt993 => (if bt965.2 = bt969.2 then ((Zd.f k bt965.1 bt969.1).bind fun t997 => (if t997 = true then (if bt973.2 = bt977.2 then ((Zd.f k bt973.1 bt977.1).bind fun t998 => (if t998 = true then (if bt981.2 = bt985.2 then ((Zd.f k bt981.1 bt985.1).bind fun t999 => (if t999 = true then (if bt989.2 = bt993.2 then ((Zd.f k bt989.1 bt993.1).bind fun t1000 => (Za.j6 k x0 bt965.1 bt965.2 bt973.1 bt981.1 bt989.1 (!t1000) t961)) else (Za.j6 k x0 bt965.1 bt965.2 bt973.1 bt981.1 bt989.1 true t961)) else (Za.j6 k x0 bt965.1 bt965.2 bt973.1 bt981.1 bt989.1 true t961))) else (Za.j6 k x0 bt965.1 bt965.2 bt973.1 bt981.1 bt989.1 true t961)) else (Za.j6 k x0 bt965.1 bt965.2 bt973.1 bt981.1 bt989.1 true t961))) else (Za.j6 k x0 bt965.1 bt965.2 bt973.1 bt981.1 bt989.1 true t961)) else (Za.j6 k x0 bt965.1 bt965.2 bt973.1 bt981.1 bt989.1 true t961))) else (Za.j6 k x0 bt965.1 bt965.2 bt973.1 bt981.1 bt989.1 true t961))))))))))
def Za.j6 : Nat → List Int → List Int → Int → List Int → List Int → List Int → Bool → List (List Int) → Option (Bool)
 | 0,_,_,_,_,_,_,_,_ => none
 | k + 1,x0,x29,x30,x33,x37,x41,x342,xq8 => if x342 = true then (some false) else (if x30 = 0 then ((ZS.f k xq8).bind fun bt1001 => (if bt1001.2 = 0 then (Za.l2 k x0 x29 x33 x37 x41 bt1001.1 (x29.length : Int) 0) else (some false))) else (Za.j8 k x0))
def Za.j8 : Nat → List Int → Option (Bool)
 | 0,_ => none
 | k + 1,x0 => (Zae.f k x0).bind fun bt1012 => ((Zl.f k bt1012.1 bt1012.2).bind fun bt1016 => ((ZB.f k bt1012.1 bt1012.2).bind fun bt1021 => (if bt1016.2 = bt1021.2 then ((Zas.f k bt1016.1 bt1021.1).bind fun t1026 => (Za.j9 k x0 bt1012.1 bt1016.2 (!t1026) bt1016.1)) else (Za.j9 k x0 bt1012.1 bt1016.2 true bt1016.1))))
def Za.j9 : Nat → List Int → Int → Int → Bool → List (List Int) → Option (Bool)
 | 0,_,_,_,_,_ => none
 | k + 1,x0,x48,x51,x423,xqd => if x423 = true then (some false) else (if x51 = 0 then (Za.j10 k x0 ((xqd.length : Int) != (wrap64 (x48 + 1)))) else (Za.j10 k x0 false))
def Za.j10 : Nat → List Int → Bool → Option (Bool)
 | 0,_,_ => none
 | k + 1,x0,x433 => if x433 = true then (some false) else ((Zn.f k x0).bind fun bt1027 => ((Zg.f k bt1027.1 bt1027.2.1 bt1027.2.2.1 bt1027.2.2.2).bind fun bt1037 => ((Zc.f k bt1027.1 bt1027.2.1 bt1027.2.2.1 bt1027.2.2.2).bind fun bt1039 => (if bt1037.2 = bt1039.2 then (some (bt1037.1 == bt1039.1)) else (some false)))))
def Za.l2 : Nat → List Int → List Int → List Int → List Int → List Int → List Bool → Int → Int → Option (Bool)
 | 0,_,_,_,_,_,_,_,_ => none
 | k + 1,x0,x29,x33,x37,x41,x45,x353,x354 => if x354 < x353 then (if 0 ≤ x354 then (if x354 < (x29.length : Int) then (if x354 < (x45.length : Int) then (if (((Int.tmod (rd x29 x354) 2) == 1) != (rdOf false x45 x354)) = true then (some false) else (if x354 < (x37.length : Int) then (if (rd x29 x354) < (rd x37 x354) then (some false) else (if x354 < (x41.length : Int) then (if (rd x29 x354) > (rd x41 x354) then (some false) else (if x354 < (x33.length : Int) then (if (rd x33 x354) < 1 then (some false) else (Za.l2 k x0 x29 x33 x37 x41 x45 x353 (wrap64 (x354 + 1)))) else (none))) else (none))) else (none))) else (none)) else (none)) else (none)) else (Za.j8 k x0)
def Za.j1 : Nat → List Int → Int → List Int → List Int → List Int → List Bool → List Int → Bool → List (List Int) → Option (Bool)
 | 0,_,_,_,_,_,_,_,_,_ => none
 | k + 1,x0,x4,x5,x9,x13,x17,x19,x199,xq4 => if x199 = true then (some false) else (Za.l0 k x0 x4 x5 x9 x13 x17 x19 x4 (x5.length : Int) 0 xq4)
def Za.l0 : Nat → List Int → Int → List Int → List Int → List Int → List Bool → List Int → Int → Int → Int → List (List Int) → Option (Bool)
 | 0,_,_,_,_,_,_,_,_,_,_,_ => none
 | k + 1,x0,x4,x5,x9,x13,x17,x19,x25,x202,x203,xq4 => if x203 < x202 then (if 0 ≤ x25 then (if x25 < (xq4.length : Int) then (if 0 ≤ x203 then (if x203 < (x5.length : Int) then ((ZN.f k (rd_L2 xq4 x25) (rd x5 x203)).bind fun t953 => (if t953 = true then ((ZN.f k x13 (rd x5 x203)).bind fun t955 => (if t955 = true then (Za.l0 k x0 x4 x5 x9 x13 x17 x19 (rd x5 x203) x202 (wrap64 (x203 + 1)) xq4) else (some false))) else (some false))) else (none)) else (none)) else (none)) else (none)) else ((ZN.f k x19 x25).bind fun t957 => (if t957 = true then (if 0 ≤ x4 then (if x4 < (x17.length : Int) then (Za.j3 k x0 x9 x17 ((((x5.length : Int) % 2) == 1) != (rdOf false x17 x4))) else (none)) else (none)) else (Za.j3 k x0 x9 x17 true)))
def Za.j3 : Nat → List Int → List Int → List Bool → Bool → Option (Bool)
 | 0,_,_,_,_ => none
 | k + 1,x0,x9,x17,x245 => if x245 = true then (some false) else (Za.l1 k x0 x9 x17 (x9.length : Int) 0)
def Za.l1 : Nat → List Int → List Int → List Bool → Int → Int → Option (Bool)
 | 0,_,_,_,_,_ => none
 | k + 1,x0,x9,x17,x247,x248 => if x248 < x247 then (if 0 ≤ x248 then (if x248 < (x9.length : Int) then (if 0 ≤ (rd x9 x248) then (if (rd x9 x248) < (x17.length : Int) then (if rdOf false x17 (rd x9 x248) = true then (some false) else (Za.l1 k x0 x9 x17 x247 (wrap64 (x248 + 1)))) else (none)) else (none)) else (none)) else (none)) else (Za.j5 k x0)
end
def Za.f (k : Nat) (l0 : List Int) : Option (Bool) := (Zay.f l0).bind fun t899 => (if t899 = true then (some true) else ((Zal.f k l0).bind fun bt900 => ((ZP.f k bt900.1 bt900.2).bind fun bt905 => ((ZM.f k bt900.1 bt900.2).bind fun bt909 => ((Zak.f k bt900.1 bt900.2).bind fun bt913 => ((Zap.f k bt900.1 bt900.2).bind fun bt917 => ((Zao.f k bt900.1 bt900.2).bind fun bt921 => ((Zk.f k bt900.1 bt900.2).bind fun bt925 => (if bt905.2 = bt909.2 then ((Zd.f k bt905.1 bt909.1).bind fun t929 => (if t929 = true then (if bt913.2 = bt917.2 then ((Zd.f k bt913.1 bt917.1).bind fun t930 => (if t930 = true then (if bt921.2 = bt925.2 then ((Zd.f k bt921.1 bt925.1).bind fun t931 => (Za.j0 k l0 bt900.2 bt905.1 bt905.2 bt913.1 bt921.1 (!t931) bt900.1)) else (Za.j0 k l0 bt900.2 bt905.1 bt905.2 bt913.1 bt921.1 true bt900.1)) else (Za.j0 k l0 bt900.2 bt905.1 bt905.2 bt913.1 bt921.1 true bt900.1))) else (Za.j0 k l0 bt900.2 bt905.1 bt905.2 bt913.1 bt921.1 true bt900.1)) else (Za.j0 k l0 bt900.2 bt905.1 bt905.2 bt913.1 bt921.1 true bt900.1))) else (Za.j0 k l0 bt900.2 bt905.1 bt905.2 bt913.1 bt921.1 true bt900.1))))))))))
theorem Za.mono_l : ∀ k, (∀ y0 y1 y2 y3 y4 y5 y6 y7, LeO (Za.j0 k y0 y1 y2 y3 y4 y5 y6 y7) (Za.j0 (k + 1) y0 y1 y2 y3 y4 y5 y6 y7)) ∧ (∀ y0, LeO (Za.j5 k y0) (Za.j5 (k + 1) y0)) ∧ (∀ y0 y1 y2 y3 y4 y5 y6 y7, LeO (Za.j6 k y0 y1 y2 y3 y4 y5 y6 y7) (Za.j6 (k + 1) y0 y1 y2 y3 y4 y5 y6 y7)) ∧ (∀ y0, LeO (Za.j8 k y0) (Za.j8 (k + 1) y0)) ∧ (∀ y0 y1 y2 y3 y4, LeO (Za.j9 k y0 y1 y2 y3 y4) (Za.j9 (k + 1) y0 y1 y2 y3 y4)) ∧ (∀ y0 y1, LeO (Za.j10 k y0 y1) (Za.j10 (k + 1) y0 y1)) ∧ (∀ y0 y1 y2 y3 y4 y5 y6 y7, LeO (Za.l2 k y0 y1 y2 y3 y4 y5 y6 y7) (Za.l2 (k + 1) y0 y1 y2 y3 y4 y5 y6 y7)) ∧ (∀ y0 y1 y2 y3 y4 y5 y6 y7 y8, LeO (Za.j1 k y0 y1 y2 y3 y4 y5 y6 y7 y8) (Za.j1 (k + 1) y0 y1 y2 y3 y4 y5 y6 y7 y8)) ∧ (∀ y0 y1 y2 y3 y4 y5 y6 y7 y8 y9 y10, LeO (Za.l0 k y0 y1 y2 y3 y4 y5 y6 y7 y8 y9 y10) (Za.l0 (k + 1) y0 y1 y2 y3 y4 y5 y6 y7 y8 y9 y10)) ∧ (∀ y0 y1 y2 y3, LeO (Za.j3 k y0 y1 y2 y3) (Za.j3 (k + 1) y0 y1 y2 y3)) ∧ (∀ y0 y1 y2 y3 y4, LeO (Za.l1 k y0 y1 y2 y3 y4) (Za.l1 (k + 1) y0 y1 y2 y3 y4))
 | 0 => ⟨fun _ _ _ _ _ _ _ _ r h => by simp [Za.j0] at h,fun _ r h => by simp [Za.j5] at h,fun _ _ _ _ _ _ _ _ r h => by simp [Za.j6] at h,fun _ r h => by simp [Za.j8] at h,fun _ _ _ _ _ r h => by simp [Za.j9] at h,fun _ _ r h => by simp [Za.j10] at h,fun _ _ _ _ _ _ _ _ r h => by simp [Za.l2] at h,fun _ _ _ _ _ _ _ _ _ r h => by simp [Za.j1] at h,fun _ _ _ _ _ _ _ _ _ _ _ r h => by simp [Za.l0] at h,fun _ _ _ _ r h => by simp [Za.j3] at h,fun _ _ _ _ _ r h => by simp [Za.l1] at h⟩
 | k + 1 => by
  obtain ⟨ih0,ih1,ih2,ih3,ih4,ih5,ih6,ih7,ih8,ih9,ih10⟩ := Za.mono_l k;refine ⟨?_,?_,?_,?_,?_,?_,?_,?_,?_,?_,?_⟩ <;> (intros;first | unfold Za.j0 | unfold Za.j5 | unfold Za.j6 | unfold Za.j8 | unfold Za.j9 | unfold Za.j10 | unfold Za.l2 | unfold Za.j1 | unfold Za.l0 | unfold Za.j3 | unfold Za.l1)
  all_goals have m0 := Zg.mono;have m1 := Zak.mono;have m2 := Zah.mono;have m3 := Zav.mono;have m4 := ZT.mono;have m5 := Zl.mono;have m6 := ZK.mono;have m7 := ZY.mono;have m8 := ZP.mono;have m9 := Zao.mono;have m10 := ZS.mono;have m11 := Zas.mono;have m12 := ZN.mono;have m13 := Zd.mono;have m14 := Zc.mono;have m15 := Zap.mono;have m16 := Zb.mono;have m17 := Zn.mono;have m18 := Zae.mono;have m19 := Zaj.mono;have m20 := Zal.mono;have m21 := Zo.mono;have m22 := ZB.mono;have m23 := Zf.mono;have m24 := Zm.mono;have m25 := ZM.mono;have m26 := Zk.mono;exact lO
theorem Za.mono : ∀ a0 k, LeO (Za.f k a0) (Za.f (k + 1) a0) := by
 intro a0 k;obtain ⟨ih0,ih1,ih2,ih3,ih4,ih5,ih6,ih7,ih8,ih9,ih10⟩ := Za.mono_l k;unfold Za.f
 have m0 := Zg.mono;have m1 := Zak.mono;have m2 := Zah.mono;have m3 := Zav.mono;have m4 := ZT.mono;have m5 := Zl.mono;have m6 := ZK.mono;have m7 := ZY.mono;have m8 := ZP.mono;have m9 := Zao.mono;have m10 := ZS.mono;have m11 := Zas.mono;have m12 := ZN.mono;have m13 := Zd.mono;have m14 := Zc.mono;have m15 := Zap.mono;have m16 := Zb.mono;have m17 := Zn.mono;have m18 := Zae.mono;have m19 := Zaj.mono;have m20 := Zal.mono;have m21 := Zo.mono;have m22 := ZB.mono;have m23 := Zf.mono;have m24 := Zm.mono;have m25 := ZM.mono;have m26 := Zk.mono;exact lO
def Za.T23 : Bool × List (List Nat × List Nat) := (true, [([], []), ([0], [0]), ([], []), ([1, 2], [1, 2]), ([3], [3]), ([], []), ([], []), ([5, 6], [5, 6]), ([7], [7]), ([4, 8], [4, 8]), ([9], [9]), ([10, 9], [10]), ([11], [11]), ([11], [11]), ([11], [11]), ([13, 14, 11], [11, 13, 14]), ([15, 11], [11, 15]), ([12, 16, 11, 11], [11, 12, 16]), ([17, 11], [11, 17]), ([11, 18], [11, 18])])
def Za.B23 : List Nat := [0, 1, 0, 7, 15, 0, 0, 96, 224, 511, 1023, 2047, 4095, 4095, 4095, 28671, 61439, 131071, 262143, 524287]
theorem Za.tab23 : rtab .any (opsOf Try.f3 23) = Za.T23 := by kernel_rfl
theorem Za.bits23 : waitsOk Za.T23.2 Za.B23 = true := by kernel_rfl
def Za.T53 : Bool × List (List Nat × List Nat) := (true, [([], []), ([], []), ([0, 1], [0, 1]), ([2], [2]), ([3], [3]), ([4], [4]), ([], []), ([], []), ([6, 7], [6, 7]), ([8], [8]), ([5, 9], [5, 9]), ([10], [10]), ([11], [11]), ([11], [11]), ([12, 13, 11], [11, 12, 13]), ([14, 11], [11, 14]), ([11], [11]), ([11], [11]), ([16, 17, 11], [11, 16, 17]), ([18, 11], [11, 18]), ([15, 19, 11], [11, 15, 19]), ([11, 20], [11, 20]), ([21, 11], [21]), ([22], [22]), ([22], [22]), ([23, 24, 22], [22, 23, 24]), ([25, 22], [22, 25]), ([22], [22]), ([22], [22]), ([27, 28, 22], [22, 27, 28]), ([29, 22], [22, 29]), ([26, 30, 22], [22, 26, 30]), ([22, 31], [22, 31]), ([32, 22], [32]), ([33], [33]), ([33], [33]), ([34, 35, 33], [33, 34, 35]), ([36, 33], [33, 36]), ([37, 33], [33, 37]), ([33, 38], [33, 38])])
def Za.B53 : List Nat := [0, 0, 3, 7, 15, 31, 0, 0, 192, 448, 1023, 2047, 4095, 4095, 16383, 32767, 4095, 4095, 200703, 462847, 1048575, 2097151, 4194303, 8388607, 8388607, 33554431, 67108863, 8388607, 8388607, 411041791, 947912703, 2147483647, 4294967295, 8589934591, 17179869183, 17179869183, 68719476735, 137438953471, 274877906943, 549755813887]
theorem Za.tab53 : rtab .any (opsOf Try.f3 53) = Za.T53 := by kernel_rfl
theorem Za.bits53 : waitsOk Za.T53.2 Za.B53 = true := by kernel_rfl
namespace Sect
def at_ : List Bool → Code → Code
  | [],c => c
  | false :: p,.seq a _ => at_ p a
  | true :: p,.seq _ b => at_ p b
  | false :: p,.cond _ a _ => at_ p a
  | true :: p,.cond _ _ b => at_ p b
  | _ :: p,.block _ c => at_ p c
  | _ :: p,.loop c => at_ p c
  | _ :: p,.scope c => at_ p c
  | _,c => c
end Sect
def Za.Pure : Prop := ∀ (l0 : List Int), l0.length ≤ maxLen → l0.length * 1 ≤ 140737488351232 → (∀ x ∈ l0, (Lit.int .u8 x).wf = true) → ∃ k, Za.f k l0 = some true
end Go.Proofs.Ytfpoppidppoeoaa.PX
namespace Go.Proofs.Ytfpoppidppoeoaa.PX
open Go.RowKit Go.Proofs.YtfpoppidppoeoaaW.PrintWords Go.Proofs.YtfpoppidppoeoaaW.PrintLast Go.Proofs.YtfpoppidppoeoaaW.PrintMore
attribute [local go_sem] max2_int min2_int max_two min_two max_three min_three max_four min_four
set_option linter.unusedVariables false
set_option linter.unusedSimpArgs false
set_option maxHeartbeats 8000000
set_option maxRecDepth 100000
def Za.R1 (k : Nat) (l0 : List Int) (r : Bool) (w : World) (t900 : List (List Int)) (t903 : Int) (t905 : List Int) (t908 : Int) (t913 t921 : List Int) (gb904 : Nat) (Ao14 : Option Addr) (co14 : Nat) (v906 v914 v922 : Value) (v135 : Value) (wc : World) : Prop := ∃ (kq : Nat) (x135_10 : Bool), v135 = .bool x135_10 ∧ Aside0 (Za.j0 kq l0 t903 t905 t908 t913 t921 x135_10 t900 = some r) ∧ Aside0 (kq ≤ k) ∧ Aside0 (Kd.R (Kd.int .i64) 2 wc w.heap.size (fun k_ => some k_ ≠ (v914 : Value).ownBlock ∧ some k_ ≠ (v922 : Value).ownBlock) v906 t905) ∧ Aside0 (Kd.R (Kd.int .i64) 2 wc w.heap.size (fun k_ => some k_ ≠ (v906 : Value).ownBlock ∧ some k_ ≠ (v922 : Value).ownBlock) v914 t913) ∧ Aside0 (Kd.R (Kd.int .i64) 2 wc w.heap.size (fun k_ => some k_ ≠ (v906 : Value).ownBlock ∧ some k_ ≠ (v914 : Value).ownBlock) v922 t921) ∧ Aside0 (Kd.V (Kd.slice 2 (Kd.int .i64)) 29 wc w.heap.size (fun k_ => some k_ ≠ (v906 : Value).ownBlock ∧ some k_ ≠ (v914 : Value).ownBlock ∧ some k_ ≠ (v922 : Value).ownBlock ∧ k_ ≠ gb904) (.slice Ao14 t900.length co14) t900) ∧ Aside0 (wc.heap[gb904]? = some (.cells #[(.slice Ao14 t900.length co14)] 26 (0, 0))) ∧ Aside0 (Below w.heap.size w wc)
def Za.S1 : Prop := ∀ {aa ab ac ad ae af ag ah ai aj al am an ao ap aq ar au av ax ay az aA aB aC aD aE aF aG aH aI aJ aL aM aN aO aP aQ aR aS aT aU aV aX aY aZ a2 a3 a4 a5 a6 a7 a8 a9 ba bb bc bd be bf bg bh bi bj bl bm bn bo bp bq br bs bt bu bv bx bz bA bB bC bD bE bF bG bH bI bJ bL bM bN bO bP bQ bR bS bT bU bV bX bY bZ b2 b3 b4 b5 b6 b7 b8 b9 ca cb cc cd ce cf cg ch ci cj cl cm cn co cp cq cr cs ct cu cv cx cy cz cA cB cC cD cE cF cG cH cI cJ cL cM cN cO cP cQ cR cS cT cU cV cX cY cZ c2 c3 c4 c5 c6 c7 c8 c9 da db dc dd de df dg dh di dj dl dm dn dp dq dr ds dt du dv dx dy dz dA dB dC dD dE dF dG dH dI dJ dL dM dN dO dP dQ dR dS dT dU dV dX dY dZ d2 d3 d4 d5 d6 d7 d8 d9 ea eb ec ed ee ef eg eh ei ej el em en eo ep eq er es et eu ev ex ey ez eA eB eC eD eE eF eG eH eI eJ eL eM eN eO eP eQ eR eS eT eU eV eX eY eZ e2 e3 e4 e5 e6 e7 e8 e9 fa fb fc fd fe ff fg fh fi fj fl fm fn fo fp fq fr fs ft fu fv fx fy fz fA fB fC fD fE fF fG fH fI fJ fL fM fN fO fP fQ fR fS fT fU fV fX fY fZ f2 f4 f5 f6 f7 f8 f9 ga gb gc gd ge gf gg gh gi gj gl gm gn go gp gq gr gs gt gu gv gx gy gz gA gB gC gD gE gF gG gH gI gJ gL gM gN gO gP gQ gR gS gT gU gV gX gY gZ g2 g3 g4 g5 g6 g7 g8 g9 ha hb hc hd he hf hg hh hi hj hl hm hn ho : Value} {k : Nat} {A0 : Option Addr} {c0 : Nat} {l0 : List Int} {r : Bool} {w : World} (hu26 : Try.prog.underlying 26 = some (TypeDesc.struct #[Field.mk "Moves" 24 0 false "" "" 0])) (HR0 : Aside0 ((Kd.int IntKind.u8).C w A0 l0.length l0)) (HC0 : Aside0 (l0.length ≤ c0)) {t900 : List (List Int)} {t903 : Int} {t905 : List Int} {t908 : Int} {t913 t921 : List Int} {gb904 : Nat} {Ao14 : Option Addr} {co14 : Nat} {v906 v910 v914 v918 v922 v926 : Value} {z1_184 : Act → World → Prop} (z1_185 : ∀ (a_ : Act) (w_ : World), Code.wp Try.prog (Sect.at_ [true,true,true,true,true,true,true,true,true,true] (Try.f3.body.getD .skip)) ((bodyPost Try.prog Try.f3 fun e w' => e = Ending.returned (Value.bool r) ∧ Below w.heap.size w w')) a_ w_ → z1_184 a_ w_) {wc : World} {u135 : Value} (hcut : Za.R1 k l0 r w t900 t903 t905 t908 t913 t921 gb904 Ao14 co14 v906 v914 v922 u135 wc), Code.wp Try.prog (Sect.at_ [true,true,true,true,true,true,true,true,true,false,true] (Try.f3.body.getD .skip)) (Exit.then z1_184 (bodyPost Try.prog Try.f3 fun e w' => e = Ending.returned (Value.bool r) ∧ Below w.heap.size w w')) (Act.mk (List.toArray ((.slice A0 l0.length c0)::undef::(.bool false)::(.pointer (some (Addr.mk gb904 0 none)))::(.int .i64 t903)::v906::(.int .i64 t908)::v910::ae::v914::ad::v918::ac::v922::ab::v926::aa::undef::undef::undef::undef::undef::undef::undef::undef::undef::undef::undef::undef::undef::undef::undef::undef::undef::undef::undef::undef::undef::undef::undef::undef::undef::undef::undef::undef::undef::undef::undef::undef::undef::undef::undef::undef::undef::undef::undef::undef::undef::undef::undef::undef::undef::af::ag::ah::ai::aj::al::am::an::ao::ap::aq::ar::au::av::ax::ay::az::aA::aB::aC::aD::aE::aF::aG::aH::aI::aJ::aL::aM::aN::aO::aP::aQ::aR::aS::aT::aU::aV::aX::aY::aZ::a2::a3::a4::a5::a6::a7::a8::a9::ba::bb::bc::bd::be::bf::bg::bh::bi::bj::bl::bm::bn::bo::bp::bq::br::bs::bt::bu::bv::bx::bz::bA::u135::bB::bC::bD::bE::bF::bG::bH::bI::bJ::bL::bM::bN::bO::bP::bQ::bR::bS::bT::bU::bV::bX::bY::bZ::b2::b3::b4::b5::b6::b7::b8::b9::ca::cb::cc::cd::ce::cf::cg::ch::ci::cj::cl::cm::cn::co::cp::cq::cr::cs::ct::cu::cv::cx::cy::cz::cA::cB::cC::cD::cE::cF::cG::cH::cI::cJ::cL::undef::undef::cM::cN::cO::cP::cQ::cR::cS::cT::cU::cV::cX::cY::cZ::c2::c3::c4::c5::c6::c7::c8::c9::da::db::dc::dd::de::df::dg::dh::di::dj::dl::dm::dn::dp::dq::dr::ds::dt::du::dv::dx::dy::undef::undef::dz::dA::dB::dC::dD::dE::dF::dG::dH::dI::dJ::dL::dM::dN::dO::dP::dQ::dR::dS::dT::dU::dV::dX::dY::dZ::d2::d3::d4::d5::d6::d7::d8::d9::ea::eb::ec::ed::ee::ef::eg::eh::ei::ej::el::em::en::eo::ep::eq::er::es::et::eu::ev::ex::ey::ez::eA::eB::eC::eD::eE::eF::eG::eH::eI::eJ::eL::eM::eN::eO::eP::eQ::eR::eS::eT::eU::eV::eX::eY::eZ::e2::e3::e4::e5::e6::e7::e8::e9::fa::fb::fc::fd::fe::ff::fg::fh::fi::fj::fl::fm::fn::fo::fp::undef::undef::fq::fr::fs::ft::fu::fv::fx::fy::fz::fA::fB::fC::fD::fE::fF::fG::fH::fI::fJ::fL::fM::fN::fO::fP::fQ::fR::fS::fT::fU::fV::fX::fY::fZ::f2::f4::f5::f6::f7::f8::f9::ga::gb::gc::gd::ge::gf::gg::gh::gi::gj::gl::gm::gn::go::gp::gq::gr::gs::gt::gu::gv::gx::gy::gz::gA::gB::gC::gD::gE::gF::gG::gH::gI::gJ::gL::gM::gN::gO::gP::gQ::gR::gS::gT::gU::gV::gX::gY::gZ::g2::g3::g4::g5::g6::g7::g8::g9::ha::hb::hc::hd::he::hf::hg::hh::hi::hj::hl::hm::hn::ho::[])) []) wc
def Za.R2 (l0 : List Int) (r : Bool) (w : World) (t900 : List (List Int)) (t903 : Int) (t905 t913 t921 : List Int) (gb904 : Nat) (Ao14 : Option Addr) (co14 : Nat) (v906 v914 v922 : Value) (kj10 : Nat) (t932 : List Bool) (t936 : List Int) (v933 v937 : Value) (v199 : Value) (wc : World) : Prop := ∃ (kq : Nat) (x199_59 : Bool), v199 = .bool x199_59 ∧ Aside0 (Za.j1 kq l0 t903 t905 t913 t921 t932 t936 x199_59 t900 = some r) ∧ Aside0 (kq ≤ kj10) ∧ Aside0 (Kd.R (Kd.int .i64) 2 wc w.heap.size (fun k_ => some k_ ≠ (v914 : Value).ownBlock ∧ some k_ ≠ (v922 : Value).ownBlock ∧ some k_ ≠ (v937 : Value).ownBlock) v906 t905) ∧ Aside0 (Kd.R (Kd.int .i64) 2 wc w.heap.size (fun k_ => some k_ ≠ (v906 : Value).ownBlock ∧ some k_ ≠ (v922 : Value).ownBlock ∧ some k_ ≠ (v937 : Value).ownBlock) v914 t913) ∧ Aside0 (Kd.R (Kd.int .i64) 2 wc w.heap.size (fun k_ => some k_ ≠ (v906 : Value).ownBlock ∧ some k_ ≠ (v914 : Value).ownBlock ∧ some k_ ≠ (v937 : Value).ownBlock) v922 t921) ∧ Aside0 (Kd.R Kd.bool 4 wc w.heap.size (fun _ => True) v933 t932) ∧ Aside0 (Kd.R (Kd.int .i64) 2 wc w.heap.size (fun k_ => some k_ ≠ (v906 : Value).ownBlock ∧ some k_ ≠ (v914 : Value).ownBlock ∧ some k_ ≠ (v922 : Value).ownBlock) v937 t936) ∧ Aside0 (Kd.V (Kd.slice 2 (Kd.int .i64)) 29 wc w.heap.size (fun k_ => some k_ ≠ (v906 : Value).ownBlock ∧ some k_ ≠ (v914 : Value).ownBlock ∧ some k_ ≠ (v922 : Value).ownBlock ∧ some k_ ≠ (v933 : Value).ownBlock ∧ some k_ ≠ (v937 : Value).ownBlock ∧ k_ ≠ gb904) (.slice Ao14 t900.length co14) t900) ∧ Aside0 (wc.heap[gb904]? = some (.cells #[(.slice Ao14 t900.length co14)] 26 (0, 0))) ∧ Aside0 (Below w.heap.size w wc)
def Za.S2 : Prop := ∀ {aa ab ac ad : Value} {z2_1 z2_2 z2_3 z2_4 z2_5 : Value} {k : Nat} {A0 : Option Addr} {c0 : Nat} {l0 : List Int} {r : Bool} {w : World} (hu26 : Try.prog.underlying 26 = some (TypeDesc.struct #[Field.mk "Moves" 24 0 false "" "" 0])) {t900 : List (List Int)} {t903 : Int} {t905 : List Int} {t908 : Int} {t913 t921 : List Int} {gb904 : Nat} {Ao14 : Option Addr} {co14 : Nat} {v906 v910 v914 v918 v922 v926 : Value} {kj10 : Nat} (HJ10 : Aside0 (kj10 + 1 ≤ k)) {z2_449 : Act → World → Prop} (z2_450 : ∀ (a_ : Act) (w_ : World), Code.wp Try.prog (Sect.at_ [true,true,true,true,true,true,true,true,true,true,true] (Try.f3.body.getD .skip)) ((bodyPost Try.prog Try.f3 fun e w' => e = Ending.returned (Value.bool r) ∧ Below w.heap.size w w')) a_ w_ → z2_449 a_ w_) {z2_451 z2_452 : Act → World → Prop} (z2_453 : ∀ (a' : Act) (w' : World), (∃ u2 u17 u18 u19 u20 u21 u22 u23 u24 u25 u26 u27 u62 u63 u64 u65 u66 u67 u68 u69 u70 u71 u72 u73 u74 u75 u76 u77 u78 u79 u80 u81 u82 u83 u84 u85 u86 u87 u88 u89 u90 u91 u92 u93 u94 u95 u96 u97 u98 u99 u100 u101 u102 u103 u104 u105 u106 u107 u108 u109 u110 u111 u112 u113 u114 u115 u116 u117 u118 u119 u120 u121 u122 u123 u124 u125 u126 u127 u128 u129 u130 u131 u132 u133 u134 u135 u136 u137 u138 u139 u140 u141 u142 u143 u144 u145 u146 u147 u148 u149 u150 u151 u152 u153 u154 u155 u156 u157 u158 u159 u160 u161 u162 u163 u164 u165 u166 u167 u168 u169 u170 u171 u172 u173 u174 u175 u176 u177 u178 u179 u180 u181 u182 u183 u184 u185 u186 u187 u188 u189 u190 u191 u192 u193 u194 u195 u196 u197 u198 u199 u200 u201 u202 u203 u204 u205 u206 u207 u208 u209 u210 u211 u212 u213 u214 u215 u216 u217 u218 u219 u220 u221 u222 u223 u224 u225 u226 u227 u228 u229 u230 u231 u232 u233 u234 u235 u236 u237 u238 u239 u240 u241 u242 u243 u244 u245 u246 u247 u248 u249 u250 u251 u252 u253 u254 u255 u256 u257 u258 u259 u260 u261 u262 u263 u264 u265 u266 u267 u268 u269 u270 u271 u272 u273 u274 u275 u276 u277 u278 u279 u280 u281 u282 u283 u284 u285 u286 u287 u288 u289 u290 u291 u292 u293 u294 u295 u296 u297 u298 u299 u300 u301 u302 u303 u304 u305 u306 u307 u308 u309 u310 u311 u312 u313 u314 u315 u316 u317 u318 u319 u320 u321 u322 u323 u324 u325 u326 u327 u328 u329 u330 u331 u332 u333 u334 u335 u336 u337 u338 u339 u340 u341 u342 u343 u344 u345 u346 u347 u348 u349 u350 u351 u352 u355 u356 u357 u358 u359 u360 u361 u362 u363 u364 u365 u366 u367 u368 u369 u370 u371 u372 u373 u374 u375 u376 u377 u378 u379 u380 u381 u382 u383 u384 u385 u386 u387 u388 u389 u390 u391 u392 u393 u394 u395 u396 u397 u398 u399 u400 u401 u402 u403 u404 u405 u406 u407 u408 u409 u410 u411 u412 u413 u414 u415 u416 u417 u418 u419 u420 u421 u422 u423 u424 u425 u426 u427 u428 u429 u430 u431 u432 u433 u434 u435 u436 u437 u438 u439 u440 u441 u442 u443 u444 u445 u446 u447 u448 u449 u450 u451 u452 u453 u454 u455 u456 u457 u458 u459 u460 u461 u462 u463 u464, (∃ kq, Aside0 (j5 kq l0 = some r) ∧ Aside0 (kq ≤ kj10) ∧ Aside0 ((Kd.slice 2 (Kd.int IntKind.i64)).V 29 w' w.heap.size (fun k_ => k_ ≠ gb904) (Value.slice Ao14 t900.length co14) t900) ∧ Aside0 (w'.heap[gb904]? = some (Obj.cells #[Value.slice Ao14 t900.length co14] 26)) ∧ Aside0 (Below w.heap.size w w')) ∧ a' = Act.mk (List.toArray ((Value.slice A0 l0.length c0)::undef::u2::(Value.pointer (some (Addr.mk gb904 0 none)))::(Value.int IntKind.i64 t903)::v906::(Value.int IntKind.i64 t908)::v910::z2_5::v914::z2_4::v918::z2_3::v922::z2_2::v926::z2_1::u17::u18::u19::u20::u21::u22::u23::u24::u25::u26::u27::undef::undef::undef::undef::undef::undef::undef::undef::undef::undef::undef::undef::undef::undef::undef::undef::undef::undef::undef::undef::undef::undef::undef::undef::undef::undef::undef::undef::undef::undef::undef::undef::undef::undef::u62::u63::u64::u65::u66::u67::u68::u69::u70::u71::u72::u73::u74::u75::u76::u77::u78::u79::u80::u81::u82::u83::u84::u85::u86::u87::u88::u89::u90::u91::u92::u93::u94::u95::u96::u97::u98::u99::u100::u101::u102::u103::u104::u105::u106::u107::u108::u109::u110::u111::u112::u113::u114::u115::u116::u117::u118::u119::u120::u121::u122::u123::u124::u125::u126::u127::u128::u129::u130::u131::u132::u133::u134::u135::u136::u137::u138::u139::u140::u141::u142::u143::u144::u145::u146::u147::u148::u149::u150::u151::u152::u153::u154::u155::u156::u157::u158::u159::u160::u161::u162::u163::u164::u165::u166::u167::u168::u169::u170::u171::u172::u173::u174::u175::u176::u177::u178::u179::u180::u181::u182::u183::u184::u185::u186::u187::u188::u189::u190::u191::u192::u193::u194::u195::u196::u197::u198::u199::u200::u201::u202::u203::u204::u205::u206::u207::u208::u209::u210::u211::u212::u213::u214::u215::u216::u217::u218::u219::u220::u221::u222::u223::u224::u225::u226::u227::u228::u229::u230::u231::u232::u233::u234::u235::u236::u237::u238::u239::u240::u241::u242::u243::u244::u245::u246::u247::u248::u249::u250::u251::u252::u253::u254::u255::u256::u257::u258::u259::u260::u261::u262::u263::u264::u265::u266::u267::u268::u269::u270::u271::u272::u273::u274::u275::u276::u277::u278::u279::u280::u281::u282::u283::u284::u285::u286::u287::u288::u289::u290::u291::u292::u293::u294::u295::u296::u297::u298::u299::u300::u301::u302::u303::u304::u305::u306::u307::u308::u309::u310::u311::u312::u313::u314::u315::u316::u317::u318::u319::u320::u321::u322::u323::u324::u325::u326::u327::u328::u329::u330::u331::u332::u333::u334::u335::u336::u337::u338::u339::u340::u341::u342::u343::u344::u345::u346::u347::u348::u349::u350::u351::u352::undef::undef::u355::u356::u357::u358::u359::u360::u361::u362::u363::u364::u365::u366::u367::u368::u369::u370::u371::u372::u373::u374::u375::u376::u377::u378::u379::u380::u381::u382::u383::u384::u385::u386::u387::u388::u389::u390::u391::u392::u393::u394::u395::u396::u397::u398::u399::u400::u401::u402::u403::u404::u405::u406::u407::u408::u409::u410::u411::u412::u413::u414::u415::u416::u417::u418::u419::u420::u421::u422::u423::u424::u425::u426::u427::u428::u429::u430::u431::u432::u433::u434::u435::u436::u437::u438::u439::u440::u441::u442::u443::u444::u445::u446::u447::u448::u449::u450::u451::u452::u453::u454::u455::u456::u457::u458::u459::u460::u461::u462::u463::u464::[])) []) → z2_451 a' w') (z2_454 : ∀ (a' : Act) (w' : World), Met z2_451 a' w' → z2_452 a' w') {t932 : List Bool} {t936 : List Int} {v933 v937 v941 v945 : Value} {z2_555 : Act → World → Prop} (z2_556 : ∀ (a_ : Act) (w_ : World), Code.wp Try.prog (Sect.at_ [true,true,true,true,true,true,true,true,true,true,false,true,false,true,true,true,true,true] (Try.f3.body.getD .skip)) (Exit.then z2_452 (bodyPost Try.prog Try.f3 fun e w' => e = Ending.returned (Value.bool r) ∧ Below w.heap.size w w')) a_ w_ → z2_555 a_ w_) {wc : World} {u62 u63 u64 u65 u66 u67 u68 u69 u70 u71 u72 u73 u74 u75 u76 u77 u78 u79 u80 u81 u82 u83 u84 u85 u86 u87 u88 u89 u90 u91 u92 u93 u94 u95 u96 u97 u98 u99 u100 u101 u102 u103 u104 u105 u106 u107 u108 u109 u110 u111 u112 u113 u114 u115 u116 u117 u118 u119 u120 u121 u122 u123 u124 u125 u126 u127 u128 u129 u130 u131 u132 u133 u134 u135 u136 u137 u138 u139 u140 u141 u142 u143 u144 u145 u146 u147 u148 u149 u150 u151 u152 u153 u154 u155 u156 u157 u158 u159 u160 u161 u162 u163 u164 u165 u166 u167 u168 u169 u170 u171 u172 u173 u174 u175 u176 u177 u178 u179 u180 u181 u182 u183 u184 u185 u186 u187 u188 u189 u190 u191 u192 u193 u194 u195 u196 u197 u198 u199 u200 u201 u204 u205 u206 u207 u208 u209 u210 u211 u212 u213 u214 u215 u216 u217 u218 u219 u220 u221 u222 u223 u224 u225 u226 u227 u228 u229 u230 u231 u232 u233 u234 u235 u236 u237 u238 u239 u240 u241 u242 u243 u244 u245 u246 u249 u250 u251 u252 u253 u254 u255 u256 u257 u258 u259 u260 u261 u262 u263 u264 u265 u266 u267 u268 u269 u270 u271 u272 u273 u274 u275 u276 u277 u278 u279 u280 u281 u282 u283 u284 u285 u286 u287 u288 u289 u290 u291 u292 u293 u294 u295 u296 u297 u298 u299 u300 u301 u302 u303 u304 u305 u306 u307 u308 u309 u310 u311 u312 u313 u314 u315 u316 u317 u318 u319 u320 u321 u322 u323 u324 u325 u326 u327 u328 u329 u330 u331 u332 u333 u334 u335 u336 u337 u338 u339 u340 u341 u342 u343 u344 u345 u346 u347 u348 u349 u350 u351 u352 u355 u356 u357 u358 u359 u360 u361 u362 u363 u364 u365 u366 u367 u368 u369 u370 u371 u372 u373 u374 u375 u376 u377 u378 u379 u380 u381 u382 u383 u384 u385 u386 u387 u388 u389 u390 u391 u392 u393 u394 u395 u396 u397 u398 u399 u400 u401 u402 u403 u404 u405 u406 u407 u408 u409 u410 u411 u412 u413 u414 u415 u416 u417 u418 u419 u420 u421 u422 u423 u424 u425 u426 u427 u428 u429 u430 u431 u432 u433 u434 u435 u436 u437 u438 u439 u440 u441 u442 u443 u444 u445 u446 u447 u448 u449 u450 u451 u452 u453 u454 u455 u456 u457 u458 u459 u460 u461 u462 u463 u464 : Value} (hcut : Za.R2 l0 r w t900 t903 t905 t913 t921 gb904 Ao14 co14 v906 v914 v922 kj10 t932 t936 v933 v937 u199 wc), Code.wp Try.prog (Sect.at_ [true,true,true,true,true,true,true,true,true,true,false,true,false,true,true,true,true,false,true] (Try.f3.body.getD .skip)) (Exit.then z2_555 (Exit.then z2_452 (bodyPost Try.prog Try.f3 fun e w' => e = Ending.returned (Value.bool r) ∧ Below w.heap.size w w'))) (Act.mk (List.toArray ((.slice A0 l0.length c0)::undef::(.bool false)::(.pointer (some (Addr.mk gb904 0 none)))::(.int .i64 t903)::v906::(.int .i64 t908)::v910::z2_5::v914::z2_4::v918::z2_3::v922::z2_2::v926::z2_1::v933::ad::v937::ac::v941::ab::v945::aa::undef::undef::undef::undef::undef::undef::undef::undef::undef::undef::undef::undef::undef::undef::undef::undef::undef::undef::undef::undef::undef::undef::undef::undef::undef::undef::undef::undef::undef::undef::undef::undef::undef::undef::undef::undef::undef::u62::u63::u64::u65::u66::u67::u68::u69::u70::u71::u72::u73::u74::u75::u76::u77::u78::u79::u80::u81::u82::u83::u84::u85::u86::u87::u88::u89::u90::u91::u92::u93::u94::u95::u96::u97::u98::u99::u100::u101::u102::u103::u104::u105::u106::u107::u108::u109::u110::u111::u112::u113::u114::u115::u116::u117::u118::u119::u120::u121::u122::u123::u124::u125::u126::u127::u128::u129::u130::u131::u132::u133::u134::u135::u136::u137::u138::u139::u140::u141::u142::u143::u144::u145::u146::u147::u148::u149::u150::u151::u152::u153::u154::u155::u156::u157::u158::u159::u160::u161::u162::u163::u164::u165::u166::u167::u168::u169::u170::u171::u172::u173::u174::u175::u176::u177::u178::u179::u180::u181::u182::u183::u184::u185::u186::u187::u188::u189::u190::u191::u192::u193::u194::u195::u196::u197::u198::u199::u200::u201::undef::undef::u204::u205::u206::u207::u208::u209::u210::u211::u212::u213::u214::u215::u216::u217::u218::u219::u220::u221::u222::u223::u224::u225::u226::u227::u228::u229::u230::u231::u232::u233::u234::u235::u236::u237::u238::u239::u240::u241::u242::u243::u244::u245::u246::undef::undef::u249::u250::u251::u252::u253::u254::u255::u256::u257::u258::u259::u260::u261::u262::u263::u264::u265::u266::u267::u268::u269::u270::u271::u272::u273::u274::u275::u276::u277::u278::u279::u280::u281::u282::u283::u284::u285::u286::u287::u288::u289::u290::u291::u292::u293::u294::u295::u296::u297::u298::u299::u300::u301::u302::u303::u304::u305::u306::u307::u308::u309::u310::u311::u312::u313::u314::u315::u316::u317::u318::u319::u320::u321::u322::u323::u324::u325::u326::u327::u328::u329::u330::u331::u332::u333::u334::u335::u336::u337::u338::u339::u340::u341::u342::u343::u344::u345::u346::u347::u348::u349::u350::u351::u352::undef::undef::u355::u356::u357::u358::u359::u360::u361::u362::u363::u364::u365::u366::u367::u368::u369::u370::u371::u372::u373::u374::u375::u376::u377::u378::u379::u380::u381::u382::u383::u384::u385::u386::u387::u388::u389::u390::u391::u392::u393::u394::u395::u396::u397::u398::u399::u400::u401::u402::u403::u404::u405::u406::u407::u408::u409::u410::u411::u412::u413::u414::u415::u416::u417::u418::u419::u420::u421::u422::u423::u424::u425::u426::u427::u428::u429::u430::u431::u432::u433::u434::u435::u436::u437::u438::u439::u440::u441::u442::u443::u444::u445::u446::u447::u448::u449::u450::u451::u452::u453::u454::u455::u456::u457::u458::u459::u460::u461::u462::u463::u464::[])) []) wc
def Za.R3 (l0 : List Int) (r : Bool) (w : World) (t900 : List (List Int)) (t913 : List Int) (gb904 : Nat) (Ao14 : Option Addr) (co14 : Nat) (v914 : Value) (t932 : List Bool) (v933 : Value) (k3 : Nat) (v245 : Value) (wc : World) : Prop := ∃ (kq : Nat) (x245_104 : Bool), v245 = .bool x245_104 ∧ Aside0 (Za.j3 kq l0 t913 t932 x245_104 = some r) ∧ Aside0 (kq ≤ k3) ∧ Aside0 (Kd.R (Kd.int .i64) 2 wc w.heap.size (fun _ => True) v914 t913) ∧ Aside0 (Kd.R Kd.bool 4 wc w.heap.size (fun _ => True) v933 t932) ∧ Aside0 (Kd.V (Kd.slice 2 (Kd.int .i64)) 29 wc w.heap.size (fun k_ => some k_ ≠ (v914 : Value).ownBlock ∧ some k_ ≠ (v933 : Value).ownBlock ∧ k_ ≠ gb904) (.slice Ao14 t900.length co14) t900) ∧ Aside0 (wc.heap[gb904]? = some (.cells #[(.slice Ao14 t900.length co14)] 26 (0, 0))) ∧ Aside0 (Below w.heap.size w wc)
def Za.S3 : Prop := ∀  {z3_1 z3_2 z3_3 z3_4 z2_1 z2_2 z2_3 z2_4 z2_5 : Value} {k : Nat} {A0 : Option Addr} {c0 : Nat} {l0 : List Int} {r : Bool} {w : World} (hu26 : Try.prog.underlying 26 = some (TypeDesc.struct #[Field.mk "Moves" 24 0 false "" "" 0])) {t900 : List (List Int)} {t903 : Int} {t905 : List Int} {t908 : Int} {t913 t921 : List Int} {gb904 : Nat} {Ao14 : Option Addr} {co14 : Nat} {v910 v914 v918 v922 v926 : Value} {kj10 : Nat} (HJ10 : Aside0 (kj10 + 1 ≤ k)) {z2_449 : Act → World → Prop} (z2_450 : ∀ (a_ : Act) (w_ : World), Code.wp Try.prog (Sect.at_ [true,true,true,true,true,true,true,true,true,true,true] (Try.f3.body.getD .skip)) (bodyPost Try.prog Try.f3 fun e w' => e = Ending.returned (Value.bool r) ∧ Below w.heap.size w w') a_ w_ → z2_449 a_ w_) {z2_451 z2_452 : Act → World → Prop} (z2_454 : ∀ (a' : Act) (w' : World), Met z2_451 a' w' → z2_452 a' w') {t932 : List Bool} {t936 : List Int} {v933 v937 v941 v945 z3_51 z3_52 z3_53 z3_54 z3_55 z3_56 z3_57 z3_58 z3_59 z3_60 z3_61 z3_62 z3_63 z3_64 z3_65 z3_66 z3_67 z3_68 z3_69 z3_70 z3_71 z3_72 z3_73 z3_74 z3_75 z3_76 z3_77 z3_78 z3_79 z3_80 z3_81 z3_82 z3_83 z3_84 z3_85 z3_86 z3_87 z3_88 z3_89 z3_90 z3_91 z3_92 z3_93 z3_94 z3_95 z3_96 z3_97 z3_98 z3_99 z3_100 z3_101 z3_102 z3_103 z3_104 z3_105 z3_106 z3_107 z3_108 z3_109 z3_110 z3_111 z3_112 z3_113 z3_114 z3_115 z3_116 z3_117 z3_118 z3_119 z3_120 z3_121 z3_122 z3_123 z3_124 z3_125 z3_126 z3_127 z3_128 z3_129 z3_130 z3_131 z3_132 z3_133 z3_134 z3_135 z3_136 z3_137 z3_138 z3_139 z3_140 z3_141 z3_142 z3_143 z3_144 z3_145 z3_146 z3_147 z3_148 z3_149 z3_150 z3_151 z3_152 z3_153 z3_154 z3_155 z3_156 z3_157 z3_158 z3_159 z3_160 z3_161 z3_162 z3_163 z3_164 z3_165 z3_166 z3_167 z3_168 z3_169 z3_170 z3_171 z3_172 z3_173 z3_174 z3_175 z3_176 z3_177 z3_178 z3_179 z3_180 z3_181 z3_182 z3_183 z3_184 z3_185 z3_186 z3_187 z3_218 z3_219 z3_220 z3_221 z3_222 z3_223 z3_224 z3_225 z3_226 z3_227 z3_228 z3_229 z3_230 z3_231 z3_232 z3_233 z3_234 z3_235 z3_236 z3_237 z3_238 z3_239 z3_240 z3_241 z3_242 z3_243 z3_244 z3_245 z3_246 z3_247 z3_248 z3_249 z3_250 z3_251 z3_252 z3_253 z3_254 z3_255 z3_256 z3_257 z3_258 z3_259 z3_260 z3_261 z3_262 z3_263 z3_264 z3_265 z3_266 z3_267 z3_268 z3_269 z3_270 z3_271 z3_272 z3_273 z3_274 z3_275 z3_276 z3_277 z3_278 z3_279 z3_280 z3_281 z3_282 z3_283 z3_284 z3_285 z3_286 z3_287 z3_288 z3_289 z3_290 z3_291 z3_292 z3_293 z3_294 z3_295 z3_296 z3_297 z3_298 z3_299 z3_300 z3_301 z3_302 z3_303 z3_304 z3_305 z3_306 z3_307 z3_308 z3_309 z3_310 z3_311 z3_312 z3_313 z3_314 z3_315 z3_316 z3_317 z3_318 z3_319 z3_320 z3_321 z3_322 z3_323 z3_324 z3_325 z3_326 z3_327 z3_328 z3_329 z3_330 z3_331 z3_332 z3_333 z3_334 z3_335 z3_336 z3_337 z3_338 z3_339 z3_340 z3_341 z3_342 z3_343 z3_344 z3_345 z3_346 z3_347 z3_348 z3_349 z3_350 z3_351 z3_352 z3_353 z3_354 z3_355 z3_356 z3_357 z3_358 z3_359 z3_360 z3_361 z3_362 z3_363 z3_364 z3_365 z3_366 z3_367 z3_368 z3_369 z3_370 z3_371 z3_372 z3_373 z3_374 z3_375 z3_376 z3_377 z3_378 z3_379 z3_380 z3_381 z3_382 z3_383 z3_384 z3_385 z3_386 z3_387 z3_388 z3_389 z3_390 z3_391 z3_392 z3_393 z3_394 z3_395 z3_396 z3_397 z3_398 z3_399 z3_400 z3_401 z3_402 z3_403 z3_404 z3_405 z3_406 z3_407 z3_408 z3_409 z3_410 z3_411 z3_412 z3_413 z3_414 z3_415 z3_416 z3_417 z3_418 z3_419 z3_420 z3_421 z3_422 z3_423 z3_424 z3_425 z3_426 z3_427 z3_428 z3_429 z3_430 z3_431 z3_432 z3_433 z3_434 z3_435 z3_436 z3_437 z3_438 z3_439 z3_440 z3_441 z3_442 z3_443 z3_444 z3_445 z3_446 z3_447 : Value} {kj59 : Nat} (HJ59 : Aside0 (kj59 + 1 ≤ kj10)) {Ao90 : Option Addr} {co90 : Nat} (z2_453 : ∀ (a' : Act) (w' : World), (∃ u2 u17 u18 u19 u20 u21 u22 u23 u24 u25 u26 u27 u62 u63 u64 u65 u66 u67 u68 u69 u70 u71 u72 u73 u74 u75 u76 u77 u78 u79 u80 u81 u82 u83 u84 u85 u86 u87 u88 u89 u90 u91 u92 u93 u94 u95 u96 u97 u98 u99 u100 u101 u102 u103 u104 u105 u106 u107 u108 u109 u110 u111 u112 u113 u114 u115 u116 u117 u118 u119 u120 u121 u122 u123 u124 u125 u126 u127 u128 u129 u130 u131 u132 u133 u134 u135 u136 u137 u138 u139 u140 u141 u142 u143 u144 u145 u146 u147 u148 u149 u150 u151 u152 u153 u154 u155 u156 u157 u158 u159 u160 u161 u162 u163 u164 u165 u166 u167 u168 u169 u170 u171 u172 u173 u174 u175 u176 u177 u178 u179 u180 u181 u182 u183 u184 u185 u186 u187 u188 u189 u190 u191 u192 u193 u194 u195 u196 u197 u198 u199 u200 u201 u202 u203 u204 u205 u206 u207 u208 u209 u210 u211 u212 u213 u214 u215 u216 u217 u218 u219 u220 u221 u222 u223 u224 u225 u226 u227 u228 u229 u230 u231 u232 u233 u234 u235 u236 u237 u238 u239 u240 u241 u242 u243 u244 u245 u246 u247 u248 u249 u250 u251 u252 u253 u254 u255 u256 u257 u258 u259 u260 u261 u262 u263 u264 u265 u266 u267 u268 u269 u270 u271 u272 u273 u274 u275 u276 u277 u278 u279 u280 u281 u282 u283 u284 u285 u286 u287 u288 u289 u290 u291 u292 u293 u294 u295 u296 u297 u298 u299 u300 u301 u302 u303 u304 u305 u306 u307 u308 u309 u310 u311 u312 u313 u314 u315 u316 u317 u318 u319 u320 u321 u322 u323 u324 u325 u326 u327 u328 u329 u330 u331 u332 u333 u334 u335 u336 u337 u338 u339 u340 u341 u342 u343 u344 u345 u346 u347 u348 u349 u350 u351 u352 u355 u356 u357 u358 u359 u360 u361 u362 u363 u364 u365 u366 u367 u368 u369 u370 u371 u372 u373 u374 u375 u376 u377 u378 u379 u380 u381 u382 u383 u384 u385 u386 u387 u388 u389 u390 u391 u392 u393 u394 u395 u396 u397 u398 u399 u400 u401 u402 u403 u404 u405 u406 u407 u408 u409 u410 u411 u412 u413 u414 u415 u416 u417 u418 u419 u420 u421 u422 u423 u424 u425 u426 u427 u428 u429 u430 u431 u432 u433 u434 u435 u436 u437 u438 u439 u440 u441 u442 u443 u444 u445 u446 u447 u448 u449 u450 u451 u452 u453 u454 u455 u456 u457 u458 u459 u460 u461 u462 u463 u464, (∃ kq, Aside0 (j5 kq l0 = some r) ∧ Aside0 (kq ≤ kj10) ∧ Aside0 ((Kd.slice 2 (Kd.int IntKind.i64)).V 29 w' w.heap.size (fun k_ => k_ ≠ gb904) (Value.slice Ao14 t900.length co14) t900) ∧ Aside0 (w'.heap[gb904]? = some (Obj.cells #[Value.slice Ao14 t900.length co14] 26)) ∧ Aside0 (Below w.heap.size w w')) ∧ a' = Act.mk (List.toArray ((Value.slice A0 l0.length c0)::undef::u2::(Value.pointer (some (Addr.mk gb904 0 none)))::(Value.int IntKind.i64 t903)::(Value.slice Ao90 t905.length co90)::(Value.int IntKind.i64 t908)::v910::z2_5::v914::z2_4::v918::z2_3::v922::z2_2::v926::z2_1::u17::u18::u19::u20::u21::u22::u23::u24::u25::u26::u27::undef::undef::undef::undef::undef::undef::undef::undef::undef::undef::undef::undef::undef::undef::undef::undef::undef::undef::undef::undef::undef::undef::undef::undef::undef::undef::undef::undef::undef::undef::undef::undef::undef::undef::u62::u63::u64::u65::u66::u67::u68::u69::u70::u71::u72::u73::u74::u75::u76::u77::u78::u79::u80::u81::u82::u83::u84::u85::u86::u87::u88::u89::u90::u91::u92::u93::u94::u95::u96::u97::u98::u99::u100::u101::u102::u103::u104::u105::u106::u107::u108::u109::u110::u111::u112::u113::u114::u115::u116::u117::u118::u119::u120::u121::u122::u123::u124::u125::u126::u127::u128::u129::u130::u131::u132::u133::u134::u135::u136::u137::u138::u139::u140::u141::u142::u143::u144::u145::u146::u147::u148::u149::u150::u151::u152::u153::u154::u155::u156::u157::u158::u159::u160::u161::u162::u163::u164::u165::u166::u167::u168::u169::u170::u171::u172::u173::u174::u175::u176::u177::u178::u179::u180::u181::u182::u183::u184::u185::u186::u187::u188::u189::u190::u191::u192::u193::u194::u195::u196::u197::u198::u199::u200::u201::u202::u203::u204::u205::u206::u207::u208::u209::u210::u211::u212::u213::u214::u215::u216::u217::u218::u219::u220::u221::u222::u223::u224::u225::u226::u227::u228::u229::u230::u231::u232::u233::u234::u235::u236::u237::u238::u239::u240::u241::u242::u243::u244::u245::u246::u247::u248::u249::u250::u251::u252::u253::u254::u255::u256::u257::u258::u259::u260::u261::u262::u263::u264::u265::u266::u267::u268::u269::u270::u271::u272::u273::u274::u275::u276::u277::u278::u279::u280::u281::u282::u283::u284::u285::u286::u287::u288::u289::u290::u291::u292::u293::u294::u295::u296::u297::u298::u299::u300::u301::u302::u303::u304::u305::u306::u307::u308::u309::u310::u311::u312::u313::u314::u315::u316::u317::u318::u319::u320::u321::u322::u323::u324::u325::u326::u327::u328::u329::u330::u331::u332::u333::u334::u335::u336::u337::u338::u339::u340::u341::u342::u343::u344::u345::u346::u347::u348::u349::u350::u351::u352::undef::undef::u355::u356::u357::u358::u359::u360::u361::u362::u363::u364::u365::u366::u367::u368::u369::u370::u371::u372::u373::u374::u375::u376::u377::u378::u379::u380::u381::u382::u383::u384::u385::u386::u387::u388::u389::u390::u391::u392::u393::u394::u395::u396::u397::u398::u399::u400::u401::u402::u403::u404::u405::u406::u407::u408::u409::u410::u411::u412::u413::u414::u415::u416::u417::u418::u419::u420::u421::u422::u423::u424::u425::u426::u427::u428::u429::u430::u431::u432::u433::u434::u435::u436::u437::u438::u439::u440::u441::u442::u443::u444::u445::u446::u447::u448::u449::u450::u451::u452::u453::u454::u455::u456::u457::u458::u459::u460::u461::u462::u463::u464::[])) []) → z2_451 a' w') {z3_476 : Act → World → Prop} {u2 u26 : Value} {z3_513 : Nat → Act → World → Prop} {z3_514 : Act → World → Prop} (z3_515 : ∀ (k : Nat) (a' : Act) (w' : World), (∃ u2 u25 u26 u203 u204 u205 u206 u207 u208 u209 u210 u211 u212 u213 u214 u215 u216 u217 u218 u219 u220 u221 u222 u223 u224 u225 u226 u227 u228 u229 u230, (∃ x25_3 x203_3, u25 = Value.int IntKind.i64 x25_3 ∧ u203 = Value.int IntKind.i64 x203_3 ∧ Aside0 (Za.l0 k l0 t903 t905 t913 t921 t932 t936 x25_3 (↑t905.length : Int) x203_3 t900 = some r) ∧ Aside0 (k ≤ kj59) ∧ Aside0 ((Kd.int IntKind.i64).R 2 w' w.heap.size (fun k_ => some k_ ≠ v914.ownBlock ∧ some k_ ≠ v922.ownBlock ∧ some k_ ≠ v937.ownBlock) (Value.slice Ao90 t905.length co90) t905) ∧ Aside0 ((Kd.int IntKind.i64).R 2 w' w.heap.size (fun k_ => some k_ ≠ (Value.slice Ao90 t905.length co90).ownBlock ∧ some k_ ≠ v922.ownBlock ∧ some k_ ≠ v937.ownBlock) v914 t913) ∧ Aside0 ((Kd.int IntKind.i64).R 2 w' w.heap.size (fun k_ => some k_ ≠ (Value.slice Ao90 t905.length co90).ownBlock ∧ some k_ ≠ v914.ownBlock ∧ some k_ ≠ v937.ownBlock) v922 t921) ∧ Aside0 (Kd.bool.R 4 w' w.heap.size (fun x => True) v933 t932) ∧ Aside0 ((Kd.int IntKind.i64).R 2 w' w.heap.size (fun k_ => some k_ ≠ (Value.slice Ao90 t905.length co90).ownBlock ∧ some k_ ≠ v914.ownBlock ∧ some k_ ≠ v922.ownBlock) v937 t936) ∧ Aside0 ((Kd.slice 2 (Kd.int IntKind.i64)).V 29 w' w.heap.size (fun k_ => some k_ ≠ (Value.slice Ao90 t905.length co90).ownBlock ∧ some k_ ≠ v914.ownBlock ∧ some k_ ≠ v922.ownBlock ∧ some k_ ≠ v933.ownBlock ∧ some k_ ≠ v937.ownBlock ∧ k_ ≠ gb904) (Value.slice Ao14 t900.length co14) t900) ∧ Aside0 (w'.heap[gb904]? = some (Obj.cells #[Value.slice Ao14 t900.length co14] 26)) ∧ Aside0 (Below w.heap.size w w')) ∧ a' = Act.mk (List.toArray ((Value.slice A0 l0.length c0)::undef::u2::(Value.pointer (some (Addr.mk gb904 0 none)))::(Value.int IntKind.i64 t903)::(Value.slice Ao90 t905.length co90)::(Value.int IntKind.i64 t908)::v910::z2_5::v914::z2_4::v918::z2_3::v922::z2_2::v926::z2_1::v933::z3_4::v937::z3_3::v941::z3_2::v945::z3_1::u25::u26::undef::undef::undef::undef::undef::undef::undef::undef::undef::undef::undef::undef::undef::undef::undef::undef::undef::undef::undef::undef::undef::undef::undef::undef::undef::undef::undef::undef::undef::undef::undef::undef::undef::undef::undef::z3_51::z3_52::z3_53::z3_54::z3_55::z3_56::z3_57::z3_58::z3_59::z3_60::z3_61::z3_62::z3_63::z3_64::z3_65::z3_66::z3_67::z3_68::z3_69::z3_70::z3_71::z3_72::z3_73::z3_74::z3_75::z3_76::z3_77::z3_78::z3_79::z3_80::z3_81::z3_82::z3_83::z3_84::z3_85::z3_86::z3_87::z3_88::z3_89::z3_90::z3_91::z3_92::z3_93::z3_94::z3_95::z3_96::z3_97::z3_98::z3_99::z3_100::z3_101::z3_102::z3_103::z3_104::z3_105::z3_106::z3_107::z3_108::z3_109::z3_110::z3_111::z3_112::z3_113::z3_114::z3_115::z3_116::z3_117::z3_118::z3_119::z3_120::z3_121::z3_122::z3_123::z3_124::z3_125::z3_126::z3_127::z3_128::z3_129::z3_130::z3_131::z3_132::z3_133::z3_134::z3_135::z3_136::z3_137::z3_138::z3_139::z3_140::z3_141::z3_142::z3_143::z3_144::z3_145::z3_146::z3_147::z3_148::z3_149::z3_150::z3_151::z3_152::z3_153::z3_154::z3_155::z3_156::z3_157::z3_158::z3_159::z3_160::z3_161::z3_162::z3_163::z3_164::z3_165::z3_166::z3_167::z3_168::z3_169::z3_170::z3_171::z3_172::z3_173::z3_174::z3_175::z3_176::z3_177::z3_178::z3_179::z3_180::z3_181::z3_182::z3_183::z3_184::z3_185::z3_186::z3_187::(Value.bool false)::(Value.int IntKind.i64 t903)::(Value.slice Ao90 t905.length co90)::(Value.int IntKind.i64 (↑t905.length : Int))::u203::u204::u205::u206::u207::u208::u209::u210::u211::u212::u213::u214::u215::u216::u217::u218::u219::u220::u221::u222::u223::u224::u225::u226::u227::u228::u229::u230::z3_218::z3_219::z3_220::z3_221::z3_222::z3_223::z3_224::z3_225::z3_226::z3_227::z3_228::z3_229::z3_230::z3_231::z3_232::z3_233::undef::undef::z3_234::z3_235::z3_236::z3_237::z3_238::z3_239::z3_240::z3_241::z3_242::z3_243::z3_244::z3_245::z3_246::z3_247::z3_248::z3_249::z3_250::z3_251::z3_252::z3_253::z3_254::z3_255::z3_256::z3_257::z3_258::z3_259::z3_260::z3_261::z3_262::z3_263::z3_264::z3_265::z3_266::z3_267::z3_268::z3_269::z3_270::z3_271::z3_272::z3_273::z3_274::z3_275::z3_276::z3_277::z3_278::z3_279::z3_280::z3_281::z3_282::z3_283::z3_284::z3_285::z3_286::z3_287::z3_288::z3_289::z3_290::z3_291::z3_292::z3_293::z3_294::z3_295::z3_296::z3_297::z3_298::z3_299::z3_300::z3_301::z3_302::z3_303::z3_304::z3_305::z3_306::z3_307::z3_308::z3_309::z3_310::z3_311::z3_312::z3_313::z3_314::z3_315::z3_316::z3_317::z3_318::z3_319::z3_320::z3_321::z3_322::z3_323::z3_324::z3_325::z3_326::z3_327::z3_328::z3_329::z3_330::z3_331::z3_332::z3_333::z3_334::z3_335::z3_336::z3_337::undef::undef::z3_338::z3_339::z3_340::z3_341::z3_342::z3_343::z3_344::z3_345::z3_346::z3_347::z3_348::z3_349::z3_350::z3_351::z3_352::z3_353::z3_354::z3_355::z3_356::z3_357::z3_358::z3_359::z3_360::z3_361::z3_362::z3_363::z3_364::z3_365::z3_366::z3_367::z3_368::z3_369::z3_370::z3_371::z3_372::z3_373::z3_374::z3_375::z3_376::z3_377::z3_378::z3_379::z3_380::z3_381::z3_382::z3_383::z3_384::z3_385::z3_386::z3_387::z3_388::z3_389::z3_390::z3_391::z3_392::z3_393::z3_394::z3_395::z3_396::z3_397::z3_398::z3_399::z3_400::z3_401::z3_402::z3_403::z3_404::z3_405::z3_406::z3_407::z3_408::z3_409::z3_410::z3_411::z3_412::z3_413::z3_414::z3_415::z3_416::z3_417::z3_418::z3_419::z3_420::z3_421::z3_422::z3_423::z3_424::z3_425::z3_426::z3_427::z3_428::z3_429::z3_430::z3_431::z3_432::z3_433::z3_434::z3_435::z3_436::z3_437::z3_438::z3_439::z3_440::z3_441::z3_442::z3_443::z3_444::z3_445::z3_446::z3_447::[])) []) → z3_513 k a' w') {x25_3 x203_3 : Int} {k3 : Nat} (z3_530 : ∀ (a' : Act) (w' : World), Handed z3_513 (k3 + 1) a' w' → z3_514 a' w') (HK3 : Aside0 (k3 + 1 ≤ kj59)) {z3_538 : Act → World → Prop} (z3_539 : ∀ (a_ : Act) (w_ : World), Code.wp Try.prog (Sect.at_ [true,true,true,true,true,true,true,true,true,true,false,true,false,true,true,true,true,true,true,false,true,false,false,true,true] (Try.f3.body.getD .skip)) (Exit.then z3_514 (Exit.inBlock 0 (Exit.then z3_476 (Exit.then z2_452 (bodyPost Try.prog Try.f3 fun e w' => e = Ending.returned (Value.bool r) ∧ Below w.heap.size w w'))))) a_ w_ → z3_538 a_ w_) {z3_540 : Act → World → Prop} (z3_541 : ∀ (a_ : Act) (w_ : World), Code.wp Try.prog (Sect.at_ [true,true,true,true,true,true,true,true,true,true,false,true,false,true,true,true,true,true,true,true,true] (Try.f3.body.getD .skip)) ((Exit.then z2_452 (bodyPost Try.prog Try.f3 fun e w' => e = Ending.returned (Value.bool r) ∧ Below w.heap.size w w'))) a_ w_ → z3_540 a_ w_) {wc : World} {u62 u63 u64 u65 u66 u67 u68 u69 u70 u71 u72 u73 u74 u75 u76 u77 u78 u79 u80 u81 u82 u83 u84 u85 u86 u87 u88 u89 u90 u91 u92 u93 u94 u95 u96 u97 u98 u99 u100 u101 u102 u103 u104 u105 u106 u107 u108 u109 u110 u111 u112 u113 u114 u115 u116 u117 u118 u119 u120 u121 u122 u123 u124 u125 u126 u127 u128 u129 u130 u131 u132 u133 u134 u135 u136 u137 u138 u139 u140 u141 u142 u143 u144 u145 u146 u147 u148 u149 u150 u151 u152 u153 u154 u155 u156 u157 u158 u159 u160 u161 u162 u163 u164 u165 u166 u167 u168 u169 u170 u171 u172 u173 u174 u175 u176 u177 u178 u179 u180 u181 u182 u183 u184 u185 u186 u187 u188 u189 u190 u191 u192 u193 u194 u195 u196 u197 u198 u199 u200 u201 u204 u205 u206 u207 u208 u209 u210 u211 u212 u213 u214 u215 u216 u217 u218 u219 u220 u221 u222 u223 u224 u225 u226 u227 u228 u229 u230 u231 u232 u233 u234 u235 u236 u237 u238 u239 u240 u241 u242 u243 u244 u245 u246 u249 u250 u251 u252 u253 u254 u255 u256 u257 u258 u259 u260 u261 u262 u263 u264 u265 u266 u267 u268 u269 u270 u271 u272 u273 u274 u275 u276 u277 u278 u279 u280 u281 u282 u283 u284 u285 u286 u287 u288 u289 u290 u291 u292 u293 u294 u295 u296 u297 u298 u299 u300 u301 u302 u303 u304 u305 u306 u307 u308 u309 u310 u311 u312 u313 u314 u315 u316 u317 u318 u319 u320 u321 u322 u323 u324 u325 u326 u327 u328 u329 u330 u331 u332 u333 u334 u335 u336 u337 u338 u339 u340 u341 u342 u343 u344 u345 u346 u347 u348 u349 u350 u351 u352 u355 u356 u357 u358 u359 u360 u361 u362 u363 u364 u365 u366 u367 u368 u369 u370 u371 u372 u373 u374 u375 u376 u377 u378 u379 u380 u381 u382 u383 u384 u385 u386 u387 u388 u389 u390 u391 u392 u393 u394 u395 u396 u397 u398 u399 u400 u401 u402 u403 u404 u405 u406 u407 u408 u409 u410 u411 u412 u413 u414 u415 u416 u417 u418 u419 u420 u421 u422 u423 u424 u425 u426 u427 u428 u429 u430 u431 u432 u433 u434 u435 u436 u437 u438 u439 u440 u441 u442 u443 u444 u445 u446 u447 u448 u449 u450 u451 u452 u453 u454 u455 u456 u457 u458 u459 u460 u461 u462 u463 u464 : Value} (hcut : Za.R3 l0 r w t900 t913 gb904 Ao14 co14 v914 t932 v933 k3 u245 wc), Code.wp Try.prog (Sect.at_ [true,true,true,true,true,true,true,true,true,true,false,true,false,true,true,true,true,true,true,true,false,true] (Try.f3.body.getD .skip)) (Exit.then z3_540 (Exit.then z2_452 (bodyPost Try.prog Try.f3 fun e w' => e = Ending.returned (Value.bool r) ∧ Below w.heap.size w w'))) (Act.mk (List.toArray ((.slice A0 l0.length c0)::undef::u2::(.pointer (some (Addr.mk gb904 0 none)))::(.int .i64 t903)::(.slice Ao90 t905.length co90)::(.int .i64 t908)::v910::z2_5::v914::z2_4::v918::z2_3::v922::z2_2::v926::z2_1::v933::z3_4::v937::z3_3::v941::z3_2::v945::z3_1::(.int .i64 x25_3)::u26::undef::undef::undef::undef::undef::undef::undef::undef::undef::undef::undef::undef::undef::undef::undef::undef::undef::undef::undef::undef::undef::undef::undef::undef::undef::undef::undef::undef::undef::undef::undef::undef::undef::undef::undef::u62::u63::u64::u65::u66::u67::u68::u69::u70::u71::u72::u73::u74::u75::u76::u77::u78::u79::u80::u81::u82::u83::u84::u85::u86::u87::u88::u89::u90::u91::u92::u93::u94::u95::u96::u97::u98::u99::u100::u101::u102::u103::u104::u105::u106::u107::u108::u109::u110::u111::u112::u113::u114::u115::u116::u117::u118::u119::u120::u121::u122::u123::u124::u125::u126::u127::u128::u129::u130::u131::u132::u133::u134::u135::u136::u137::u138::u139::u140::u141::u142::u143::u144::u145::u146::u147::u148::u149::u150::u151::u152::u153::u154::u155::u156::u157::u158::u159::u160::u161::u162::u163::u164::u165::u166::u167::u168::u169::u170::u171::u172::u173::u174::u175::u176::u177::u178::u179::u180::u181::u182::u183::u184::u185::u186::u187::u188::u189::u190::u191::u192::u193::u194::u195::u196::u197::u198::u199::u200::u201::(.int .i64 (↑t905.length : Int))::(.int .i64 x203_3)::u204::u205::u206::u207::u208::u209::u210::u211::u212::u213::u214::u215::u216::u217::u218::u219::u220::u221::u222::u223::u224::u225::u226::u227::u228::u229::u230::u231::u232::u233::u234::u235::u236::u237::u238::u239::u240::u241::u242::u243::u244::u245::u246::undef::undef::u249::u250::u251::u252::u253::u254::u255::u256::u257::u258::u259::u260::u261::u262::u263::u264::u265::u266::u267::u268::u269::u270::u271::u272::u273::u274::u275::u276::u277::u278::u279::u280::u281::u282::u283::u284::u285::u286::u287::u288::u289::u290::u291::u292::u293::u294::u295::u296::u297::u298::u299::u300::u301::u302::u303::u304::u305::u306::u307::u308::u309::u310::u311::u312::u313::u314::u315::u316::u317::u318::u319::u320::u321::u322::u323::u324::u325::u326::u327::u328::u329::u330::u331::u332::u333::u334::u335::u336::u337::u338::u339::u340::u341::u342::u343::u344::u345::u346::u347::u348::u349::u350::u351::u352::undef::undef::u355::u356::u357::u358::u359::u360::u361::u362::u363::u364::u365::u366::u367::u368::u369::u370::u371::u372::u373::u374::u375::u376::u377::u378::u379::u380::u381::u382::u383::u384::u385::u386::u387::u388::u389::u390::u391::u392::u393::u394::u395::u396::u397::u398::u399::u400::u401::u402::u403::u404::u405::u406::u407::u408::u409::u410::u411::u412::u413::u414::u415::u416::u417::u418::u419::u420::u421::u422::u423::u424::u425::u426::u427::u428::u429::u430::u431::u432::u433::u434::u435::u436::u437::u438::u439::u440::u441::u442::u443::u444::u445::u446::u447::u448::u449::u450::u451::u452::u453::u454::u455::u456::u457::u458::u459::u460::u461::u462::u463::u464::[])) []) wc
def Za.R4 (l0 : List Int) (r : Bool) (w : World) (t900 : List (List Int)) (gb904 : Nat) (Ao14 : Option Addr) (co14 kj10 : Nat) (wc : World) : Prop := ∃ (kq : Nat), Aside0 (Za.j5 kq l0 = some r) ∧ Aside0 (kq ≤ kj10) ∧ Aside0 (Kd.V (Kd.slice 2 (Kd.int .i64)) 29 wc w.heap.size (fun k_ => k_ ≠ gb904) (.slice Ao14 t900.length co14) t900) ∧ Aside0 (wc.heap[gb904]? = some (.cells #[(.slice Ao14 t900.length co14)] 26 (0, 0))) ∧ Aside0 (Below w.heap.size w wc)
def Za.S4 : Prop := ∀ {aa ab ac ad ae af ag ah ai aj al am an ao ap aq ar au av ax ay az aA aB aC aD aE aF aG aH aI aJ aL aM aN aO aP aQ aR aS aT aU aV aX aY aZ a2 a3 a4 a5 a6 a7 a8 a9 ba bb bc bd be bf bg bh bi bj bl bm bn bo bp bq br bs bt bu bv bx bz bA bB bC bD bE bF bG bH bI bJ bL bM bN bO bP bQ bR bS bT bU bV bX bY bZ b2 b3 b4 b5 b6 b7 b8 b9 ca cb cc cd ce cf cg ch ci cj cl cm cn co cp cq cr cs ct cu cv cx cy cz cA cB cC cD cE cF cG cH cI cJ cL cM cN cO cP cQ cR cS cT cU cV cX cY cZ c2 c3 c4 c5 c6 c7 c8 c9 da db dc dd de df dg dh di dj dl dm dn dp dq dr ds dt du dv dx dy dz dA dB dC dD dE dF dG dH dI dJ dL dM dN dO dP dQ dR dS dT dU dV dX dY dZ d2 d3 d4 d5 d6 d7 d8 d9 ea eb ec ed ee ef eg eh ei ej el em en eo ep eq er es et eu ev ex ey ez eA eB eC eD eE eF eG eH eI eJ eL eM eN eO eP eQ eR eS eT eU eV eX eY eZ e2 e3 e4 e5 e6 e7 e8 e9 fa fb fc fd fe ff fg fh fi fj fl fm fn fo fp fq fr fs ft fu fv fx fy fz fA fB fC fD fE fF fG fH fI fJ fL fM fN fO fP fQ fR fS fT fU fV fX fY fZ f2 f4 f5 f6 f7 f8 f9 ga gb gc gd ge gf gg gh gi gj gl gm gn go gp gq gr gs gt gu gv gx gy gz gA gB gC gD gE gF gG gH gI gJ gL gM gN gO gP gQ gR gS gT gU gV gX gY gZ g2 g3 g4 g5 g6 g7 g8 g9 ha hb hc hd he hf hg hh hi hj hl hm hn ho hp hq hr hs ht hu hv hx hy hz hA hB hC hD hE hF hG hH hI : Value} {k : Nat} {A0 : Option Addr} {c0 : Nat} {l0 : List Int} {r : Bool} {w : World} (hu26 : Try.prog.underlying 26 = some (TypeDesc.struct #[Field.mk "Moves" 24 0 false "" "" 0])) (HR0 : Aside0 ((Kd.int IntKind.u8).C w A0 l0.length l0)) (HC0 : Aside0 (l0.length ≤ c0)) {t900 : List (List Int)} {gb904 : Nat} {Ao14 : Option Addr} {co14 : Nat} {v906 v910 v914 v918 v922 v926 : Value} {kj10 : Nat} (HJ10 : Aside0 (kj10 + 1 ≤ k)) {wc : World} (hcut : Za.R4 l0 r w t900 gb904 Ao14 co14 kj10  wc), Code.wp Try.prog (Sect.at_ [true,true,true,true,true,true,true,true,true,true,true] (Try.f3.body.getD .skip)) ((bodyPost Try.prog Try.f3 fun e w' => e = Ending.returned (Value.bool r) ∧ Below w.heap.size w w')) (Act.mk (List.toArray ((.slice A0 l0.length c0)::undef::ah::(.pointer (some (Addr.mk gb904 0 none)))::ab::v906::aa::v910::ag::v914::af::v918::ae::v922::ad::v926::ac::ai::aj::al::am::an::ao::ap::aq::ar::au::av::undef::undef::undef::undef::undef::undef::undef::undef::undef::undef::undef::undef::undef::undef::undef::undef::undef::undef::undef::undef::undef::undef::undef::undef::undef::undef::undef::undef::undef::undef::undef::undef::undef::undef::ax::ay::az::aA::aB::aC::aD::aE::aF::aG::aH::aI::aJ::aL::aM::aN::aO::aP::aQ::aR::aS::aT::aU::aV::aX::aY::aZ::a2::a3::a4::a5::a6::a7::a8::a9::ba::bb::bc::bd::be::bf::bg::bh::bi::bj::bl::bm::bn::bo::bp::bq::br::bs::bt::bu::bv::bx::bz::bA::bB::bC::bD::bE::bF::bG::bH::bI::bJ::bL::bM::bN::bO::bP::bQ::bR::bS::bT::bU::bV::bX::bY::bZ::b2::b3::b4::b5::b6::b7::b8::b9::ca::cb::cc::cd::ce::cf::cg::ch::ci::cj::cl::cm::cn::co::cp::cq::cr::cs::ct::cu::cv::cx::cy::cz::cA::cB::cC::cD::cE::cF::cG::cH::cI::cJ::cL::cM::cN::cO::cP::cQ::cR::cS::cT::cU::cV::cX::cY::cZ::c2::c3::c4::c5::c6::c7::c8::c9::da::db::dc::dd::de::df::dg::dh::di::dj::dl::dm::dn::dp::dq::dr::ds::dt::du::dv::dx::dy::dz::dA::dB::dC::dD::dE::dF::dG::dH::dI::dJ::dL::dM::dN::dO::dP::dQ::dR::dS::dT::dU::dV::dX::dY::dZ::d2::d3::d4::d5::d6::d7::d8::d9::ea::eb::ec::ed::ee::ef::eg::eh::ei::ej::el::em::en::eo::ep::eq::er::es::et::eu::ev::ex::ey::ez::eA::eB::eC::eD::eE::eF::eG::eH::eI::eJ::eL::eM::eN::eO::eP::eQ::eR::eS::eT::eU::eV::eX::eY::eZ::e2::e3::e4::e5::e6::e7::e8::e9::fa::fb::fc::fd::fe::ff::fg::fh::fi::fj::fl::fm::fn::fo::fp::fq::fr::fs::ft::fu::fv::fx::fy::fz::fA::fB::fC::fD::fE::fF::fG::fH::fI::fJ::undef::undef::fL::fM::fN::fO::fP::fQ::fR::fS::fT::fU::fV::fX::fY::fZ::f2::f4::f5::f6::f7::f8::f9::ga::gb::gc::gd::ge::gf::gg::gh::gi::gj::gl::gm::gn::go::gp::gq::gr::gs::gt::gu::gv::gx::gy::gz::gA::gB::gC::gD::gE::gF::gG::gH::gI::gJ::gL::gM::gN::gO::gP::gQ::gR::gS::gT::gU::gV::gX::gY::gZ::g2::g3::g4::g5::g6::g7::g8::g9::ha::hb::hc::hd::he::hf::hg::hh::hi::hj::hl::hm::hn::ho::hp::hq::hr::hs::ht::hu::hv::hx::hy::hz::hA::hB::hC::hD::hE::hF::hG::hH::hI::[])) []) wc
def Za.R5 (l0 : List Int) (r : Bool) (w : World) (t900 : List (List Int)) (gb904 : Nat) (Ao14 : Option Addr) (co14 kj53 : Nat) (t961 : List (List Int)) (t965 : List Int) (t968 : Int) (t973 t981 t989 : List Int) (gb964 : Nat) (Ao136 : Option Addr) (co136 : Nat) (v966 v974 v982 v990 : Value) (v342 : Value) (wc : World) : Prop := ∃ (kq : Nat) (x342_132 : Bool), v342 = .bool x342_132 ∧ Aside0 (Za.j6 kq l0 t965 t968 t973 t981 t989 x342_132 t961 = some r) ∧ Aside0 (kq ≤ kj53) ∧ Aside0 (Kd.R (Kd.int .i64) 2 wc w.heap.size (fun k_ => some k_ ≠ (v974 : Value).ownBlock ∧ some k_ ≠ (v982 : Value).ownBlock ∧ some k_ ≠ (v990 : Value).ownBlock) v966 t965) ∧ Aside0 (Kd.R (Kd.int .i64) 2 wc w.heap.size (fun k_ => some k_ ≠ (v966 : Value).ownBlock ∧ some k_ ≠ (v982 : Value).ownBlock ∧ some k_ ≠ (v990 : Value).ownBlock) v974 t973) ∧ Aside0 (Kd.R (Kd.int .i64) 2 wc w.heap.size (fun k_ => some k_ ≠ (v966 : Value).ownBlock ∧ some k_ ≠ (v974 : Value).ownBlock ∧ some k_ ≠ (v990 : Value).ownBlock) v982 t981) ∧ Aside0 (Kd.R (Kd.int .i64) 2 wc w.heap.size (fun k_ => some k_ ≠ (v966 : Value).ownBlock ∧ some k_ ≠ (v974 : Value).ownBlock ∧ some k_ ≠ (v982 : Value).ownBlock) v990 t989) ∧ Aside0 (Kd.V (Kd.slice 2 (Kd.int .i64)) 29 wc w.heap.size (fun k_ => some k_ ≠ (v966 : Value).ownBlock ∧ some k_ ≠ (v974 : Value).ownBlock ∧ some k_ ≠ (v982 : Value).ownBlock ∧ some k_ ≠ (v990 : Value).ownBlock ∧ k_ ≠ gb904 ∧ k_ ≠ gb964) (.slice Ao14 t900.length co14) t900) ∧ Aside0 (Kd.V (Kd.slice 2 (Kd.int .i64)) 29 wc w.heap.size (fun k_ => some k_ ≠ (v966 : Value).ownBlock ∧ some k_ ≠ (v974 : Value).ownBlock ∧ some k_ ≠ (v982 : Value).ownBlock ∧ some k_ ≠ (v990 : Value).ownBlock ∧ k_ ≠ gb904 ∧ k_ ≠ gb964) (.slice Ao136 t961.length co136) t961) ∧ Aside0 (wc.heap[gb904]? = some (.cells #[(.slice Ao14 t900.length co14)] 26 (0, 0))) ∧ Aside0 (wc.heap[gb964]? = some (.cells #[(.slice Ao136 t961.length co136)] 26 (0, 0))) ∧ Aside0 (Below w.heap.size w wc)
def Za.S5 : Prop := ∀ {aa ab ac ad ae af ag ah ai aj al am an ao ap aq ar au av ax ay az aA aB aC aD aE aF aG aH aI aJ aL aM aN aO aP aQ aR aS aT aU aV aX aY aZ a2 a3 a4 a5 a6 a7 a8 a9 ba bb bc bd be bf bg bh bi bj bl bm bn bo bp bq br bs bt bu bv bx bz bA bB bC bD bE bF bG bH bI bJ bL bM bN bO bP bQ bR bS bT bU bV bX bY bZ b2 b3 b4 b5 b6 b7 b8 b9 ca cb cc cd ce cf cg ch ci cj cl cm cn co cp cq cr cs ct cu cv cx cy cz cA cB cC cD cE cF cG cH cI cJ cL cM cN cO cP cQ cR cS cT cU cV cX cY cZ c2 c3 c4 c5 c6 c7 c8 c9 da db dc dd de df dg dh di dj dl dm dn dp dq dr ds dt du dv dx dy dz dA dB dC dD dE dF dG dH dI dJ dL dM dN dO dP dQ dR dS dT dU dV dX dY dZ d2 d3 d4 d5 d6 d7 d8 d9 ea eb ec ed ee ef eg eh ei ej el em en eo ep eq er es et eu ev ex ey ez eA eB eC eD eE eF eG eH eI eJ eL eM eN eO eP eQ eR eS eT eU eV eX eY eZ e2 e3 e4 e5 e6 e7 e8 e9 fa fb fc fd fe ff fg fh fi fj fl fm fn fo fp fq fr fs ft fu fv fx fy fz fA fB fC fD fE fF fG fH fI fJ fL fM fN fO fP fQ fR fS fT fU fV fX fY fZ f2 f4 f5 f6 f7 f8 f9 ga gb gc gd ge gf gg gh gi gj gl gm gn go gp gq gr gs gt gu gv gx gy gz gA gB gC gD gE gF gG gH gI gJ gL gM gN gO gP gQ gR gS gT gU gV gX gY gZ g2 g3 g4 g5 g6 g7 g8 g9 ha hb hc hd he hf hg hh hi hj hl hm hn ho hp hq hr hs ht hu hv hx hy hz hA hB hC hD hE hF hG hH hI hJ hL hM hN hO hP : Value} {k : Nat} {A0 : Option Addr} {c0 : Nat} {l0 : List Int} {r : Bool} {w : World} (hu26 : Try.prog.underlying 26 = some (TypeDesc.struct #[Field.mk "Moves" 24 0 false "" "" 0])) (HR0 : Aside0 ((Kd.int IntKind.u8).C w A0 l0.length l0)) (HC0 : Aside0 (l0.length ≤ c0)) {t900 : List (List Int)} {gb904 : Nat} {Ao14 : Option Addr} {co14 : Nat} {v906 v910 v914 v918 v922 v926 : Value} {kj10 : Nat} (HJ10 : Aside0 (kj10 + 1 ≤ k)) {kj53 : Nat} (HJ53 : Aside0 (kj53 + 1 ≤ kj10)) {t961 : List (List Int)} {t965 : List Int} {t968 : Int} {t973 t981 t989 : List Int} {gb964 : Nat} (NB904_964 : Aside0 (gb904 ≠ gb964)) (NB964_904 : Aside0 (gb964 ≠ gb904)) {Ao136 : Option Addr} {co136 : Nat} (hnb137 : gb964 ≠ gb904) (hnc137 : gb904 ≠ gb964) {v966 v970 v974 v978 v982 v986 v990 v994 : Value} {z5_685 : Act → World → Prop} (z5_686 : ∀ (a_ : Act) (w_ : World), Code.wp Try.prog (Sect.at_ [true,true,true,true,true,true,true,true,true,true,true,true,true,true,true,true,true,true,true,true,true] (Try.f3.body.getD .skip)) ((bodyPost Try.prog Try.f3 fun e w' => e = Ending.returned (Value.bool r) ∧ Below w.heap.size w w')) a_ w_ → z5_685 a_ w_) {wc : World} {u342 : Value} (hcut : Za.R5 l0 r w t900 gb904 Ao14 co14 kj53 t961 t965 t968 t973 t981 t989 gb964 Ao136 co136 v966 v974 v982 v990 u342 wc), Code.wp Try.prog (Sect.at_ [true,true,true,true,true,true,true,true,true,true,true,true,true,true,true,true,true,true,true,true,false,true] (Try.f3.body.getD .skip)) (Exit.then z5_685 (bodyPost Try.prog Try.f3 fun e w' => e = Ending.returned (Value.bool r) ∧ Below w.heap.size w w')) (Act.mk (List.toArray ((.slice A0 l0.length c0)::undef::ap::(.pointer (some (Addr.mk gb904 0 none)))::ai::v906::ah::v910::ao::v914::an::v918::am::v922::al::v926::aj::aq::ar::au::av::ax::ay::az::aA::aB::aC::aD::(.pointer (some (Addr.mk gb964 0 none)))::v966::(.int .i64 t968)::v970::ag::v974::af::v978::ae::v982::ad::v986::ac::v990::ab::v994::aa::undef::undef::undef::undef::undef::undef::undef::undef::undef::undef::undef::undef::undef::undef::undef::undef::undef::aI::aJ::aL::aM::aN::aO::aP::aQ::aR::aS::aT::aU::aV::aX::aY::aZ::a2::a3::a4::a5::a6::a7::a8::a9::ba::bb::bc::bd::be::bf::bg::bh::bi::bj::bl::bm::bn::bo::bp::bq::br::bs::bt::bu::bv::bx::bz::bA::bB::bC::bD::bE::bF::bG::bH::bI::bJ::bL::bM::bN::bO::bP::bQ::bR::bS::bT::bU::bV::bX::bY::bZ::b2::b3::b4::b5::b6::b7::b8::b9::ca::cb::cc::cd::ce::cf::cg::ch::ci::cj::cl::cm::cn::co::cp::cq::cr::cs::ct::cu::cv::cx::cy::cz::cA::cB::cC::cD::cE::cF::cG::cH::cI::cJ::cL::cM::cN::cO::cP::cQ::cR::cS::cT::cU::cV::cX::cY::cZ::c2::c3::c4::c5::c6::c7::c8::c9::da::db::dc::dd::de::aE::aF::df::dg::dh::di::dj::dl::dm::dn::dp::dq::dr::ds::dt::du::dv::dx::dy::dz::dA::dB::dC::dD::dE::dF::dG::dH::dI::dJ::dL::dM::dN::dO::dP::dQ::dR::dS::dT::dU::dV::dX::dY::dZ::d2::aG::aH::d3::d4::d5::d6::d7::d8::d9::ea::eb::ec::ed::ee::ef::eg::eh::ei::ej::el::em::en::eo::ep::eq::er::es::et::eu::ev::ex::ey::ez::eA::eB::eC::eD::eE::eF::eG::eH::eI::eJ::eL::eM::eN::eO::eP::eQ::eR::eS::eT::eU::eV::eX::eY::eZ::e2::e3::e4::e5::e6::e7::e8::e9::fa::fb::fc::fd::fe::ff::fg::fh::fi::fj::fl::fm::fn::fo::fp::fq::fr::fs::ft::fu::fv::fx::fy::fz::fA::fB::fC::fD::fE::fF::u342::fG::fH::fI::fJ::fL::fM::fN::fO::fP::fQ::undef::undef::fR::fS::fT::fU::fV::fX::fY::fZ::f2::f4::f5::f6::f7::f8::f9::ga::gb::gc::gd::ge::gf::gg::gh::gi::gj::gl::gm::gn::go::gp::gq::gr::gs::gt::gu::gv::gx::gy::gz::gA::gB::gC::gD::gE::gF::gG::gH::gI::gJ::gL::gM::gN::gO::gP::gQ::gR::gS::gT::gU::gV::gX::gY::gZ::g2::g3::g4::g5::g6::g7::g8::g9::ha::hb::hc::hd::he::hf::hg::hh::hi::hj::hl::hm::hn::ho::hp::hq::hr::hs::ht::hu::hv::hx::hy::hz::hA::hB::hC::hD::hE::hF::hG::hH::hI::hJ::hL::hM::hN::hO::hP::[])) []) wc
def Za.R6 (l0 : List Int) (r : Bool) (w : World) (t900 : List (List Int)) (gb904 : Nat) (Ao14 : Option Addr) (co14 : Nat) (t961 : List (List Int)) (gb964 : Nat) (Ao136 : Option Addr) (co136 kj132 : Nat) (wc : World) : Prop := ∃ (kq : Nat), Aside0 (Za.j8 kq l0 = some r) ∧ Aside0 (kq ≤ kj132) ∧ Aside0 (Kd.V (Kd.slice 2 (Kd.int .i64)) 29 wc w.heap.size (fun k_ => k_ ≠ gb904 ∧ k_ ≠ gb964) (.slice Ao14 t900.length co14) t900) ∧ Aside0 (Kd.V (Kd.slice 2 (Kd.int .i64)) 29 wc w.heap.size (fun k_ => k_ ≠ gb904 ∧ k_ ≠ gb964) (.slice Ao136 t961.length co136) t961) ∧ Aside0 (wc.heap[gb904]? = some (.cells #[(.slice Ao14 t900.length co14)] 26 (0, 0))) ∧ Aside0 (wc.heap[gb964]? = some (.cells #[(.slice Ao136 t961.length co136)] 26 (0, 0))) ∧ Aside0 (Below w.heap.size w wc)
def Za.S6 : Prop := ∀ {aa ab ac ad ae af ag ah ai aj al am an ao ap aq ar au av ax ay az aA aB aC aD aE aF aG aH aI aJ aL aM aN aO aP aQ aR aS aT aU aV aX aY aZ a2 a3 a4 a5 a6 a7 a8 a9 ba bb bc bd be bf bg bh bi bj bl bm bn bo bp bq br bs bt bu bv bx bz bA bB bC bD bE bF bG bH bI bJ bL bM bN bO bP bQ bR bS bT bU bV bX bY bZ b2 b3 b4 b5 b6 b7 b8 b9 ca cb cc cd ce cf cg ch ci cj cl cm cn co cp cq cr cs ct cu cv cx cy cz cA cB cC cD cE cF cG cH cI cJ cL cM cN cO cP cQ cR cS cT cU cV cX cY cZ c2 c3 c4 c5 c6 c7 c8 c9 da db dc dd de df dg dh di dj dl dm dn dp dq dr ds dt du dv dx dy dz dA dB dC dD dE dF dG dH dI dJ dL dM dN dO dP dQ dR dS dT dU dV dX dY dZ d2 d3 d4 d5 d6 d7 d8 d9 ea eb ec ed ee ef eg eh ei ej el em en eo ep eq er es et eu ev ex ey ez eA eB eC eD eE eF eG eH eI eJ eL eM eN eO eP eQ eR eS eT eU eV eX eY eZ e2 e3 e4 e5 e6 e7 e8 e9 fa fb fc fd fe ff fg fh fi fj fl fm fn fo fp fq fr fs ft fu fv fx fy fz fA fB fC fD fE fF fG fH fI fJ fL fM fN fO fP fQ fR fS fT fU fV fX fY fZ f2 f4 f5 f6 f7 f8 f9 ga gb gc gd ge gf gg gh gi gj gl gm gn go gp gq gr gs gt gu gv gx gy gz gA gB gC gD gE gF gG gH gI gJ gL gM gN gO gP gQ gR gS gT gU gV gX gY gZ g2 g3 g4 g5 g6 g7 g8 g9 ha hb hc hd he hf hg hh hi hj hl hm hn ho hp hq hr hs ht hu hv hx hy hz hA hB hC hD hE hF hG hH hI hJ hL hM hN hO hP hQ hR hS hT hU hV hX : Value} {k : Nat} {A0 : Option Addr} {c0 : Nat} {l0 : List Int} {r : Bool} {w : World} (hu26 : Try.prog.underlying 26 = some (TypeDesc.struct #[Field.mk "Moves" 24 0 false "" "" 0])) (HR0 : Aside0 ((Kd.int IntKind.u8).C w A0 l0.length l0)) (HC0 : Aside0 (l0.length ≤ c0)) {t900 : List (List Int)} {gb904 : Nat} {Ao14 : Option Addr} {co14 : Nat} {v906 v910 v914 v918 v922 v926 : Value} {kj10 : Nat} (HJ10 : Aside0 (kj10 + 1 ≤ k)) {kj53 : Nat} (HJ53 : Aside0 (kj53 + 1 ≤ kj10)) {t961 : List (List Int)} {gb964 : Nat} {Ao136 : Option Addr} {co136 : Nat} (hnb137 : gb964 ≠ gb904) (hnc137 : gb904 ≠ gb964) {v966 v970 v974 v978 v982 v986 v990 v994 : Value} {kj132 : Nat} (HJ132 : Aside0 (kj132 + 1 ≤ kj53)) {wc : World} (hcut : Za.R6 l0 r w t900 gb904 Ao14 co14 t961 gb964 Ao136 co136 kj132  wc), Code.wp Try.prog (Sect.at_ [true,true,true,true,true,true,true,true,true,true,true,true,true,true,true,true,true,true,true,true,true,true] (Try.f3.body.getD .skip)) ((bodyPost Try.prog Try.f3 fun e w' => e = Ending.returned (Value.bool r) ∧ Below w.heap.size w w')) (Act.mk (List.toArray ((.slice A0 l0.length c0)::undef::aI::(.pointer (some (Addr.mk gb904 0 none)))::aj::v906::ai::v910::ap::v914::ao::v918::an::v922::am::v926::al::aq::ar::au::av::ax::ay::az::aA::aB::aC::aD::(.pointer (some (Addr.mk gb964 0 none)))::v966::aa::v970::ah::v974::ag::v978::af::v982::ae::v986::ad::v990::ac::v994::ab::aJ::aL::aM::undef::undef::undef::undef::undef::undef::undef::undef::undef::undef::undef::undef::undef::undef::aN::aO::aP::aQ::aR::aS::aT::aU::aV::aX::aY::aZ::a2::a3::a4::a5::a6::a7::a8::a9::ba::bb::bc::bd::be::bf::bg::bh::bi::bj::bl::bm::bn::bo::bp::bq::br::bs::bt::bu::bv::bx::bz::bA::bB::bC::bD::bE::bF::bG::bH::bI::bJ::bL::bM::bN::bO::bP::bQ::bR::bS::bT::bU::bV::bX::bY::bZ::b2::b3::b4::b5::b6::b7::b8::b9::ca::cb::cc::cd::ce::cf::cg::ch::ci::cj::cl::cm::cn::co::cp::cq::cr::cs::ct::cu::cv::cx::cy::cz::cA::cB::cC::cD::cE::cF::cG::cH::cI::cJ::cL::cM::cN::cO::cP::cQ::cR::cS::cT::cU::cV::cX::cY::cZ::c2::c3::c4::c5::c6::c7::c8::c9::da::db::dc::dd::de::df::dg::dh::di::aE::aF::dj::dl::dm::dn::dp::dq::dr::ds::dt::du::dv::dx::dy::dz::dA::dB::dC::dD::dE::dF::dG::dH::dI::dJ::dL::dM::dN::dO::dP::dQ::dR::dS::dT::dU::dV::dX::dY::dZ::d2::d3::d4::d5::d6::aG::aH::d7::d8::d9::ea::eb::ec::ed::ee::ef::eg::eh::ei::ej::el::em::en::eo::ep::eq::er::es::et::eu::ev::ex::ey::ez::eA::eB::eC::eD::eE::eF::eG::eH::eI::eJ::eL::eM::eN::eO::eP::eQ::eR::eS::eT::eU::eV::eX::eY::eZ::e2::e3::e4::e5::e6::e7::e8::e9::fa::fb::fc::fd::fe::ff::fg::fh::fi::fj::fl::fm::fn::fo::fp::fq::fr::fs::ft::fu::fv::fx::fy::fz::fA::fB::fC::fD::fE::fF::fG::fH::fI::fJ::fL::fM::fN::fO::fP::fQ::fR::fS::fT::fU::fV::fX::fY::fZ::f2::f4::f5::f6::f7::f8::f9::ga::gb::gc::gd::ge::gf::gg::gh::gi::gj::gl::gm::gn::go::gp::gq::gr::gs::gt::gu::gv::gx::gy::gz::gA::gB::gC::gD::gE::gF::gG::gH::gI::gJ::gL::gM::gN::gO::gP::gQ::gR::gS::gT::gU::gV::gX::gY::gZ::g2::g3::g4::g5::g6::g7::g8::g9::ha::hb::hc::hd::he::hf::hg::hh::hi::hj::hl::hm::hn::ho::hp::hq::hr::hs::ht::hu::hv::hx::hy::hz::hA::hB::hC::hD::hE::hF::hG::hH::hI::hJ::hL::hM::hN::hO::hP::hQ::hR::hS::hT::hU::hV::hX::[])) []) wc
def Za.R7 (l0 : List Int) (r : Bool) (w : World) (t900 : List (List Int)) (gb904 : Nat) (Ao14 : Option Addr) (co14 : Nat) (t961 : List (List Int)) (gb964 : Nat) (Ao136 : Option Addr) (co136 kj197 : Nat) (t1012 : Int) (t1016 : List (List Int)) (t1019 : Int) (t1021 : List (List Int)) (gb1020 : Nat) (Ao247 : Option Addr) (co247 gb1025 : Nat) (Ao253 : Option Addr) (co253 : Nat) (v423 : Value) (wc : World) : Prop := ∃ (kq : Nat) (x423_241 : Bool), v423 = .bool x423_241 ∧ Aside0 (Za.j9 kq l0 t1012 t1019 x423_241 t1016 = some r) ∧ Aside0 (kq ≤ kj197) ∧ Aside0 (Kd.V (Kd.slice 2 (Kd.int .i64)) 29 wc w.heap.size (fun k_ => some k_ ≠ ((.slice Ao247 t1016.length co247) : Value).ownBlock ∧ some k_ ≠ ((.slice Ao253 t1021.length co253) : Value).ownBlock ∧ k_ ≠ gb904 ∧ k_ ≠ gb964 ∧ k_ ≠ gb1020 ∧ k_ ≠ gb1025) (.slice Ao14 t900.length co14) t900) ∧ Aside0 (Kd.V (Kd.slice 2 (Kd.int .i64)) 29 wc w.heap.size (fun k_ => some k_ ≠ ((.slice Ao247 t1016.length co247) : Value).ownBlock ∧ some k_ ≠ ((.slice Ao253 t1021.length co253) : Value).ownBlock ∧ k_ ≠ gb904 ∧ k_ ≠ gb964 ∧ k_ ≠ gb1020 ∧ k_ ≠ gb1025) (.slice Ao136 t961.length co136) t961) ∧ Aside0 (Kd.S (Kd.slice 2 (Kd.int .i64)) 29 wc w.heap.size (fun k_ => some k_ ≠ ((.slice Ao253 t1021.length co253) : Value).ownBlock) (.slice Ao247 t1016.length co247) t1016) ∧ Aside0 (Kd.S (Kd.slice 2 (Kd.int .i64)) 29 wc w.heap.size (fun k_ => some k_ ≠ ((.slice Ao247 t1016.length co247) : Value).ownBlock) (.slice Ao253 t1021.length co253) t1021) ∧ Aside0 (wc.heap[gb904]? = some (.cells #[(.slice Ao14 t900.length co14)] 26 (0, 0))) ∧ Aside0 (wc.heap[gb964]? = some (.cells #[(.slice Ao136 t961.length co136)] 26 (0, 0))) ∧ Aside0 (wc.heap[gb1020]? = some (.cells #[(.slice Ao247 t1016.length co247)] 26 (0, 0))) ∧ Aside0 (wc.heap[gb1025]? = some (.cells #[(.slice Ao253 t1021.length co253)] 26 (0, 0))) ∧ Aside0 (Below w.heap.size w wc)
def Za.S7 : Prop := ∀ {aa ab ac ad ae af ag ah ai aj al am an ao ap aq ar au av ax ay az aA aB aC aD aE aF aG aH aI aJ aL aM aN aO aP aQ aR aS aT aU aV aX aY aZ a2 a3 a4 a5 a6 a7 a8 a9 ba bb bc bd be bf bg bh bi bj bl bm bn bo bp bq br bs bt bu bv bx bz bA bB bC bD bE bF bG bH bI bJ bL bM bN bO bP bQ bR bS bT bU bV bX bY bZ b2 b3 b4 b5 b6 b7 b8 b9 ca cb cc cd ce cf cg ch ci cj cl cm cn co cp cq cr cs ct cu cv cx cy cz cA cB cC cD cE cF cG cH cI cJ cL cM cN cO cP cQ cR cS cT cU cV cX cY cZ c2 c3 c4 c5 c6 c7 c8 c9 da db dc dd de df dg dh di dj dl dm dn dp dq dr ds dt du dv dx dy dz dA dB dC dD dE dF dG dH dI dJ dL dM dN dO dP dQ dR dS dT dU dV dX dY dZ d2 d3 d4 d5 d6 d7 d8 d9 ea eb ec ed ee ef eg eh ei ej el em en eo ep eq er es et eu ev ex ey ez eA eB eC eD eE eF eG eH eI eJ eL eM eN eO eP eQ eR eS eT eU eV eX eY eZ e2 e3 e4 e5 e6 e7 e8 e9 fa fb fc fd fe ff fg fh fi fj fl fm fn fo fp fq fr fs ft fu fv fx fy fz fA fB fC fD fE fF fG fH fI fJ fL fM fN fO fP fQ fR fS fT fU fV fX fY fZ f2 f4 f5 f6 f7 f8 f9 ga gb gc gd ge gf gg gh gi gj gl gm gn go gp gq gr gs gt gu gv gx gy gz gA gB gC gD gE gF gG gH gI gJ gL gM gN gO gP gQ gR gS gT gU gV gX gY gZ g2 g3 g4 g5 g6 g7 g8 g9 ha hb hc hd he hf hg hh hi hj hl hm hn ho hp hq hr hs ht hu hv hx hy hz hA hB hC hD hE hF hG hH hI hJ hL hM hN hO hP hQ hR hS hT hU hV hX hY : Value} {k : Nat} {A0 : Option Addr} {c0 : Nat} {l0 : List Int} {r : Bool} {w : World} (hu26 : Try.prog.underlying 26 = some (TypeDesc.struct #[Field.mk "Moves" 24 0 false "" "" 0])) (HR0 : Aside0 ((Kd.int IntKind.u8).C w A0 l0.length l0)) (HC0 : Aside0 (l0.length ≤ c0)) {t900 : List (List Int)} {gb904 : Nat} {Ao14 : Option Addr} {co14 : Nat} {v906 v910 v914 v918 v922 v926 : Value} {kj10 : Nat} (HJ10 : Aside0 (kj10 + 1 ≤ k)) {kj53 : Nat} (HJ53 : Aside0 (kj53 + 1 ≤ kj10)) {t961 : List (List Int)} {gb964 : Nat} {Ao136 : Option Addr} {co136 : Nat} (hnb137 : gb964 ≠ gb904) (hnc137 : gb904 ≠ gb964) {v966 v970 v974 v978 v982 v986 v990 v994 : Value} {kj132 : Nat} (HJ132 : Aside0 (kj132 + 1 ≤ kj53)) {kj197 : Nat} (HJ197 : Aside0 (kj197 + 1 ≤ kj132)) {t1012 : Int} {t1016 : List (List Int)} {t1019 : Int} {t1021 : List (List Int)} {gb1020 : Nat} (NB904_1020 : Aside0 (gb904 ≠ gb1020)) (NB1020_904 : Aside0 (gb1020 ≠ gb904)) (NB964_1020 : Aside0 (gb964 ≠ gb1020)) (NB1020_964 : Aside0 (gb1020 ≠ gb964)) {Ao247 : Option Addr} {co247 : Nat} (hnb248 : gb1020 ≠ gb904) (hnc248 : gb904 ≠ gb1020) (hnb249 : gb1020 ≠ gb964) (hnc249 : gb964 ≠ gb1020) {gb1025 : Nat} (NB1020_1025 : Aside0 (gb1020 ≠ gb1025)) (NB1025_1020 : Aside0 (gb1025 ≠ gb1020)) {Ao253 : Option Addr} {co253 : Nat} (hnb254 : gb1025 ≠ gb904) (hnc254 : gb904 ≠ gb1025) (hnb255 : gb1025 ≠ gb964) (hnc255 : gb964 ≠ gb1025) (hnb256 : gb1025 ≠ gb1020) (hnc256 : gb1020 ≠ gb1025) {z7_620 : Act → World → Prop} (z7_621 : ∀ (a_ : Act) (w_ : World), Code.wp Try.prog (Sect.at_ [true,true,true,true,true,true,true,true,true,true,true,true,true,true,true,true,true,true,true,true,true,true,true,true,true,true] (Try.f3.body.getD .skip)) ((bodyPost Try.prog Try.f3 fun e w' => e = Ending.returned (Value.bool r) ∧ Below w.heap.size w w')) a_ w_ → z7_620 a_ w_) {wc : World} {u423 : Value} (hcut : Za.R7 l0 r w t900 gb904 Ao14 co14 t961 gb964 Ao136 co136 kj197 t1012 t1016 t1019 t1021 gb1020 Ao247 co247 gb1025 Ao253 co253 u423 wc), Code.wp Try.prog (Sect.at_ [true,true,true,true,true,true,true,true,true,true,true,true,true,true,true,true,true,true,true,true,true,true,true,true,true,false,true] (Try.f3.body.getD .skip)) (Exit.then z7_620 (bodyPost Try.prog Try.f3 fun e w' => e = Ending.returned (Value.bool r) ∧ Below w.heap.size w w')) (Act.mk (List.toArray ((.slice A0 l0.length c0)::undef::aL::(.pointer (some (Addr.mk gb904 0 none)))::am::v906::al::v910::ar::v914::aq::v918::ap::v922::ao::v926::an::au::av::ax::ay::az::aA::aB::aC::aD::aE::aF::(.pointer (some (Addr.mk gb964 0 none)))::v966::ac::v970::aj::v974::ai::v978::ah::v982::ag::v986::af::v990::ae::v994::ad::aM::aN::aO::(.int .i64 t1012)::ab::(.pointer (some (Addr.mk gb1020 0 none)))::(.int .i64 t1019)::(.pointer (some (Addr.mk gb1025 0 none)))::aa::undef::undef::undef::undef::undef::undef::undef::undef::aR::aS::aT::aU::aV::aX::aY::aZ::a2::a3::a4::a5::a6::a7::a8::a9::ba::bb::bc::bd::be::bf::bg::bh::bi::bj::bl::bm::bn::bo::bp::bq::br::bs::bt::bu::bv::bx::bz::bA::bB::bC::bD::bE::bF::bG::bH::bI::bJ::bL::bM::bN::bO::bP::bQ::bR::bS::bT::bU::bV::bX::bY::bZ::b2::b3::b4::b5::b6::b7::b8::b9::ca::cb::cc::cd::ce::cf::cg::ch::ci::cj::cl::cm::cn::co::cp::cq::cr::cs::ct::cu::cv::cx::cy::cz::cA::cB::cC::cD::cE::cF::cG::cH::cI::cJ::cL::cM::cN::cO::cP::cQ::cR::cS::cT::cU::cV::cX::cY::cZ::c2::c3::c4::c5::c6::c7::c8::c9::da::db::dc::dd::de::df::dg::dh::di::dj::dl::dm::dn::aG::aH::dp::dq::dr::ds::dt::du::dv::dx::dy::dz::dA::dB::dC::dD::dE::dF::dG::dH::dI::dJ::dL::dM::dN::dO::dP::dQ::dR::dS::dT::dU::dV::dX::dY::dZ::d2::d3::d4::d5::d6::d7::d8::d9::ea::aI::aJ::eb::ec::ed::ee::ef::eg::eh::ei::ej::el::em::en::eo::ep::eq::er::es::et::eu::ev::ex::ey::ez::eA::eB::eC::eD::eE::eF::eG::eH::eI::eJ::eL::eM::eN::eO::eP::eQ::eR::eS::eT::eU::eV::eX::eY::eZ::e2::e3::e4::e5::e6::e7::e8::e9::fa::fb::fc::fd::fe::ff::fg::fh::fi::fj::fl::fm::fn::fo::fp::fq::fr::fs::ft::fu::fv::fx::fy::fz::fA::fB::fC::fD::fE::fF::fG::fH::fI::fJ::fL::fM::fN::fO::fP::fQ::fR::fS::fT::fU::fV::fX::fY::fZ::f2::aP::aQ::f4::f5::f6::f7::f8::f9::ga::gb::gc::gd::ge::gf::gg::gh::gi::gj::gl::gm::gn::go::gp::gq::gr::gs::gt::gu::gv::gx::gy::gz::gA::gB::gC::gD::gE::gF::gG::gH::gI::gJ::gL::gM::gN::gO::gP::gQ::gR::gS::gT::gU::gV::gX::gY::gZ::g2::g3::g4::g5::g6::g7::g8::g9::ha::hb::hc::hd::he::hf::u423::hg::hh::hi::hj::hl::hm::hn::ho::hp::hq::hr::hs::ht::hu::hv::hx::hy::hz::hA::hB::hC::hD::hE::hF::hG::hH::hI::hJ::hL::hM::hN::hO::hP::hQ::hR::hS::hT::hU::hV::hX::hY::[])) []) wc
def Za.R8 (l0 : List Int) (r : Bool) (w : World) (t900 : List (List Int)) (gb904 : Nat) (Ao14 : Option Addr) (co14 : Nat) (t961 : List (List Int)) (gb964 : Nat) (Ao136 : Option Addr) (co136 : Nat) (t1016 t1021 : List (List Int)) (gb1020 : Nat) (Ao247 : Option Addr) (co247 gb1025 : Nat) (Ao253 : Option Addr) (co253 kj241 : Nat) (v433 : Value) (wc : World) : Prop := ∃ (kq : Nat) (x433_268 : Bool), v433 = .bool x433_268 ∧ Aside0 (Za.j10 kq l0 x433_268 = some r) ∧ Aside0 (kq ≤ kj241) ∧ Aside0 (Kd.V (Kd.slice 2 (Kd.int .i64)) 29 wc w.heap.size (fun k_ => some k_ ≠ ((.slice Ao247 t1016.length co247) : Value).ownBlock ∧ some k_ ≠ ((.slice Ao253 t1021.length co253) : Value).ownBlock ∧ k_ ≠ gb904 ∧ k_ ≠ gb964 ∧ k_ ≠ gb1020 ∧ k_ ≠ gb1025) (.slice Ao14 t900.length co14) t900) ∧ Aside0 (Kd.V (Kd.slice 2 (Kd.int .i64)) 29 wc w.heap.size (fun k_ => some k_ ≠ ((.slice Ao247 t1016.length co247) : Value).ownBlock ∧ some k_ ≠ ((.slice Ao253 t1021.length co253) : Value).ownBlock ∧ k_ ≠ gb904 ∧ k_ ≠ gb964 ∧ k_ ≠ gb1020 ∧ k_ ≠ gb1025) (.slice Ao136 t961.length co136) t961) ∧ Aside0 (Kd.S (Kd.slice 2 (Kd.int .i64)) 29 wc w.heap.size (fun k_ => some k_ ≠ ((.slice Ao253 t1021.length co253) : Value).ownBlock) (.slice Ao247 t1016.length co247) t1016) ∧ Aside0 (Kd.S (Kd.slice 2 (Kd.int .i64)) 29 wc w.heap.size (fun k_ => some k_ ≠ ((.slice Ao247 t1016.length co247) : Value).ownBlock) (.slice Ao253 t1021.length co253) t1021) ∧ Aside0 (wc.heap[gb904]? = some (.cells #[(.slice Ao14 t900.length co14)] 26 (0, 0))) ∧ Aside0 (wc.heap[gb964]? = some (.cells #[(.slice Ao136 t961.length co136)] 26 (0, 0))) ∧ Aside0 (wc.heap[gb1020]? = some (.cells #[(.slice Ao247 t1016.length co247)] 26 (0, 0))) ∧ Aside0 (wc.heap[gb1025]? = some (.cells #[(.slice Ao253 t1021.length co253)] 26 (0, 0))) ∧ Aside0 (Below w.heap.size w wc)
def Za.S8 : Prop := ∀ {aa ab ac ad ae af ag ah ai aj al am an ao ap aq ar au av ax ay az aA aB aC aD aE aF aG aH aI aJ aL aM aN aO aP aQ aR aS aT aU aV aX aY aZ a2 a3 a4 a5 a6 a7 a8 a9 ba bb bc bd be bf bg bh bi bj bl bm bn bo bp bq br bs bt bu bv bx bz bA bB bC bD bE bF bG bH bI bJ bL bM bN bO bP bQ bR bS bT bU bV bX bY bZ b2 b3 b4 b5 b6 b7 b8 b9 ca cb cc cd ce cf cg ch ci cj cl cm cn co cp cq cr cs ct cu cv cx cy cz cA cB cC cD cE cF cG cH cI cJ cL cM cN cO cP cQ cR cS cT cU cV cX cY cZ c2 c3 c4 c5 c6 c7 c8 c9 da db dc dd de df dg dh di dj dl dm dn dp dq dr ds dt du dv dx dy dz dA dB dC dD dE dF dG dH dI dJ dL dM dN dO dP dQ dR dS dT dU dV dX dY dZ d2 d3 d4 d5 d6 d7 d8 d9 ea eb ec ed ee ef eg eh ei ej el em en eo ep eq er es et eu ev ex ey ez eA eB eC eD eE eF eG eH eI eJ eL eM eN eO eP eQ eR eS eT eU eV eX eY eZ e2 e3 e4 e5 e6 e7 e8 e9 fa fb fc fd fe ff fg fh fi fj fl fm fn fo fp fq fr fs ft fu fv fx fy fz fA fB fC fD fE fF fG fH fI fJ fL fM fN fO fP fQ fR fS fT fU fV fX fY fZ f2 f4 f5 f6 f7 f8 f9 ga gb gc gd ge gf gg gh gi gj gl gm gn go gp gq gr gs gt gu gv gx gy gz gA gB gC gD gE gF gG gH gI gJ gL gM gN gO gP gQ gR gS gT gU gV gX gY gZ g2 g3 g4 g5 g6 g7 g8 g9 ha hb hc hd he hf hg hh hi hj hl hm hn ho hp hq hr hs ht hu hv hx hy hz hA hB hC hD hE hF hG hH hI hJ hL hM hN hO hP hQ hR hS hT hU hV hX hY hZ h2 : Value} {A0 : Option Addr} {c0 : Nat} {l0 : List Int} {r : Bool} {w : World} (hu26 : Try.prog.underlying 26 = some (TypeDesc.struct #[Field.mk "Moves" 24 0 false "" "" 0])) (HR0 : Aside0 ((Kd.int IntKind.u8).C w A0 l0.length l0)) (HC0 : Aside0 (l0.length ≤ c0)) {t900 : List (List Int)} {gb904 : Nat} {Ao14 : Option Addr} {co14 : Nat} {v906 v910 v914 v918 v922 v926 : Value} {t961 : List (List Int)} {gb964 : Nat} {Ao136 : Option Addr} {co136 : Nat} (hnb137 : gb964 ≠ gb904) (hnc137 : gb904 ≠ gb964) {v966 v970 v974 v978 v982 v986 v990 v994 : Value} {t1016 t1021 : List (List Int)} {gb1020 : Nat} {Ao247 : Option Addr} {co247 : Nat} (hnb248 : gb1020 ≠ gb904) (hnc248 : gb904 ≠ gb1020) (hnb249 : gb1020 ≠ gb964) (hnc249 : gb964 ≠ gb1020) {gb1025 : Nat} {Ao253 : Option Addr} {co253 : Nat} (hnb254 : gb1025 ≠ gb904) (hnc254 : gb904 ≠ gb1025) (hnb255 : gb1025 ≠ gb964) (hnc255 : gb964 ≠ gb1025) (hnb256 : gb1025 ≠ gb1020) (hnc256 : gb1020 ≠ gb1025) {kj241 : Nat} {z8_528 : Act → World → Prop} (z8_529 : ∀ (a_ : Act) (w_ : World), Code.wp Try.prog (Sect.at_ [true,true,true,true,true,true,true,true,true,true,true,true,true,true,true,true,true,true,true,true,true,true,true,true,true,true,true] (Try.f3.body.getD .skip)) ((bodyPost Try.prog Try.f3 fun e w' => e = Ending.returned (Value.bool r) ∧ Below w.heap.size w w')) a_ w_ → z8_528 a_ w_) {wc : World} {u433 : Value} (hcut : Za.R8 l0 r w t900 gb904 Ao14 co14 t961 gb964 Ao136 co136 t1016 t1021 gb1020 Ao247 co247 gb1025 Ao253 co253 kj241 u433 wc), Code.wp Try.prog (Sect.at_ [true,true,true,true,true,true,true,true,true,true,true,true,true,true,true,true,true,true,true,true,true,true,true,true,true,true,false,true] (Try.f3.body.getD .skip)) (Exit.then z8_528 (bodyPost Try.prog Try.f3 fun e w' => e = Ending.returned (Value.bool r) ∧ Below w.heap.size w w')) (Act.mk (List.toArray ((.slice A0 l0.length c0)::undef::aN::(.pointer (some (Addr.mk gb904 0 none)))::ao::v906::an::v910::av::v914::au::v918::ar::v922::aq::v926::ap::ax::ay::az::aA::aB::aC::aD::aE::aF::aG::aH::(.pointer (some (Addr.mk gb964 0 none)))::v966::ae::v970::am::v974::al::v978::aj::v982::ai::v986::ah::v990::ag::v994::af::aO::aP::aQ::ab::ad::(.pointer (some (Addr.mk gb1020 0 none)))::aa::(.pointer (some (Addr.mk gb1025 0 none)))::ac::undef::undef::undef::undef::undef::undef::undef::undef::aT::aU::aV::aX::aY::aZ::a2::a3::a4::a5::a6::a7::a8::a9::ba::bb::bc::bd::be::bf::bg::bh::bi::bj::bl::bm::bn::bo::bp::bq::br::bs::bt::bu::bv::bx::bz::bA::bB::bC::bD::bE::bF::bG::bH::bI::bJ::bL::bM::bN::bO::bP::bQ::bR::bS::bT::bU::bV::bX::bY::bZ::b2::b3::b4::b5::b6::b7::b8::b9::ca::cb::cc::cd::ce::cf::cg::ch::ci::cj::cl::cm::cn::co::cp::cq::cr::cs::ct::cu::cv::cx::cy::cz::cA::cB::cC::cD::cE::cF::cG::cH::cI::cJ::cL::cM::cN::cO::cP::cQ::cR::cS::cT::cU::cV::cX::cY::cZ::c2::c3::c4::c5::c6::c7::c8::c9::da::db::dc::dd::de::df::dg::dh::di::dj::dl::dm::dn::dp::dq::aI::aJ::dr::ds::dt::du::dv::dx::dy::dz::dA::dB::dC::dD::dE::dF::dG::dH::dI::dJ::dL::dM::dN::dO::dP::dQ::dR::dS::dT::dU::dV::dX::dY::dZ::d2::d3::d4::d5::d6::d7::d8::d9::ea::eb::ec::aL::aM::ed::ee::ef::eg::eh::ei::ej::el::em::en::eo::ep::eq::er::es::et::eu::ev::ex::ey::ez::eA::eB::eC::eD::eE::eF::eG::eH::eI::eJ::eL::eM::eN::eO::eP::eQ::eR::eS::eT::eU::eV::eX::eY::eZ::e2::e3::e4::e5::e6::e7::e8::e9::fa::fb::fc::fd::fe::ff::fg::fh::fi::fj::fl::fm::fn::fo::fp::fq::fr::fs::ft::fu::fv::fx::fy::fz::fA::fB::fC::fD::fE::fF::fG::fH::fI::fJ::fL::fM::fN::fO::fP::fQ::fR::fS::fT::fU::fV::fX::fY::fZ::f2::f4::f5::aR::aS::f6::f7::f8::f9::ga::gb::gc::gd::ge::gf::gg::gh::gi::gj::gl::gm::gn::go::gp::gq::gr::gs::gt::gu::gv::gx::gy::gz::gA::gB::gC::gD::gE::gF::gG::gH::gI::gJ::gL::gM::gN::gO::gP::gQ::gR::gS::gT::gU::gV::gX::gY::gZ::g2::g3::g4::g5::g6::g7::g8::g9::ha::hb::hc::hd::he::hf::hg::hh::hi::hj::hl::hm::hn::ho::hp::hq::hr::hs::u433::ht::hu::hv::hx::hy::hz::hA::hB::hC::hD::hE::hF::hG::hH::hI::hJ::hL::hM::hN::hO::hP::hQ::hR::hS::hT::hU::hV::hX::hY::hZ::h2::[])) []) wc
end Go.Proofs.Ytfpoppidppoeoaa.PX
