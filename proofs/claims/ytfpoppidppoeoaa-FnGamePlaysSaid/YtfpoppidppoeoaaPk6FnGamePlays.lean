/- Part 6 of the texts under the row of FnGamePlays (no condition). -/
import Derived.Lib.SliceRun
import Derived.Test.YtfpoppidppoeoaaPk5FnGamePlays
namespace Go.Proofs.Ytfpoppidppoeoaa.PX
open Go.RowKit Go.Proofs.YtfpoppidppoeoaaW.PrintWords Go.Proofs.YtfpoppidppoeoaaW.PrintLast Go.Proofs.YtfpoppidppoeoaaW.PrintMore
attribute [local go_sem] max2_int min2_int max_two min_two max_three min_three max_four min_four
set_option linter.unusedVariables false
set_option linter.unusedSimpArgs false
set_option maxHeartbeats 8000000
set_option maxRecDepth 100000
def lenUp (a x : S70) : S70 := if x.f0 = true then (if a.f0 = true then a else ⟨a.f0, mx a.f1 (wrap64 (x.f1 + 1))⟩) else (if a.f0 = true then (if wrap64 (x.f1 + 1) < a.f1 then ⟨true, wrap64 (x.f1 + 1)⟩ else a) else ⟨true, wrap64 (x.f1 + 1)⟩)
theorem lenUp_tw (m : Int) (x : S70) (h : x.f0 = true) : lenUp ⟨true, m⟩ x = ⟨true, m⟩ := by unfold lenUp; simp [h]
theorem lenUp_fw (m : Int) (x : S70) (h : x.f0 = true) : lenUp ⟨false, m⟩ x = ⟨false, mx m (wrap64 (x.f1 + 1))⟩ := by unfold lenUp; simp [h]
theorem lenUp_tl (m : Int) (x : S70) (h : ¬ x.f0 = true) : lenUp ⟨true, m⟩ x = if wrap64 (x.f1 + 1) < m then ⟨true, wrap64 (x.f1 + 1)⟩ else ⟨true, m⟩ := by unfold lenUp; simp [h]
theorem lenUp_fl (m : Int) (x : S70) (h : ¬ x.f0 = true) : lenUp ⟨false, m⟩ x = ⟨true, wrap64 (x.f1 + 1)⟩ := by unfold lenUp; simp [h]
def lenOf (xs : List S70) : S70 := xs.foldl lenUp z70
def bestUp (W : Bool) (b : Int) (x : S70) : Int := if W = true then (if x.f0 = true then b else if b < 0 then x.f1 else if x.f1 < b then x.f1 else b) else (if x.f1 > b then x.f1 else b)
theorem len_won (N : Int) (hN : N ≤ 40) : ∀ (xs : List S70) (b : Int), (∀ x ∈ xs, x.f0 = true ∧ 0 ≤ x.f1 ∧ x.f1 ≤ N) → -1 ≤ b → b ≤ N →
 xs.foldl lenUp ⟨false,b + 1⟩ = ⟨false,xs.foldl (bestUp false) b + 1⟩ ∧ -1 ≤ xs.foldl (bestUp false) b ∧ xs.foldl (bestUp false) b ≤ N
 | [],b,_,h0,h1 => ⟨rfl,h0,h1⟩
 | x :: r,b,h,h0,h1 => by
  have hx := h x (by simp)
  have e : lenUp ⟨false,b + 1⟩ x = ⟨false,bestUp false b x + 1⟩ := by
   rw [lenUp_fw _ _ hx.1,wrapS (by omega) (by omega)]
   unfold bestUp mx
   rw [if_neg (show ¬ (false = true) by decide)]
   by_cases c : x.f1 > b
   ·rw [if_pos c,if_pos (show b + 1 < x.f1 + 1 by omega)]
   ·rw [if_neg c,if_neg (show ¬ b + 1 < x.f1 + 1 by omega)]
  simp only [List.foldl_cons]
  rw [e]
  refine len_won N hN r _ (fun y hy => h y (by simp [hy])) ?_ ?_
  ·unfold bestUp
   rw [if_neg (by decide)]
   by_cases c : x.f1 > b
   ·rw [if_pos c];omega
   ·rw [if_neg c];omega
  ·unfold bestUp
   rw [if_neg (by decide)]
   by_cases c : x.f1 > b
   ·rw [if_pos c];omega
   ·rw [if_neg c];omega
theorem len_lost (N : Int) (hN : N ≤ 40) : ∀ (xs : List S70) (b : Int), (∀ x ∈ xs, 0 ≤ x.f1 ∧ x.f1 ≤ N) → 0 ≤ b → b ≤ N →
 xs.foldl lenUp ⟨true,b + 1⟩ = ⟨true,xs.foldl (bestUp true) b + 1⟩ ∧ 0 ≤ xs.foldl (bestUp true) b ∧ xs.foldl (bestUp true) b ≤ N
 | [],b,_,h0,h1 => ⟨rfl,h0,h1⟩
 | x :: r,b,h,h0,h1 => by
  have hx := h x (by simp)
  have e : lenUp ⟨true,b + 1⟩ x = ⟨true,bestUp true b x + 1⟩ := by
   by_cases f : x.f0 = true
   ·rw [lenUp_tw _ _ f]
    unfold bestUp
    rw [if_pos rfl,if_pos f]
   ·rw [lenUp_tl _ _ f,wrapS (by omega) (by omega)]
    unfold bestUp
    rw [if_pos rfl,if_neg f,if_neg (show ¬ b < 0 by omega)]
    by_cases c : x.f1 < b
    ·rw [if_pos c,if_pos (show x.f1 + 1 < b + 1 by omega)]
    ·rw [if_neg c,if_neg (show ¬ x.f1 + 1 < b + 1 by omega)]
  simp only [List.foldl_cons]
  rw [e]
  refine len_lost N hN r _ (fun y hy => h y (by simp [hy])) ?_ ?_
  ·unfold bestUp
   rw [if_pos rfl]
   by_cases f : x.f0 = true
   ·rw [if_pos f];omega
   ·rw [if_neg f,if_neg (by omega)]
    by_cases c : x.f1 < b
    ·rw [if_pos c];omega
    ·rw [if_neg c];omega
  ·unfold bestUp
   rw [if_pos rfl]
   by_cases f : x.f0 = true
   ·rw [if_pos f];omega
   ·rw [if_neg f,if_neg (by omega)]
    by_cases c : x.f1 < b
    ·rw [if_pos c];omega
    ·rw [if_neg c];omega
theorem len_mixed (N : Int) (hN : N ≤ 40) : ∀ (xs : List S70) (m : Int), (∀ x ∈ xs, 0 ≤ x.f1 ∧ x.f1 ≤ N) → xs.any (fun x => !x.f0) = true →
 xs.foldl lenUp ⟨false,m⟩ = ⟨true,xs.foldl (bestUp true) (-1) + 1⟩ ∧ 0 ≤ xs.foldl (bestUp true) (-1) ∧ xs.foldl (bestUp true) (-1) ≤ N
 | [],m,_,h => by simp at h
 | x :: r,m,h,ha => by
  have hx := h x (by simp)
  simp only [List.foldl_cons]
  by_cases f : x.f0 = true
  ·have e : lenUp ⟨false,m⟩ x = ⟨false,mx m (wrap64 (x.f1 + 1))⟩ := by
    exact lenUp_fw _ _ f
   have e2 : bestUp true (-1) x = -1 := by
    unfold bestUp
    rw [if_pos rfl,if_pos f]
   rw [e,e2]
   exact len_mixed N hN r _ (fun y hy => h y (by simp [hy])) (by simpa [f] using ha)
  ·have e : lenUp ⟨false,m⟩ x = ⟨true,x.f1 + 1⟩ := by
    rw [lenUp_fl _ _ f,wrapS (by omega) (by omega)]
   have e2 : bestUp true (-1) x = x.f1 := by
    unfold bestUp
    rw [if_pos rfl,if_neg f,if_pos (by decide)]
   rw [e,e2]
   exact len_lost N hN r _ (fun y hy => h y (by simp [hy])) hx.1 hx.2
def isWon (xs : List S70) : Bool := xs.any (fun x => !x.f0)
theorem len_is (N : Int) (h0 : 0 ≤ N) (hN : N ≤ 40) (xs : List S70) (h : ∀ x ∈ xs, 0 ≤ x.f1 ∧ x.f1 ≤ N) :
 lenOf xs = ⟨isWon xs,xs.foldl (bestUp (isWon xs)) (-1) + 1⟩ ∧ -1 ≤ xs.foldl (bestUp (isWon xs)) (-1) ∧ xs.foldl (bestUp (isWon xs)) (-1) ≤ N := by
 cases hw : isWon xs
 ·have ha : ∀ x ∈ xs,x.f0 = true := by
   intro x hx
   unfold isWon at hw
   rw [List.any_eq_false] at hw
   simpa using hw x hx
  exact len_won N hN xs (-1) (fun x hx => ⟨ha x hx,h x hx⟩) (by omega) (by omega)
 ·have := len_mixed N hN xs 0 h hw
  exact ⟨this.1,by omega,this.2.2⟩
theorem len_bounds (g : List (List Int)) (h : isGame g = true) : ∀ d, d ≤ g.length → ∀ x ∈ backAt lenOf z70 g d, 0 ≤ x.f1 ∧ x.f1 ≤ (d : Int) := by
 intro d hd x hx
 have hn := game_len h
 have hall := backAt_allN lenOf z70 (fun d x => d ≤ 40 → 0 ≤ x.f1 ∧ x.f1 ≤ (d : Int)) g h (fun d x hx hd => by have := hx (by omega);omega)
  (fun d xs _ hx hd => by
   have := len_is (d : Int) (by omega) (by omega) xs (fun y hy => hx y hy (by omega))
   rw [this.1]
   show 0 ≤ _ + 1 ∧ _ + 1 ≤ _
   omega) d hd
 exact hall x hx (by omega)
theorem getD_map {α β : Type} (f : α → β) (xs : List α) (i : Nat) (z : α) : (xs.map f).getD i (f z) = f (xs.getD i z) := by
 rw [List.getD_eq_getElem?_getD,List.getD_eq_getElem?_getD,List.getElem?_map]
 cases xs[i]? <;> rfl
theorem won_map (xs : List S70) : wonOf false (xs.map S70.f0) = isWon xs := by
 unfold wonOf isWon
 rw [Bool.false_and,Bool.false_or,List.any_map]
 rfl
theorem backAt_won (g : List (List Int)) (h : isGame g = true) : ∀ d, d ≤ g.length → (backAt lenOf z70 g d).map S70.f0 = backAt (wonOf false) false g d
 | 0,_ => rfl
 | d + 1,hd => by
  obtain ⟨p,hp⟩ : ∃ p,g.length = p + 1 + d := ⟨g.length - (d + 1),by omega⟩
  obtain ⟨row,hr⟩ := get_some (xs := g) (i := p) (by omega)
  have ih := backAt_won g h d (by omega)
  have hw := game_row h hr
  have hn := game_len h
  rw [backAt_succ lenOf z70 g p d row hp hr,backAt_succ (wonOf false) false g p d row hp hr,List.map_cons,ih]
  congr 1
  have hs := seen_all lenOf z70 (fun x => 0 ≤ x.f1 ∧ x.f1 ≤ (d : Int)) g p d row hp hw.1 (len_bounds g h d (by omega))
  rw [(len_is (d : Int) (by omega) (by omega) _ hs).1,← won_map]
  show wonOf false _ = wonOf false _
  congr 1
  unfold seen
  rw [List.map_map,← ih]
  apply List.map_congr_left
  intro q _
  show _ = ((backAt lenOf z70 g d).map S70.f0).getD (q.toNat - (p + 1)) (S70.f0 z70)
  rw [getD_map]
  rfl
theorem backAt_drop {α : Type} (sem : List α → α) (z : α) (g : List (List Int)) (d : Nat) : ∀ m, (backAt sem z g (m + d)).drop m = backAt sem z g d
 | 0 => by simp
 | m + 1 => by
  rw [show m + 1 + d = (m + d) + 1 by omega]
  simp only [backAt,List.drop_succ_cons]
  exact backAt_drop sem z g d m
theorem backs_get {α : Type} (sem : List α → α) (z : α) (g : List (List Int)) (m d q : Nat) (hg : g.length = m + d) (hq : m ≤ q) : (backs sem z g).getD q z = (backAt sem z g d).getD (q - m) z := by
 rw [← backAt_drop sem z g d m,List.getD_eq_getElem?_getD,List.getD_eq_getElem?_getD,List.getElem?_drop,backs,hg,show m + (q - m) = q by omega]
theorem len_inner (g : List (List Int)) (h : isGame g = true) (p d : Nat) (row : List Int) (r : List Int × Int) (hg : g.length = p + 1 + d) (h40 : g.length ≤ 40)
 (hrow : g[p]? = some row) (hq : ∀ q ∈ row,(p : Int) < q ∧ q < g.length) (hl : row.length ≤ 40)
 (next : Ev (fun k => Zf.l0 k (backs (wonOf false) false g) (List.replicate p 0 ++ wrap64 ((seen lenOf z70 g p d row).foldl (bestUp (isWon (seen lenOf z70 g p d row))) (-1) + 1) :: (backAt lenOf z70 g d).map S70.f1) ((p : Int) - 1) g) r) (e : Nat) : ∀ j : Nat,j + e = row.length →
 Ev (fun k => Zf.l1 k (backs (wonOf false) false g) (List.replicate (p + 1) 0 ++ (backAt lenOf z70 g d).map S70.f1) (p : Int) ((seen lenOf z70 g p d (row.take j)).foldl (bestUp (isWon (seen lenOf z70 g p d row))) (-1)) (j : Int) g) r := by
 have er : rd_L2 g (p : Int) = row := by rw [rdL2_nat,getD_of hrow]
 have hwl : (backs (wonOf false) false g).length = g.length := by rw [backs,backAt_length]
 have hol : (List.replicate (p + 1) 0 ++ (backAt lenOf z70 g d).map S70.f1 : List Int).length = g.length := by simp only [List.length_append,List.length_replicate,List.length_map,backAt_length];omega
 have hwp : rdOf false (backs (wonOf false) false g) (p : Int) = isWon (seen lenOf z70 g p d row) := by
  rw [rdOf_nat,backs_get (wonOf false) false g p (d + 1) p (by omega) (Nat.le_refl p),Nat.sub_self,← backAt_won g h (d + 1) (by omega),backAt_succ lenOf z70 g p d row hg hrow]
  have hs := seen_all lenOf z70 (fun x => 0 ≤ x.f1 ∧ x.f1 ≤ (d : Int)) g p d row hg hq (len_bounds g h d (by omega))
  rw [(len_is (d : Int) (by omega) (by omega) _ hs).1]
  rfl
 generalize hW : isWon (seen lenOf z70 g p d row) = W at next hwp ⊢
 induction e with
 | zero =>
  intro j hj
  have ej : j = row.length := by omega
  subst ej
  rw [List.take_length]
  refine Ev.step (fun k => ?_) next
  simp only [Zf.l1]
  rw [if_pos (by omega),if_pos (by omega),er,if_neg (by omega),if_pos (by rw [hol];omega),Int.toNat_natCast,arr_set,wrapS (i := (p : Int) - 1) (by omega) (by omega)]
 | succ e ih =>
  intro j hj
  obtain ⟨q,hjq⟩ := get_some (xs := row) (i := j) (by omega)
  have hm := hq q (List.mem_of_getElem? hjq)
  have eq1 : rd row (j : Int) = q := by rw [rd_nat,getD_of hjq]
  have hx := ih (j + 1) (by omega)
  rw [seen_take lenOf z70 g p d row j q hjq,List.foldl_append] at hx
  generalize hB : (seen lenOf z70 g p d (row.take j)).foldl (bestUp W) (-1) = b at hx ⊢
  have e2 : rd (List.replicate (p + 1) 0 ++ (backAt lenOf z70 g d).map S70.f1) q = ((backAt lenOf z70 g d).getD (q.toNat - (p + 1)) z70).f1 := by
   obtain ⟨n,rfl⟩ : ∃ n : Nat,q = (n : Int) := ⟨q.toNat,by omega⟩
   rw [rd_nat,arr_get _ _ _ _ (by omega),Int.toNat_natCast]
   exact getD_map S70.f1 _ _ z70
  have e3 : rdOf false (backs (wonOf false) false g) q = ((backAt lenOf z70 g d).getD (q.toNat - (p + 1)) z70).f0 := by
   obtain ⟨n,rfl⟩ : ∃ n : Nat,q = (n : Int) := ⟨q.toNat,by omega⟩
   rw [rdOf_nat,backs_get (wonOf false) false g (p + 1) d n (by omega) (by omega),← backAt_won g h d (by omega),Int.toNat_natCast]
   exact getD_map S70.f0 _ _ z70
  generalize hy : (backAt lenOf z70 g d).getD (q.toNat - (p + 1)) z70 = y at hx e2 e3
  generalize hO : (List.replicate (p + 1) 0 ++ (backAt lenOf z70 g d).map S70.f1 : List Int) = O at hx e2 hol ⊢
  generalize hV : backs (wonOf false) false g = V at hx e3 hwl hwp ⊢
  have jj : ∀ B : Bool,(B = true → y.f1 = bestUp W b y) → (B = false → (if W = true then b else if y.f1 > b then y.f1 else b) = bestUp W b y) → Ev (fun k => Zf.j2 k V O (p : Int) b (j : Int) q B g) r := by
   intro B h1 h2
   refine Ev.step (fun k => ?_) hx
   simp only [Zf.j2]
   rw [e2,hwp,wrapS (i := (j : Int) + 1) (by omega) (by omega),cast_succ]
   cases B
   ·rw [if_neg (by decide),if_pos (by omega),if_pos (by omega)]
    have h2 := h2 rfl
    by_cases w : W = true
    ·rw [if_pos w]
     rw [if_pos w] at h2
     rw [List.foldl_cons,List.foldl_nil,← h2]
    ·rw [if_neg w,if_pos (by omega),if_pos (by omega)]
     rw [if_neg w] at h2
     rw [List.foldl_cons,List.foldl_nil,← h2]
     by_cases c : y.f1 > b
     ·rw [if_pos c,if_pos c]
     ·rw [if_neg c,if_neg c]
   ·rw [if_pos rfl,if_pos (by omega),if_pos (by omega),List.foldl_cons,List.foldl_nil,← h1 rfl]
  by_cases w : W = true
  ·by_cases f : y.f0 = true
   ·refine Ev.step (fun k => ?_) (jj false (fun h => by cases h) (fun _ => ?_))
    ·simp only [Zf.l1]
     rw [if_pos (by omega),if_pos (by omega),er,if_pos (by omega),if_pos (by omega),if_pos (by omega),hwp,if_pos w,eq1,if_pos (by omega),if_pos (by omega),e3,if_pos f]
    ·unfold bestUp
     rw [if_pos w,if_pos w,if_pos f]
   ·by_cases c : b < 0
    ·refine Ev.step (fun k => ?_) (jj true (fun _ => ?_) (fun h => by cases h))
     ·simp only [Zf.l1]
      rw [if_pos (by omega),if_pos (by omega),er,if_pos (by omega),if_pos (by omega),if_pos (by omega),hwp,if_pos w,eq1,if_pos (by omega),if_pos (by omega),e3,if_neg f,if_pos c]
     ·unfold bestUp
      rw [if_pos w,if_neg f,if_pos c]
    ·refine Ev.step (fun k => ?_) (jj (decide (y.f1 < b)) (fun hc => ?_) (fun hc => ?_))
     ·simp only [Zf.l1]
      rw [if_pos (by omega),if_pos (by omega),er,if_pos (by omega),if_pos (by omega),if_pos (by omega),hwp,if_pos w,eq1,if_pos (by omega),if_pos (by omega),e3,if_neg f,if_neg c,if_pos (by omega),e2]
     ·unfold bestUp
      rw [if_pos w,if_neg f,if_neg c,if_pos (of_decide_eq_true hc)]
     ·unfold bestUp
      rw [if_pos w,if_pos w,if_neg f,if_neg c,if_neg (of_decide_eq_false hc)]
  ·refine Ev.step (fun k => ?_) (jj false (fun h => by cases h) (fun _ => ?_))
   ·simp only [Zf.l1]
    rw [if_pos (by omega),if_pos (by omega),er,if_pos (by omega),if_pos (by omega),if_pos (by omega),hwp,if_neg w,eq1]
   ·unfold bestUp
    rw [if_neg w,if_neg w]
theorem len_loop (g : List (List Int)) (h : isGame g = true) :
 ∀ (m d : Nat),g.length = m + d → Ev (fun k => Zf.l0 k (backs (wonOf false) false g) (List.replicate m 0 ++ (backAt lenOf z70 g d).map S70.f1) ((m : Int) - 1) g) ((backs lenOf z70 g).map S70.f1,0)
 | 0,d,hg => by
  refine Ev.step (f := fun _ => some ((backs lenOf z70 g).map S70.f1,0)) (fun k => ?_) (Ev.now _)
  simp only [Zf.l0]
  rw [if_neg (by omega),backs,show g.length = d by omega]
  rfl
 | p + 1,d,hg => by
  obtain ⟨row,hr⟩ := get_some (xs := g) (i := p) (by omega)
  have hw := game_row h hr
  have hn := game_len h
  have next := len_loop g h p (d + 1) (by omega)
  rw [backAt_succ lenOf z70 g p d row hg hr,List.map_cons] at next
  have hs := seen_all lenOf z70 (fun x => 0 ≤ x.f1 ∧ x.f1 ≤ (d : Int)) g p d row hg hw.1 (len_bounds g h d (by omega))
  have hi := len_is (d : Int) (by omega) (by omega) _ hs
  have hin := len_inner g h p d row _ hg hn.2 hr hw.1 hw.2 (by rw [wrapS (by omega) (by omega)];rw [hi.1] at next;exact next) row.length 0 (by omega)
  refine Ev.step (fun k => ?_) hin
  simp only [Zf.l0]
  rw [show ((p + 1 : Nat) : Int) - 1 = (p : Int) by omega,if_pos (by omega)]
  rfl
theorem lenV_loop (xs : List S70) (hn : xs.length < 4611686018427387904) (d : Nat) : ∀ (i : Nat) (a : S70), i + d = xs.length → Ev (fun k => Zr.l0 k xs (xs.length : Int) (i : Int) a.f0 a.f1) (pv ((xs.drop i).foldl lenUp a)) := by
 induction d with
 | zero =>
  intro i a hd
  rw [List.drop_eq_nil_of_le (by omega)]
  refine Ev.step (f := fun _ => some (pv a)) (fun k => ?_) (Ev.now _)
  simp only [Zr.l0]
  rw [if_neg (by omega)]
  rfl
 | succ d ih =>
  intro i a hd
  obtain ⟨y,hy⟩ := get_some (xs := xs) (i := i) (by omega)
  have hrx : rd_T70 xs (i : Int) = y := by rw [rdT69_nat];exact getD_of hy
  rw [drop_of hy,List.foldl_cons]
  have hx := ih (i + 1) (lenUp a y) (by omega)
  generalize pv ((xs.drop (i + 1)).foldl lenUp (lenUp a y)) = v at hx ⊢
  by_cases f : y.f0 = true
  ·refine Ev.step (f := fun k => Zr.j1 k xs (xs.length : Int) (i : Int) false a.f0 a.f1 y.f0 y.f1) (fun k => ?_) (Ev.step (fun k => ?_) hx)
   ·simp only [Zr.l0]
    rw [if_pos (by omega),if_pos (by omega),if_pos (by omega),hrx,if_pos f]
   ·simp only [Zr.j1]
    rw [if_neg (by decide),if_pos f,wrapS (i := (i : Int) + 1) (by omega) (by omega),cast_succ]
    unfold lenUp
    rw [if_pos f]
    by_cases w : a.f0 = true
    ·rw [if_pos w,if_pos w]
    ·rw [if_neg w,if_neg w]
  ·by_cases w : a.f0 = true
   ·refine Ev.step (f := fun k => Zr.j1 k xs (xs.length : Int) (i : Int) (decide (wrap64 (y.f1 + 1) < a.f1)) a.f0 a.f1 y.f0 y.f1) (fun k => ?_) (Ev.step (fun k => ?_) hx)
    ·simp only [Zr.l0]
     rw [if_pos (by omega),if_pos (by omega),if_pos (by omega),hrx,if_neg f,if_pos w]
    ·simp only [Zr.j1]
     rw [wrapS (i := (i : Int) + 1) (by omega) (by omega),cast_succ]
     unfold lenUp
     rw [if_neg f,if_pos w,if_neg f]
     by_cases c : wrap64 (y.f1 + 1) < a.f1
     ·rw [if_pos (decide_eq_true c),if_pos c,if_pos w]
     ·rw [if_neg (by rw [decide_eq_false c];decide),if_neg c,if_pos w]
   ·refine Ev.step (f := fun k => Zr.j1 k xs (xs.length : Int) (i : Int) true a.f0 a.f1 y.f0 y.f1) (fun k => ?_) (Ev.step (fun k => ?_) hx)
    ·simp only [Zr.l0]
     rw [if_pos (by omega),if_pos (by omega),if_pos (by omega),hrx,if_neg f,if_neg w]
    ·simp only [Zr.j1]
     rw [if_pos trivial,wrapS (i := (i : Int) + 1) (by omega) (by omega),cast_succ]
     unfold lenUp
     rw [if_neg f,if_neg w]
theorem lenV_ev (xs : List S70) (hn : xs.length < 4611686018427387904) : Ev (fun k => Zr.f k xs) (pv (lenOf xs)) := lenV_loop xs hn xs.length 0 z70 (by omega)
theorem many_loop (xs : List S70) (c : Int) (hn : xs.length ≤ 40) (d : Nat) : ∀ i : Nat, i + d = xs.length → Ev (fun k => ZK.l0 k c ((xs.take i).map S70.f1) xs (xs.length : Int) (i : Int)) (xs.map S70.f1, c) := by
 induction d with
 | zero =>
  intro i hd
  refine Ev.step (f := fun _ => some (xs.map S70.f1,c)) (fun k => ?_) (Ev.now _)
  simp only [ZK.l0]
  rw [if_neg (by omega),show i = xs.length by omega,List.take_length]
 | succ d ih =>
  intro i hd
  obtain ⟨y,hy⟩ := get_some (xs := xs) (i := i) (by omega)
  have hrx : rd_T70 xs (i : Int) = y := by rw [rdT69_nat];exact getD_of hy
  have hx := ih (i + 1) (by omega)
  rw [List.take_add_one,hy,List.map_append] at hx
  refine Ev.step (fun k => ?_) hx
  simp only [ZK.l0]
  rw [if_pos (by omega),if_pos (by omega),if_pos (by omega),if_pos (by simp only [List.length_map,List.length_take];omega),hrx,wrapS (i := (i : Int) + 1) (by omega) (by omega),cast_succ]
  rfl
def lens (g : List (List Int)) : List Int × Int := if isGame g = true then ((backs lenOf z70 g).map S70.f1, 0) else ([], 1)
theorem lens_len (g : List (List Int)) : (lens g).1.length ≤ 40 := by
 unfold lens
 by_cases h : isGame g = true
 ·rw [if_pos h]
  have := game_len h
  simp only [backs,List.length_map,backAt_length]
  omega
 ·rw [if_neg h]
  simp
theorem specLens_ev (g : List (List Int)) (hl : ∀ row ∈ g, row.length < 4611686018427387904) (hg : g.length < 4611686018427387904) : Ev (fun k => Zf.f k g) (lens g) := by
 have hi := l01Is_ev g hl hg
 unfold lens Zf.f Zq.f
 by_cases h : isGame g = true
 ·rw [if_pos h]
  rw [h] at hi
  have hn := game_len h
  have hb := len_loop g h g.length 0 (by omega)
  simp only [backAt,List.map_nil,List.append_nil] at hb
  refine Ev.bind hi (Ev.congr (fun k => by rw [if_pos rfl]) (Ev.bind (l01Won_ev false g h) (Ev.congr (fun k => ?_) hb)))
  rw [Option.bind_some,if_pos (by omega),if_pos (by omega),Option.bind_some,Int.toNat_natCast,wrapS (by omega) (by omega)]
 ·rw [if_neg h]
  have hf : isGame g = false := by simpa using h
  rw [hf] at hi
  exact Ev.bind hi (Ev.congr (f := fun _ => some (([] : List Int),(1 : Int))) (fun k => by rw [if_neg (by decide)]) (Ev.now _))
theorem implLens_ev (g : List (List Int)) (hl : ∀ row ∈ g, row.length < 4611686018427387904) (hg : g.length < 4611686018427387904) : Ev (fun k => ZK.f k g) (lens g) := by
 unfold ZK.f lens
 have hb := backL_ev Zr.f lenOf (fun _ => True) g hl hg (fun xs h1 _ => ⟨lenV_ev xs (by omega),trivial⟩)
 by_cases h : isGame g = true
 ·rw [if_pos h]
  rw [if_pos h] at hb
  have hn := game_len h
  refine Ev.bind hb ?_
  have := many_loop (backs lenOf z70 g) 0 (by rw [backs,backAt_length];omega) (backs lenOf z70 g).length 0 (by omega)
  exact this
 ·rw [if_neg h]
  rw [if_neg h] at hb
  refine Ev.bind hb ?_
  exact many_loop [] 1 (by simp) 0 0 rfl
theorem backI_inner (V : Nat → List Int → Option Int) (sem : List Int → Int) (g : List (List Int)) (p d : Nat) (row : List Int) (v : Int) (r : List Int × Int) (hg : g.length = p + 1 + d) (h40 : g.length ≤ 40)
 (hrow : g[p]? = some row) (hq : ∀ q ∈ row,(p : Int) < q ∧ q < g.length) (hl : row.length ≤ 40) (hV : Ev (fun k => V k (seen sem 0 g p d row)) v)
 (next : Ev (fun k => Ze.l0 V k (List.replicate p 0 ++ v :: backAt sem 0 g d) ((p : Int) - 1) g) r) (e : Nat) : ∀ j : Nat,j + e = row.length →
 Ev (fun k => Ze.l1 V k (List.replicate (p + 1) 0 ++ backAt sem 0 g d) (p : Int) (seen sem 0 g p d (row.take j)) row (row.length : Int) (j : Int) g) r := by
 induction e with
 | zero =>
  intro j hj
  have ej : j = row.length := by omega
  subst ej
  rw [List.take_length]
  refine Ev.step (fun k => by simp only [Ze.l1];rw [if_neg (by omega)]) (Ev.bind hV ?_)
  refine Ev.congr (fun k => ?_) next
  ·rw [if_pos (by omega),if_pos (by simp only [List.length_append,List.length_replicate];omega),Int.toNat_natCast,arr_set,wrapS (by omega) (by omega)]
 | succ e ih =>
  intro j hj
  obtain ⟨q,hjq⟩ := get_some (xs := row) (i := j) (by omega)
  have hm := hq q (List.mem_of_getElem? hjq)
  have eq1 : rd row (j : Int) = q := by rw [rd_nat,getD_of hjq]
  have e2 : rd (List.replicate (p + 1) 0 ++ backAt sem 0 g d) q = (backAt sem 0 g d).getD (q.toNat - (p + 1)) 0 := by
   obtain ⟨n,rfl⟩ : ∃ n : Nat,q = (n : Int) := ⟨q.toNat,by omega⟩
   rw [rd_nat,arr_get _ _ _ _ (by omega),Int.toNat_natCast]
  refine Ev.step (fun k => ?_) (ih (j + 1) (by omega))
  simp only [Ze.l1]
  rw [if_pos (by omega),if_pos (by omega),if_pos (by omega),eq1,if_pos (by omega),if_pos (by simp only [List.length_append,List.length_replicate,backAt_length];omega),
   if_pos (by simp only [seen,List.length_map,List.length_take];omega),e2,wrapS (by omega) (by omega),cast_succ]
  congr 1
  simp only [seen]
  rw [List.take_add_one,hjq]
  simp
theorem backI_loop (V : Nat → List Int → Option Int) (sem : List Int → Int) (Q : Int → Prop) (g : List (List Int)) (h : isGame g = true)
 (hV : ∀ xs : List Int,xs.length ≤ 40 → (∀ x ∈ xs,Q x) → Ev (fun k => V k xs) (sem xs) ∧ Q (sem xs)) :
 ∀ (m d : Nat),g.length = m + d → Ev (fun k => Ze.l0 V k (List.replicate m 0 ++ backAt sem 0 g d) ((m : Int) - 1) g) (backs sem 0 g,0)
 | 0,d,hg => by
  refine Ev.step (f := fun _ => some (backs sem 0 g,0)) (fun k => ?_) (Ev.now _)
  simp only [Ze.l0]
  rw [if_neg (by omega),backs,show g.length = d by omega]
  rfl
 | p + 1,d,hg => by
  obtain ⟨row,hr⟩ := get_some (xs := g) (i := p) (by omega)
  have hw := game_row h hr
  have hn := game_len h
  have hall := backAt_all sem 0 Q g h (fun xs h1 h2 => (hV xs h1 h2).2) d (by omega)
  have hv := (hV (seen sem 0 g p d row) (by simp only [seen,List.length_map];exact hw.2) (seen_all sem 0 Q g p d row hg hw.1 hall)).1
  have next := backI_loop V sem Q g h hV p (d + 1) (by omega)
  rw [backAt_succ sem 0 g p d row hg hr] at next
  refine Ev.step (fun k => ?_) (backI_inner V sem g p d row _ _ hg hn.2 hr hw.1 hw.2 hv next row.length 0 (by omega))
  simp only [Ze.l0]
  rw [show ((p + 1 : Nat) : Int) - 1 = (p : Int) by omega,if_pos (by omega),if_pos (by omega),if_pos (by omega),rdL2_nat,getD_of hr]
  rfl
theorem backI_ev (V : Nat → List Int → Option Int) (sem : List Int → Int) (Q : Int → Prop) (g : List (List Int)) (hl : ∀ row ∈ g, row.length < 4611686018427387904) (hg : g.length < 4611686018427387904)
 (hV : ∀ xs : List Int,xs.length ≤ 40 → (∀ x ∈ xs,Q x) → Ev (fun k => V k xs) (sem xs) ∧ Q (sem xs)) :
 Ev (fun k => Ze.f V k g) (if isGame g = true then (backs sem 0 g,0) else ([],1)) := by
 have hi := IsGame_ev g hl hg
 by_cases h : isGame g = true
 ·rw [if_pos h]
  rw [h] at hi
  have hn := game_len h
  have hb := backI_loop V sem Q g h hV g.length 0 (by omega)
  simp only [backAt,List.append_nil] at hb
  unfold Ze.f
  refine Ev.bind hi (Ev.congr (fun k => ?_) hb)
  rw [if_pos rfl,if_pos (by omega),if_pos (by omega),Option.bind_some,List.length_replicate,Int.toNat_natCast,wrapS (by omega) (by omega)]
 ·rw [if_neg h]
  have hf : isGame g = false := by simpa using h
  rw [hf] at hi
  unfold Ze.f
  exact Ev.bind hi (Ev.congr (f := fun _ => some (([] : List Int),(1 : Int))) (fun k => by rw [if_neg (by decide)]) (Ev.now _))
def cntUp (a y : Int) : Int := wrap64 (a + y)
def cntOf (xs : List Int) : Int := if xs.length = 0 then 1 else xs.foldl cntUp 0
theorem cnt_inner (g : List (List Int)) (p d : Nat) (row : List Int) (a0 : Int) (r : List Int × Int) (hg : g.length = p + 1 + d) (h40 : g.length ≤ 40)
 (hrow : g[p]? = some row) (hq : ∀ q ∈ row,(p : Int) < q ∧ q < g.length) (hl : row.length ≤ 40)
 (next : Ev (fun k => Zb.l0 k (List.replicate p 0 ++ (seen cntOf 0 g p d row).foldl cntUp a0 :: backAt cntOf 0 g d) ((p : Int) - 1) g) r) (e : Nat) : ∀ j : Nat,j + e = row.length →
 Ev (fun k => Zb.l1 k (List.replicate p 0 ++ (seen cntOf 0 g p d (row.take j)).foldl cntUp a0 :: backAt cntOf 0 g d) (p : Int) (j : Int) g) r := by
 have er : rd_L2 g (p : Int) = row := by rw [rdL2_nat,getD_of hrow]
 induction e with
 | zero =>
  intro j hj
  have ej : j = row.length := by omega
  subst ej
  rw [List.take_length]
  refine Ev.step (fun k => ?_) next
  simp only [Zb.l1]
  rw [if_pos (by omega),if_pos (by omega),er,if_neg (by omega),wrapS (by omega) (by omega)]
 | succ e ih =>
  intro j hj
  obtain ⟨q,hjq⟩ := get_some (xs := row) (i := j) (by omega)
  have hm := hq q (List.mem_of_getElem? hjq)
  have eq1 : rd row (j : Int) = q := by rw [rd_nat,getD_of hjq]
  have hx := ih (j + 1) (by omega)
  rw [seen_take cntOf 0 g p d row j q hjq,List.foldl_append] at hx
  generalize hA : (seen cntOf 0 g p d (row.take j)).foldl cntUp a0 = A at hx ⊢
  have e2 : ∀ a,rd (List.replicate p 0 ++ a :: backAt cntOf 0 g d) q = (backAt cntOf 0 g d).getD (q.toNat - (p + 1)) 0 := by
   intro a
   obtain ⟨n,rfl⟩ : ∃ n : Nat,q = (n : Int) := ⟨q.toNat,by omega⟩
   rw [rd_nat,mid_get _ _ _ _ _ (by omega),Int.toNat_natCast]
  have e3 : ∀ a,rd (List.replicate p 0 ++ a :: backAt cntOf 0 g d) (p : Int) = a := fun a => by rw [rd_nat,mid_self]
  generalize hy : (backAt cntOf 0 g d).getD (q.toNat - (p + 1)) 0 = y at hx e2
  refine Ev.step (fun k => ?_) hx
  simp only [Zb.l1]
  rw [if_pos (by omega),if_pos (by omega),er,if_pos (by omega),if_pos (by rw [mid_len];omega),if_pos (by omega),eq1,if_pos (by omega),if_pos (by rw [mid_len,backAt_length];omega),e3,e2,wrapS (i := (j : Int) + 1) (by omega) (by omega),cast_succ,Int.toNat_natCast,mid_set]
  rfl
theorem cnt_loop (g : List (List Int)) (h : isGame g = true) :
 ∀ (m d : Nat),g.length = m + d → Ev (fun k => Zb.l0 k (List.replicate m 0 ++ backAt cntOf 0 g d) ((m : Int) - 1) g) (backs cntOf 0 g,0)
 | 0,d,hg => by
  refine Ev.step (f := fun _ => some (backs cntOf 0 g,0)) (fun k => ?_) (Ev.now _)
  simp only [Zb.l0]
  rw [if_neg (by omega),backs,show g.length = d by omega]
  rfl
 | p + 1,d,hg => by
  obtain ⟨row,hr⟩ := get_some (xs := g) (i := p) (by omega)
  have hw := game_row h hr
  have hn := game_len h
  have next := cnt_loop g h p (d + 1) (by omega)
  rw [backAt_succ cntOf 0 g p d row hg hr] at next
  have er : rd_L2 g (p : Int) = row := by rw [rdL2_nat,getD_of hr]
  by_cases c : row.length = 0
  ·have e0 : row = [] := List.length_eq_zero_iff.1 c
   have hi := cnt_inner g p d row 1 _ hg hn.2 hr hw.1 hw.2 (by subst e0;exact next) row.length 0 (by omega)
   refine Ev.step (fun k => ?_) (Ev.step (g := fun k => Zb.j1 k (List.replicate p 0 ++ 1 :: backAt cntOf 0 g d) (p : Int) g) (fun k => ?_) hi)
   ·simp only [Zb.l0]
    rw [show ((p + 1 : Nat) : Int) - 1 = (p : Int) by omega,if_pos (by omega),if_pos (by omega),if_pos (by omega),er,if_pos (by omega),start_mid,Int.toNat_natCast,mid_set,if_pos (by rw [mid_len];omega)]
   ·simp only [Zb.j1]
    rfl
  ·have hi := cnt_inner g p d row 0 _ hg hn.2 hr hw.1 hw.2 (by unfold cntOf at next;rw [if_neg (by simp only [seen,List.length_map];exact c)] at next;exact next) row.length 0 (by omega)
   refine Ev.step (fun k => ?_) (Ev.step (g := fun k => Zb.j1 k (List.replicate p 0 ++ 0 :: backAt cntOf 0 g d) (p : Int) g) (fun k => ?_) hi)
   ·simp only [Zb.l0]
    rw [show ((p + 1 : Nat) : Int) - 1 = (p : Int) by omega,if_pos (by omega),if_pos (by omega),if_pos (by omega),er,if_neg (by omega),start_mid]
   ·simp only [Zb.j1]
    rfl
theorem cntV_loop (xs : List Int) (hn : xs.length < 4611686018427387904) (d : Nat) : ∀ i : Nat, i + d = xs.length → Ev (fun k => ZE.l0 k ((xs.take i).foldl cntUp 0) xs (xs.length : Int) (i : Int)) (xs.foldl cntUp 0) := by
 induction d with
 | zero =>
  intro i hd
  refine Ev.step (f := fun _ => some (xs.foldl cntUp 0)) (fun k => ?_) (Ev.now _)
  simp only [ZE.l0]
  rw [if_neg (by omega),show i = xs.length by omega,List.take_length]
 | succ d ih =>
  intro i hd
  obtain ⟨y,hy⟩ := get_some (xs := xs) (i := i) (by omega)
  have hrx : rd xs (i : Int) = y := by rw [rd_nat];exact getD_of hy
  have hx := ih (i + 1) (by omega)
  rw [List.take_add_one,hy,List.foldl_append] at hx
  refine Ev.step (fun k => ?_) hx
  simp only [ZE.l0]
  rw [if_pos (by omega),if_pos (by omega),if_pos (by omega),hrx,wrapS (i := (i : Int) + 1) (by omega) (by omega),cast_succ]
  rfl
theorem cntV_ev (xs : List Int) (hn : xs.length < 4611686018427387904) : Ev (fun k => ZE.f k xs) (cntOf xs) := by
 unfold ZE.f cntOf
 by_cases c : xs.length = 0
 ·rw [if_pos c]
  exact Ev.congr (f := fun _ => some 1) (fun k => by rw [if_pos (by omega)]) (Ev.now _)
 ·rw [if_neg c]
  refine Ev.congr (fun k => ?_) (cntV_loop xs hn xs.length 0 (by omega))
  rw [if_neg (by omega)]
  rfl
def Counts (g : List (List Int)) : List Int × Int := if isGame g = true then (backs cntOf 0 g, 0) else ([], 1)
theorem Counts_len (g : List (List Int)) : (Counts g).1.length ≤ 40 := by
 unfold Counts
 by_cases h : isGame g = true
 ·rw [if_pos h]
  have := game_len h
  simp only [backs,backAt_length]
  omega
 ·rw [if_neg h]
  simp
theorem specCount_ev (g : List (List Int)) (hl : ∀ row ∈ g, row.length < 4611686018427387904) (hg : g.length < 4611686018427387904) : Ev (fun k => Zb.f k g) (Counts g) := by
 have hi := l01Is_ev g hl hg
 unfold Counts Zb.f Zq.f
 by_cases h : isGame g = true
 ·rw [if_pos h]
  rw [h] at hi
  have hn := game_len h
  have hb := cnt_loop g h g.length 0 (by omega)
  simp only [backAt,List.append_nil] at hb
  refine Ev.bind hi (Ev.congr (fun k => ?_) hb)
  rw [if_pos rfl,Option.bind_some,if_pos (by omega),if_pos (by omega),Option.bind_some,Int.toNat_natCast,wrapS (by omega) (by omega)]
 ·rw [if_neg h]
  have hf : isGame g = false := by simpa using h
  rw [hf] at hi
  exact Ev.bind hi (Ev.congr (f := fun _ => some (([] : List Int),(1 : Int))) (fun k => by rw [if_neg (by decide)]) (Ev.now _))
theorem implCount_ev (g : List (List Int)) (hl : ∀ row ∈ g, row.length < 4611686018427387904) (hg : g.length < 4611686018427387904) : Ev (fun k => Zah.f k g) (Counts g) := by
 unfold Zah.f
 exact Ev.bind (backI_ev ZE.f cntOf (fun _ => True) g hl hg (fun xs h1 _ => ⟨cntV_ev xs (by omega),trivial⟩)) (Ev.now _)
def mostUp (a y : Int) : Int := mx a (wrap64 (y + 1))
def maxL : List Int → Int
 | [] => 0
 | x :: r => r.foldl mx x
def mostOf (xs : List Int) : Int := if xs.length = 0 then 0 else wrap64 (maxL xs + 1)
theorem maxL_bound (n : Int) : ∀ (r : List Int) (x : Int), 0 ≤ x → x ≤ n → (∀ y ∈ r, 0 ≤ y ∧ y ≤ n) → 0 ≤ r.foldl mx x ∧ r.foldl mx x ≤ n
 | [],x,h0,h1,_ => ⟨h0,h1⟩
 | y :: r,x,h0,h1,h => by
  have hy := h y (by simp)
  refine maxL_bound n r (mx x y) ?_ ?_ (fun z hz => h z (by simp [hz]))
  ·unfold mx;by_cases c : x < y <;> simp only [c,if_true,if_false] <;> omega
  ·unfold mx;by_cases c : x < y <;> simp only [c,if_true,if_false] <;> omega
theorem most_fold (n : Int) (hn : n ≤ 40) : ∀ (r : List Int) (x : Int), 0 ≤ x → x ≤ n → (∀ y ∈ r, 0 ≤ y ∧ y ≤ n) → r.foldl mostUp (x + 1) = r.foldl mx x + 1
 | [],x,_,_,_ => rfl
 | y :: r,x,h0,h1,h => by
  have hy := h y (by simp)
  simp only [List.foldl_cons]
  have e : mostUp (x + 1) y = mx x y + 1 := by
   unfold mostUp
   rw [wrapS (by omega) (by omega)]
   unfold mx
   by_cases c : x < y
   ·rw [if_pos c,if_pos (by omega)]
   ·rw [if_neg c,if_neg (by omega)]
  rw [e]
  refine most_fold n hn r (mx x y) ?_ ?_ (fun z hz => h z (by simp [hz]))
  ·unfold mx;by_cases c : x < y <;> simp only [c,if_true,if_false] <;> omega
  ·unfold mx;by_cases c : x < y <;> simp only [c,if_true,if_false] <;> omega
theorem mostOf_fold (n : Int) (hn : n ≤ 40) (xs : List Int) (h : ∀ y ∈ xs, 0 ≤ y ∧ y ≤ n) : xs.foldl mostUp 0 = mostOf xs := by
 cases xs with
 | nil => rfl
 | cons x r =>
  have hx := h x (by simp)
  have hb := maxL_bound n r x hx.1 hx.2 (fun z hz => h z (by simp [hz]))
  simp only [List.foldl_cons]
  have e : mostUp 0 x = x + 1 := by
   unfold mostUp
   rw [wrapS (by omega) (by omega)]
   unfold mx
   rw [if_pos (by omega)]
  rw [e,most_fold n hn r x hx.1 hx.2 (fun z hz => h z (by simp [hz]))]
  unfold mostOf
  rw [if_neg (by simp)]
  show _ = wrap64 (r.foldl mx x + 1)
  rw [wrapS (by omega) (by omega)]
theorem mostOf_bound (n : Int) (hn0 : 0 ≤ n) (hn : n ≤ 40) (xs : List Int) (h : ∀ y ∈ xs, 0 ≤ y ∧ y ≤ n) : 0 ≤ mostOf xs ∧ mostOf xs ≤ n + 1 := by
 cases xs with
 | nil => exact ⟨by decide,by show (0 : Int) ≤ n + 1;omega⟩
 | cons x r =>
  have hx := h x (by simp)
  have hb := maxL_bound n r x hx.1 hx.2 (fun z hz => h z (by simp [hz]))
  unfold mostOf
  rw [if_neg (by simp)]
  show 0 ≤ wrap64 (r.foldl mx x + 1) ∧ wrap64 (r.foldl mx x + 1) ≤ n + 1
  rw [wrapS (by omega) (by omega)]
  omega
theorem most_inner (g : List (List Int)) (p d : Nat) (row : List Int) (a0 : Int) (r : List Int × Int) (hg : g.length = p + 1 + d) (h40 : g.length ≤ 40)
 (hrow : g[p]? = some row) (hq : ∀ q ∈ row,(p : Int) < q ∧ q < g.length) (hl : row.length ≤ 40)
 (next : Ev (fun k => Zm.l0 k (List.replicate p 0 ++ (seen mostOf 0 g p d row).foldl mostUp a0 :: backAt mostOf 0 g d) ((p : Int) - 1) g) r) (e : Nat) : ∀ j : Nat,j + e = row.length →
 Ev (fun k => Zm.l1 k (List.replicate p 0 ++ (seen mostOf 0 g p d (row.take j)).foldl mostUp a0 :: backAt mostOf 0 g d) (p : Int) (j : Int) g) r := by
 have er : rd_L2 g (p : Int) = row := by rw [rdL2_nat,getD_of hrow]
 induction e with
 | zero =>
  intro j hj
  have ej : j = row.length := by omega
  subst ej
  rw [List.take_length]
  refine Ev.step (fun k => ?_) next
  simp only [Zm.l1]
  rw [if_pos (by omega),if_pos (by omega),er,if_neg (by omega),wrapS (by omega) (by omega)]
 | succ e ih =>
  intro j hj
  obtain ⟨q,hjq⟩ := get_some (xs := row) (i := j) (by omega)
  have hm := hq q (List.mem_of_getElem? hjq)
  have eq1 : rd row (j : Int) = q := by rw [rd_nat,getD_of hjq]
  have hx := ih (j + 1) (by omega)
  rw [seen_take mostOf 0 g p d row j q hjq,List.foldl_append] at hx
  generalize hA : (seen mostOf 0 g p d (row.take j)).foldl mostUp a0 = A at hx ⊢
  have e2 : ∀ a,rd (List.replicate p 0 ++ a :: backAt mostOf 0 g d) q = (backAt mostOf 0 g d).getD (q.toNat - (p + 1)) 0 := by
   intro a
   obtain ⟨n,rfl⟩ : ∃ n : Nat,q = (n : Int) := ⟨q.toNat,by omega⟩
   rw [rd_nat,mid_get _ _ _ _ _ (by omega),Int.toNat_natCast]
  have e3 : ∀ a,rd (List.replicate p 0 ++ a :: backAt mostOf 0 g d) (p : Int) = a := fun a => by rw [rd_nat,mid_self]
  generalize hy : (backAt mostOf 0 g d).getD (q.toNat - (p + 1)) 0 = y at hx e2
  refine Ev.step (fun k => ?_) hx
  simp only [Zm.l1]
  rw [if_pos (by omega),if_pos (by omega),er,if_pos (by omega),if_pos (by rw [mid_len];omega),if_pos (by omega),eq1,if_pos (by omega),if_pos (by rw [mid_len,backAt_length];omega),e3,e2,wrapS (i := (j : Int) + 1) (by omega) (by omega),cast_succ,Int.toNat_natCast,mid_set]
  rfl
theorem most_loop (g : List (List Int)) (h : isGame g = true) :
 ∀ (m d : Nat),g.length = m + d → Ev (fun k => Zm.l0 k (List.replicate m 0 ++ backAt mostOf 0 g d) ((m : Int) - 1) g) (backs mostOf 0 g,0)
 | 0,d,hg => by
  refine Ev.step (f := fun _ => some (backs mostOf 0 g,0)) (fun k => ?_) (Ev.now _)
  simp only [Zm.l0]
  rw [if_neg (by omega),backs,show g.length = d by omega]
  rfl
 | p + 1,d,hg => by
  obtain ⟨row,hr⟩ := get_some (xs := g) (i := p) (by omega)
  have hw := game_row h hr
  have hn := game_len h
  have next := most_loop g h p (d + 1) (by omega)
  rw [backAt_succ mostOf 0 g p d row hg hr] at next
  have er : rd_L2 g (p : Int) = row := by rw [rdL2_nat,getD_of hr]
  have hall := backAt_allN mostOf 0 (fun d x => d ≤ 40 → 0 ≤ x ∧ x ≤ (d : Int)) g h (fun d x hx hd => by have := hx (by omega);omega)
   (fun d xs _ hx hd => by have := mostOf_bound (d : Int) (by omega) (by omega) xs (fun y hy => hx y hy (by omega));omega) d (by omega)
  have hs := seen_all mostOf 0 (fun x => d ≤ 40 → 0 ≤ x ∧ x ≤ (d : Int)) g p d row hg hw.1 hall
  have hf := mostOf_fold (d : Int) (by omega) (seen mostOf 0 g p d row) (fun y hy => hs y hy (by omega))
  have hi := most_inner g p d row 0 _ hg hn.2 hr hw.1 hw.2 (by rw [hf];exact next) row.length 0 (by omega)
  refine Ev.step (fun k => ?_) hi
  simp only [Zm.l0]
  rw [show ((p + 1 : Nat) : Int) - 1 = (p : Int) by omega,if_pos (by omega),start_mid]
  rfl
theorem max_loop (xs : List Int) (hn : xs.length < 4611686018427387904) (d : Nat) : ∀ (i : Nat) (a : Int), i + d = xs.length → Ev (fun k => Zz.l0 k xs a (i : Int)) ((xs.drop i).foldl mx a) := by
 induction d with
 | zero =>
  intro i a hd
  rw [List.drop_eq_nil_of_le (by omega)]
  refine Ev.step (f := fun _ => some a) (fun k => ?_) (Ev.now _)
  simp only [Zz.l0]
  rw [if_neg (by omega)]
 | succ d ih =>
  intro i a hd
  obtain ⟨y,hy⟩ := get_some (xs := xs) (i := i) (by omega)
  have hrx : rd xs (i : Int) = y := by rw [rd_nat];exact getD_of hy
  rw [drop_of hy]
  refine Ev.step (fun k => ?_) (ih (i + 1) (mx a y) (by omega))
  simp only [Zz.l0]
  rw [if_pos (by omega),if_pos (by omega),hrx,wrapS (by omega) (by omega),cast_succ]
theorem max_ev (x : Int) (r : List Int) (hn : (x :: r).length < 4611686018427387904) : Ev (fun k => Zz.f k (x :: r)) (maxL (x :: r)) := by
 refine Ev.congr (fun k => ?_) (max_loop (x :: r) hn r.length 1 x (by simp only [List.length_cons];omega))
 unfold Zz.f
 rw [if_neg (by simp only [List.length_cons];omega),if_pos (by simp only [List.length_cons];omega)]
 rfl
theorem mostV_ev (xs : List Int) (hn : xs.length < 4611686018427387904) : Ev (fun k => Zag.f k xs) (mostOf xs) := by
 unfold Zag.f mostOf
 cases xs with
 | nil => exact Ev.congr (f := fun _ => some 0) (fun k => rfl) (Ev.now _)
 | cons x r =>
  rw [if_neg (by simp)]
  refine Ev.congr (fun k => by rw [if_neg (by simp only [List.length_cons];omega)]) (Ev.bind (max_ev x r hn) (Ev.now _))
def Mosts (g : List (List Int)) : List Int × Int := if isGame g = true then (backs mostOf 0 g, 0) else ([], 1)
theorem Mosts_len (g : List (List Int)) : (Mosts g).1.length ≤ 40 := by
 unfold Mosts
 by_cases h : isGame g = true
 ·rw [if_pos h]
  have := game_len h
  simp only [backs,backAt_length]
  omega
 ·rw [if_neg h]
  simp
theorem specMost_ev (g : List (List Int)) (hl : ∀ row ∈ g, row.length < 4611686018427387904) (hg : g.length < 4611686018427387904) : Ev (fun k => Zm.f k g) (Mosts g) := by
 have hi := l01Is_ev g hl hg
 unfold Mosts Zm.f Zq.f
 by_cases h : isGame g = true
 ·rw [if_pos h]
  rw [h] at hi
  have hn := game_len h
  have hb := most_loop g h g.length 0 (by omega)
  simp only [backAt,List.append_nil] at hb
  refine Ev.bind hi (Ev.congr (fun k => ?_) hb)
  rw [if_pos rfl,Option.bind_some,if_pos (by omega),if_pos (by omega),Option.bind_some,Int.toNat_natCast,wrapS (by omega) (by omega)]
 ·rw [if_neg h]
  have hf : isGame g = false := by simpa using h
  rw [hf] at hi
  exact Ev.bind hi (Ev.congr (f := fun _ => some (([] : List Int),(1 : Int))) (fun k => by rw [if_neg (by decide)]) (Ev.now _))
theorem implMost_ev (g : List (List Int)) (hl : ∀ row ∈ g, row.length < 4611686018427387904) (hg : g.length < 4611686018427387904) : Ev (fun k => ZY.f k g) (Mosts g) := by
 unfold ZY.f
 exact Ev.bind (backI_ev Zag.f mostOf (fun _ => True) g hl hg (fun xs h1 _ => ⟨mostV_ev xs (by omega),trivial⟩)) (Ev.now _)
def fewUp (a y : Int) : Int := if wrap64 (y + 1) < a then wrap64 (y + 1) else a
def fewFold : List Int → Int
 | [] => 0
 | x :: r => r.foldl fewUp (wrap64 (x + 1))
theorem fewFold_snoc (xs : List Int) (y : Int) : fewFold (xs ++ [y]) = if xs.length = 0 then wrap64 (y + 1) else fewUp (fewFold xs) y := by
 cases xs with
 | nil => rfl
 | cons x r =>
  rw [if_neg (by simp)]
  simp only [List.cons_append,fewFold,List.foldl_append]
  rfl
def minL : List Int → Int
 | [] => 0
 | x :: r => r.foldl mn x
def fewOf (xs : List Int) : Int := if xs.length = 0 then 0 else wrap64 (minL xs + 1)
theorem minL_bound (n : Int) : ∀ (r : List Int) (x : Int), 0 ≤ x → x ≤ n → (∀ y ∈ r, 0 ≤ y ∧ y ≤ n) → 0 ≤ r.foldl mn x ∧ r.foldl mn x ≤ n
 | [],x,h0,h1,_ => ⟨h0,h1⟩
 | y :: r,x,h0,h1,h => by
  have hy := h y (by simp)
  refine minL_bound n r (mn x y) ?_ ?_ (fun z hz => h z (by simp [hz]))
  ·unfold mn;by_cases c : y < x <;> simp only [c,if_true,if_false] <;> omega
  ·unfold mn;by_cases c : y < x <;> simp only [c,if_true,if_false] <;> omega
theorem few_fold (n : Int) (hn : n ≤ 40) : ∀ (r : List Int) (x : Int), 0 ≤ x → x ≤ n → (∀ y ∈ r, 0 ≤ y ∧ y ≤ n) → r.foldl fewUp (x + 1) = r.foldl mn x + 1
 | [],x,_,_,_ => rfl
 | y :: r,x,h0,h1,h => by
  have hy := h y (by simp)
  simp only [List.foldl_cons]
  have e : fewUp (x + 1) y = mn x y + 1 := by
   unfold fewUp
   rw [wrapS (by omega) (by omega)]
   unfold mn
   by_cases c : y < x
   ·rw [if_pos c,if_pos (by omega)]
   ·rw [if_neg c,if_neg (by omega)]
  rw [e]
  refine few_fold n hn r (mn x y) ?_ ?_ (fun z hz => h z (by simp [hz]))
  ·unfold mn;by_cases c : y < x <;> simp only [c,if_true,if_false] <;> omega
  ·unfold mn;by_cases c : y < x <;> simp only [c,if_true,if_false] <;> omega
theorem fewOf_fold (n : Int) (hn : n ≤ 40) (xs : List Int) (h : ∀ y ∈ xs, 0 ≤ y ∧ y ≤ n) : fewFold xs = fewOf xs := by
 cases xs with
 | nil => rfl
 | cons x r =>
  have hx := h x (by simp)
  have hb := minL_bound n r x hx.1 hx.2 (fun z hz => h z (by simp [hz]))
  simp only [fewFold]
  rw [wrapS (by omega) (by omega),few_fold n hn r x hx.1 hx.2 (fun z hz => h z (by simp [hz]))]
  unfold fewOf
  rw [if_neg (by simp)]
  show _ = wrap64 (r.foldl mn x + 1)
  rw [wrapS (by omega) (by omega)]
theorem fewOf_bound (n : Int) (hn0 : 0 ≤ n) (hn : n ≤ 40) (xs : List Int) (h : ∀ y ∈ xs, 0 ≤ y ∧ y ≤ n) : 0 ≤ fewOf xs ∧ fewOf xs ≤ n + 1 := by
 cases xs with
 | nil => exact ⟨by decide,by show (0 : Int) ≤ n + 1;omega⟩
 | cons x r =>
  have hx := h x (by simp)
  have hb := minL_bound n r x hx.1 hx.2 (fun z hz => h z (by simp [hz]))
  unfold fewOf
  rw [if_neg (by simp)]
  show 0 ≤ wrap64 (r.foldl mn x + 1) ∧ wrap64 (r.foldl mn x + 1) ≤ n + 1
  rw [wrapS (by omega) (by omega)]
  omega
theorem few_inner (g : List (List Int)) (p d : Nat) (row : List Int) (r : List Int × Int) (hg : g.length = p + 1 + d) (h40 : g.length ≤ 40)
 (hrow : g[p]? = some row) (hq : ∀ q ∈ row,(p : Int) < q ∧ q < g.length) (hl : row.length ≤ 40)
 (next : Ev (fun k => Zo.l0 k (List.replicate p 0 ++ fewFold (seen fewOf 0 g p d row) :: backAt fewOf 0 g d) ((p : Int) - 1) g) r) (e : Nat) : ∀ j : Nat,j + e = row.length →
 Ev (fun k => Zo.l1 k (List.replicate p 0 ++ fewFold (seen fewOf 0 g p d (row.take j)) :: backAt fewOf 0 g d) (p : Int) (j : Int) g) r := by
 have er : rd_L2 g (p : Int) = row := by rw [rdL2_nat,getD_of hrow]
 induction e with
 | zero =>
  intro j hj
  have ej : j = row.length := by omega
  subst ej
  rw [List.take_length]
  refine Ev.step (fun k => ?_) next
  simp only [Zo.l1]
  rw [if_pos (by omega),if_pos (by omega),er,if_neg (by omega),wrapS (by omega) (by omega)]
 | succ e ih =>
  intro j hj
  obtain ⟨q,hjq⟩ := get_some (xs := row) (i := j) (by omega)
  have hm := hq q (List.mem_of_getElem? hjq)
  have eq1 : rd row (j : Int) = q := by rw [rd_nat,getD_of hjq]
  have hx := ih (j + 1) (by omega)
  rw [seen_take fewOf 0 g p d row j q hjq] at hx
  rw [fewFold_snoc] at hx
  have hlen : (seen fewOf 0 g p d (row.take j)).length = j := by simp only [seen,List.length_map,List.length_take];omega
  rw [hlen] at hx
  generalize hA : fewFold (seen fewOf 0 g p d (row.take j)) = A at hx ⊢
  have e2 : ∀ a,rd (List.replicate p 0 ++ a :: backAt fewOf 0 g d) q = (backAt fewOf 0 g d).getD (q.toNat - (p + 1)) 0 := by
   intro a
   obtain ⟨n,rfl⟩ : ∃ n : Nat,q = (n : Int) := ⟨q.toNat,by omega⟩
   rw [rd_nat,mid_get _ _ _ _ _ (by omega),Int.toNat_natCast]
  have e3 : ∀ a,rd (List.replicate p 0 ++ a :: backAt fewOf 0 g d) (p : Int) = a := fun a => by rw [rd_nat,mid_self]
  generalize hy : (backAt fewOf 0 g d).getD (q.toNat - (p + 1)) 0 = y at hx e2
  refine Ev.step (fun k => ?_) hx
  simp only [Zo.l1]
  rw [if_pos (by omega),if_pos (by omega),er,if_pos (by omega),if_pos (by omega),eq1,if_pos (by omega),if_pos (by rw [mid_len,backAt_length];omega),e3,e2,wrapS (i := (j : Int) + 1) (by omega) (by omega),cast_succ,Int.toNat_natCast,mid_set]
  by_cases c : j = 0
  ·rw [if_pos (by omega),if_pos (by rw [mid_len];omega),if_pos c]
  ·rw [if_neg (by omega),if_pos (by rw [mid_len];omega),if_neg c]
   unfold fewUp
   by_cases c2 : wrap64 (y + 1) < A
   ·rw [if_pos c2,if_pos c2]
   ·rw [if_neg c2,if_neg c2]
theorem few_loop (g : List (List Int)) (h : isGame g = true) :
 ∀ (m d : Nat),g.length = m + d → Ev (fun k => Zo.l0 k (List.replicate m 0 ++ backAt fewOf 0 g d) ((m : Int) - 1) g) (backs fewOf 0 g,0)
 | 0,d,hg => by
  refine Ev.step (f := fun _ => some (backs fewOf 0 g,0)) (fun k => ?_) (Ev.now _)
  simp only [Zo.l0]
  rw [if_neg (by omega),backs,show g.length = d by omega]
  rfl
 | p + 1,d,hg => by
  obtain ⟨row,hr⟩ := get_some (xs := g) (i := p) (by omega)
  have hw := game_row h hr
  have hn := game_len h
  have next := few_loop g h p (d + 1) (by omega)
  rw [backAt_succ fewOf 0 g p d row hg hr] at next
  have er : rd_L2 g (p : Int) = row := by rw [rdL2_nat,getD_of hr]
  have hall := backAt_allN fewOf 0 (fun d x => d ≤ 40 → 0 ≤ x ∧ x ≤ (d : Int)) g h (fun d x hx hd => by have := hx (by omega);omega)
   (fun d xs _ hx hd => by have := fewOf_bound (d : Int) (by omega) (by omega) xs (fun y hy => hx y hy (by omega));omega) d (by omega)
  have hs := seen_all fewOf 0 (fun x => d ≤ 40 → 0 ≤ x ∧ x ≤ (d : Int)) g p d row hg hw.1 hall
  have hf := fewOf_fold (d : Int) (by omega) (seen fewOf 0 g p d row) (fun y hy => hs y hy (by omega))
  have hi := few_inner g p d row _ hg hn.2 hr hw.1 hw.2 (by rw [hf];exact next) row.length 0 (by omega)
  refine Ev.step (fun k => ?_) hi
  simp only [Zo.l0]
  rw [show ((p + 1 : Nat) : Int) - 1 = (p : Int) by omega,if_pos (by omega),start_mid]
  rfl
theorem min_loop (xs : List Int) (hn : xs.length < 4611686018427387904) (d : Nat) : ∀ (i : Nat) (a : Int), i + d = xs.length → Ev (fun k => ZA.l0 k xs a (i : Int)) ((xs.drop i).foldl mn a) := by
 induction d with
 | zero =>
  intro i a hd
  rw [List.drop_eq_nil_of_le (by omega)]
  refine Ev.step (f := fun _ => some a) (fun k => ?_) (Ev.now _)
  simp only [ZA.l0]
  rw [if_neg (by omega)]
 | succ d ih =>
  intro i a hd
  obtain ⟨y,hy⟩ := get_some (xs := xs) (i := i) (by omega)
  have hrx : rd xs (i : Int) = y := by rw [rd_nat];exact getD_of hy
  rw [drop_of hy]
  refine Ev.step (fun k => ?_) (ih (i + 1) (mn a y) (by omega))
  simp only [ZA.l0]
  rw [if_pos (by omega),if_pos (by omega),hrx,wrapS (by omega) (by omega),cast_succ]
theorem min_ev (x : Int) (r : List Int) (hn : (x :: r).length < 4611686018427387904) : Ev (fun k => ZA.f k (x :: r)) (minL (x :: r)) := by
 refine Ev.congr (fun k => ?_) (min_loop (x :: r) hn r.length 1 x (by simp only [List.length_cons];omega))
 unfold ZA.f
 rw [if_neg (by simp only [List.length_cons];omega),if_pos (by simp only [List.length_cons];omega)]
 rfl
theorem fewV_ev (xs : List Int) (hn : xs.length < 4611686018427387904) : Ev (fun k => ZV.f k xs) (fewOf xs) := by
 unfold ZV.f fewOf
 cases xs with
 | nil => exact Ev.congr (f := fun _ => some 0) (fun k => rfl) (Ev.now _)
 | cons x r =>
  rw [if_neg (by simp)]
  refine Ev.congr (fun k => by rw [if_neg (by simp only [List.length_cons];omega)]) (Ev.bind (min_ev x r hn) (Ev.now _))
def Fews (g : List (List Int)) : List Int × Int := if isGame g = true then (backs fewOf 0 g, 0) else ([], 1)
theorem Fews_len (g : List (List Int)) : (Fews g).1.length ≤ 40 := by
 unfold Fews
 by_cases h : isGame g = true
 ·rw [if_pos h]
  have := game_len h
  simp only [backs,backAt_length]
  omega
 ·rw [if_neg h]
  simp
theorem specFew_ev (g : List (List Int)) (hl : ∀ row ∈ g, row.length < 4611686018427387904) (hg : g.length < 4611686018427387904) : Ev (fun k => Zo.f k g) (Fews g) := by
 have hi := l01Is_ev g hl hg
 unfold Fews Zo.f Zq.f
 by_cases h : isGame g = true
 ·rw [if_pos h]
  rw [h] at hi
  have hn := game_len h
  have hb := few_loop g h g.length 0 (by omega)
  simp only [backAt,List.append_nil] at hb
  refine Ev.bind hi (Ev.congr (fun k => ?_) hb)
  rw [if_pos rfl,Option.bind_some,if_pos (by omega),if_pos (by omega),Option.bind_some,Int.toNat_natCast,wrapS (by omega) (by omega)]
 ·rw [if_neg h]
  have hf : isGame g = false := by simpa using h
  rw [hf] at hi
  exact Ev.bind hi (Ev.congr (f := fun _ => some (([] : List Int),(1 : Int))) (fun k => by rw [if_neg (by decide)]) (Ev.now _))
theorem implFew_ev (g : List (List Int)) (hl : ∀ row ∈ g, row.length < 4611686018427387904) (hg : g.length < 4611686018427387904) : Ev (fun k => ZT.f k g) (Fews g) := by
 unfold ZT.f
 exact Ev.bind (backI_ev ZV.f fewOf (fun _ => True) g hl hg (fun xs h1 _ => ⟨fewV_ev xs (by omega),trivial⟩)) (Ev.now _)
def heapRow (k : Int) (list : List Int) (i : Int) : List Int := (list.filter fun n => decide (i + n ≤ k)).map fun n => i + n
def heapRows (k : Int) (list : List Int) (m : Nat) : List (List Int) := (List.range m).map fun (i : Nat) => heapRow k list (i : Int)
theorem heapRow_len (k : Int) (list : List Int) (i : Int) : (heapRow k list i).length ≤ list.length := by
 unfold heapRow
 rw [List.length_map]
 exact List.length_filter_le _ _
theorem heapRow_take (k : Int) (list : List Int) (i : Int) (j : Nat) (n : Int) (h : list[j]? = some n) : heapRow k (list.take (j + 1)) i = if i + n ≤ k then heapRow k (list.take j) i ++ [i + n] else heapRow k (list.take j) i := by
 unfold heapRow
 rw [List.take_add_one,h,List.filter_append,List.map_append]
 by_cases c : i + n ≤ k
 ·rw [if_pos c]
  simp [c]
 ·rw [if_neg c]
  simp [c]
theorem heapRows_succ (k : Int) (list : List Int) (m : Nat) : heapRows k list (m + 1) = heapRows k list m ++ [heapRow k list (m : Int)] := by
 unfold heapRows
 rw [List.range_succ,List.map_append]
 rfl
theorem heapRows_len (k : Int) (list : List Int) (m : Nat) : (heapRows k list m).length = m := by unfold heapRows; simp
theorem heap_row (k : Int) (list : List Int) (hk : k ≤ 39) (hl : list.length ≤ 39) (hb : ∀ n ∈ list, 0 < n ∧ n < 40) (i : Nat) (hi : (i : Int) ≤ k) (r : List (List Int))
 (next : Ev (fun m => Zv.l0 m k list ((i + 1 : Nat) : Int) (heapRows k list (i + 1))) r) (d : Nat) : ∀ j : Nat,j + d = list.length →
 Ev (fun m => Zv.l1 m k list (i : Int) (heapRow k (list.take j) (i : Int)) (j : Int) (heapRows k list i)) r := by
 induction d with
 | zero =>
  intro j hj
  have e : j = list.length := by omega
  subst e
  rw [List.take_length]
  refine Ev.step (fun m => ?_) next
  simp only [Zv.l1]
  rw [if_neg (by omega),if_pos (by rw [heapRows_len];omega),wrapS (by omega) (by omega),cast_succ,heapRows_succ]
 | succ d ih =>
  intro j hj
  obtain ⟨n,hn⟩ := get_some (xs := list) (i := j) (by omega)
  have hr : rd list (j : Int) = n := by rw [rd_nat];exact getD_of hn
  have hb' := hb n (List.mem_of_getElem? hn)
  have hx := ih (j + 1) (by omega)
  rw [heapRow_take k list (i : Int) j n hn] at hx
  have hlen := heapRow_len k (list.take j) (i : Int)
  have hlt : (list.take j).length ≤ 39 := by rw [List.length_take];omega
  refine Ev.step (fun m => ?_) hx
  simp only [Zv.l1]
  rw [if_pos (by omega),if_pos (by omega),hr,wrapS (i := (i : Int) + n) (by omega) (by omega),wrapS (i := (j : Int) + 1) (by omega) (by omega),cast_succ]
  by_cases c : (i : Int) + n ≤ k
  ·rw [if_pos c,if_pos c,if_pos (by omega)]
  ·rw [if_neg c,if_neg c]
theorem heap_loop (k : Int) (list : List Int) (hk0 : 0 ≤ k) (hk : k ≤ 39) (hl : list.length ≤ 39) (hb : ∀ n ∈ list, 0 < n ∧ n < 40) (d : Nat) : ∀ i : Nat, (i : Int) + d = k + 1 →
 Ev (fun m => Zv.l0 m k list (i : Int) (heapRows k list i)) (heapRows k list (k + 1).toNat) := by
 induction d with
 | zero =>
  intro i hd
  refine Ev.step (f := fun _ => some (heapRows k list (k + 1).toNat)) (fun m => ?_) (Ev.now _)
  simp only [Zv.l0]
  rw [if_neg (by omega),show (k + 1).toNat = i by omega]
 | succ d ih =>
  intro i hd
  refine Ev.step (fun m => ?_) (heap_row k list hk hl hb i (by omega) _ (ih (i + 1) (by omega)) list.length 0 (by omega))
  simp only [Zv.l0]
  rw [if_pos (by omega)]
  rfl
theorem iheap_row (k : Int) (list : List Int) (hk : k ≤ 39) (hl : list.length ≤ 39) (hb : ∀ n ∈ list, 0 < n ∧ n < 40) (i : Nat) (hi : (i : Int) ≤ k) (r : List (List Int) × Int)
 (next : Ev (fun m => Zl.l0 m k list (k + 1) ((i + 1 : Nat) : Int) (heapRows k list (i + 1))) r) (d : Nat) : ∀ j : Nat,j + d = list.length →
 Ev (fun m => Zl.l1 m k list (i : Int) (heapRow k (list.take j) (i : Int)) (k + 1) (i : Int) list (list.length : Int) (j : Int) (heapRows k list i)) r := by
 induction d with
 | zero =>
  intro j hj
  have e : j = list.length := by omega
  subst e
  rw [List.take_length]
  refine Ev.step (fun m => ?_) next
  simp only [Zl.l1]
  rw [if_neg (by omega),if_pos (by rw [heapRows_len];omega),wrapS (by omega) (by omega),cast_succ,heapRows_succ]
 | succ d ih =>
  intro j hj
  obtain ⟨n,hn⟩ := get_some (xs := list) (i := j) (by omega)
  have hr : rd list (j : Int) = n := by rw [rd_nat];exact getD_of hn
  have hb' := hb n (List.mem_of_getElem? hn)
  have hx := ih (j + 1) (by omega)
  rw [heapRow_take k list (i : Int) j n hn] at hx
  have hlen := heapRow_len k (list.take j) (i : Int)
  have hlt : (list.take j).length ≤ 39 := by rw [List.length_take];omega
  refine Ev.step (fun m => ?_) hx
  simp only [Zl.l1]
  rw [if_pos (by omega),if_pos (by omega),if_pos (by omega),hr,wrapS (i := (i : Int) + n) (by omega) (by omega),wrapS (i := (j : Int) + 1) (by omega) (by omega),cast_succ]
  by_cases c : (i : Int) + n ≤ k
  ·rw [if_pos c,if_pos c,if_pos (by omega)]
  ·rw [if_neg c,if_neg c]
theorem iheap_loop (k : Int) (list : List Int) (hk0 : 0 ≤ k) (hk : k ≤ 39) (hl : list.length ≤ 39) (hb : ∀ n ∈ list, 0 < n ∧ n < 40) (d : Nat) : ∀ i : Nat, (i : Int) + d = k + 1 →
 Ev (fun m => Zl.l0 m k list (k + 1) (i : Int) (heapRows k list i)) (heapRows k list (k + 1).toNat,0) := by
 induction d with
 | zero =>
  intro i hd
  refine Ev.step (f := fun _ => some (heapRows k list (k + 1).toNat,0)) (fun m => ?_) (Ev.now _)
  simp only [Zl.l0]
  rw [if_neg (by omega),show (k + 1).toNat = i by omega]
 | succ d ih =>
  intro i hd
  refine Ev.step (fun m => ?_) (iheap_row k list hk hl hb i (by omega) _ (ih (i + 1) (by omega)) list.length 0 (by omega))
  simp only [Zl.l0]
  rw [if_pos (by omega)]
  rfl
def heapOf (k : Int) (list : List Int) : List (List Int) × Int := if 0 ≤ k ∧ k ≤ 39 ∧ okRow 0 40 list = true then (heapRows k list (k + 1).toNat, 0) else ([], 2)
theorem rows_ok {list : List Int} (h : okRow 0 40 list = true) : list.length ≤ 39 ∧ ∀ n ∈ list, 0 < n ∧ n < 40 := by
 have := okRow_len h (by omega)
 exact ⟨by omega,okRow_mem h⟩
theorem ZaE (k : Int) (list : List Int) (hk0 : 0 ≤ k) (hk : k ≤ 39) (hn : list.length < 4611686018427387904) (d : Nat) : ∀ (i : Nat) (last : Int), i + d = list.length → (i = 0 → last = 0) → (∀ p : Nat, i = p + 1 → list.getD p 0 = last ∧ 0 < last) →
 Ev (fun m => ZB.l0 m k list (i : Int)) (if okRow last 40 (list.drop i) = true then (if okRow 0 40 list = true then (heapRows k list (k + 1).toNat,0) else ([],7)) else ([],2)) ∨ (okRow last 40 (list.drop i) = true ∧ ¬ okRow 0 40 list = true) := by
 induction d with
 | zero =>
  intro i last hd h0 h1
  rw [List.drop_eq_nil_of_le (by omega),show okRow last 40 [] = true from rfl]
  by_cases c : okRow 0 40 list = true
  ·refine .inl ?_
   have hr := rows_ok c
   rw [if_pos rfl,if_pos c]
   refine Ev.step (fun m => by simp only [ZB.l0];rw [if_neg (by omega)]) (Ev.bind (Ev.congr (fun m => ?_) (heap_loop k list hk0 hk hr.1 hr.2 (k + 1).toNat 0 (by omega))) (Ev.now _))
   rfl
  ·exact .inr ⟨rfl,c⟩
 | succ d ih =>
  intro i last hd h0 h1
  obtain ⟨n,hi⟩ := get_some (xs := list) (i := i) (by omega)
  have hr : rd list (i : Int) = n := by rw [rd_nat];exact getD_of hi
  rw [drop_of hi]
  have hlast : 0 ≤ last := by
   cases i with
   | zero => rw [h0 rfl];decide
   | succ p => have := (h1 p rfl).2;omega
  have hd0 : okRow last 40 (n :: list.drop (i + 1)) = (decide (last < n) && (decide (n < 40) && okRow n 40 (list.drop (i + 1)))) := rfl
  rw [hd0]
  have hin : Zac.f n 1 39 = some (decide (1 ≤ n) && decide (n ≤ 39)) := l01In_eq n 1 39
  by_cases c1 : 1 ≤ n ∧ n ≤ 39
  ·have e1 : (decide (1 ≤ n) && decide (n ≤ 39)) = true := by simp [c1.1,c1.2]
   rw [e1] at hin
   by_cases c2 : last < n
   ·rw [decide_eq_true c2,decide_eq_true (show n < 40 by omega),Bool.true_and,Bool.true_and]
    have hx := ih (i + 1) n (by omega) (by omega) (fun p hp => by
     obtain rfl : i = p := by omega
     exact ⟨getD_of hi,by omega⟩)
    rcases hx with hx | hx
    ·refine .inl (Ev.step (fun m => ?_) hx)
     simp only [ZB.l0]
     rw [if_pos (by omega),if_pos (by omega),hr,hin,Option.bind_some,if_pos rfl,wrapS (i := (i : Int) + 1) (by omega) (by omega),cast_succ]
     cases i with
     | zero => rw [if_neg (by omega)]
     | succ p =>
      have h1' := h1 p rfl
      have ep : rd list (wrap64 (((p + 1 : Nat) : Int) - 1)) = last := by rw [wrapS (by omega) (by omega),show ((p + 1 : Nat) : Int) - 1 = (p : Int) by omega,rd_nat];exact h1'.1
      rw [if_pos (by omega),ep,if_pos (by rw [wrapS (by omega) (by omega)];omega),if_pos (by rw [wrapS (by omega) (by omega)];omega),if_neg (by omega)]
    ·exact .inr hx
   ·refine .inl ?_
    rw [decide_eq_false c2,Bool.false_and,if_neg (by decide)]
    refine Ev.step (f := fun _ => some ([],2)) (fun m => ?_) (Ev.now _)
    simp only [ZB.l0]
    rw [if_pos (by omega),if_pos (by omega),hr,hin,Option.bind_some,if_pos rfl]
    cases i with
    | zero => have := h0 rfl;omega
    | succ p =>
     have h1' := h1 p rfl
     have ep : rd list (wrap64 (((p + 1 : Nat) : Int) - 1)) = last := by rw [wrapS (by omega) (by omega),show ((p + 1 : Nat) : Int) - 1 = (p : Int) by omega,rd_nat];exact h1'.1
     rw [if_pos (by omega),ep,if_pos (by rw [wrapS (by omega) (by omega)];omega),if_pos (by rw [wrapS (by omega) (by omega)];omega),if_pos (by omega)]
  ·refine .inl ?_
   have e1 : (decide (1 ≤ n) && decide (n ≤ 39)) = false := by
    rw [← Bool.decide_and,decide_eq_false c1]
   rw [e1] at hin
   have e2 : (decide (last < n) && (decide (n < 40) && okRow n 40 (list.drop (i + 1)))) = false := by
    by_cases c2 : last < n
    ·rw [decide_eq_false (show ¬ n < 40 by omega),Bool.false_and,Bool.and_false]
    ·rw [decide_eq_false c2,Bool.false_and]
   rw [e2,if_neg (by decide)]
   refine Ev.step (f := fun _ => some ([],2)) (fun m => ?_) (Ev.now _)
   simp only [ZB.l0]
   rw [if_pos (by omega),if_pos (by omega),hr,hin,Option.bind_some,if_neg (by decide)]
theorem specHeap_ev (k : Int) (list : List Int) (hn : list.length < 4611686018427387904) : Ev (fun m => ZB.f m k list) (heapOf k list) := by
 unfold ZB.f heapOf
 rw [l01In_eq]
 refine Ev.bind (Ev.now _) ?_
 by_cases c : 0 ≤ k ∧ k ≤ 39
 ·have e : (decide (0 ≤ k) && decide (k ≤ 39)) = true := by simp [c.1,c.2]
  rw [e]
  refine Ev.congr (fun m => by rw [if_pos rfl]) ?_
  rcases ZaE k list c.1 c.2 hn list.length 0 0 (by omega) (fun _ => rfl) (fun p hp => by omega) with h | h
  ·rw [List.drop_zero] at h
   by_cases o : okRow 0 40 list = true
   ·rw [if_pos o,if_pos o] at h
    rw [if_pos ⟨c.1,c.2,o⟩]
    exact h
   ·rw [if_neg o] at h
    rw [if_neg (fun x => o x.2.2)]
    exact h
  ·rw [List.drop_zero] at h
   exact absurd h.1 h.2
 ·have e : (decide (0 ≤ k) && decide (k ≤ 39)) = false := by rw [← Bool.decide_and,decide_eq_false c]
  rw [e,if_neg (fun x => c ⟨x.1,x.2.1⟩)]
  exact Ev.congr (f := fun _ => some ([],2)) (fun m => by rw [if_neg (by decide)]) (Ev.now _)
theorem implHeap_ev (k : Int) (list : List Int) (hn : list.length < 4611686018427387904) : Ev (fun m => Zl.f m k list) (heapOf k list) := by
 unfold Zl.f heapOf
 rw [within_eq]
 refine Ev.bind (Ev.now _) ?_
 have bad : Ev (fun m => Zl.j0 m k list true) ([],2) := by
  refine Ev.step (f := fun _ => some ([],2)) (fun m => ?_) (Ev.now _)
  simp only [Zl.j0]
  rw [if_pos trivial]
 by_cases c : 0 ≤ k ∧ k ≤ 39
 ·have e : (decide (0 ≤ k) && decide (k ≤ 39)) = true := by simp [c.1,c.2]
  rw [e]
  have hr := rising_ev list 1 39 hn
  refine Ev.congr (fun m => by rw [if_pos rfl]) (Ev.bind hr ?_)
  by_cases o : okRow 0 40 list = true
  ·rw [if_pos ⟨c.1,c.2,o⟩,show okRow (1 - 1) (39 + 1) list = true from o]
   have hq := rows_ok o
   refine Ev.step (fun m => ?_) (iheap_loop k list c.1 c.2 hq.1 hq.2 (k + 1).toNat 0 (by omega))
   simp only [Zl.j0]
   rw [if_neg (by decide),wrapS (by omega) (by omega)]
   rfl
  ·have of_ : okRow 0 40 list = false := by simpa using o
   rw [if_neg (fun x => o x.2.2),show okRow (1 - 1) (39 + 1) list = false from of_]
   exact bad
 ·have e : (decide (0 ≤ k) && decide (k ≤ 39)) = false := by rw [← Bool.decide_and,decide_eq_false c]
  rw [e,if_neg (fun x => c ⟨x.1,x.2.1⟩)]
  exact Ev.congr (fun m => by rw [if_neg (by decide)]) bad
theorem heapOf_size (k : Int) (list : List Int) : (heapOf k list).1.length ≤ 40 ∧ ∀ row ∈ (heapOf k list).1, row.length ≤ 39 := by
 unfold heapOf
 by_cases c : 0 ≤ k ∧ k ≤ 39 ∧ okRow 0 40 list = true
 ·rw [if_pos c]
  refine ⟨by show (heapRows k list (k + 1).toNat).length ≤ 40;rw [heapRows_len];omega,fun row hr => ?_⟩
  obtain ⟨i,_,rfl⟩ := List.mem_map.1 hr
  have := heapRow_len k list (i : Int)
  have := (rows_ok c.2.2).1
  omega
 ·rw [if_neg c]
  exact ⟨by simp,fun row hr => by simp at hr⟩
noncomputable def mexI (xs : List Int) : Int := (mexOf xs : Int)
theorem mexI_nonneg (xs : List Int) : 0 ≤ mexI xs := by unfold mexI; omega
theorem gru_inner (g : List (List Int)) (p d : Nat) (row : List Int) (v : Int) (r : List Int) (hg : g.length = p + 1 + d) (h40 : g.length ≤ 40)
 (hrow : g[p]? = some row) (hq : ∀ q ∈ row,(p : Int) < q ∧ q < g.length) (hl : row.length ≤ 40) (hV : Ev (fun k => ZH.f k (seen mexI 0 g p d row)) v)
 (next : Ev (fun k => Zw.l0 k (List.replicate p 0 ++ v :: backAt mexI 0 g d) ((p : Int) - 1) g) r) (e : Nat) : ∀ j : Nat,j + e = row.length →
 Ev (fun k => Zw.l1 k (List.replicate (p + 1) 0 ++ backAt mexI 0 g d) (p : Int) (seen mexI 0 g p d (row.take j)) (j : Int) g) r := by
 have er : rd_L2 g (p : Int) = row := by rw [rdL2_nat,getD_of hrow]
 induction e with
 | zero =>
  intro j hj
  have ej : j = row.length := by omega
  subst ej
  rw [List.take_length]
  refine Ev.step (fun k => by simp only [Zw.l1];rw [if_pos (by omega),if_pos (by omega),er,if_neg (by omega)]) (Ev.bind hV ?_)
  refine Ev.congr (fun k => ?_) next
  rw [if_pos (by simp only [List.length_append,List.length_replicate];omega),Int.toNat_natCast,arr_set,wrapS (by omega) (by omega)]
 | succ e ih =>
  intro j hj
  obtain ⟨q,hjq⟩ := get_some (xs := row) (i := j) (by omega)
  have hm := hq q (List.mem_of_getElem? hjq)
  have eq1 : rd row (j : Int) = q := by rw [rd_nat,getD_of hjq]
  have e2 : rd (List.replicate (p + 1) 0 ++ backAt mexI 0 g d) q = (backAt mexI 0 g d).getD (q.toNat - (p + 1)) 0 := by
   obtain ⟨n,rfl⟩ : ∃ n : Nat,q = (n : Int) := ⟨q.toNat,by omega⟩
   rw [rd_nat,arr_get _ _ _ _ (by omega),Int.toNat_natCast]
  refine Ev.step (fun k => ?_) (ih (j + 1) (by omega))
  simp only [Zw.l1]
  rw [if_pos (by omega),if_pos (by omega),er,if_pos (by omega),if_pos (by omega),eq1,if_pos (by omega),if_pos (by simp only [List.length_append,List.length_replicate,backAt_length];omega),
   if_pos (by simp only [seen,List.length_map,List.length_take];omega),e2,wrapS (by omega) (by omega),cast_succ]
  congr 1
  simp only [seen]
  rw [List.take_add_one,hjq]
  simp
theorem gru_loop (g : List (List Int)) (h : isGame g = true) :
 ∀ (m d : Nat),g.length = m + d → Ev (fun k => Zw.l0 k (List.replicate m 0 ++ backAt mexI 0 g d) ((m : Int) - 1) g) (backs mexI 0 g)
 | 0,d,hg => by
  refine Ev.step (f := fun _ => some (backs mexI 0 g)) (fun k => ?_) (Ev.now _)
  simp only [Zw.l0]
  rw [if_neg (by omega),backs,show g.length = d by omega]
  rfl
 | p + 1,d,hg => by
  obtain ⟨row,hr⟩ := get_some (xs := g) (i := p) (by omega)
  have hw := game_row h hr
  have hn := game_len h
  have hall := backAt_all mexI 0 (fun x => 0 ≤ x) g h (fun xs _ _ => mexI_nonneg xs) d (by omega)
  have hv := mexs_ev (seen mexI 0 g p d row) (seen_all mexI 0 (fun x => 0 ≤ x) g p d row hg hw.1 hall) (by simp only [seen,List.length_map];omega)
  have next := gru_loop g h p (d + 1) (by omega)
  rw [backAt_succ mexI 0 g p d row hg hr] at next
  refine Ev.step (fun k => ?_) (gru_inner g p d row _ _ hg hn.2 hr hw.1 hw.2 hv next row.length 0 (by omega))
  simp only [Zw.l0]
  rw [show ((p + 1 : Nat) : Int) - 1 = (p : Int) by omega,if_pos (by omega)]
  rfl
theorem l01Grundy_ev (g : List (List Int)) (h : isGame g = true) : Ev (fun k => Zw.f k g) (backs mexI 0 g) := by
 have hn := game_len h
 have hb := gru_loop g h g.length 0 (by omega)
 simp only [backAt,List.append_nil] at hb
 unfold Zw.f Zq.f
 refine Ev.congr (fun k => ?_) hb
 rw [Option.bind_some,if_pos (by omega),if_pos (by omega),Option.bind_some,Int.toNat_natCast,wrapS (by omega) (by omega)]
noncomputable def grundies (g : List (List Int)) : List Int × Int := if isGame g = true then (backs mexI 0 g, 0) else ([], 1)
theorem implGrundy_ev (g : List (List Int)) (hl : ∀ row ∈ g, row.length < 4611686018427387904) (hg : g.length < 4611686018427387904) : Ev (fun k => ZU.f k g) (grundies g) := by
 unfold ZU.f
 exact Ev.bind (backI_ev Zam.f mexI (fun x => 0 ≤ x) g hl hg (fun xs h1 _ => ⟨mexi_ev xs (by omega),mexI_nonneg xs⟩)) (Ev.now _)
theorem grundies_len (g : List (List Int)) : (grundies g).1.length ≤ 40 := by
 unfold grundies
 by_cases h : isGame g = true
 ·rw [if_pos h]
  have := game_len h
  simp only [backs,backAt_length]
  omega
 ·rw [if_neg h]
  simp
def inG (g : List (List Int)) (p : Int) : Bool := decide (0 ≤ p) && decide (p ≤ (g.length : Int) - 1)
noncomputable def areEq (g : List (List Int)) (p : Int) (h : List (List Int)) (q : Int) : Bool × Int :=
 if isGame g = true then (if isGame h = true then (if (inG g p && inG h q) = true then (rd (backs mexI 0 g) p == rd (backs mexI 0 h) q,0) else (false,2)) else (false,1)) else (false,1)
theorem specEq_ev (g h : List (List Int)) (p q : Int) (hl : ∀ row ∈ g, row.length < 4611686018427387904) (hg : g.length < 4611686018427387904) (hl' : ∀ row ∈ h, row.length < 4611686018427387904) (hh : h.length < 4611686018427387904) :
 Ev (fun k => Zc.f k g p h q) (areEq g p h q) := by
 have h1 := l01Is_ev g hl hg
 have h2 := l01Is_ev h hl' hh
 unfold areEq Zc.f
 cases hG : isGame g
 ·rw [hG] at h1
  rw [if_neg (by decide)]
  refine Ev.bind h1 (Ev.congr (fun k => by rw [if_neg (by decide)]) (Ev.step (f := fun _ => some (false,1)) (fun k => ?_) (Ev.now _)))
  simp only [Zc.j0]
  rw [if_pos trivial]
 ·rw [hG] at h1
  rw [if_pos rfl]
  refine Ev.bind h1 (Ev.congr (fun k => by rw [if_pos rfl]) (Ev.bind h2 ?_))
  cases hH : isGame h
  ·rw [if_neg (by decide)]
   refine Ev.step (f := fun _ => some (false,1)) (fun k => ?_) (Ev.now _)
   simp only [Zc.j0]
   rw [if_pos (by decide)]
  ·rw [if_pos rfl]
   have n1 := game_len hG
   have n2 := game_len hH
   have i1 : Zac.f p 0 (wrap64 ((g.length : Int) - 1)) = some (inG g p) := by rw [l01In_eq,wrapS (by omega) (by omega)];rfl
   have i2 : Zac.f q 0 (wrap64 ((h.length : Int) - 1)) = some (inG h q) := by rw [l01In_eq,wrapS (by omega) (by omega)];rfl
   have bad : Ev (fun k => Zc.j1 k p q true g h) (false,2) := by
    refine Ev.step (f := fun _ => some (false,2)) (fun k => ?_) (Ev.now _)
    simp only [Zc.j1]
    rw [if_pos trivial]
   cases b1 : inG g p
   ·rw [b1] at i1
    rw [Bool.false_and,if_neg (by decide)]
    refine Ev.step (fun k => ?_) bad
    simp only [Zc.j0,Zq.f]
    rw [if_neg (by decide),Option.bind_some,i1,Option.bind_some,if_neg (by decide)]
   ·rw [b1] at i1
    cases b2 : inG h q
    ·rw [b2] at i2
     rw [Bool.and_false,if_neg (by decide)]
     refine Ev.step (fun k => ?_) bad
     simp only [Zc.j0,Zq.f]
     rw [if_neg (by decide),Option.bind_some,i1,Option.bind_some,if_pos rfl,Option.bind_some,i2,Option.bind_some]
     rfl
    ·rw [b2] at i2
     rw [Bool.and_self,if_pos rfl]
     have good : Ev (fun k => Zc.j1 k p q false g h) (rd (backs mexI 0 g) p == rd (backs mexI 0 h) q,0) := by
      unfold inG at b1 b2
      simp only [Bool.and_eq_true,decide_eq_true_eq] at b1 b2
      refine Ev.step (fun k => by simp only [Zc.j1];rw [if_neg (by decide)]) (Ev.bind (l01Grundy_ev g hG) (Ev.congr (fun k => by rw [if_pos b1.1,if_pos (by rw [backs,backAt_length];omega)]) (Ev.bind (l01Grundy_ev h hH) (Ev.congr (fun k => by rw [if_pos b2.1,if_pos (by rw [backs,backAt_length];omega)]) (Ev.now _)))))
     refine Ev.step (fun k => ?_) good
     simp only [Zc.j0,Zq.f]
     rw [if_neg (by decide),Option.bind_some,i1,Option.bind_some,if_pos rfl,Option.bind_some,i2,Option.bind_some]
     rfl
theorem implEq_ev (g h : List (List Int)) (p q : Int) (hl : ∀ row ∈ g, row.length < 4611686018427387904) (hg : g.length < 4611686018427387904) (hl' : ∀ row ∈ h, row.length < 4611686018427387904) (hh : h.length < 4611686018427387904) :
 Ev (fun k => Zg.f k g p h q) (areEq g p h q) := by
 have h1 := IsGame_ev g hl hg
 have h2 := IsGame_ev h hl' hh
 have g1 := implGrundy_ev g hl hg
 have g2 := implGrundy_ev h hl' hh
 have i1 : Zaa.f p 0 (wrap64 ((g.length : Int) - 1)) = some (inG g p) := by rw [within_eq,wrapS (by omega) (by omega)];rfl
 have i2 : Zaa.f q 0 (wrap64 ((h.length : Int) - 1)) = some (inG h q) := by rw [within_eq,wrapS (by omega) (by omega)];rfl
 have jj : ∀ B : Bool,Ev (fun k => Zg.j0 k p q B g h) (if isGame g = true then (if isGame h = true then (if B = true then (if 0 ≤ p ∧ p < (g.length : Int) ∧ 0 ≤ q ∧ q < (h.length : Int) then (rd (backs mexI 0 g) p == rd (backs mexI 0 h) q,0) else (false,7)) else (false,2)) else (false,1)) else (false,1)) ∨ (isGame g = true ∧ isGame h = true ∧ B = true ∧ ¬ (0 ≤ p ∧ p < (g.length : Int) ∧ 0 ≤ q ∧ q < (h.length : Int))) := by
  intro B
  cases hG : isGame g
  ·rw [hG] at h1
   refine .inl ?_
   rw [if_neg (by decide)]
   refine Ev.step (fun k => by simp only [Zg.j0];rfl) (Ev.bind h1 (Ev.congr (fun k => by rw [if_neg (by decide)]) (Ev.bind (first2_ev false B 1 2) (Ev.step (f := fun _ => some (false,1)) (fun k => ?_) (Ev.now _)))))
   simp only [Zg.j1]
   rfl
  ·rw [hG] at h1
   cases hH : isGame h
   ·rw [hH] at h2
    refine .inl ?_
    rw [if_pos rfl,if_neg (by decide)]
    refine Ev.step (fun k => by simp only [Zg.j0];rfl) (Ev.bind h1 (Ev.congr (fun k => by rw [if_pos rfl]) (Ev.bind h2 ?_)))
    refine Ev.bind (first2_ev false B 1 2) ?_
    refine Ev.step (f := fun _ => some (false,1)) (fun k => ?_) (Ev.now _)
    simp only [Zg.j1]
    rfl
   ·rw [hH] at h2
    cases B
    ·refine .inl ?_
     rw [if_pos rfl,if_pos rfl,if_neg (by decide)]
     refine Ev.step (fun k => by simp only [Zg.j0];rfl) (Ev.bind h1 (Ev.congr (fun k => by rw [if_pos rfl]) (Ev.bind h2 ?_)))
     refine Ev.bind (first2_ev true false 1 2) ?_
     refine Ev.step (f := fun _ => some (false,2)) (fun k => ?_) (Ev.now _)
     simp only [Zg.j1]
     rfl
    ·by_cases c : 0 ≤ p ∧ p < (g.length : Int) ∧ 0 ≤ q ∧ q < (h.length : Int)
     ·refine .inl ?_
      rw [if_pos rfl,if_pos rfl,if_pos rfl,if_pos c]
      unfold grundies at g1 g2
      rw [if_pos hG] at g1
      rw [if_pos hH] at g2
      refine Ev.step (fun k => by simp only [Zg.j0];rfl) (Ev.bind h1 (Ev.congr (fun k => by rw [if_pos rfl]) (Ev.bind h2 ?_)))
      refine Ev.bind (first2_ev true true 1 2) ?_
      refine Ev.step (f := fun k => (ZU.f k g).bind fun bt390 => ((ZU.f k h).bind fun bt394 => (if 0 ≤ p then (if p < (bt390.1.length : Int) then (if 0 ≤ q then (if q < (bt394.1.length : Int) then (some (((rd bt390.1 p) == (rd bt394.1 q)),0)) else (none)) else (none)) else (none)) else (none)))) (fun k => ?_) ?_
      ·simp only [Zg.j1]
       rw [if_pos (by rfl)]
      refine Ev.bind g1 ?_
      refine Ev.bind g2 ?_
      refine Ev.congr (f := fun _ => some (rd (backs mexI 0 g) p == rd (backs mexI 0 h) q,0)) (fun k => ?_) (Ev.now _)
      rw [if_pos c.1,if_pos (by rw [backs,backAt_length];exact c.2.1),if_pos c.2.2.1,if_pos (by rw [backs,backAt_length];exact c.2.2.2)]
     ·exact .inr ⟨rfl,rfl,rfl,c⟩
 unfold Zg.f Zan.f
 have done : ∀ B : Bool,B = (inG g p && inG h q) → Ev (fun k => Zg.j0 k p q B g h) (areEq g p h q) := by
  intro B hB
  rcases jj B with hj | ⟨a,b,c,d⟩
  ·unfold areEq
   rw [← hB]
   cases B
   ·exact hj
   ·have e := hB.symm
    unfold inG at e
    simp only [Bool.and_eq_true,decide_eq_true_eq] at e
    rw [if_pos (show 0 ≤ p ∧ p < (g.length : Int) ∧ 0 ≤ q ∧ q < (h.length : Int) by omega)] at hj
    exact hj
  ·rw [hB] at c
   unfold inG at c
   simp only [Bool.and_eq_true,decide_eq_true_eq] at c
   omega
 refine Ev.bind (Ev.now _) ?_
 rw [i1]
 refine Ev.bind (Ev.now _) ?_
 cases b1 : inG g p
 ·refine Ev.congr (fun k => by rw [if_neg (by decide)]) (done false (by rw [b1,Bool.false_and]))
 ·refine Ev.congr (fun k => by rw [if_pos rfl]) (Ev.bind (Ev.now _) ?_)
  rw [i2]
  exact Ev.bind (Ev.now _) (done (inG h q) (by rw [b1,Bool.true_and]))
theorem R_zeros {g n c base : Nat} {ok : Nat → Prop} (hbg : base ≤ g) : ∀ (m i : Nat) (W : World) (xs : List Int), Kd.R (Kd.int .i64) 2 W base ok (.slice (some ⟨g, 0, none⟩) n c) xs →
 ∃ ys : List Int,ys.length = xs.length ∧ ys.take i = xs.take i ∧ Kd.R (Kd.int .i64) 2 (W.setCells g i (List.replicate m (.int .i64 0))) base ok (.slice (some ⟨g,0,none⟩) n c) ys ∧ Below base W (W.setCells g i (List.replicate m (.int .i64 0)))
 | 0,i,W,xs,h => ⟨xs,rfl,rfl,h,Below.refl _ _⟩
 | m + 1,i,W,xs,h => by
  have h1 := (Kd.R_putg h (i : Int) (0 : Int)).1
  rw [Int.toNat_natCast] at h1
  obtain ⟨ys,e1,e2,e3,e4⟩ := R_zeros hbg m (i + 1) _ _ h1
  refine ⟨ys,by rw [e1,List.length_set],?_,e3,?_⟩
  ·have e5 : ys.take i = (ys.take (i + 1)).take i := by rw [List.take_take,Nat.min_eq_left (by omega)]
   rw [e5,e2,List.take_take,Nat.min_eq_left (by omega),List.take_set_of_le (Nat.le_refl i)]
  ·exact Below.trans ((Below.refl base W).setCell hbg _) e4
theorem idxOf_hit {p : Int → Bool} {xs : List Int} (h : ¬ idxOf p xs = -1) : ∃ i : Nat, idxOf p xs = (i : Int) ∧ ∃ x, xs[i]? = some x ∧ p x = true ∧ ∀ j, j < i → ∀ y, xs[j]? = some y → p y = false := by
 unfold idxOf at h ⊢
 cases e : xs.findIdx? p with
 | none => rw [e] at h;exact absurd rfl h
 | some i =>
  rw [List.findIdx?_eq_some_iff_getElem] at e
  obtain ⟨hl,hp,hb⟩ := e
  refine ⟨i,rfl,xs[i],List.getElem?_eq_getElem hl,hp,fun j hj y hy => ?_⟩
  obtain ⟨hl2,e2⟩ := List.getElem?_eq_some_iff.1 hy
  have := hb j hj
  rw [e2] at this
  simpa using this
theorem filter_take_all {p : Int → Bool} {xs : List Int} : ∀ i : Nat, (∀ j, j < i → ∀ y, xs[j]? = some y → p y = false) → (xs.take i).filter (fun x => !p x) = xs.take i := by
 intro i h
 rw [List.filter_eq_self]
 intro x hx
 obtain ⟨j,hj,e⟩ := List.getElem_of_mem hx
 rw [List.length_take] at hj
 have e2 : xs[j]? = some x := by rw [← e,List.getElem_take,List.getElem?_eq_getElem (by omega)]
 rw [h j (by omega) x e2]
 rfl
theorem DeleteFunc.calls (f : FuncId) (cap : Array Value) (p : Int → Bool) (hF : HasFn f) (base : Nat) (ok : Nat → Prop) (v : Value) (xs : List Int) (w : World) (hb0 : base ≤ w.heap.size)
 (ho : Kd.R (Kd.int .i64) 2 w base ok v xs) (hlen : xs.length < 4611686018427387904)
 (hT : ∀ x ∈ xs,∀ w1 : World,Below base w w1 → Calls Try.prog f (#[.int .i64 x] ++ cap) w1 fun e w' => e = .returned (.bool (p x)) ∧ Drawn0 w1 w') :
 Calls Try.prog 37 #[v,.func (.func f) #[] cap] w fun e w' => ∃ v' : Value,e = .returned v' ∧ Kd.R (Kd.int .i64) 2 w' base ok v' (xs.filter fun x => !p x) ∧ Below base w w' := by
 have HT := Aside0.mk hT
 have HF := Aside0.mk hF
 have HO := Aside0.mk ho
 have HN := Aside0.mk hlen
 have hTests : Tests f cap p xs w := ⟨hF,fun x hx n => hT x hx _ (by repeat (first | exact Below.refl _ _ | apply pw_below_drewN))⟩
 have HTS := Aside0.mk hTests
 clear hT hF ho hlen hTests
 obtain ⟨A0,c0,e0⟩ := Kd.R_slice HO.out
 subst e0
 by_cases hany : idxOf p xs = -1
 ·have hnone : xs.any p = false := by rw [← idxOf_any,hany];rfl
  have hkeep : xs.filter (fun x => !p x) = xs := by
   rw [List.filter_eq_self]
   intro x hx
   rw [List.any_eq_false] at hnone
   simpa using hnone x hx
  have HI := Aside0.mk hany
  clear hany
  go_enter Try.func37,Try.ntmps37
  go_wp2_with (first | ((with_reducible refine gate_dst (N := 10) rfl ?_);refine goesL_ (some 10) rfl rfl Try.func74 (by kernel_rfl) rfl #[.slice A0 xs.length c0,.func (.func f) #[] cap] rfl (by (try simp only [List.map_toArray,List.map_cons,List.map_nil]);first | done | rfl) ?_;(with_reducible refine (IndexFunc.calls f cap p _ _ xs _ ?side1 ?side2 HTS.out).mono ?_);(case side1 => exact (Kd.R_reads' HO.out).2.2);(case side2 => exact (Kd.R_reads' HO.out).2.1);rw [HI.out];rintro e w1 ⟨rfl,⟨nd,rfl⟩⟩;refine ⟨_,rfl,?_⟩))
  go_ret
  rw [hkeep]
  exact ⟨_,rfl,Kd.R_drewN HO.out _,by repeat (first | exact Below.refl _ _ | apply pw_below_drewN)⟩
 ·obtain ⟨i0,hi0,x0,hx0,hpx0,hbef⟩ := idxOf_hit hany
  have hl0 : i0 < xs.length := (List.getElem?_eq_some_iff.1 hx0).1
  have hstart : (xs.take (i0 + 1)).filter (fun x => !p x) = xs.take i0 := by
   rw [List.take_add_one,hx0,List.filter_append,filter_take_all i0 hbef]
   simp [hpx0]
  have hne : ((i0 : Int) == -1) = false := beq_eq_false_iff_ne.2 (by omega)
  have HI := Aside0.mk hi0
  have HS := Aside0.mk hstart
  have HL0 := Aside0.mk hl0
  clear hany hi0 hx0 hpx0 hbef hstart hl0
  obtain ⟨go,co,eo,gb,gl,cl,HG⟩ := Kd.R_form HO.out (by have := HL0.out;omega)
  cases eo
  have GB := Aside0.mk gb
  clear gb gl HG
  go_enter Try.func37,Try.ntmps37
  go_wp2_with (first | ((with_reducible refine gate_dst (N := 10) rfl ?_);refine goesL_ (some 10) rfl rfl Try.func74 (by kernel_rfl) rfl #[.slice (some ⟨go,0,none⟩) xs.length c0,.func (.func f) #[] cap] rfl (by (try simp only [List.map_toArray,List.map_cons,List.map_nil]);first | done | rfl) ?_;(with_reducible refine (IndexFunc.calls f cap p _ _ xs _ ?side1 ?side2 HTS.out).mono ?_);(case side1 => exact (Kd.R_reads' HO.out).2.2);(case side2 => exact (Kd.R_reads' HO.out).2.1);rw [HI.out];rintro e w1 ⟨rfl,⟨nd,hnd⟩⟩;refine ⟨_,rfl,?_⟩;have n0_ := Aside0.mk (hnd.symm ▸ Kd.R_drewN HO.out nd : Kd.R (Kd.int .i64) 2 w1 base ok (.slice (some ⟨go,0,none⟩) xs.length c0) xs);have HB := Aside0.mk (hnd.symm ▸ (by repeat (first | exact Below.refl _ _ | apply pw_below_drewN) : Below base w (w.drewN nd)) : Below base w w1);clear HO hnd;have HO := n0_;clear n0_))
  go_loopg [5,6,7] xs.length (fun gg s5 s6 _ wr => ∃ (i j : Nat) (ys : List Int),s5 = .int .i64 (i : Int) ∧ s6 = .int .i64 (j : Int) ∧ Aside0 (i < j ∧ j ≤ xs.length ∧ xs.length - j ≤ gg ∧ ys.length = xs.length ∧ ys.take i = (xs.take j).filter (fun x => !p x) ∧ ys.drop j = xs.drop j) ∧ Aside0 (Kd.R (Kd.int .i64) 2 wr base ok (.slice (some ⟨go,0,none⟩) xs.length c0) ys) ∧ Aside0 (Below base w wr))
  case atStart =>
   have hw_ : wrap64 ((i0 : Int) + 1) = ((i0 + 1 : Nat) : Int) := by have := HL0.out;have := HN.out;unfold wrap64;omega
   exact ⟨i0,i0 + 1,xs,rfl,(by first | (rw [← hw_];done) | (rw [← hw_];rfl)),⟨by omega,by have := HL0.out;omega,by omega,rfl,HS.out.symm,rfl⟩,HO,HB⟩
  case round =>
   clear HO HB HI HS HL0 HTS hne
   obtain ⟨i,j,ys,rfl,rfl,HV,HO,HB⟩ := hrel
   obtain ⟨v1,v2,v3,v4,v5,v6⟩ := HV.out
   by_cases hlt : j < xs.length
   ·obtain ⟨x,hx⟩ : ∃ x,xs[j]? = some x := ⟨xs[j],List.getElem?_eq_getElem hlt⟩
    have hyx : ys[j]? = some x := by
     have e1 : (ys.drop j)[0]? = (xs.drop j)[0]? := by rw [v6]
     rw [List.getElem?_drop,List.getElem?_drop] at e1
     simpa [hx] using e1
    have hm : x ∈ xs := List.mem_of_getElem? hx
    have hry : rd ys (j : Int) = x := by unfold rd;rw [Int.toNat_natCast,List.getD_eq_getElem?_getD,hyx];rfl
    obtain ⟨hxj,hfj⟩ := Kd.R_celln (0 : Int) HO.out (j : Int) (by omega) (by omega)
    rw [show rdOf (0 : Int) ys (j : Int) = x from hry,Int.toNat_natCast] at hxj
    rw [Int.toNat_natCast] at hfj
    have hcall := HT.out x hm wr HB.out
    have hjn : decide ((j : Int) < (xs.length : Int)) = true := decide_eq_true (by omega)
    have pj : (0 ≤ (j : Int)) = True := eq_true (by omega)
    have qj : ((j : Int) < (xs.length : Int)) = True := eq_true (by omega)
    have pi : (0 ≤ (i : Int)) = True := eq_true (by omega)
    have qi : ((i : Int) < (xs.length : Int)) = True := eq_true (by omega)
    cases hp : p x
    ·rw [hp] at hcall
     have HC := Aside0.mk hcall
     have HX := Aside0.mk hx
     have HLT := Aside0.mk hlt
     have HP := Aside0.mk hp
     clear hcall hx hyx hm hry v1 v2 v3 v4 v5 v6 hlt hp
     go_wp2_with (first | ((with_reducible refine gate_dst (N := 28) rfl ?_);refine goesV_ (some 28) rfl rfl f cap HF.out #[.int .i64 x] rfl rfl (by (try simp only [List.map_toArray,List.map_cons,List.map_nil]);first | done | rfl) ?_;(with_reducible refine HC.out.mono ?_);rintro e w2 ⟨rfl,⟨nd,hnd⟩⟩;refine ⟨_,rfl,?_⟩;have n0_ := Aside0.mk (hnd.symm ▸ Kd.R_drewN HO.out nd : Kd.R (Kd.int .i64) 2 w2 base ok (.slice (some ⟨go,0,none⟩) xs.length c0) ys);have n1_ := Aside0.mk (hnd.symm ▸ (by repeat (first | exact HB.out | apply pw_below_drewN) : Below base w (wr.drewN nd)) : Below base w w2);clear HO HB hnd hxj hfj;have HO := n0_;have HB := n1_;clear n0_ n1_;obtain ⟨hxi,hfi⟩ := Kd.R_celln (0 : Int) HO.out (i : Int) (by omega) (by have := HV.out;omega);rw [Int.toNat_natCast] at hxi hfi;have HP7 := Kd.R_putg HO.out (i : Int) x;rw [Int.toNat_natCast] at HP7) | ((with_reducible refine gate_store (t := 2) (p := 33) rfl ?_);refine store_event (t := 2) (p := 33) (v := ?vo_w8) (w1 := (w2.setCell ⟨go,i,none⟩ (.int .i64 x))) ?hg ?ho ?hn ?hr ?_;(case ho => rfl);(case hg => rfl);(case hn => rfl);(case hr => first | (go_simp;done) | (go_simp;rfl));intro w8 hw;have n0_ := Aside0.mk (hw.symm ▸ HP7.1 : Kd.R (Kd.int .i64) 2 w8 base ok (.slice (some ⟨go,0,none⟩) xs.length c0) (ys.set i x));have n1_ := Aside0.mk (hw.symm ▸ HB.out.setCell GB.out _ : Below base w w8);clear HP7 HO HB hw hxi hfi;have HO := n0_;have HB := n1_;clear n0_ n1_))
     go_roundg (xs.length - (j + 1))
     case measure => have := HV.out;have := HLT.out;omega
     case rel =>
      have hv := HV.out
      have hlt := HLT.out
      have hn := HN.out
      have hi_ : wrap64 ((i : Int) + 1) = ((i + 1 : Nat) : Int) := by unfold wrap64;omega
      have hj_ : wrap64 ((j : Int) + 1) = ((j + 1 : Nat) : Int) := by unfold wrap64;omega
      refine ⟨i + 1,j + 1,ys.set i x,(by first | (rw [← hi_];done) | (rw [← hi_];rfl)),(by first | (rw [← hj_];done) | (rw [← hj_];rfl)),⟨by omega,by omega,by omega,by rw [List.length_set];omega,?_,?_⟩,HO,HB⟩
      ·rw [List.take_add_one,List.take_set_of_le (Nat.le_refl i),List.getElem?_set_self (by omega),hv.2.2.2.2.1,List.take_add_one,HX.out,List.filter_append]
       simp [HP.out]
      ·rw [List.drop_set_of_lt (by omega),show j + 1 = j + 1 from rfl,← List.drop_drop,hv.2.2.2.2.2,List.drop_drop]
    ·rw [hp] at hcall
     have HC := Aside0.mk hcall
     have HX := Aside0.mk hx
     have HLT := Aside0.mk hlt
     have HP := Aside0.mk hp
     clear hcall hx hyx hm hry v1 v2 v3 v4 v5 v6 hlt hp
     go_wp2_with (first | ((with_reducible refine gate_dst (N := 28) rfl ?_);refine goesV_ (some 28) rfl rfl f cap HF.out #[.int .i64 x] rfl rfl (by (try simp only [List.map_toArray,List.map_cons,List.map_nil]);first | done | rfl) ?_;(with_reducible refine HC.out.mono ?_);rintro e w2 ⟨rfl,⟨nd,hnd⟩⟩;refine ⟨_,rfl,?_⟩;have n0_ := Aside0.mk (hnd.symm ▸ Kd.R_drewN HO.out nd : Kd.R (Kd.int .i64) 2 w2 base ok (.slice (some ⟨go,0,none⟩) xs.length c0) ys);have n1_ := Aside0.mk (hnd.symm ▸ (by repeat (first | exact HB.out | apply pw_below_drewN) : Below base w (wr.drewN nd)) : Below base w w2);clear HO HB hnd hxj hfj;have HO := n0_;have HB := n1_;clear n0_ n1_))
     go_roundg (xs.length - (j + 1))
     case measure => have := HV.out;have := HLT.out;omega
     case rel =>
      have hv := HV.out
      have hlt := HLT.out
      have hn := HN.out
      have hj_ : wrap64 ((j : Int) + 1) = ((j + 1 : Nat) : Int) := by unfold wrap64;omega
      refine ⟨i,j + 1,ys,rfl,(by first | (rw [← hj_];done) | (rw [← hj_];rfl)),⟨by omega,by omega,by omega,by omega,?_,?_⟩,HO,HB⟩
      ·rw [hv.2.2.2.2.1,List.take_add_one,HX.out,List.filter_append]
       simp [HP.out]
      ·rw [← List.drop_drop,hv.2.2.2.2.2,List.drop_drop]
   ·have hjn : decide ((j : Int) < (xs.length : Int)) = false := decide_eq_false (by omega)
    have hcl : ∀ ty,(Builtin.clear_ #[29] ty #[.slice (some ⟨go,i,none⟩) (xs.length - i) (c0 - i)]).run Try.prog wr = .ok (.tuple #[]) (wr.setCells go i (List.replicate (xs.length - i) (.int .i64 0))) :=
     fun ty => Go.Lib.run_clear_slice wr _ _ ty _ Try.underlying29 (fun _ => rfl) rfl rfl go i _ _ (by omega)
      (fun t ht => by have h := (Kd.R_celln (0 : Int) HO.out ((i + t : Nat) : Int) (by omega) (by omega)).1;rw [Int.toNat_natCast] at h;rw [h];rfl)
      (fun t ht => by have h := (Kd.R_celln (0 : Int) HO.out ((i + t : Nat) : Int) (by omega) (by omega)).2;rw [Int.toNat_natCast] at h;exact h)
    obtain ⟨zs,z1,z2,z3,z4⟩ := R_zeros GB.out (xs.length - i) i wr ys HO.out
    have hz : zs.take i = xs.filter (fun x => !p x) := by rw [z2,v5,List.take_of_length_le (by omega)]
    have Z3 := Aside0.mk z3
    have Z4 := Aside0.mk z4
    have HZ := Aside0.mk hz
    have Z1 := Aside0.mk z1
    have hi0 : (0 ≤ (i : Int)) = True := eq_true (by omega)
    have hin : i ≤ xs.length := by omega
    have hcap := (Kd.R_reads' HO.out).2.1
    have hic : i ≤ c0 := by omega
    have hnc : ¬ (c0 = i) := by omega
    have hnc2 : ¬ (i = c0) := by omega
    have hnc3 : ¬ (c0 - i = 0) := by omega
    have hnl : ¬ (xs.length = i) := by omega
    clear z1 z2 z3 z4 hz v1 v2 v3 v4 v5 v6
    go_wp2
    go_ret
    rw [← HZ.out]
    exact ⟨_,rfl,Kd.R_take Z3.out (by have := Z1.out;have := HV.out;omega),HB.out.trans Z4.out⟩
theorem C_none {c : Nat} {w : World} {n : Nat} {xs : List Int} (h : Kd.C (Kd.int .i64) w none n xs) (hn : n = xs.length) : xs = [] := by
 cases xs with
 | nil => rfl
 | cons x r =>
  subst hn
  obtain ⟨ad,e,_⟩ := Kd.at_int h 0 (by omega) (by simp only [List.length_cons];omega)
  cases e
theorem Clone.calls (A0 : Option Addr) (c0 : Nat) (l0 : List Int) (w : World) (hr0 : Kd.C (Kd.int .i64) w A0 l0.length l0) (hc0 : l0.length ≤ c0) (hl : l0.length < 17592186044416) :
 Calls Try.prog 38 #[.slice A0 l0.length c0] w fun e w' => ∃ v0_ : Value,e = .returned (v0_) ∧ Kd.R (Kd.int .i64) 2 w' w.heap.size (fun _ => True) v0_ l0 ∧ Below w.heap.size w w' := by
 have HR0 := Aside0.mk hr0
 have HC0 := Aside0.mk hc0
 have LMc2 := Aside0.mk hl
 clear hr0 hc0 hl
 have HB := Aside0.mk (Below.refl w.heap.size w)
 have q22 : ∀ (w : World) (a : Option Addr) (n c n' c' : Nat),(binOp .eql 29 (.slice a n c) (.slice none n' c')).run Try.prog w = .ok (.bool a.isNone) w := fun w a n c n' c' => Go.Lib.run_eql_slice_nil w _ _ a n c n' c' Try.underlying29
 cases A0 with
 | none =>
  have e := C_none (c := c0) HR0.out rfl
  subst e
  go_enter Try.func38,Try.ntmps38
  go_wp2
  go_ret
  exact ⟨_,rfl,Kd.R_nil _ _ _ _ _,HB.out⟩
 | some ad =>
  obtain ⟨y119,hy119⟩ : ∃ y_ : List Int,y_ = (([] : List Int) ++ l0) := ⟨_,rfl⟩
  have Ny119 := Aside0.mk hy119
  clear hy119
  go_enter Try.func38,Try.ntmps38
  go_wp2_with (first | ((with_reducible refine gate_dst (N := 5) rfl ?_);refine Kd.R_lit (Kd.int .i64) _ 2 ?hg (N := 5) ?hd (xs := ([] : List Int)) (inner := []) (ok := fun _ => True) (okp := fun _ => True) ?hr ?hp (fun _ hk => hk) trivial (Below.refl _ _) (Nat.le_refl _) (by simp) ?_;(case hd => rfl);(case hg => rfl);(case hr => first | (go_simp;done) | (go_simp;rfl));(case hp => exact (Reps.none _ _));intro v117 w3 ho4 hb hg_ hnew_;clear hg_ hnew_;(try simp only [Int.reduceToNat] at ho4);have n0_ := Aside0.mk (Kd.R_lower ho4 (below_size HB.out));have n1_ := Aside0.mk (below_step HB.out hb);clear HB;have HO118 := n0_;have HB := n1_;clear n0_ n1_;clear hb ho4) | ((with_reducible refine gate_builtin (b := .append) (xs := #[.tmp 5,.tmp 6]) rfl ?_);at_builtin;refine Kd.R_append_rows (Kd.int .i64) (w0 := w) w.heap.size rfl (.tmp 5) (.tmp 6) 29 2 (.int .i64 0) 8 rfl Try.underlying29 info2 rfl (by decide) (by omega) v117 ([] : List Int) l0 _ _ _ (fun _ => True) (fun _ => False) rfl rfl ?aO ?aR (fun _ _ h => h) (fun _ h => h.elim) ?aF ?aB ?aS ?aL ?_;(case aR => repeat (first | exact (Kd.C_below HR0.out HB.out) | (with_reducible refine Kd.C_alloc ?_ _) | (with_reducible refine Kd.C_drewN ?_ _) | (with_reducible refine Kd.C_drew ?_)));(case aB => exact (by repeat (first | (with_reducible first | exact HB.out | apply below_alloc | apply pw_below_drewN | apply below_drew1) | exact HB.out)));(case aF => exact (fun _ _ => trivial));(case aO => exact (by (with_reducible repeat (first | apply Kd.R_alloc | apply Kd.R_drewN | apply Kd.R_drew));exact HO118.out));(case aS => exact (below_size (by repeat (first | (with_reducible first | exact HB.out | apply below_alloc | apply pw_below_drewN | apply below_drew1) | exact HB.out))));(case aL => have := LMc2.out;simp only [List.length_nil];omega);intro v120 w5 ho hb hg hat;rw [← Ny119.out] at ho;have n0_ := Aside0.mk (hb);have n1_ := Aside0.mk (ho);clear HB;clear HO118;have HB := n0_;have HO121 := n1_;clear n0_ n1_;clear ho hb hg hat))
  go_ret
  have hN := Ny119.out
  rw [List.nil_append] at hN
  subst hN
  exact ⟨_,rfl,HO121.out,HB.out⟩
theorem below_down {b c : Nat} {w w1 : World} (h : Below c w w1) (hb : b ≤ c) : Below b w w1 := h.mono hb
theorem bestMoves1_has : HasFn 39 := ⟨_, Try.func39, by kernel_rfl, rfl⟩
theorem bestMoves1.calls (A1 : Option Addr) (c1 : Nat) (ws : List Bool) (gb : Nat) (x : Int) (w : World) (hB : w.heap[gb]? = some (.cells #[.slice A1 ws.length c1] 33 (0, 0)))
 (hr : Kd.C Kd.bool w A1 ws.length ws) (h0 : 0 ≤ x) (h1 : x < (ws.length : Int)) :
 Calls Try.prog 39 (#[.int .i64 x] ++ #[.pointer (some ⟨gb,0,none⟩)]) w fun e w' => e = .returned (.bool (rdOf false ws x)) ∧ Drawn0 w w' := by
 show Calls Try.prog 39 #[.int .i64 x,.pointer (some ⟨gb,0,none⟩)] w fun e w' => e = .returned (.bool (rdOf false ws x)) ∧ Drawn0 w w'
 have hz : w.cell? ⟨gb,0,none⟩ = some (.slice A1 ws.length c1) := (blk_cell hB 0).trans rfl;have hf := blk_frozen hB 0;have c1b := decide_eq_true h0;have c2b := decide_eq_true h1;obtain ⟨ad,e1,hx⟩ := Kd.at_bool hr x h0 h1;cases e1;clear hr hB;replace h0 := eq_true h0;replace h1 := eq_true h1;go_enter Try.func39,Try.ntmps39;go_wp2;go_ret;exact ⟨rfl,Drawn0.refl _⟩
def Zak.f (k : Nat) (g : List (List Int)) (p : Int) : Option (List Int × Int) := (ZL.f k g p).bind fun t => if t = 0 then (ZS.f k g).bind fun bt => (if 0 ≤ p then (if p < (g.length : Int) then (if (rd_L2 g p).length < 17592186044416 then (if (rd_L2 g p).all (fun q => decide (0 ≤ q) && decide (q < (bt.1.length : Int))) = true then some ((rd_L2 g p).filter (fun q => !(rdOf false bt.1 q)), 0) else none) else none) else none) else none) else some ([], t)
theorem Zak.mono : ∀ a0 a1 k, LeO (Zak.f k a0 a1) (Zak.f (k + 1) a0 a1) := by
 intro a0 a1 k;unfold Zak.f;refine LeO.bind (ZL.mono _ _ _) (fun _ => ?_);refine LeO.ite ?_ (LeO.refl _);exact LeO.bind (ZS.mono _ _) (fun _ => LeO.refl _)
theorem Zak.calls (k : Nat) (A0_0 : Option Addr) (c0_0 : Nat) (l0_0 : List (List Int)) (a1 : Int) (r1 : List Int) (r2 : Int) (w : World) (hr0_0 : Kd.C (Kd.slice 2 (Kd.int .i64)) w A0_0 l0_0.length l0_0) (hc0_0 : l0_0.length ≤ c0_0) (h : Zak.f k l0_0 a1 = some (r1, r2)) :
 Calls Try.prog 8 #[.agg #[.slice A0_0 l0_0.length c0_0],.int .i64 a1] w fun e w' => ∃ v0_ : Value,e = .returned (.tuple #[v0_,.int .i64 r2]) ∧ Kd.R (Kd.int .i64) 2 w' w.heap.size (fun _ => True) v0_ r1 ∧ Below w.heap.size w w' := by
 have hu26 := Try.underlying26;have HR0_0 := aK hr0_0;have HC0_0 := aK hc0_0;clear hr0_0 hc0_0;have HB := aK (Below.refl w.heap.size w);unfold Zak.f at h;obtain ⟨t,A20,h⟩ := Option.bind_eq_some_iff.mp h;have A2 := aK A20;clear A20
 by_cases c : t = 0
 ·subst c;rw [if_pos rfl] at h;obtain ⟨⟨bt1,bt2⟩,A30,h⟩ := Option.bind_eq_some_iff.mp h;have A3 := aK A30;clear A30
  by_cases c1 : 0 ≤ a1
  rotate_left
  ·rw [if_neg c1] at h;exact absurd h (by simp)
  rw [if_pos c1] at h
  by_cases c2 : a1 < (l0_0.length : Int)
  rotate_left
  ·rw [if_neg c2] at h;exact absurd h (by simp)
  rw [if_pos c2] at h
  by_cases c3 : (rd_L2 l0_0 a1).length < 17592186044416
  rotate_left
  ·rw [if_neg c3] at h;exact absurd h (by simp)
  rw [if_pos c3] at h
  by_cases c4 : (rd_L2 l0_0 a1).all (fun q => decide (0 ≤ q) && decide (q < (bt1.length : Int))) = true
  rotate_left
  ·rw [if_neg c4] at h;exact absurd h (by simp)
  have c4' : (rd_L2 l0_0 a1).all (fun q => decide (0 ≤ q) && decide (q < ((bt1,bt2).1.length : Int))) = true := c4;rw [if_pos c4'] at h;simp only [Option.some.injEq,Prod.mk.injEq] at h;obtain ⟨rfl,rfl⟩ := h;have hq : ∀ x ∈ rd_L2 l0_0 a1,0 ≤ x ∧ x < (bt1.length : Int) := by
   intro x hx;have := List.all_eq_true.1 c4 x hx
   simpa using this
  have HQ := aK hq;have HLr := aK c3;obtain ⟨ad,Ar,cr,e1,hx,hl,hi⟩ := at_L2 HR0_0.out a1 c1 c2;cases e1;have HRr := aK hi;have HCr := aK hl;have HXr := aK hx;clear hq c3 c4 c4' hi hl hx;replace c1 := eq_true c1;replace c2 := eq_true c2;go_enter Try.func8,Try.ntmps8
  go_wp2_with (first | ((with_reducible refine wP ?_);refine boxE 2 #[.slice (some ad) l0_0.length c0_0] 26 ?_;intro gb1 hg w2 hbox hb;have GPgb1 := aK hg;have BK := aK hbox;clear hg hbox;replace HB := aK (below_then HB.out HB.out.size hb);clear hb;have hz_gb1 : w2.cell? ⟨gb1,0,none⟩ = some (.slice (some ad) l0_0.length c0_0) := (blk_cell BK.out 0).trans rfl;have hf_gb1 := fZ BK 0) | ((with_reducible refine wP ?_);refine gT 11 Try.func33 (ZL.calls k _ _ l0_0 a1 0 _ (Kd.C_below HR0_0.out HB.out) HC0_0.out A2.out) ?_;intro w3 hb;replace HB := aK (below_then HB.out HB.out.size hb);replace BK := aK (blk_below (g := gb1) (o := .cells #[.slice (some ad) l0_0.length c0_0] 26 (0,0)) BK.out hb);clear hb;clear hz_gb1;have hz_gb1 : w3.cell? ⟨gb1,0,none⟩ = some (.slice (some ad) l0_0.length c0_0) := (blk_cell BK.out 0).trans rfl;replace hf_gb1 := fZ BK 0) | ((with_reducible refine wP ?_);refine gS 17 Try.func13 (ZS.calls k _ _ l0_0 bt1 bt2 _ (Kd.C_below HR0_0.out HB.out) HC0_0.out A3.out) ?_;rintro e w4 ⟨v4,rfl,ho,hb⟩;refine ⟨_,rfl,?_⟩;obtain ⟨Aw,cw,e_Aw⟩ := Kd.R_slice ho;subst e_Aw;have HW := aK (R_ivl ho HB.out.size);have Z3 : Aside0 (w3.heap.size ≤ w4.heap.size) := aK hb.size;replace HB := aK (below_then HB.out HB.out.size hb);replace BK := aK (blk_below (g := gb1) (o := .cells #[.slice (some ad) l0_0.length c0_0] 26 (0,0)) BK.out hb);clear hb;clear ho hz_gb1;have hz_gb1 : w4.cell? ⟨gb1,0,none⟩ = some (.slice (some ad) l0_0.length c0_0) := (blk_cell BK.out 0).trans rfl;replace hf_gb1 := fZ BK 0) | ((with_reducible refine wP ?_);refine boxE 7 #[.slice none 0 0] 33 ?_;intro gb2 hg w5 hbox hb;have GPgb2 := aK hg;have BK20 := aK hbox;clear hg hbox;have L1 : Aside0 (gb1 < w4.heap.size) := aK (blk_lt BK.out);have H4 : Aside0 (w.heap.size ≤ w4.heap.size) := aK HB.out.size;have Z4 : Aside0 (gb2 < w5.heap.size) := aK (blk_lt BK20.out);replace HB := aK (below_then HB.out HB.out.size hb);replace BK := aK (blk_below (g := gb1) (o := .cells #[.slice (some ad) l0_0.length c0_0] 26 (0,0)) BK.out hb);replace HW := aK (Kd.R_below HW.out hb);clear hb;clear hz_gb1;have hz_gb1 : w5.cell? ⟨gb1,0,none⟩ = some (.slice (some ad) l0_0.length c0_0) := (blk_cell BK.out 0).trans rfl;replace hf_gb1 := fZ BK 0;have hz_gb2 : w5.cell? ⟨gb2,0,none⟩ = some (.slice none 0 0) := (blk_cell BK20.out 0).trans rfl;have hf_gb2 := fZ BK20 0) | ((with_reducible refine gate_store (t := 33) (p := 7) rfl ?_);refine store_event (t := 33) (p := 7) (v := ?vo_w6) (w1 := (w5.setCell ⟨gb2,0,none⟩ (.slice Aw bt1.length cw))) ?hg ?ho ?hn ?hr ?_;(case ho => rfl);(case hg => rfl);(case hn => rfl);(case hr => first | (go_simp;done) | (go_simp;rfl));intro w6 hw;replace HB := aK ((by rw [hw];exact below_set (HB.out) (by have g_ := GPgb2.out;have hb_ := H4.out;omega) : Below w.heap.size w w6));replace BK := aK ((by rw [hw];exact blk_far (BK.out) (by have l1_ := L1.out;have g2_ := GPgb2.out;show gb1 ≠ gb2;omega) _ : w6.heap[gb1]? = some (.cells #[.slice (some ad) l0_0.length c0_0] 26 (0,0))));replace HW := aK (hw.symm ▸ (Kd.R_far (p := ⟨gb2,0,none⟩) (HW.out) (fun k_ h_ => by have g_ := GPgb2.out;unfold Ivl at h_;show k_ ≠ gb2;omega) _));have BK2 := aK ((by rw [hw];exact blk_put (cs := #[.slice none 0 0]) (BK20.out) 0 _ rfl : w6.heap[gb2]? = some (.cells #[.slice Aw bt1.length cw] 33 (0,0))));clear BK20 hw;clear hz_gb1;have hz_gb1 : w6.cell? ⟨gb1,0,none⟩ = some (.slice (some ad) l0_0.length c0_0) := (blk_cell BK.out 0).trans rfl;replace hf_gb1 := fZ BK 0;clear hz_gb2;have hz_gb2 : w6.cell? ⟨gb2,0,none⟩ = some (.slice Aw bt1.length cw) := (blk_cell BK2.out 0).trans rfl;replace hf_gb2 := fZ BK2 0;have hxr : w6.cell? (ad.add a1.toNat) = some (.slice Ar (rd_L2 l0_0 a1).length cr) := (HB.out.cell (World.block_lt_of_cell? w _ HXr.out)).trans HXr.out) | ((with_reducible refine wP ?_);refine gS 25 Try.func38 (Clone.calls _ _ (rd_L2 l0_0 a1) _ (Kd.C_below HRr.out HB.out) HCr.out HLr.out) ?_;rintro e w7 ⟨v7,rfl,ho,hb⟩;refine ⟨_,rfl,?_⟩;have HO := aK ho;have H6 : Aside0 (w6.heap.size ≤ w7.heap.size) := aK hb.size;have H6w : Aside0 (w.heap.size ≤ w6.heap.size) := aK HB.out.size;have HB67 := aK hb;have BK2o := BK2;have HWo := HW;replace HB := aK (below_then HB.out HB.out.size hb);replace BK := aK (blk_below (g := gb1) (o := .cells #[.slice (some ad) l0_0.length c0_0] 26 (0,0)) BK.out hb);replace BK2 := aK (blk_below (g := gb2) (o := .cells #[.slice Aw bt1.length cw] 33 (0,0)) BK2.out hb);replace HW := aK (Kd.R_below HW.out hb);clear hb;clear ho hz_gb1;have hz_gb1 : w7.cell? ⟨gb1,0,none⟩ = some (.slice (some ad) l0_0.length c0_0) := (blk_cell BK.out 0).trans rfl;replace hf_gb1 := fZ BK 0;clear hz_gb2;have hz_gb2 : w7.cell? ⟨gb2,0,none⟩ = some (.slice Aw bt1.length cw) := (blk_cell BK2.out 0).trans rfl;replace hf_gb2 := fZ BK2 0) | ((with_reducible refine wP ?_);refine goesE (some 27) Try.func37 #[v7,.func (.func 39) #[] #[.pointer (some ⟨gb2,0,none⟩)]] ?_;refine (DeleteFunc.calls _ _ (fun q => rdOf false bt1 q) bestMoves1_has w6.heap.size (fun _ => True) v7 (rd_L2 l0_0 a1) _ H6.out HO.out (by have := HLr.out;omega) (fun x hx w9 hb9 => bestMoves1.calls Aw cw bt1 gb2 x w9 ((hb9.block gb2 (blk_lt BK2o.out)).trans BK2.out) (Kd.C_below (rr HWo) (HB67.out.trans hb9)) (HQ.out x hx).1 (HQ.out x hx).2)).mono ?_;rintro e w8 ⟨v8,rfl,ho,hb⟩;refine ⟨_,rfl,?_⟩;have HO8 := aK (Kd.R_lower ho H6w.out);replace HB := aK (HB.out.trans (below_down hb H6w.out));clear hb ho))
  go_ret2;exact ⟨_,rfl,HO8.out,HB.out⟩
 ·rw [if_neg c] at h;simp only [Option.some.injEq,Prod.mk.injEq] at h;obtain ⟨rfl,rfl⟩ := h;have hne := bne_iff_ne.mpr c;have hne2 := beq_eq_false_iff_ne.mpr c;go_enter Try.func8,Try.ntmps8
  go_wp2_with ((with_reducible refine wP ?_);first | (refine boxE 2 #[.slice A0_0 l0_0.length c0_0] 26 ?_;intro gb1 hg w2 hbox hb;have GPgb1 := aK hg;have BK := aK hbox;clear hg hbox;replace HB := aK (below_then HB.out HB.out.size hb);clear hb;have hz_gb1 : w2.cell? ⟨gb1,0,none⟩ = some (.slice A0_0 l0_0.length c0_0) := (blk_cell BK.out 0).trans rfl;have hf_gb1 := fZ BK 0) | (refine gT 11 Try.func33 (ZL.calls k _ _ l0_0 a1 t _ (Kd.C_below HR0_0.out HB.out) HC0_0.out A2.out) ?_;intro w3 hb;replace HB := aK (below_then HB.out HB.out.size hb);replace BK := aK (blk_below (g := gb1) (o := .cells #[.slice A0_0 l0_0.length c0_0] 26 (0,0)) BK.out hb);clear hb;clear hz_gb1;have hz_gb1 : w3.cell? ⟨gb1,0,none⟩ = some (.slice A0_0 l0_0.length c0_0) := (blk_cell BK.out 0).trans rfl;replace hf_gb1 := fZ BK 0))
  go_ret2;exact ⟨_,rfl,Kd.R_nil _ _ _ _ _,HB.out⟩
def ZP.l0 : Nat → Int → List Int → List (List Int) → Option (List Int × Int)
 | 0,_,_,_ => none
 | k + 1,x1,x7,xqy => if 0 ≤ x1 then (if x1 < (xqy.length : Int) then (if ((rd_L2 xqy x1).length : Int) > 0 then ((Zak.f k xqy x1).bind fun bt486 => (if bt486.1.length + (rd_L2 xqy x1).length < 17592186044416 then ((some (bt486.1 ++ (rd_L2 xqy x1) : List Int)).bind fun y491 => (if 0 < (y491.length : Int) then (if x7.length < 17592186044416 then (ZP.l0 k (rd y491 0) (x7 ++ [rd y491 0]) xqy) else (none)) else (none))) else (none))) else (some (x7,0))) else (none)) else (none)
def ZP.f (k : Nat) (l0_0 : List (List Int)) (a1 : Int) : Option (List Int × Int) := (ZL.f k l0_0 a1).bind fun t481 => (if t481 = 0 then (ZP.l0 k a1 (([] : List Int)) l0_0) else (some (([] : List Int), t481)))
theorem ZP.mono_l : ∀ k, (∀ y0 y1 y2, LeO (ZP.l0 k y0 y1 y2) (ZP.l0 (k + 1) y0 y1 y2))
 | 0 => fun _ _ _ r h => by simp [ZP.l0] at h
 | k + 1 => by
  have ih0 := ZP.mono_l k
  ·intro y0 y1 y2;unfold ZP.l0;have m0 := Zak.mono;have m1 := ZL.mono;exact lO
theorem ZP.mono : ∀ a0 a1 k, LeO (ZP.f k a0 a1) (ZP.f (k + 1) a0 a1) := by
 intro a0 a1 k;have ih0 := ZP.mono_l k;unfold ZP.f;have m0 := Zak.mono;have m1 := ZL.mono;exact lO
theorem ZP.calls (k : Nat) (A0_0 : Option Addr) (c0_0 : Nat) (l0_0 : List (List Int)) (a1 : Int) (r1 : List Int) (r2 : Int) (w : World) (hr0_0 : Kd.C (Kd.slice 2 (Kd.int .i64)) w A0_0 l0_0.length l0_0) (hc0_0 : l0_0.length ≤ c0_0) (h : ZP.f k l0_0 a1 = some (r1, r2)) :
 Calls Try.prog 6 #[.agg #[.slice A0_0 l0_0.length c0_0],.int .i64 a1] w fun e w' => ∃ v0_ : Value,e = .returned (.tuple #[v0_,.int .i64 r2]) ∧ Kd.R (Kd.int .i64) 2 w' w.heap.size (fun _ => True) v0_ r1 ∧ Below w.heap.size w w' := by
 have hu26 := Try.underlying26;have HR0_0 := aK hr0_0;have HC0_0 := aK hc0_0;clear hr0_0 hc0_0;have HB := aK (Below.refl w.heap.size w);have H := h;clear h;unfold ZP.f at H;replace H := bE H;obtain ⟨t481,A3,H⟩ := H
 by_cases c4 : t481 = 0
 ·rw [if_pos c4] at H;have c4b0 := beq_iff_eq.mpr c4;have c4b1 := bne_eq_false_iff_eq.mpr c4;clear c4;obtain ⟨y482,hy482⟩ : ∃ y_ : List Int,y_ = (([] : List Int)) := ⟨_,rfl⟩;rw [← hy482] at H;have Ny482 := aK hy482;clear hy482;have H' := aK H;clear H;go_enter Try.func6,Try.ntmps6
  go_wp2_with ((with_reducible refine wP ?_);first | (refine boxE 2 #[.slice A0_0 l0_0.length c0_0] 26 ?_;intro gb480 hg w5 hbox hb;have BK480 := aK (hbox);have GW480 := aK (zG HB hg);have GE480 := aK (zG HB hg);replace HB := hB HB hb;clear hb hbox hg;have hcz6_0 := z0 BK480;have hfz6_0 := fZ BK480 0) | (refine gT 12 Try.func33 (ZL.calls k _ _ l0_0 a1 t481 _ (cB HR0_0 HB) HC0_0.out A3.out) ?_;intro w7 hb;replace BK480 := kB BK480 hb;replace HB := hB HB hb;clear hb) | (refine Kd.R_lit (Kd.int .i64) _ 2 ?hg (N := 16) ?hd (xs := ([] : List Int)) (inner := []) (ok := fun _ => True) (okp := fun _ => True) ?hr ?hp (fun _ hk => hk) trivial (Below.refl _ _) (Nat.le_refl _) (by simp) ?_;(case hd => rfl);(case hg => rfl);(case hr => first | (go_simp;done) | (go_simp;rfl));(case hp => exact (Reps.none _ _));intro v483 w8 ho9 hb hg_ hnew_;clear hg_ hnew_;(first | rw [← Ny482.out] at ho9 | (simp only [Int.reduceToNat] at ho9;rw [← Ny482.out] at ho9));have HO484 := rl ho9 HB;replace BK480 := kB BK480 hb;replace HB := hB HB hb;clear hb ho9))
  go_loopg [1,7] k (fun kq v1 v7 w' => ∃ (x1_1 : Int) (x7_1 : List Int),v1 = .int .i64 x1_1 ∧ Aside0 (ZP.l0 kq x1_1 x7_1 l0_0 = some (r1,r2)) ∧ Aside0 (kq ≤ k) ∧ Aside0 (Kd.R (Kd.int .i64) 2 w' w.heap.size (fun _ => True) v7 x7_1) ∧ Aside0 (w'.heap[gb480]? = some (.cells #[(.slice A0_0 l0_0.length c0_0)] 26 (0,0))) ∧ Aside0 (Below w.heap.size w w'))
  case atStart => exact ⟨(a1),(y482),rD,H',⟨Nat.le_refl _⟩,⟨rN HO484⟩,⟨kN BK480⟩,⟨bN HB⟩⟩
  case round =>
   clear H';clear c4b0 c4b1 hcz6_0 hfz6_0;obtain ⟨x1_1,x7_1,rfl,HA,HK1,HO_7,BK480,HB⟩ := hrel
   cases gk with
   | zero => exact absurd HA.out (by simp [ZP.l0])
   | succ k1 =>
    have H := HA.out;clear HA;simp only [ZP.l0] at H;replace H := iP H;obtain ⟨c10b0,H⟩ := H;replace H := iP H;obtain ⟨c11b0,H⟩ := H
    by_cases c12 : ((rd_L2 l0_0 x1_1).length : Int) > 0
    ·rw [if_pos c12] at H;have c12b0 := decide_eq_true c12;have c12b1 : decide (0 < (rd_L2 l0_0 x1_1).length) = true := decide_eq_true (by omega);clear c12;replace H := bE H;obtain ⟨⟨t486,t489⟩,A13,H⟩ := H;dsimp only at H;replace H := iA H;obtain ⟨LMc14,H⟩ := H;replace H := sE H;obtain ⟨y491,hy491,H⟩ := H;have Ny491 := aK hy491;clear hy491
     by_cases c15 : 0 < (y491.length : Int)
     rotate_left
     ·rw [if_neg c15] at H;exact absurd H (by simp)
     rw [if_pos c15] at H;have c15b0 := decide_eq_true c15;have c15b1 : decide (0 < y491.length) = true := decide_eq_true (by omega);clear c15;replace H := iA H;obtain ⟨LMc16,H⟩ := H;obtain ⟨y495,hy495⟩ : ∃ y_ : List Int,y_ = (x7_1 ++ [rd y491 0]) := ⟨_,rfl⟩;rw [← hy495] at H;have Ny495 := aK hy495;clear hy495;have H' := aK H;clear H;have hcz17_0 := z0 BK480;have hfz17_0 := fZ BK480 0;obtain ⟨ad485,A485_0,c485_0,rfl,-,hx485_0,HR485_0,HC485_0,p485,q485⟩ := aL HR0_0.out HB x1_1
     go_wp2_with (first | ((with_reducible refine wP ?_);refine gS 27 Try.func8 (Zak.calls k1 _ _ l0_0 x1_1 t486 t489 _ (cB HR0_0 HB) HC0_0.out A13.out) ?_;rintro e w18 ⟨v487,rfl,ho0,hb⟩;refine ⟨_,rfl,?_⟩;have HO488 := rl (rn ho0 HO_7) HB;replace HO_7 := rL HO_7 (rb ho0) hb;replace BK480 := kB BK480 hb;replace HB := hB HB hb;clear hb ho0;have hcz19_0 := z0 BK480;have hfz19_0 := fZ BK480 0;obtain ⟨ad490,A490_0,c490_0,e490,-,hx490_0,HR490_0,HC490_0,p490,q490⟩ := aL HR0_0.out HB x1_1;obtain rfl := iJ e490) | ((with_reducible refine gate_builtin (b := .append) (xs := #[.tmp 30,.tmp 35]) rfl ?_);at_builtin;refine Kd.R_append_rows (Kd.int .i64) (w0 := w) w.heap.size rfl (.tmp 30) (.tmp 35) 29 2 (.int .i64 0) 8 rfl Try.underlying29 info2 rfl (by decide) (by omega) v487 t486 (rd_L2 l0_0 x1_1) _ _ _ (fun k_ => some k_ ≠ (u7 : Value).ownBlock) (fun _ => False) rfl rfl ?aO ?aR (fun _ _ h => h) (fun _ h => h.elim) ?aF ?aB ?aS ?aL ?_;(case aR => exact cB HR490_0 HB);(case aB => exact (bN HB));(case aF => exact (fun k_ hk => Kd.fresh' (rt HO_7) k_ hk));(case aO => exact (rM (Kd.R_mono HO488.out (fun _ hk => hk.2))));(case aS => exact (below_size (bN HB)));(case aL => have := LMc14.out;omega);intro v492 w20 ho hb hg hat;rw [← Ny491.out] at ho;replace HO_7 := aK (Kd.R_after (ok := (fun _ => True)) (rN HO_7) hg hat);replace BK480 := aK (blk_grown (g := gb480) (o := .cells #[.slice (some ad485) l0_0.length c0_0] 26 (0,0)) (kN BK480) hg (Kd.R_ne HO488.out BK480.out (by decide)));replace HB := aK (hb);have HO493 := aK (ho);clear HO488;clear ho hb hg hat;obtain ⟨Ao21,co21,eo21⟩ := Kd.R_slice HO493.out;subst eo21;have p494 : 0 ≤ (0 : Int) := (by omega);have q494 : 0 < (y491.length : Int) := of_decide_eq_true (by first | (with_reducible assumption) | assumption);obtain ⟨ad494,e494,hx494_0⟩ := Kd.at_int (rr HO493) 0 p494 q494;cases e494;have qi494 : (0 < y491.length) = True := eq_true (by omega);(try rw [show ((0 : Int)).toNat = 0 from rfl] at hx494_0);(try rw [Addr.add_zero'] at hx494_0);replace p494 := eq_true p494;replace q494 := eq_true q494) | ((with_reducible refine gate_builtin (b := .append) (xs := #[.tmp 39,.tmp 41]) rfl ?_);at_builtin;refine Kd.R_append (Kd.int .i64) (w0 := w) w.heap.size rfl (.tmp 39) (.tmp 41) 29 2 (.int .i64 0) 8 rfl Try.underlying29 info2 rfl (by decide) (by omega) u7 x7_1 (rd y491 0) [.int .i64 (rd y491 0)] (fun k_ => some k_ ≠ (.slice (some ad494) y491.length co21 : Value).ownBlock) (fun _ => False) rfl rfl ?aP (fun _ hk => hk.elim) ?aF ?aO ?aB ?aS ?aL ?_;(case aP => exact rfl);(case aB => exact (bN HB));(case aF => exact (fun k_ hk => Kd.fresh' (rt HO493) k_ hk));(case aO => exact (rM (Kd.R_mono HO_7.out (fun _ hk => hk.2))));(case aS => exact (below_size (bN HB)));(case aL => have := LMc16.out;omega);intro v496 w22 ho hb hg hat;rw [← Ny495.out] at ho;replace BK480 := aK (blk_grown (g := gb480) (o := .cells #[.slice (some ad485) l0_0.length c0_0] 26 (0,0)) (kN BK480) hg (Kd.R_ne HO_7.out BK480.out (by decide)));replace HO493 := aK (Kd.R_after (ok := (fun _ => True)) (rM (Kd.R_mono HO493.out (fun _ hk => ⟨trivial,hk⟩))) hg hat);replace HB := aK (hb);have HO497 := aK (ho);clear HO_7;clear ho hb hg hat))
     go_roundg k1
     case measure => have := HK1.out;omega
     case rel => exact ⟨(rd y491 0),(y495),rD,H',o1 HK1,rW HO497,⟨kN BK480⟩,⟨bN HB⟩⟩
    ·rw [if_neg c12] at H;have c12b0 := decide_eq_false c12;have c12b1 : decide (0 < (rd_L2 l0_0 x1_1).length) = false := decide_eq_false (by omega);clear c12;simp only [Option.some.injEq,Prod.mk.injEq] at H;obtain ⟨rfl,rfl⟩ := H;have hcz23_0 := z0 BK480;have hfz23_0 := fZ BK480 0;obtain ⟨ad485,A485_0,c485_0,rfl,-,hx485_0,HR485_0,HC485_0,p485,q485⟩ := aL HR0_0.out HB x1_1;go_wp2;go_ret2;exact ⟨_,eR ⟨by (with_reducible repeat (first | apply Kd.R_alloc | apply Kd.R_drewN | apply Kd.R_drew));exact HO_7.out,(bN HB)⟩⟩
 ·rw [if_neg c4] at H;have c4b0 := beq_eq_false_iff_ne.mpr c4;have c4b1 := bne_iff_ne.mpr c4;simp only [Option.some.injEq,Prod.mk.injEq] at H;obtain ⟨rfl,rfl⟩ := H;go_enter Try.func6,Try.ntmps6
  go_wp2_with ((with_reducible refine wP ?_);first | (refine boxE 2 #[.slice A0_0 l0_0.length c0_0] 26 ?_;intro gb480 hg w24 hbox hb;have BK480 := aK (hbox);have GW480 := aK (zG HB hg);have GE480 := aK (zG HB hg);replace HB := hB HB hb;clear hb hbox hg;have hcz25_0 := z0 BK480;have hfz25_0 := fZ BK480 0) | (refine gT 12 Try.func33 (ZL.calls k _ _ l0_0 a1 t481 _ (cB HR0_0 HB) HC0_0.out A3.out) ?_;intro w26 hb;replace BK480 := kB BK480 hb;replace HB := hB HB hb;clear hb))
  go_ret2;exact ⟨_,eR ⟨by first | exact Kd.R_nil _ _ _ _ _ | exact Kd.N_nil _ _ _ _ _ | exact Kd.V_nil _ _ _ _ _ | exact Kd.Q_nil _ _ _ _ _ | exact Kd.S_nil _ _ _ _ _,(bN HB)⟩⟩
def placeOf (g : List (List Int)) (p : Int) : Int := if isGame g = true then (if (decide (0 ≤ p) && decide (p ≤ (g.length : Int) - 1)) = true then 0 else 2) else 1
theorem specPlace_ev (g : List (List Int)) (p : Int) (hl : ∀ row ∈ g, row.length < 4611686018427387904) (hg : g.length < 4611686018427387904) : Ev (fun k => ZX.f k g p) (placeOf g p) := by
 have hi := l01Is_ev g hl hg
 unfold placeOf ZX.f Zq.f
 cases h : isGame g
 ·rw [h] at hi
  rw [if_neg (by decide)]
  exact Ev.bind hi (Ev.congr (f := fun _ => some 1) (fun k => by rw [if_neg (by decide)]) (Ev.now _))
 ·rw [h] at hi
  rw [if_pos rfl]
  have hn := game_len h
  refine Ev.bind hi (Ev.congr (fun k => by rw [if_pos rfl]) (Ev.bind (Ev.now _) ?_))
  rw [l01In_eq,wrapS (by omega) (by omega)]
  refine Ev.bind (Ev.now _) ?_
  by_cases c : (decide (0 ≤ p) && decide (p ≤ (g.length : Int) - 1)) = true
  ·rw [if_pos c,if_pos c]
   exact Ev.now _
  ·rw [if_neg c,if_neg c]
   exact Ev.now _
theorem implPlace_ev (g : List (List Int)) (p : Int) (hl : ∀ row ∈ g, row.length < 4611686018427387904) (hg : g.length < 4611686018427387904) : Ev (fun k => ZL.f k g p) (placeOf g p) := by
 have hi := IsGame_ev g hl hg
 unfold ZL.f Zan.f
 refine Ev.bind hi (Ev.bind (Ev.now _) ?_)
 rw [within_eq,wrapS (by omega) (by omega)]
 refine Ev.bind (Ev.now _) ?_
 exact Ev.bind (first2_ev _ _ 1 2) (Ev.now _)
def bestOf (g : List (List Int)) (p : Int) : List Int := (g.getD p.toNat []).filter fun q => !((backs (wonOf false) false g).getD q.toNat false)
theorem best_loop (g : List (List Int)) (h : isGame g = true) (p : Nat) (row : List Int) (hr : g[p]? = some row) (d : Nat) : ∀ j : Nat, j + d = row.length →
 Ev (fun k => ZO.l0 k (backs (wonOf false) false g) (p : Int) ((row.take j).filter fun q => !((backs (wonOf false) false g).getD q.toNat false)) (j : Int) g) (row.filter fun q => !((backs (wonOf false) false g).getD q.toNat false)) := by
 have hw := game_row h hr
 have hn := game_len h
 have hp : p < g.length := (List.getElem?_eq_some_iff.1 hr).1
 have er : rd_L2 g (p : Int) = row := by rw [rdL2_nat,getD_of hr]
 have hwl : (backs (wonOf false) false g).length = g.length := by rw [backs,backAt_length]
 generalize backs (wonOf false) false g = ws at hwl
 induction d with
 | zero =>
  intro j hj
  have e : j = row.length := by omega
  subst e
  rw [List.take_length]
  refine Ev.step (f := fun _ => some _) (fun k => ?_) (Ev.now _)
  simp only [ZO.l0]
  rw [if_pos (by omega),if_pos (by omega),er,if_neg (by omega)]
 | succ d ih =>
  intro j hj
  obtain ⟨q,hjq⟩ := get_some (xs := row) (i := j) (by omega)
  have hm := hw.1 q (List.mem_of_getElem? hjq)
  have eq1 : rd row (j : Int) = q := by rw [rd_nat,getD_of hjq]
  have eq2 : rdOf false ws q = ws.getD q.toNat false := by
   obtain ⟨n,rfl⟩ : ∃ n : Nat,q = (n : Int) := ⟨q.toNat,by omega⟩
   rw [rdOf_nat,Int.toNat_natCast]
  have hx := ih (j + 1) (by omega)
  rw [List.take_add_one,hjq,List.filter_append] at hx
  have hlen : ((row.take j).filter fun q => !(ws.getD q.toNat false)).length ≤ 40 := Nat.le_trans (List.length_filter_le _ _) (by rw [List.length_take];omega)
  refine Ev.step (fun k => ?_) hx
  simp only [ZO.l0]
  rw [if_pos (by omega),if_pos (by omega),er,if_pos (by omega),if_pos (by omega),eq1,if_pos (by omega),if_pos (by omega),eq2,wrapS (i := (j : Int) + 1) (by omega) (by omega),cast_succ]
  cases hc : ws.getD q.toNat false
  ·have hf : List.filter (fun q => !ws.getD q.toNat false) (some q).toList = [q] := by
    show List.filter _ [q] = [q]
    rw [List.filter_cons,hc]
    rfl
   rw [if_neg (by decide),if_pos (by omega),hf]
  ·have hf : List.filter (fun q => !ws.getD q.toNat false) (some q).toList = [] := by
    show List.filter _ [q] = []
    rw [List.filter_cons,hc]
    rfl
   rw [if_pos rfl,hf,List.append_nil]
theorem l01Best_ev (g : List (List Int)) (h : isGame g = true) (p : Nat) (row : List Int) (hr : g[p]? = some row) : Ev (fun k => ZO.f k g (backs (wonOf false) false g) (p : Int)) (row.filter fun q => !((backs (wonOf false) false g).getD q.toNat false)) := by
 refine Ev.congr (fun k => ?_) (best_loop g h p row hr row.length 0 (by omega))
 rfl
def bests (g : List (List Int)) (p : Int) : List Int × Int := if placeOf g p = 0 then ((rd_L2 g p).filter (fun q => !((backs (wonOf false) false g).getD q.toNat false)), 0) else ([], placeOf g p)
theorem place_ok {g : List (List Int)} {p : Int} (h : placeOf g p = 0) : isGame g = true ∧ 0 ≤ p ∧ p < (g.length : Int) := by
 unfold placeOf at h
 by_cases c : isGame g = true
 ·rw [if_pos c] at h
  by_cases d : (decide (0 ≤ p) && decide (p ≤ (g.length : Int) - 1)) = true
  ·simp only [Bool.and_eq_true,decide_eq_true_eq] at d
   exact ⟨c,d.1,by omega⟩
  ·rw [if_neg d] at h
   exact absurd h (by decide)
 ·rw [if_neg c] at h
  exact absurd h (by decide)
theorem specBests_ev (g : List (List Int)) (p : Int) (hl : ∀ row ∈ g, row.length < 4611686018427387904) (hg : g.length < 4611686018427387904) : Ev (fun k => Zap.f k g p) (bests g p) := by
 have hp := specPlace_ev g p hl hg
 unfold bests Zap.f
 refine Ev.bind hp ?_
 by_cases c : placeOf g p = 0
 ·have ho := place_ok c
  obtain ⟨n,rfl⟩ : ∃ n : Nat,p = (n : Int) := ⟨p.toNat,by omega⟩
  obtain ⟨row,hr⟩ := get_some (xs := g) (i := n) (by omega)
  rw [if_pos c,show rd_L2 g (n : Int) = row by rw [rdL2_nat,getD_of hr]]
  refine Ev.congr (fun k => by rw [if_pos c]) (Ev.bind (l01Won_ev false g ho.1) ?_)
  refine Ev.bind (l01Best_ev g ho.1 n row hr) ?_
  exact Ev.now _
 ·rw [if_neg c]
  exact Ev.congr (f := fun _ => some ([],placeOf g p)) (fun k => by rw [if_neg c]) (Ev.now _)
theorem implBests_ev (g : List (List Int)) (p : Int) (hl : ∀ row ∈ g, row.length < 4611686018427387904) (hg : g.length < 4611686018427387904) : Ev (fun k => Zak.f k g p) (bests g p) := by
 have hp := implPlace_ev g p hl hg
 unfold bests Zak.f
 refine Ev.bind hp ?_
 by_cases c : placeOf g p = 0
 ·have ho := place_ok c
  have hw := implWon_ev g hl hg
  unfold wons at hw
  rw [if_pos ho.1] at hw
  obtain ⟨n,rfl⟩ : ∃ n : Nat,p = (n : Int) := ⟨p.toNat,by omega⟩
  obtain ⟨row,hr⟩ := get_some (xs := g) (i := n) (by omega)
  have hrow := game_row ho.1 hr
  rw [if_pos c,show rd_L2 g (n : Int) = row by rw [rdL2_nat,getD_of hr]]
  refine Ev.congr (fun k => by rw [if_pos c]) (Ev.bind hw (Ev.congr (f := fun _ => some (row.filter (fun q => !((backs (wonOf false) false g).getD q.toNat false)),0)) (fun k => ?_) (Ev.now _)))
  have hall : row.all (fun q => decide (0 ≤ q) && decide (q < ((backs (wonOf false) false g).length : Int))) = true := by
   rw [List.all_eq_true]
   intro q hq
   have := hrow.1 q hq
   rw [backs,backAt_length]
   simp only [Bool.and_eq_true,decide_eq_true_eq]
   omega
  rw [if_pos (by omega),if_pos ho.2.2,if_pos (by omega)]
  show (if row.all (fun q => decide (0 ≤ q) && decide (q < ((backs (wonOf false) false g).length : Int))) = true then some (row.filter (fun q => !(rdOf false (backs (wonOf false) false g) q)),0) else none) = _
  rw [if_pos hall]
  rfl
 ·rw [if_neg c]
  exact Ev.congr (f := fun _ => some ([],placeOf g p)) (fun k => by rw [if_neg c]) (Ev.now _)
theorem bests_len (g : List (List Int)) (p : Int) : (bests g p).1.length ≤ 40 := by
 unfold bests
 by_cases c : placeOf g p = 0
 ·rw [if_pos c]
  have ho := place_ok c
  obtain ⟨n,rfl⟩ : ∃ n : Nat,p = (n : Int) := ⟨p.toNat,by omega⟩
  obtain ⟨row,hr⟩ := get_some (xs := g) (i := n) (by omega)
  have hrow := game_row ho.1 hr
  rw [show rd_L2 g (n : Int) = row by rw [rdL2_nat,getD_of hr]]
  exact Nat.le_trans (List.length_filter_le _ _) hrow.2
 ·rw [if_neg c]
  simp
abbrev lostOf (g : List (List Int)) (row : List Int) : List Int := row.filter (fun q => !((backs (wonOf false) false g).getD q.toNat false))
def nextOf (g : List (List Int)) (row : List Int) : Int := (lostOf g row ++ row).headD 0
def plays (g : List (List Int)) : Nat → Nat → List Int
 | 0,_ => []
 | d + 1,p => if g.getD p [] = [] then [] else nextOf g (g.getD p []) :: plays g d (nextOf g (g.getD p [])).toNat
theorem plays_len (g : List (List Int)) : ∀ d p, (plays g d p).length ≤ d
 | 0,_ => Nat.le_refl _
 | d + 1,p => by
  unfold plays
  by_cases c : g.getD p [] = []
  ·rw [if_pos c];exact Nat.zero_le _
  ·rw [if_neg c,List.length_cons]
   have := plays_len g d (nextOf g (g.getD p [])).toNat
   omega
theorem next_mem (g : List (List Int)) {row : List Int} (h : row ≠ []) : nextOf g row ∈ row := by
 unfold nextOf
 cases hl : lostOf g row with
 | nil =>
  cases row with
  | nil => exact absurd rfl h
  | cons a t => exact List.mem_cons_self
 | cons a t =>
  have : a ∈ lostOf g row := by rw [hl];exact List.mem_cons_self
  exact (List.mem_filter.1 this).1
theorem rd_zero (xs : List Int) : rd xs 0 = xs.headD 0 := by
 cases xs <;> rfl
theorem ZaB (g : List (List Int)) (h : isGame g = true) : ∀ (d p : Nat) (acc : List Int), p < g.length → g.length - p ≤ d → acc.length + d ≤ 100 →
 Ev (fun k => ZM.l0 k (p : Int) (backs (wonOf false) false g) acc g) (acc ++ plays g d p,0)
 | 0,p,acc,hp,hd,_ => by omega
 | d + 1,p,acc,hp,hd,ha => by
  obtain ⟨row,hr⟩ := get_some hp
  have hrow := game_row h hr
  have er : rd_L2 g (p : Int) = row := by rw [rdL2_nat,getD_of hr]
  unfold plays
  rw [getD_of hr]
  by_cases c : row = []
  ·subst c
   rw [if_pos rfl,List.append_nil]
   refine Ev.step (f := fun _ => some _) (fun k => ?_) (Ev.now _)
   simp only [ZM.l0]
   rw [if_pos (by omega),if_pos (by omega),er,if_neg (by simp)]
  ·rw [if_neg c]
   have hm := next_mem g c
   have hq := hrow.1 _ hm
   have hpos : 0 < row.length := List.length_pos_iff.2 c
   have ih := ZaB g h d (nextOf g row).toNat (acc ++ [nextOf g row]) (by omega) (by omega) (by simp;omega)
   rw [show (((nextOf g row).toNat : Nat) : Int) = nextOf g row by omega,List.append_assoc] at ih
   refine Ev.step (f := fun k => (ZO.f k g (backs (wonOf false) false g) (p : Int)).bind fun t602 => (if (t602.length : Int) > 0 then (if 0 < (t602.length : Int) then (if acc.length < 17592186044416 then (ZM.l0 k (rd t602 0) (backs (wonOf false) false g) (acc ++ [rd t602 0]) g) else (none)) else (none)) else (if 0 < (row.length : Int) then (if acc.length < 17592186044416 then (ZM.l0 k (rd row 0) (backs (wonOf false) false g) (acc ++ [rd row 0]) g) else (none)) else (none)))) (fun k => ?_) ?_
   ·simp only [ZM.l0]
    rw [if_pos (by omega),if_pos (by omega),er,if_pos (by omega)]
   ·have hb : Ev (fun k => ZO.f k g (backs (wonOf false) false g) (p : Int)) (lostOf g row) := l01Best_ev g h p row hr
    have hn : nextOf g row = (lostOf g row ++ row).headD 0 := rfl
    cases hl : lostOf g row with
    | nil =>
     rw [hl] at hb
     rw [hl,List.nil_append] at hn
     refine Ev.bind hb (Ev.congr (fun k => ?_) ih)
     rw [if_neg (by simp),if_pos (by omega),if_pos (by omega),rd_zero,← hn]
    | cons a t =>
     rw [hl] at hb hn
     have hpt : (0 : Int) < ((a :: t).length : Int) := by simp only [List.length_cons];omega
     refine Ev.bind hb (Ev.congr (fun k => ?_) ih)
     rw [if_pos hpt,if_pos hpt,if_pos (by omega),rd_zero]
     rw [hn]
     rfl
theorem ZaC (g : List (List Int)) (h : isGame g = true) (hl : ∀ row ∈ g, row.length < 4611686018427387904) : ∀ (d p : Nat) (acc : List Int), p < g.length → g.length - p ≤ d → acc.length + d ≤ 100 →
 Ev (fun k => ZP.l0 k (p : Int) acc g) (acc ++ plays g d p,0)
 | 0,p,acc,hp,hd,_ => by omega
 | d + 1,p,acc,hp,hd,ha => by
  obtain ⟨row,hr⟩ := get_some hp
  have hrow := game_row h hr
  have hgl := game_len h
  have er : rd_L2 g (p : Int) = row := by rw [rdL2_nat,getD_of hr]
  unfold plays
  rw [getD_of hr]
  by_cases c : row = []
  ·subst c
   rw [if_pos rfl,List.append_nil]
   refine Ev.step (f := fun _ => some _) (fun k => ?_) (Ev.now _)
   simp only [ZP.l0]
   rw [if_pos (by omega),if_pos (by omega),er,if_neg (by simp)]
  ·rw [if_neg c]
   have hm := next_mem g c
   have hq := hrow.1 _ hm
   have hpos : 0 < row.length := List.length_pos_iff.2 c
   have ih := ZaC g h hl d (nextOf g row).toNat (acc ++ [nextOf g row]) (by omega) (by omega) (by simp;omega)
   rw [show (((nextOf g row).toNat : Nat) : Int) = nextOf g row by omega,List.append_assoc] at ih
   have hb := implBests_ev g (p : Int) hl (by omega)
   have e1 : bests g (p : Int) = (lostOf g row,0) := by
    have hz : placeOf g (p : Int) = 0 := by
     unfold placeOf
     rw [if_pos h,if_pos (by simp;omega)]
    unfold bests
    rw [if_pos hz,er]
   rw [e1] at hb
   have hlen : (lostOf g row).length ≤ row.length := List.length_filter_le _ _
   refine Ev.step (f := fun k => (Zak.f k g (p : Int)).bind fun bt620 => (if bt620.1.length + row.length < 17592186044416 then ((some (bt620.1 ++ row : List Int)).bind fun y625 => (if 0 < (y625.length : Int) then (if acc.length < 17592186044416 then (ZP.l0 k (rd y625 0) (acc ++ [rd y625 0]) g) else (none)) else (none))) else (none))) (fun k => ?_) ?_
   ·simp only [ZP.l0]
    rw [if_pos (by omega),if_pos (by omega),er,if_pos (by omega)]
   ·refine Ev.bind hb ?_
    refine Ev.congr (fun k => ?_) ih
    show (if (lostOf g row).length + row.length < 17592186044416 then ((some (lostOf g row ++ row : List Int)).bind fun y625 => (if 0 < (y625.length : Int) then (if acc.length < 17592186044416 then (ZP.l0 k (rd y625 0) (acc ++ [rd y625 0]) g) else (none)) else (none))) else (none)) = _
    have hr2 := hrow.2
    rw [if_pos (by omega),Option.bind_some,if_pos (by simp;omega),if_pos (by omega),rd_zero]
    rfl
def playsOf (g : List (List Int)) (p : Int) : List Int × Int := if placeOf g p = 0 then (plays g g.length p.toNat, 0) else ([], placeOf g p)
theorem specPlay_ev (g : List (List Int)) (p : Int) (hl : ∀ row ∈ g, row.length < 4611686018427387904) (hg : g.length < 4611686018427387904) : Ev (fun k => ZM.f k g p) (playsOf g p) := by
 have hp := specPlace_ev g p hl hg
 unfold playsOf ZM.f
 refine Ev.bind hp ?_
 by_cases c : placeOf g p = 0
 ·have ho := place_ok c
  have hgl := game_len ho.1
  obtain ⟨n,rfl⟩ : ∃ n : Nat,p = (n : Int) := ⟨p.toNat,by omega⟩
  rw [if_pos c]
  refine Ev.congr (fun k => by rw [if_pos c]) (Ev.bind (l01Won_ev false g ho.1) ?_)
  have := ZaB g ho.1 g.length n [] (by omega) (by omega) (by simp;omega)
  rw [List.nil_append] at this
  exact this
 ·rw [if_neg c]
  exact Ev.congr (f := fun _ => some ([],placeOf g p)) (fun k => by rw [if_neg c]) (Ev.now _)
theorem implPlay_ev (g : List (List Int)) (p : Int) (hl : ∀ row ∈ g, row.length < 4611686018427387904) (hg : g.length < 4611686018427387904) : Ev (fun k => ZP.f k g p) (playsOf g p) := by
 have hp := implPlace_ev g p hl hg
 unfold playsOf ZP.f
 refine Ev.bind hp ?_
 by_cases c : placeOf g p = 0
 ·have ho := place_ok c
  have hgl := game_len ho.1
  obtain ⟨n,rfl⟩ : ∃ n : Nat,p = (n : Int) := ⟨p.toNat,by omega⟩
  rw [if_pos c]
  refine Ev.congr (fun k => by rw [if_pos c]) ?_
  have := ZaC g ho.1 hl g.length n [] (by omega) (by omega) (by simp;omega)
  rw [List.nil_append] at this
  exact this
 ·rw [if_neg c]
  exact Ev.congr (f := fun _ => some ([],placeOf g p)) (fun k => by rw [if_neg c]) (Ev.now _)
theorem plays_le (g : List (List Int)) (p : Int) : (playsOf g p).1.length ≤ 40 := by
 unfold playsOf
 by_cases c : placeOf g p = 0
 ·rw [if_pos c]
  have ho := place_ok c
  have hgl := game_len ho.1
  exact Nat.le_trans (plays_len g _ _) (by omega)
 ·rw [if_neg c]
  simp
end Go.Proofs.Ytfpoppidppoeoaa.PX
