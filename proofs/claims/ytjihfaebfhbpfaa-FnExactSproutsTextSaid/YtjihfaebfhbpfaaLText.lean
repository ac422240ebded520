/- The text of a sprouts position: both sides (no condition but sizes that fit). -/
import Derived.Test.YtjihfaebfhbpfaaPXx0
import Derived.Test.YtjihfaebfhbpfaaPXx8
import Derived.Test.YtjihfaebfhbpfaaPXx10
import Derived.Test.YtjihfaebfhbpfaaLDegB
import Derived.Test.YtjihfaebfhbpfaaLG3
import Derived.Test.YtjihfaebfhbpfaaGJoin
namespace Go.Proofs.Ytjihfaebfhbpfaa.PX
open Go.RowKit Go.Proofs.YtjihfaebfhbpfaaW.PrintWords Go.Proofs.YtjihfaebfhbpfaaW.PrintLast Go.Proofs.YtjihfaebfhbpfaaW.PrintMore
attribute [local go_sem] max2_int min2_int max_two min_two max_three min_three max_four min_four
set_option linter.unusedVariables false
set_option linter.unusedSimpArgs false
def u8 (n : Int) : UInt8 := UInt8.ofNat n.toNat
def wordOf (b : List Int) : List Int := b.map (fun s => (wrap64 (97 + s)) % 256)
def flat (s : Int) : Nat → List (List Int) → List Int
  | _, [] => []
  | j, w :: t => (if j = 0 then [] else [s]) ++ w ++ flat s (j + 1) t
def txt (g : List (List Int)) : List Int := flat 44 0 (g.map wordOf)
theorem flat_len (s : Int) : ∀ (ws : List (List Int)) (j : Nat), (flat s j ws).length ≤ ws.length + ws.flatten.length
  | [], j => by simp [flat]
  | w :: t, j => by
    have ih := flat_len s t (j + 1)
    have h : (if j = 0 then ([] : List Int) else [s]).length ≤ 1 := by split <;> simp
    simp only [flat, List.length_append, List.flatten_cons, List.length_cons]
    omega
theorem words_total : ∀ g : List (List Int), ((g.map wordOf).flatten.length : Int) = total g
  | [] => rfl
  | b :: t => by
    have ih := words_total t
    simp only [List.map_cons, List.flatten_cons, List.length_append, total, wordOf, List.length_map] at ih ⊢
    omega
theorem txt_len {g : List (List Int)} (h1 : g.length ≤ 1048576) (h2 : total g ≤ 1048576) : (txt g).length ≤ 2097152 := by
  have a := flat_len 44 (g.map wordOf) 0
  have b := words_total g
  rw [List.length_map] at a
  unfold txt
  omega
theorem txts_len : ∀ R : List (List (List Int)), (∀ g ∈ R, g.length ≤ 1048576 ∧ total g ≤ 1048576) → (R.map txt).flatten.length ≤ R.length * 2097152
  | [], _ => by simp
  | g :: t, h => by
    have ih := txts_len t (fun g hg => h g (List.mem_cons_of_mem _ hg))
    have := txt_len (h g (List.mem_cons_self ..)).1 (h g (List.mem_cons_self ..)).2
    simp only [List.map_cons, List.flatten_cons, List.length_append, List.length_cons]
    omega
theorem tail_eq (s : UInt8) (si : Int) (hs : u8 si = s) : ∀ (t : List (List Int)) (j : Nat), Lib.joinTail [s] ((t.map strOfNums).map (·.data.toList)) = (flat si (j + 1) t).map u8
  | [], j => rfl
  | w :: t, j => by
    have ih := tail_eq s si hs t (j + 1)
    unfold Lib.joinTail at ih ⊢
    simp only [List.map_cons, List.flatten_cons, flat, List.map_append, ih]
    rw [if_neg (by omega)]
    simp only [List.map_cons, List.map_nil, hs, strOfNums_data]
    rfl
theorem join_eq (s : UInt8) (si : Int) (hs : u8 si = s) : ∀ ws : List (List Int), Lib.join ((ws.map strOfNums).map (·.data.toList)) [s] = (flat si 0 ws).map u8
  | [] => rfl
  | w :: t => by
    have h := tail_eq s si hs t 0
    simp only [List.map_cons] at h ⊢
    rw [Lib.join_cons, h, flat, if_pos rfl, List.nil_append, List.map_append, strOfNums_data]
    rfl
theorem join_f (s : UInt8) (si : Int) (hs : u8 si = s) (ws : List (List Int)) (h : ws.length + ws.flatten.length ≤ 140737488355328) : strings_Join.f (ws.map strOfNums) (⟨#[s]⟩ : ByteArray) = some (strOfNums (flat si 0 ws)) := by
  have e := join_eq s si hs ws
  have hl := flat_len si ws 0
  unfold strings_Join.f
  rw [show ((⟨#[s]⟩ : ByteArray).data.toList) = [s] from rfl, if_pos ⟨by rw [List.length_map]; omega, by rw [e, List.length_map]; omega⟩, e]
  rfl
theorem spec_l2 {n : Int} {R : List (List (List Int))} {g : List (List Int)} {b : List Int} {r j : Nat} {res : ByteArray} (hr : R[r]? = some g) (hb : g[j]? = some b) (hbl : b.length < 4611686018427387904) (hgl : g.length < 4611686018427387904) : ∀ (d i : Nat) (x : List Int), i + d = b.length → x.length + d ≤ 140737488355327 → Ev (fun k => spec_l02Text.l1 k (x ++ wordOf (b.drop i)) (r : Int) ((j + 1 : Nat) : Int) n R) res → Ev (fun k => spec_l02Text.l2 k x (r : Int) (j : Int) (i : Int) n R) res
  | 0, i, x, hd, hx, h => by
    have hrl := (List.getElem?_eq_some_iff.1 hr).1
    have hjl := (List.getElem?_eq_some_iff.1 hb).1
    rw [List.drop_of_length_le (by omega), wordOf, List.map_nil, List.append_nil] at h
    refine Ev.step (fun k => ?_) h
    rw [spec_l02Text.l2, rdL2_nat, getD_of hr, rdL1_nat, getD_of hb, if_pos (by omega), if_pos (by omega), if_pos (by omega), if_pos (by omega), if_neg (by omega), wrapS (i := (j : Int) + 1) (by omega) (by omega), cast_succ]
  | d + 1, i, x, hd, hx, h => by
    have hrl := (List.getElem?_eq_some_iff.1 hr).1
    have hjl := (List.getElem?_eq_some_iff.1 hb).1
    obtain ⟨s, hs⟩ := get_some (xs := b) (i := i) (by omega)
    have ih := spec_l2 (n := n) (res := res) hr hb hbl hgl d (i + 1) (x ++ [(wrap64 (97 + s)) % 256]) (by omega) (by rw [List.length_append, List.length_singleton]; omega) (by
      rw [drop_of hs] at h
      unfold wordOf at h ⊢
      rw [List.map_cons] at h
      rw [List.append_assoc]
      exact h)
    refine Ev.step (fun k => ?_) ih
    rw [spec_l02Text.l2, rdL2_nat, getD_of hr, rdL1_nat, getD_of hb, if_pos (by omega), if_pos (by omega), if_pos (by omega), if_pos (by omega), if_pos (by omega), if_pos (by omega), if_pos (by omega), rd_nat, getD_of hs, wrapS (i := (i : Int) + 1) (by omega) (by omega), cast_succ]
theorem spec_l1 {n : Int} {R : List (List (List Int))} {g : List (List Int)} {r : Nat} {res : ByteArray} (hr : R[r]? = some g) (hRl : R.length < 4611686018427387904) (hgl : g.length < 4611686018427387904) (hbl : ∀ b ∈ g, b.length < 4611686018427387904) : ∀ (d j : Nat) (x : List Int), j + d = g.length → x.length + (flat 44 j ((g.drop j).map wordOf)).length ≤ 140737488355327 → Ev (fun k => spec_l02Text.l0 k (x ++ flat 44 j ((g.drop j).map wordOf)) ((r + 1 : Nat) : Int) n R) res → Ev (fun k => spec_l02Text.l1 k x (r : Int) (j : Int) n R) res
  | 0, j, x, hd, hx, h => by
    have hrl := (List.getElem?_eq_some_iff.1 hr).1
    rw [List.drop_of_length_le (by omega), List.map_nil, flat, List.append_nil] at h
    refine Ev.step (fun k => ?_) h
    rw [spec_l02Text.l1, rdL2_nat, getD_of hr, if_pos (by omega), if_pos (by omega), if_neg (by omega), wrapS (i := (r : Int) + 1) (by omega) (by omega), cast_succ]
  | d + 1, j, x, hd, hx, h => by
    have hrl := (List.getElem?_eq_some_iff.1 hr).1
    obtain ⟨b, hb⟩ := get_some (xs := g) (i := j) (by omega)
    have hwl : (wordOf b).length = b.length := by unfold wordOf; rw [List.length_map]
    rw [drop_of hb, List.map_cons, flat] at h hx
    simp only [List.length_append] at hx
    have ih := spec_l1 (n := n) (res := res) hr hRl hgl hbl d (j + 1) (x ++ (if j = 0 then [] else [44]) ++ wordOf b) (by omega) (by simp only [List.length_append]; omega) (by simpa only [List.append_assoc] using h)
    have h2 := spec_l2 (n := n) (res := res) hr hb (hbl b (List.mem_of_getElem? hb)) hgl b.length 0 (x ++ (if j = 0 then [] else [44])) (by omega) (by simp only [List.length_append]; omega) (by rw [List.drop_zero]; exact ih)
    have h3 : Ev (fun k => spec_l02Text.j3 k (x ++ (if j = 0 then [] else [44])) (r : Int) (j : Int) n R) res := Ev.step (fun k => by rw [spec_l02Text.j3]; rfl) h2
    refine Ev.step (fun k => ?_) h3
    rw [spec_l02Text.l1, rdL2_nat, getD_of hr, if_pos (by omega), if_pos (by omega), if_pos (by omega)]
    by_cases c : j = 0
    · rw [if_neg (by omega), if_pos c, List.append_nil]
    · rw [if_pos (by omega), if_neg c, if_pos (by omega)]
theorem spec_l0 {n : Int} {R : List (List (List Int))} (hRl : R.length < 4611686018427387904) (hR : ∀ g ∈ R, g.length < 4611686018427387904 ∧ ∀ b ∈ g, b.length < 4611686018427387904) : ∀ (d r : Nat) (x : List Int), r + d = R.length → x.length + (flat 47 r ((R.drop r).map txt)).length ≤ 140737488355327 → Ev (fun k => spec_l02Text.l0 k x (r : Int) n R) (strOfNums (x ++ flat 47 r ((R.drop r).map txt)))
  | 0, r, x, hd, hx => by
    rw [List.drop_of_length_le (by omega), List.map_nil, flat, List.append_nil]
    refine Ev.step (f := fun _ => some (strOfNums x)) (fun k => ?_) (Ev.now _)
    rw [spec_l02Text.l0, if_neg (by omega)]
  | d + 1, r, x, hd, hx => by
    obtain ⟨g, hg⟩ := get_some (xs := R) (i := r) (by omega)
    have hm := hR g (List.mem_of_getElem? hg)
    rw [drop_of hg, List.map_cons, flat] at hx ⊢
    simp only [List.length_append] at hx
    have ih := spec_l0 (n := n) hRl hR d (r + 1) (x ++ (if r = 0 then [] else [47]) ++ txt g) (by omega) (by simp only [List.length_append]; omega)
    rw [show x ++ (if r = 0 then ([] : List Int) else [47]) ++ txt g ++ flat 47 (r + 1) ((R.drop (r + 1)).map txt) = x ++ ((if r = 0 then ([] : List Int) else [47]) ++ txt g ++ flat 47 (r + 1) ((R.drop (r + 1)).map txt)) from by simp only [List.append_assoc]] at ih
    have h2 := spec_l1 (n := n) hg hRl hm.1 hm.2 g.length 0 (x ++ (if r = 0 then [] else [47])) (by omega) (by rw [List.drop_zero]; show _ + (txt g).length ≤ _; simp only [List.length_append]; omega) (by rw [List.drop_zero]; exact ih)
    have h3 : Ev (fun k => spec_l02Text.j1 k (x ++ (if r = 0 then [] else [47])) (r : Int) n R) _ := Ev.step (fun k => by rw [spec_l02Text.j1]; rfl) h2
    refine Ev.step (fun k => ?_) h3
    rw [spec_l02Text.l0, if_pos (by omega)]
    by_cases c : r = 0
    · rw [if_neg (by omega), if_pos c, List.append_nil]
    · rw [if_pos (by omega), if_neg c, if_pos (by omega)]
theorem impl_l2 {x4 x7 : List ByteArray} {R : List (List (List Int))} {n0 rr : Int} {g : List (List Int)} {gl : Int} {b : List Int} {j : Nat} {res : ByteArray × Int} (hbl : b.length < 140737488355328) (hj : j < 4611686018427387904) (h7 : x7.length < 8796093022208) : ∀ (d i : Nat) (x : List Int), i + d = b.length → x.length + d ≤ 140737488355327 → Ev (fun k => impl_SproutsText.l1 k x4 (x7 ++ [strOfNums (x ++ wordOf (b.drop i))]) R n0 rr g gl ((j + 1 : Nat) : Int)) res → Ev (fun k => impl_SproutsText.l2 k x4 x7 x R n0 rr g gl (j : Int) b (b.length : Int) (i : Int)) res
  | 0, i, x, hd, hx, h => by
    rw [List.drop_of_length_le (by omega), wordOf, List.map_nil, List.append_nil] at h
    refine Ev.step (fun k => ?_) h
    rw [impl_SproutsText.l2, if_neg (by omega), if_pos h7, wrapS (i := (j : Int) + 1) (by omega) (by omega), cast_succ]
  | d + 1, i, x, hd, hx, h => by
    obtain ⟨s, hs⟩ := get_some (xs := b) (i := i) (by omega)
    have ih := impl_l2 (x4 := x4) (R := R) (n0 := n0) (rr := rr) (g := g) (gl := gl) (res := res) hbl hj h7 d (i + 1) (x ++ [(wrap64 (97 + s)) % 256]) (by omega) (by rw [List.length_append, List.length_singleton]; omega) (by
      rw [drop_of hs] at h
      unfold wordOf at h ⊢
      rw [List.map_cons] at h
      rw [List.append_assoc]
      exact h)
    refine Ev.step (fun k => ?_) ih
    rw [impl_SproutsText.l2, if_pos (by omega), if_pos (by omega), if_pos (by omega), if_pos (by omega), rd_nat, getD_of hs, wrapS (i := (i : Int) + 1) (by omega) (by omega), cast_succ]
theorem impl_l1 {x4 : List ByteArray} {R : List (List (List Int))} {n0 : Int} {r : Nat} {g : List (List Int)} {res : ByteArray × Int} (h4 : x4.length < 8796093022208) (hrl : r < 4611686018427387904) (h1 : g.length ≤ 1048576) (h2 : total g ≤ 1048576) (h : Ev (fun k => impl_SproutsText.l0 k (x4 ++ [strOfNums (txt g)]) R n0 ((r + 1 : Nat) : Int)) res) : ∀ (d j : Nat), j + d = g.length → Ev (fun k => impl_SproutsText.l1 k x4 (((g.take j).map wordOf).map strOfNums) R n0 (r : Int) g (g.length : Int) (j : Int)) res
  | 0, j, hd => by
    have e := join_f 44 44 rfl (g.map wordOf) (by have := words_total g; rw [List.length_map]; omega)
    refine Ev.step (fun k => ?_) h
    rw [impl_SproutsText.l1, if_neg (by omega), List.take_of_length_le (by omega), e, Option.bind_some, if_pos h4, wrapS (i := (r : Int) + 1) (by omega) (by omega), cast_succ]
    rfl
  | d + 1, j, hd => by
    obtain ⟨b, hb⟩ := get_some (xs := g) (i := j) (by omega)
    have hbl := total_mem (List.mem_of_getElem? hb)
    have ih := impl_l1 (R := R) (n0 := n0) h4 hrl h1 h2 h d (j + 1) (by omega)
    rw [List.take_add_one, hb, List.map_append, List.map_append] at ih
    have h3 := impl_l2 (x4 := x4) (x7 := ((g.take j).map wordOf).map strOfNums) (R := R) (n0 := n0) (rr := (r : Int)) (g := g) (gl := (g.length : Int)) (b := b) (j := j) (res := res) (by omega) (by omega) (by rw [List.length_map, List.length_map, List.length_take]; omega) b.length 0 [] (by omega) (by simp only [List.length_nil]; omega) (by rw [List.drop_zero]; exact ih)
    refine Ev.step (fun k => ?_) h3
    rw [impl_SproutsText.l1, if_pos (by omega), if_pos (by omega), if_pos (by omega), rdL1_nat, getD_of hb]
    rfl
theorem impl_l0 {R : List (List (List Int))} (hRl : R.length ≤ 1048576) (hR : ∀ g ∈ R, g.length ≤ 1048576 ∧ total g ≤ 1048576) : ∀ (d r : Nat), r + d = R.length → Ev (fun k => impl_SproutsText.l0 k (((R.take r).map txt).map strOfNums) R (R.length : Int) (r : Int)) (strOfNums (flat 47 0 (R.map txt)), 0)
  | 0, r, hd => by
    have e := join_f 47 47 rfl (R.map txt) (by have := txts_len R hR; rw [List.length_map]; omega)
    refine Ev.step (f := fun _ => some _) (fun k => ?_) (Ev.now _)
    rw [impl_SproutsText.l0, if_neg (by omega), List.take_of_length_le (by omega), e, Option.bind_some]
  | d + 1, r, hd => by
    obtain ⟨g, hg⟩ := get_some (xs := R) (i := r) (by omega)
    have hm := hR g (List.mem_of_getElem? hg)
    have ih := impl_l0 hRl hR d (r + 1) (by omega)
    rw [List.take_add_one, hg, List.map_append, List.map_append] at ih
    have h3 := impl_l1 (x4 := ((R.take r).map txt).map strOfNums) (R := R) (n0 := (R.length : Int)) (r := r) (g := g) (by rw [List.length_map, List.length_map, List.length_take]; omega) (by omega) hm.1 hm.2 ih g.length 0 (by omega)
    refine Ev.step (fun k => ?_) h3
    rw [impl_SproutsText.l0, if_pos (by omega), if_pos (by omega), if_pos (by omega), rdL2_nat, getD_of hg]
    rfl
def textOf (n : Int) (R : List (List (List Int))) : ByteArray × Int := if (pairOf (degOf n R)).2 = true then (strOfNums (flat 47 0 (R.map txt)), 0) else ((⟨#[]⟩ : ByteArray), 1)
theorem specText_ev {n : Int} {R : List (List (List Int))} (hRl : R.length ≤ 1048576) (hR : ∀ g ∈ R, g.length ≤ 1048576 ∧ total g ≤ 1048576) (hS : Ev (fun k => spec_l02Degrees.f k n R) (pairOf (degOf n R))) : Ev (fun k => spec_SproutsText.f k n R) (textOf n R) := by
  unfold spec_SproutsText.f spec_l02Is.f textOf
  refine Ev.bind (Ev.bind hS (Ev.now _)) ?_
  by_cases c : (pairOf (degOf n R)).2 = true
  · have h := spec_l0 (n := n) (R := R) (by omega) (fun g hg => ⟨by have := (hR g hg).1; omega, fun b hb => by have := total_mem hb; have := (hR g hg).2; omega⟩) R.length 0 [] (by omega) (by
      have := flat_len 47 (R.map txt) 0
      have := txts_len R hR
      rw [List.drop_zero, List.length_nil]
      rw [List.length_map] at *
      omega)
    rw [List.drop_zero, List.nil_append] at h
    rw [if_pos c]
    refine Ev.congr (f := fun k => (spec_l02Text.f k n R).bind fun t => some (t, 0)) (fun k => by rw [if_pos c]) (Ev.bind h (Ev.now _))
  · rw [if_neg c]
    exact Ev.congr (f := fun _ => some _) (fun k => by rw [if_neg c]) (Ev.now _)
theorem implText_ev {n : Int} {R : List (List (List Int))} (hRl : R.length ≤ 1048576) (hR : ∀ g ∈ R, g.length ≤ 1048576 ∧ total g ≤ 1048576) (hI : Ev (fun k => impl_Sprouts_degrees.f k n R) (pairOf (degOf n R))) : Ev (fun k => impl_SproutsText.f k n R) (textOf n R) := by
  unfold impl_SproutsText.f impl_IsSprouts.f textOf
  refine Ev.bind (Ev.bind hI (Ev.now _)) ?_
  by_cases c : (pairOf (degOf n R)).2 = true
  · have h := impl_l0 hRl hR R.length 0 (by omega)
    rw [if_pos c]
    exact Ev.congr (fun k => by rw [if_pos c]; rfl) h
  · rw [if_neg c]
    exact Ev.congr (f := fun _ => some _) (fun k => by rw [if_neg c]) (Ev.now _)

end Go.Proofs.Ytjihfaebfhbpfaa.PX
