/- The least of all images under two or three moves that are their own inverses (no condition). -/
import Derived.Test.YtbnkefbcnojdgaaPFnExactLeastBoxesx0
namespace Go.Proofs.Ytbnkefbcnojdgaa.Pure
open Go.RowKit Go.Proofs.Ytbnkefbcnojdgaa.PFnExactLeastBoxes Go.Proofs.YtbnkefbcnojdgaaW.PrintWords Go.Proofs.YtbnkefbcnojdgaaW.PrintLast Go.Proofs.YtbnkefbcnojdgaaW.PrintMore
set_option linter.unusedSimpArgs false
set_option linter.unusedVariables false
def mn (a x : Int) : Int := if x < a then x else a
theorem mn_fold : ∀ (L : List Int) (a : Int), (L.foldl mn a ∈ a :: L) ∧ ∀ x ∈ a :: L, L.foldl mn a ≤ x
  | [], a => by simp
  | y :: L, a => by
    obtain ⟨h1, h2⟩ := mn_fold L (mn a y)
    rw [List.foldl_cons]
    have hm : mn a y = a ∨ mn a y = y := by unfold mn; by_cases c : y < a <;> simp [c]
    have hla : mn a y ≤ a := by unfold mn; by_cases c : y < a <;> simp [c] <;> omega
    have hly : mn a y ≤ y := by unfold mn; by_cases c : y < a <;> simp [c] <;> omega
    have h3 := h2 _ List.mem_cons_self
    refine ⟨?_, ?_⟩
    · rcases List.mem_cons.1 h1 with h | h
      · rw [h]
        rcases hm with e | e
        · rw [e]; exact List.mem_cons_self
        · rw [e]; exact List.mem_cons_of_mem _ List.mem_cons_self
      · exact List.mem_cons_of_mem _ (List.mem_cons_of_mem _ h)
    · intro x hx
      rcases List.mem_cons.1 hx with h | h
      · rw [h]; omega
      · rcases List.mem_cons.1 h with h | h
        · rw [h]; omega
        · exact h2 x (List.mem_cons_of_mem _ h)
theorem mn_same {a a' : Int} {L L' : List Int} (h1 : ∀ x ∈ a :: L, x ∈ a' :: L') (h2 : ∀ x ∈ a' :: L', x ∈ a :: L) : L.foldl mn a = L'.foldl mn a' := by
  have p := mn_fold L a
  have q := mn_fold L' a'
  have e1 := q.2 _ (h1 _ p.1)
  have e2 := p.2 _ (h2 _ q.1)
  omega
theorem nodup_le : ∀ (L O : List Int), L.Nodup → (∀ x ∈ L, x ∈ O) → L.length ≤ O.length
  | [], O, _, _ => Nat.zero_le _
  | x :: L, O, hn, hs => by
    rw [List.nodup_cons] at hn
    have hx := hs x List.mem_cons_self
    have h1 := nodup_le L (O.erase x) hn.2 (fun y hy => (List.mem_erase_of_ne (fun (e : y = x) => hn.1 (by rw [← e]; exact hy))).2 (hs y (List.mem_cons_of_mem _ hy)))
    rw [List.length_erase_of_mem hx] at h1
    have := List.length_pos_of_mem hx
    rw [List.length_cons]
    omega
structure Grp (V : Int → Prop) (r : Nat → Int → Int) (k : Nat) : Prop where
  lt : ∀ t x, V x → t < k → V (r t x)
  h00 : ∀ x, V x → r 0 (r 0 x) = x
  h11 : ∀ x, V x → r 1 (r 1 x) = x
  h01 : ∀ x, V x → r 0 (r 1 x) = r 1 (r 0 x)
  h22 : k = 3 → ∀ x, V x → r 2 (r 2 x) = x
  h20 : k = 3 → ∀ x, V x → r 2 (r 0 x) = r 1 (r 2 x)
  h21 : k = 3 → ∀ x, V x → r 2 (r 1 x) = r 0 (r 2 x)
def o4 (r : Nat → Int → Int) (b : Int) : List Int := [b, r 0 b, r 1 (r 0 b), r 1 b]
def orb (r : Nat → Int → Int) (k : Nat) (b : Int) : List Int := if k = 3 then o4 r b ++ o4 r (r 2 b) else o4 r b
theorem orb_len (r : Nat → Int → Int) (k : Nat) (b : Int) : (orb r k b).length ≤ 8 := by
  unfold orb
  by_cases c : k = 3
  · rw [if_pos c]; simp [o4]
  · rw [if_neg c]; simp [o4]
theorem o4_V {V : Int → Prop} {r : Nat → Int → Int} {k : Nat} (h : Grp V r k) (hk : 2 ≤ k) {b : Int} (hb : V b) : ∀ x ∈ o4 r b, V x := by
  intro x hx
  simp only [o4, List.mem_cons, List.not_mem_nil, or_false] at hx
  rcases hx with rfl | rfl | rfl | rfl
  · exact hb
  · exact h.lt 0 b hb (by omega)
  · exact h.lt 1 _ (h.lt 0 b hb (by omega)) (by omega)
  · exact h.lt 1 b hb (by omega)
theorem o4_closed {V : Int → Prop} {r : Nat → Int → Int} {k : Nat} (h : Grp V r k) (hk : 2 ≤ k) {b : Int} (hb : V b) : ∀ x ∈ o4 r b, ∀ t, t < 2 → r t x ∈ o4 r b := by
  intro x hx t ht
  have h0b := h.lt 0 b hb (by omega)
  simp only [o4, List.mem_cons, List.not_mem_nil, or_false] at hx ⊢
  obtain rfl | rfl : t = 0 ∨ t = 1 := by omega
  · rcases hx with rfl | rfl | rfl | rfl
    · exact Or.inr (Or.inl rfl)
    · exact Or.inl (h.h00 _ hb)
    · rw [h.h01 _ h0b, h.h00 _ hb]; exact Or.inr (Or.inr (Or.inr rfl))
    · rw [h.h01 _ hb]; exact Or.inr (Or.inr (Or.inl rfl))
  · rcases hx with rfl | rfl | rfl | rfl
    · exact Or.inr (Or.inr (Or.inr rfl))
    · exact Or.inr (Or.inr (Or.inl rfl))
    · rw [h.h11 _ h0b]; exact Or.inr (Or.inl rfl)
    · rw [h.h11 _ hb]; exact Or.inl rfl
theorem o4_turn {V : Int → Prop} {r : Nat → Int → Int} (h : Grp V r 3) {b : Int} (hb : V b) : ∀ x ∈ o4 r b, r 2 x ∈ o4 r (r 2 b) := by
  intro x hx
  have h0b := h.lt 0 b hb (by omega)
  have h2b := h.lt 2 b hb (by omega)
  simp only [o4, List.mem_cons, List.not_mem_nil, or_false] at hx ⊢
  rcases hx with rfl | rfl | rfl | rfl
  · exact Or.inl rfl
  · rw [h.h20 rfl _ hb]; exact Or.inr (Or.inr (Or.inr rfl))
  · rw [h.h21 rfl _ h0b, h.h20 rfl _ hb, h.h01 _ h2b]; exact Or.inr (Or.inr (Or.inl rfl))
  · rw [h.h21 rfl _ hb]; exact Or.inr (Or.inl rfl)
theorem orb_V {V : Int → Prop} {r : Nat → Int → Int} {k : Nat} (h : Grp V r k) (hk : 2 ≤ k) {b : Int} (hb : V b) : ∀ x ∈ orb r k b, V x := by
  intro x hx
  unfold orb at hx
  by_cases c : k = 3
  · rw [if_pos c, List.mem_append] at hx
    rcases hx with hx | hx
    · exact o4_V h hk hb x hx
    · exact o4_V h hk (h.lt 2 b hb (by omega)) x hx
  · rw [if_neg c] at hx
    exact o4_V h hk hb x hx
theorem orb_closed {V : Int → Prop} {r : Nat → Int → Int} {k : Nat} (h : Grp V r k) (hk : k = 2 ∨ k = 3) {b : Int} (hb : V b) : ∀ x ∈ orb r k b, ∀ t, t < k → r t x ∈ orb r k b := by
  intro x hx t ht
  unfold orb at hx ⊢
  rcases hk with rfl | rfl
  · rw [if_neg (by decide)] at hx ⊢
    exact o4_closed h (by omega) hb x hx t ht
  · rw [if_pos rfl, List.mem_append] at hx ⊢
    have h2b := h.lt 2 b hb (by omega)
    by_cases c : t < 2
    · rcases hx with hx | hx
      · exact Or.inl (o4_closed h (by omega) hb x hx t c)
      · exact Or.inr (o4_closed h (by omega) h2b x hx t c)
    · obtain rfl : t = 2 := by omega
      rcases hx with hx | hx
      · exact Or.inr (o4_turn h hb x hx)
      · have := o4_turn h h2b x hx
        rw [h.h22 rfl _ hb] at this
        exact Or.inl this
/-- A list that holds b and is closed holds all images. -/
theorem o4_in {r : Nat → Int → Int} {b : Int} {L : List Int} (hb : b ∈ L) (hc : ∀ x ∈ L, ∀ t, t < 2 → r t x ∈ L) : ∀ x ∈ o4 r b, x ∈ L := by
  intro x hx
  simp only [o4, List.mem_cons, List.not_mem_nil, or_false] at hx
  rcases hx with rfl | rfl | rfl | rfl
  · exact hb
  · exact hc _ hb 0 (by omega)
  · exact hc _ (hc _ hb 0 (by omega)) 1 (by omega)
  · exact hc _ hb 1 (by omega)
theorem orb_in {r : Nat → Int → Int} {k : Nat} (hk : k = 2 ∨ k = 3) {b : Int} {L : List Int} (hb : b ∈ L) (hc : ∀ x ∈ L, ∀ t, t < k → r t x ∈ L) : ∀ x ∈ orb r k b, x ∈ L := by
  intro x hx
  unfold orb at hx
  rcases hk with rfl | rfl
  · rw [if_neg (by decide)] at hx
    exact o4_in hb hc x hx
  · rw [if_pos rfl, List.mem_append] at hx
    rcases hx with hx | hx
    · exact o4_in hb (fun x hx t ht => hc x hx t (by omega)) x hx
    · exact o4_in (hc _ hb 2 (by omega)) (fun x hx t ht => hc x hx t (by omega)) x hx

end Go.Proofs.Ytbnkefbcnojdgaa.Pure
