/- What the laws do with games: sizes counted, copied, compared (no condition but sizes that fit). -/
import Derived.Test.YtbiemfbdobdecaaPXx0
import Derived.Test.YtbiemfbdobdecaaPXx1
import Derived.Test.YtbiemfbdobdecaaPXx6
import Derived.Test.YtbiemfbdobdecaaPXx9
import Derived.Test.YtbiemfbdobdecaaLBase
import Derived.Test.YtbiemfbdobdecaaLI
namespace Go.Proofs.Ytbiemfbdobdecaa.PX
open Go.RowKit Go.Proofs.YtbiemfbdobdecaaW.PrintWords Go.Proofs.YtbiemfbdobdecaaW.PrintLast Go.Proofs.YtbiemfbdobdecaaW.PrintMore
attribute [local go_sem] max2_int min2_int max_two min_two max_three min_three max_four min_four
set_option linter.unusedVariables false
set_option linter.unusedSimpArgs false
def total : List (List Int) → Int
  | [] => 0
  | row :: rest => row.length + total rest
theorem total_nonneg : ∀ g : List (List Int), 0 ≤ total g
  | [] => by simp [total]
  | row :: rest => by have := total_nonneg rest; simp only [total]; omega
theorem total_mem {g : List (List Int)} {row : List Int} (h : row ∈ g) : (row.length : Int) ≤ total g := by
  induction g with
  | nil => simp at h
  | cons x rest ih =>
    simp only [total]
    have := total_nonneg rest
    rcases List.mem_cons.1 h with rfl | h
    · omega
    · have := ih h
      omega
theorem szSS_loop (g : List (List Int)) (hl : ∀ row ∈ g, row.length ≤ 9223372036854775807) (hg : g.length ≤ 1048576) (d : Nat) : ∀ (i : Nat) (a : Int), i + d = g.length → 0 ≤ a → a ≤ 1048576 →
    ∃ t, Ev (fun k => laws_szInt64SS.l0 k g a (i : Int)) t ∧ (t < 0 ∨ (0 ≤ t ∧ total (g.drop i) ≤ a ∧ t ≤ a)) := by
  induction d with
  | zero =>
    intro i a hd h0 h1
    refine ⟨a, Ev.step (f := fun _ => some a) (fun k => ?_) (Ev.now a), .inr ⟨h0, ?_⟩⟩
    · simp only [laws_szInt64SS.l0]; rw [if_neg (by omega)]
    · rw [List.drop_eq_nil_of_le (by omega)]; exact ⟨h0, Int.le_refl _⟩
  | succ d ih =>
    intro i a hd h0 h1
    obtain ⟨row, hp⟩ := get_some (xs := g) (i := i) (by omega)
    have hr : rd_L1 g (i : Int) = row := by rw [rdL1_nat]; exact getD_of hp
    have hs := szI_eq row a h0 h1 (hl row (List.mem_of_getElem? hp))
    have h2 : ∀ k, laws_szInt64SS.l0 (k + 1) g a (i : Int) = (if (if a - (row.length : Int) < 0 then -1 else a - row.length) < 0 then (some (-1)) else (laws_szInt64SS.l0 k g (if a - (row.length : Int) < 0 then -1 else a - row.length) ((i + 1 : Nat) : Int))) := fun k => by
      simp only [laws_szInt64SS.l0]
      rw [if_pos (by omega), if_pos (by omega), hr, hs, wrapS (by omega) (by omega), cast_succ]
      rfl
    rw [drop_of hp]
    simp only [total]
    by_cases c : a - (row.length : Int) < 0
    · exact ⟨-1, Ev.step (f := fun _ => some (-1)) (fun k => by rw [h2, if_pos c]; rfl) (Ev.now _), .inl (by omega)⟩
    · obtain ⟨t, ht, hor⟩ := ih (i + 1) (a - row.length) (by omega) (by omega) (by omega)
      refine ⟨t, Ev.step (fun k => by rw [h2, if_neg c, if_neg c]) ht, ?_⟩
      rcases hor with hor | hor
      · exact .inl hor
      · exact .inr ⟨hor.1, by omega, by omega⟩
/-- A game's size counted off from what is left. -/
theorem szG_evb (g : List (List Int)) (b : Int) (hb0 : 0 ≤ b) (hb : b ≤ 1048576) (hg : g.length ≤ 9223372036854775807) (hl : ∀ row ∈ g, row.length ≤ 9223372036854775807) :
    ∃ t, Ev (fun k => laws_szGame.f k g b) t ∧ (t < 0 ∨ (0 ≤ t ∧ t ≤ b ∧ g.length ≤ 1048576 ∧ total g ≤ 1048576)) := by
  by_cases c : b - g.length < 0
  · refine ⟨-1, Ev.congr (f := fun _ => some (-1)) (fun k => ?_) (Ev.now _), .inl (by omega)⟩
    unfold laws_szGame.f laws_szInt64SS.f
    rw [wrapS (by omega) (by omega), if_pos c]; rfl
  · obtain ⟨t, ht, hor⟩ := szSS_loop g hl (by omega) g.length 0 (b - g.length) (by omega) (by omega) (by omega)
    have hS : Ev (fun k => laws_szInt64SS.f k g b) t := Ev.congr (fun k => by unfold laws_szInt64SS.f; rw [wrapS (by omega) (by omega), if_neg c]; rfl) ht
    rcases hor with hor | hor
    · refine ⟨-1, ?_, .inl (by omega)⟩
      refine Ev.congr (f := fun k => (laws_szInt64SS.f k g b).bind fun t => (if t < 0 then (some (-1)) else (some t))) (fun k => rfl) (Ev.bind hS ?_)
      exact Ev.congr (f := fun _ => some (-1)) (fun k => by rw [if_pos hor]) (Ev.now _)
    · refine ⟨t, ?_, .inr ⟨hor.1, by omega, by omega, by rw [List.drop_zero] at hor; omega⟩⟩
      refine Ev.congr (f := fun k => (laws_szInt64SS.f k g b).bind fun t => (if t < 0 then (some (-1)) else (some t))) (fun k => rfl) (Ev.bind hS ?_)
      exact Ev.congr (f := fun _ => some t) (fun k => by rw [if_neg (by omega)]) (Ev.now _)
theorem szG_ev (g : List (List Int)) (hg : g.length ≤ 9223372036854775807) (hl : ∀ row ∈ g, row.length ≤ 9223372036854775807) :
    ∃ t, Ev (fun k => laws_szGame.f k g 1048576) t ∧ (t < 0 ∨ (0 ≤ t ∧ g.length ≤ 1048576 ∧ total g ≤ 1048576)) := by
  by_cases c : (1048576 : Int) - g.length < 0
  · refine ⟨-1, Ev.congr (f := fun _ => some (-1)) (fun k => ?_) (Ev.now _), .inl (by omega)⟩
    unfold laws_szGame.f laws_szInt64SS.f
    rw [wrapS (by omega) (by omega), if_pos c]; rfl
  · obtain ⟨t, ht, hor⟩ := szSS_loop g hl (by omega) g.length 0 (1048576 - g.length) (by omega) (by omega) (by omega)
    have hS : Ev (fun k => laws_szInt64SS.f k g 1048576) t := Ev.congr (fun k => by unfold laws_szInt64SS.f; rw [wrapS (by omega) (by omega), if_neg c]; rfl) ht
    rcases hor with hor | hor
    · refine ⟨-1, ?_, .inl (by omega)⟩
      refine Ev.congr (f := fun k => (laws_szInt64SS.f k g 1048576).bind fun t => (if t < 0 then (some (-1)) else (some t))) (fun k => rfl) (Ev.bind hS ?_)
      exact Ev.congr (f := fun _ => some (-1)) (fun k => by rw [if_pos hor]) (Ev.now _)
    · refine ⟨t, ?_, .inr ⟨hor.1, by omega, by rw [List.drop_zero] at hor; omega⟩⟩
      refine Ev.congr (f := fun k => (laws_szInt64SS.f k g 1048576).bind fun t => (if t < 0 then (some (-1)) else (some t))) (fun k => rfl) (Ev.bind hS ?_)
      exact Ev.congr (f := fun _ => some t) (fun k => by rw [if_neg (by omega)]) (Ev.now _)
theorem toSS_loop (g : List (List Int)) (hl : ∀ row ∈ g, row.length ≤ 1048576) (hg : g.length ≤ 1048576) (d : Nat) : ∀ i : Nat, i + d = g.length → Ev (fun k => laws_toInt64SS.l0 k g (g.take i ++ List.replicate d []) (i : Int)) g := by
  induction d with
  | zero =>
    intro i hd
    rw [List.take_of_length_le (by omega)]
    refine Ev.step (f := fun _ => some g) (fun k => ?_) (Ev.now g)
    simp only [laws_toInt64SS.l0]; rw [if_neg (by omega)]; simp
  | succ d ih =>
    intro i hd
    obtain ⟨row, hp⟩ := get_some (xs := g) (i := i) (by omega)
    have hr : rd_L1 g (i : Int) = row := by rw [rdL1_nat]; exact getD_of hp
    have hlen : (g.take i).length = i := by rw [List.length_take]; omega
    refine Ev.step (f := fun k => (laws_toInt64S.f k row).bind fun t => laws_toInt64SS.l0 k g ((g.take i ++ List.replicate (d + 1) []).set ((i : Int)).toNat t) ((i + 1 : Nat) : Int)) (fun k => ?_) (Ev.bind (toI_ev row (hl row (List.mem_of_getElem? hp))) ?_)
    · simp only [laws_toInt64SS.l0]
      rw [if_pos (by omega), if_pos (by omega), hr, wrapS (by omega) (by omega), cast_succ]
      congr 1
      funext t
      rw [if_pos (by rw [List.length_append, hlen, List.length_replicate]; omega)]
    · refine Ev.congr (fun k => ?_) (ih (i + 1) (by omega))
      have e1 : ((i : Int)).toNat = (g.take i).length := by rw [hlen]; omega
      have e : (g.take i ++ List.replicate (d + 1) []).set ((i : Int)).toNat row = g.take (i + 1) ++ List.replicate d [] := by
        rw [e1, List.set_append_right _ _ (Nat.le_refl _), Nat.sub_self, List.replicate_succ, List.set_cons_zero]
        obtain ⟨hlt, hxe⟩ := List.getElem?_eq_some_iff.1 hp
        rw [List.take_succ_eq_append_getElem hlt, hxe]
        simp
      rw [e]
theorem toG_ev (g : List (List Int)) (hg : g.length ≤ 1048576) (ht : total g ≤ 1048576) : Ev (fun k => laws_toGame.f k g) g := by
  have hl : ∀ row ∈ g, row.length ≤ 1048576 := fun row h => by have := total_mem h; omega
  have h := toSS_loop g hl hg g.length 0 (by omega)
  have hS : Ev (fun k => laws_toInt64SS.f k g) g := Ev.congr (fun k => by unfold laws_toInt64SS.f; rw [if_pos (by omega), if_pos (by omega)]; simp) h
  exact Ev.congr (f := fun k => (laws_toInt64SS.f k g).bind fun t => some t) (fun k => rfl) (Ev.bind hS (Ev.now g))
theorem eqSS_loop (g : List (List Int)) (hl : ∀ row ∈ g, row.length < 4611686018427387904) (hg : g.length < 4611686018427387904) (d : Nat) : ∀ i : Nat, i + d = g.length → Ev (fun k => laws_eqInt64SS.l0 k g g (i : Int)) true := by
  induction d with
  | zero =>
    intro i hd
    refine Ev.step (f := fun _ => some true) (fun k => ?_) (Ev.now true)
    simp only [laws_eqInt64SS.l0]; rw [if_neg (by omega)]
  | succ d ih =>
    intro i hd
    obtain ⟨row, hp⟩ := get_some (xs := g) (i := i) (by omega)
    have hr : rd_L1 g (i : Int) = row := by rw [rdL1_nat]; exact getD_of hp
    refine Ev.step (f := fun k => (laws_eqInt64S.f k row row).bind fun t => if t = true then laws_eqInt64SS.l0 k g g ((i + 1 : Nat) : Int) else some false) (fun k => ?_) (Ev.bind (eqI_ev row (hl row (List.mem_of_getElem? hp))) ?_)
    · simp only [laws_eqInt64SS.l0]
      rw [if_pos (by omega), if_pos (by omega), if_pos (by omega), hr, wrapS (by omega) (by omega), cast_succ]
    · exact Ev.congr (fun k => by simp) (ih (i + 1) (by omega))
theorem eqG_ev (g : List (List Int)) (hl : ∀ row ∈ g, row.length < 4611686018427387904) (hg : g.length < 4611686018427387904) : Ev (fun k => laws_eqGame.f k g g) true := by
  have hS : Ev (fun k => laws_eqInt64SS.f k g g) true := Ev.congr (fun k => by unfold laws_eqInt64SS.f; rw [if_pos rfl]; rfl) (eqSS_loop g hl hg g.length 0 (by omega))
  exact Ev.congr (f := fun k => (laws_eqInt64SS.f k g g).bind fun t => if t = true then some true else some false) (fun k => rfl) (Ev.bind hS (Ev.congr (f := fun _ => some true) (fun k => by simp) (Ev.now true)))

end Go.Proofs.Ytbiemfbdobdecaa.PX
