/- What the laws do with lists of lists of lists: sizes counted, copied, compared (no condition but sizes that fit). -/
import Derived.Test.YtjihfaebfhbpfaaPXx0
import Derived.Test.YtjihfaebfhbpfaaPXx1
import Derived.Test.YtjihfaebfhbpfaaPXx2
import Derived.Test.YtjihfaebfhbpfaaPXx4
import Derived.Test.YtjihfaebfhbpfaaLBase
import Derived.Test.YtjihfaebfhbpfaaLI
namespace Go.Proofs.Ytjihfaebfhbpfaa.PX
open Go.RowKit Go.Proofs.YtjihfaebfhbpfaaW.PrintWords Go.Proofs.YtjihfaebfhbpfaaW.PrintLast Go.Proofs.YtjihfaebfhbpfaaW.PrintMore
attribute [local go_sem] max2_int min2_int max_two min_two max_three min_three max_four min_four
set_option linter.unusedVariables false
set_option linter.unusedSimpArgs false
def total : List (List Int) → Int
  | [] => 0
  | row :: rest => row.length + total rest
theorem total_nonneg : ∀ g : List (List Int), 0 ≤ total g
  | [] => by simp [total]
  | row :: rest => by have := total_nonneg rest; simp only [total]; omega
theorem total_mem {g : List (List Int)} {row : List Int} (h : row ∈ g) : (row.length : Int) ≤ total g := by
  induction g with
  | nil => simp at h
  | cons x rest ih =>
    simp only [total]
    have := total_nonneg rest
    rcases List.mem_cons.1 h with rfl | h
    · omega
    · have := ih h
      omega
theorem szSS_loop (g : List (List Int)) (hl : ∀ row ∈ g, row.length ≤ 9223372036854775807) (hg : g.length ≤ 1048576) (d : Nat) : ∀ (i : Nat) (a : Int), i + d = g.length → 0 ≤ a → a ≤ 1048576 →
    ∃ t, Ev (fun k => laws_szInt64SS.l0 k g a (i : Int)) t ∧ (t < 0 ∨ (0 ≤ t ∧ total (g.drop i) ≤ a ∧ t ≤ a)) := by
  induction d with
  | zero =>
    intro i a hd h0 h1
    refine ⟨a, Ev.step (f := fun _ => some a) (fun k => ?_) (Ev.now a), .inr ⟨h0, ?_⟩⟩
    · simp only [laws_szInt64SS.l0]; rw [if_neg (by omega)]
    · rw [List.drop_eq_nil_of_le (by omega)]; exact ⟨h0, Int.le_refl _⟩
  | succ d ih =>
    intro i a hd h0 h1
    obtain ⟨row, hp⟩ := get_some (xs := g) (i := i) (by omega)
    have hr : rd_L1 g (i : Int) = row := by rw [rdL1_nat]; exact getD_of hp
    have hs := szI_eq row a h0 h1 (hl row (List.mem_of_getElem? hp))
    have h2 : ∀ k, laws_szInt64SS.l0 (k + 1) g a (i : Int) = (if (if a - (row.length : Int) < 0 then -1 else a - row.length) < 0 then (some (-1)) else (laws_szInt64SS.l0 k g (if a - (row.length : Int) < 0 then -1 else a - row.length) ((i + 1 : Nat) : Int))) := fun k => by
      simp only [laws_szInt64SS.l0]
      rw [if_pos (by omega), if_pos (by omega), hr, hs, wrapS (by omega) (by omega), cast_succ]
      rfl
    rw [drop_of hp]
    simp only [total]
    by_cases c : a - (row.length : Int) < 0
    · exact ⟨-1, Ev.step (f := fun _ => some (-1)) (fun k => by rw [h2, if_pos c]; rfl) (Ev.now _), .inl (by omega)⟩
    · obtain ⟨t, ht, hor⟩ := ih (i + 1) (a - row.length) (by omega) (by omega) (by omega)
      refine ⟨t, Ev.step (fun k => by rw [h2, if_neg c, if_neg c]) ht, ?_⟩
      rcases hor with hor | hor
      · exact .inl hor
      · exact .inr ⟨hor.1, by omega, by omega⟩
/-- A game's size counted off from what is left. -/
theorem toSS_loop (g : List (List Int)) (hl : ∀ row ∈ g, row.length ≤ 1048576) (hg : g.length ≤ 1048576) (d : Nat) : ∀ i : Nat, i + d = g.length → Ev (fun k => laws_toInt64SS.l0 k g (g.take i ++ List.replicate d []) (i : Int)) g := by
  induction d with
  | zero =>
    intro i hd
    rw [List.take_of_length_le (by omega)]
    refine Ev.step (f := fun _ => some g) (fun k => ?_) (Ev.now g)
    simp only [laws_toInt64SS.l0]; rw [if_neg (by omega)]; simp
  | succ d ih =>
    intro i hd
    obtain ⟨row, hp⟩ := get_some (xs := g) (i := i) (by omega)
    have hr : rd_L1 g (i : Int) = row := by rw [rdL1_nat]; exact getD_of hp
    have hlen : (g.take i).length = i := by rw [List.length_take]; omega
    refine Ev.step (f := fun k => (laws_toInt64S.f k row).bind fun t => laws_toInt64SS.l0 k g ((g.take i ++ List.replicate (d + 1) []).set ((i : Int)).toNat t) ((i + 1 : Nat) : Int)) (fun k => ?_) (Ev.bind (toI_ev row (hl row (List.mem_of_getElem? hp))) ?_)
    · simp only [laws_toInt64SS.l0]
      rw [if_pos (by omega), if_pos (by omega), hr, wrapS (by omega) (by omega), cast_succ]
      congr 1
      funext t
      rw [if_pos (by rw [List.length_append, hlen, List.length_replicate]; omega)]
    · refine Ev.congr (fun k => ?_) (ih (i + 1) (by omega))
      have e1 : ((i : Int)).toNat = (g.take i).length := by rw [hlen]; omega
      have e : (g.take i ++ List.replicate (d + 1) []).set ((i : Int)).toNat row = g.take (i + 1) ++ List.replicate d [] := by
        rw [e1, List.set_append_right _ _ (Nat.le_refl _), Nat.sub_self, List.replicate_succ, List.set_cons_zero]
        obtain ⟨hlt, hxe⟩ := List.getElem?_eq_some_iff.1 hp
        rw [List.take_succ_eq_append_getElem hlt, hxe]
        simp
      rw [e]
theorem eqSS_loop (g : List (List Int)) (hl : ∀ row ∈ g, row.length < 4611686018427387904) (hg : g.length < 4611686018427387904) (d : Nat) : ∀ i : Nat, i + d = g.length → Ev (fun k => laws_eqInt64SS.l0 k g g (i : Int)) true := by
  induction d with
  | zero =>
    intro i hd
    refine Ev.step (f := fun _ => some true) (fun k => ?_) (Ev.now true)
    simp only [laws_eqInt64SS.l0]; rw [if_neg (by omega)]
  | succ d ih =>
    intro i hd
    obtain ⟨row, hp⟩ := get_some (xs := g) (i := i) (by omega)
    have hr : rd_L1 g (i : Int) = row := by rw [rdL1_nat]; exact getD_of hp
    refine Ev.step (f := fun k => (laws_eqInt64S.f k row row).bind fun t => if t = true then laws_eqInt64SS.l0 k g g ((i + 1 : Nat) : Int) else some false) (fun k => ?_) (Ev.bind (eqI_ev row (hl row (List.mem_of_getElem? hp))) ?_)
    · simp only [laws_eqInt64SS.l0]
      rw [if_pos (by omega), if_pos (by omega), if_pos (by omega), hr, wrapS (by omega) (by omega), cast_succ]
    · exact Ev.congr (fun k => by simp) (ih (i + 1) (by omega))
theorem szSS_ev (g : List (List Int)) (a : Int) (ha0 : 0 ≤ a) (ha : a ≤ 1048576) (hg : g.length ≤ 9223372036854775807) (hl : ∀ row ∈ g, row.length ≤ 9223372036854775807) :
    ∃ t, Ev (fun k => laws_szInt64SS.f k g a) t ∧ (t < 0 ∨ (0 ≤ t ∧ t + (g.length : Int) ≤ a ∧ total g ≤ 1048576)) := by
  by_cases c : a - g.length < 0
  · refine ⟨-1, Ev.congr (f := fun _ => some (-1)) (fun k => ?_) (Ev.now _), .inl (by omega)⟩
    unfold laws_szInt64SS.f
    rw [wrapS (by omega) (by omega), if_pos c]
  · obtain ⟨t, ht, hor⟩ := szSS_loop g hl (by omega) g.length 0 (a - g.length) (by omega) (by omega) (by omega)
    refine ⟨t, Ev.congr (fun k => by unfold laws_szInt64SS.f; rw [wrapS (by omega) (by omega), if_neg c]; rfl) ht, ?_⟩
    rcases hor with hor | hor
    · exact .inl hor
    · rw [List.drop_zero] at hor
      exact .inr ⟨hor.1, by omega, by omega⟩
theorem sz3_loop (R : List (List (List Int))) (hl : ∀ g ∈ R, g.length ≤ 9223372036854775807 ∧ ∀ row ∈ g, row.length ≤ 9223372036854775807) (hL : R.length ≤ 1048576) : ∀ (d i : Nat) (a : Int), i + d = R.length → 0 ≤ a → a ≤ 1048576 →
    ∃ t, Ev (fun k => laws_szInt64SSS.l0 k R a (i : Int)) t ∧ (t < 0 ∨ (0 ≤ t ∧ ((R.drop i).flatten.length : Int) ≤ a ∧ ∀ g ∈ R.drop i, g.length ≤ 1048576 ∧ total g ≤ 1048576))
  | 0, i, a, hd, h0, h1 => by
    refine ⟨a, Ev.step (f := fun _ => some a) (fun k => ?_) (Ev.now _), .inr ⟨h0, ?_, ?_⟩⟩
    · rw [laws_szInt64SSS.l0, if_neg (by omega)]
    · rw [List.drop_of_length_le (by omega)]; simpa using h0
    · rw [List.drop_of_length_le (by omega)]; simp
  | d + 1, i, a, hd, h0, h1 => by
    obtain ⟨g, hg⟩ := get_some (xs := R) (i := i) (by omega)
    have hgl := hl g (List.mem_of_getElem? hg)
    have er : rd_L2 R (i : Int) = g := by unfold rd_L2; rw [Int.toNat_natCast, getD_of hg]
    have hw : wrap64 ((i : Int) + 1) = ((i + 1 : Nat) : Int) := by rw [wrapS (by omega) (by omega), cast_succ]
    obtain ⟨t, ht, hor⟩ := szSS_ev g a h0 h1 hgl.1 hgl.2
    rcases hor with hor | ⟨p0, p1, p2⟩
    · refine ⟨-1, Ev.step (f := fun k => (laws_szInt64SS.f k g a).bind fun t104 => (if t104 < 0 then (some (-1)) else (laws_szInt64SSS.l0 k R t104 ((i + 1 : Nat) : Int)))) (fun k => ?_) (Ev.bind ht (Ev.congr (f := fun _ => some (-1)) (fun k => by rw [if_pos hor]) (Ev.now _))), .inl (by omega)⟩
      rw [laws_szInt64SSS.l0, if_pos (by omega), if_pos (by omega), er, hw]
    · obtain ⟨t2, ht2, hor2⟩ := sz3_loop R hl hL d (i + 1) t (by omega) p0 (by omega)
      refine ⟨t2, Ev.step (f := fun k => (laws_szInt64SS.f k g a).bind fun t104 => (if t104 < 0 then (some (-1)) else (laws_szInt64SSS.l0 k R t104 ((i + 1 : Nat) : Int)))) (fun k => ?_) (Ev.bind ht (Ev.congr (fun k => by rw [if_neg (by omega)]) ht2)), ?_⟩
      · rw [laws_szInt64SSS.l0, if_pos (by omega), if_pos (by omega), er, hw]
      · rcases hor2 with h | ⟨q0, q1, q2⟩
        · exact .inl h
        · refine .inr ⟨q0, ?_, ?_⟩
          · rw [drop_of hg, List.flatten_cons, List.length_append]; omega
          · intro g' hg'
            rw [drop_of hg] at hg'
            rcases List.mem_cons.1 hg' with e | e
            · subst e; exact ⟨by omega, p2⟩
            · exact q2 g' e
theorem sz3_ev (n : Int) (R : List (List (List Int))) (hL : R.length ≤ 9223372036854775807) (hl : ∀ g ∈ R, g.length ≤ 9223372036854775807 ∧ ∀ row ∈ g, row.length ≤ 9223372036854775807) :
    ∃ t, Ev (fun k => laws_szSprouts.f k n R 1048576) t ∧ (t < 0 ∨ (0 ≤ t ∧ R.length ≤ 1048576 ∧ R.flatten.length ≤ 1048576 ∧ ∀ g ∈ R, g.length ≤ 1048576 ∧ total g ≤ 1048576)) := by
  by_cases c : 1048576 - (R.length : Int) < 0
  · refine ⟨-1, Ev.congr (f := fun _ => some (-1)) (fun k => ?_) (Ev.now _), .inl (by omega)⟩
    unfold laws_szSprouts.f laws_szInt64SSS.f
    rw [wrapS (by omega) (by omega), if_pos c]; rfl
  · obtain ⟨t, ht, hor⟩ := sz3_loop R hl (by omega) R.length 0 (1048576 - (R.length : Int)) (by omega) (by omega) (by omega)
    have hS : Ev (fun k => laws_szInt64SSS.f k R 1048576) t := Ev.congr (fun k => by unfold laws_szInt64SSS.f; rw [wrapS (by omega) (by omega), if_neg c]; rfl) ht
    unfold laws_szSprouts.f
    rcases hor with h | ⟨q0, q1, q2⟩
    · exact ⟨-1, Ev.bind hS (Ev.congr (f := fun _ => some (-1)) (fun k => by rw [if_pos h]) (Ev.now _)), .inl (by omega)⟩
    · rw [List.drop_zero] at q1 q2
      exact ⟨t, Ev.bind hS (Ev.congr (f := fun _ => some t) (fun k => by rw [if_neg (by omega)]) (Ev.now _)), .inr ⟨q0, by omega, by omega, q2⟩⟩
theorem toSS_ev (g : List (List Int)) (hg : g.length ≤ 1048576) (ht : total g ≤ 1048576) : Ev (fun k => laws_toInt64SS.f k g) g := by
  have h := toSS_loop g (fun row hr => by have := total_mem hr; omega) hg g.length 0 (by omega)
  refine Ev.congr (fun k => ?_) h
  unfold laws_toInt64SS.f
  rw [if_pos (by omega), if_pos (by omega)]
  rfl
theorem to3_loop (R : List (List (List Int))) (hl : ∀ g ∈ R, g.length ≤ 1048576 ∧ total g ≤ 1048576) (hL : R.length ≤ 1048576) : ∀ (d i : Nat), i + d = R.length → Ev (fun k => laws_toInt64SSS.l0 k R (R.take i ++ List.replicate d []) (i : Int)) R
  | 0, i, hd => by
    refine Ev.step (f := fun _ => some R) (fun k => ?_) (Ev.now _)
    rw [laws_toInt64SSS.l0, if_neg (by omega), List.take_of_length_le (by omega)]; simp
  | d + 1, i, hd => by
    obtain ⟨g, hg⟩ := get_some (xs := R) (i := i) (by omega)
    have hgl := hl g (List.mem_of_getElem? hg)
    have er : rd_L2 R (i : Int) = g := by unfold rd_L2; rw [Int.toNat_natCast, getD_of hg]
    have hw : wrap64 ((i : Int) + 1) = ((i + 1 : Nat) : Int) := by rw [wrapS (by omega) (by omega), cast_succ]
    have hset : (R.take i ++ List.replicate (d + 1) []).set i g = R.take (i + 1) ++ List.replicate d [] := by
      rw [List.set_append_right _ _ (by rw [List.length_take]; omega), List.length_take, Nat.min_eq_left (by omega), Nat.sub_self, List.replicate_succ, List.set_cons_zero, List.take_add_one, hg, List.append_assoc]; rfl
    have ih := to3_loop R hl hL d (i + 1) (by omega)
    rw [← hset] at ih
    refine Ev.step (f := fun k => (laws_toInt64SS.f k g).bind fun t158 => laws_toInt64SSS.l0 k R ((R.take i ++ List.replicate (d + 1) []).set i t158) ((i + 1 : Nat) : Int)) (fun k => ?_) (Ev.bind (toSS_ev g hgl.1 hgl.2) ih)
    rw [laws_toInt64SSS.l0, if_pos (by omega), if_pos (by omega), er, hw]
    refine congrArg _ (funext fun t => ?_)
    rw [if_pos (by simp; omega), Int.toNat_natCast]
theorem to3_ev (n : Int) (R : List (List (List Int))) (hl : ∀ g ∈ R, g.length ≤ 1048576 ∧ total g ≤ 1048576) (hL : R.length ≤ 1048576) : Ev (fun k => laws_toSprouts.f k n R) (n, R) := by
  have h : Ev (fun k => laws_toInt64SSS.f k R) R := by
    refine Ev.congr (fun k => ?_) (to3_loop R hl hL R.length 0 (by omega))
    unfold laws_toInt64SSS.f
    rw [if_pos (by omega), if_pos (by omega), Int.toNat_natCast]
    rfl
  unfold laws_toSprouts.f
  exact Ev.bind h (Ev.now _)
theorem eqSS_ev (g : List (List Int)) (hl : ∀ row ∈ g, row.length < 4611686018427387904) (hg : g.length < 4611686018427387904) : Ev (fun k => laws_eqInt64SS.f k g g) true := by
  refine Ev.congr (fun k => ?_) (eqSS_loop g hl hg g.length 0 (by omega))
  unfold laws_eqInt64SS.f
  rw [if_pos rfl]; rfl
theorem eq3_loop (R : List (List (List Int))) (hl : ∀ g ∈ R, g.length ≤ 1048576 ∧ total g ≤ 1048576) (hL : R.length ≤ 1048576) : ∀ (d i : Nat), i + d = R.length → Ev (fun k => laws_eqInt64SSS.l0 k R R (i : Int)) true
  | 0, i, hd => by
    refine Ev.step (f := fun _ => some true) (fun k => ?_) (Ev.now _)
    rw [laws_eqInt64SSS.l0, if_neg (by omega)]
  | d + 1, i, hd => by
    obtain ⟨g, hg⟩ := get_some (xs := R) (i := i) (by omega)
    have hgl := hl g (List.mem_of_getElem? hg)
    have er : rd_L2 R (i : Int) = g := by unfold rd_L2; rw [Int.toNat_natCast, getD_of hg]
    have hw : wrap64 ((i : Int) + 1) = ((i + 1 : Nat) : Int) := by rw [wrapS (by omega) (by omega), cast_succ]
    refine Ev.step (f := fun k => (laws_eqInt64SS.f k g g).bind fun t209 => (if t209 = true then (laws_eqInt64SSS.l0 k R R ((i + 1 : Nat) : Int)) else (some false))) (fun k => ?_) (Ev.bind (eqSS_ev g (fun row hr => by have := total_mem hr; omega) (by omega)) (Ev.congr (fun k => by rw [if_pos rfl]) (eq3_loop R hl hL d (i + 1) (by omega))))
    rw [laws_eqInt64SSS.l0, if_pos (by omega), if_pos (by omega), if_pos (by omega), er, hw]
theorem eq3_ev (n : Int) (R : List (List (List Int))) (hl : ∀ g ∈ R, g.length ≤ 1048576 ∧ total g ≤ 1048576) (hL : R.length ≤ 1048576) : Ev (fun k => laws_eqSprouts.f k n R n R) true := by
  have h : Ev (fun k => laws_eqInt64SSS.f k R R) true := by
    refine Ev.congr (fun k => ?_) (eq3_loop R hl hL R.length 0 (by omega))
    unfold laws_eqInt64SSS.f
    rw [if_pos rfl]; rfl
  unfold laws_eqSprouts.f
  refine Ev.congr (fun k => by rw [if_pos rfl]) (Ev.bind h ?_)
  exact Ev.congr (f := fun _ => some true) (fun k => by rw [if_pos rfl]) (Ev.now _)

end Go.Proofs.Ytjihfaebfhbpfaa.PX
