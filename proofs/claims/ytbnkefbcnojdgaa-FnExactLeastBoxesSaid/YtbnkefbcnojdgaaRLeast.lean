/- The least of all reflections, as the reference and the program find it, for any moves that are their own inverses (conditions: each reflection answers). -/
import Derived.Test.YtbnkefbcnojdgaaPFnExactLeastBoxesx5
import Derived.Test.YtbnkefbcnojdgaaPFnExactLeastBoxesx9
import Derived.Test.YtbnkefbcnojdgaaRMin
namespace Go.Proofs.Ytbnkefbcnojdgaa.Pure
open Go.RowKit Go.Proofs.Ytbnkefbcnojdgaa.PFnExactLeastBoxes Go.Proofs.YtbnkefbcnojdgaaW.PrintWords Go.Proofs.YtbnkefbcnojdgaaW.PrintLast Go.Proofs.YtbnkefbcnojdgaaW.PrintMore
set_option linter.unusedSimpArgs false
set_option linter.unusedVariables false
theorem wrapS {i : Int} (h0 : -9223372036854775808 ≤ i) (h : i < 9223372036854775808) : wrap64 i = i := by
  unfold wrap64
  omega
theorem cast_succ (i : Nat) : ((i : Int) + 1) = ((i + 1 : Nat) : Int) := by omega
section
variable {V : Int → Prop} {r : Nat → Int → Int} {n : Nat} {w h : Int}
theorem spec_step (hS : ∀ t, t < n → ∀ x, V x → Ev (fun k => spec_l03Reflected.f k w h x (t : Int)) (w, h, r t x)) (x5 : Int) (j t : Nat) (ht : t < n) (hj : j < 4) (hjt : Int.tmod (j : Int) 2 = (t : Int)) (b best : Int) (hb : V b) (res : Int × Int × Int × Int)
    (hk : Ev (fun k => spec_LeastBoxes.l1 k x5 ((j + 1 : Nat) : Int) w h (r t b) w h (mn best (r t b))) res) : Ev (fun k => spec_LeastBoxes.l1 k x5 (j : Int) w h b w h best) res := by
  refine Ev.step (f := fun k => (spec_l03Reflected.f k w h b (t : Int)).bind fun bt140 => (if bt140.2.2 < best then (spec_LeastBoxes.l1 k x5 ((j + 1 : Nat) : Int) bt140.1 bt140.2.1 bt140.2.2 bt140.1 bt140.2.1 bt140.2.2) else (spec_LeastBoxes.l1 k x5 ((j + 1 : Nat) : Int) bt140.1 bt140.2.1 bt140.2.2 w h best))) (fun k => ?_) (Ev.bind (hS t ht b hb) ?_)
  · rw [spec_LeastBoxes.l1, if_pos (by omega), hjt, wrapS (i := (j : Int) + 1) (by omega) (by omega), cast_succ]
  · refine Ev.congr (fun k => ?_) hk
    show (if r t b < best then spec_LeastBoxes.l1 k x5 ((j + 1 : Nat) : Int) w h (r t b) w h (r t b) else spec_LeastBoxes.l1 k x5 ((j + 1 : Nat) : Int) w h (r t b) w h best) = _
    unfold mn
    by_cases c : r t b < best
    · rw [if_pos c, if_pos c]
    · rw [if_neg c, if_neg c]
theorem spec_four (hS : ∀ t, t < n → ∀ x, V x → Ev (fun k => spec_l03Reflected.f k w h x (t : Int)) (w, h, r t x)) (hg : Grp V r n) (hn : 2 ≤ n) (x5 : Int) (b best : Int) (hb : V b) (res : Int × Int × Int × Int)
    (hk : Ev (fun k => spec_LeastBoxes.l1 k x5 4 w h b w h ([r 0 b, r 1 (r 0 b), r 1 b, b].foldl mn best)) res) : Ev (fun k => spec_LeastBoxes.l1 k x5 0 w h b w h best) res := by
  have v1 := hg.lt 0 b hb (by omega)
  have v2 := hg.lt 1 _ v1 (by omega)
  have v3 := hg.lt 1 b hb (by omega)
  have e3 : r 0 (r 1 (r 0 b)) = r 1 b := by rw [hg.h01 _ v1, hg.h00 _ hb]
  have e4 : r 1 (r 1 b) = b := hg.h11 _ hb
  refine spec_step hS x5 0 0 (by omega) (by omega) rfl b best hb res ?_
  refine spec_step hS x5 1 1 (by omega) (by omega) rfl _ _ v1 res ?_
  refine spec_step hS x5 2 0 (by omega) (by omega) rfl _ _ v2 res ?_
  rw [e3]
  refine spec_step hS x5 3 1 (by omega) (by omega) rfl _ _ v3 res ?_
  rw [e4]
  exact hk
theorem spec_least (hS : ∀ t, t < n → ∀ x, V x → Ev (fun k => spec_l03Reflected.f k w h x (t : Int)) (w, h, r t x)) (hg : Grp V r n) (hn : (n = 3 ∧ w = h) ∨ (n = 2 ∧ w ≠ h)) (b : Int) (hb : V b) :
    Ev (fun k => spec_LeastBoxes.l0 k 0 w h b w h b) (w, h, (orb r n b).foldl mn b, 0) := by
  have hn2 : 2 ≤ n := by rcases hn with hn | hn <;> omega
  have hset : ∀ c : Int, [r 0 c, r 1 (r 0 c), r 1 c, c].foldl mn = [r 0 c, r 1 (r 0 c), r 1 c, c].foldl mn := fun _ => rfl
  refine Ev.step (f := fun k => spec_LeastBoxes.l1 k 0 0 w h b w h b) (fun k => by rw [spec_LeastBoxes.l0, if_pos (by omega)]) ?_
  refine spec_four hS hg hn2 0 b b hb _ ?_
  rcases hn with ⟨hn, hwh⟩ | ⟨hn, hwh⟩
  · have v2 := hg.lt 2 b hb (by omega)
    refine Ev.step (f := fun k => (spec_l03Reflected.f k w h b 2).bind fun bt143 => (spec_LeastBoxes.l0 k 1 bt143.1 bt143.2.1 bt143.2.2 w h ([r 0 b, r 1 (r 0 b), r 1 b, b].foldl mn b))) (fun k => ?_) (Ev.bind (hS 2 (by omega) b hb) ?_)
    · rw [spec_LeastBoxes.l1, if_neg (by omega), if_pos hwh, show wrap64 (0 + 1) = 1 by decide +kernel]
    · refine Ev.step (f := fun k => spec_LeastBoxes.l1 k 1 0 w h (r 2 b) w h ([r 0 b, r 1 (r 0 b), r 1 b, b].foldl mn b)) (fun k => ?_) ?_
      · show spec_LeastBoxes.l0 (k + 1) 1 w h (r 2 b) w h _ = _
        rw [spec_LeastBoxes.l0, if_pos (by omega)]
      · refine spec_four hS hg hn2 1 (r 2 b) _ v2 _ ?_
        refine Ev.step (f := fun k => (spec_l03Reflected.f k w h (r 2 b) 2).bind fun bt143 => (spec_LeastBoxes.l0 k 2 bt143.1 bt143.2.1 bt143.2.2 w h ([r 0 (r 2 b), r 1 (r 0 (r 2 b)), r 1 (r 2 b), r 2 b].foldl mn ([r 0 b, r 1 (r 0 b), r 1 b, b].foldl mn b)))) (fun k => ?_) (Ev.bind (hS 2 (by omega) _ v2) ?_)
        · rw [spec_LeastBoxes.l1, if_neg (by omega), if_pos hwh, show wrap64 (1 + 1) = 2 by decide +kernel]
        · refine Ev.step (f := fun _ => some _) (fun k => ?_) (Ev.now _)
          rw [spec_LeastBoxes.l0, if_neg (by omega), ← List.foldl_append]
          have : ([r 0 b, r 1 (r 0 b), r 1 b, b] ++ [r 0 (r 2 b), r 1 (r 0 (r 2 b)), r 1 (r 2 b), r 2 b]).foldl mn b = (orb r n b).foldl mn b := by
            refine mn_same ?_ ?_
            · intro x hx
              unfold orb
              rw [if_pos hn]
              simp only [o4, List.cons_append, List.nil_append, List.mem_cons, List.not_mem_nil, or_false] at hx ⊢
              rcases hx with e | e | e | e | e | e | e | e | e <;> simp [e]
            · intro x hx
              unfold orb at hx
              rw [if_pos hn] at hx
              simp only [o4, List.cons_append, List.nil_append, List.mem_cons, List.not_mem_nil, or_false] at hx ⊢
              rcases hx with e | e | e | e | e | e | e | e | e <;> simp [e]
          rw [this]
  · refine Ev.step (f := fun _ => some _) (fun k => ?_) (Ev.now _)
    rw [spec_LeastBoxes.l1, if_neg (by omega), if_neg hwh]
    have : [r 0 b, r 1 (r 0 b), r 1 b, b].foldl mn b = (orb r n b).foldl mn b := by
      refine mn_same ?_ ?_
      · intro x hx
        unfold orb
        rw [if_neg (by omega)]
        simp only [o4, List.mem_cons, List.not_mem_nil, or_false] at hx ⊢
        rcases hx with e | e | e | e | e <;> simp [e]
      · intro x hx
        unfold orb at hx
        rw [if_neg (by omega)] at hx
        simp only [o4, List.mem_cons, List.not_mem_nil, or_false] at hx ⊢
        rcases hx with e | e | e | e | e <;> simp [e]
    rw [this]
abbrev bxs (w h : Int) (es : List Int) : List S29 := es.map fun e => ⟨w, h, e⟩
theorem bxs_at {es : List Int} {i : Nat} {x : Int} (hx : es[i]? = some x) : rd_T29 (bxs w h es) (i : Int) = ⟨w, h, x⟩ := by
  unfold rd_T29 bxs
  rw [Int.toNat_natCast, List.getD_eq_getElem?_getD, List.getElem?_map, hx]; rfl
theorem has_loop (es : List Int) (hl : es.length < 1000) (e : Int) : ∀ (d i : Nat), i + d = es.length → ∃ z, Ev (fun k => impl_Boxes_63.l0 k (bxs w h es) (es.length : Int) (i : Int) w h e) z ∧ decide (z ≥ 0) = decide (e ∈ es.drop i)
  | 0, i, hd => by
    refine ⟨-1, Ev.step (f := fun _ => some (-1)) (fun k => ?_) (Ev.now _), ?_⟩
    · rw [impl_Boxes_63.l0, if_neg (by omega)]
    · rw [List.drop_of_length_le (by omega)]; simp
  | d + 1, i, hd => by
    obtain ⟨x, hx⟩ : ∃ x, es[i]? = some x := ⟨es[i]'(by omega), List.getElem?_eq_getElem _⟩
    have hdr : es.drop i = x :: es.drop (i + 1) := by
      obtain ⟨hl, e⟩ := List.getElem?_eq_some_iff.1 hx
      rw [List.drop_eq_getElem_cons hl, e]
    by_cases c : e = x
    · refine ⟨(i : Int), Ev.step (f := fun _ => some (i : Int)) (fun k => ?_) (Ev.now _), ?_⟩
      · rw [impl_Boxes_63.l0, if_pos (by omega), if_pos (by omega), if_pos (by simp; omega), bxs_at hx, if_pos (by simp [c])]
      · rw [hdr, decide_eq_true (show (i : Int) ≥ 0 by omega), decide_eq_true (by rw [c]; exact List.mem_cons_self)]
    · obtain ⟨z, hz, he⟩ := has_loop es hl e d (i + 1) (by omega)
      refine ⟨z, Ev.step (fun k => ?_) hz, ?_⟩
      · rw [impl_Boxes_63.l0, if_pos (by omega), if_pos (by omega), if_pos (by simp; omega), bxs_at hx, if_neg (by simp [c]), wrapS (i := (i : Int) + 1) (by omega) (by omega), cast_succ]
      · rw [he, hdr]
        apply Bool.eq_iff_iff.2
        simp only [decide_eq_true_eq, List.mem_cons]
        constructor
        · exact Or.inr
        · rintro (h1 | h1)
          · exact absurd h1 c
          · exact h1
theorem has_ev (es : List Int) (hl : es.length < 1000) (e : Int) : Ev (fun k => impl_Boxes_53.f k (bxs w h es) w h e) (decide (e ∈ es)) := by
  obtain ⟨z, hz, he⟩ := has_loop (w := w) (h := h) es hl e es.length 0 (by omega)
  rw [List.drop_zero] at he
  rw [← he]
  have hz' : Ev (fun k => impl_Boxes_63.f k (bxs w h es) w h e) z := Ev.congr (fun k => by unfold impl_Boxes_63.f; rw [List.length_map]; rfl) hz
  unfold impl_Boxes_53.f
  exact Ev.bind hz' (Ev.now _)
/-- What the program's list holds while it grows. -/
structure Grown (r : Nat → Int → Int) (n : Nat) (b : Int) (es : List Int) (i : Nat) : Prop where
  nodup : es.Nodup
  sub : ∀ x ∈ es, x ∈ orb r n b
  base : b ∈ es
  done : ∀ m x, m < i → es[m]? = some x → ∀ t, t < n → r t x ∈ es
theorem Grown.len {b : Int} {es : List Int} {i : Nat} (h : Grown r n b es i) : es.length ≤ 8 := Nat.le_trans (nodup_le es _ h.nodup h.sub) (orb_len r n b)
theorem impl_inner (hI : ∀ t, t < n → ∀ x, V x → Ev (fun k => impl_Boxes_reflected.f k w h x (t : Int)) (w, h, r t x)) (hg : Grp V r n) (hn : n = 2 ∨ n = 3) (b : Int) (hb : V b) (best : Int) (i : Nat) (x : Int) (res : Int × Int × Int × Int) : ∀ (d t : Nat) (es : List Int), t + d = n →
    Grown r n b es i → es[i]? = some x → (∀ t', t' < t → r t' x ∈ es) →
    (∀ es', Grown r n b es' (i + 1) → es'.take (i + 1) = es.take (i + 1) → i + 1 ≤ es'.length → Ev (fun k => impl_LeastBoxes.l0 k (n : Int) (bxs w h es') ((i + 1 : Nat) : Int) w h best) res) →
    Ev (fun k => impl_LeastBoxes.l1 k (n : Int) (bxs w h es) (i : Int) (n : Int) (t : Int) w h best) res
  | 0, t, es, hd, hG, hx, ht, hk => by
    have hil := (List.getElem?_eq_some_iff.1 hx).1
    have hlen := hG.len
    refine Ev.step (fun k => ?_) (hk es ⟨hG.nodup, hG.sub, hG.base, fun m y hm hy t' ht' => ?_⟩ rfl (by omega))
    · rw [impl_LeastBoxes.l1, if_neg (by omega), wrapS (i := (i : Int) + 1) (by omega) (by omega), cast_succ]
    · by_cases c : m < i
      · exact hG.done m y c hy t' ht'
      · have : m = i := by omega
        subst this
        rw [hx] at hy
        cases hy
        exact ht t' (by omega)
  | d + 1, t, es, hd, hG, hx, ht, hk => by
    have hil := (List.getElem?_eq_some_iff.1 hx).1
    have hlen := hG.len
    have hxm := List.mem_of_getElem? hx
    have hVx : V x := orb_V hg (by rcases hn with e | e <;> omega) hb x (hG.sub x hxm)
    have hw : wrap64 ((t : Int) + 1) = ((t + 1 : Nat) : Int) := by rw [wrapS (by omega) (by rcases hn with e | e <;> omega), cast_succ]
    have hat : rd_T29 (bxs w h es) (i : Int) = ⟨w, h, x⟩ := bxs_at hx
    refine Ev.step (f := fun k => (impl_Boxes_reflected.f k w h x (t : Int)).bind fun bt198 => ((impl_Boxes_53.f k (bxs w h es) bt198.1 bt198.2.1 bt198.2.2).bind fun t202 => (if t202 = true then (impl_LeastBoxes.l1 k (n : Int) (bxs w h es) (i : Int) (n : Int) ((t + 1 : Nat) : Int) w h best) else (if (bxs w h es).length < 5864062014805 then (impl_LeastBoxes.l1 k (n : Int) ((bxs w h es) ++ [(⟨bt198.1, bt198.2.1, bt198.2.2⟩ : S29)]) (i : Int) (n : Int) ((t + 1 : Nat) : Int) w h best) else (none))))) (fun k => ?_) (Ev.bind (hI t (by omega) x hVx) (Ev.bind (has_ev es (by omega) (r t x)) ?_))
    · rw [impl_LeastBoxes.l1, if_pos (by omega), if_pos (by omega), if_pos (by rw [List.length_map]; omega), hat, hw]
    · by_cases c : r t x ∈ es
      · rw [decide_eq_true c]
        refine Ev.congr (fun k => by rw [if_pos rfl]) (impl_inner hI hg hn b hb best i x res d (t + 1) es (by omega) hG hx (fun t' h' => ?_) hk)
        by_cases e : t' < t
        · exact ht t' e
        · have : t' = t := by omega
          subst this
          exact c
      · rw [decide_eq_false c]
        have hin : r t x ∈ orb r n b := orb_closed hg hn hb x (hG.sub x hxm) t (by omega)
        have hG2 : Grown r n b (es ++ [r t x]) i := ⟨by
            rw [List.nodup_append]
            exact ⟨hG.nodup, by simp, fun a ha b' hb' => by rw [List.mem_singleton] at hb'; subst hb'; exact fun e => c (e ▸ ha)⟩, fun y hy => by
            rcases List.mem_append.1 hy with h1 | h1
            · exact hG.sub y h1
            · rw [List.mem_singleton] at h1
              rw [h1]; exact hin, List.mem_append_left _ hG.base, fun m y hm hy t' ht' => by
            rw [List.getElem?_append_left (by omega)] at hy
            exact List.mem_append_left _ (hG.done m y hm hy t' ht')⟩
        have ih := impl_inner hI hg hn b hb best i x res d (t + 1) (es ++ [r t x]) (by omega) hG2 (by rw [List.getElem?_append_left hil]; exact hx) (fun t' h' => by
          by_cases e : t' < t
          · exact List.mem_append_left _ (ht t' e)
          · have : t' = t := by omega
            subst this
            simp) (fun es' h1 h2 h3 => hk es' h1 (by rw [h2, List.take_append_of_le_length (by omega)]) h3)
        refine Ev.congr (fun k => ?_) ih
        show (if (false : Bool) = true then _ else (if (bxs w h es).length < 5864062014805 then (impl_LeastBoxes.l1 k (n : Int) ((bxs w h es) ++ [(⟨w, h, r t x⟩ : S29)]) (i : Int) (n : Int) ((t + 1 : Nat) : Int) w h best) else (none))) = _
        have hb2 : bxs w h (es ++ [r t x]) = bxs w h es ++ [⟨w, h, r t x⟩] := by unfold bxs; rw [List.map_append]; rfl
        rw [if_neg (by decide), if_pos (by rw [List.length_map]; omega), hb2]
theorem impl_outer (hI : ∀ t, t < n → ∀ x, V x → Ev (fun k => impl_Boxes_reflected.f k w h x (t : Int)) (w, h, r t x)) (hg : Grp V r n) (hn : n = 2 ∨ n = 3) (b : Int) (hb : V b) : ∀ (d i : Nat) (es : List Int), i + d = 9 → Grown r n b es i → i ≤ es.length →
    Ev (fun k => impl_LeastBoxes.l0 k (n : Int) (bxs w h es) (i : Int) w h ((es.take i).foldl mn b)) (w, h, (orb r n b).foldl mn b, 0)
  | 0, i, es, hd, hG, hi => by
    have := hG.len
    omega
  | d + 1, i, es, hd, hG, hi => by
    have hlen := hG.len
    by_cases c : i < es.length
    · obtain ⟨x, hx⟩ : ∃ x, es[i]? = some x := ⟨es[i], List.getElem?_eq_getElem c⟩
      have hat : rd_T29 (bxs w h es) (i : Int) = ⟨w, h, x⟩ := bxs_at hx
      have hin := impl_inner (w := w) (h := h) hI hg hn b hb (mn ((es.take i).foldl mn b) x) i x (w, h, (orb r n b).foldl mn b, 0) n 0 es (by omega) hG hx (fun t' h' => absurd h' (Nat.not_lt_zero _)) (fun es' h1 h2 h3 => by
        have ih := impl_outer hI hg hn b hb d (i + 1) es' (by omega) h1 h3
        rw [h2, List.take_add_one, hx, List.foldl_append] at ih
        exact ih)
      refine Ev.step (f := fun k => impl_LeastBoxes.j2 k (n : Int) (bxs w h es) (i : Int) w h (mn ((es.take i).foldl mn b) x)) (fun k => ?_) (Ev.step (fun k => ?_) hin)
      · rw [impl_LeastBoxes.l0, if_pos (by rw [List.length_map]; omega), if_pos (by omega), hat]
        show (if x < (es.take i).foldl mn b then impl_LeastBoxes.j2 k (n : Int) (bxs w h es) (i : Int) w h x else impl_LeastBoxes.j2 k (n : Int) (bxs w h es) (i : Int) w h ((es.take i).foldl mn b)) = _
        generalize (es.take i).foldl mn b = q
        unfold mn
        by_cases e : x < q
        · rw [if_pos e, if_pos e]
        · rw [if_neg e, if_neg e]
      · rw [impl_LeastBoxes.j2]
        rfl
    · refine Ev.step (f := fun _ => some _) (fun k => ?_) (Ev.now _)
      rw [impl_LeastBoxes.l0, if_neg (by rw [List.length_map]; omega)]
      have hall : es.take i = es := List.take_of_length_le (by omega)
      have : es.foldl mn b = (orb r n b).foldl mn b := by
        refine mn_same ?_ ?_
        · intro x hx
          rcases List.mem_cons.1 hx with e | e
          · rw [e]; exact List.mem_cons_self
          · exact List.mem_cons_of_mem _ (hG.sub x e)
        · intro x hx
          rcases List.mem_cons.1 hx with e | e
          · rw [e]; exact List.mem_cons_self
          · exact List.mem_cons_of_mem _ (orb_in hn hG.base (fun y hy t ht => by
              obtain ⟨m, hm, e2⟩ := List.getElem_of_mem hy
              exact hG.done m y (by omega) (by rw [← e2]; exact List.getElem?_eq_getElem hm) t ht) x e)
      rw [hall, this]
theorem impl_least (hI : ∀ t, t < n → ∀ x, V x → Ev (fun k => impl_Boxes_reflected.f k w h x (t : Int)) (w, h, r t x)) (hg : Grp V r n) (hn : n = 2 ∨ n = 3) (b : Int) (hb : V b) :
    Ev (fun k => impl_LeastBoxes.j0 k (n : Int) w h b) (w, h, (orb r n b).foldl mn b, 0) := by
  have h0 : Ev (fun k => impl_LeastBoxes.l0 k (n : Int) (bxs w h [b]) 0 w h b) (w, h, (orb r n b).foldl mn b, 0) := impl_outer hI hg hn b hb 9 0 [b] (by omega) ⟨by simp, fun x hx => by
      rw [List.mem_singleton] at hx
      subst hx
      unfold orb
      by_cases c : n = 3
      · rw [if_pos c]; simp [o4]
      · rw [if_neg c]; simp [o4], by simp, fun m x hm => absurd hm (Nat.not_lt_zero _)⟩ (by simp)
  refine Ev.step (fun k => ?_) h0
  rw [impl_LeastBoxes.j0]
  rfl
end

end Go.Proofs.Ytbnkefbcnojdgaa.Pure
