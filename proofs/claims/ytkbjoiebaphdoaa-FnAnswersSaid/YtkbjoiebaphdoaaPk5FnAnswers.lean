/- Part 5 of the texts under the row of FnAnswers (no condition). -/
import Derived.Lib.SliceRun
import Derived.ArgAppend
import Derived.Deep.RegionLaw
import Derived.Test.YtkbjoiebaphdoaaPk4FnAnswers
namespace Go.Proofs.Ytkbjoiebaphdoaa.PA
open Go.RowKit Go.Proofs.YtkbjoiebaphdoaaW.PrintWords Go.Proofs.YtkbjoiebaphdoaaW.PrintLast Go.Proofs.YtkbjoiebaphdoaaW.PrintMore
attribute [local go_sem] max2_int min2_int max_two min_two max_three min_three max_four min_four
set_option linter.unusedVariables false
set_option linter.unusedSimpArgs false
theorem C_none {c : Nat} {w : World} {n : Nat} {xs : List Int} (h : Kd.C (Kd.int .i64) w none n xs) (hn : n = xs.length) : xs = [] := by
  cases xs with
  | nil => rfl
  | cons x r =>
    subst hn;obtain ⟨ad,e,_⟩ := Kd.at_int h 0 (by omega) (by simp only [List.length_cons];omega);cases e
set_option maxHeartbeats 8000000 in
set_option maxRecDepth 100000 in
theorem Clone.calls (A0 : Option Addr) (c0 : Nat) (l0 : List Int) (w : World) (hr0 : Kd.C (Kd.int .i64) w A0 l0.length l0) (hc0 : l0.length ≤ c0) (hl : l0.length < 17592186044416) :
    Calls Try.prog 68 #[.slice A0 l0.length c0] w fun e w' => ∃ v0_ : Value,e = .returned (v0_) ∧ Kd.R (Kd.int .i64) 2 w' w.heap.size (fun _ => True) v0_ l0 ∧ Below w.heap.size w w' := by
  have HR0 := aK hr0;have HC0 := aK hc0;have LMc2 := aK hl;clear hr0 hc0 hl;have HB := aK (Below.refl w.heap.size w);have q22 : ∀ (w : World) (a : Option Addr) (n c n' c' : Nat),(binOp .eql 22 (.slice a n c) (.slice none n' c')).run Try.prog w = .ok (.bool a.isNone) w := fun w a n c n' c' => Go.Lib.run_eql_slice_nil w _ _ a n c n' c' Try.underlying22
  cases A0 with
  | none =>
    have e := C_none (c := c0) HR0.out rfl;subst e;go_enter Try.func68,Try.ntmps68;go_wp2;go_ret;exact ⟨_,rfl,Kd.R_nil _ _ _ _ _,HB.out⟩
  | some ad =>
    obtain ⟨y119,hy119⟩ : ∃ y_ : List Int,y_ = (([] : List Int) ++ l0) := ⟨_,rfl⟩;have Ny119 := aK hy119;clear hy119;go_enter Try.func68,Try.ntmps68
    go_wp2_with (first | ((with_reducible refine gate_dst (N := 5) rfl ?_);refine Kd.R_lit (Kd.int .i64) _ 2 ?hg (N := 5) ?hd (xs := ([] : List Int)) (inner := []) (ok := fun _ => True) (okp := fun _ => True) ?hr ?hp (fun _ hk => hk) trivial (Below.refl _ _) (Nat.le_refl _) (by simp) ?_;(case hd => rfl);(case hg => rfl);(case hr => first | (go_simp;done) | (go_simp;rfl));(case hp => exact (Reps.none _ _));intro v117 w3 ho4 hb hg_ hnew_;clear hg_ hnew_;(try simp only [Int.reduceToNat] at ho4);have n0_ := aK (Kd.R_lower ho4 (below_size HB.out));have n1_ := aK (below_step HB.out hb);clear HB;have HO118 := n0_;have HB := n1_;clear n0_ n1_;clear hb ho4) | ((with_reducible refine gate_builtin (b := .append) (xs := #[.tmp 5,.tmp 6]) rfl ?_);at_builtin;refine Kd.R_append_rows (Kd.int .i64) (w0 := w) w.heap.size rfl (.tmp 5) (.tmp 6) 22 2 (.int .i64 0) 8 rfl Try.underlying22 info2 rfl (by decide) (by omega) v117 ([] : List Int) l0 _ _ _ (fun _ => True) (fun _ => False) rfl rfl ?aO ?aR (fun _ _ h => h) (fun _ h => h.elim) ?aF ?aB ?aS ?aL ?_;(case aR => repeat (first | exact (Kd.C_below HR0.out HB.out) | (with_reducible refine Kd.C_alloc ?_ _) | (with_reducible refine Kd.C_drewN ?_ _) | (with_reducible refine Kd.C_drew ?_)));(case aB => exact (by repeat (first | (with_reducible first | exact HB.out | apply below_alloc | apply pw_below_drewN | apply below_drew1) | exact HB.out)));(case aF => exact (fun _ _ => trivial));(case aO => exact (by (with_reducible repeat (first | apply Kd.R_alloc | apply Kd.R_drewN | apply Kd.R_drew));exact HO118.out));(case aS => exact (below_size (by repeat (first | (with_reducible first | exact HB.out | apply below_alloc | apply pw_below_drewN | apply below_drew1) | exact HB.out))));(case aL => have := LMc2.out;simp only [List.length_nil];omega);intro v120 w5 ho hb hg hat;rw [← Ny119.out] at ho;have n0_ := aK (hb);have n1_ := aK (ho);clear HB;clear HO118;have HB := n0_;have HO121 := n1_;clear n0_ n1_;clear ho hb hg hat))
    go_ret;have hN := Ny119.out;rw [List.nil_append] at hN;subst hN;exact ⟨_,rfl,HO121.out,HB.out⟩
def slices_Clone_int64_int64.f (l0 : List Int) : Option (List Int) := if l0.length < 17592186044416 then some l0 else none
theorem slices_Clone_int64_int64.calls (A0 : Option Addr) (c0 : Nat) (l0 : List Int) (r : List Int) (w : World) (hr0 : Kd.C (Kd.int .i64) w A0 l0.length l0) (hc0 : l0.length ≤ c0) (h : slices_Clone_int64_int64.f l0 = some r) :
    Calls Try.prog 68 #[.slice A0 l0.length c0] w fun e w' => ∃ v0_ : Value,e = .returned (v0_) ∧ Kd.R (Kd.int .i64) 2 w' w.heap.size (fun _ => True) v0_ r ∧ Below w.heap.size w w' := by
  unfold slices_Clone_int64_int64.f at h
  by_cases c : l0.length < 17592186044416
  · rw [if_pos c] at h
    obtain rfl := Option.some.inj h;exact Clone.calls A0 c0 l0 w hr0 hc0 c
  · rw [if_neg c] at h
    cases h
theorem R_zeros {g n c base : Nat} {ok : Nat → Prop} (hbg : base ≤ g) : ∀ (m i : Nat) (W : World) (xs : List Int), Kd.R (Kd.int .i64) 2 W base ok (.slice (some ⟨g, 0, none⟩) n c) xs →
    ∃ ys : List Int,ys.length = xs.length ∧ ys.take i = xs.take i ∧ Kd.R (Kd.int .i64) 2 (W.setCells g i (List.replicate m (.int .i64 0))) base ok (.slice (some ⟨g,0,none⟩) n c) ys ∧ Below base W (W.setCells g i (List.replicate m (.int .i64 0)))
  | 0,i,W,xs,h => ⟨xs,rfl,rfl,h,Below.refl _ _⟩
  | m + 1,i,W,xs,h => by
    have h1 := (Kd.R_putg h (i : Int) (0 : Int)).1;rw [Int.toNat_natCast] at h1;obtain ⟨ys,e1,e2,e3,e4⟩ := R_zeros hbg m (i + 1) _ _ h1;refine ⟨ys,by rw [e1,List.length_set],?_,e3,?_⟩
    · have e5 : ys.take i = (ys.take (i + 1)).take i := by rw [List.take_take,Nat.min_eq_left (by omega)]
      rw [e5,e2,List.take_take,Nat.min_eq_left (by omega),List.take_set_of_le (Nat.le_refl i)]
    · exact Below.trans ((Below.refl base W).setCell hbg _) e4
theorem idxOf_hit {p : Int → Bool} {xs : List Int} (h : ¬ idxOf p xs = -1) : ∃ i : Nat, idxOf p xs = (i : Int) ∧ ∃ x, xs[i]? = some x ∧ p x = true ∧ ∀ j, j < i → ∀ y, xs[j]? = some y → p y = false := by
  unfold idxOf at h ⊢
  cases e : xs.findIdx? p with
  | none => rw [e] at h;exact absurd rfl h
  | some i =>
    rw [List.findIdx?_eq_some_iff_getElem] at e;obtain ⟨hl,hp,hb⟩ := e;refine ⟨i,rfl,xs[i],List.getElem?_eq_getElem hl,hp,fun j hj y hy => ?_⟩;obtain ⟨hl2,e2⟩ := List.getElem?_eq_some_iff.1 hy;have := hb j hj;rw [e2] at this
    simpa using this
theorem filter_take_all {p : Int → Bool} {xs : List Int} : ∀ i : Nat, (∀ j, j < i → ∀ y, xs[j]? = some y → p y = false) → (xs.take i).filter (fun x => !p x) = xs.take i := by
  intro i h;rw [List.filter_eq_self];intro x hx;obtain ⟨j,hj,e⟩ := List.getElem_of_mem hx;rw [List.length_take] at hj;have e2 : xs[j]? = some x := by rw [← e,List.getElem_take,List.getElem?_eq_getElem (by omega)]
  rw [h j (by omega) x e2]
  rfl
set_option maxHeartbeats 16000000 in
set_option maxRecDepth 100000 in
theorem DeleteFunc.calls (f : FuncId) (cap : Array Value) (p : Int → Bool) (hF : HasFn f) (base : Nat) (ok : Nat → Prop) (v : Value) (xs : List Int) (w : World) (hb0 : base ≤ w.heap.size)
    (ho : Kd.R (Kd.int .i64) 2 w base ok v xs) (hlen : xs.length < 4611686018427387904)
    (hT : ∀ x ∈ xs,∀ w1 : World,Below base w w1 → Calls Try.prog f (#[.int .i64 x] ++ cap) w1 fun e w' => e = .returned (.bool (p x)) ∧ Drawn0 w1 w') :
    Calls Try.prog 67 #[v,.func (.func f) #[] cap] w fun e w' => ∃ v' : Value,e = .returned v' ∧ Kd.R (Kd.int .i64) 2 w' base ok v' (xs.filter fun x => !p x) ∧ Below base w w' := by
  have HT := aK hT;have HF := aK hF;have HO := aK ho;have HN := aK hlen;have hTests : Tests f cap p xs w := ⟨hF,fun x hx n => hT x hx _ (by repeat (first | exact Below.refl _ _ | apply pw_below_drewN))⟩;have HTS := aK hTests;clear hT hF ho hlen hTests;obtain ⟨A0,c0,e0⟩ := Kd.R_slice HO.out;subst e0
  by_cases hany : idxOf p xs = -1
  · have hnone : xs.any p = false := by rw [← idxOf_any,hany];rfl
    have hkeep : xs.filter (fun x => !p x) = xs := by
      rw [List.filter_eq_self];intro x hx;rw [List.any_eq_false] at hnone
      simpa using hnone x hx
    have HI := aK hany;clear hany;go_enter Try.func67,Try.ntmps67
    go_wp2_with (first | ((with_reducible refine gate_dst (N := 10) rfl ?_);refine goesL_ (some 10) rfl rfl Try.func100 (by kernel_rfl) rfl #[.slice A0 xs.length c0,.func (.func f) #[] cap] rfl (by (try simp only [List.map_toArray,List.map_cons,List.map_nil]);first | done | rfl) ?_;(with_reducible refine (IndexFunc.calls f cap p _ _ xs _ ?side1 ?side2 HTS.out).mono ?_);(case side1 => exact (Kd.R_reads' HO.out).2.2);(case side2 => exact (Kd.R_reads' HO.out).2.1);rw [HI.out];rintro e w1 ⟨rfl,⟨nd,rfl⟩⟩;refine ⟨_,rfl,?_⟩))
    go_ret;rw [hkeep];exact ⟨_,rfl,Kd.R_drewN HO.out _,by repeat (first | exact Below.refl _ _ | apply pw_below_drewN)⟩
  · obtain ⟨i0,hi0,x0,hx0,hpx0,hbef⟩ := idxOf_hit hany
    have hl0 : i0 < xs.length := (List.getElem?_eq_some_iff.1 hx0).1;have hstart : (xs.take (i0 + 1)).filter (fun x => !p x) = xs.take i0 := by
      rw [List.take_add_one,hx0,List.filter_append,filter_take_all i0 hbef]
      simp [hpx0]
    have hne : ((i0 : Int) == -1) = false := beq_eq_false_iff_ne.2 (by omega);have HI := aK hi0;have HS := aK hstart;have HL0 := aK hl0;clear hany hi0 hx0 hpx0 hbef hstart hl0;obtain ⟨go,co,eo,gb,gl,cl,HG⟩ := Kd.R_form HO.out (by have := HL0.out;omega);cases eo;have GB := aK gb;clear gb gl HG;go_enter Try.func67,Try.ntmps67
    go_wp2_with (first | ((with_reducible refine gate_dst (N := 10) rfl ?_);refine goesL_ (some 10) rfl rfl Try.func100 (by kernel_rfl) rfl #[.slice (some ⟨go,0,none⟩) xs.length c0,.func (.func f) #[] cap] rfl (by (try simp only [List.map_toArray,List.map_cons,List.map_nil]);first | done | rfl) ?_;(with_reducible refine (IndexFunc.calls f cap p _ _ xs _ ?side1 ?side2 HTS.out).mono ?_);(case side1 => exact (Kd.R_reads' HO.out).2.2);(case side2 => exact (Kd.R_reads' HO.out).2.1);rw [HI.out];rintro e w1 ⟨rfl,⟨nd,hnd⟩⟩;refine ⟨_,rfl,?_⟩;have n0_ := aK (hnd.symm ▸ Kd.R_drewN HO.out nd : Kd.R (Kd.int .i64) 2 w1 base ok (.slice (some ⟨go,0,none⟩) xs.length c0) xs);have HB := aK (hnd.symm ▸ (by repeat (first | exact Below.refl _ _ | apply pw_below_drewN) : Below base w (w.drewN nd)) : Below base w w1);clear HO hnd;have HO := n0_;clear n0_))
    go_loopg [5,6,7] xs.length (fun gg s5 s6 _ wr => ∃ (i j : Nat) (ys : List Int),s5 = .int .i64 (i : Int) ∧ s6 = .int .i64 (j : Int) ∧ Aside0 (i < j ∧ j ≤ xs.length ∧ xs.length - j ≤ gg ∧ ys.length = xs.length ∧ ys.take i = (xs.take j).filter (fun x => !p x) ∧ ys.drop j = xs.drop j) ∧ Aside0 (Kd.R (Kd.int .i64) 2 wr base ok (.slice (some ⟨go,0,none⟩) xs.length c0) ys) ∧ Aside0 (Below base w wr))
    case atStart =>
      have hw_ : wrap64 ((i0 : Int) + 1) = ((i0 + 1 : Nat) : Int) := by have := HL0.out;have := HN.out;unfold wrap64;omega
      exact ⟨i0,i0 + 1,xs,rfl,(by first | (rw [← hw_];done) | (rw [← hw_];rfl)),⟨by omega,by have := HL0.out;omega,by omega,rfl,HS.out.symm,rfl⟩,HO,HB⟩
    case round =>
      clear HO HB HI HS HL0 HTS hne;obtain ⟨i,j,ys,rfl,rfl,HV,HO,HB⟩ := hrel;obtain ⟨v1,v2,v3,v4,v5,v6⟩ := HV.out
      by_cases hlt : j < xs.length
      · obtain ⟨x,hx⟩ : ∃ x,xs[j]? = some x := ⟨xs[j],List.getElem?_eq_getElem hlt⟩
        have hyx : ys[j]? = some x := by
          have e1 : (ys.drop j)[0]? = (xs.drop j)[0]? := by rw [v6]
          rw [List.getElem?_drop,List.getElem?_drop] at e1
          simpa [hx] using e1
        have hm : x ∈ xs := List.mem_of_getElem? hx;have hry : rd ys (j : Int) = x := by unfold rd;rw [Int.toNat_natCast,List.getD_eq_getElem?_getD,hyx];rfl
        obtain ⟨hxj,hfj⟩ := Kd.R_celln (0 : Int) HO.out (j : Int) (by omega) (by omega);rw [show rdOf (0 : Int) ys (j : Int) = x from hry,Int.toNat_natCast] at hxj;rw [Int.toNat_natCast] at hfj;have hcall := HT.out x hm wr HB.out;have hjn : decide ((j : Int) < (xs.length : Int)) = true := decide_eq_true (by omega);have pj : (0 ≤ (j : Int)) = True := eq_true (by omega);have qj : ((j : Int) < (xs.length : Int)) = True := eq_true (by omega);have pi : (0 ≤ (i : Int)) = True := eq_true (by omega);have qi : ((i : Int) < (xs.length : Int)) = True := eq_true (by omega)
        cases hp : p x
        · rw [hp] at hcall
          have HC := aK hcall;have HX := aK hx;have HLT := aK hlt;have HP := aK hp;clear hcall hx hyx hm hry v1 v2 v3 v4 v5 v6 hlt hp
          go_wp2_with (first | ((with_reducible refine gate_dst (N := 28) rfl ?_);refine goesV_ (some 28) rfl rfl f cap HF.out #[.int .i64 x] rfl rfl (by (try simp only [List.map_toArray,List.map_cons,List.map_nil]);first | done | rfl) ?_;(with_reducible refine HC.out.mono ?_);rintro e w2 ⟨rfl,⟨nd,hnd⟩⟩;refine ⟨_,rfl,?_⟩;have n0_ := aK (hnd.symm ▸ Kd.R_drewN HO.out nd : Kd.R (Kd.int .i64) 2 w2 base ok (.slice (some ⟨go,0,none⟩) xs.length c0) ys);have n1_ := aK (hnd.symm ▸ (by repeat (first | exact HB.out | apply pw_below_drewN) : Below base w (wr.drewN nd)) : Below base w w2);clear HO HB hnd hxj hfj;have HO := n0_;have HB := n1_;clear n0_ n1_;obtain ⟨hxi,hfi⟩ := Kd.R_celln (0 : Int) HO.out (i : Int) (by omega) (by have := HV.out;omega);rw [Int.toNat_natCast] at hxi hfi;have HP7 := Kd.R_putg HO.out (i : Int) x;rw [Int.toNat_natCast] at HP7) | ((with_reducible refine gate_store (t := 2) (p := 33) rfl ?_);refine store_event (t := 2) (p := 33) (v := ?vo_w8) (w1 := (w2.setCell ⟨go,i,none⟩ (.int .i64 x))) ?hg ?ho ?hn ?hr ?_;(case ho => rfl);(case hg => rfl);(case hn => rfl);(case hr => first | (go_simp;done) | (go_simp;rfl));intro w8 hw;have n0_ := aK (hw.symm ▸ HP7.1 : Kd.R (Kd.int .i64) 2 w8 base ok (.slice (some ⟨go,0,none⟩) xs.length c0) (ys.set i x));have n1_ := aK (hw.symm ▸ HB.out.setCell GB.out _ : Below base w w8);clear HP7 HO HB hw hxi hfi;have HO := n0_;have HB := n1_;clear n0_ n1_))
          go_roundg (xs.length - (j + 1))
          case measure => have := HV.out;have := HLT.out;omega
          case rel =>
            have hv := HV.out;have hlt := HLT.out;have hn := HN.out;have hi_ : wrap64 ((i : Int) + 1) = ((i + 1 : Nat) : Int) := by unfold wrap64;omega
            have hj_ : wrap64 ((j : Int) + 1) = ((j + 1 : Nat) : Int) := by unfold wrap64;omega
            refine ⟨i + 1,j + 1,ys.set i x,(by first | (rw [← hi_];done) | (rw [← hi_];rfl)),(by first | (rw [← hj_];done) | (rw [← hj_];rfl)),⟨by omega,by omega,by omega,by rw [List.length_set];omega,?_,?_⟩,HO,HB⟩
            · rw [List.take_add_one,List.take_set_of_le (Nat.le_refl i),List.getElem?_set_self (by omega),hv.2.2.2.2.1,List.take_add_one,HX.out,List.filter_append]
              simp [HP.out]
            · rw [List.drop_set_of_lt (by omega),show j + 1 = j + 1 from rfl,← List.drop_drop,hv.2.2.2.2.2,List.drop_drop]
        · rw [hp] at hcall
          have HC := aK hcall;have HX := aK hx;have HLT := aK hlt;have HP := aK hp;clear hcall hx hyx hm hry v1 v2 v3 v4 v5 v6 hlt hp
          go_wp2_with (first | ((with_reducible refine gate_dst (N := 28) rfl ?_);refine goesV_ (some 28) rfl rfl f cap HF.out #[.int .i64 x] rfl rfl (by (try simp only [List.map_toArray,List.map_cons,List.map_nil]);first | done | rfl) ?_;(with_reducible refine HC.out.mono ?_);rintro e w2 ⟨rfl,⟨nd,hnd⟩⟩;refine ⟨_,rfl,?_⟩;have n0_ := aK (hnd.symm ▸ Kd.R_drewN HO.out nd : Kd.R (Kd.int .i64) 2 w2 base ok (.slice (some ⟨go,0,none⟩) xs.length c0) ys);have n1_ := aK (hnd.symm ▸ (by repeat (first | exact HB.out | apply pw_below_drewN) : Below base w (wr.drewN nd)) : Below base w w2);clear HO HB hnd hxj hfj;have HO := n0_;have HB := n1_;clear n0_ n1_))
          go_roundg (xs.length - (j + 1))
          case measure => have := HV.out;have := HLT.out;omega
          case rel =>
            have hv := HV.out;have hlt := HLT.out;have hn := HN.out;have hj_ : wrap64 ((j : Int) + 1) = ((j + 1 : Nat) : Int) := by unfold wrap64;omega
            refine ⟨i,j + 1,ys,rfl,(by first | (rw [← hj_];done) | (rw [← hj_];rfl)),⟨by omega,by omega,by omega,by omega,?_,?_⟩,HO,HB⟩
            · rw [hv.2.2.2.2.1,List.take_add_one,HX.out,List.filter_append]
              simp [HP.out]
            · rw [← List.drop_drop,hv.2.2.2.2.2,List.drop_drop]
      · have hjn : decide ((j : Int) < (xs.length : Int)) = false := decide_eq_false (by omega)
        have hcl : ∀ ty,(Builtin.clear_ #[22] ty #[.slice (some ⟨go,i,none⟩) (xs.length - i) (c0 - i)]).run Try.prog wr = .ok (.tuple #[]) (wr.setCells go i (List.replicate (xs.length - i) (.int .i64 0))) :=
          fun ty => Go.Lib.run_clear_slice wr _ _ ty _ Try.underlying22 (fun _ => rfl) rfl rfl go i _ _ (by omega)
            (fun t ht => by have h := (Kd.R_celln (0 : Int) HO.out ((i + t : Nat) : Int) (by omega) (by omega)).1;rw [Int.toNat_natCast] at h;rw [h];rfl)
            (fun t ht => by have h := (Kd.R_celln (0 : Int) HO.out ((i + t : Nat) : Int) (by omega) (by omega)).2;rw [Int.toNat_natCast] at h;exact h)
        obtain ⟨zs,z1,z2,z3,z4⟩ := R_zeros GB.out (xs.length - i) i wr ys HO.out;have hz : zs.take i = xs.filter (fun x => !p x) := by rw [z2,v5,List.take_of_length_le (by omega)]
        have Z3 := aK z3;have Z4 := aK z4;have HZ := aK hz;have Z1 := aK z1;have hi0 : (0 ≤ (i : Int)) = True := eq_true (by omega);have hin : i ≤ xs.length := by omega
        have hcap := (Kd.R_reads' HO.out).2.1;have hic : i ≤ c0 := by omega
        have hnc : ¬ (c0 = i) := by omega
        have hnc2 : ¬ (i = c0) := by omega
        have hnc3 : ¬ (c0 - i = 0) := by omega
        have hnl : ¬ (xs.length = i) := by omega
        clear z1 z2 z3 z4 hz v1 v2 v3 v4 v5 v6;go_wp2;go_ret;rw [← HZ.out];exact ⟨_,rfl,Kd.R_take Z3.out (by have := Z1.out;have := HV.out;omega),HB.out.trans Z4.out⟩
def keepAt (xs : List Int) (m : Nat) : Bool := decide (m = 0) || !(xs.getD m 0 == xs.getD (m - 1) 0)
def uniqTo (xs : List Int) : Nat → List Int
  | 0 => []
  | m + 1 => uniqTo xs m ++ (if keepAt xs m = true then [xs.getD m 0] else [])
def uniq (xs : List Int) : List Int := uniqTo xs xs.length
theorem uniqTo_keep {xs : List Int} {m : Nat} {x : Int} (hx : xs[m]? = some x) (h : keepAt xs m = true) : uniqTo xs (m + 1) = uniqTo xs m ++ [x] := by
  rw [uniqTo,if_pos h,List.getD_eq_getElem?_getD,hx];rfl
theorem uniqTo_skip {xs : List Int} {m : Nat} (h : keepAt xs m = false) : uniqTo xs (m + 1) = uniqTo xs m := by
  rw [uniqTo,if_neg (by rw [h];decide),List.append_nil]
theorem keepAt_eq {xs : List Int} {m : Nat} {x y : Int} (h0 : 0 < m) (hx : xs[m]? = some x) (hy : xs[m - 1]? = some y) : keepAt xs m = !(x == y) := by
  unfold keepAt;rw [decide_eq_false (by omega),Bool.false_or,List.getD_eq_getElem?_getD,List.getD_eq_getElem?_getD,hx,hy];rfl
set_option maxHeartbeats 16000000 in
set_option maxRecDepth 100000 in
theorem Compact.calls (base : Nat) (ok : Nat → Prop) (v : Value) (xs : List Int) (w : World) (hb0 : base ≤ w.heap.size)
    (ho : Kd.R (Kd.int .i64) 2 w base ok v xs) (hlen : xs.length < 4611686018427387904) :
    Calls Try.prog 106 #[v] w fun e w' => ∃ v' : Value,e = .returned v' ∧ Kd.R (Kd.int .i64) 2 w' base ok v' (uniq xs) ∧ Below base w w' := by
  have HO := aK ho;have HN := aK hlen;clear ho hlen;obtain ⟨A0,c0,e0⟩ := Kd.R_slice HO.out;subst e0
  by_cases hsmall : xs.length < 2
  · have hkeep : uniq xs = xs := by
      match xs,hsmall with
      | [],_ => rfl
      | [a],_ => rfl
    have hs : decide ((xs.length : Int) < 2) = true := decide_eq_true (by omega);clear hsmall;go_enter Try.func106,Try.ntmps106;go_wp2;go_ret;rw [hkeep];exact ⟨_,rfl,by (with_reducible repeat (first | apply Kd.R_alloc | apply Kd.R_drewN | apply Kd.R_drew));exact HO.out,by repeat (first | exact Below.refl _ _ | apply pw_below_drewN | apply below_drew)⟩
  · have hs : decide ((xs.length : Int) < 2) = false := decide_eq_false (by omega)
    have HL := aK (show 2 ≤ xs.length by omega);clear hsmall;obtain ⟨go,co,eo,gb,gl,cl,HG⟩ := Kd.R_form HO.out (by have := HL.out;omega);cases eo;have GB := aK gb;clear gb gl HG;have HB := aK (Below.refl base w);go_enter Try.func106,Try.ntmps106;go_wp2
    go_loopg [3] xs.length (fun gg s3 wr => ∃ k : Nat,s3 = .int .i64 (k : Int) ∧ Aside0 (1 ≤ k ∧ k ≤ xs.length ∧ xs.length - k ≤ gg ∧ uniqTo xs k = xs.take k) ∧ Aside0 (Kd.R (Kd.int .i64) 2 wr base ok (.slice (some ⟨go,0,none⟩) xs.length c0) xs) ∧ Aside0 (Below base w wr))
    case atStart =>
      refine ⟨1,rfl,⟨by omega,by have := HL.out;omega,by omega,?_⟩,⟨by (with_reducible repeat (first | apply Kd.R_alloc | apply Kd.R_drewN | apply Kd.R_drew));exact HO.out⟩,⟨by repeat (first | exact HB.out | apply pw_below_drewN | apply below_drew)⟩⟩;obtain ⟨a,ha⟩ : ∃ a,xs[0]? = some a := ⟨xs[0]'(by have := HL.out;omega),List.getElem?_eq_getElem _⟩;rw [uniqTo_keep ha rfl,List.take_add_one,ha];rfl
    case round =>
      clear HO HB hs;obtain ⟨k,rfl,HV,HO,HB⟩ := hrel;obtain ⟨v1,v2,v3,v4⟩ := HV.out
      by_cases hlt : k < xs.length
      · obtain ⟨x,hx⟩ : ∃ x,xs[k]? = some x := ⟨xs[k],List.getElem?_eq_getElem hlt⟩
        obtain ⟨y,hy⟩ : ∃ y,xs[k - 1]? = some y := ⟨xs[k - 1],List.getElem?_eq_getElem (by omega)⟩;have hke := keepAt_eq v1 hx hy;obtain ⟨hxk,_⟩ := Kd.R_celln (0 : Int) HO.out (k : Int) (by omega) (by omega);obtain ⟨hyk,_⟩ := Kd.R_celln (0 : Int) HO.out ((k - 1 : Nat) : Int) (by omega) (by omega);rw [show rdOf (0 : Int) xs (k : Int) = x by unfold rdOf;rw [Int.toNat_natCast,List.getD_eq_getElem?_getD,hx];rfl,Int.toNat_natCast] at hxk;rw [show rdOf (0 : Int) xs ((k - 1 : Nat) : Int) = y by unfold rdOf;rw [Int.toNat_natCast,List.getD_eq_getElem?_getD,hy];rfl,Int.toNat_natCast] at hyk;have hjn : decide ((k : Int) < (xs.length : Int)) = true := decide_eq_true (by omega);have pj : (0 ≤ (k : Int)) = True := eq_true (by omega);have qj : ((k : Int) < (xs.length : Int)) = True := eq_true (by omega);have hm : wrap64 ((k : Int) - 1) = ((k - 1 : Nat) : Int) := by have := HN.out;unfold wrap64;omega
        have hmw : IntKind.i64.wrap ((k : Int) - 1) = ((k - 1 : Nat) : Int) := (i64_w _).trans hm;have pi : (0 ≤ ((k - 1 : Nat) : Int)) = True := eq_true (by omega);have qi : (((k - 1 : Nat) : Int) < (xs.length : Int)) = True := eq_true (by omega);have HX := aK hx;have HKE := aK hke;have HLT := aK hlt;clear hx hy hke hlt v1 v2 v3 v4
        cases hp : (x == y)
        · go_wp2
          repeat (go_quiet (fail);try go_wp2)
          go_roundg (xs.length - (k + 1))
          case measure => have := HV.out;have := HLT.out;omega
          case rel =>
            have hv := HV.out;have hlt := HLT.out;have hn := HN.out;have hj_ : wrap64 ((k : Int) + 1) = ((k + 1 : Nat) : Int) := by unfold wrap64;omega
            refine ⟨k + 1,(by first | (rw [← hj_];done) | (rw [← hj_];rfl)),⟨by omega,by omega,by omega,?_⟩,⟨by (with_reducible repeat (first | apply Kd.R_alloc | apply Kd.R_drewN | apply Kd.R_drew));exact HO.out⟩,⟨by repeat (first | exact HB.out | apply pw_below_drewN | apply below_drew)⟩⟩;rw [uniqTo_keep HX.out (by rw [HKE.out,hp];rfl),hv.2.2.2,List.take_add_one,HX.out];rfl
        · have HP := aK hp
          have hv := HV.out;have hcap := (Kd.R_reads' HO.out).2.1;have hkl := HLT.out;have hkc : k ≤ c0 := by omega
          have hnc : ¬ (c0 = k) := by omega
          have hnc2 : ¬ (k = c0) := by omega
          have hnc3 : ¬ (c0 - k = 0) := by omega
          have hnl : ¬ (xs.length = k) := by omega
          have hkl2 : k ≤ xs.length := by omega
          clear hv;go_wp2
          repeat (go_quiet (fail);try go_wp2)
          have HO2 : Aside0 (Kd.R (Kd.int .i64) 2 wr base ok (.slice (some ⟨go,0,none⟩) xs.length c0) xs) := HO
          go_loopg [3,5] xs.length (fun gg s3 s5 wq => ∃ (i j : Nat) (ys : List Int),s3 = .int .i64 (i : Int) ∧ s5 = .int .i64 (j : Int) ∧ Aside0 (1 ≤ j ∧ k + j ≤ xs.length ∧ xs.length - (k + j) ≤ gg ∧ i < k + j ∧ ys.length = xs.length ∧ ys.take i = uniqTo xs (k + j) ∧ ∀ m,k + j ≤ m + 1 → ys[m]? = xs[m]?) ∧ Aside0 (Kd.R (Kd.int .i64) 2 wq base ok (.slice (some ⟨go,0,none⟩) xs.length c0) ys) ∧ Aside0 (Below base w wq))
          case atStart =>
            have hv := HV.out;refine ⟨k,1,xs,rfl,rfl,⟨by omega,by omega,by omega,by omega,rfl,?_,fun _ _ => rfl⟩,⟨by (with_reducible repeat (first | apply Kd.R_alloc | apply Kd.R_drewN | apply Kd.R_drew));exact HO.out⟩,⟨by repeat (first | exact HB.out | apply pw_below_drewN | apply below_drew)⟩⟩;rw [uniqTo_skip (by rw [HKE.out,HP.out];rfl),hv.2.2.2]
          case round =>
            clear HO HB hxk hyk hjn pj qj pi qi hm hmw hnc hnc2 hnc3 hnl;have HK := aK (And.intro hkl2 hkc);clear hkl2 hkc hcap hkl;obtain ⟨i,j,ys,rfl,rfl,HV2,HO,HB⟩ := hrel;obtain ⟨v1,v2,v3,v4,v5,v6,v7⟩ := HV2.out;have hkk := HK.out
            by_cases hlt : k + j < xs.length
            · obtain ⟨x2,hx⟩ : ∃ x,xs[k + j]? = some x := ⟨xs[k + j],List.getElem?_eq_getElem hlt⟩
              obtain ⟨y2,hy⟩ : ∃ y,xs[k + j - 1]? = some y := ⟨xs[k + j - 1],List.getElem?_eq_getElem (by omega)⟩;have hke := keepAt_eq (by omega) hx hy;have hyx : ys[k + j]? = some x2 := (v7 _ (by omega)).trans hx;have hyy : ys[k + j - 1]? = some y2 := (v7 _ (by omega)).trans hy;obtain ⟨hxk,hfk⟩ := Kd.R_celln (0 : Int) HO.out ((k + j : Nat) : Int) (by omega) (by omega);obtain ⟨hyk,_⟩ := Kd.R_celln (0 : Int) HO.out ((k + j - 1 : Nat) : Int) (by omega) (by omega);rw [show rdOf (0 : Int) ys ((k + j : Nat) : Int) = x2 by unfold rdOf;rw [Int.toNat_natCast,List.getD_eq_getElem?_getD,hyx];rfl,Int.toNat_natCast] at hxk;rw [show rdOf (0 : Int) ys ((k + j - 1 : Nat) : Int) = y2 by unfold rdOf;rw [Int.toNat_natCast,List.getD_eq_getElem?_getD,hyy];rfl,Int.toNat_natCast,show k + j - 1 = k + (j - 1) by omega] at hyk;have hjn : decide ((j : Int) < ((xs.length - k : Nat) : Int)) = true := decide_eq_true (by omega);have hjn2 : decide (j < xs.length - k) = true := decide_eq_true (by omega);have pj : (0 ≤ (j : Int)) = True := eq_true (by omega);have qj : ((j : Int) < ((xs.length - k : Nat) : Int)) = True := eq_true (by omega);have qj2 : (j < xs.length - k) = True := eq_true (by omega);have hm : wrap64 ((j : Int) - 1) = ((j - 1 : Nat) : Int) := by have := HN.out;unfold wrap64;omega
              have hmw : IntKind.i64.wrap ((j : Int) - 1) = ((j - 1 : Nat) : Int) := (i64_w _).trans hm;have pi : (0 ≤ ((j - 1 : Nat) : Int)) = True := eq_true (by omega);have qi : (((j - 1 : Nat) : Int) < ((xs.length - k : Nat) : Int)) = True := eq_true (by omega);have qi2 : (j - 1 < xs.length - k) = True := eq_true (by omega);have ri : (0 ≤ (i : Int)) = True := eq_true (by omega);have ri2 : ((i : Int) < (xs.length : Int)) = True := eq_true (by omega);have HX2 := aK hx;have HKE2 := aK hke;have HLT2 := aK hlt;clear hx hy hke hyx hyy hlt hkk v1 v2 v3 v4 v5 v6 v7
              cases hp2 : (x2 == y2)
              · have hne2 : (x2 != y2) = true := by show (!(x2 == y2)) = true;rw [hp2];rfl
                go_wp2
                go_quiet (fail)
                have n0_ := aK (Kd.R_drewN HO.out nq);have n1_ := aK (pw_below_drewN HB.out nq);clear HO HB hxk hfk hyk;have HO := n0_;have HB := n1_;clear n0_ n1_
                generalize wr.drewN nq = w7 at HO HB ⊢
                obtain ⟨hxk,_⟩ := Kd.R_celln (0 : Int) HO.out ((k + j : Nat) : Int) (by omega) (by have := HLT2.out;have := HV2.out;omega);have hyx2 : ys[k + j]? = some x2 := (HV2.out.2.2.2.2.2.2 _ (by omega)).trans HX2.out;rw [show rdOf (0 : Int) ys ((k + j : Nat) : Int) = x2 by unfold rdOf;rw [Int.toNat_natCast,List.getD_eq_getElem?_getD,hyx2];rfl,Int.toNat_natCast] at hxk;obtain ⟨hxi,hfi⟩ := Kd.R_celln (0 : Int) HO.out (i : Int) (by omega) (by have := HV2.out;omega);rw [Int.toNat_natCast] at hxi hfi;have HP7 := Kd.R_putg HO.out (i : Int) x2;rw [Int.toNat_natCast] at HP7;clear hyx2
                go_wp2_with (first | ((with_reducible refine gate_store (t := 2) (p := 51) rfl ?_);refine store_event (t := 2) (p := 51) (v := ?vo_w8) (w1 := (w7.setCell ⟨go,i,none⟩ (.int .i64 x2))) ?hg ?ho ?hn ?hr ?_;(case ho => rfl);(case hg => rfl);(case hn => rfl);(case hr => first | (go_simp;done) | (go_simp;rfl));intro w8 hw;have n0_ := aK (hw.symm ▸ HP7.1 : Kd.R (Kd.int .i64) 2 w8 base ok (.slice (some ⟨go,0,none⟩) xs.length c0) (ys.set i x2));have n1_ := aK (hw.symm ▸ HB.out.setCell GB.out _ : Below base w w8);clear HP7 HO HB hw hxi hfi hxk;have HO := n0_;have HB := n1_;clear n0_ n1_))
                go_roundg (xs.length - (k + (j + 1)))
                case measure => have := HV2.out;have := HLT2.out;omega
                case rel =>
                  have hv := HV2.out;have hlt := HLT2.out;have hn := HN.out;have hi_ : wrap64 ((i : Int) + 1) = ((i + 1 : Nat) : Int) := by unfold wrap64;omega
                  have hj_ : wrap64 ((j : Int) + 1) = ((j + 1 : Nat) : Int) := by unfold wrap64;omega
                  refine ⟨i + 1,j + 1,ys.set i x2,(by first | (rw [← hi_];done) | (rw [← hi_];rfl)),(by first | (rw [← hj_];done) | (rw [← hj_];rfl)),⟨Nat.le_add_left 1 j,hlt,Nat.le_refl _,Nat.succ_lt_succ hv.2.2.2.1,(List.length_set ..).trans hv.2.2.2.2.1,?_,?_⟩,HO,HB⟩
                  · rw [List.take_add_one,List.take_set_of_le (Nat.le_refl i),List.getElem?_set_self (by rw [hv.2.2.2.2.1];exact Nat.lt_trans hv.2.2.2.1 hlt),hv.2.2.2.2.2.1,← Nat.add_assoc,uniqTo_keep HX2.out (by rw [HKE2.out,hp2];rfl)];rfl
                  · intro m hm
                    have h4 := hv.2.2.2.1;have h7 := hv.2.2.2.2.2.2;clear hv hn hi_ hj_ HV2 HV HX2 HX HKE HKE2 HLT HLT2;rw [List.getElem?_set_ne (fun e => by subst e;exact absurd (Nat.le_of_succ_le_succ hm) (Nat.not_le_of_lt h4))];exact h7 m (Nat.le_trans (Nat.le_succ _) hm)
              · have hne2 : (x2 != y2) = false := by show (!(x2 == y2)) = false;rw [hp2];rfl
                go_wp2
                go_quiet (fail)
                go_wp2
                go_roundg (xs.length - (k + (j + 1)))
                case measure => have := HV2.out;have := HLT2.out;omega
                case rel =>
                  have hv := HV2.out;have hlt := HLT2.out;have hn := HN.out;have hj_ : wrap64 ((j : Int) + 1) = ((j + 1 : Nat) : Int) := by unfold wrap64;omega
                  refine ⟨i,j + 1,ys,rfl,(by first | (rw [← hj_];done) | (rw [← hj_];rfl)),⟨Nat.le_add_left 1 j,hlt,Nat.le_refl _,Nat.lt_succ_of_lt hv.2.2.2.1,hv.2.2.2.2.1,?_,?_⟩,⟨by (with_reducible repeat (first | apply Kd.R_alloc | apply Kd.R_drewN | apply Kd.R_drew));exact HO.out⟩,⟨by repeat (first | exact HB.out | apply pw_below_drewN | apply below_drew)⟩⟩
                  · rw [← Nat.add_assoc,uniqTo_skip (by rw [HKE2.out,hp2];rfl),hv.2.2.2.2.2.1]
                  · exact fun m hm => hv.2.2.2.2.2.2 m (Nat.le_trans (Nat.le_succ _) hm)
            · have hij : k + j = xs.length := by omega
              have hil : i < xs.length := by omega
              have hjn : decide ((j : Int) < ((xs.length - k : Nat) : Int)) = false := decide_eq_false (by omega);have hjn2 : decide (j < xs.length - k) = false := decide_eq_false (by omega);have hcap := (Kd.R_reads' HO.out).2.1;have hcl : ∀ ty,(Builtin.clear_ #[22] ty #[.slice (some ⟨go,i,none⟩) (xs.length - i) (c0 - i)]).run Try.prog wr = .ok (.tuple #[]) (wr.setCells go i (List.replicate (xs.length - i) (.int .i64 0))) :=
                fun ty => Go.Lib.run_clear_slice wr _ _ ty _ Try.underlying22 (fun _ => rfl) rfl rfl go i _ _ (by omega)
                  (fun t ht => by have h := (Kd.R_celln (0 : Int) HO.out ((i + t : Nat) : Int) (by omega) (by omega)).1;rw [Int.toNat_natCast] at h;rw [h];rfl)
                  (fun t ht => by have h := (Kd.R_celln (0 : Int) HO.out ((i + t : Nat) : Int) (by omega) (by omega)).2;rw [Int.toNat_natCast] at h;exact h)
              obtain ⟨zs,z1,z2,z3,z4⟩ := R_zeros GB.out (xs.length - i) i wr ys HO.out;have hz : zs.take i = uniq xs := by rw [z2,v6,hij];rfl
              have Z3 := aK z3;have Z4 := aK z4;have HZ := aK hz;have Z1 := aK z1;have hi0 : (0 ≤ (i : Int)) = True := eq_true (by omega);have hin : i ≤ xs.length := by omega
              have hic : i ≤ c0 := by omega
              have hnc : ¬ (c0 = i) := by omega
              have hnc2 : ¬ (i = c0) := by omega
              have hnc3 : ¬ (c0 - i = 0) := by omega
              have hnl : ¬ (xs.length = i) := by omega
              have HIL := aK hil;clear z1 z2 z3 z4 hz v1 v2 v3 v4 v5 v6 v7 hkk hlt hij hil;go_wp2;go_ret;rw [← HZ.out];exact ⟨_,rfl,Kd.R_take Z3.out (by have := Z1.out;have := HIL.out;have := HV2.out;omega),HB.out.trans Z4.out⟩
      · have hjn : decide ((k : Int) < (xs.length : Int)) = false := decide_eq_false (by omega)
        have hjn2 := decide_eq_false hlt;have hkeep : uniq xs = xs := by unfold uniq;rw [show xs.length = k by omega,v4,List.take_of_length_le (by omega)]
        clear v1 v2 v3 v4 hlt;go_wp2
        repeat (go_quiet (fail);try go_wp2)
        go_ret;rw [hkeep];exact ⟨_,rfl,by (with_reducible repeat (first | apply Kd.R_alloc | apply Kd.R_drewN | apply Kd.R_drew));exact HO.out,by repeat (first | exact HB.out | apply pw_below_drewN | apply below_drew)⟩
def slices_Compact_int64_int64.f (l0 : List Int) : Option (List Int) := if l0.length < 4611686018427387904 then some (uniq l0) else none
theorem compact_f {l0 r : List Int} (h : slices_Compact_int64_int64.f l0 = some r) : r = uniq l0 ∧ l0.length < 4611686018427387904 := by
  unfold slices_Compact_int64_int64.f at h
  by_cases c : l0.length < 4611686018427387904
  · rw [if_pos c] at h
    exact ⟨(Option.some.inj h).symm,c⟩
  · rw [if_neg c] at h
    cases h
attribute [local go_sem high] eqA75
/-! ### impl_Ending_openings: function 79 -/
mutual
def impl_Ending_openings.l0 : Nat → List (S75) → List Int → Int → Int → List Int → List Int → Option ((List (S75)))
 | 0,_,_,_,_,_,_ => none
 | k + 1,x3,x12,x13,x14,x216000,x216001 => if x14 < x13 then (if 0 ≤ x14 then (if x14 < (x12.length : Int) then (if x3.length < 8796093022208 then (impl_Ending_openings.l0 k (x3 ++ [(⟨false,rd x12 x14⟩ : S75)]) x12 x13 (wrap64 (x14 + 1)) x216000 x216001) else (none)) else (none)) else (none)) else ((slices_Clone_int64_int64.f x216001).bind fun t229 => ((slices_Compact_int64_int64.f t229).bind fun t232 => (impl_Ending_openings.l1 k x3 t232 (t232.length : Int) 0)))
def impl_Ending_openings.l1 : Nat → List (S75) → List Int → Int → Int → Option ((List (S75)))
 | 0,_,_,_,_ => none
 | k + 1,x3,x27,x28,x29 => if x29 < x28 then (if 0 ≤ x29 then (if x29 < (x27.length : Int) then (if x3.length < 8796093022208 then (impl_Ending_openings.l1 k (x3 ++ [(⟨true,rd x27 x29⟩ : S75)]) x27 x28 (wrap64 (x29 + 1))) else (none)) else (none)) else (none)) else (some x3)
end
def impl_Ending_openings.f (k : Nat) (l0_0 : List Int) (l0_1 : List Int) : Option ((List (S75))) := (slices_Clone_int64_int64.f l0_0).bind fun t219 => ((slices_Compact_int64_int64.f t219).bind fun t222 => (impl_Ending_openings.l0 k (([] : List (S75))) t222 (t222.length : Int) 0 l0_0 l0_1))
theorem impl_Ending_openings.mono_l : ∀ k, (∀ y0 y1 y2 y3 y4 y5, LeO (impl_Ending_openings.l0 k y0 y1 y2 y3 y4 y5) (impl_Ending_openings.l0 (k + 1) y0 y1 y2 y3 y4 y5)) ∧ (∀ y0 y1 y2 y3, LeO (impl_Ending_openings.l1 k y0 y1 y2 y3) (impl_Ending_openings.l1 (k + 1) y0 y1 y2 y3))
 | 0 => ⟨fun _ _ _ _ _ _ r h => by simp [impl_Ending_openings.l0] at h,fun _ _ _ _ r h => by simp [impl_Ending_openings.l1] at h⟩
 | k + 1 => by
  obtain ⟨ih0,ih1⟩ := impl_Ending_openings.mono_l k;refine ⟨?_,?_⟩
  ·intro y0 y1 y2 y3 y4 y5;unfold impl_Ending_openings.l0
   repeat' first
   | (with_reducible exact ih0 _ _ _ _ _ _)
   | (with_reducible exact ih1 _ _ _ _)
   | (with_reducible exact LeO.refl _)
   | (with_reducible exact LeO.none _)
   | (with_reducible refine LeO.ite ?_ ?_)
   | (with_reducible refine LeO.bind ?_ (fun _ => ?_))
   | exact ih0 _ _ _ _ _ _
   | exact ih1 _ _ _ _
   | exact LeO.none _
   | refine LeO.ite ?_ ?_
   | refine LeO.bind ?_ (fun _ => ?_)
  ·intro y0 y1 y2 y3;unfold impl_Ending_openings.l1
   repeat' first
   | (with_reducible exact ih0 _ _ _ _ _ _)
   | (with_reducible exact ih1 _ _ _ _)
   | (with_reducible exact LeO.refl _)
   | (with_reducible exact LeO.none _)
   | (with_reducible refine LeO.ite ?_ ?_)
   | (with_reducible refine LeO.bind ?_ (fun _ => ?_))
   | exact ih0 _ _ _ _ _ _
   | exact ih1 _ _ _ _
   | exact LeO.none _
   | refine LeO.ite ?_ ?_
   | refine LeO.bind ?_ (fun _ => ?_)
theorem impl_Ending_openings.mono : ∀ a0 a1 k, LeO (impl_Ending_openings.f k a0 a1) (impl_Ending_openings.f (k + 1) a0 a1) := by
 intro a0 a1 k;obtain ⟨ih0,ih1⟩ := impl_Ending_openings.mono_l k;unfold impl_Ending_openings.f
 repeat' first
  | (with_reducible exact ih0 _ _ _ _ _ _)
  | (with_reducible exact ih1 _ _ _ _)
  | (with_reducible exact LeO.refl _)
  | (with_reducible exact LeO.none _)
  | (with_reducible refine LeO.ite ?_ ?_)
  | (with_reducible refine LeO.bind ?_ (fun _ => ?_))
  | exact ih0 _ _ _ _ _ _
  | exact ih1 _ _ _ _
  | exact LeO.none _
  | refine LeO.ite ?_ ?_
  | refine LeO.bind ?_ (fun _ => ?_)
set_option maxHeartbeats 8000000 in
set_option maxRecDepth 100000 in
theorem impl_Ending_openings.calls (k : Nat) (A0_0 : Option Addr) (c0_0 : Nat) (l0_0 : List Int) (A0_1 : Option Addr) (c0_1 : Nat) (l0_1 : List Int) (r : List (S75)) (w : World) (hr0_0 : Kd.C (Kd.int .i64) w A0_0 l0_0.length l0_0) (hc0_0 : l0_0.length ≤ c0_0) (hr0_1 : Kd.C (Kd.int .i64) w A0_1 l0_1.length l0_1) (hc0_1 : l0_1.length ≤ c0_1) (h : impl_Ending_openings.f k l0_0 l0_1 = some r) :
 Calls Try.prog 79 #[.agg #[.slice A0_0 l0_0.length c0_0,.slice A0_1 l0_1.length c0_1]] w fun e w' => ∃ v0_ : Value,e = .returned (v0_) ∧ Kd.R k75 75 w' w.heap.size (fun _ => True) v0_ r ∧ Below w.heap.size w w' := by
 have hu27 := Try.underlying27;have hu75 := Try.underlying75;have HR0_0 := aK hr0_0;have HC0_0 := aK hc0_0;clear hr0_0 hc0_0;have HR0_1 := aK hr0_1;have HC0_1 := aK hc0_1;clear hr0_1 hc0_1;have HB := aK (Below.refl w.heap.size w);have H := h;clear h;unfold impl_Ending_openings.f at H;obtain ⟨y216,hy216⟩ : ∃ y_ : List (S75),y_ = (([] : List (S75))) := ⟨_,rfl⟩;replace H : ((slices_Clone_int64_int64.f l0_0).bind fun t219 => ((slices_Compact_int64_int64.f t219).bind fun t222 => (impl_Ending_openings.l0 k y216 t222 (t222.length : Int) 0 l0_0 l0_1))) = some r := by first | (rw [hy216];with_reducible exact H) | (have H2_ := (Option.bind_some _ _).symm.trans H;rw [hy216];with_reducible exact H2_) | (have H2_ := (Option.bind_some _ _).symm.trans H;with_reducible exact H2_) | with_reducible exact H | (rw [hy216];exact H) | exact H
 have Ny216 := aK hy216;clear hy216;replace H := bE H;obtain ⟨t219,A2,H⟩ := H;replace H := bE H;obtain ⟨t222,A3,H⟩ := H;have H' := aK H;clear H;go_enter Try.func79,Try.ntmps79
 go_wp2_with (first | ((with_reducible refine gate_dst (N := 1) rfl ?_);refine boxE 1 #[.slice A0_0 l0_0.length c0_0,.slice A0_1 l0_1.length c0_1] 27 ?_;intro gb215 hg w4 hbox hb;have BK215 := aK (hbox);have GW215 := aK (zG HB hg);have GE215 := aK (zG HB hg);replace HB := hB HB hb;clear hb hbox hg) | ((with_reducible refine gate_dst (N := 8) rfl ?_);refine Kd.R_lit k75 _ 75 ?hg (N := 8) ?hd (xs := ([] : List (S75))) (inner := []) (ok := fun _ => True) (okp := fun _ => True) ?hr ?hp (fun _ hk => hk) trivial (Below.refl _ _) (Nat.le_refl _) (by simp) ?_;(case hd => rfl);(case hg => rfl);(case hr => first | (go_simp;done) | (go_simp;rfl));(case hp => exact (Reps.none _ _));intro v217 w5 ho6 hb hg_ hnew_;clear hg_ hnew_;(first | rw [← Ny216.out] at ho6 | (simp only [Int.reduceToNat] at ho6;rw [← Ny216.out] at ho6));have HO218 := aK (Kd.R_lower ho6 (below_size (bN HB)));replace BK215 := kB BK215 hb;replace HB := hB HB hb;clear hb ho6;have hcz7_0 := y0 BK215;have hcz7_1 := y1 BK215;have hfz7_0 := blk_frozen BK215.out 0;have hfz7_1 := blk_frozen BK215.out 1) | ((with_reducible refine gate_callee (f := 68) rfl ?_);refine goesE (some 11) Try.func68 #[.slice A0_0 l0_0.length c0_0] ?_;(with_reducible refine (slices_Clone_int64_int64.calls _ _ l0_0 t219 _ ?side1 ?side2 A2.out).mono ?_);(case side1 => exact cB HR0_0 HB);(case side2 => exact HC0_0.out);rintro e w8 ⟨v220,rfl,ho0,hb⟩;refine ⟨_,rfl,?_⟩;have CO := aK ho0;have CB := aK hb;clear hb ho0;obtain ⟨Ao9,co9,eo9⟩ := Kd.R_slice CO.out;subst eo9) | ((with_reducible refine gate_callee (f := 106) rfl ?_);refine goesE (some 12) Try.func106 #[.slice Ao9 t219.length co9] ?_;(with_reducible refine (Compact.calls _ _ _ t219 _ CB.out.size CO.out (compact_f A3.out).2).mono ?_);rintro e w10 ⟨v223,rfl,ho0,hb2⟩;refine ⟨_,rfl,?_⟩;rw [← (compact_f A3.out).1] at ho0;have hb := CB.out.trans hb2;clear CB CO hb2;replace HO218 := rB HO218 hb;have HO224 := aK (Kd.R_lower ho0 (below_size (bN HB)));replace BK215 := kB BK215 hb;replace HB := hB HB hb;clear hb ho0;obtain ⟨Ao11,co11,eo11⟩ := Kd.R_slice HO224.out;subst eo11))
 go_loopg [3,14] k (fun kq v3 v14 w' => ∃ (x3_1 : List (S75)) (x14_1 : Int),v14 = .int .i64 x14_1 ∧ Aside0 (impl_Ending_openings.l0 kq x3_1 t222 (t222.length : Int) x14_1 l0_0 l0_1 = some r) ∧ Aside0 (kq ≤ k) ∧ Aside0 (Kd.R k75 75 w' w.heap.size (fun _ => True) v3 x3_1) ∧ Aside0 (Kd.R (Kd.int .i64) 2 w' w.heap.size (fun _ => True) (.slice Ao11 t222.length co11) t222) ∧ Aside0 (w'.heap[gb215]? = some (.cells #[(.slice A0_0 l0_0.length c0_0),(.slice A0_1 l0_1.length c0_1)] 27 (0,0))) ∧ Aside0 (Below w.heap.size w w'))
 case atStart => exact ⟨(y216),(0),rD,H',⟨Nat.le_refl _⟩,⟨rN HO218⟩,⟨rM (Kd.R_mono HO224.out (fun _ hk => trivial))⟩,⟨kN BK215⟩,⟨bN HB⟩⟩
 case round =>
  clear H';clear hcz7_0 hcz7_1 hfz7_0 hfz7_1;obtain ⟨x3_1,x14_1,rfl,HA,HK1,HO_3,HO_12,BK215,HB⟩ := hrel
  cases gk with
  | zero => exact absurd HA.out (by simp [impl_Ending_openings.l0])
  | succ k1 =>
   have H := HA.out;clear HA;simp only [impl_Ending_openings.l0] at H
   by_cases c12 : x14_1 < (t222.length : Int)
   ·rw [if_pos c12] at H;have c12b0 := decide_eq_true c12;clear c12
    by_cases c13 : 0 ≤ x14_1
    rotate_left
    ·rw [if_neg c13] at H;exact absurd H (by simp)
    rw [if_pos c13] at H;have c13b0 := decide_eq_true c13;clear c13
    by_cases c14 : x14_1 < (t222.length : Int)
    rotate_left
    ·rw [if_neg c14] at H;exact absurd H (by simp)
    rw [if_pos c14] at H;have c14b0 := decide_eq_true c14;clear c14
    by_cases c15 : x3_1.length < 8796093022208
    rotate_left
    ·rw [if_neg c15] at H;exact absurd H (by simp)
    rw [if_pos c15] at H;have LMc15 := aK c15;clear c15;obtain ⟨y226,hy226⟩ : ∃ y_ : List (S75),y_ = (x3_1 ++ [(⟨false,rd t222 x14_1⟩ : S75)]) := ⟨_,rfl⟩;replace H : (impl_Ending_openings.l0 k1 y226 t222 (t222.length : Int) (wrap64 (x14_1 + 1)) l0_0 l0_1) = some r := by first | (rw [hy226];with_reducible exact H) | (have H2_ := (Option.bind_some _ _).symm.trans H;rw [hy226];with_reducible exact H2_) | (have H2_ := (Option.bind_some _ _).symm.trans H;with_reducible exact H2_) | with_reducible exact H | (rw [hy226];exact H) | exact H
    have Ny226 := aK hy226;clear hy226;have H' := aK H;clear H;have p225 : 0 ≤ (x14_1 : Int) := dT;have q225 : x14_1 < (t222.length : Int) := dT;obtain ⟨ad225,e225,hx225_0⟩ := Kd.at_int (Kd.R_reads' HO_12.out).2.2 x14_1 p225 q225;cases e225;replace p225 := eq_true p225;replace q225 := eq_true q225
    go_wp2_with (first | ((with_reducible refine gate_builtin (b := .append) (xs := #[.tmp 18,.tmp 21]) rfl ?_);at_builtin;refine Kd.R_append k75 (w0 := w) w.heap.size rfl (.tmp 18) (.tmp 21) 73 75 (.agg #[(.bool false),(.int .i64 0)]) 16 rfl Try.underlying73 info75 rfl (by decide) (by omega) u3 x3_1 (⟨false,rd t222 x14_1⟩ : S75) [.bool false,.int .i64 (rd t222 x14_1)] (fun _ => True) (fun _ => False) rfl rfl ?aP (fun _ hk => hk.elim) ?aF ?aO ?aB ?aS ?aL ?_;(case aP => exact k75_mkM _ _ _ (⟨false,rd t222 x14_1⟩ : S75));(case aB => exact (bN HB));(case aF => exact (fun _ _ => trivial));(case aO => exact (rN HO_3));(case aS => exact (below_size (bN HB)));(case aL => have := LMc15.out;omega);intro v227 w16 ho hb hg hat;rw [← Ny226.out] at ho;replace HO_12 := aK (Kd.R_over' (rN HO_12) (Kd.R_typed (rN HO_3)) (by decide) hg);replace BK215 := aK (blk_grown (g := gb215) (o := .cells #[.slice A0_0 l0_0.length c0_0,.slice A0_1 l0_1.length c0_1] 27 (0,0)) (kN BK215) hg (Kd.R_ne HO_3.out BK215.out (by decide)));replace HB := aK (hb);have HO228 := aK (ho);clear HO_3;clear ho hb hg hat))
    go_roundg k1
    case measure => have := HK1.out;omega
    case rel => exact ⟨(y226),(wrap64 (x14_1 + 1)),rD,H',⟨by have := HK1.out;omega⟩,⟨rN HO228⟩,⟨rN HO_12⟩,⟨kN BK215⟩,⟨bN HB⟩⟩
   ·rw [if_neg c12] at H;have c12b0 := decide_eq_false c12;clear c12;replace H := bE H;obtain ⟨t229,A17,H⟩ := H;replace H := bE H;obtain ⟨t232,A18,H⟩ := H;have H' := aK H;clear H;have hcz19_0 := y0 BK215;have hcz19_1 := y1 BK215;have hfz19_0 := blk_frozen BK215.out 0;have hfz19_1 := blk_frozen BK215.out 1
    go_wp2_with (first | ((with_reducible refine gate_callee (f := 68) rfl ?_);refine goesE (some 26) Try.func68 #[.slice A0_1 l0_1.length c0_1] ?_;(with_reducible refine (slices_Clone_int64_int64.calls _ _ l0_1 t229 _ ?side1 ?side2 A17.out).mono ?_);(case side1 => exact cB HR0_1 HB);(case side2 => exact HC0_1.out);rintro e w20 ⟨v230,rfl,ho0,hb⟩;refine ⟨_,rfl,?_⟩;have CO := aK ho0;have CB := aK hb;clear hb ho0;obtain ⟨Ao21,co21,eo21⟩ := Kd.R_slice CO.out;subst eo21) | ((with_reducible refine gate_callee (f := 106) rfl ?_);refine goesE (some 27) Try.func106 #[.slice Ao21 t229.length co21] ?_;(with_reducible refine (Compact.calls _ _ _ t229 _ CB.out.size CO.out (compact_f A18.out).2).mono ?_);rintro e w22 ⟨v233,rfl,ho0,hb2⟩;refine ⟨_,rfl,?_⟩;rw [← (compact_f A18.out).1] at ho0;have hb := CB.out.trans hb2;clear CB CO hb2;replace HO_3 := rB HO_3 hb;have HO234 := aK (Kd.R_lower (Kd.R_new' ho0 (Kd.R_lt (rN HO_12))) (below_size (bN HB)));replace HO_12 := aK (Kd.R_elder' (rN HO_12) (Kd.R_base ho0) hb);replace BK215 := kB BK215 hb;replace HB := hB HB hb;clear hb ho0;obtain ⟨Ao23,co23,eo23⟩ := Kd.R_slice HO234.out;subst eo23))
    go_loopg [3,29] k1 (fun kq v3 v29 w' => ∃ (x3_2 : List (S75)) (x29_2 : Int),v29 = .int .i64 x29_2 ∧ Aside0 (impl_Ending_openings.l1 kq x3_2 t232 (t232.length : Int) x29_2 = some r) ∧ Aside0 (kq ≤ k1) ∧ Aside0 (Kd.R k75 75 w' w.heap.size (fun _ => True) v3 x3_2) ∧ Aside0 (Kd.R (Kd.int .i64) 2 w' w.heap.size (fun _ => True) (.slice Ao23 t232.length co23) t232) ∧ Aside0 (w'.heap[gb215]? = some (.cells #[(.slice A0_0 l0_0.length c0_0),(.slice A0_1 l0_1.length c0_1)] 27 (0,0))) ∧ Aside0 (Below w.heap.size w w'))
    case atStart => exact ⟨(x3_1),(0),rD,H',⟨Nat.le_refl _⟩,⟨rN HO_3⟩,⟨rM (Kd.R_mono HO234.out (fun _ hk => trivial))⟩,⟨kN BK215⟩,⟨bN HB⟩⟩
    case round =>
     clear H';clear c12b0 hcz19_0 hcz19_1 hfz19_0 hfz19_1;obtain ⟨x3_2,x29_2,rfl,HA,HK2,HO_3,HO_27,BK215,HB⟩ := hrel
     cases gk with
     | zero => exact absurd HA.out (by simp [impl_Ending_openings.l1])
     | succ k2 =>
      have H := HA.out;clear HA;simp only [impl_Ending_openings.l1] at H
      by_cases c24 : x29_2 < (t232.length : Int)
      ·rw [if_pos c24] at H;have c24b0 := decide_eq_true c24;clear c24
       by_cases c25 : 0 ≤ x29_2
       rotate_left
       ·rw [if_neg c25] at H;exact absurd H (by simp)
       rw [if_pos c25] at H;have c25b0 := decide_eq_true c25;clear c25
       by_cases c26 : x29_2 < (t232.length : Int)
       rotate_left
       ·rw [if_neg c26] at H;exact absurd H (by simp)
       rw [if_pos c26] at H;have c26b0 := decide_eq_true c26;clear c26
       by_cases c27 : x3_2.length < 8796093022208
       rotate_left
       ·rw [if_neg c27] at H;exact absurd H (by simp)
       rw [if_pos c27] at H;have LMc27 := aK c27;clear c27;obtain ⟨y236,hy236⟩ : ∃ y_ : List (S75),y_ = (x3_2 ++ [(⟨true,rd t232 x29_2⟩ : S75)]) := ⟨_,rfl⟩;replace H : (impl_Ending_openings.l1 k2 y236 t232 (t232.length : Int) (wrap64 (x29_2 + 1))) = some r := by first | (rw [hy236];with_reducible exact H) | (have H2_ := (Option.bind_some _ _).symm.trans H;rw [hy236];with_reducible exact H2_) | (have H2_ := (Option.bind_some _ _).symm.trans H;with_reducible exact H2_) | with_reducible exact H | (rw [hy236];exact H) | exact H
       have Ny236 := aK hy236;clear hy236;have H' := aK H;clear H;have p235 : 0 ≤ (x29_2 : Int) := dT;have q235 : x29_2 < (t232.length : Int) := dT;obtain ⟨ad235,e235,hx235_0⟩ := Kd.at_int (Kd.R_reads' HO_27.out).2.2 x29_2 p235 q235;cases e235;replace p235 := eq_true p235;replace q235 := eq_true q235
       go_wp2_with (first | ((with_reducible refine gate_builtin (b := .append) (xs := #[.tmp 33,.tmp 36]) rfl ?_);at_builtin;refine Kd.R_append k75 (w0 := w) w.heap.size rfl (.tmp 33) (.tmp 36) 73 75 (.agg #[(.bool false),(.int .i64 0)]) 16 rfl Try.underlying73 info75 rfl (by decide) (by omega) u3 x3_2 (⟨true,rd t232 x29_2⟩ : S75) [.bool true,.int .i64 (rd t232 x29_2)] (fun _ => True) (fun _ => False) rfl rfl ?aP (fun _ hk => hk.elim) ?aF ?aO ?aB ?aS ?aL ?_;(case aP => exact k75_mkM _ _ _ (⟨true,rd t232 x29_2⟩ : S75));(case aB => exact (bN HB));(case aF => exact (fun _ _ => trivial));(case aO => exact (rN HO_3));(case aS => exact (below_size (bN HB)));(case aL => have := LMc27.out;omega);intro v237 w28 ho hb hg hat;rw [← Ny236.out] at ho;replace HO_27 := aK (Kd.R_over' (rN HO_27) (Kd.R_typed (rN HO_3)) (by decide) hg);replace BK215 := aK (blk_grown (g := gb215) (o := .cells #[.slice A0_0 l0_0.length c0_0,.slice A0_1 l0_1.length c0_1] 27 (0,0)) (kN BK215) hg (Kd.R_ne HO_3.out BK215.out (by decide)));replace HB := aK (hb);have HO238 := aK (ho);clear HO_3;clear ho hb hg hat))
       go_roundg k2
       case measure => have := HK1.out;have := HK2.out;omega
       case rel => exact ⟨(y236),(wrap64 (x29_2 + 1)),rD,H',⟨by have := HK1.out;have := HK2.out;omega⟩,⟨rN HO238⟩,⟨rN HO_27⟩,⟨kN BK215⟩,⟨bN HB⟩⟩
      ·rw [if_neg c24] at H;have c24b0 := decide_eq_false c24;clear c24;obtain rfl := Option.some.inj H;go_wp2;go_ret;exact ⟨_,by first | rfl | (simp [errW_none,errW_some] <;> rfl) | (simp [*,errW_none,errW_some] <;> rfl),by (with_reducible repeat (first | apply Kd.R_alloc | apply Kd.R_drewN | apply Kd.R_drew));exact HO_3.out,(bN HB)⟩
/-! ### impl_opening_114: function 114 -/
def impl_opening_114.l0 : Nat → List (S75) → Int → Int → Bool → Int → Option (Int)
 | 0,_,_,_,_,_ => none
 | k + 1,x0,x7,x8,x240000,x240001 => if x8 < x7 then (if 0 ≤ x8 then (if x8 < (x0.length : Int) then (if (x240000 == ((rd_T75 x0 x8).f0) && (x240001 == ((rd_T75 x0 x8).f1))) = true then (some x8) else (impl_opening_114.l0 k x0 x7 (wrap64 (x8 + 1)) x240000 x240001)) else (none)) else (none)) else (some (-1))
def impl_opening_114.f (k : Nat) (l0 : List (S75)) (a1_0 : Bool) (a1_1 : Int) : Option (Int) := impl_opening_114.l0 k l0 (l0.length : Int) 0 a1_0 a1_1
theorem impl_opening_114.mono_l : ∀ k, (∀ y0 y1 y2 y3 y4, LeO (impl_opening_114.l0 k y0 y1 y2 y3 y4) (impl_opening_114.l0 (k + 1) y0 y1 y2 y3 y4))
 | 0 => fun _ _ _ _ _ r h => by simp [impl_opening_114.l0] at h
 | k + 1 => by
  have ih0 := impl_opening_114.mono_l k
  ·intro y0 y1 y2 y3 y4;unfold impl_opening_114.l0
   repeat' first
   | (with_reducible exact ih0 _ _ _ _ _)
   | (with_reducible exact LeO.refl _)
   | (with_reducible exact LeO.none _)
   | (with_reducible refine LeO.ite ?_ ?_)
   | (with_reducible refine LeO.bind ?_ (fun _ => ?_))
   | exact ih0 _ _ _ _ _
   | exact LeO.none _
   | refine LeO.ite ?_ ?_
   | refine LeO.bind ?_ (fun _ => ?_)
theorem impl_opening_114.mono : ∀ a0 a1 a2 k, LeO (impl_opening_114.f k a0 a1 a2) (impl_opening_114.f (k + 1) a0 a1 a2) := by
 intro a0 a1 a2 k;have ih0 := impl_opening_114.mono_l k;unfold impl_opening_114.f
 repeat' first
  | (with_reducible exact ih0 _ _ _ _ _)
  | (with_reducible exact LeO.refl _)
  | (with_reducible exact LeO.none _)
  | (with_reducible refine LeO.ite ?_ ?_)
  | (with_reducible refine LeO.bind ?_ (fun _ => ?_))
  | exact ih0 _ _ _ _ _
  | exact LeO.none _
  | refine LeO.ite ?_ ?_
  | refine LeO.bind ?_ (fun _ => ?_)
set_option maxHeartbeats 8000000 in
set_option maxRecDepth 100000 in
theorem impl_opening_114.calls (k : Nat) (A0 : Option Addr) (c0 : Nat) (l0 : List (S75)) (a1_0 : Bool) (a1_1 : Int) (r : Int) (w : World) (hr0 : Kd.C k75 w A0 l0.length l0) (hc0 : l0.length ≤ c0) (h : impl_opening_114.f k l0 a1_0 a1_1 = some r) :
 Calls Try.prog 114 #[.slice A0 l0.length c0,.agg #[.bool a1_0,.int .i64 a1_1]] w fun e w' => e = .returned (.int .i64 r) ∧ Below w.heap.size w w' := by
 have hu75 := Try.underlying75;have HR0 := aK hr0;have HC0 := aK hc0;clear hr0 hc0;have HB := aK (Below.refl w.heap.size w);have H := h;clear h;unfold impl_opening_114.f at H;have H' := aK H;clear H;go_enter Try.func114,Try.ntmps114
 go_wp2_with (first | ((with_reducible refine gate_dst (N := 3) rfl ?_);refine boxE 3 #[.bool a1_0,.int .i64 a1_1] 75 ?_;intro gb239 hg w3 hbox hb;have BK239 := aK (hbox);have GW239 := aK (zG HB hg);have GE239 := aK (zG HB hg);replace HB := hB HB hb;clear hb hbox hg))
 repeat (go_quiet (first | ((with_reducible refine gate_dst (N := 3) rfl ?_);refine box_event ?hg (N := 3) ?hd (cs := #[.bool a1_0,.int .i64 a1_1]) (t := 75) ?hr ?_;(case hd => rfl);(case hg => rfl);(case hr => first | (go_simp;done) | (go_simp;rfl));intro gb239 hg w3 hbox hb;have n0_ := hB HB hb;have n1_ := aK (hbox);have n2_ := aK (zG HB hg);have n3_ := aK (zG HB hg);replace HB := n0_;have BK239 := n1_;have GW239 := n2_;have GE239 := n3_;clear n0_ n1_ n2_ n3_;clear hb hbox hg));try go_wp2_with (first | ((with_reducible refine gate_dst (N := 3) rfl ?_);refine box_event ?hg (N := 3) ?hd (cs := #[.bool a1_0,.int .i64 a1_1]) (t := 75) ?hr ?_;(case hd => rfl);(case hg => rfl);(case hr => first | (go_simp;done) | (go_simp;rfl));intro gb239 hg w3 hbox hb;have n0_ := hB HB hb;have n1_ := aK (hbox);have n2_ := aK (zG HB hg);have n3_ := aK (zG HB hg);replace HB := n0_;have BK239 := n1_;have GW239 := n2_;have GE239 := n3_;clear n0_ n1_ n2_ n3_;clear hb hbox hg)))
 go_loopg [8] k (fun kq v8 w' => ∃ (x8_1 : Int),v8 = .int .i64 x8_1 ∧ Aside0 (impl_opening_114.l0 kq l0 (l0.length : Int) x8_1 a1_0 a1_1 = some r) ∧ Aside0 (kq ≤ k) ∧ Aside0 (w'.heap[gb239]? = some (.cells #[.bool a1_0,.int .i64 a1_1] 75 (0,0))) ∧ Aside0 (Below w.heap.size w w'))
 case atStart => exact ⟨(0),rD,H',⟨Nat.le_refl _⟩,⟨kN BK239⟩,⟨bN HB⟩⟩
 case round =>
  clear H';obtain ⟨x8_1,rfl,HA,HK1,BK239,HB⟩ := hrel
  cases gk with
  | zero => exact absurd HA.out (by simp [impl_opening_114.l0])
  | succ k1 =>
   have H := HA.out;clear HA;simp only [impl_opening_114.l0] at H
   by_cases c4 : x8_1 < (l0.length : Int)
   ·rw [if_pos c4] at H;have c4b0 := decide_eq_true c4;clear c4
    by_cases c5 : 0 ≤ x8_1
    rotate_left
    ·rw [if_neg c5] at H;exact absurd H (by simp)
    rw [if_pos c5] at H;have c5b0 := decide_eq_true c5;clear c5
    by_cases c6 : x8_1 < (l0.length : Int)
    rotate_left
    ·rw [if_neg c6] at H;exact absurd H (by simp)
    rw [if_pos c6] at H;have c6b0 := decide_eq_true c6;clear c6
    by_cases c7 : (a1_0 == ((rd_T75 l0 x8_1).f0) && (a1_1 == ((rd_T75 l0 x8_1).f1))) = true
    ·rw [if_pos c7] at H;have c7b0 : (a1_0 == ((rd_T75 l0 x8_1).f0) && (a1_1 == ((rd_T75 l0 x8_1).f1))) = true := c7;(try (have c7b1 : decide (a1_0 = ((rd_T75 l0 x8_1).f0) && (a1_1 == ((rd_T75 l0 x8_1).f1))) = true := by simpa using c7));(try (have c7b2 : (a1_0 == ((rd_T75 l0 x8_1).f0) && (a1_1 == ((rd_T75 l0 x8_1).f1))) = true := by simpa using c7));clear c7;obtain rfl := Option.some.inj H;have hcz8_0 := y0 BK239;have hcz8_1 := y1 BK239;have hfz8_0 := blk_frozen BK239.out 0;have hfz8_1 := blk_frozen BK239.out 1;have p240 : 0 ≤ (x8_1 : Int) := dT;have q240 : x8_1 < (l0.length : Int) := dT;obtain ⟨ad240,e240,hx240_0,hx240_1⟩ := at_T75 HR0.out x8_1 p240 q240;cases e240;replace hx240_0 := cO HB hx240_0;replace hx240_1 := cO HB hx240_1;replace p240 := eq_true p240;replace q240 := eq_true q240;go_wp2
     repeat (go_quiet (fail);try go_wp2)
     go_ret;exact eR (bN HB)
    ·rw [if_neg c7] at H;have c7b0 : (a1_0 == ((rd_T75 l0 x8_1).f0) && (a1_1 == ((rd_T75 l0 x8_1).f1))) = false := by simpa using c7
     (try (have c7b1 : decide (a1_0 = ((rd_T75 l0 x8_1).f0) && (a1_1 == ((rd_T75 l0 x8_1).f1))) = false := by simpa using c7));(try (have c7b2 : (a1_0 == ((rd_T75 l0 x8_1).f0) && (a1_1 == ((rd_T75 l0 x8_1).f1))) = false := by simpa using c7));(try (have c7b3 : ¬ (a1_0 = ((rd_T75 l0 x8_1).f0) && (a1_1 == ((rd_T75 l0 x8_1).f1))) := by simpa using c7));clear c7;have H' := aK H;clear H;have hcz9_0 := y0 BK239;have hcz9_1 := y1 BK239;have hfz9_0 := blk_frozen BK239.out 0;have hfz9_1 := blk_frozen BK239.out 1;have p240 : 0 ≤ (x8_1 : Int) := dT;have q240 : x8_1 < (l0.length : Int) := dT;obtain ⟨ad240,e240,hx240_0,hx240_1⟩ := at_T75 HR0.out x8_1 p240 q240;cases e240;replace hx240_0 := cO HB hx240_0;replace hx240_1 := cO HB hx240_1;replace p240 := eq_true p240;replace q240 := eq_true q240;go_wp2
     repeat (go_quiet (fail);try go_wp2)
     go_roundg k1
     case measure => have := HK1.out;omega
     case rel => exact ⟨(wrap64 (x8_1 + 1)),rD,H',⟨by have := HK1.out;omega⟩,⟨kN BK239⟩,⟨bN HB⟩⟩
   ·rw [if_neg c4] at H;have c4b0 := decide_eq_false c4;clear c4;obtain rfl := Option.some.inj H;go_wp2
    repeat (go_quiet (fail);try go_wp2)
    go_ret;exact eR (bN HB)
def opens (C L : List Int) : List (Bool × Int) := (uniq C).map (fun b => (false, b)) ++ (uniq L).map (fun b => (true, b))
def lessC (C : List Int) (o : Bool × Int) : List Int := if o.1 = true then C else C.erase o.2
def lessL (L : List Int) (o : Bool × Int) : List Int := if o.1 = true then L.erase o.2 else L
/-- What an opening leads to for who opens, where the rest has a value; and whether the answer is the sparing one. -/
def ansOf (o : Bool × Int) (rest : Int) : Int × Bool :=
  if (o.1 = true ∨ 3 ≤ o.2) ∧ rest - (o.2 - (if o.1 = true then 8 else 4)) < -o.2 - rest then (rest - (o.2 - (if o.1 = true then 8 else 4)),true) else (-o.2 - rest,false)
def maxI (a b : Int) : Int := if a < b then b else a
def valN : Nat → List Int → List Int → Int
  | 0,_,_ => 0
  | n + 1,C,L => if C = [] ∧ L = [] then 0 else ((opens C L).map (fun o => (ansOf o (valN n (lessC C o) (lessL L o))).1)).foldl maxI (-1000)
def val (C L : List Int) : Int := valN (C.length + L.length) C L
def worth (C L : List Int) (o : Bool × Int) : Int × Bool := ansOf o (val (lessC C o) (lessL L o))
theorem uniqTo_mem (xs : List Int) : ∀ (m : Nat), m ≤ xs.length → ∀ x ∈ uniqTo xs m, x ∈ xs
  | 0,_,x,h => by simp [uniqTo] at h
  | m + 1,hm,x,h => by
    rw [uniqTo,List.mem_append] at h;rcases h with h | h
    · exact uniqTo_mem xs m (by omega) x h
    · split at h
      · rw [List.mem_singleton] at h
        rw [h,List.getD_eq_getElem?_getD,List.getElem?_eq_getElem (by omega)];exact List.getElem_mem _
      · cases h
theorem uniq_mem {xs : List Int} {x : Int} (h : x ∈ uniq xs) : x ∈ xs := uniqTo_mem xs xs.length (Nat.le_refl _) x h
theorem mem_uniqTo (xs : List Int) : ∀ (m : Nat), m ≤ xs.length → ∀ x ∈ xs.take m, x ∈ uniqTo xs m
  | 0,_,x,h => by simp at h
  | m + 1,hm,x,h => by
    have hg : xs[m]? = some xs[m] := List.getElem?_eq_getElem (by omega);have ih := mem_uniqTo xs m (by omega);rw [List.take_add_one,hg] at h;rw [uniqTo,List.mem_append];rcases List.mem_append.1 h with h | h
    · exact .inl (ih x h)
    · replace h : x = xs[m] := by simpa using h
      have hd : xs.getD m 0 = x := by rw [List.getD_eq_getElem?_getD,hg,h];rfl
      by_cases c : keepAt xs m = true
      · right
        rw [if_pos c,hd];exact List.mem_singleton.2 rfl
      · left
        refine ih x ?_;unfold keepAt at c;rw [Bool.or_eq_true,not_or] at c;obtain ⟨c1,c2⟩ := c;have c1 : m ≠ 0 := by simpa using c1
        have c2 : xs.getD m 0 = xs.getD (m - 1) 0 := by simpa using c2
        rw [← hd,c2,List.getD_eq_getElem?_getD,List.getElem?_eq_getElem (by omega)];exact List.mem_take_iff_getElem.2 ⟨m - 1,by omega,rfl⟩
theorem uniq_iff (xs : List Int) (x : Int) : x ∈ uniq xs ↔ x ∈ xs := ⟨uniq_mem, fun h => mem_uniqTo xs xs.length (Nat.le_refl _) x (by rw [List.take_length]; exact h)⟩
theorem uniq_nil {xs : List Int} : uniq xs = [] ↔ xs = [] := by
  constructor
  · intro h
    cases xs with
    | nil => rfl
    | cons a t =>
      have := (uniq_iff (a :: t) a).2 List.mem_cons_self;rw [h] at this;cases this
  · intro h
    subst h
    rfl
theorem opens_mem {C L : List Int} {o : Bool × Int} : o ∈ opens C L ↔ (if o.1 = true then o.2 ∈ L else o.2 ∈ C) := by
  obtain ⟨l,b⟩ := o;unfold opens;rw [List.mem_append,List.mem_map,List.mem_map]
  cases l with
  | false =>
    rw [if_neg Bool.false_ne_true]
    constructor
    · rintro (⟨x,hx,e⟩ | ⟨x,hx,e⟩)
      · cases e;exact (uniq_iff _ _).1 hx
      · cases e
    · intro h
      exact .inl ⟨b,(uniq_iff _ _).2 h,rfl⟩
  | true =>
    rw [if_pos rfl]
    constructor
    · rintro (⟨x,hx,e⟩ | ⟨x,hx,e⟩)
      · cases e
      · cases e;exact (uniq_iff _ _).1 hx
    · intro h
      exact .inr ⟨b,(uniq_iff _ _).2 h,rfl⟩
theorem opens_nil {C L : List Int} : opens C L = [] ↔ C = [] ∧ L = [] := by
  unfold opens;rw [List.append_eq_nil_iff,List.map_eq_nil_iff,List.map_eq_nil_iff,uniq_nil,uniq_nil]
theorem less_len {C L : List Int} {o : Bool × Int} (h : o ∈ opens C L) : (lessC C o).length + (lessL L o).length + 1 = C.length + L.length := by
  rw [opens_mem] at h;unfold lessC lessL
  by_cases c : o.1 = true
  · rw [if_pos c] at h
    rw [if_pos c,if_pos c,List.length_erase_of_mem h];have := List.length_pos_of_mem h;omega
  · rw [if_neg c] at h
    rw [if_neg c,if_neg c,List.length_erase_of_mem h];have := List.length_pos_of_mem h;omega
theorem lessC_mem {C : List Int} {o : Bool × Int} {x : Int} (h : x ∈ lessC C o) : x ∈ C := by
  unfold lessC at h
  split at h
  · exact h
  · exact List.mem_of_mem_erase h
theorem lessL_mem {L : List Int} {o : Bool × Int} {x : Int} (h : x ∈ lessL L o) : x ∈ L := by
  unfold lessL at h
  split at h
  · exact List.mem_of_mem_erase h
  · exact h
theorem val_nil : val [] [] = 0 := rfl
theorem val_eq {C L : List Int} (h : ¬(C = [] ∧ L = [])) : val C L = ((opens C L).map (fun o => (worth C L o).1)).foldl maxI (-1000) := by
  unfold val;obtain ⟨n,hn⟩ : ∃ n,C.length + L.length = n + 1 := by
    rcases C with _ | ⟨a,C⟩
    · rcases L with _ | ⟨b,L⟩
      · exact absurd ⟨rfl,rfl⟩ h
      · exact ⟨L.length,by simp⟩
    · exact ⟨C.length + L.length,by simp;omega⟩
  rw [hn,valN,if_neg h]
  congr 1
  refine List.map_congr_left fun o ho => ?_
  unfold worth val;have := less_len ho;rw [show (lessC C o).length + (lessL L o).length = n by omega]
def okC (xs : List Int) : Prop := ∀ x ∈ xs, 1 ≤ x ∧ x ≤ 30
def okL (xs : List Int) : Prop := ∀ x ∈ xs, 4 ≤ x ∧ x ≤ 30
theorem ansOf_le {o : Bool × Int} {r : Int} {M : Int} (h1 : 1 ≤ o.2 ∧ o.2 ≤ 30) (h2 : o.1 = true → 4 ≤ o.2) (hr : -M ≤ r ∧ r ≤ M) : -(M + 30) ≤ (ansOf o r).1 ∧ (ansOf o r).1 ≤ M + 30 := by
  unfold ansOf
  by_cases c : o.1 = true
  · have := h2 c
    rw [if_pos c]
    split
    · show -(M + 30) ≤ r - (o.2 - 8) ∧ r - (o.2 - 8) ≤ M + 30
      omega
    · show -(M + 30) ≤ -o.2 - r ∧ -o.2 - r ≤ M + 30
      omega
  · rw [if_neg c]
    split
    · rename_i h
      show -(M + 30) ≤ r - (o.2 - 4) ∧ r - (o.2 - 4) ≤ M + 30;omega
    · show -(M + 30) ≤ -o.2 - r ∧ -o.2 - r ≤ M + 30
      omega
theorem foldl_max_le (M : Int) : ∀ (l : List Int) (a : Int), a ≤ M → (∀ x ∈ l, x ≤ M) → l.foldl maxI a ≤ M
  | [],a,ha,_ => ha
  | x :: l,a,ha,h => foldl_max_le M l _ (by unfold maxI;split;exact h x List.mem_cons_self;exact ha) (fun y hy => h y (List.mem_cons_of_mem _ hy))
theorem foldl_max_ge : ∀ (l : List Int) (a : Int), a ≤ l.foldl maxI a
  | [],a => Int.le_refl a
  | x :: l,a => Int.le_trans (by unfold maxI;split <;> omega) (foldl_max_ge l (maxI a x))
theorem foldl_max_mem : ∀ (l : List Int) (a : Int), ∀ x ∈ l, x ≤ l.foldl maxI a
  | y :: l,a,x,h => by
    rcases List.mem_cons.1 h with rfl | h
    · exact Int.le_trans (by unfold maxI;split <;> omega) (foldl_max_ge l (maxI a x))
    · exact foldl_max_mem l _ x h
theorem val_le {C L : List Int} (hC : okC C) (hL : okL L) : ∀ (n : Nat), C.length + L.length = n → -(30 * n : Int) ≤ val C L ∧ val C L ≤ 30 * n := by
  intro n
  induction n generalizing C L with
  | zero =>
    intro h;have h1 : C = [] := List.eq_nil_of_length_eq_zero (by omega);have h2 : L = [] := List.eq_nil_of_length_eq_zero (by omega);subst h1;subst h2;rw [val_nil];omega
  | succ n ih =>
    intro h;have hne : ¬(C = [] ∧ L = []) := by
      rintro ⟨rfl,rfl⟩
      simp at h
    rw [val_eq hne];have hw : ∀ o ∈ opens C L,-(30 * n + 30 : Int) ≤ (worth C L o).1 ∧ (worth C L o).1 ≤ 30 * n + 30 := by
      intro o ho;have hl := less_len ho;have h1 := ih (C := lessC C o) (L := lessL L o) (fun x hx => hC x (lessC_mem hx)) (fun x hx => hL x (lessL_mem hx)) (by omega);have hm := opens_mem.1 ho;refine ansOf_le ?_ ?_ h1
      · by_cases c : o.1 = true
        · rw [if_pos c] at hm;have := hL _ hm;omega
        · rw [if_neg c] at hm;exact hC _ hm
      · intro c
        rw [if_pos c] at hm;exact (hL _ hm).1
    constructor
    · obtain ⟨o,ho⟩ : ∃ o,o ∈ opens C L := List.exists_mem_of_ne_nil _ (fun e => hne (opens_nil.1 e))
      have := (hw o ho).1;have h2 := foldl_max_mem ((opens C L).map (fun o => (worth C L o).1)) (-1000) _ (List.mem_map_of_mem ho)
      push_cast
      omega
    · refine foldl_max_le _ _ _ (by omega) (fun x hx => ?_)
      obtain ⟨o,ho,rfl⟩ := List.mem_map.1 hx;have := (hw o ho).2
      push_cast
      omega
theorem worth_le {C L : List Int} (hC : okC C) (hL : okL L) (h8 : C.length + L.length ≤ 8) {o : Bool × Int} (ho : o ∈ opens C L) : -240 ≤ (worth C L o).1 ∧ (worth C L o).1 ≤ 240 := by
  have hl := less_len ho;have h1 := val_le (C := lessC C o) (L := lessL L o) (fun x hx => hC x (lessC_mem hx)) (fun x hx => hL x (lessL_mem hx)) _ rfl;have hm := opens_mem.1 ho;have := ansOf_le (o := o) (M := 30 * ((lessC C o).length + (lessL L o).length : Nat)) (by
    by_cases c : o.1 = true
    · rw [if_pos c] at hm;have := hL _ hm;omega
    · rw [if_neg c] at hm;exact hC _ hm) (fun c => by rw [if_pos c] at hm;exact (hL _ hm).1) h1
  unfold worth;omega
/-- One step of the reference's search for the best opening. -/
def stepO (f : Bool × Int → Int) (s : Int × Bool × Int) (o : Bool × Int) : Int × Bool × Int := if s.2.2 = 0 ∨ s.1 < f o then (f o, o) else s
theorem stepO_fold (f : Bool × Int → Int) : ∀ (os pre : List (Bool × Int)) (o : Bool × Int), (∀ q ∈ os, 1 ≤ q.2) → 1 ≤ o.2 → pre.find? (fun q => f q == f o) = some o → (∀ q ∈ pre, f q ≤ f o) →
    ∃ o',os.foldl (stepO f) (f o,o) = (f o',o') ∧ 1 ≤ o'.2 ∧ (pre ++ os).find? (fun q => f q == f o') = some o' ∧ (os.map f).foldl maxI (f o) = f o' ∧ ∀ q ∈ pre ++ os,f q ≤ f o'
  | [],pre,o,_,h1,h2,h3 => ⟨o,rfl,h1,by rw [List.append_nil];exact h2,rfl,by rw [List.append_nil];exact h3⟩
  | q :: os,pre,o,h0,h1,h2,h3 => by
    have hq := h0 q List.mem_cons_self;have h0' : ∀ r ∈ os,1 ≤ r.2 := fun r hr => h0 r (List.mem_cons_of_mem _ hr)
    rw [List.foldl_cons,List.map_cons,List.foldl_cons,show pre ++ q :: os = (pre ++ [q]) ++ os by rw [List.append_assoc];rfl]
    by_cases c : f o < f q
    · have e1 : stepO f (f o,o) q = (f q,q) := if_pos (.inr c)
      have e2 : maxI (f o) (f q) = f q := if_pos c;rw [e1,e2];refine stepO_fold f os (pre ++ [q]) q h0' hq ?_ ?_
      · rw [List.find?_append,List.find?_eq_none.2 (fun r hr => by have := h3 r hr;simp;omega)]
        simp
      · intro r hr
        rcases List.mem_append.1 hr with hr | hr
        · have := h3 r hr;omega
        · rw [List.mem_singleton.1 hr];omega
    · have e1 : stepO f (f o,o) q = (f o,o) := if_neg (by rintro (h | h);exact absurd h (show ¬ o.2 = 0 by omega);exact c h)
      have e2 : maxI (f o) (f q) = f o := if_neg c;rw [e1,e2];refine stepO_fold f os (pre ++ [q]) o h0' h1 ?_ ?_
      · rw [List.find?_append,h2];rfl
      · intro r hr
        rcases List.mem_append.1 hr with hr | hr
        · exact h3 r hr
        · rw [List.mem_singleton.1 hr];omega
theorem stepO_best (f : Bool × Int → Int) (os : List (Bool × Int)) (hne : os ≠ []) (h0 : ∀ q ∈ os, 1 ≤ q.2 ∧ -1000 < f q) :
    ∃ o',os.foldl (stepO f) (0,false,0) = (f o',o') ∧ os.find? (fun q => f q == f o') = some o' ∧ (os.map f).foldl maxI (-1000) = f o' := by
  cases os with
  | nil => exact absurd rfl hne
  | cons q os =>
    have e1 : stepO f (0,false,0) q = (f q,q) := if_pos (.inl rfl);have e2 : maxI (-1000) (f q) = f q := if_pos (h0 q List.mem_cons_self).2;rw [List.foldl_cons,e1,List.map_cons,List.foldl_cons,e2];obtain ⟨o',h1,_,h3,h4,_⟩ := stepO_fold f os [q] q (fun r hr => (h0 r (List.mem_cons_of_mem _ hr)).1) (h0 q List.mem_cons_self).1 (by simp) (by simp);exact ⟨o',h1,h3,h4⟩
theorem small_has : HasFn 69 := ⟨_, Try.func69, by kernel_rfl, rfl⟩
set_option maxHeartbeats 8000000 in
set_option maxRecDepth 100000 in
theorem small.calls (x : Int) (w : World) : Calls Try.prog 69 (#[.int .i64 x] ++ #[]) w fun e w' => e = .returned (.bool (decide (x < 3))) ∧ Drawn0 w w' := by
 show Calls Try.prog 69 #[.int .i64 x] w fun e w' => e = .returned (.bool (decide (x < 3))) ∧ Drawn0 w w'
 go_enter Try.func69,Try.ntmps69;go_wp2;go_ret;exact ⟨rfl,Drawn0.refl _⟩
def impl_CountLong.f (k : Nat) (l0 l1 : List Int) : Option (Int × Int) := (impl_IsEnding.f k l0 l1).bind fun t => if t = true then (if l0.length < 17592186044416 then some (((l0.filter fun n => !(decide (n < 3))).length : Int), 0) else none) else some (0, 1)
theorem impl_CountLong.mono : ∀ a0 a1 k, LeO (impl_CountLong.f k a0 a1) (impl_CountLong.f (k + 1) a0 a1) := by
 intro a0 a1 k;unfold impl_CountLong.f;exact LeO.bind (impl_IsEnding.mono _ _ _) (fun _ => LeO.refl _)
set_option maxHeartbeats 8000000 in
set_option maxRecDepth 100000 in
theorem impl_CountLong.calls (k : Nat) (A0_0 : Option Addr) (c0_0 : Nat) (l0_0 : List Int) (A0_1 : Option Addr) (c0_1 : Nat) (l0_1 : List Int) (r1 : Int) (r2 : Int) (w : World) (hr0_0 : Kd.C (Kd.int .i64) w A0_0 l0_0.length l0_0) (hc0_0 : l0_0.length ≤ c0_0) (hr0_1 : Kd.C (Kd.int .i64) w A0_1 l0_1.length l0_1) (hc0_1 : l0_1.length ≤ c0_1) (h : impl_CountLong.f k l0_0 l0_1 = some (r1, r2)) :
 Calls Try.prog 23 #[.agg #[.slice A0_0 l0_0.length c0_0,.slice A0_1 l0_1.length c0_1]] w fun e w' => e = .returned (.tuple #[.int .i64 r1,.int .i64 r2]) ∧ Below w.heap.size w w' := by
 have hu27 := Try.underlying27;have HR0 := aK hr0_0;have HC0 := aK hc0_0;have HR1 := aK hr0_1;have HC1 := aK hc0_1;clear hr0_0 hc0_0 hr0_1 hc0_1;have HB := aK (Below.refl w.heap.size w);unfold impl_CountLong.f at h;obtain ⟨t,A10,h⟩ := Option.bind_eq_some_iff.mp h;have A1 := aK A10;clear A10;cases t
 ·rw [if_neg (by decide)] at h;simp only [Option.some.injEq,Prod.mk.injEq] at h;obtain ⟨rfl,rfl⟩ := h;go_enter Try.func23,Try.ntmps23
  go_wp2_with (first | ((with_reducible refine gate_dst (N := 1) rfl ?_);(try (refine gate_guard (by rfl) ?_;dsimp only));refine boxE 1 #[.slice A0_0 l0_0.length c0_0,.slice A0_1 l0_1.length c0_1] 27 ?_;intro gb1 hg w2 hbox hb;have GPgb1 := aK hg;have BK := aK hbox;clear hg hbox;replace HB := aK (below_then HB.out HB.out.size hb);clear hb;have hz_gb1_0 := y0 BK;have hf_gb1_0 := blk_frozen BK.out 0;have hz_gb1_1 := y1 BK;have hf_gb1_1 := blk_frozen BK.out 1) | ((with_reducible refine gate_dst (N := 5) rfl ?_);(try (refine gate_guard (by rfl) ?_;dsimp only));refine goesE (some 5) Try.func18 #[.agg #[.slice A0_0 l0_0.length c0_0,.slice A0_1 l0_1.length c0_1]] ?_;(with_reducible refine (impl_IsEnding.calls k _ _ l0_0 _ _ l0_1 false _ ?s1 ?s2 ?s3 ?s4 A1.out).mono ?_);(case s1 => exact Kd.C_below HR0.out HB.out);(case s2 => exact HC0.out);(case s3 => exact Kd.C_below HR1.out HB.out);(case s4 => exact HC1.out);rintro e w3 ⟨rfl,hb⟩;refine ⟨_,rfl,?_⟩;replace HB := aK (below_then HB.out HB.out.size hb);replace BK := aK (blk_below (g := gb1) (o := .cells #[.slice A0_0 l0_0.length c0_0,.slice A0_1 l0_1.length c0_1] 27 (0,0)) BK.out hb);clear hb;replace hz_gb1_0 := y0 BK;replace hf_gb1_0 := blk_frozen BK.out 0;replace hz_gb1_1 := y1 BK;replace hf_gb1_1 := blk_frozen BK.out 1))
  go_ret2;exact ⟨rfl,HB.out⟩
 ·rw [if_pos rfl] at h
  by_cases c : l0_0.length < 17592186044416
  rotate_left
  ·rw [if_neg c] at h;exact absurd h (by simp)
  rw [if_pos c] at h;have HL := aK c;simp only [Option.some.injEq,Prod.mk.injEq] at h;obtain ⟨rfl,rfl⟩ := h;clear c;go_enter Try.func23,Try.ntmps23
  go_wp2_with (first | ((with_reducible refine gate_dst (N := 1) rfl ?_);(try (refine gate_guard (by rfl) ?_;dsimp only));refine boxE 1 #[.slice A0_0 l0_0.length c0_0,.slice A0_1 l0_1.length c0_1] 27 ?_;intro gb1 hg w2 hbox hb;have GPgb1 := aK hg;have BK := aK hbox;clear hg hbox;replace HB := aK (below_then HB.out HB.out.size hb);clear hb;have hz_gb1_0 := y0 BK;have hf_gb1_0 := blk_frozen BK.out 0;have hz_gb1_1 := y1 BK;have hf_gb1_1 := blk_frozen BK.out 1) | ((with_reducible refine gate_dst (N := 5) rfl ?_);(try (refine gate_guard (by rfl) ?_;dsimp only));refine goesE (some 5) Try.func18 #[.agg #[.slice A0_0 l0_0.length c0_0,.slice A0_1 l0_1.length c0_1]] ?_;(with_reducible refine (impl_IsEnding.calls k _ _ l0_0 _ _ l0_1 true _ ?s1 ?s2 ?s3 ?s4 A1.out).mono ?_);(case s1 => exact Kd.C_below HR0.out HB.out);(case s2 => exact HC0.out);(case s3 => exact Kd.C_below HR1.out HB.out);(case s4 => exact HC1.out);rintro e w3 ⟨rfl,hb⟩;refine ⟨_,rfl,?_⟩;replace HB := aK (below_then HB.out HB.out.size hb);replace BK := aK (blk_below (g := gb1) (o := .cells #[.slice A0_0 l0_0.length c0_0,.slice A0_1 l0_1.length c0_1] 27 (0,0)) BK.out hb);clear hb;replace hz_gb1_0 := y0 BK;replace hf_gb1_0 := blk_frozen BK.out 0;replace hz_gb1_1 := y1 BK;replace hf_gb1_1 := blk_frozen BK.out 1;have HW3 := aK HB.out.size) | ((with_reducible refine gate_dst (N := 9) rfl ?_);(try (refine gate_guard (by rfl) ?_;dsimp only));refine goesE (some 9) Try.func68 #[.slice A0_0 l0_0.length c0_0] ?_;(with_reducible refine (Clone.calls _ _ l0_0 _ ?s1 ?s2 HL.out).mono ?_);(case s1 => exact Kd.C_below HR0.out HB.out);(case s2 => exact HC0.out);rintro e w4 ⟨v4,rfl,ho,hb⟩;refine ⟨_,rfl,?_⟩;have HO := aK ho;have H3 : Aside0 (w3.heap.size ≤ w4.heap.size) := aK hb.size;replace HB := aK (below_then HB.out HB.out.size hb);clear hb ho) | ((with_reducible refine gate_dst (N := 10) rfl ?_);(try (refine gate_guard (by rfl) ?_;dsimp only));refine goesE (some 10) Try.func67 #[v4,.func (.func 69) #[] #[]] ?_;refine (DeleteFunc.calls _ _ (fun n => decide (n < 3)) small_has w3.heap.size (fun _ => True) v4 l0_0 _ H3.out HO.out (by have := HL.out;omega) (fun x _ w9 _ => small.calls x w9)).mono ?_;rintro e w5 ⟨v5,rfl,ho,hb⟩;refine ⟨_,rfl,?_⟩;obtain ⟨Aw,cw,e_Aw⟩ := Kd.R_slice ho;subst e_Aw;have HRw := aK (Kd.R_reads' ho).2.2;have HCw := aK (Kd.R_reads' ho).2.1;replace HB := aK (HB.out.trans (hb.mono HW3.out));clear hb ho) | ((with_reducible refine gate_dst (N := 11) rfl ?_);(try (refine gate_guard (by rfl) ?_;dsimp only));refine goesE (some 11) Try.func66 #[.slice Aw (l0_0.filter fun n => !(decide (n < 3))).length cw] ?_;(with_reducible refine (calls_below (impl_size_int64.calls _ _ (l0_0.filter fun n => !(decide (n < 3))) ((l0_0.filter fun n => !(decide (n < 3))).length : Int) _ ?s1 ?s2 rfl)).mono ?_);(case s1 => exact HRw.out);(case s2 => exact HCw.out);rintro e w6 ⟨rfl,hb⟩;refine ⟨_,rfl,?_⟩;replace HB := aK (below_then HB.out HB.out.size hb);clear hb))
  go_ret2;exact ⟨rfl,HB.out⟩
/-! ### impl_opening_101: function 101 -/
def impl_opening_101.f (k : Nat) (l0 : List (S75)) (a1_0 : Bool) (a1_1 : Int) : Option (Bool) := (impl_opening_114.f k l0 a1_0 a1_1).bind fun t242 => (some (decide (t242 ≥ 0)))
theorem impl_opening_101.mono : ∀ a0 a1 a2 k, LeO (impl_opening_101.f k a0 a1 a2) (impl_opening_101.f (k + 1) a0 a1 a2) := by
 intro a0 a1 a2 k;unfold impl_opening_101.f
 repeat' first
  | (with_reducible exact impl_opening_114.mono _ _ _ _)
  | (with_reducible exact LeO.refl _)
  | (with_reducible exact LeO.none _)
  | (with_reducible refine LeO.ite ?_ ?_)
  | (with_reducible refine LeO.bind ?_ (fun _ => ?_))
  | exact impl_opening_114.mono _ _ _ _
  | exact LeO.none _
  | refine LeO.ite ?_ ?_
  | refine LeO.bind ?_ (fun _ => ?_)
set_option maxHeartbeats 8000000 in
set_option maxRecDepth 100000 in
theorem impl_opening_101.calls (k : Nat) (A0 : Option Addr) (c0 : Nat) (l0 : List (S75)) (a1_0 : Bool) (a1_1 : Int) (r : Bool) (w : World) (hr0 : Kd.C k75 w A0 l0.length l0) (hc0 : l0.length ≤ c0) (h : impl_opening_101.f k l0 a1_0 a1_1 = some r) :
 Calls Try.prog 101 #[.slice A0 l0.length c0,.agg #[.bool a1_0,.int .i64 a1_1]] w fun e w' => e = .returned (.bool r) ∧ Below w.heap.size w w' := by
 have hu75 := Try.underlying75;have HR0 := aK hr0;have HC0 := aK hc0;clear hr0 hc0;have HB := aK (Below.refl w.heap.size w);have H := h;clear h;unfold impl_opening_101.f at H;replace H := bE H;obtain ⟨t242,A3,H⟩ := H;obtain rfl := Option.some.inj H;go_enter Try.func101,Try.ntmps101
 go_wp2_with (first | ((with_reducible refine gate_dst (N := 3) rfl ?_);refine boxE 3 #[.bool a1_0,.int .i64 a1_1] 75 ?_;intro gb241 hg w4 hbox hb;have BK241 := aK (hbox);have GW241 := aK (zG HB hg);have GE241 := aK (zG HB hg);replace HB := hB HB hb;clear hb hbox hg;have hcz5_0 := y0 BK241;have hcz5_1 := y1 BK241;have hfz5_0 := blk_frozen BK241.out 0;have hfz5_1 := blk_frozen BK241.out 1) | ((with_reducible refine gate_callee (f := 114) rfl ?_);refine goesE (some 7) Try.func114 #[.slice A0 l0.length c0,.agg #[.bool a1_0,.int .i64 a1_1]] ?_;(with_reducible refine (impl_opening_114.calls k _ _ l0 a1_0 a1_1 t242 _ ?side1 ?side2 A3.out).mono ?_);(case side1 => exact cB HR0 HB);(case side2 => exact HC0.out);rintro e w6 ⟨rfl,hb⟩;refine ⟨_,rfl,?_⟩;replace BK241 := kB BK241 hb;replace HB := hB HB hb;clear hb))
 go_ret;exact eR (bN HB)
/-! ### impl_openingCode: function 73 -/
def impl_openingCode.f (k : Nat) (l0_0 : List Int) (l0_1 : List Int) (a1_0 : Bool) (a1_1 : Int) : Option (Int) := (impl_IsEnding.f k l0_0 l0_1).bind fun t245 => ((impl_Ending_openings.f k l0_0 l0_1).bind fun t246 => ((impl_opening_101.f k t246 a1_0 a1_1).bind fun t249 => ((impl_first.f k (([(⟨t245, 1⟩ : S86), (⟨t249, 5⟩ : S86)] : List (S86)))).bind fun t253 => (some t253))))
theorem impl_openingCode.mono : ∀ a0 a1 a2 a3 k, LeO (impl_openingCode.f k a0 a1 a2 a3) (impl_openingCode.f (k + 1) a0 a1 a2 a3) := by
 intro a0 a1 a2 a3 k;unfold impl_openingCode.f
 repeat' first
  | (with_reducible exact impl_Ending_openings.mono _ _ _)
  | (with_reducible exact impl_IsEnding.mono _ _ _)
  | (with_reducible exact impl_first.mono _ _)
  | (with_reducible exact impl_opening_101.mono _ _ _ _)
  | (with_reducible exact LeO.refl _)
  | (with_reducible exact LeO.none _)
  | (with_reducible refine LeO.ite ?_ ?_)
  | (with_reducible refine LeO.bind ?_ (fun _ => ?_))
  | exact impl_Ending_openings.mono _ _ _
  | exact impl_IsEnding.mono _ _ _
  | exact impl_first.mono _ _
  | exact impl_opening_101.mono _ _ _ _
  | exact LeO.none _
  | refine LeO.ite ?_ ?_
  | refine LeO.bind ?_ (fun _ => ?_)
def impl_openingCode.T1 : Bool × List (List Nat × List Nat) := (true, [([], []), ([0], [0]), ([1], [1]), ([], []), ([3, 1], [3]), ([], []), ([4, 5, 4], [4, 5]), ([6], [6]), ([2, 7], [2, 7]), ([8, 6], [8]), ([9, 9, 0, 1, 2, 3, 4, 5, 6, 7, 8, 9], [9])])
def impl_openingCode.B1 : List Nat := [0, 1, 3, 0, 11, 0, 59, 123, 255, 511, 1023]
theorem impl_openingCode.tab1 : rtab .any (opsOf Try.f73 1) = impl_openingCode.T1 := by kernel_rfl
theorem impl_openingCode.bits1 : waitsOk impl_openingCode.T1.2 impl_openingCode.B1 = true := by kernel_rfl
set_option maxHeartbeats 8000000 in
set_option maxRecDepth 100000 in
theorem impl_openingCode.calls (k : Nat) (A0_0 : Option Addr) (c0_0 : Nat) (l0_0 : List Int) (A0_1 : Option Addr) (c0_1 : Nat) (l0_1 : List Int) (a1_0 : Bool) (a1_1 : Int) (r : Int) (w : World) (hr0_0 : Kd.C (Kd.int .i64) w A0_0 l0_0.length l0_0) (hc0_0 : l0_0.length ≤ c0_0) (hr0_1 : Kd.C (Kd.int .i64) w A0_1 l0_1.length l0_1) (hc0_1 : l0_1.length ≤ c0_1) (h : impl_openingCode.f k l0_0 l0_1 a1_0 a1_1 = some r) :
 Calls Try.prog 73 #[.agg #[.slice A0_0 l0_0.length c0_0,.slice A0_1 l0_1.length c0_1],.agg #[.bool a1_0,.int .i64 a1_1]] w fun e w' => e = .returned (.int .i64 r) ∧ Below w.heap.size w w' := by
 have hu27 := Try.underlying27;have hu75 := Try.underlying75;have hu86 := Try.underlying86;have HR0_0 := aK hr0_0;have HC0_0 := aK hc0_0;clear hr0_0 hc0_0;have HR0_1 := aK hr0_1;have HC0_1 := aK hc0_1;clear hr0_1 hc0_1;have HB := aK (Below.refl w.heap.size w);have H := h;clear h;unfold impl_openingCode.f at H;replace H := bE H;obtain ⟨t245,A3,H⟩ := H;replace H := bE H;obtain ⟨t246,A4,H⟩ := H;replace H := bE H;obtain ⟨t249,A5,H⟩ := H;obtain ⟨y250,hy250⟩ : ∃ y_ : List (S86),y_ = (([(⟨t245,1⟩ : S86),(⟨t249,5⟩ : S86)] : List (S86))) := ⟨_,rfl⟩;replace H : ((impl_first.f k y250).bind fun t253 => (some t253)) = some r := by first | (rw [hy250];with_reducible exact H) | (have H2_ := (Option.bind_some _ _).symm.trans H;rw [hy250];with_reducible exact H2_) | (have H2_ := (Option.bind_some _ _).symm.trans H;with_reducible exact H2_) | with_reducible exact H | (rw [hy250];exact H) | exact H
 have Ny250 := aK hy250;clear hy250;replace H := bE H;obtain ⟨t253,A6,H⟩ := H;obtain rfl := Option.some.inj H;go_enter Try.func73,Try.ntmps73
 try go_wp2_with (first | ((with_reducible refine gate_dst (N := 2) rfl ?_);refine boxE 2 #[.slice A0_0 l0_0.length c0_0,.slice A0_1 l0_1.length c0_1] 27 ?_;intro gb243 hg w7 hbox hb;have BK243 := aK (hbox);have GW243 := aK (zG HB hg);have GE243 := aK (zG HB hg);replace HB := hB HB hb;clear hb hbox hg) | ((with_reducible refine gate_dst (N := 3) rfl ?_);refine boxE 3 #[.bool a1_0,.int .i64 a1_1] 75 ?_;intro gb244 hg w8 hbox hb;have BK244 := aK (hbox);have GW244 := aK (zG HB hg);have GE244 := aK (zG HB hg);replace HB := hB HB hb;have NB243_244 := aK ((by rw [hg];exact Nat.ne_of_lt (blk_lt (g := gb243) (o := .cells #[.slice A0_0 l0_0.length c0_0,.slice A0_1 l0_1.length c0_1] 27 (0,0)) (kN BK243)) : gb243 ≠ gb244));have NB244_243 := aK ((by rw [hg];exact Nat.ne_of_gt (blk_lt (g := gb243) (o := .cells #[.slice A0_0 l0_0.length c0_0,.slice A0_1 l0_1.length c0_1] 27 (0,0)) (kN BK243)) : gb244 ≠ gb243));replace BK243 := kB BK243 hb;clear hb hbox hg))
 have n0_ := aK (blk_drew BK243.out);have n1_ := aK (blk_drew BK244.out);have n2_ := aK (below_drew1 HB.out);clear BK243;clear BK244;clear HB;have BK243 := n0_;have BK244 := n1_;have HB := n2_;clear n0_ n1_ n2_;refine start_ (n := 11) (S := fun w' => w'.cell? ⟨gb243,0,none⟩ = some (.slice A0_0 l0_0.length c0_0) ∧ w'.cell? ⟨gb243,1,none⟩ = some (.slice A0_1 l0_1.length c0_1) ∧ w'.cell? ⟨gb244,0,none⟩ = some (.bool a1_0) ∧ w'.cell? ⟨gb244,1,none⟩ = some (.int .i64 a1_1)) (ds := []) #[false,false,false,false,false,false,false,false,false,false,false] (by kernel_rfl) rfl rfl ⟨(blk_cell BK243.out 0).trans rfl,(blk_cell BK243.out 1).trans rfl,(blk_cell BK244.out 0).trans rfl,(blk_cell BK244.out 1).trans rfl⟩ (fun hHeld => ?_);refine with_tabW impl_openingCode.tab1 impl_openingCode.bits1 (fun HT_ HW_ => ?_)
 generalize w8.drew = w9 at BK243 BK244 HB hHeld ⊢
 refine tT HT_ HW_ hHeld 0 (some 5) ?_;refine tT HT_ HW_ hHeld 3 (some 8) ?_;refine tT HT_ HW_ hHeld 5 (some 10) ?_;refine oT HT_ 1 (some 6) (fun K hK => ?_);refine gO Try.func18 #[.agg #[.slice A0_0 l0_0.length c0_0,.slice A0_1 l0_1.length c0_1]] ?_
 with_reducible refine (impl_IsEnding.calls k _ _ l0_0 _ _ l0_1 t245 _ ?side1 ?side2 ?side3 ?side4 A3.out).mono ?_
 (case side1 => exact cB HR0_0 HB)
 (case side2 => exact HC0_0.out)
 (case side3 => exact cB HR0_1 HB)
 (case side4 => exact HC0_1.out)
 rintro e w10 ⟨rfl,hb⟩;refine ⟨_,rfl,?_⟩;have n0_ := kB BK243 hb;have n1_ := kB BK244 hb;have n2_ := hB HB hb;clear BK243;clear BK244;clear HB;have BK243 := n0_;have BK244 := n1_;have HB := n2_;clear n0_ n1_ n2_;clear hb;refine hK.out _ _ ⟨(blk_cell BK243.out 0).trans rfl,(blk_cell BK243.out 1).trans rfl,(blk_cell BK244.out 0).trans rfl,(blk_cell BK244.out 1).trans rfl⟩ (fun hHeld => ?_);clear hK K;refine nT 6 ?_;refine pT HT_ 2 (some 7) ?_;refine oT HT_ 4 (some 9) (fun K hK => ?_);refine gO Try.func79 #[.agg #[.slice A0_0 l0_0.length c0_0,.slice A0_1 l0_1.length c0_1]] ?_
 with_reducible refine (impl_Ending_openings.calls k _ _ l0_0 _ _ l0_1 t246 _ ?side1 ?side2 ?side3 ?side4 A4.out).mono ?_
 (case side1 => exact cB HR0_0 HB)
 (case side2 => exact HC0_0.out)
 (case side3 => exact cB HR0_1 HB)
 (case side4 => exact HC0_1.out)
 rintro e w11 ⟨v247,rfl,ho0,hb⟩;refine ⟨_,rfl,?_⟩;have n0_ := aK (Kd.R_lower (Kd.R_newB ho0 (g := gb244) (o := .cells #[.bool a1_0,.int .i64 a1_1] 75 (0,0)) (kN BK244)) (below_size (bN HB)));have n1_ := kB BK243 hb;have n2_ := kB BK244 hb;have n3_ := hB HB hb;clear BK243;clear BK244;clear HB;have HO248 := n0_;have BK243 := n1_;have BK244 := n2_;have HB := n3_;clear n0_ n1_ n2_ n3_;clear hb ho0;obtain ⟨Ao12,co12,eo12⟩ := Kd.R_slice HO248.out;(first | subst eo12 | (injection eo12 with f1_ f2_ f3_;have f4_ := f1_.symm;have f5_ := f3_.symm;clear f1_ f2_ f3_;subst f4_;subst f5_));refine hK.out _ _ ⟨(blk_cell BK243.out 0).trans rfl,(blk_cell BK243.out 1).trans rfl,(blk_cell BK244.out 0).trans rfl,(blk_cell BK244.out 1).trans rfl⟩ (fun hHeld => ?_);clear hK K;refine nT 9 ?_;refine oT HT_ 6 (some 11) (fun K hK => ?_);refine gO Try.func101 #[.slice Ao12 t246.length co12,.agg #[.bool a1_0,.int .i64 a1_1]] ?_
 with_reducible refine (impl_opening_101.calls k _ _ t246 a1_0 a1_1 t249 _ ?side1 ?side2 A5.out).mono ?_
 (case side1 => exact cR HO248)
 (case side2 => exact (Kd.R_reads' HO248.out).2.1)
 rintro e w13 ⟨rfl,hb⟩;refine ⟨_,rfl,?_⟩;have n0_ := rB HO248 hb;have n1_ := kB BK243 hb;have n2_ := kB BK244 hb;have n3_ := hB HB hb;clear HO248;clear BK243;clear BK244;clear HB;have HO248 := n0_;have BK243 := n1_;have BK244 := n2_;have HB := n3_;clear n0_ n1_ n2_ n3_;clear hb;refine hK.out _ _ ⟨(blk_cell BK243.out 0).trans rfl,(blk_cell BK243.out 1).trans rfl,(blk_cell BK244.out 0).trans rfl,(blk_cell BK244.out 1).trans rfl⟩ (fun hHeld => ?_);clear hK K;refine nT 11 ?_;refine pT HT_ 7 (some 12) ?_;refine oT HT_ 8 (some 13) (fun K hK => ?_);refine Kd.R_lit_step k86 _ 86 ?hg (N := 13) ?hd (xs := ([(⟨t245,1⟩ : S86),(⟨t249,5⟩ : S86)] : List (S86))) (inner := [.bool t245,.int .i64 1,.bool t249,.int .i64 5]) (ok := fun _ => True) (okp := fun _ => True) ?hr ?hp (fun _ hk => hk) trivial (Below.refl _ _) (Nat.le_refl _) (by simp) ?_;(case hd => rfl);(case hg => rfl);(case hr => first | (go_simp;done) | (go_simp;rfl));(case hp => exact (Reps.c2 (show Kd.M k86 _ _ _ (⟨t245,1⟩ : S86) [.bool t245,.int .i64 1] from (k86_mkM _ _ _ (⟨t245,1⟩ : S86) )) (Reps.c2 (show Kd.M k86 _ _ _ (⟨t249,5⟩ : S86) [.bool t249,.int .i64 5] from (k86_mkM _ _ _ (⟨t249,5⟩ : S86) )) (Reps.none _ _))));intro v251 w14 ho15 hb hg_ hnew_;clear hg_ hnew_;(first | rw [← Ny250.out] at ho15 | (simp only [Int.reduceToNat] at ho15;rw [← Ny250.out] at ho15));have n0_ := rB HO248 hb;have n1_ := aK (Kd.R_lower ho15 (below_size (bN HB)));have n2_ := kB BK243 hb;have n3_ := kB BK244 hb;have n4_ := hB HB hb;clear HO248;clear BK243;clear BK244;clear HB;have HO248 := n0_;have HO252 := n1_;have BK243 := n2_;have BK244 := n3_;have HB := n4_;clear n0_ n1_ n2_ n3_ n4_;clear hb ho15;obtain ⟨Ao16,co16,eo16⟩ := Kd.R_slice HO252.out;(first | subst eo16 | (injection eo16 with f1_ f2_ f3_;have f4_ := f1_.symm;have f5_ := f3_.symm;clear f1_ f2_ f3_;subst f4_;subst f5_));refine hK.out _ _ ⟨(blk_cell BK243.out 0).trans rfl,(blk_cell BK243.out 1).trans rfl,(blk_cell BK244.out 0).trans rfl,(blk_cell BK244.out 1).trans rfl⟩ (fun hHeld => ?_);clear hK K;refine nT 13 ?_;refine oT HT_ 9 (some 14) (fun K hK => ?_);refine gO Try.func78 #[.slice Ao16 y250.length co16] ?_
 with_reducible refine (impl_first.calls k _ _ y250 t253 _ ?side1 ?side2 A6.out).mono ?_
 (case side1 => exact cR HO252)
 (case side2 => exact (Kd.R_reads' HO252.out).2.1)
 rintro e w17 ⟨rfl,hb⟩;refine ⟨_,rfl,?_⟩;have n0_ := rB HO248 hb;have n1_ := rB HO252 hb;have n2_ := kB BK243 hb;have n3_ := kB BK244 hb;have n4_ := hB HB hb;clear HO248;clear HO252;clear BK243;clear BK244;clear HB;have HO248 := n0_;have HO252 := n1_;have BK243 := n2_;have BK244 := n3_;have HB := n4_;clear n0_ n1_ n2_ n3_ n4_;clear hb;refine hK.out _ _ ⟨(blk_cell BK243.out 0).trans rfl,(blk_cell BK243.out 1).trans rfl,(blk_cell BK244.out 0).trans rfl,(blk_cell BK244.out 1).trans rfl⟩ (fun hHeld => ?_);clear hK K;refine nT 14 ?_;refine pT HT_ 10 (some 4) ?_;refine done_ (done_of HT_.out (by kernel_rfl)) ?_
 try go_wp2
 go_ret;exact eR (bN HB)
def longs (l : List Int) : Nat := (l.filter fun n => !(decide (n < 3))).length
theorem long_loop (a b : List Int) (hl : a.length < 4611686018427387904) : ∀ d i : Nat, i + d = a.length → Ev (fun k => spec_CountLong.l0 k (longs (a.take i) : Int) (i : Int) a b) ((longs a : Int), 0)
  | 0,i,hd => by
    refine Ev.step (f := fun _ => some _) (fun k => ?_) (Ev.now _);simp only [spec_CountLong.l0];rw [if_neg (by omega),List.take_of_length_le (by omega)]
  | d + 1,i,hd => by
    obtain ⟨x,hx⟩ := get_some (xs := a) (i := i) (by omega);have ih := long_loop a b hl d (i + 1) (by omega);have hle : longs (a.take i) ≤ i := Nat.le_trans (List.length_filter_le _ _) (by rw [List.length_take];omega);have e : longs (a.take (i + 1)) = longs (a.take i) + (if x > 2 then 1 else 0) := by
      unfold longs;rw [List.take_add_one,hx,List.filter_append,List.length_append]
      congr 1
      show (List.filter _ [x]).length = _;rw [List.filter_cons]
      by_cases c : x > 2
      · rw [if_pos c,if_pos (by simp;omega)];rfl
      · rw [if_neg c,if_neg (by simp;omega)];rfl
    rw [e] at ih;refine Ev.step (fun k => ?_) ih;simp only [spec_CountLong.l0];rw [if_pos (by omega),if_pos (by omega),rd_nat,getD_of hx,wrapS (i := (i : Int) + 1) (by omega) (by omega),cast_succ]
    by_cases c : x > 2
    · rw [if_pos c,if_pos c,wrapS (by omega) (by omega)]
      rfl
    · rw [if_neg c,if_neg c]
      rfl
def countLong (a b : List Int) : Int × Int := if isEnd a b = true then ((longs a : Int), 0) else (0, 1)
theorem specLong_ev (a b : List Int) (ha : a.length ≤ 1048576) (hb : b.length ≤ 1048576) : Ev (fun k => spec_CountLong.f k a b) (countLong a b) := by
  unfold spec_CountLong.f countLong;refine Ev.bind (l04Is_ev a b ha hb) ?_
  cases isEnd a b
  · exact Ev.now _
  · have h : Ev (fun k => spec_CountLong.l0 k 0 0 a b) ((longs a : Int),0) := long_loop a b (by omega) a.length 0 (by omega)
    exact Ev.congr (fun k => by rw [if_pos rfl]) h
theorem implLong_ev (a b : List Int) (ha : a.length ≤ 1048576) (hb : b.length ≤ 1048576) : Ev (fun k => impl_CountLong.f k a b) (countLong a b) := by
  unfold impl_CountLong.f countLong;refine Ev.bind (IsEnding_ev a b ha hb) ?_
  cases isEnd a b
  · exact Ev.now _
  · exact Ev.congr (f := fun _ => some _) (fun k => by rw [if_pos rfl,if_pos (by omega)];rfl) (Ev.now _)
theorem zeroDI (w : World) : (zeroValue 2).run Try.prog w = .ok (.int .i64 0) w := by kernel_rfl
theorem grownBy_drew (w : World) (row : Option Nat) : w.grownBy w.drew row := ⟨rfl, rfl, rfl, Nat.le_refl _, fun _ _ _ => rfl⟩
theorem R_writes {g n c base : Nat} {ok : Nat → Prop} (hbg : base ≤ g) : ∀ (news : List Int) (i : Nat) (W : World) (xs : List Int), i + news.length ≤ xs.length → Kd.R (Kd.int .i64) 2 W base ok (.slice (some ⟨g, 0, none⟩) n c) xs →
    ∃ ys : List Int,ys.length = xs.length ∧ ys.take (i + news.length) = xs.take i ++ news ∧ Kd.R (Kd.int .i64) 2 (W.setCells g i (news.map (Value.int .i64))) base ok (.slice (some ⟨g,0,none⟩) n c) ys ∧ Below base W (W.setCells g i (news.map (Value.int .i64))) ∧ W.grownBy (W.setCells g i (news.map (Value.int .i64))) (some g)
  | [],i,W,xs,_,h => ⟨xs,rfl,by simp,h,Below.refl _ _,World.grownBy.refl _ _⟩
  | x :: news,i,W,xs,hl,h => by
    rw [List.length_cons] at hl;obtain ⟨h1,h2⟩ := Kd.R_putg h (i : Int) x;rw [Int.toNat_natCast] at h1 h2;obtain ⟨ys,e1,e2,e3,e4,e5⟩ := R_writes hbg news (i + 1) _ _ (by rw [List.length_set];omega) h1;refine ⟨ys,by rw [e1,List.length_set],?_,e3,Below.trans ((Below.refl base W).setCell hbg _) e4,h2.trans e5⟩;rw [List.length_cons,show i + (news.length + 1) = i + 1 + news.length by omega,e2,List.take_add_one,List.take_set_of_le (Nat.le_refl i),List.getElem?_set_self (by omega)]
    simp
set_option maxHeartbeats 16000000 in
set_option maxRecDepth 100000 in
theorem Delete.calls (base : Nat) (ok : Nat → Prop) (v : Value) (xs : List Int) (i : Nat) (hi : i < xs.length) (w : World) (hb0 : base ≤ w.heap.size)
    (ho : Kd.R (Kd.int .i64) 2 w base ok v xs) (hlen : xs.length < 4611686018427387904) :
    Calls Try.prog 103 #[v,.int .i64 (i : Int),.int .i64 ((i + 1 : Nat) : Int)] w fun e w' => ∃ v' : Value,e = .returned v' ∧ Kd.R (Kd.int .i64) 2 w' base ok v' (xs.take i ++ xs.drop (i + 1)) ∧ Below base w w' ∧ w.grownBy w' v.ownBlock ∧ v'.ownBlock = v.ownBlock := by
  have HO := aK ho;have HN := aK hlen;have HI := aK hi;clear ho hlen hi;obtain ⟨A0,c0,e0⟩ := Kd.R_slice HO.out;subst e0;obtain ⟨go,co,eo,gb,gl,cl,HG⟩ := Kd.R_form HO.out (by have := HI.out;omega);cases eo;have GB := aK gb;clear gb gl HG;have HB := aK (Below.refl base w);have hcap := (Kd.R_reads' HO.out).2.1;have HC := aK hcap;have hne : ((i : Int) == ((i + 1 : Nat) : Int)) = false := beq_eq_false_iff_ne.2 (by omega);have hi := HI.out;have p1 : (0 ≤ (i : Int)) = True := eq_true (by omega);have p2 : i ≤ i + 1 := Nat.le_succ i;have p3 : i + 1 ≤ xs.length := hi;have p4 : i + 1 ≤ c0 := Nat.le_trans hi hcap;have p5 : i ≤ xs.length := Nat.le_of_lt hi;have p6 : i ≤ c0 := Nat.le_trans p5 hcap;have p7 : ¬ (c0 = i) := fun e => absurd p4 (by rw [e];exact Nat.not_succ_le_self i)
  have p8 : (0 ≤ (i : Int) + 1) = True := eq_true (by omega);have p9 : ((i : Int) + 1 ≤ (xs.length : Int)) = True := eq_true (by omega);clear hi;obtain ⟨news,hnews⟩ : ∃ news,news = (xs.drop (i + 1)).map (Value.int .i64) := ⟨_,rfl⟩;have hlen : news.length = xs.length - (i + 1) := by rw [hnews];simp
  obtain ⟨Ad,hA,hsrc⟩ : ∃ Ad : Addr,(if c0 = i + 1 then some (⟨go,0,none⟩ : Addr) else some ⟨go,i + 1,none⟩) = some Ad ∧ Aside0 (∀ t u,news[t]? = some u → w.drew.cell? (Ad.add t) = some u) := by
    by_cases h : c0 = i + 1
    · refine ⟨⟨go,0,none⟩,by simp [h],⟨fun t u hu => ?_⟩⟩
      have h0 : news.length = 0 := by rw [hlen];have := HC.out;omega
      rw [List.length_eq_zero_iff.1 h0] at hu
      simp at hu
    · refine ⟨⟨go,i + 1,none⟩,by simp [h],⟨fun t u hu => ?_⟩⟩
      have ht : t < xs.length - (i + 1) := by
        have := (List.getElem?_eq_some_iff.1 hu).1;rwa [hlen] at this
      obtain ⟨x,hx⟩ : ∃ x,xs[i + 1 + t]? = some x := ⟨_,List.getElem?_eq_getElem (by omega)⟩;rw [hnews,List.getElem?_map,List.getElem?_drop,hx] at hu;obtain ⟨hc,_⟩ := Kd.R_celln (0 : Int) HO.out ((i + 1 + t : Nat) : Int) (by omega) (by omega);rw [show rdOf (0 : Int) xs ((i + 1 + t : Nat) : Int) = x by unfold rdOf;rw [Int.toNat_natCast,List.getD_eq_getElem?_getD,hx];rfl,Int.toNat_natCast] at hc;rw [Addr.add_lit];exact hc.trans hu
  have s1 := aK (show news.length = (xs.length - (i + 1)) * 1 by rw [Nat.mul_one];exact hlen);have s2 := aK (show ∀ u ∈ news,u.oneCell' = true by
    intro u hu;rw [hnews] at hu;obtain ⟨x,_,rfl⟩ := List.mem_map.1 hu
    rfl)
  have s3 := aK (show ∀ t,t < news.length → (w.drew.cell? ⟨go,0 + i * 1 + t,none⟩).isSome = true ∧ w.drew.frozen? ⟨go,0 + i * 1 + t,none⟩ = false by
    intro t ht;rw [hlen] at ht;obtain ⟨h1,h2⟩ := Kd.R_celln (0 : Int) HO.out ((i + t : Nat) : Int) (by omega) (by omega);rw [Int.toNat_natCast] at h1 h2;rw [Nat.mul_one,Nat.zero_add];exact ⟨by show (w.cell? _).isSome = true;rw [h1];rfl,h2⟩)
  obtain ⟨W1,hW1⟩ : ∃ W1,W1 = w.drew.setCells go (0 + i * 1) news := ⟨_,rfl⟩;have HO1 := aK (Kd.R_drew HO.out);obtain ⟨ys,e1,e2,e3,e4,e5⟩ := R_writes GB.out (xs.drop (i + 1)) i w.drew xs (by simp;omega) HO1.out;have eW : W1 = w.drew.setCells go i ((xs.drop (i + 1)).map (Value.int .i64)) := by rw [hW1,hnews,Nat.mul_one,Nat.zero_add]
  rw [← eW] at e3 e4 e5;have hys : xs.length = ys.length := e1.symm;have hll : i + (xs.length - (i + 1)) = xs.length - 1 := by omega
  have hcl : ∀ ty,(Builtin.clear_ #[22] ty #[.slice (some ⟨go,i + (xs.length - (i + 1)),none⟩) (xs.length - (i + (xs.length - (i + 1)))) (c0 - (i + (xs.length - (i + 1))))]).run Try.prog W1 = .ok (.tuple #[]) (W1.setCells go (i + (xs.length - (i + 1))) (List.replicate (xs.length - (i + (xs.length - (i + 1)))) (Value.int .i64 0))) := by
    intro ty;have hc := Kd.R_celln (0 : Int) e3 ((xs.length - 1 : Nat) : Int) (by omega) (by omega);rw [Int.toNat_natCast] at hc;rw [hll];refine Lib.run_clear_slice W1 _ _ ty _ Try.underlying22 zeroDI rfl rfl go (xs.length - 1) _ _ (by omega) (fun t ht => ?_) (fun t ht => ?_)
    · have : t = 0 := by omega
      subst this;rw [Nat.add_zero,hc.1];rfl
    · have : t = 0 := by omega
      subst this;rw [Nat.add_zero];exact hc.2
  obtain ⟨zs,z1,z2,z3,z4,z7⟩ := R_writes GB.out (List.replicate (xs.length - (i + (xs.length - (i + 1)))) 0) (i + (xs.length - (i + 1))) W1 ys (by simp;omega) e3;rw [List.map_replicate] at z3 z4 z7;have z5 := Kd.R_take (m := i + (xs.length - (i + 1))) z3 (by omega);have z6 : zs.take (i + (xs.length - (i + 1))) = xs.take i ++ xs.drop (i + 1) := by
    have h1 := congrArg (List.take (i + (xs.length - (i + 1)))) z2;rw [List.take_take,Nat.min_eq_left (by omega),List.take_left' (by simp;omega)] at h1;rw [h1];have h2 := e2;rw [List.length_drop] at h2;exact h2
  rw [z6] at z5;have HZ := aK z5;have HZB := aK (HB.out.trans ((below_drew (Below.refl base w)).trans (e4.trans z4)));have HZG := aK ((grownBy_drew w (some go)).trans (e5.trans z7));have HW := aK hW1;have HCL := aK hcl;have HYS := aK (And.intro e1 e2);have HO3 := aK e3;have HB4 := aK e4;have HLL := aK hll;obtain ⟨i0,hi0,hzz⟩ := Option.map_eq_some_iff.1 info2;simp only [Prod.mk.injEq] at hzz;have hz1 := hzz.2.1;clear hW1 e1 e2 e3 e4 eW hys hll hnews hlen hzz HO1 z1 z2 z3 z4 z5 z6 z7 e5;go_enter Try.func103,Try.ntmps103;go_wp2
  go_region_law (refine step_append_room rfl (.tmp 22) (.tmp 25) 22 rfl 2 i0 1 Try.underlying22 hi0 hz1 go 0 i c0 (by simp [Act.eval,Act.put]) Ad (xs.length - (i + 1)) (c0 - (i + 1)) news (by simp [Act.eval,Act.put]) s1.out hsrc.out s2.out (by omega) s3.out ?_;rw [← HW.out])
  go_wp2;go_ret
  exact ⟨_,rfl,HZ.out,HZB.out,HZG.out,rfl⟩
def cutAt (xs : List Int) (i : Int) : Option (List Int) := if 0 ≤ i then (if i < (xs.length : Int) then (if xs.length < 4611686018427387904 then some (xs.take i.toNat ++ xs.drop (i.toNat + 1)) else none) else none) else none
theorem cutAt_some {xs r : List Int} {i : Int} (h : cutAt xs i = some r) : ∃ j : Nat, i = (j : Int) ∧ j < xs.length ∧ xs.length < 4611686018427387904 ∧ r = xs.take j ++ xs.drop (j + 1) := by
 unfold cutAt at h
 by_cases c1 : 0 ≤ i
 rotate_left
 ·rw [if_neg c1] at h;cases h
 rw [if_pos c1] at h
 by_cases c2 : i < (xs.length : Int)
 ·rw [if_pos c2] at h
  by_cases c3 : xs.length < 4611686018427387904
  ·rw [if_pos c3] at h;exact ⟨i.toNat,by omega,by omega,c3,(Option.some.inj h).symm⟩
  ·rw [if_neg c3] at h;cases h
 ·rw [if_neg c2] at h;cases h
def without_false.f (k : Nat) (l0_0 l0_1 : List Int) (a1_1 : Int) : Option (List Int × List Int) := (slices_Clone_int64_int64.f l0_0).bind fun tC => ((slices_Clone_int64_int64.f l0_1).bind fun tL => ((slices_Index_int64_int64.f k tC a1_1).bind fun tI => ((cutAt tC tI).bind fun tD => (some (tD, tL)))))
def without_true.f (k : Nat) (l0_0 l0_1 : List Int) (a1_1 : Int) : Option (List Int × List Int) := (slices_Clone_int64_int64.f l0_0).bind fun tC => ((slices_Clone_int64_int64.f l0_1).bind fun tL => ((slices_Index_int64_int64.f k tL a1_1).bind fun tI => ((cutAt tL tI).bind fun tD => (some (tC, tD)))))
def impl_Ending_without.f (k : Nat) (l0_0 l0_1 : List Int) (a1_0 : Bool) (a1_1 : Int) : Option (List Int × List Int) := if a1_0 = true then without_true.f k l0_0 l0_1 a1_1 else without_false.f k l0_0 l0_1 a1_1
theorem impl_Ending_without.mono : ∀ a0 a1 a2 a3 k, LeO (impl_Ending_without.f k a0 a1 a2 a3) (impl_Ending_without.f (k + 1) a0 a1 a2 a3) := by
 intro a0 a1 a2 a3 k;unfold impl_Ending_without.f without_true.f without_false.f
 repeat' first
  | (with_reducible exact slices_Index_int64_int64.mono _ _ _)
  | (with_reducible exact LeO.refl _)
  | (with_reducible exact LeO.none _)
  | (with_reducible refine LeO.ite ?_ ?_)
  | (with_reducible refine LeO.bind ?_ (fun _ => ?_))
  | exact slices_Index_int64_int64.mono _ _ _
  | exact LeO.none _
  | refine LeO.ite ?_ ?_
  | refine LeO.bind ?_ (fun _ => ?_)
def impl_Ending_without.T1 : Bool × List (List Nat × List Nat) := (true, [([], []), ([0], [0]), ([1], [1]), ([], []), ([3], [3]), ([4, 2], [4]), ([2, 5], [2, 5]), ([], []), ([7, 6, 5, 0, 1, 2, 3, 4, 5, 6, 7], [6, 7])])
def impl_Ending_without.B1 : List Nat := [0, 1, 3, 0, 8, 31, 63, 0, 255]
theorem impl_Ending_without.tab1 : rtab .any (opsOf Try.f74 1) = impl_Ending_without.T1 := by kernel_rfl
theorem impl_Ending_without.bits1 : waitsOk impl_Ending_without.T1.2 impl_Ending_without.B1 = true := by kernel_rfl
set_option maxHeartbeats 8000000 in
set_option maxRecDepth 100000 in
theorem without_false.calls (k : Nat) (A0_0 : Option Addr) (c0_0 : Nat) (l0_0 : List Int) (A0_1 : Option Addr) (c0_1 : Nat) (l0_1 : List Int) (a1_1 : Int) (r1 : List Int) (r2 : List Int) (w : World) (hr0_0 : Kd.C (Kd.int .i64) w A0_0 l0_0.length l0_0) (hc0_0 : l0_0.length ≤ c0_0) (hr0_1 : Kd.C (Kd.int .i64) w A0_1 l0_1.length l0_1) (hc0_1 : l0_1.length ≤ c0_1) (h : without_false.f k l0_0 l0_1 a1_1 = some (r1, r2)) :
 Calls Try.prog 74 #[.agg #[.slice A0_0 l0_0.length c0_0,.slice A0_1 l0_1.length c0_1],.agg #[.bool false,.int .i64 a1_1]] w fun e w' => ∃ v0_ v1_ : Value,e = .returned (.agg #[v0_,v1_]) ∧ Kd.R (Kd.int .i64) 2 w' w.heap.size (fun k_ => some k_ ≠ (v1_ : Value).ownBlock) v0_ r1 ∧ Kd.R (Kd.int .i64) 2 w' w.heap.size (fun k_ => some k_ ≠ (v0_ : Value).ownBlock) v1_ r2 ∧ Below w.heap.size w w' := by
 have hu27 := Try.underlying27;have hu75 := Try.underlying75;have HR0_0 := aK hr0_0;have HC0_0 := aK hc0_0;clear hr0_0 hc0_0;have HR0_1 := aK hr0_1;have HC0_1 := aK hc0_1;clear hr0_1 hc0_1;have HB := aK (Below.refl w.heap.size w);have H := h;clear h;unfold without_false.f at H;replace H := bE H;obtain ⟨t242,A3,H⟩ := H;replace H := bE H;obtain ⟨t245,A4,H⟩ := H;replace H := bE H;obtain ⟨t249,A5,H⟩ := H;replace H := bE H;obtain ⟨t250,A6,H⟩ := H;obtain ⟨j_,ej_,hj_,hn_,et_⟩ := cutAt_some A6.out;subst ej_;have HJ := aK hj_;have HN := aK hn_;have HT6 := aK et_;clear hj_ hn_ et_;simp only [Option.some.injEq,Prod.mk.injEq] at H;obtain ⟨rfl,rfl⟩ := H;go_enter Try.func74,Try.ntmps74
 try go_wp2_with (first | ((with_reducible refine gate_dst (N := 2) rfl ?_);refine boxE 2 #[.slice A0_0 l0_0.length c0_0,.slice A0_1 l0_1.length c0_1] 27 ?_;intro gb239 hg w7 hbox hb;have BK239 := aK (hbox);have GW239 := aK (zG HB hg);have GE239 := aK (zG HB hg);replace HB := hB HB hb;clear hb hbox hg) | ((with_reducible refine gate_dst (N := 3) rfl ?_);refine boxE 3 #[.bool false,.int .i64 a1_1] 75 ?_;intro gb240 hg w8 hbox hb;have BK240 := aK (hbox);have GW240 := aK (zG HB hg);have GE240 := aK (zG HB hg);replace HB := hB HB hb;have NB239_240 := aK ((by rw [hg];exact Nat.ne_of_lt (blk_lt (g := gb239) (o := .cells #[.slice A0_0 l0_0.length c0_0,.slice A0_1 l0_1.length c0_1] 27 (0,0)) (kN BK239)) : gb239 ≠ gb240));have NB240_239 := aK ((by rw [hg];exact Nat.ne_of_gt (blk_lt (g := gb239) (o := .cells #[.slice A0_0 l0_0.length c0_0,.slice A0_1 l0_1.length c0_1] 27 (0,0)) (kN BK239)) : gb240 ≠ gb239));replace BK239 := kB BK239 hb;clear hb hbox hg) | ((with_reducible refine gate_dst (N := 4) rfl ?_);refine boxE 4 #[.slice none 0 0,.slice none 0 0] 27 ?_;intro gb241 hg w9 hbox hb;have BK241 := aK (hbox);have GW241 := aK (zG HB hg);have GE241 := aK (zG HB hg);replace HB := hB HB hb;have NB239_241 := aK ((by rw [hg];exact Nat.ne_of_lt (blk_lt (g := gb239) (o := .cells #[.slice A0_0 l0_0.length c0_0,.slice A0_1 l0_1.length c0_1] 27 (0,0)) (kN BK239)) : gb239 ≠ gb241));have NB241_239 := aK ((by rw [hg];exact Nat.ne_of_gt (blk_lt (g := gb239) (o := .cells #[.slice A0_0 l0_0.length c0_0,.slice A0_1 l0_1.length c0_1] 27 (0,0)) (kN BK239)) : gb241 ≠ gb239));replace BK239 := kB BK239 hb;have NB240_241 := aK ((by rw [hg];exact Nat.ne_of_lt (blk_lt (g := gb240) (o := .cells #[.bool false,.int .i64 a1_1] 75 (0,0)) (kN BK240)) : gb240 ≠ gb241));have NB241_240 := aK ((by rw [hg];exact Nat.ne_of_gt (blk_lt (g := gb240) (o := .cells #[.bool false,.int .i64 a1_1] 75 (0,0)) (kN BK240)) : gb241 ≠ gb240));replace BK240 := kB BK240 hb;clear hb hbox hg))
 have n0_ := aK (blk_drew BK239.out);have n1_ := aK (blk_drew BK240.out);have n2_ := aK (blk_drew BK241.out);have n3_ := aK (below_drew1 HB.out);clear BK239;clear BK240;clear BK241;clear HB;have BK239 := n0_;have BK240 := n1_;have BK241 := n2_;have HB := n3_;clear n0_ n1_ n2_ n3_;refine start_ (n := 9) (S := fun w' => w'.cell? ⟨gb239,0,none⟩ = some (.slice A0_0 l0_0.length c0_0) ∧ w'.cell? ⟨gb239,1,none⟩ = some (.slice A0_1 l0_1.length c0_1)) (ds := []) #[false,false,false,false,false,false,false,false,false] (by kernel_rfl) rfl rfl ⟨(blk_cell BK239.out 0).trans rfl,(blk_cell BK239.out 1).trans rfl⟩ (fun hHeld => ?_);refine with_tabW impl_Ending_without.tab1 impl_Ending_without.bits1 (fun HT_ HW_ => ?_)
 generalize w9.drew = w10 at BK239 BK240 BK241 HB hHeld ⊢
 refine pT HT_ 0 (some 8) ?_;refine pT HT_ 3 (some 11) ?_;refine tT HT_ HW_ hHeld 1 (some 9) ?_;refine tT HT_ HW_ hHeld 4 (some 12) ?_;refine join_ (σ := Value × Value × Nat) 1 #[true,true,true,true,true,true,true,true,false] (fun s_ => [(10,s_.1),(13,s_.2.1),(5,.pointer (some ⟨s_.2.2,0,none⟩)),(14,.agg #[s_.1,s_.2.1])]) (fun s_ w' => (w'.cell? ⟨gb239,0,none⟩ = some (.slice A0_0 l0_0.length c0_0) ∧ w'.cell? ⟨gb239,1,none⟩ = some (.slice A0_1 l0_1.length c0_1)) ∧ (Kd.R (Kd.int .i64) 2 w' w.heap.size (fun k_ => some k_ ≠ (s_.2.1 : Value).ownBlock) s_.1 t242) ∧ (Kd.R (Kd.int .i64) 2 w' w.heap.size (fun k_ => some k_ ≠ (s_.1 : Value).ownBlock) s_.2.1 t245) ∧ (w'.heap[gb239]? = some (.cells #[.slice A0_0 l0_0.length c0_0,.slice A0_1 l0_1.length c0_1] 27 (0,0))) ∧ (w'.heap[gb240]? = some (.cells #[.bool false,.int .i64 a1_1] 75 (0,0))) ∧ (w'.heap[gb241]? = some (.cells #[.slice none 0 0,.slice none 0 0] 27 (0,0))) ∧ (w'.heap[s_.2.2]? = some (.cells #[.slice none 0 0,.slice none 0 0] 27 (0,0))) ∧ (w.heap.size ≤ s_.2.2) ∧ (w.heap.size ≤ s_.2.2) ∧ (gb239 ≠ s_.2.2) ∧ (s_.2.2 ≠ gb239) ∧ (gb240 ≠ s_.2.2) ∧ (s_.2.2 ≠ gb240) ∧ (gb241 ≠ s_.2.2) ∧ (s_.2.2 ≠ gb241) ∧ (Below w.heap.size w w')) ?_ ?_;rotate_left
 ·intro hCont;refine two_ (i := 2) (j := 7) (Ni := some 10) (Nj := some 5) #[true,true,true,true,true,false,false,false,false] #[true,true,false,true,true,false,false,true,false] rfl rfl rfl rfl (two_of HT_.out (by kernel_rfl)) (by decide) (by decide) (fun K hK => ?_) (fun K hK => ?_)
  ·skip;refine gO Try.func68 #[.slice A0_0 l0_0.length c0_0] ?_
   with_reducible refine (slices_Clone_int64_int64.calls _ _ l0_0 t242 _ ?side1 ?side2 A3.out).mono ?_
   (case side1 => exact cB HR0_0 HB)
   (case side2 => exact HC0_0.out)
   rintro e w11 ⟨v243,rfl,ho0,hb⟩;refine ⟨_,rfl,?_⟩;have n0_ := aK (Kd.R_lower ho0 (below_size (bN HB)));have n1_ := kB BK239 hb;have n2_ := kB BK240 hb;have n3_ := kB BK241 hb;have n4_ := hB HB hb;clear BK239;clear BK240;clear BK241;clear HB;have HO244 := n0_;have BK239 := n1_;have BK240 := n2_;have BK241 := n3_;have HB := n4_;clear n0_ n1_ n2_ n3_ n4_;clear hb ho0;refine hK.out _ _ ⟨(blk_cell BK239.out 0).trans rfl,(blk_cell BK239.out 1).trans rfl⟩ (fun hHeld => ?_);clear hK K;refine nT 10 ?_;refine two_ (i := 5) (j := 7) (Ni := some 13) (Nj := some 5) #[true,true,true,true,true,true,false,false,false] #[true,true,true,true,true,false,false,true,false] rfl rfl rfl rfl (two_of HT_.out (by kernel_rfl)) (by decide) (by decide) (fun K hK => ?_) (fun K hK => ?_)
   ·skip;refine gO Try.func68 #[.slice A0_1 l0_1.length c0_1] ?_
    with_reducible refine (slices_Clone_int64_int64.calls _ _ l0_1 t245 _ ?side1 ?side2 A4.out).mono ?_
    (case side1 => exact cB HR0_1 HB)
    (case side2 => exact HC0_1.out)
    rintro e w12 ⟨v246,rfl,ho0,hb⟩;refine ⟨_,rfl,?_⟩;have n0_ := aK (Kd.R_elder' (rN HO244) (Kd.R_base ho0) hb);have n1_ := aK (Kd.R_lower (Kd.R_new' ho0 (Kd.R_lt (rN HO244))) (below_size (bN HB)));have n2_ := kB BK239 hb;have n3_ := kB BK240 hb;have n4_ := kB BK241 hb;have n5_ := hB HB hb;clear HO244;clear BK239;clear BK240;clear BK241;clear HB;have HO244 := n0_;have HO247 := n1_;have BK239 := n2_;have BK240 := n3_;have BK241 := n4_;have HB := n5_;clear n0_ n1_ n2_ n3_ n4_ n5_;clear hb ho0;obtain ⟨Ao13,co13,eo13⟩ := Kd.R_slice HO247.out;(first | subst eo13 | (injection eo13 with f1_ f2_ f3_;have f4_ := f1_.symm;have f5_ := f3_.symm;clear f1_ f2_ f3_;subst f4_;subst f5_));obtain ⟨Ao14,co14,eo14⟩ := Kd.R_slice HO244.out;(first | subst eo14 | (injection eo14 with f1_ f2_ f3_;have f4_ := f1_.symm;have f5_ := f3_.symm;clear f1_ f2_ f3_;subst f4_;subst f5_));refine hK.out _ _ ⟨(blk_cell BK239.out 0).trans rfl,(blk_cell BK239.out 1).trans rfl⟩ (fun hHeld => ?_);clear hK K;refine nT 13 ?_;refine pT HT_ 6 (some 14) ?_;refine oT HT_ 7 (some 5) (fun K hK => ?_);refine box_step ?hg (N := 5) ?hd (cs := #[.slice none 0 0,.slice none 0 0]) (t := 27) ?hr ?_;(case hd => rfl);(case hg => rfl);(case hr => first | (go_simp;done) | (go_simp;rfl));intro gb248 hg w15 hbox hb;have n0_ := rB HO244 hb;have n1_ := rB HO247 hb;have n2_ := kB BK239 hb;have n3_ := kB BK240 hb;have n4_ := kB BK241 hb;have n5_ := hB HB hb;have n6_ := aK (hbox);have n7_ := aK (zG HB hg);have n8_ := aK (zG HB hg);have n9_ := aK ((by rw [hg];exact Nat.ne_of_lt (blk_lt (g := gb239) (o := .cells #[.slice A0_0 l0_0.length c0_0,.slice A0_1 l0_1.length c0_1] 27 (0,0)) (kN BK239)) : gb239 ≠ gb248));have n10_ := aK ((by rw [hg];exact Nat.ne_of_gt (blk_lt (g := gb239) (o := .cells #[.slice A0_0 l0_0.length c0_0,.slice A0_1 l0_1.length c0_1] 27 (0,0)) (kN BK239)) : gb248 ≠ gb239));have n11_ := aK ((by rw [hg];exact Nat.ne_of_lt (blk_lt (g := gb240) (o := .cells #[.bool false,.int .i64 a1_1] 75 (0,0)) (kN BK240)) : gb240 ≠ gb248));have n12_ := aK ((by rw [hg];exact Nat.ne_of_gt (blk_lt (g := gb240) (o := .cells #[.bool false,.int .i64 a1_1] 75 (0,0)) (kN BK240)) : gb248 ≠ gb240));have n13_ := aK ((by rw [hg];exact Nat.ne_of_lt (blk_lt (g := gb241) (o := .cells #[.slice none 0 0,.slice none 0 0] 27 (0,0)) (kN BK241)) : gb241 ≠ gb248));have n14_ := aK ((by rw [hg];exact Nat.ne_of_gt (blk_lt (g := gb241) (o := .cells #[.slice none 0 0,.slice none 0 0] 27 (0,0)) (kN BK241)) : gb248 ≠ gb241));clear HO244;clear HO247;clear BK239;clear BK240;clear BK241;clear HB;have HO244 := n0_;have HO247 := n1_;have BK239 := n2_;have BK240 := n3_;have BK241 := n4_;have HB := n5_;have BK248 := n6_;have GW248 := n7_;have GE248 := n8_;have NB239_248 := n9_;have NB248_239 := n10_;have NB240_248 := n11_;have NB248_240 := n12_;have NB241_248 := n13_;have NB248_241 := n14_;clear n0_ n1_ n2_ n3_ n4_ n5_ n6_ n7_ n8_ n9_ n10_ n11_ n12_ n13_ n14_;clear hb hbox hg;refine hK.out _ _ ⟨(blk_cell BK239.out 0).trans rfl,(blk_cell BK239.out 1).trans rfl⟩ (fun hHeld => ?_);clear hK K;refine nT 5 ?_;exact norm_ (by simp only [putAll,Act.put,List.setIfInBounds_toArray,List.set_cons_zero,List.set_cons_succ]) (hCont (.slice Ao14 t242.length co14,.slice Ao13 t245.length co13,gb248) _ ⟨hHeld,(rM (Kd.R_mono HO244.out (fun _ hk => hk.2))),(rM (Kd.R_mono HO247.out (fun _ hk => hk.2))),(kN BK239),(kN BK240),(kN BK241),(kN BK248),GW248.out,GE248.out,NB239_248.out,NB248_239.out,NB240_248.out,NB248_240.out,NB241_248.out,NB248_241.out,(bN HB)⟩)
   ·skip;refine box_step ?hg (N := 5) ?hd (cs := #[.slice none 0 0,.slice none 0 0]) (t := 27) ?hr ?_;(case hd => rfl);(case hg => rfl);(case hr => first | (go_simp;done) | (go_simp;rfl))
    intro gb248 hg w12 hbox hb;have n0_ := rB HO244 hb;have n1_ := kB BK239 hb;have n2_ := kB BK240 hb;have n3_ := kB BK241 hb;have n4_ := hB HB hb;have n5_ := aK (hbox);have n6_ := aK (zG HB hg);have n7_ := aK (zG HB hg);have n8_ := aK ((by rw [hg];exact Nat.ne_of_lt (blk_lt (g := gb239) (o := .cells #[.slice A0_0 l0_0.length c0_0,.slice A0_1 l0_1.length c0_1] 27 (0,0)) (kN BK239)) : gb239 ≠ gb248));have n9_ := aK ((by rw [hg];exact Nat.ne_of_gt (blk_lt (g := gb239) (o := .cells #[.slice A0_0 l0_0.length c0_0,.slice A0_1 l0_1.length c0_1] 27 (0,0)) (kN BK239)) : gb248 ≠ gb239));have n10_ := aK ((by rw [hg];exact Nat.ne_of_lt (blk_lt (g := gb240) (o := .cells #[.bool false,.int .i64 a1_1] 75 (0,0)) (kN BK240)) : gb240 ≠ gb248));have n11_ := aK ((by rw [hg];exact Nat.ne_of_gt (blk_lt (g := gb240) (o := .cells #[.bool false,.int .i64 a1_1] 75 (0,0)) (kN BK240)) : gb248 ≠ gb240));have n12_ := aK ((by rw [hg];exact Nat.ne_of_lt (blk_lt (g := gb241) (o := .cells #[.slice none 0 0,.slice none 0 0] 27 (0,0)) (kN BK241)) : gb241 ≠ gb248));have n13_ := aK ((by rw [hg];exact Nat.ne_of_gt (blk_lt (g := gb241) (o := .cells #[.slice none 0 0,.slice none 0 0] 27 (0,0)) (kN BK241)) : gb248 ≠ gb241));clear HO244;clear BK239;clear BK240;clear BK241;clear HB;have HO244 := n0_;have BK239 := n1_;have BK240 := n2_;have BK241 := n3_;have HB := n4_;have BK248 := n5_;have GW248 := n6_;have GE248 := n7_;have NB239_248 := n8_;have NB248_239 := n9_;have NB240_248 := n10_;have NB248_240 := n11_;have NB241_248 := n12_;have NB248_241 := n13_;clear n0_ n1_ n2_ n3_ n4_ n5_ n6_ n7_ n8_ n9_ n10_ n11_ n12_ n13_;clear hb hbox hg;refine hK.out _ _ ⟨(blk_cell BK239.out 0).trans rfl,(blk_cell BK239.out 1).trans rfl⟩ (fun hHeld => ?_);clear hK K;refine nT 5 ?_;refine oT HT_ 5 (some 13) (fun K hK => ?_);refine gO Try.func68 #[.slice A0_1 l0_1.length c0_1] ?_
    with_reducible refine (slices_Clone_int64_int64.calls _ _ l0_1 t245 _ ?side1 ?side2 A4.out).mono ?_
    (case side1 => exact cB HR0_1 HB)
    (case side2 => exact HC0_1.out)
    rintro e w13 ⟨v246,rfl,ho0,hb⟩;refine ⟨_,rfl,?_⟩;have n0_ := aK (Kd.R_elder' (rN HO244) (Kd.R_base ho0) hb);have n1_ := aK (Kd.R_lower (Kd.R_new' ho0 (Kd.R_lt (rN HO244))) (below_size (bN HB)));have n2_ := kB BK239 hb;have n3_ := kB BK240 hb;have n4_ := kB BK241 hb;have n5_ := kB BK248 hb;have n6_ := hB HB hb;clear HO244;clear BK239;clear BK240;clear BK241;clear BK248;clear HB;have HO244 := n0_;have HO247 := n1_;have BK239 := n2_;have BK240 := n3_;have BK241 := n4_;have BK248 := n5_;have HB := n6_;clear n0_ n1_ n2_ n3_ n4_ n5_ n6_;clear hb ho0;obtain ⟨Ao14,co14,eo14⟩ := Kd.R_slice HO247.out;(first | subst eo14 | (injection eo14 with f1_ f2_ f3_;have f4_ := f1_.symm;have f5_ := f3_.symm;clear f1_ f2_ f3_;subst f4_;subst f5_));obtain ⟨Ao15,co15,eo15⟩ := Kd.R_slice HO244.out;(first | subst eo15 | (injection eo15 with f1_ f2_ f3_;have f4_ := f1_.symm;have f5_ := f3_.symm;clear f1_ f2_ f3_;subst f4_;subst f5_));refine hK.out _ _ ⟨(blk_cell BK239.out 0).trans rfl,(blk_cell BK239.out 1).trans rfl⟩ (fun hHeld => ?_);clear hK K;refine nT 13 ?_;refine pT HT_ 6 (some 14) ?_;exact norm_ (by simp only [putAll,Act.put,List.setIfInBounds_toArray,List.set_cons_zero,List.set_cons_succ]) (hCont (.slice Ao15 t242.length co15,.slice Ao14 t245.length co14,gb248) _ ⟨hHeld,(rM (Kd.R_mono HO244.out (fun _ hk => hk.2))),(rM (Kd.R_mono HO247.out (fun _ hk => hk.2))),(kN BK239),(kN BK240),(kN BK241),(kN BK248),GW248.out,GE248.out,NB239_248.out,NB248_239.out,NB240_248.out,NB248_240.out,NB241_248.out,NB248_241.out,(bN HB)⟩)
  ·skip;refine box_step ?hg (N := 5) ?hd (cs := #[.slice none 0 0,.slice none 0 0]) (t := 27) ?hr ?_;(case hd => rfl);(case hg => rfl);(case hr => first | (go_simp;done) | (go_simp;rfl))
   intro gb248 hg w11 hbox hb;have n0_ := kB BK239 hb;have n1_ := kB BK240 hb;have n2_ := kB BK241 hb;have n3_ := hB HB hb;have n4_ := aK (hbox);have n5_ := aK (zG HB hg);have n6_ := aK (zG HB hg);have n7_ := aK ((by rw [hg];exact Nat.ne_of_lt (blk_lt (g := gb239) (o := .cells #[.slice A0_0 l0_0.length c0_0,.slice A0_1 l0_1.length c0_1] 27 (0,0)) (kN BK239)) : gb239 ≠ gb248));have n8_ := aK ((by rw [hg];exact Nat.ne_of_gt (blk_lt (g := gb239) (o := .cells #[.slice A0_0 l0_0.length c0_0,.slice A0_1 l0_1.length c0_1] 27 (0,0)) (kN BK239)) : gb248 ≠ gb239));have n9_ := aK ((by rw [hg];exact Nat.ne_of_lt (blk_lt (g := gb240) (o := .cells #[.bool false,.int .i64 a1_1] 75 (0,0)) (kN BK240)) : gb240 ≠ gb248));have n10_ := aK ((by rw [hg];exact Nat.ne_of_gt (blk_lt (g := gb240) (o := .cells #[.bool false,.int .i64 a1_1] 75 (0,0)) (kN BK240)) : gb248 ≠ gb240));have n11_ := aK ((by rw [hg];exact Nat.ne_of_lt (blk_lt (g := gb241) (o := .cells #[.slice none 0 0,.slice none 0 0] 27 (0,0)) (kN BK241)) : gb241 ≠ gb248));have n12_ := aK ((by rw [hg];exact Nat.ne_of_gt (blk_lt (g := gb241) (o := .cells #[.slice none 0 0,.slice none 0 0] 27 (0,0)) (kN BK241)) : gb248 ≠ gb241));clear BK239;clear BK240;clear BK241;clear HB;have BK239 := n0_;have BK240 := n1_;have BK241 := n2_;have HB := n3_;have BK248 := n4_;have GW248 := n5_;have GE248 := n6_;have NB239_248 := n7_;have NB248_239 := n8_;have NB240_248 := n9_;have NB248_240 := n10_;have NB241_248 := n11_;have NB248_241 := n12_;clear n0_ n1_ n2_ n3_ n4_ n5_ n6_ n7_ n8_ n9_ n10_ n11_ n12_;clear hb hbox hg;refine hK.out _ _ ⟨(blk_cell BK239.out 0).trans rfl,(blk_cell BK239.out 1).trans rfl⟩ (fun hHeld => ?_);clear hK K;refine nT 5 ?_;refine oT HT_ 2 (some 10) (fun K hK => ?_);refine gO Try.func68 #[.slice A0_0 l0_0.length c0_0] ?_
   with_reducible refine (slices_Clone_int64_int64.calls _ _ l0_0 t242 _ ?side1 ?side2 A3.out).mono ?_
   (case side1 => exact cB HR0_0 HB)
   (case side2 => exact HC0_0.out)
   rintro e w12 ⟨v243,rfl,ho0,hb⟩;refine ⟨_,rfl,?_⟩;have n0_ := aK (Kd.R_lower ho0 (below_size (bN HB)));have n1_ := kB BK239 hb;have n2_ := kB BK240 hb;have n3_ := kB BK241 hb;have n4_ := kB BK248 hb;have n5_ := hB HB hb;clear BK239;clear BK240;clear BK241;clear BK248;clear HB;have HO244 := n0_;have BK239 := n1_;have BK240 := n2_;have BK241 := n3_;have BK248 := n4_;have HB := n5_;clear n0_ n1_ n2_ n3_ n4_ n5_;clear hb ho0;refine hK.out _ _ ⟨(blk_cell BK239.out 0).trans rfl,(blk_cell BK239.out 1).trans rfl⟩ (fun hHeld => ?_);clear hK K;refine nT 10 ?_;refine oT HT_ 5 (some 13) (fun K hK => ?_);refine gO Try.func68 #[.slice A0_1 l0_1.length c0_1] ?_
   with_reducible refine (slices_Clone_int64_int64.calls _ _ l0_1 t245 _ ?side1 ?side2 A4.out).mono ?_
   (case side1 => exact cB HR0_1 HB)
   (case side2 => exact HC0_1.out)
   rintro e w13 ⟨v246,rfl,ho0,hb⟩;refine ⟨_,rfl,?_⟩;have n0_ := aK (Kd.R_elder' (rN HO244) (Kd.R_base ho0) hb);have n1_ := aK (Kd.R_lower (Kd.R_new' ho0 (Kd.R_lt (rN HO244))) (below_size (bN HB)));have n2_ := kB BK239 hb;have n3_ := kB BK240 hb;have n4_ := kB BK241 hb;have n5_ := kB BK248 hb;have n6_ := hB HB hb;clear HO244;clear BK239;clear BK240;clear BK241;clear BK248;clear HB;have HO244 := n0_;have HO247 := n1_;have BK239 := n2_;have BK240 := n3_;have BK241 := n4_;have BK248 := n5_;have HB := n6_;clear n0_ n1_ n2_ n3_ n4_ n5_ n6_;clear hb ho0;obtain ⟨Ao14,co14,eo14⟩ := Kd.R_slice HO247.out;(first | subst eo14 | (injection eo14 with f1_ f2_ f3_;have f4_ := f1_.symm;have f5_ := f3_.symm;clear f1_ f2_ f3_;subst f4_;subst f5_));obtain ⟨Ao15,co15,eo15⟩ := Kd.R_slice HO244.out;(first | subst eo15 | (injection eo15 with f1_ f2_ f3_;have f4_ := f1_.symm;have f5_ := f3_.symm;clear f1_ f2_ f3_;subst f4_;subst f5_));refine hK.out _ _ ⟨(blk_cell BK239.out 0).trans rfl,(blk_cell BK239.out 1).trans rfl⟩ (fun hHeld => ?_);clear hK K;refine nT 13 ?_;refine pT HT_ 6 (some 14) ?_;exact norm_ (by simp only [putAll,Act.put,List.setIfInBounds_toArray,List.set_cons_zero,List.set_cons_succ]) (hCont (.slice Ao15 t242.length co15,.slice Ao14 t245.length co14,gb248) _ ⟨hHeld,(rM (Kd.R_mono HO244.out (fun _ hk => hk.2))),(rM (Kd.R_mono HO247.out (fun _ hk => hk.2))),(kN BK239),(kN BK240),(kN BK241),(kN BK248),GW248.out,GE248.out,NB239_248.out,NB248_239.out,NB240_248.out,NB248_240.out,NB241_248.out,NB248_241.out,(bN HB)⟩)
 rintro ⟨v243,v246,gb248⟩ w16 ⟨hS_,h0_,h1_,h2_,h3_,h4_,h5_,h6_,h7_,h8_,h9_,h10_,h11_,h12_,h13_,h14_⟩;have n0_ : Aside0 (Kd.R (Kd.int .i64) 2 w16 w.heap.size (fun k_ => some k_ ≠ (v246 : Value).ownBlock) v243 t242) := ⟨h0_⟩;have n1_ : Aside0 (Kd.R (Kd.int .i64) 2 w16 w.heap.size (fun k_ => some k_ ≠ (v243 : Value).ownBlock) v246 t245) := ⟨h1_⟩;have n2_ : Aside0 (w16.heap[gb239]? = some (.cells #[.slice A0_0 l0_0.length c0_0,.slice A0_1 l0_1.length c0_1] 27 (0,0))) := ⟨h2_⟩;have n3_ : Aside0 (w16.heap[gb240]? = some (.cells #[.bool false,.int .i64 a1_1] 75 (0,0))) := ⟨h3_⟩;have n4_ : Aside0 (w16.heap[gb241]? = some (.cells #[.slice none 0 0,.slice none 0 0] 27 (0,0))) := ⟨h4_⟩;have n5_ : Aside0 (w16.heap[gb248]? = some (.cells #[.slice none 0 0,.slice none 0 0] 27 (0,0))) := ⟨h5_⟩;have n6_ : Aside0 (w.heap.size ≤ gb248) := ⟨h6_⟩;have n7_ : Aside0 (w.heap.size ≤ gb248) := ⟨h7_⟩;have n8_ : Aside0 (gb239 ≠ gb248) := ⟨h8_⟩;have n9_ : Aside0 (gb248 ≠ gb239) := ⟨h9_⟩;have n10_ : Aside0 (gb240 ≠ gb248) := ⟨h10_⟩;have n11_ : Aside0 (gb248 ≠ gb240) := ⟨h11_⟩;have n12_ : Aside0 (gb241 ≠ gb248) := ⟨h12_⟩;have n13_ : Aside0 (gb248 ≠ gb241) := ⟨h13_⟩;have n14_ : Aside0 (Below w.heap.size w w16) := ⟨h14_⟩;clear BK239;clear BK240;clear BK241;clear HB;clear h0_ h1_ h2_ h3_ h4_ h5_ h6_ h7_ h8_ h9_ h10_ h11_ h12_ h13_ h14_;have HO244 := n0_;have HO247 := n1_;have BK239 := n2_;have BK240 := n3_;have BK241 := n4_;have BK248 := n5_;have GW248 := n6_;have GE248 := n7_;have NB239_248 := n8_;have NB248_239 := n9_;have NB240_248 := n10_;have NB248_240 := n11_;have NB241_248 := n12_;have NB248_241 := n13_;have HB := n14_;clear n0_ n1_ n2_ n3_ n4_ n5_ n6_ n7_ n8_ n9_ n10_ n11_ n12_ n13_ n14_;have hHeld : w16.cell? ⟨gb239,0,none⟩ = some (.slice A0_0 l0_0.length c0_0) ∧ w16.cell? ⟨gb239,1,none⟩ = some (.slice A0_1 l0_1.length c0_1) := hS_;obtain ⟨Ao17,co17,eo17⟩ := Kd.R_slice HO247.out;(first | subst eo17 | (injection eo17 with f1_ f2_ f3_;have f4_ := f1_.symm;have f5_ := f3_.symm;clear f1_ f2_ f3_;subst f4_;subst f5_));obtain ⟨Ao18,co18,eo18⟩ := Kd.R_slice HO244.out;(first | subst eo18 | (injection eo18 with f1_ f2_ f3_;have f4_ := f1_.symm;have f5_ := f3_.symm;clear f1_ f2_ f3_;subst f4_;subst f5_));refine norm_ (a' := ?_) ?_ ?_;rotate_left
 ·simp only [putAll,Act.put,List.setIfInBounds_toArray,List.set_cons_zero,List.set_cons_succ]
  rfl
 refine oT HT_ 8 (none) (fun K hK => ?_);have hs19 : w16.cell? ⟨gb248,0,none⟩ = some (.slice none 0 0) := (blk_cell BK248.out 0).trans rfl;have hfs19 := blk_frozen BK248.out 0;have hns19_0 := NB239_248.out;have hns19_1 := NB240_248.out;have hns19_2 := NB241_248.out;have hms19_0 := NB248_239.out;have hms19_1 := NB248_240.out;have hms19_2 := NB248_241.out;have hs20 : w16.cell? ⟨gb248,1,none⟩ = some (.slice none 0 0) := (blk_cell BK248.out 1).trans rfl;have hfs20 := blk_frozen BK248.out 1;have hns20_0 := NB239_248.out;have hns20_1 := NB240_248.out;have hns20_2 := NB241_248.out;have hms20_0 := NB248_239.out;have hms20_1 := NB248_240.out;have hms20_2 := NB248_241.out;refine skip_ (w1 := ?_) (by rfl) rfl ?_ ?_;rotate_left
 ·go_simp
  rfl
 refine hK.out _ _ ⟨((cell_far (p := ⟨gb248,_,none⟩) NB239_248.out _).trans (((cell_far (p := ⟨gb248,_,none⟩) NB239_248.out _).trans (hHeld.1)))),((cell_far (p := ⟨gb248,_,none⟩) NB239_248.out _).trans (((cell_far (p := ⟨gb248,_,none⟩) NB239_248.out _).trans (hHeld.2))))⟩ (fun hHeld => ?_);clear hK K;refine done_ (done_of HT_.out (by kernel_rfl)) ?_;have hq0_ : w16.cell? ⟨gb240,0,none⟩ = some (.bool false) := (blk_cell BK240.out 0).trans rfl
 try go_wp2
 clear hq0_;have n0_ : Aside0 (Kd.R (Kd.int .i64) 2 ((w16.setCell ⟨gb248,0,none⟩ (.slice Ao18 t242.length co18)).setCell ⟨gb248,1,none⟩ (.slice Ao17 t245.length co17)) w.heap.size (fun k_ => some k_ ≠ (.slice Ao17 t245.length co17 : Value).ownBlock) (.slice Ao18 t242.length co18) t242) := ⟨rM (Kd.R_mono (Kd.R_far (p := ⟨gb248,1,none⟩) (Kd.R_far (p := ⟨gb248,0,none⟩) (Kd.R_types HO244.out BK248.out (by decide)) (fun _ hk => hk.2) (.slice Ao18 t242.length co18)) (fun _ hk => hk.2) (.slice Ao17 t245.length co17)) (fun _ hk => hk.1))⟩;have n1_ : Aside0 (Kd.R (Kd.int .i64) 2 ((w16.setCell ⟨gb248,0,none⟩ (.slice Ao18 t242.length co18)).setCell ⟨gb248,1,none⟩ (.slice Ao17 t245.length co17)) w.heap.size (fun k_ => some k_ ≠ (.slice Ao18 t242.length co18 : Value).ownBlock) (.slice Ao17 t245.length co17) t245) := ⟨rM (Kd.R_mono (Kd.R_far (p := ⟨gb248,1,none⟩) (Kd.R_far (p := ⟨gb248,0,none⟩) (Kd.R_types HO247.out BK248.out (by decide)) (fun _ hk => hk.2) (.slice Ao18 t242.length co18)) (fun _ hk => hk.2) (.slice Ao17 t245.length co17)) (fun _ hk => hk.1))⟩;have n2_ : Aside0 (((w16.setCell ⟨gb248,0,none⟩ (.slice Ao18 t242.length co18)).setCell ⟨gb248,1,none⟩ (.slice Ao17 t245.length co17)).heap[gb239]? = some (.cells #[.slice A0_0 l0_0.length c0_0,.slice A0_1 l0_1.length c0_1] 27 (0,0))) := ⟨kZ BK239⟩;have n3_ : Aside0 (((w16.setCell ⟨gb248,0,none⟩ (.slice Ao18 t242.length co18)).setCell ⟨gb248,1,none⟩ (.slice Ao17 t245.length co17)).heap[gb240]? = some (.cells #[.bool false,.int .i64 a1_1] 75 (0,0))) := ⟨kZ BK240⟩;have n4_ : Aside0 (((w16.setCell ⟨gb248,0,none⟩ (.slice Ao18 t242.length co18)).setCell ⟨gb248,1,none⟩ (.slice Ao17 t245.length co17)).heap[gb241]? = some (.cells #[.slice none 0 0,.slice none 0 0] 27 (0,0))) := ⟨kZ BK241⟩;have n5_ : Aside0 (((w16.setCell ⟨gb248,0,none⟩ (.slice Ao18 t242.length co18)).setCell ⟨gb248,1,none⟩ (.slice Ao17 t245.length co17)).heap[gb248]? = some (.cells #[.slice Ao18 t242.length co18,.slice Ao17 t245.length co17] 27 (0,0))) := ⟨by (with_reducible repeat (first | refine blk_drewN ?_ _ | refine blk_drew ?_ | refine blk_alloc ?_ _));refine blk_put (cs := #[.slice Ao18 t242.length co18,.slice none 0 0]) ?_ 1 _ rfl;(with_reducible repeat (first | refine blk_drewN ?_ _ | refine blk_drew ?_ | refine blk_alloc ?_ _));refine blk_put (cs := #[.slice none 0 0,.slice none 0 0]) ?_ 0 _ rfl;(with_reducible repeat (first | refine blk_drewN ?_ _ | refine blk_drew ?_ | refine blk_alloc ?_ _));exact BK248.out⟩;have n6_ : Aside0 (Below w.heap.size w ((w16.setCell ⟨gb248,0,none⟩ (.slice Ao18 t242.length co18)).setCell ⟨gb248,1,none⟩ (.slice Ao17 t245.length co17))) := ⟨bN HB⟩;clear HO244 HO247 BK239 BK240 BK241 BK248 HB
 generalize ((w16.setCell ⟨gb248,0,none⟩ (.slice Ao18 t242.length co18)).setCell ⟨gb248,1,none⟩ (.slice Ao17 t245.length co17)) = w21 at n0_ n1_ n2_ n3_ n4_ n5_ n6_ ⊢
 have HO244 := n0_;have HO247 := n1_;have BK239 := n2_;have BK240 := n3_;have BK241 := n4_;have BK248 := n5_;have HB := n6_;clear n0_ n1_ n2_ n3_ n4_ n5_ n6_;have n0_ := aK (Kd.R_drew HO244.out);have n1_ := aK (Kd.R_drew HO247.out);have n2_ := aK (blk_drew BK239.out);have n3_ := aK (blk_drew BK240.out);have n4_ := aK (blk_drew BK241.out);have n5_ := aK (blk_drew BK248.out);have n6_ := aK (below_drew1 HB.out);clear HO244;clear HO247;clear BK239;clear BK240;clear BK241;clear BK248;clear HB;have HO244 := n0_;have HO247 := n1_;have BK239 := n2_;have BK240 := n3_;have BK241 := n4_;have BK248 := n5_;have HB := n6_;clear n0_ n1_ n2_ n3_ n4_ n5_ n6_;refine start_ (n := 7) (S := fun w' => w'.cell? ⟨gb248,0,none⟩ = some (.slice Ao18 t242.length co18) ∧ w'.cell? ⟨gb248,1,none⟩ = some (.slice Ao17 t245.length co17) ∧ w'.cell? ⟨gb240,0,none⟩ = some (.bool false) ∧ w'.cell? ⟨gb240,1,none⟩ = some (.int .i64 a1_1)) (ds := []) #[false,false,false,false,false,false,false] (by kernel_rfl) rfl rfl ⟨(blk_cell BK248.out 0).trans rfl,(blk_cell BK248.out 1).trans rfl,(blk_cell BK240.out 0).trans rfl,(blk_cell BK240.out 1).trans rfl⟩ (fun hHeld => ?_)
 generalize w21.drew = w22 at HO244 HO247 BK239 BK240 BK241 BK248 HB hHeld ⊢
 refine pureE 0 (some 19) #[true,false,false,false,false,false,false] ?_;refine pureE 1 (some 20) #[true,true,false,false,false,false,false] ?_;refine pureE 3 (some 22) #[true,true,false,true,false,false,false] ?_;refine takeE hHeld 2 (some 21) #[true,true,true,true,false,false,false] ?_;refine takeE hHeld 4 (some 23) #[true,true,true,true,true,false,false] ?_;refine one_ (i := 5) (N := some 24) #[true,true,true,true,true,true,false] rfl rfl (by kernel_rfl) (by decide) (fun K hK => ?_);refine gO Try.func102 #[.slice Ao18 t242.length co18,.int .i64 a1_1] ?_
 with_reducible refine (slices_Index_int64_int64.calls k _ _ t242 a1_1 (j_ : Int) _ ?side1 ?side2 A5.out).mono ?_
 (case side1 => exact cR HO244)
 (case side2 => exact (Kd.R_reads' HO244.out).2.1)
 rintro e w' ⟨rfl,⟨nd,rfl⟩⟩;refine ⟨_,rfl,?_⟩;refine hK.out _ _ ⟨(blk_cell BK248.out 0).trans rfl,(blk_cell BK248.out 1).trans rfl,(blk_cell BK240.out 0).trans rfl,(blk_cell BK240.out 1).trans rfl⟩ (fun hHeld => ?_);clear hK K;refine nT 24 ?_;refine pureE 6 (some 7) #[true,true,true,true,true,true,true] ?_;refine done_ (by kernel_rfl) ?_;have hnb23 := NB248_239.out;have hnc23 := NB239_248.out;have hnb24 := NB248_240.out;have hnc24 := NB240_248.out;have hnb25 := NB248_241.out;have hnc25 := NB241_248.out;have hcz26_0 := y0 BK248;have hcz26_1 := y1 BK248;have hfz26_0 := blk_frozen BK248.out 0;have hfz26_1 := blk_frozen BK248.out 1;have hwj_ : wrap64 ((j_ : Int) + 1) = ((j_ + 1 : Nat) : Int) := by have h1_ := HJ.out;have h2_ := HN.out;unfold wrap64;omega
 have hwk_ : IntKind.i64.wrap ((j_ : Int) + 1) = ((j_ + 1 : Nat) : Int) := (i64_w _).trans hwj_
 go_wp2_with (first | ((with_reducible refine gate_callee (f := 103) rfl ?_);refine goesE (some 32) Try.func103 #[.slice Ao18 t242.length co18,.int .i64 (j_ : Int),.int .i64 ((j_ + 1 : Nat) : Int)] ?_;(with_reducible refine (Delete.calls w.heap.size _ _ t242 j_ HJ.out _ ?side1 (Kd.R_drewN HO244.out nd) HN.out).mono ?_);(case side1 => exact HB.out.size);rintro e w27 ⟨v251,rfl,ho0,hb,hg,hown⟩;refine ⟨_,rfl,?_⟩;rw [← HT6.out] at ho0;obtain ⟨Ao28,co28,e_⟩ := Kd.R_slice ho0;subst e_;have n0_ := aK (Kd.R_mono (ok' := fun k_ => some k_ ≠ (.slice Ao28 t250.length co28 : Value).ownBlock) (Kd.R_grown (Kd.R_drewN HO247.out nd) hg (fun _ hk => hk)) (fun _ hk => by rw [hown];exact hk));have n1_ := aK (blk_grown (blk_drewN BK239.out nd) hg (Kd.R_ne (Kd.R_drewN HO244.out nd) (blk_drewN BK239.out nd) (by decide)));have n2_ := aK (blk_grown (blk_drewN BK240.out nd) hg (Kd.R_ne (Kd.R_drewN HO244.out nd) (blk_drewN BK240.out nd) (by decide)));have n3_ := aK (blk_grown (blk_drewN BK241.out nd) hg (Kd.R_ne (Kd.R_drewN HO244.out nd) (blk_drewN BK241.out nd) (by decide)));have n4_ := aK (blk_grown (blk_drewN BK248.out nd) hg (Kd.R_ne (Kd.R_drewN HO244.out nd) (blk_drewN BK248.out nd) (by decide)));have n5_ := aK ((pw_below_drewN HB.out nd).trans hb);have HO252 := aK ho0;clear HO244 HO247 BK239 BK240 BK241 BK248 HB;have HO247 := n0_;have BK239 := n1_;have BK240 := n2_;have BK241 := n3_;have BK248 := n4_;have HB := n5_;clear n0_ n1_ n2_ n3_ n4_ n5_ hb hg hown ho0;have hcz29_0 := y0 BK248;have hcz29_1 := y1 BK248;have hfz29_0 := blk_frozen BK248.out 0;have hfz29_1 := blk_frozen BK248.out 1;have hnb30 := NB241_239.out;have hnc30 := NB239_241.out;have hnb31 := NB241_240.out;have hnc31 := NB240_241.out;have hcz32_0 := y0 BK241;have hcz32_1 := y1 BK241;have hfz32_0 := blk_frozen BK241.out 0;have hfz32_1 := blk_frozen BK241.out 1))
 refine bodyPost_ret (results_cell_row rfl _ _ gb241 27 #[.slice Ao28 t250.length co28,.slice Ao17 t245.length co17] (0,0) _ rfl (by refine blk_put (cs := #[.slice Ao28 t250.length co28,.slice none 0 0]) ?_ 1 _ rfl;refine blk_put (cs := #[.slice none 0 0,.slice none 0 0]) ?_ 0 _ rfl;refine blk_far ?_ NB241_248.out _;exact BK241.out) Try.underlying27 rfl (by kernel_rfl)) rfl ?_;exact ⟨_,_,rfl,Kd.R_mono (Kd.R_far (p := ⟨gb241,1,none⟩) (Kd.R_far (p := ⟨gb241,0,none⟩) (Kd.R_far (p := ⟨gb248,0,none⟩) (Kd.R_types (Kd.R_types HO252.out BK248.out (by decide)) BK241.out (by decide)) (fun _ hk => hk.1.2) (.slice Ao28 t250.length co28)) (fun _ hk => hk.2) (.slice Ao28 t250.length co28)) (fun _ hk => hk.2) (.slice Ao17 t245.length co17)) (fun _ hk => hk.1.1),Kd.R_mono (Kd.R_far (p := ⟨gb241,1,none⟩) (Kd.R_far (p := ⟨gb241,0,none⟩) (Kd.R_far (p := ⟨gb248,0,none⟩) (Kd.R_types (Kd.R_types HO247.out BK248.out (by decide)) BK241.out (by decide)) (fun _ hk => hk.1.2) (.slice Ao28 t250.length co28)) (fun _ hk => hk.2) (.slice Ao28 t250.length co28)) (fun _ hk => hk.2) (.slice Ao17 t245.length co17)) (fun _ hk => hk.1.1),(bN HB)⟩
set_option maxHeartbeats 8000000 in
set_option maxRecDepth 100000 in
theorem without_true.calls (k : Nat) (A0_0 : Option Addr) (c0_0 : Nat) (l0_0 : List Int) (A0_1 : Option Addr) (c0_1 : Nat) (l0_1 : List Int) (a1_1 : Int) (r1 : List Int) (r2 : List Int) (w : World) (hr0_0 : Kd.C (Kd.int .i64) w A0_0 l0_0.length l0_0) (hc0_0 : l0_0.length ≤ c0_0) (hr0_1 : Kd.C (Kd.int .i64) w A0_1 l0_1.length l0_1) (hc0_1 : l0_1.length ≤ c0_1) (h : without_true.f k l0_0 l0_1 a1_1 = some (r1, r2)) :
 Calls Try.prog 74 #[.agg #[.slice A0_0 l0_0.length c0_0,.slice A0_1 l0_1.length c0_1],.agg #[.bool true,.int .i64 a1_1]] w fun e w' => ∃ v0_ v1_ : Value,e = .returned (.agg #[v0_,v1_]) ∧ Kd.R (Kd.int .i64) 2 w' w.heap.size (fun k_ => some k_ ≠ (v1_ : Value).ownBlock) v0_ r1 ∧ Kd.R (Kd.int .i64) 2 w' w.heap.size (fun k_ => some k_ ≠ (v0_ : Value).ownBlock) v1_ r2 ∧ Below w.heap.size w w' := by
 have hu27 := Try.underlying27;have hu75 := Try.underlying75;have HR0_0 := aK hr0_0;have HC0_0 := aK hc0_0;clear hr0_0 hc0_0;have HR0_1 := aK hr0_1;have HC0_1 := aK hc0_1;clear hr0_1 hc0_1;have HB := aK (Below.refl w.heap.size w);have H := h;clear h;unfold without_true.f at H;replace H := bE H;obtain ⟨t242,A3,H⟩ := H;replace H := bE H;obtain ⟨t245,A4,H⟩ := H;replace H := bE H;obtain ⟨t249,A5,H⟩ := H;replace H := bE H;obtain ⟨t250,A6,H⟩ := H;obtain ⟨j_,ej_,hj_,hn_,et_⟩ := cutAt_some A6.out;subst ej_;have HJ := aK hj_;have HN := aK hn_;have HT6 := aK et_;clear hj_ hn_ et_;simp only [Option.some.injEq,Prod.mk.injEq] at H;obtain ⟨rfl,rfl⟩ := H;go_enter Try.func74,Try.ntmps74
 try go_wp2_with (first | ((with_reducible refine gate_dst (N := 2) rfl ?_);refine boxE 2 #[.slice A0_0 l0_0.length c0_0,.slice A0_1 l0_1.length c0_1] 27 ?_;intro gb239 hg w7 hbox hb;have BK239 := aK (hbox);have GW239 := aK (zG HB hg);have GE239 := aK (zG HB hg);replace HB := hB HB hb;clear hb hbox hg) | ((with_reducible refine gate_dst (N := 3) rfl ?_);refine boxE 3 #[.bool true,.int .i64 a1_1] 75 ?_;intro gb240 hg w8 hbox hb;have BK240 := aK (hbox);have GW240 := aK (zG HB hg);have GE240 := aK (zG HB hg);replace HB := hB HB hb;have NB239_240 := aK ((by rw [hg];exact Nat.ne_of_lt (blk_lt (g := gb239) (o := .cells #[.slice A0_0 l0_0.length c0_0,.slice A0_1 l0_1.length c0_1] 27 (0,0)) (kN BK239)) : gb239 ≠ gb240));have NB240_239 := aK ((by rw [hg];exact Nat.ne_of_gt (blk_lt (g := gb239) (o := .cells #[.slice A0_0 l0_0.length c0_0,.slice A0_1 l0_1.length c0_1] 27 (0,0)) (kN BK239)) : gb240 ≠ gb239));replace BK239 := kB BK239 hb;clear hb hbox hg) | ((with_reducible refine gate_dst (N := 4) rfl ?_);refine boxE 4 #[.slice none 0 0,.slice none 0 0] 27 ?_;intro gb241 hg w9 hbox hb;have BK241 := aK (hbox);have GW241 := aK (zG HB hg);have GE241 := aK (zG HB hg);replace HB := hB HB hb;have NB239_241 := aK ((by rw [hg];exact Nat.ne_of_lt (blk_lt (g := gb239) (o := .cells #[.slice A0_0 l0_0.length c0_0,.slice A0_1 l0_1.length c0_1] 27 (0,0)) (kN BK239)) : gb239 ≠ gb241));have NB241_239 := aK ((by rw [hg];exact Nat.ne_of_gt (blk_lt (g := gb239) (o := .cells #[.slice A0_0 l0_0.length c0_0,.slice A0_1 l0_1.length c0_1] 27 (0,0)) (kN BK239)) : gb241 ≠ gb239));replace BK239 := kB BK239 hb;have NB240_241 := aK ((by rw [hg];exact Nat.ne_of_lt (blk_lt (g := gb240) (o := .cells #[.bool true,.int .i64 a1_1] 75 (0,0)) (kN BK240)) : gb240 ≠ gb241));have NB241_240 := aK ((by rw [hg];exact Nat.ne_of_gt (blk_lt (g := gb240) (o := .cells #[.bool true,.int .i64 a1_1] 75 (0,0)) (kN BK240)) : gb241 ≠ gb240));replace BK240 := kB BK240 hb;clear hb hbox hg))
 have n0_ := aK (blk_drew BK239.out);have n1_ := aK (blk_drew BK240.out);have n2_ := aK (blk_drew BK241.out);have n3_ := aK (below_drew1 HB.out);clear BK239;clear BK240;clear BK241;clear HB;have BK239 := n0_;have BK240 := n1_;have BK241 := n2_;have HB := n3_;clear n0_ n1_ n2_ n3_;refine start_ (n := 9) (S := fun w' => w'.cell? ⟨gb239,0,none⟩ = some (.slice A0_0 l0_0.length c0_0) ∧ w'.cell? ⟨gb239,1,none⟩ = some (.slice A0_1 l0_1.length c0_1)) (ds := []) #[false,false,false,false,false,false,false,false,false] (by kernel_rfl) rfl rfl ⟨(blk_cell BK239.out 0).trans rfl,(blk_cell BK239.out 1).trans rfl⟩ (fun hHeld => ?_);refine with_tabW impl_Ending_without.tab1 impl_Ending_without.bits1 (fun HT_ HW_ => ?_)
 generalize w9.drew = w10 at BK239 BK240 BK241 HB hHeld ⊢
 refine pT HT_ 0 (some 8) ?_;refine pT HT_ 3 (some 11) ?_;refine tT HT_ HW_ hHeld 1 (some 9) ?_;refine tT HT_ HW_ hHeld 4 (some 12) ?_;refine join_ (σ := Value × Value × Nat) 1 #[true,true,true,true,true,true,true,true,false] (fun s_ => [(10,s_.1),(13,s_.2.1),(5,.pointer (some ⟨s_.2.2,0,none⟩)),(14,.agg #[s_.1,s_.2.1])]) (fun s_ w' => (w'.cell? ⟨gb239,0,none⟩ = some (.slice A0_0 l0_0.length c0_0) ∧ w'.cell? ⟨gb239,1,none⟩ = some (.slice A0_1 l0_1.length c0_1)) ∧ (Kd.R (Kd.int .i64) 2 w' w.heap.size (fun k_ => some k_ ≠ (s_.2.1 : Value).ownBlock) s_.1 t242) ∧ (Kd.R (Kd.int .i64) 2 w' w.heap.size (fun k_ => some k_ ≠ (s_.1 : Value).ownBlock) s_.2.1 t245) ∧ (w'.heap[gb239]? = some (.cells #[.slice A0_0 l0_0.length c0_0,.slice A0_1 l0_1.length c0_1] 27 (0,0))) ∧ (w'.heap[gb240]? = some (.cells #[.bool true,.int .i64 a1_1] 75 (0,0))) ∧ (w'.heap[gb241]? = some (.cells #[.slice none 0 0,.slice none 0 0] 27 (0,0))) ∧ (w'.heap[s_.2.2]? = some (.cells #[.slice none 0 0,.slice none 0 0] 27 (0,0))) ∧ (w.heap.size ≤ s_.2.2) ∧ (w.heap.size ≤ s_.2.2) ∧ (gb239 ≠ s_.2.2) ∧ (s_.2.2 ≠ gb239) ∧ (gb240 ≠ s_.2.2) ∧ (s_.2.2 ≠ gb240) ∧ (gb241 ≠ s_.2.2) ∧ (s_.2.2 ≠ gb241) ∧ (Below w.heap.size w w')) ?_ ?_;rotate_left
 ·intro hCont;refine two_ (i := 2) (j := 7) (Ni := some 10) (Nj := some 5) #[true,true,true,true,true,false,false,false,false] #[true,true,false,true,true,false,false,true,false] rfl rfl rfl rfl (two_of HT_.out (by kernel_rfl)) (by decide) (by decide) (fun K hK => ?_) (fun K hK => ?_)
  ·skip;refine gO Try.func68 #[.slice A0_0 l0_0.length c0_0] ?_
   with_reducible refine (slices_Clone_int64_int64.calls _ _ l0_0 t242 _ ?side1 ?side2 A3.out).mono ?_
   (case side1 => exact cB HR0_0 HB)
   (case side2 => exact HC0_0.out)
   rintro e w11 ⟨v243,rfl,ho0,hb⟩;refine ⟨_,rfl,?_⟩;have n0_ := aK (Kd.R_lower ho0 (below_size (bN HB)));have n1_ := kB BK239 hb;have n2_ := kB BK240 hb;have n3_ := kB BK241 hb;have n4_ := hB HB hb;clear BK239;clear BK240;clear BK241;clear HB;have HO244 := n0_;have BK239 := n1_;have BK240 := n2_;have BK241 := n3_;have HB := n4_;clear n0_ n1_ n2_ n3_ n4_;clear hb ho0;refine hK.out _ _ ⟨(blk_cell BK239.out 0).trans rfl,(blk_cell BK239.out 1).trans rfl⟩ (fun hHeld => ?_);clear hK K;refine nT 10 ?_;refine two_ (i := 5) (j := 7) (Ni := some 13) (Nj := some 5) #[true,true,true,true,true,true,false,false,false] #[true,true,true,true,true,false,false,true,false] rfl rfl rfl rfl (two_of HT_.out (by kernel_rfl)) (by decide) (by decide) (fun K hK => ?_) (fun K hK => ?_)
   ·skip;refine gO Try.func68 #[.slice A0_1 l0_1.length c0_1] ?_
    with_reducible refine (slices_Clone_int64_int64.calls _ _ l0_1 t245 _ ?side1 ?side2 A4.out).mono ?_
    (case side1 => exact cB HR0_1 HB)
    (case side2 => exact HC0_1.out)
    rintro e w12 ⟨v246,rfl,ho0,hb⟩;refine ⟨_,rfl,?_⟩;have n0_ := aK (Kd.R_elder' (rN HO244) (Kd.R_base ho0) hb);have n1_ := aK (Kd.R_lower (Kd.R_new' ho0 (Kd.R_lt (rN HO244))) (below_size (bN HB)));have n2_ := kB BK239 hb;have n3_ := kB BK240 hb;have n4_ := kB BK241 hb;have n5_ := hB HB hb;clear HO244;clear BK239;clear BK240;clear BK241;clear HB;have HO244 := n0_;have HO247 := n1_;have BK239 := n2_;have BK240 := n3_;have BK241 := n4_;have HB := n5_;clear n0_ n1_ n2_ n3_ n4_ n5_;clear hb ho0;obtain ⟨Ao13,co13,eo13⟩ := Kd.R_slice HO247.out;(first | subst eo13 | (injection eo13 with f1_ f2_ f3_;have f4_ := f1_.symm;have f5_ := f3_.symm;clear f1_ f2_ f3_;subst f4_;subst f5_));obtain ⟨Ao14,co14,eo14⟩ := Kd.R_slice HO244.out;(first | subst eo14 | (injection eo14 with f1_ f2_ f3_;have f4_ := f1_.symm;have f5_ := f3_.symm;clear f1_ f2_ f3_;subst f4_;subst f5_));refine hK.out _ _ ⟨(blk_cell BK239.out 0).trans rfl,(blk_cell BK239.out 1).trans rfl⟩ (fun hHeld => ?_);clear hK K;refine nT 13 ?_;refine pT HT_ 6 (some 14) ?_;refine oT HT_ 7 (some 5) (fun K hK => ?_);refine box_step ?hg (N := 5) ?hd (cs := #[.slice none 0 0,.slice none 0 0]) (t := 27) ?hr ?_;(case hd => rfl);(case hg => rfl);(case hr => first | (go_simp;done) | (go_simp;rfl));intro gb248 hg w15 hbox hb;have n0_ := rB HO244 hb;have n1_ := rB HO247 hb;have n2_ := kB BK239 hb;have n3_ := kB BK240 hb;have n4_ := kB BK241 hb;have n5_ := hB HB hb;have n6_ := aK (hbox);have n7_ := aK (zG HB hg);have n8_ := aK (zG HB hg);have n9_ := aK ((by rw [hg];exact Nat.ne_of_lt (blk_lt (g := gb239) (o := .cells #[.slice A0_0 l0_0.length c0_0,.slice A0_1 l0_1.length c0_1] 27 (0,0)) (kN BK239)) : gb239 ≠ gb248));have n10_ := aK ((by rw [hg];exact Nat.ne_of_gt (blk_lt (g := gb239) (o := .cells #[.slice A0_0 l0_0.length c0_0,.slice A0_1 l0_1.length c0_1] 27 (0,0)) (kN BK239)) : gb248 ≠ gb239));have n11_ := aK ((by rw [hg];exact Nat.ne_of_lt (blk_lt (g := gb240) (o := .cells #[.bool true,.int .i64 a1_1] 75 (0,0)) (kN BK240)) : gb240 ≠ gb248));have n12_ := aK ((by rw [hg];exact Nat.ne_of_gt (blk_lt (g := gb240) (o := .cells #[.bool true,.int .i64 a1_1] 75 (0,0)) (kN BK240)) : gb248 ≠ gb240));have n13_ := aK ((by rw [hg];exact Nat.ne_of_lt (blk_lt (g := gb241) (o := .cells #[.slice none 0 0,.slice none 0 0] 27 (0,0)) (kN BK241)) : gb241 ≠ gb248));have n14_ := aK ((by rw [hg];exact Nat.ne_of_gt (blk_lt (g := gb241) (o := .cells #[.slice none 0 0,.slice none 0 0] 27 (0,0)) (kN BK241)) : gb248 ≠ gb241));clear HO244;clear HO247;clear BK239;clear BK240;clear BK241;clear HB;have HO244 := n0_;have HO247 := n1_;have BK239 := n2_;have BK240 := n3_;have BK241 := n4_;have HB := n5_;have BK248 := n6_;have GW248 := n7_;have GE248 := n8_;have NB239_248 := n9_;have NB248_239 := n10_;have NB240_248 := n11_;have NB248_240 := n12_;have NB241_248 := n13_;have NB248_241 := n14_;clear n0_ n1_ n2_ n3_ n4_ n5_ n6_ n7_ n8_ n9_ n10_ n11_ n12_ n13_ n14_;clear hb hbox hg;refine hK.out _ _ ⟨(blk_cell BK239.out 0).trans rfl,(blk_cell BK239.out 1).trans rfl⟩ (fun hHeld => ?_);clear hK K;refine nT 5 ?_;exact norm_ (by simp only [putAll,Act.put,List.setIfInBounds_toArray,List.set_cons_zero,List.set_cons_succ]) (hCont (.slice Ao14 t242.length co14,.slice Ao13 t245.length co13,gb248) _ ⟨hHeld,(rM (Kd.R_mono HO244.out (fun _ hk => hk.2))),(rM (Kd.R_mono HO247.out (fun _ hk => hk.2))),(kN BK239),(kN BK240),(kN BK241),(kN BK248),GW248.out,GE248.out,NB239_248.out,NB248_239.out,NB240_248.out,NB248_240.out,NB241_248.out,NB248_241.out,(bN HB)⟩)
   ·skip;refine box_step ?hg (N := 5) ?hd (cs := #[.slice none 0 0,.slice none 0 0]) (t := 27) ?hr ?_;(case hd => rfl);(case hg => rfl);(case hr => first | (go_simp;done) | (go_simp;rfl))
    intro gb248 hg w12 hbox hb;have n0_ := rB HO244 hb;have n1_ := kB BK239 hb;have n2_ := kB BK240 hb;have n3_ := kB BK241 hb;have n4_ := hB HB hb;have n5_ := aK (hbox);have n6_ := aK (zG HB hg);have n7_ := aK (zG HB hg);have n8_ := aK ((by rw [hg];exact Nat.ne_of_lt (blk_lt (g := gb239) (o := .cells #[.slice A0_0 l0_0.length c0_0,.slice A0_1 l0_1.length c0_1] 27 (0,0)) (kN BK239)) : gb239 ≠ gb248));have n9_ := aK ((by rw [hg];exact Nat.ne_of_gt (blk_lt (g := gb239) (o := .cells #[.slice A0_0 l0_0.length c0_0,.slice A0_1 l0_1.length c0_1] 27 (0,0)) (kN BK239)) : gb248 ≠ gb239));have n10_ := aK ((by rw [hg];exact Nat.ne_of_lt (blk_lt (g := gb240) (o := .cells #[.bool true,.int .i64 a1_1] 75 (0,0)) (kN BK240)) : gb240 ≠ gb248));have n11_ := aK ((by rw [hg];exact Nat.ne_of_gt (blk_lt (g := gb240) (o := .cells #[.bool true,.int .i64 a1_1] 75 (0,0)) (kN BK240)) : gb248 ≠ gb240));have n12_ := aK ((by rw [hg];exact Nat.ne_of_lt (blk_lt (g := gb241) (o := .cells #[.slice none 0 0,.slice none 0 0] 27 (0,0)) (kN BK241)) : gb241 ≠ gb248));have n13_ := aK ((by rw [hg];exact Nat.ne_of_gt (blk_lt (g := gb241) (o := .cells #[.slice none 0 0,.slice none 0 0] 27 (0,0)) (kN BK241)) : gb248 ≠ gb241));clear HO244;clear BK239;clear BK240;clear BK241;clear HB;have HO244 := n0_;have BK239 := n1_;have BK240 := n2_;have BK241 := n3_;have HB := n4_;have BK248 := n5_;have GW248 := n6_;have GE248 := n7_;have NB239_248 := n8_;have NB248_239 := n9_;have NB240_248 := n10_;have NB248_240 := n11_;have NB241_248 := n12_;have NB248_241 := n13_;clear n0_ n1_ n2_ n3_ n4_ n5_ n6_ n7_ n8_ n9_ n10_ n11_ n12_ n13_;clear hb hbox hg;refine hK.out _ _ ⟨(blk_cell BK239.out 0).trans rfl,(blk_cell BK239.out 1).trans rfl⟩ (fun hHeld => ?_);clear hK K;refine nT 5 ?_;refine oT HT_ 5 (some 13) (fun K hK => ?_);refine gO Try.func68 #[.slice A0_1 l0_1.length c0_1] ?_
    with_reducible refine (slices_Clone_int64_int64.calls _ _ l0_1 t245 _ ?side1 ?side2 A4.out).mono ?_
    (case side1 => exact cB HR0_1 HB)
    (case side2 => exact HC0_1.out)
    rintro e w13 ⟨v246,rfl,ho0,hb⟩;refine ⟨_,rfl,?_⟩;have n0_ := aK (Kd.R_elder' (rN HO244) (Kd.R_base ho0) hb);have n1_ := aK (Kd.R_lower (Kd.R_new' ho0 (Kd.R_lt (rN HO244))) (below_size (bN HB)));have n2_ := kB BK239 hb;have n3_ := kB BK240 hb;have n4_ := kB BK241 hb;have n5_ := kB BK248 hb;have n6_ := hB HB hb;clear HO244;clear BK239;clear BK240;clear BK241;clear BK248;clear HB;have HO244 := n0_;have HO247 := n1_;have BK239 := n2_;have BK240 := n3_;have BK241 := n4_;have BK248 := n5_;have HB := n6_;clear n0_ n1_ n2_ n3_ n4_ n5_ n6_;clear hb ho0;obtain ⟨Ao14,co14,eo14⟩ := Kd.R_slice HO247.out;(first | subst eo14 | (injection eo14 with f1_ f2_ f3_;have f4_ := f1_.symm;have f5_ := f3_.symm;clear f1_ f2_ f3_;subst f4_;subst f5_));obtain ⟨Ao15,co15,eo15⟩ := Kd.R_slice HO244.out;(first | subst eo15 | (injection eo15 with f1_ f2_ f3_;have f4_ := f1_.symm;have f5_ := f3_.symm;clear f1_ f2_ f3_;subst f4_;subst f5_));refine hK.out _ _ ⟨(blk_cell BK239.out 0).trans rfl,(blk_cell BK239.out 1).trans rfl⟩ (fun hHeld => ?_);clear hK K;refine nT 13 ?_;refine pT HT_ 6 (some 14) ?_;exact norm_ (by simp only [putAll,Act.put,List.setIfInBounds_toArray,List.set_cons_zero,List.set_cons_succ]) (hCont (.slice Ao15 t242.length co15,.slice Ao14 t245.length co14,gb248) _ ⟨hHeld,(rM (Kd.R_mono HO244.out (fun _ hk => hk.2))),(rM (Kd.R_mono HO247.out (fun _ hk => hk.2))),(kN BK239),(kN BK240),(kN BK241),(kN BK248),GW248.out,GE248.out,NB239_248.out,NB248_239.out,NB240_248.out,NB248_240.out,NB241_248.out,NB248_241.out,(bN HB)⟩)
  ·skip;refine box_step ?hg (N := 5) ?hd (cs := #[.slice none 0 0,.slice none 0 0]) (t := 27) ?hr ?_;(case hd => rfl);(case hg => rfl);(case hr => first | (go_simp;done) | (go_simp;rfl))
   intro gb248 hg w11 hbox hb;have n0_ := kB BK239 hb;have n1_ := kB BK240 hb;have n2_ := kB BK241 hb;have n3_ := hB HB hb;have n4_ := aK (hbox);have n5_ := aK (zG HB hg);have n6_ := aK (zG HB hg);have n7_ := aK ((by rw [hg];exact Nat.ne_of_lt (blk_lt (g := gb239) (o := .cells #[.slice A0_0 l0_0.length c0_0,.slice A0_1 l0_1.length c0_1] 27 (0,0)) (kN BK239)) : gb239 ≠ gb248));have n8_ := aK ((by rw [hg];exact Nat.ne_of_gt (blk_lt (g := gb239) (o := .cells #[.slice A0_0 l0_0.length c0_0,.slice A0_1 l0_1.length c0_1] 27 (0,0)) (kN BK239)) : gb248 ≠ gb239));have n9_ := aK ((by rw [hg];exact Nat.ne_of_lt (blk_lt (g := gb240) (o := .cells #[.bool true,.int .i64 a1_1] 75 (0,0)) (kN BK240)) : gb240 ≠ gb248));have n10_ := aK ((by rw [hg];exact Nat.ne_of_gt (blk_lt (g := gb240) (o := .cells #[.bool true,.int .i64 a1_1] 75 (0,0)) (kN BK240)) : gb248 ≠ gb240));have n11_ := aK ((by rw [hg];exact Nat.ne_of_lt (blk_lt (g := gb241) (o := .cells #[.slice none 0 0,.slice none 0 0] 27 (0,0)) (kN BK241)) : gb241 ≠ gb248));have n12_ := aK ((by rw [hg];exact Nat.ne_of_gt (blk_lt (g := gb241) (o := .cells #[.slice none 0 0,.slice none 0 0] 27 (0,0)) (kN BK241)) : gb248 ≠ gb241));clear BK239;clear BK240;clear BK241;clear HB;have BK239 := n0_;have BK240 := n1_;have BK241 := n2_;have HB := n3_;have BK248 := n4_;have GW248 := n5_;have GE248 := n6_;have NB239_248 := n7_;have NB248_239 := n8_;have NB240_248 := n9_;have NB248_240 := n10_;have NB241_248 := n11_;have NB248_241 := n12_;clear n0_ n1_ n2_ n3_ n4_ n5_ n6_ n7_ n8_ n9_ n10_ n11_ n12_;clear hb hbox hg;refine hK.out _ _ ⟨(blk_cell BK239.out 0).trans rfl,(blk_cell BK239.out 1).trans rfl⟩ (fun hHeld => ?_);clear hK K;refine nT 5 ?_;refine oT HT_ 2 (some 10) (fun K hK => ?_);refine gO Try.func68 #[.slice A0_0 l0_0.length c0_0] ?_
   with_reducible refine (slices_Clone_int64_int64.calls _ _ l0_0 t242 _ ?side1 ?side2 A3.out).mono ?_
   (case side1 => exact cB HR0_0 HB)
   (case side2 => exact HC0_0.out)
   rintro e w12 ⟨v243,rfl,ho0,hb⟩;refine ⟨_,rfl,?_⟩;have n0_ := aK (Kd.R_lower ho0 (below_size (bN HB)));have n1_ := kB BK239 hb;have n2_ := kB BK240 hb;have n3_ := kB BK241 hb;have n4_ := kB BK248 hb;have n5_ := hB HB hb;clear BK239;clear BK240;clear BK241;clear BK248;clear HB;have HO244 := n0_;have BK239 := n1_;have BK240 := n2_;have BK241 := n3_;have BK248 := n4_;have HB := n5_;clear n0_ n1_ n2_ n3_ n4_ n5_;clear hb ho0;refine hK.out _ _ ⟨(blk_cell BK239.out 0).trans rfl,(blk_cell BK239.out 1).trans rfl⟩ (fun hHeld => ?_);clear hK K;refine nT 10 ?_;refine oT HT_ 5 (some 13) (fun K hK => ?_);refine gO Try.func68 #[.slice A0_1 l0_1.length c0_1] ?_
   with_reducible refine (slices_Clone_int64_int64.calls _ _ l0_1 t245 _ ?side1 ?side2 A4.out).mono ?_
   (case side1 => exact cB HR0_1 HB)
   (case side2 => exact HC0_1.out)
   rintro e w13 ⟨v246,rfl,ho0,hb⟩;refine ⟨_,rfl,?_⟩;have n0_ := aK (Kd.R_elder' (rN HO244) (Kd.R_base ho0) hb);have n1_ := aK (Kd.R_lower (Kd.R_new' ho0 (Kd.R_lt (rN HO244))) (below_size (bN HB)));have n2_ := kB BK239 hb;have n3_ := kB BK240 hb;have n4_ := kB BK241 hb;have n5_ := kB BK248 hb;have n6_ := hB HB hb;clear HO244;clear BK239;clear BK240;clear BK241;clear BK248;clear HB;have HO244 := n0_;have HO247 := n1_;have BK239 := n2_;have BK240 := n3_;have BK241 := n4_;have BK248 := n5_;have HB := n6_;clear n0_ n1_ n2_ n3_ n4_ n5_ n6_;clear hb ho0;obtain ⟨Ao14,co14,eo14⟩ := Kd.R_slice HO247.out;(first | subst eo14 | (injection eo14 with f1_ f2_ f3_;have f4_ := f1_.symm;have f5_ := f3_.symm;clear f1_ f2_ f3_;subst f4_;subst f5_));obtain ⟨Ao15,co15,eo15⟩ := Kd.R_slice HO244.out;(first | subst eo15 | (injection eo15 with f1_ f2_ f3_;have f4_ := f1_.symm;have f5_ := f3_.symm;clear f1_ f2_ f3_;subst f4_;subst f5_));refine hK.out _ _ ⟨(blk_cell BK239.out 0).trans rfl,(blk_cell BK239.out 1).trans rfl⟩ (fun hHeld => ?_);clear hK K;refine nT 13 ?_;refine pT HT_ 6 (some 14) ?_;exact norm_ (by simp only [putAll,Act.put,List.setIfInBounds_toArray,List.set_cons_zero,List.set_cons_succ]) (hCont (.slice Ao15 t242.length co15,.slice Ao14 t245.length co14,gb248) _ ⟨hHeld,(rM (Kd.R_mono HO244.out (fun _ hk => hk.2))),(rM (Kd.R_mono HO247.out (fun _ hk => hk.2))),(kN BK239),(kN BK240),(kN BK241),(kN BK248),GW248.out,GE248.out,NB239_248.out,NB248_239.out,NB240_248.out,NB248_240.out,NB241_248.out,NB248_241.out,(bN HB)⟩)
 rintro ⟨v243,v246,gb248⟩ w16 ⟨hS_,h0_,h1_,h2_,h3_,h4_,h5_,h6_,h7_,h8_,h9_,h10_,h11_,h12_,h13_,h14_⟩;have n0_ : Aside0 (Kd.R (Kd.int .i64) 2 w16 w.heap.size (fun k_ => some k_ ≠ (v246 : Value).ownBlock) v243 t242) := ⟨h0_⟩;have n1_ : Aside0 (Kd.R (Kd.int .i64) 2 w16 w.heap.size (fun k_ => some k_ ≠ (v243 : Value).ownBlock) v246 t245) := ⟨h1_⟩;have n2_ : Aside0 (w16.heap[gb239]? = some (.cells #[.slice A0_0 l0_0.length c0_0,.slice A0_1 l0_1.length c0_1] 27 (0,0))) := ⟨h2_⟩;have n3_ : Aside0 (w16.heap[gb240]? = some (.cells #[.bool true,.int .i64 a1_1] 75 (0,0))) := ⟨h3_⟩;have n4_ : Aside0 (w16.heap[gb241]? = some (.cells #[.slice none 0 0,.slice none 0 0] 27 (0,0))) := ⟨h4_⟩;have n5_ : Aside0 (w16.heap[gb248]? = some (.cells #[.slice none 0 0,.slice none 0 0] 27 (0,0))) := ⟨h5_⟩;have n6_ : Aside0 (w.heap.size ≤ gb248) := ⟨h6_⟩;have n7_ : Aside0 (w.heap.size ≤ gb248) := ⟨h7_⟩;have n8_ : Aside0 (gb239 ≠ gb248) := ⟨h8_⟩;have n9_ : Aside0 (gb248 ≠ gb239) := ⟨h9_⟩;have n10_ : Aside0 (gb240 ≠ gb248) := ⟨h10_⟩;have n11_ : Aside0 (gb248 ≠ gb240) := ⟨h11_⟩;have n12_ : Aside0 (gb241 ≠ gb248) := ⟨h12_⟩;have n13_ : Aside0 (gb248 ≠ gb241) := ⟨h13_⟩;have n14_ : Aside0 (Below w.heap.size w w16) := ⟨h14_⟩;clear BK239;clear BK240;clear BK241;clear HB;clear h0_ h1_ h2_ h3_ h4_ h5_ h6_ h7_ h8_ h9_ h10_ h11_ h12_ h13_ h14_;have HO244 := n0_;have HO247 := n1_;have BK239 := n2_;have BK240 := n3_;have BK241 := n4_;have BK248 := n5_;have GW248 := n6_;have GE248 := n7_;have NB239_248 := n8_;have NB248_239 := n9_;have NB240_248 := n10_;have NB248_240 := n11_;have NB241_248 := n12_;have NB248_241 := n13_;have HB := n14_;clear n0_ n1_ n2_ n3_ n4_ n5_ n6_ n7_ n8_ n9_ n10_ n11_ n12_ n13_ n14_;have hHeld : w16.cell? ⟨gb239,0,none⟩ = some (.slice A0_0 l0_0.length c0_0) ∧ w16.cell? ⟨gb239,1,none⟩ = some (.slice A0_1 l0_1.length c0_1) := hS_;obtain ⟨Ao17,co17,eo17⟩ := Kd.R_slice HO247.out;(first | subst eo17 | (injection eo17 with f1_ f2_ f3_;have f4_ := f1_.symm;have f5_ := f3_.symm;clear f1_ f2_ f3_;subst f4_;subst f5_));obtain ⟨Ao18,co18,eo18⟩ := Kd.R_slice HO244.out;(first | subst eo18 | (injection eo18 with f1_ f2_ f3_;have f4_ := f1_.symm;have f5_ := f3_.symm;clear f1_ f2_ f3_;subst f4_;subst f5_));refine norm_ (a' := ?_) ?_ ?_;rotate_left
 ·simp only [putAll,Act.put,List.setIfInBounds_toArray,List.set_cons_zero,List.set_cons_succ]
  rfl
 refine oT HT_ 8 (none) (fun K hK => ?_);have hs19 : w16.cell? ⟨gb248,0,none⟩ = some (.slice none 0 0) := (blk_cell BK248.out 0).trans rfl;have hfs19 := blk_frozen BK248.out 0;have hns19_0 := NB239_248.out;have hns19_1 := NB240_248.out;have hns19_2 := NB241_248.out;have hms19_0 := NB248_239.out;have hms19_1 := NB248_240.out;have hms19_2 := NB248_241.out;have hs20 : w16.cell? ⟨gb248,1,none⟩ = some (.slice none 0 0) := (blk_cell BK248.out 1).trans rfl;have hfs20 := blk_frozen BK248.out 1;have hns20_0 := NB239_248.out;have hns20_1 := NB240_248.out;have hns20_2 := NB241_248.out;have hms20_0 := NB248_239.out;have hms20_1 := NB248_240.out;have hms20_2 := NB248_241.out;refine skip_ (w1 := ?_) (by rfl) rfl ?_ ?_;rotate_left
 ·go_simp
  rfl
 refine hK.out _ _ ⟨((cell_far (p := ⟨gb248,_,none⟩) NB239_248.out _).trans (((cell_far (p := ⟨gb248,_,none⟩) NB239_248.out _).trans (hHeld.1)))),((cell_far (p := ⟨gb248,_,none⟩) NB239_248.out _).trans (((cell_far (p := ⟨gb248,_,none⟩) NB239_248.out _).trans (hHeld.2))))⟩ (fun hHeld => ?_);clear hK K;refine done_ (done_of HT_.out (by kernel_rfl)) ?_;have hq0_ : w16.cell? ⟨gb240,0,none⟩ = some (.bool true) := (blk_cell BK240.out 0).trans rfl
 try go_wp2
 clear hq0_;have n0_ : Aside0 (Kd.R (Kd.int .i64) 2 ((w16.setCell ⟨gb248,0,none⟩ (.slice Ao18 t242.length co18)).setCell ⟨gb248,1,none⟩ (.slice Ao17 t245.length co17)) w.heap.size (fun k_ => some k_ ≠ (.slice Ao17 t245.length co17 : Value).ownBlock) (.slice Ao18 t242.length co18) t242) := ⟨rM (Kd.R_mono (Kd.R_far (p := ⟨gb248,1,none⟩) (Kd.R_far (p := ⟨gb248,0,none⟩) (Kd.R_types HO244.out BK248.out (by decide)) (fun _ hk => hk.2) (.slice Ao18 t242.length co18)) (fun _ hk => hk.2) (.slice Ao17 t245.length co17)) (fun _ hk => hk.1))⟩;have n1_ : Aside0 (Kd.R (Kd.int .i64) 2 ((w16.setCell ⟨gb248,0,none⟩ (.slice Ao18 t242.length co18)).setCell ⟨gb248,1,none⟩ (.slice Ao17 t245.length co17)) w.heap.size (fun k_ => some k_ ≠ (.slice Ao18 t242.length co18 : Value).ownBlock) (.slice Ao17 t245.length co17) t245) := ⟨rM (Kd.R_mono (Kd.R_far (p := ⟨gb248,1,none⟩) (Kd.R_far (p := ⟨gb248,0,none⟩) (Kd.R_types HO247.out BK248.out (by decide)) (fun _ hk => hk.2) (.slice Ao18 t242.length co18)) (fun _ hk => hk.2) (.slice Ao17 t245.length co17)) (fun _ hk => hk.1))⟩;have n2_ : Aside0 (((w16.setCell ⟨gb248,0,none⟩ (.slice Ao18 t242.length co18)).setCell ⟨gb248,1,none⟩ (.slice Ao17 t245.length co17)).heap[gb239]? = some (.cells #[.slice A0_0 l0_0.length c0_0,.slice A0_1 l0_1.length c0_1] 27 (0,0))) := ⟨kZ BK239⟩;have n3_ : Aside0 (((w16.setCell ⟨gb248,0,none⟩ (.slice Ao18 t242.length co18)).setCell ⟨gb248,1,none⟩ (.slice Ao17 t245.length co17)).heap[gb240]? = some (.cells #[.bool true,.int .i64 a1_1] 75 (0,0))) := ⟨kZ BK240⟩;have n4_ : Aside0 (((w16.setCell ⟨gb248,0,none⟩ (.slice Ao18 t242.length co18)).setCell ⟨gb248,1,none⟩ (.slice Ao17 t245.length co17)).heap[gb241]? = some (.cells #[.slice none 0 0,.slice none 0 0] 27 (0,0))) := ⟨kZ BK241⟩;have n5_ : Aside0 (((w16.setCell ⟨gb248,0,none⟩ (.slice Ao18 t242.length co18)).setCell ⟨gb248,1,none⟩ (.slice Ao17 t245.length co17)).heap[gb248]? = some (.cells #[.slice Ao18 t242.length co18,.slice Ao17 t245.length co17] 27 (0,0))) := ⟨by (with_reducible repeat (first | refine blk_drewN ?_ _ | refine blk_drew ?_ | refine blk_alloc ?_ _));refine blk_put (cs := #[.slice Ao18 t242.length co18,.slice none 0 0]) ?_ 1 _ rfl;(with_reducible repeat (first | refine blk_drewN ?_ _ | refine blk_drew ?_ | refine blk_alloc ?_ _));refine blk_put (cs := #[.slice none 0 0,.slice none 0 0]) ?_ 0 _ rfl;(with_reducible repeat (first | refine blk_drewN ?_ _ | refine blk_drew ?_ | refine blk_alloc ?_ _));exact BK248.out⟩;have n6_ : Aside0 (Below w.heap.size w ((w16.setCell ⟨gb248,0,none⟩ (.slice Ao18 t242.length co18)).setCell ⟨gb248,1,none⟩ (.slice Ao17 t245.length co17))) := ⟨bN HB⟩;clear HO244 HO247 BK239 BK240 BK241 BK248 HB
 generalize ((w16.setCell ⟨gb248,0,none⟩ (.slice Ao18 t242.length co18)).setCell ⟨gb248,1,none⟩ (.slice Ao17 t245.length co17)) = w21 at n0_ n1_ n2_ n3_ n4_ n5_ n6_ ⊢
 have HO244 := n0_;have HO247 := n1_;have BK239 := n2_;have BK240 := n3_;have BK241 := n4_;have BK248 := n5_;have HB := n6_;clear n0_ n1_ n2_ n3_ n4_ n5_ n6_;have n0_ := aK (Kd.R_drew HO244.out);have n1_ := aK (Kd.R_drew HO247.out);have n2_ := aK (blk_drew BK239.out);have n3_ := aK (blk_drew BK240.out);have n4_ := aK (blk_drew BK241.out);have n5_ := aK (blk_drew BK248.out);have n6_ := aK (below_drew1 HB.out);clear HO244;clear HO247;clear BK239;clear BK240;clear BK241;clear BK248;clear HB;have HO244 := n0_;have HO247 := n1_;have BK239 := n2_;have BK240 := n3_;have BK241 := n4_;have BK248 := n5_;have HB := n6_;clear n0_ n1_ n2_ n3_ n4_ n5_ n6_;refine start_ (n := 7) (S := fun w' => w'.cell? ⟨gb248,0,none⟩ = some (.slice Ao18 t242.length co18) ∧ w'.cell? ⟨gb248,1,none⟩ = some (.slice Ao17 t245.length co17) ∧ w'.cell? ⟨gb240,0,none⟩ = some (.bool true) ∧ w'.cell? ⟨gb240,1,none⟩ = some (.int .i64 a1_1)) (ds := []) #[false,false,false,false,false,false,false] (by kernel_rfl) rfl rfl ⟨(blk_cell BK248.out 0).trans rfl,(blk_cell BK248.out 1).trans rfl,(blk_cell BK240.out 0).trans rfl,(blk_cell BK240.out 1).trans rfl⟩ (fun hHeld => ?_)
 generalize w21.drew = w22 at HO244 HO247 BK239 BK240 BK241 BK248 HB hHeld ⊢
 refine pureE 0 (some 19) #[true,false,false,false,false,false,false] ?_;refine pureE 1 (some 20) #[true,true,false,false,false,false,false] ?_;refine pureE 3 (some 22) #[true,true,false,true,false,false,false] ?_;refine takeE hHeld 2 (some 21) #[true,true,true,true,false,false,false] ?_;refine takeE hHeld 4 (some 23) #[true,true,true,true,true,false,false] ?_;refine one_ (i := 5) (N := some 24) #[true,true,true,true,true,true,false] rfl rfl (by kernel_rfl) (by decide) (fun K hK => ?_);refine gO Try.func102 #[.slice Ao17 t245.length co17,.int .i64 a1_1] ?_
 with_reducible refine (slices_Index_int64_int64.calls k _ _ t245 a1_1 (j_ : Int) _ ?side1 ?side2 A5.out).mono ?_
 (case side1 => exact cR HO247)
 (case side2 => exact (Kd.R_reads' HO247.out).2.1)
 rintro e w' ⟨rfl,⟨nd,rfl⟩⟩;refine ⟨_,rfl,?_⟩;refine hK.out _ _ ⟨(blk_cell BK248.out 0).trans rfl,(blk_cell BK248.out 1).trans rfl,(blk_cell BK240.out 0).trans rfl,(blk_cell BK240.out 1).trans rfl⟩ (fun hHeld => ?_);clear hK K;refine nT 24 ?_;refine pureE 6 (some 7) #[true,true,true,true,true,true,true] ?_;refine done_ (by kernel_rfl) ?_;have hnb23 := NB248_239.out;have hnc23 := NB239_248.out;have hnb24 := NB248_240.out;have hnc24 := NB240_248.out;have hnb25 := NB248_241.out;have hnc25 := NB241_248.out;have hcz26_0 := y0 BK248;have hcz26_1 := y1 BK248;have hfz26_0 := blk_frozen BK248.out 0;have hfz26_1 := blk_frozen BK248.out 1;have hwj_ : wrap64 ((j_ : Int) + 1) = ((j_ + 1 : Nat) : Int) := by have h1_ := HJ.out;have h2_ := HN.out;unfold wrap64;omega
 have hwk_ : IntKind.i64.wrap ((j_ : Int) + 1) = ((j_ + 1 : Nat) : Int) := (i64_w _).trans hwj_
 go_wp2_with (first | ((with_reducible refine gate_callee (f := 103) rfl ?_);refine goesE (some 32) Try.func103 #[.slice Ao17 t245.length co17,.int .i64 (j_ : Int),.int .i64 ((j_ + 1 : Nat) : Int)] ?_;(with_reducible refine (Delete.calls w.heap.size _ _ t245 j_ HJ.out _ ?side1 (Kd.R_drewN HO247.out nd) HN.out).mono ?_);(case side1 => exact HB.out.size);rintro e w27 ⟨v251,rfl,ho0,hb,hg,hown⟩;refine ⟨_,rfl,?_⟩;rw [← HT6.out] at ho0;obtain ⟨Ao28,co28,e_⟩ := Kd.R_slice ho0;subst e_;have n0_ := aK (Kd.R_mono (ok' := fun k_ => some k_ ≠ (.slice Ao28 t250.length co28 : Value).ownBlock) (Kd.R_grown (Kd.R_drewN HO244.out nd) hg (fun _ hk => hk)) (fun _ hk => by rw [hown];exact hk));have n1_ := aK (blk_grown (blk_drewN BK239.out nd) hg (Kd.R_ne (Kd.R_drewN HO247.out nd) (blk_drewN BK239.out nd) (by decide)));have n2_ := aK (blk_grown (blk_drewN BK240.out nd) hg (Kd.R_ne (Kd.R_drewN HO247.out nd) (blk_drewN BK240.out nd) (by decide)));have n3_ := aK (blk_grown (blk_drewN BK241.out nd) hg (Kd.R_ne (Kd.R_drewN HO247.out nd) (blk_drewN BK241.out nd) (by decide)));have n4_ := aK (blk_grown (blk_drewN BK248.out nd) hg (Kd.R_ne (Kd.R_drewN HO247.out nd) (blk_drewN BK248.out nd) (by decide)));have n5_ := aK ((pw_below_drewN HB.out nd).trans hb);have HO252 := aK ho0;clear HO247 HO244 BK239 BK240 BK241 BK248 HB;have HO244 := n0_;have BK239 := n1_;have BK240 := n2_;have BK241 := n3_;have BK248 := n4_;have HB := n5_;clear n0_ n1_ n2_ n3_ n4_ n5_ hb hg hown ho0;have hcz29_0 := y0 BK248;have hcz29_1 := y1 BK248;have hfz29_0 := blk_frozen BK248.out 0;have hfz29_1 := blk_frozen BK248.out 1;have hnb30 := NB241_239.out;have hnc30 := NB239_241.out;have hnb31 := NB241_240.out;have hnc31 := NB240_241.out;have hcz32_0 := y0 BK241;have hcz32_1 := y1 BK241;have hfz32_0 := blk_frozen BK241.out 0;have hfz32_1 := blk_frozen BK241.out 1))
 refine bodyPost_ret (results_cell_row rfl _ _ gb241 27 #[.slice Ao18 t242.length co18,.slice Ao28 t250.length co28] (0,0) _ rfl (by refine blk_put (cs := #[.slice Ao18 t242.length co18,.slice none 0 0]) ?_ 1 _ rfl;refine blk_put (cs := #[.slice none 0 0,.slice none 0 0]) ?_ 0 _ rfl;refine blk_far ?_ NB241_248.out _;exact BK241.out) Try.underlying27 rfl (by kernel_rfl)) rfl ?_;exact ⟨_,_,rfl,Kd.R_mono (Kd.R_far (p := ⟨gb241,1,none⟩) (Kd.R_far (p := ⟨gb241,0,none⟩) (Kd.R_far (p := ⟨gb248,1,none⟩) (Kd.R_types (Kd.R_types HO244.out BK248.out (by decide)) BK241.out (by decide)) (fun _ hk => hk.1.2) (.slice Ao28 t250.length co28)) (fun _ hk => hk.2) (.slice Ao18 t242.length co18)) (fun _ hk => hk.2) (.slice Ao28 t250.length co28)) (fun _ hk => hk.1.1),Kd.R_mono (Kd.R_far (p := ⟨gb241,1,none⟩) (Kd.R_far (p := ⟨gb241,0,none⟩) (Kd.R_far (p := ⟨gb248,1,none⟩) (Kd.R_types (Kd.R_types HO252.out BK248.out (by decide)) BK241.out (by decide)) (fun _ hk => hk.1.2) (.slice Ao28 t250.length co28)) (fun _ hk => hk.2) (.slice Ao18 t242.length co18)) (fun _ hk => hk.2) (.slice Ao28 t250.length co28)) (fun _ hk => hk.1.1),(bN HB)⟩
theorem impl_Ending_without.calls (k : Nat) (A0_0 : Option Addr) (c0_0 : Nat) (l0_0 : List Int) (A0_1 : Option Addr) (c0_1 : Nat) (l0_1 : List Int) (a1_0 : Bool) (a1_1 : Int) (r1 : List Int) (r2 : List Int) (w : World) (hr0_0 : Kd.C (Kd.int .i64) w A0_0 l0_0.length l0_0) (hc0_0 : l0_0.length ≤ c0_0) (hr0_1 : Kd.C (Kd.int .i64) w A0_1 l0_1.length l0_1) (hc0_1 : l0_1.length ≤ c0_1) (h : impl_Ending_without.f k l0_0 l0_1 a1_0 a1_1 = some (r1, r2)) :
 Calls Try.prog 74 #[.agg #[.slice A0_0 l0_0.length c0_0,.slice A0_1 l0_1.length c0_1],.agg #[.bool a1_0,.int .i64 a1_1]] w fun e w' => ∃ v0_ v1_ : Value,e = .returned (.agg #[v0_,v1_]) ∧ Kd.R (Kd.int .i64) 2 w' w.heap.size (fun k_ => some k_ ≠ (v1_ : Value).ownBlock) v0_ r1 ∧ Kd.R (Kd.int .i64) 2 w' w.heap.size (fun k_ => some k_ ≠ (v0_ : Value).ownBlock) v1_ r2 ∧ Below w.heap.size w w' := by
 cases a1_0 with
 | false => exact without_false.calls k A0_0 c0_0 l0_0 A0_1 c0_1 l0_1 a1_1 r1 r2 w hr0_0 hc0_0 hr0_1 hc0_1 (by unfold impl_Ending_without.f at h;rw [if_neg (by decide)] at h;exact h)
 | true => exact without_true.calls k A0_0 c0_0 l0_0 A0_1 c0_1 l0_1 a1_1 r1 r2 w hr0_0 hc0_0 hr0_1 hc0_1 (by unfold impl_Ending_without.f at h;rw [if_pos rfl] at h;exact h)
end Go.Proofs.Ytkbjoiebaphdoaa.PA
