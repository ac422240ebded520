/- Part 4 of the texts under the row of FnGamePlays (no condition). -/
import Derived.Test.YtfpoppidppoeoaaPk3FnGamePlays
namespace Go.Proofs.Ytfpoppidppoeoaa.PX
open Go.RowKit Go.Proofs.YtfpoppidppoeoaaW.PrintWords Go.Proofs.YtfpoppidppoeoaaW.PrintLast Go.Proofs.YtfpoppidppoeoaaW.PrintMore
attribute [local go_sem] max2_int min2_int max_two min_two max_three min_three max_four min_four
set_option linter.unusedVariables false
set_option linter.unusedSimpArgs false
set_option maxHeartbeats 8000000
set_option maxRecDepth 100000
def Zal.f (k : Nat) (l0 : List Int) : Option ((List (List Int)) × Int) := (Zaw.f k l0).bind fun bt382 => (some (bt382.1, bt382.2))
theorem Zal.mono : ∀ a0 k, LeO (Zal.f k a0) (Zal.f (k + 1) a0) := by
 intro a0 k;unfold Zal.f;have m0 := Zaw.mono;exact lO
theorem Zal.calls (k : Nat) (A0 : Option Addr) (c0 : Nat) (l0 : List Int) (r1 : List (List Int)) (r2 : Int) (w : World) (hr0 : Kd.C (Kd.int .u8) w A0 l0.length l0) (hc0 : l0.length ≤ c0) (h : Zal.f k l0 = some (r1, r2)) :
 Calls Try.prog 5 #[.slice A0 l0.length c0] w fun e w' => ∃ v0_ : Value,e = .returned (.tuple #[.agg #[v0_],.int .i64 r2]) ∧ Kd.V (Kd.slice 2 (Kd.int .i64)) 29 w' w.heap.size (fun k_ => (w.heap.size ≤ k_)) v0_ r1 ∧ Below w.heap.size w w' := by
 have hu26 := Try.underlying26;have HR0 := aK hr0;have HC0 := aK hc0;clear hr0 hc0;have HB := aK (Below.refl w.heap.size w);have H := h;clear h;unfold Zal.f at H;replace H := bE H;obtain ⟨⟨t382,t385⟩,A2,H⟩ := H;dsimp only at H;simp only [Option.some.injEq,Prod.mk.injEq] at H;obtain ⟨rfl,rfl⟩ := H;go_enter Try.func5,Try.ntmps5
 go_wp2_with ((with_reducible refine wP ?_);first | (refine boxE 2 #[.slice none 0 0] 26 ?_;intro gb381 hg w3 hbox hb;have BK381 := aK (hbox);have GW381 := aK (zG HB hg);have GE381 := aK (zG HB hg);replace HB := hB HB hb;clear hb hbox hg) | (refine gS 8 Try.func32 (Zaw.calls k _ _ l0 t382 t385 _ (cB HR0 HB) HC0.out A2.out) ?_;rintro e w4 ⟨v383,rfl,ho0,hb⟩;refine ⟨_,rfl,?_⟩;have HO384 := vl (Kd.V_mono (ok' := fun k_ => (w.heap.size ≤ k_) ∧ k_ ≠ gb381) ho0 (fun k_ hk_ => ⟨(Nat.le_trans (below_size (bN HB)) hk_),(Kd.freshB (g := gb381) (o := .cells #[.slice none 0 0] 26 (0,0)) (kN BK381) k_ hk_)⟩)) HB;replace BK381 := kB BK381 hb;replace HB := hB HB hb;clear hb ho0) | (refine boxE 4 #[.slice none 0 0] 26 ?_;intro gb386 hg w5 hbox hb;replace HO384 := vE HO384 hg hb;have BK386 := aK (hbox);have GW386 := aK (zG HB hg);have GE386 := aK (zG HB hg);replace HB := hB HB hb;obtain ⟨NB381_386,NB386_381⟩ := nG hg BK381;replace BK381 := kB BK381 hb;clear hb hbox hg;obtain ⟨Ao6,co6,eo6⟩ := Kd.V_slice HO384.out;subst eo6;have hnb7 := NB386_381.out;have hnc7 := NB381_386.out;have hcz8_0 := z0 BK386;have hfz8_0 := fZ BK386 0;have hcz9_0 := z0 BK381;have hfz9_0 := fZ BK381 0))
 refine bodyPost_ret (results_ct rfl _ _ gb381 26 #[.slice Ao6 t382.length co6] (0,0) _ rfl (kP BK381) Try.underlying26 rfl (by kernel_rfl)) rfl ?_;exact ⟨_,by first | rfl | (simp [errW_none,errW_some] <;> rfl) | (simp [*,errW_none,errW_some] <;> rfl),by (with_reducible repeat (first | apply Kd.V_alloc | apply Kd.V_drewN | apply Kd.V_drew));exact Kd.V_mono (Kd.V_far (p := ⟨gb381,0,none⟩) (Kd.V_far (p := ⟨gb386,0,none⟩) (Kd.V_mono (Kd.V_mono HO384.out (fun k_ hk => (⟨hk,hk.2⟩ : _ ∧ k_ ≠ gb386))) (fun k_ hk => (⟨hk,hk.1.1.2⟩ : _ ∧ k_ ≠ gb381))) (fun _ hk => hk.1.2) (.slice Ao6 t382.length co6)) (fun _ hk => hk.2) (.slice Ao6 t382.length co6)) (fun _ hk => hk.1.1.1.1),(bN HB)⟩
def Zy.l0 : Nat → List Bool → Bool → Int → Int → Option (Int)
 | 0,_,_,_,_ => none
 | k + 1,x0,x1,x7,x8 => if x8 < x7 then (if 0 ≤ x8 then (if x8 < (x0.length : Int) then (if (x1 == (rdOf false x0 x8)) = true then (some x8) else (Zy.l0 k x0 x1 x7 (wrap64 (x8 + 1)))) else (none)) else (none)) else (some (-1))
def Zy.f (k : Nat) (l0 : List Bool) (a1 : Bool) : Option (Int) := Zy.l0 k l0 a1 (l0.length : Int) 0
theorem Zy.mono_l : ∀ k, (∀ y0 y1 y2 y3, LeO (Zy.l0 k y0 y1 y2 y3) (Zy.l0 (k + 1) y0 y1 y2 y3))
 | 0 => fun _ _ _ _ r h => by simp [Zy.l0] at h
 | k + 1 => by
  have ih0 := Zy.mono_l k
  ·intro y0 y1 y2 y3;unfold Zy.l0;exact lO
theorem Zy.mono : ∀ a0 a1 k, LeO (Zy.f k a0 a1) (Zy.f (k + 1) a0 a1) := by
 intro a0 a1 k;have ih0 := Zy.mono_l k;unfold Zy.f;exact lO
theorem Zy.calls (k : Nat) (A0 : Option Addr) (c0 : Nat) (l0 : List Bool) (a1 : Bool) (r : Int) (w : World) (hr0 : Kd.C Kd.bool w A0 l0.length l0) (hc0 : l0.length ≤ c0) (h : Zy.f k l0 a1 = some r) :
 Calls Try.prog 75 #[.slice A0 l0.length c0,.bool a1] w fun e w' => e = .returned (.int .i64 r) ∧ Drawn0 w w' := by
 have HR0 := aK hr0;have HC0 := aK hc0;clear hr0 hc0;have H := h;clear h;unfold Zy.f at H;have H' := aK H;clear H;go_enter Try.func75,Try.ntmps75;go_wp2
 go_loopg [8] k (fun kq v8 w' => ∃ (x8_1 : Int),v8 = .int .i64 x8_1 ∧ Aside0 (Zy.l0 kq l0 a1 (l0.length : Int) x8_1 = some r) ∧ Aside0 (kq ≤ k) ∧ Drawn0 w w')
 case atStart => exact ⟨(0),rD,H',⟨Nat.le_refl _⟩,dD⟩
 case round =>
  clear H';obtain ⟨x8_1,rfl,HA,HK1,⟨m1,rfl⟩⟩ := hrel
  cases gk with
  | zero => exact absurd HA.out (by simp [Zy.l0])
  | succ k1 =>
   have H := HA.out;clear HA;simp only [Zy.l0] at H;replace H := iT H;obtain ⟨c3b0,H⟩|⟨c3b0,H⟩ := H
   ·replace H := iP H;obtain ⟨c4b0,H⟩ := H;replace H := iP H;obtain ⟨c5b0,H⟩ := H
    by_cases c6 : (a1 == (rdOf false l0 x8_1)) = true
    ·rw [if_pos c6] at H;have c6b0 : (a1 == (rdOf false l0 x8_1)) = true := c6;(try (have c6b1 : decide (a1 = (rdOf false l0 x8_1)) = true := by simpa using c6));(try (have c6b2 : (a1 == (rdOf false l0 x8_1)) = true := by simpa using c6));clear c6;obtain rfl := Option.some.inj H;obtain ⟨ad387,rfl,hx387_0,p387,q387⟩ := aC HR0.out x8_1;go_wp2;go_ret;exact ⟨rD,dD⟩
    ·rw [if_neg c6] at H;have c6b0 : (a1 == (rdOf false l0 x8_1)) = false := by simpa using c6
     (try (have c6b1 : decide (a1 = (rdOf false l0 x8_1)) = false := by simpa using c6));(try (have c6b2 : (a1 == (rdOf false l0 x8_1)) = false := by simpa using c6));(try (have c6b3 : ¬ (a1 = (rdOf false l0 x8_1)) := by simpa using c6));clear c6;have H' := aK H;clear H;obtain ⟨ad387,rfl,hx387_0,p387,q387⟩ := aC HR0.out x8_1;go_wp2
     go_roundg k1
     case measure => have := HK1.out;omega
     case rel => exact ⟨(wrap64 (x8_1 + 1)),rD,H',o1 HK1,dD⟩
   ·obtain rfl := Option.some.inj H;go_wp2;go_ret;exact ⟨rD,dD⟩
def ZW.f (k : Nat) (l0 : List Bool) (a1 : Bool) : Option (Bool) := (Zy.f k l0 a1).bind fun t388 => (some (decide (t388 ≥ 0)))
theorem ZW.mono : ∀ a0 a1 k, LeO (ZW.f k a0 a1) (ZW.f (k + 1) a0 a1) := by
 intro a0 a1 k;unfold ZW.f;have m0 := Zy.mono;exact lO
theorem ZW.calls (k : Nat) (A0 : Option Addr) (c0 : Nat) (l0 : List Bool) (a1 : Bool) (r : Bool) (w : World) (hr0 : Kd.C Kd.bool w A0 l0.length l0) (hc0 : l0.length ≤ c0) (h : ZW.f k l0 a1 = some r) :
 Calls Try.prog 46 #[.slice A0 l0.length c0,.bool a1] w fun e w' => e = .returned (.bool r) ∧ Drawn0 w w' := by
 have HR0 := aK hr0;have HC0 := aK hc0;clear hr0 hc0;have H := h;clear h;unfold ZW.f at H;replace H := bE H;obtain ⟨t388,A3,H⟩ := H;obtain rfl := Option.some.inj H;go_enter Try.func46,Try.ntmps46
 go_wp2_with ((with_reducible refine wP ?_);first | (refine gT 7 Try.func75 (Zy.calls k _ _ l0 a1 t388 _ (cM (HR0.out)) HC0.out A3.out) ?_;rintro w' ⟨nd,rfl⟩))
 go_ret;exact ⟨rD,dD⟩
def Zaf.f (k : Nat) (l0 : List Bool) : Option (Bool) := (ZW.f k l0 false).bind fun t389 => (some t389)
theorem Zaf.mono : ∀ a0 k, LeO (Zaf.f k a0) (Zaf.f (k + 1) a0) := by
 intro a0 k;unfold Zaf.f;have m0 := ZW.mono;exact lO
theorem Zaf.calls (k : Nat) (A0 : Option Addr) (c0 : Nat) (l0 : List Bool) (r : Bool) (w : World) (hr0 : Kd.C Kd.bool w A0 l0.length l0) (hc0 : l0.length ≤ c0) (h : Zaf.f k l0 = some r) :
 Calls Try.prog 45 #[.slice A0 l0.length c0] w fun e w' => e = .returned (.bool r) ∧ Drawn0 w w' := by
 have HR0 := aK hr0;have HC0 := aK hc0;clear hr0 hc0;have H := h;clear h;unfold Zaf.f at H;replace H := bE H;obtain ⟨t389,A2,H⟩ := H;obtain rfl := Option.some.inj H;go_enter Try.func45,Try.ntmps45
 go_wp2_with ((with_reducible refine wP ?_);first | (refine gT 4 Try.func46 (ZW.calls k _ _ l0 false t389 _ (cM (HR0.out)) HC0.out A2.out) ?_;rintro w' ⟨nd,rfl⟩))
 go_ret;exact ⟨rD,dD⟩
def Zan.f (l0 : List (List Int)) : Option (Int) := some (l0.length : Int)
theorem Zan.calls (A0 : Option Addr) (c0 : Nat) (l0 : List (List Int)) (r : Int) (w : World) (hr0 : Kd.C (Kd.slice 2 (Kd.int .i64)) w A0 l0.length l0) (hc0 : l0.length ≤ c0) (h : Zan.f l0 = some r) :
 Calls Try.prog 41 #[.slice A0 l0.length c0] w fun e w' => e = .returned (.int .i64 r) ∧ Drawn0 w w' := by
 have HR0 := aK hr0;have HC0 := aK hc0;clear hr0 hc0;have H := h;clear h;unfold Zan.f at H;obtain rfl := Option.some.inj H;go_enter Try.func41,Try.ntmps41;go_wp2;go_ret;exact ⟨rD,dD⟩
def Zaa.f (a0 : Int) (a1 : Int) (a2 : Int) : Option (Bool) := if a1 ≤ a0 then (some (decide (a0 ≤ a2))) else (some false)
theorem Zaa.calls (a0 : Int) (a1 : Int) (a2 : Int) (r : Bool) (w : World) (h : Zaa.f a0 a1 a2 = some r) :
 Calls Try.prog 64 #[.int .i64 a0,.int .i64 a1,.int .i64 a2] w fun e w' => e = .returned (.bool r) ∧ Drawn0 w w' := by
 have H := h;clear h;unfold Zaa.f at H;replace H := iT H;obtain ⟨c4b0,H⟩|⟨c4b0,H⟩ := H
 ·obtain rfl := Option.some.inj H;go_enter Try.func64,Try.ntmps64;go_wp2;go_ret;exact ⟨rD,dD⟩
 ·obtain rfl := Option.some.inj H;go_enter Try.func64,Try.ntmps64;go_wp2;go_ret;exact ⟨rD,dD⟩
def ZG.l0 : Nat → List Int → Int → Int → List Int → Int → Int → Option (Bool)
 | 0,_,_,_,_,_,_ => none
 | k + 1,x0,x1,x2,x9,x10,x11 => if x11 < x10 then (if 0 ≤ x11 then (if x11 < (x9.length : Int) then ((Zaa.f (rd x9 x11) x1 x2).bind fun t391 => (if t391 = true then (if x11 > 0 then (if 0 ≤ (wrap64 (x11 - 1)) then (if (wrap64 (x11 - 1)) < (x0.length : Int) then (if (rd x9 x11) ≤ (rd x0 (wrap64 (x11 - 1))) then (some false) else (ZG.l0 k x0 x1 x2 x9 x10 (wrap64 (x11 + 1)))) else (none)) else (none)) else (ZG.l0 k x0 x1 x2 x9 x10 (wrap64 (x11 + 1)))) else (some false))) else (none)) else (none)) else (some true)
def ZG.f (k : Nat) (l0 : List Int) (a1 : Int) (a2 : Int) : Option (Bool) := ZG.l0 k l0 a1 a2 l0 (l0.length : Int) 0
theorem ZG.mono_l : ∀ k, (∀ y0 y1 y2 y3 y4 y5, LeO (ZG.l0 k y0 y1 y2 y3 y4 y5) (ZG.l0 (k + 1) y0 y1 y2 y3 y4 y5))
 | 0 => fun _ _ _ _ _ _ r h => by simp [ZG.l0] at h
 | k + 1 => by
  have ih0 := ZG.mono_l k
  ·intro y0 y1 y2 y3 y4 y5;unfold ZG.l0;exact lO
theorem ZG.mono : ∀ a0 a1 a2 k, LeO (ZG.f k a0 a1 a2) (ZG.f (k + 1) a0 a1 a2) := by
 intro a0 a1 a2 k;have ih0 := ZG.mono_l k;unfold ZG.f;exact lO
theorem ZG.calls (k : Nat) (A0 : Option Addr) (c0 : Nat) (l0 : List Int) (a1 : Int) (a2 : Int) (r : Bool) (w : World) (hr0 : Kd.C (Kd.int .i64) w A0 l0.length l0) (hc0 : l0.length ≤ c0) (h : ZG.f k l0 a1 a2 = some r) :
 Calls Try.prog 65 #[.slice A0 l0.length c0,.int .i64 a1,.int .i64 a2] w fun e w' => e = .returned (.bool r) ∧ Drawn0 w w' := by
 have HR0 := aK hr0;have HC0 := aK hc0;clear hr0 hc0;have H := h;clear h;unfold ZG.f at H;have H' := aK H;clear H;go_enter Try.func65,Try.ntmps65;go_wp2
 go_loopg [11] k (fun kq v11 w' => ∃ (x11_1 : Int),v11 = .int .i64 x11_1 ∧ Aside0 (ZG.l0 kq l0 a1 a2 l0 (l0.length : Int) x11_1 = some r) ∧ Aside0 (kq ≤ k) ∧ Drawn0 w w')
 case atStart => exact ⟨(0),rD,H',⟨Nat.le_refl _⟩,dD⟩
 case round =>
  clear H';obtain ⟨x11_1,rfl,HA,HK1,⟨m1,rfl⟩⟩ := hrel
  cases gk with
  | zero => exact absurd HA.out (by simp [ZG.l0])
  | succ k1 =>
   have H := HA.out;clear HA;simp only [ZG.l0] at H;replace H := iT H;obtain ⟨c4b0,H⟩|⟨c4b0,H⟩ := H
   ·replace H := iP H;obtain ⟨c5b0,H⟩ := H;replace H := iP H;obtain ⟨c6b0,H⟩ := H;replace H := bE H;obtain ⟨t391,A7,H⟩ := H;replace H := iB H;obtain ⟨rfl,H⟩|⟨rfl,H⟩ := H
    ·replace H := iT H;obtain ⟨c9b0,H⟩|⟨c9b0,H⟩ := H
     ·obtain ⟨ji10,hji10⟩ : ∃ j_ : Int,(wrap64 (x11_1 - 1)) = j_ := ⟨_,rfl⟩;(first | rw [hji10] at H | simp only [hji10] at H);(try rw [hji10] at A7);have hji10w : (IntKind.i64.wrap (x11_1 - 1)) = ji10 := (i64_w _).trans hji10;replace H := iP H;obtain ⟨c11b0,H⟩ := H;replace H := iP H;obtain ⟨c12b0,H⟩ := H;replace H := iT H;obtain ⟨c13b0,H⟩|⟨c13b0,H⟩ := H
      ·obtain rfl := Option.some.inj H;obtain ⟨ad390,rfl,hx390_0,p390,q390⟩ := aJ HR0.out x11_1
       go_wp2_with ((with_reducible refine wP ?_);first | (refine gT 19 Try.func64 (Zaa.calls (rd l0 x11_1) a1 a2 true _ A7.out) ?_;rintro w' ⟨nd,rfl⟩;obtain ⟨ad392,e392,hx392_0,p392,q392⟩ := aJ HR0.out (ji10);obtain rfl := iJ e392))
       go_ret;exact ⟨by first | rfl | (simp;done) | (simp only [← hji10] <;> (first | rfl | simp)) | (simp [*];done),dD⟩
      ·have H' := aK H;clear H;obtain ⟨ad390,rfl,hx390_0,p390,q390⟩ := aJ HR0.out x11_1
       go_wp2_with ((with_reducible refine wP ?_);first | (refine gT 19 Try.func64 (Zaa.calls (rd l0 x11_1) a1 a2 true _ A7.out) ?_;rintro w' ⟨nd,rfl⟩;obtain ⟨ad392,e392,hx392_0,p392,q392⟩ := aJ HR0.out (ji10);obtain rfl := iJ e392))
       go_roundg k1
       case measure => have := HK1.out;omega
       case rel => exact ⟨(wrap64 (x11_1 + 1)),rD,H',o1 HK1,dD⟩
     ·have H' := aK H;clear H;obtain ⟨ad390,rfl,hx390_0,p390,q390⟩ := aJ HR0.out x11_1
      go_wp2_with ((with_reducible refine wP ?_);first | (refine gT 19 Try.func64 (Zaa.calls (rd l0 x11_1) a1 a2 true _ A7.out) ?_;rintro w' ⟨nd,rfl⟩))
      go_roundg k1
      case measure => have := HK1.out;omega
      case rel => exact ⟨(wrap64 (x11_1 + 1)),rD,H',o1 HK1,dD⟩
    ·obtain rfl := Option.some.inj H;obtain ⟨ad390,rfl,hx390_0,p390,q390⟩ := aJ HR0.out x11_1
     go_wp2_with ((with_reducible refine wP ?_);first | (refine gT 19 Try.func64 (Zaa.calls (rd l0 x11_1) a1 a2 false _ A7.out) ?_;rintro w' ⟨nd,rfl⟩))
     go_ret;exact ⟨rD,dD⟩
   ·obtain rfl := Option.some.inj H;go_wp2;go_ret;exact ⟨rD,dD⟩
def ZC.l0 : Nat → Int → List (List Int) → Int → Int → Option (Bool)
 | 0,_,_,_,_ => none
 | k + 1,x3,x10,x11,x12 => if x12 < x11 then (if 0 ≤ x12 then (if x12 < (x10.length : Int) then ((ZG.f k (rd_L2 x10 x12) (wrap64 (x12 + 1)) (wrap64 (x3 - 1))).bind fun t396 => (if t396 = true then (ZC.l0 k x3 x10 x11 (wrap64 (x12 + 1))) else (some false))) else (none)) else (none)) else ((Zaa.f x3 1 40).bind fun t397 => (some t397))
def ZC.f (k : Nat) (l0_0 : List (List Int)) : Option (Bool) := (Zan.f l0_0).bind fun t394 => (ZC.l0 k t394 l0_0 (l0_0.length : Int) 0)
theorem ZC.mono_l : ∀ k, (∀ y0 y1 y2 y3, LeO (ZC.l0 k y0 y1 y2 y3) (ZC.l0 (k + 1) y0 y1 y2 y3))
 | 0 => fun _ _ _ _ r h => by simp [ZC.l0] at h
 | k + 1 => by
  have ih0 := ZC.mono_l k
  ·intro y0 y1 y2 y3;unfold ZC.l0;have m0 := ZG.mono;exact lO
theorem ZC.mono : ∀ a0 k, LeO (ZC.f k a0) (ZC.f (k + 1) a0) := by
 intro a0 k;have ih0 := ZC.mono_l k;unfold ZC.f;have m0 := ZG.mono;exact lO
theorem ZC.calls (k : Nat) (A0_0 : Option Addr) (c0_0 : Nat) (l0_0 : List (List Int)) (r : Bool) (w : World) (hr0_0 : Kd.C (Kd.slice 2 (Kd.int .i64)) w A0_0 l0_0.length l0_0) (hc0_0 : l0_0.length ≤ c0_0) (h : ZC.f k l0_0 = some r) :
 Calls Try.prog 47 #[.agg #[.slice A0_0 l0_0.length c0_0]] w fun e w' => e = .returned (.bool r) ∧ Below w.heap.size w w' := by
 have hu26 := Try.underlying26;have HR0_0 := aK hr0_0;have HC0_0 := aK hc0_0;clear hr0_0 hc0_0;have HB := aK (Below.refl w.heap.size w);have H := h;clear h;unfold ZC.f at H;replace H := bE H;obtain ⟨t394,A2,H⟩ := H;have H' := aK H;clear H;go_enter Try.func47,Try.ntmps47
 go_wp2_with ((with_reducible refine wP ?_);first | (refine boxE 1 #[.slice A0_0 l0_0.length c0_0] 26 ?_;intro gb393 hg w3 hbox hb;have BK393 := aK (hbox);have GW393 := aK (zG HB hg);have GE393 := aK (zG HB hg);replace HB := hB HB hb;clear hb hbox hg;have hcz4_0 := z0 BK393;have hfz4_0 := fZ BK393 0) | (refine gT 8 Try.func41 (Zan.calls _ _ l0_0 t394 _ (cB HR0_0 HB) HC0_0.out A2.out) ?_;rintro w' ⟨nd,rfl⟩))
 go_loopg [12] k (fun kq v12 w' => ∃ (x12_1 : Int),v12 = .int .i64 x12_1 ∧ Aside0 (ZC.l0 kq t394 l0_0 (l0_0.length : Int) x12_1 = some r) ∧ Aside0 (kq ≤ k) ∧ Aside0 (w'.heap[gb393]? = some (.cells #[(.slice A0_0 l0_0.length c0_0)] 26 (0,0))) ∧ Aside0 (Below w.heap.size w w'))
 case atStart => exact ⟨(0),rD,H',⟨Nat.le_refl _⟩,⟨kN BK393⟩,⟨bN HB⟩⟩
 case round =>
  clear H';clear hcz4_0 hfz4_0;obtain ⟨x12_1,rfl,HA,HK1,BK393,HB⟩ := hrel
  cases gk with
  | zero => exact absurd HA.out (by simp [ZC.l0])
  | succ k1 =>
   have H := HA.out;clear HA;simp only [ZC.l0] at H;replace H := iT H;obtain ⟨c5b0,H⟩|⟨c5b0,H⟩ := H
   ·replace H := iP H;obtain ⟨c6b0,H⟩ := H;replace H := iP H;obtain ⟨c7b0,H⟩ := H;replace H := bE H;obtain ⟨t396,A8,H⟩ := H;replace H := iB H;obtain ⟨rfl,H⟩|⟨rfl,H⟩ := H
    ·have H' := aK H;clear H;obtain ⟨ad395,A395_0,c395_0,rfl,-,hx395_0,HR395_0,HC395_0,p395,q395⟩ := aL HR0_0.out HB x12_1
     go_wp2_with ((with_reducible refine wP ?_);first | (refine gT 22 Try.func65 (ZG.calls k1 _ _ (rd_L2 l0_0 x12_1) (wrap64 (x12_1 + 1)) (wrap64 (t394 - 1)) true _ (cB HR395_0 HB) HC395_0.out A8.out) ?_;rintro w' ⟨nd,rfl⟩))
     go_roundg k1
     case measure => have := HK1.out;omega
     case rel => exact ⟨(wrap64 (x12_1 + 1)),rD,H',o1 HK1,⟨kN BK393⟩,⟨bN HB⟩⟩
    ·obtain rfl := Option.some.inj H;obtain ⟨ad395,A395_0,c395_0,rfl,-,hx395_0,HR395_0,HC395_0,p395,q395⟩ := aL HR0_0.out HB x12_1
     go_wp2_with ((with_reducible refine wP ?_);first | (refine gT 22 Try.func65 (ZG.calls k1 _ _ (rd_L2 l0_0 x12_1) (wrap64 (x12_1 + 1)) (wrap64 (t394 - 1)) false _ (cB HR395_0 HB) HC395_0.out A8.out) ?_;rintro w' ⟨nd,rfl⟩))
     go_ret;exact eR (bN HB)
   ·replace H := bE H;obtain ⟨t397,A10,H⟩ := H;obtain rfl := Option.some.inj H
    go_wp2_with ((with_reducible refine wP ?_);first | (refine gT 26 Try.func64 (Zaa.calls t394 1 40 t397 _ A10.out) ?_;rintro w' ⟨nd,rfl⟩))
    go_ret;exact eR (bN HB)
def HasFn (f : FuncId) : Prop := ∃ fn, Try.prog.funcs[f]? = some fn ∧ (fn.name == "runtime.NumGoroutine") = false ∧ fn.body.isSome = true
theorem goesV_ {ops : Array Oper} {Q : Exit → Act → World → Prop} {rest : List Oper} {oi : Oper} {a : Act} {w : World} (N : Option Tmp) (hd : oi.dst = N) (hg : oi.guard = none) {t : Tmp} {os_ : Array Operand} {ts : Array TypeId} (f : FuncId) (cap : Array Value) (hf : HasFn f) (args : Array Value)
 (hop : oi.op = .call { callee := .value (.tmp t),args := os_,argTypes := ts }) (ht : a.eval (.tmp t) = .func (.func f) #[] cap) (hargs : os_.map a.eval = args)
 (h : Calls Try.prog f (args ++ cap) w fun e w' => ∃ v,e = .returned v ∧ wpList Try.prog ops Q rest (a.put N v) w') : wpList Try.prog ops Q (oi :: rest) a w := by
 obtain ⟨fn,hf,hname,hb⟩ := hf
 refine wpList_plain hg fun K hK => ?_
 have he := enters_ hf hname hb (args ++ cap) w
 have hrun : (execOp a.eval oi).run Try.prog w = .ok (.enter f (args ++ cap)) w := by
  unfold execOp
  simp only [hop,resolve,ht,hargs]
  simp [Deferred.ofValue,invoke,he]
 unfold Oper.wp
 rw [hrun,Oper.upon_enter]
 refine h.mono fun e w'' hh => ?_
 obtain ⟨v,rfl,hk⟩ := hh
 subst hd
 exact hK _ _ hk
def Tests (f : FuncId) (cap : Array Value) (p : Int → Bool) (xs : List Int) (w : World) : Prop :=
 HasFn f ∧ ∀ x ∈ xs,∀ n : Nat,Calls Try.prog f (#[.int .i64 x] ++ cap) (w.drewN n) fun e w' => e = .returned (.bool (p x)) ∧ Drawn0 (w.drewN n) w'
theorem Tests.drewN {f : FuncId} {cap : Array Value} {p : Int → Bool} {xs : List Int} {w : World} (h : Tests f cap p xs w) (m : Nat) : Tests f cap p xs (w.drewN m) :=
 ⟨h.1,fun x hx n => by rw [World.drewN_drewN];exact h.2 x hx (m + n)⟩
def idxOf (p : Int → Bool) (xs : List Int) : Int := match xs.findIdx? p with
 | some i => (i : Int)
 | none => -1
theorem idxOf_at {p : Int → Bool} {xs : List Int} {j : Nat} {x : Int} (hj : xs[j]? = some x) (hp : p x = true) (hb : ∀ i, i < j → p (xs.getD i 0) = false) : idxOf p xs = (j : Int) := by
 obtain ⟨hl,he⟩ := List.getElem?_eq_some_iff.1 hj
 have : xs.findIdx? p = some j := by
  rw [List.findIdx?_eq_some_iff_getElem]
  refine ⟨hl,by rw [he];exact hp,fun i hi => ?_⟩
  have := hb i hi
  rw [List.getD_eq_getElem?_getD,List.getElem?_eq_getElem (by omega)] at this
  simpa using this
 unfold idxOf
 rw [this]
theorem idxOf_none {p : Int → Bool} {xs : List Int} (hb : ∀ i, i < xs.length → p (xs.getD i 0) = false) : idxOf p xs = -1 := by
 have : xs.findIdx? p = none := by
  rw [List.findIdx?_eq_none_iff]
  intro x hx
  obtain ⟨i,hi,rfl⟩ := List.getElem_of_mem hx
  have := hb i hi
  rw [List.getD_eq_getElem?_getD,List.getElem?_eq_getElem hi] at this
  simpa using this
 unfold idxOf
 rw [this]
theorem idxOf_any (p : Int → Bool) (xs : List Int) : decide (0 ≤ idxOf p xs) = xs.any p := by
 unfold idxOf
 cases h : xs.findIdx? p with
 | none =>
  rw [List.findIdx?_eq_none_iff] at h
  have : xs.any p = false := by rw [List.any_eq_false];intro x hx;rw [h x hx];decide
  rw [this];rfl
 | some i =>
  rw [List.findIdx?_eq_some_iff_getElem] at h
  obtain ⟨hi,hp,_⟩ := h
  have : xs.any p = true := List.any_eq_true.2 ⟨_,List.getElem_mem hi,hp⟩
  rw [this]
  exact decide_eq_true (show (0 : Int) ≤ (i : Int) by omega)
theorem IndexFunc.calls (f : FuncId) (cap : Array Value) (p : Int → Bool) (A0 : Option Addr) (c0 : Nat) (l0 : List Int) (w : World) (hr0 : Kd.C (Kd.int .i64) w A0 l0.length l0) (hc0 : l0.length ≤ c0) (ht : Tests f cap p l0 w) :
 Calls Try.prog 74 #[.slice A0 l0.length c0,.func (.func f) #[] cap] w fun e w' => e = .returned (.int .i64 (idxOf p l0)) ∧ Drawn0 w w' := by
 have HR0 := Aside0.mk hr0
 have HC0 := Aside0.mk hc0
 have HT := Aside0.mk ht
 have HM := Aside0.mk hr0.2.1
 clear hr0 hc0 ht
 go_enter Try.func74,Try.ntmps74
 go_wp2
 go_loopg [8] (l0.length + 1) (fun kq v8 w' => ∃ (x8 : Int),v8 = .int .i64 x8 ∧ Aside0 (∃ j : Nat,x8 = (j : Int) ∧ j ≤ l0.length ∧ kq + j = l0.length + 1 ∧ ∀ i,i < j → p (l0.getD i 0) = false) ∧ Drawn0 w w')
 case atStart => exact ⟨(0),(by first | rfl | (simp;done) | (simp [*];done)),⟨0,rfl,Nat.zero_le _,rfl,fun i hi => absurd hi (Nat.not_lt_zero _)⟩,by repeat (first | exact Drawn0.refl _ | apply Drawn0.step)⟩
 case round =>
  obtain ⟨x8,rfl,⟨j,hj0,hj1,hj2,hj3⟩,⟨m1,rfl⟩⟩ := hrel
  have HJ := Aside0.mk hj0
  have HJ1 := Aside0.mk hj1
  have HJ2 := Aside0.mk hj2
  have HJ3 := Aside0.mk hj3
  clear hj0 hj1 hj2 hj3
  by_cases c3 : x8 < (l0.length : Int)
  ·have c3b0 : decide (x8 < (l0.length : Int)) = true := decide_eq_true c3
   have c4b0 : decide (0 ≤ x8) = true := decide_eq_true (by rw [HJ.out];omega)
   have p658 : 0 ≤ (x8 : Int) := of_decide_eq_true c4b0
   obtain ⟨ad658,e658,hx658_0⟩ := Kd.at_int HR0.out x8 p658 c3
   cases e658
   obtain ⟨x,hx⟩ : ∃ x,l0[j]? = some x := ⟨_,List.getElem?_eq_getElem (by have := HJ.out;omega)⟩
   have HX := Aside0.mk hx
   have hrd : rd l0 x8 = x := by
    unfold rd
    rw [HJ.out,Int.toNat_natCast,List.getD_eq_getElem?_getD,hx];rfl
   have HRD := Aside0.mk hrd
   have HCL := Aside0.mk (HT.out.2 x (List.mem_of_getElem? hx) m1)
   clear hx hrd
   replace p658 := eq_true p658
   replace c3 := eq_true c3
   cases hpx : p x with
   | true =>
    have HPX := Aside0.mk hpx
    clear hpx
    go_wp2_with ((with_reducible refine gate_dst (N := 16) rfl ?_);refine goesV_ (some 16) rfl rfl f cap HT.out.1 #[.int .i64 (rd l0 x8)] rfl rfl (by (try simp only [List.map_toArray,List.map_cons,List.map_nil]);first | done | rfl) ?_;rw [HRD.out];(with_reducible refine HCL.out.mono ?_);rintro e w' ⟨rfl,⟨nd,rfl⟩⟩;refine ⟨_,rfl,?_⟩;rw [HPX.out])
    go_ret
    exact ⟨by rw [idxOf_at HX.out HPX.out HJ3.out,HJ.out];rfl,by repeat (first | exact Drawn0.refl _ | apply Drawn0.step)⟩
   | false =>
    have HPX := Aside0.mk hpx
    clear hpx
    go_wp2_with ((with_reducible refine gate_dst (N := 16) rfl ?_);refine goesV_ (some 16) rfl rfl f cap HT.out.1 #[.int .i64 (rd l0 x8)] rfl rfl (by (try simp only [List.map_toArray,List.map_cons,List.map_nil]);first | done | rfl) ?_;rw [HRD.out];(with_reducible refine HCL.out.mono ?_);rintro e w' ⟨rfl,⟨nd,rfl⟩⟩;refine ⟨_,rfl,?_⟩;rw [HPX.out])
    go_roundg (l0.length - j)
    case measure => have := HJ1.out;have := HJ2.out;have := HJ.out;omega
    case rel =>
     refine ⟨(wrap64 (x8 + 1)),(by first | rfl | (simp;done) | (simp [*];done)),⟨j + 1,?_,?_,?_,?_⟩,by repeat (first | exact Drawn0.refl _ | apply Drawn0.step)⟩
     ·have := HJ.out;have := HM.out;have := (List.getElem?_eq_some_iff.1 HX.out).1;unfold wrap64;omega
     ·have := (List.getElem?_eq_some_iff.1 HX.out).1;omega
     ·have := HJ1.out;have := HJ2.out;have := (List.getElem?_eq_some_iff.1 HX.out).1;omega
     ·intro i hi
      rcases Nat.lt_or_ge i j with h | h
      ·exact HJ3.out i h
      ·have : i = j := by omega
       subst this
       rw [List.getD_eq_getElem?_getD,HX.out]
       exact HPX.out
  ·have c3b0 : decide (x8 < (l0.length : Int)) = false := decide_eq_false c3
   have HN := Aside0.mk c3
   clear c3
   go_wp2
   go_ret
   refine ⟨?_,by repeat (first | exact Drawn0.refl _ | apply Drawn0.step)⟩
   have hjl : j = l0.length := by have := HN.out;have := HJ.out;have := HJ1.out;omega
   rw [idxOf_none (fun i hi => HJ3.out i (by omega))]
   rfl
section
variable (V : Nat → List Bool → Option Bool)
mutual
def Zj.l0 : Nat → List Bool → Int → List (List Int) → Option (List Bool × Int)
 | 0,_,_,_ => none
 | k + 1,x6,x7,xqv => if x7 ≥ 0 then (if 0 ≤ x7 then (if x7 < (xqv.length : Int) then (Zj.l1 k x6 x7 (([] : List Bool)) (rd_L2 xqv x7) ((rd_L2 xqv x7).length : Int) 0 xqv) else (none)) else (none)) else (some (x6,0))
def Zj.l1 : Nat → List Bool → Int → List Bool → List Int → Int → Int → List (List Int) → Option (List Bool × Int)
 | 0,_,_,_,_,_,_,_ => none
 | k + 1,x6,x7,x8,x30,x31,x32,xqv => if x32 < x31 then (if 0 ≤ x32 then (if x32 < (x30.length : Int) then (if 0 ≤ (rd x30 x32) then (if (rd x30 x32) < (x6.length : Int) then (if x8.length < 140737488355328 then (Zj.l1 k x6 x7 (x8 ++ [rdOf false x6 (rd x30 x32)]) x30 x31 (wrap64 (x32 + 1)) xqv) else (none)) else (none)) else (none)) else (none)) else (none)) else ((V k x8).bind fun t412 => (if 0 ≤ x7 then (if x7 < (x6.length : Int) then (Zj.l0 k (x6.set (x7 : Int).toNat t412) (wrap64 (x7 - 1)) xqv) else (none)) else (none)))
end
def Zj.f (k : Nat) (l0_0 : List (List Int)) : Option (List Bool × Int) := (ZC.f k l0_0).bind fun t399 => (if t399 = true then (if 0 ≤ (l0_0.length : Int) then (if ((l0_0.length : Int) : Int).toNat ≤ 281474976710656 then ((some (List.replicate ((l0_0.length : Int) : Int).toNat false : List Bool)).bind fun y400 => (Zj.l0 V k y400 (wrap64 ((y400.length : Int) - 1)) l0_0)) else (none)) else (none)) else (some (([] : List Bool), 1)))
end
theorem Zj.mono_l (V : Nat → List Bool → Option Bool) (hm : ∀ a k, LeO (V k a) (V (k + 1) a)) : ∀ k, (∀ y0 y1 y2, LeO (Zj.l0 V k y0 y1 y2) (Zj.l0 V (k + 1) y0 y1 y2)) ∧ (∀ y0 y1 y2 y3 y4 y5 y6, LeO (Zj.l1 V k y0 y1 y2 y3 y4 y5 y6) (Zj.l1 V (k + 1) y0 y1 y2 y3 y4 y5 y6))
 | 0 => ⟨fun _ _ _ r h => by simp [Zj.l0] at h,fun _ _ _ _ _ _ _ r h => by simp [Zj.l1] at h⟩
 | k + 1 => by
  obtain ⟨ih0,ih1⟩ := Zj.mono_l V hm k;refine ⟨?_,?_⟩ <;> (intros;first | unfold Zj.l0 | unfold Zj.l1)
  all_goals repeat' first | (with_reducible exact ih0 _ _ _) | (with_reducible exact ih1 _ _ _ _ _ _ _) | (with_reducible exact ZC.mono _ _) | (with_reducible exact hm _ _) | (with_reducible exact LeO.refl _) | (with_reducible exact LeO.none _) | (with_reducible refine LeO.ite ?_ ?_) | (with_reducible refine LeO.bind ?_ (fun _ => ?_))
theorem Zj.mono (V : Nat → List Bool → Option Bool) (hm : ∀ a k, LeO (V k a) (V (k + 1) a)) : ∀ a0 k, LeO (Zj.f V k a0) (Zj.f V (k + 1) a0) := by
 intro a0 k;obtain ⟨ih0,ih1⟩ := Zj.mono_l V hm k;unfold Zj.f
 repeat' first | (with_reducible exact ih0 _ _ _) | (with_reducible exact ih1 _ _ _ _ _ _ _) | (with_reducible exact ZC.mono _ _) | (with_reducible exact hm _ _) | (with_reducible exact LeO.refl _) | (with_reducible exact LeO.none _) | (with_reducible refine LeO.ite ?_ ?_) | (with_reducible refine LeO.bind ?_ (fun _ => ?_))
theorem Zj.calls (V : Nat → List Bool → Option Bool) (cf : FuncId) (cap : Array Value) (hF : HasFn cf) (hV : ∀ (k : Nat) (A : Option Addr) (c : Nat) (xs : List Bool) (r : Bool) (w : World), Kd.C Kd.bool w A xs.length xs → xs.length ≤ c → V k xs = some r → Calls Try.prog cf (#[.slice A xs.length c] ++ cap) w fun e w' => e = .returned (.bool r) ∧ Drawn0 w w') (k : Nat) (A0_0 : Option Addr) (c0_0 : Nat) (l0_0 : List (List Int)) (r1 : List Bool) (r2 : Int) (w : World) (hr0_0 : Kd.C (Kd.slice 2 (Kd.int .i64)) w A0_0 l0_0.length l0_0) (hc0_0 : l0_0.length ≤ c0_0) (h : Zj.f V k l0_0 = some (r1, r2)) :
 Calls Try.prog 44 #[.agg #[.slice A0_0 l0_0.length c0_0],.func (.func cf) #[] cap] w fun e w' => ∃ v0_ : Value,e = .returned (.tuple #[v0_,.int .i64 r2]) ∧ Kd.R Kd.bool 4 w' w.heap.size (fun _ => True) v0_ r1 ∧ Below w.heap.size w w' := by
 have HF := aK hF;have HV := aK hV;clear hF hV;have hu26 := Try.underlying26;have HR0_0 := aK hr0_0;have HC0_0 := aK hc0_0;clear hr0_0 hc0_0;have HB := aK (Below.refl w.heap.size w);have H := h;clear h;unfold Zj.f at H;replace H := bE H;obtain ⟨t399,A3,H⟩ := H;replace H := iB H;obtain ⟨rfl,H⟩|⟨rfl,H⟩ := H
 ·by_cases c5 : 0 ≤ (l0_0.length : Int)
  rotate_left
  ·rw [if_neg c5] at H;exact absurd H (by simp)
  rw [if_pos c5] at H;have c5b0 := eq_true c5;have c5b1 := decide_eq_true c5;clear c5
  by_cases c6 : ((l0_0.length : Int) : Int).toNat ≤ 281474976710656
  rotate_left
  ·rw [if_neg c6] at H;exact absurd H (by simp)
  rw [if_pos c6] at H;have c6b0 := eq_true c6;have c6b1 := decide_eq_true c6;clear c6;replace H := sE H;obtain ⟨y400,hy400,H⟩ := H;have Ny400 := aK hy400;clear hy400;have H' := aK H;clear H;go_enter Try.func44,Try.ntmps44
  go_wp2_with (first | ((with_reducible refine wP ?_);refine boxE 2 #[.slice A0_0 l0_0.length c0_0] 26 ?_;intro gb398 hg w7 hbox hb;have BK398 := aK (hbox);have GW398 := aK (zG HB hg);have GE398 := aK (zG HB hg);replace HB := hB HB hb;clear hb hbox hg;have hcz8_0 := z0 BK398;have hfz8_0 := fZ BK398 0) | ((with_reducible refine wP ?_);refine gT 12 Try.func47 (ZC.calls k _ _ l0_0 true _ (cB HR0_0 HB) HC0_0.out A3.out) ?_;intro w9 hb;replace BK398 := kB BK398 hb;replace HB := hB HB hb;clear hb;have hcz10_0 := z0 BK398;have hfz10_0 := fZ BK398 0) | ((with_reducible refine gate_dst (N := 17) rfl ?_);refine Kd.R_make Kd.bool _ 4 rfl (N := 17) rfl 33 _ _ rfl (l0_0.length : Int) rfl rfl Try.underlying33 (.bool false) 1 info4 rfl (by decide) (by omega) false (ok := fun _ => True) (okp := fun _ => True) rfl (fun _ hk => hk) trivial (of_decide_eq_true (by first | (with_reducible assumption) | assumption)) (Nat.le_trans (Nat.mul_le_mul_right _ (of_decide_eq_true (by first | (with_reducible assumption) | assumption) : (l0_0.length : Int).toNat ≤ 281474976710656)) (by omega)) (Below.refl _ _) (Nat.le_refl _) ?_;intro v401 w11 ho12 hb hg_ hnew_;clear hg_ hnew_;(first | rw [← Ny400.out] at ho12 | (simp only [Int.reduceToNat] at ho12;rw [← Ny400.out] at ho12));have HO402 := rl ho12 HB;replace BK398 := kB BK398 hb;replace HB := hB HB hb;clear hb ho12;obtain ⟨Ao13,co13,eo13⟩ := Kd.R_slice HO402.out;subst eo13))
  go_loopg [7] k (fun kq v7 w' => ∃ (x6_1 : List Bool) (x7_1 : Int),v7 = .int .i64 x7_1 ∧ Aside0 (Zj.l0 V kq x6_1 x7_1 l0_0 = some (r1,r2)) ∧ Aside0 (kq ≤ k) ∧ Aside0 (Kd.R Kd.bool 4 w' w.heap.size (fun _ => True) (.slice Ao13 y400.length co13) x6_1) ∧ Aside0 (w'.heap[gb398]? = some (.cells #[(.slice A0_0 l0_0.length c0_0)] 26 (0,0))) ∧ Aside0 (Below w.heap.size w w'))
  case atStart => exact ⟨(y400),(wrap64 ((y400.length : Int) - 1)),rD,H',⟨Nat.le_refl _⟩,⟨rN HO402⟩,⟨kN BK398⟩,⟨bN HB⟩⟩
  case round =>
   clear H';clear c5b0 c5b1 c6b0 c6b1 hcz10_0 hcz8_0 hfz10_0 hfz8_0;obtain ⟨x6_1,x7_1,rfl,HA,HK1,HO_6,BK398,HB⟩ := hrel;have hl6_1 := (Kd.R_reads' HO_6.out).1;rw [hl6_1] at HO_6;(try simp only [hl6_1]);(try simp only [hl6_1] at BK398)
   cases gk with
   | zero => exact absurd HA.out (by simp [Zj.l0])
   | succ k1 =>
    have H := HA.out;clear HA;simp only [Zj.l0] at H;replace H := iT H;obtain ⟨c14b0,H⟩|⟨c14b0,H⟩ := H
    ·obtain ⟨y403,hy403⟩ : ∃ y_ : List Bool,y_ = (([] : List Bool)) := ⟨_,rfl⟩;rw [← hy403] at H;have Ny403 := aK hy403;clear hy403;replace H := iP H;obtain ⟨c15b0,H⟩ := H;replace H := iP H;obtain ⟨c16b0,H⟩ := H;have H' := aK H;clear H
     go_wp2_with ((with_reducible refine wP ?_);first | (refine Kd.R_lit Kd.bool _ 4 ?hg (N := 25) ?hd (xs := ([] : List Bool)) (inner := []) (ok := fun _ => True) (okp := fun _ => True) ?hr ?hp (fun _ hk => hk) trivial (Below.refl _ _) (Nat.le_refl _) (by simp) ?_;(case hd => rfl);(case hg => rfl);(case hr => first | (go_simp;done) | (go_simp;rfl));(case hp => exact (Reps.none _ _));intro v404 w17 ho18 hb hg_ hnew_;clear hg_ hnew_;(first | rw [← Ny403.out] at ho18 | (simp only [Int.reduceToNat] at ho18;rw [← Ny403.out] at ho18));have HO405 := rl (rn ho18 HO_6) HB;replace HO_6 := rL HO_6 (rb ho18) hb;replace BK398 := kB BK398 hb;replace HB := hB HB hb;clear hb ho18;have hcz19_0 := z0 BK398;have hfz19_0 := fZ BK398 0;obtain ⟨ad406,A406_0,c406_0,rfl,-,hx406_0,HR406_0,HC406_0,p406,q406⟩ := aL HR0_0.out HB x7_1))
     go_loopg [8,32] k1 (fun kq v8 v32 w' => ∃ (x8_2 : List Bool) (x32_2 : Int),v32 = .int .i64 x32_2 ∧ Aside0 (Zj.l1 V kq x6_1 x7_1 x8_2 (rd_L2 l0_0 x7_1) ((rd_L2 l0_0 x7_1).length : Int) x32_2 l0_0 = some (r1,r2)) ∧ Aside0 (kq ≤ k1) ∧ Aside0 (Kd.R Kd.bool 4 w' w.heap.size (fun k_ => some k_ ≠ (v8 : Value).ownBlock) (.slice Ao13 x6_1.length co13) x6_1) ∧ Aside0 (Kd.R Kd.bool 4 w' w.heap.size (fun k_ => some k_ ≠ ((.slice Ao13 x6_1.length co13) : Value).ownBlock) v8 x8_2) ∧ Aside0 (w'.heap[gb398]? = some (.cells #[(.slice (some ad406) l0_0.length c0_0)] 26 (0,0))) ∧ Aside0 (Below w.heap.size w w'))
     case atStart => exact ⟨(y403),(0),rD,H',⟨Nat.le_refl _⟩,⟨by (try simp only [hl6_1]);(with_reducible repeat (first | apply Kd.R_alloc | apply Kd.R_drewN | apply Kd.R_drew));exact Kd.R_mono HO_6.out (fun _ hk => hk.2)⟩,⟨by (try simp only [hl6_1]);(with_reducible repeat (first | apply Kd.R_alloc | apply Kd.R_drewN | apply Kd.R_drew));exact Kd.R_mono HO405.out (fun _ hk => hk.2)⟩,⟨by (try simp only [hl6_1]);(with_reducible repeat (first | refine blk_drewN ?_ _ | refine blk_drew ?_ | refine blk_alloc ?_ _));exact BK398.out⟩,⟨bN HB⟩⟩
     case round =>
      clear H';clear c14b0 c15b0 c16b0 hcz19_0 hfz19_0 hx406_0 p406 q406;obtain ⟨x8_2,x32_2,rfl,HA,HK2,HO_6,HO_8,BK398,HB⟩ := hrel
      cases gk with
      | zero => exact absurd HA.out (by simp [Zj.l1])
      | succ k2 =>
       have H := HA.out;clear HA;simp only [Zj.l1] at H;replace H := iT H;obtain ⟨c20b0,H⟩|⟨c20b0,H⟩ := H
       ·replace H := iP H;obtain ⟨c21b0,H⟩ := H;replace H := iP H;obtain ⟨c22b0,H⟩ := H;replace H := iP H;obtain ⟨c23b0,H⟩ := H;replace H := iP H;obtain ⟨c24b0,H⟩ := H;replace H := iA H;obtain ⟨LMc25,H⟩ := H;obtain ⟨y409,hy409⟩ : ∃ y_ : List Bool,y_ = (x8_2 ++ [rdOf false x6_1 (rd (rd_L2 l0_0 x7_1) x32_2)]) := ⟨_,rfl⟩;rw [← hy409] at H;have Ny409 := aK hy409;clear hy409;have H' := aK H;clear H;obtain ⟨ad407,rfl,-,hx407_0,p407,q407⟩ := aI HR406_0.out HB x32_2;obtain ⟨ad408,rfl,hx408_0,p408,q408⟩ := aC (rr HO_6) (rd (rd_L2 l0_0 x7_1) x32_2)
        go_wp2_with (first | ((with_reducible refine gate_builtin (b := .append) (xs := #[.tmp 36,.tmp 41]) rfl ?_);at_builtin;refine Kd.R_append Kd.bool (w0 := w) w.heap.size rfl (.tmp 36) (.tmp 41) 33 4 (.bool false) 1 rfl Try.underlying33 info4 rfl (by decide) (by omega) u8 x8_2 (rdOf false x6_1 (rd (rd_L2 l0_0 x7_1) x32_2)) [.bool (rdOf false x6_1 (rd (rd_L2 l0_0 x7_1) x32_2))] (fun k_ => some k_ ≠ (.slice (some ad408) x6_1.length co13 : Value).ownBlock) (fun _ => False) rfl rfl ?aP (fun _ hk => hk.elim) ?aF ?aO ?aB ?aS ?aL ?_;(case aP => exact rfl);(case aB => exact (bN HB));(case aF => exact (fun k_ hk => Kd.fresh' (rt HO_6) k_ hk));(case aO => exact (rN HO_8));(case aS => exact (below_size (bN HB)));(case aL => have := LMc25.out;omega);intro v410 w26 ho hb hg hat;rw [← Ny409.out] at ho;replace HO_6 := aK (Kd.R_after (ok := (fun _ => True)) (rM (Kd.R_mono HO_6.out (fun _ hk => ⟨trivial,hk⟩))) hg hat);replace BK398 := aK (blk_grown (g := gb398) (o := .cells #[.slice (some ad406) l0_0.length c0_0] 26 (0,0)) (kN BK398) hg (Kd.R_ne HO_8.out BK398.out (by decide)));replace HB := aK (hb);have HO411 := aK (ho);clear HO_8;clear ho hb hg hat))
        go_roundg k2
        case measure => have := HK1.out;have := HK2.out;omega
        case rel => exact ⟨(y409),(wrap64 (x32_2 + 1)),rD,H',o2 HK1 HK2,⟨by (try simp only [hl6_1]);(with_reducible repeat (first | apply Kd.R_alloc | apply Kd.R_drewN | apply Kd.R_drew));exact Kd.R_mono HO_6.out (fun _ hk => hk.2)⟩,⟨by (try simp only [hl6_1]);(with_reducible repeat (first | apply Kd.R_alloc | apply Kd.R_drewN | apply Kd.R_drew));exact HO411.out⟩,⟨by (try simp only [hl6_1]);(with_reducible repeat (first | refine blk_drewN ?_ _ | refine blk_drew ?_ | refine blk_alloc ?_ _));exact BK398.out⟩,⟨bN HB⟩⟩
       ·replace H := bE H;obtain ⟨t412,A27,H⟩ := H;replace H := iP H;obtain ⟨c28b0,H⟩ := H;replace H := iP H;obtain ⟨c29b0,H⟩ := H;obtain ⟨y413,hy413⟩ : ∃ y_ : List Bool,y_ = (x6_1.set (x7_1 : Int).toNat t412) := ⟨_,rfl⟩;rw [← hy413] at H;have Ny413 := aK hy413;clear hy413;have H' := aK H;clear H;obtain ⟨Ao31,co31,eo31⟩ := Kd.R_slice HO_8.out;subst eo31
        go_wp2_with (first | ((with_reducible refine gate_dst (N := 48) rfl ?_);refine goesV_ (some 48) rfl rfl cf cap HF.out #[.slice Ao31 x8_2.length co31] rfl rfl (by (try simp only [List.map_toArray,List.map_cons,List.map_nil]);first | done | rfl | (simp only [List.length_drop,List.length_take];rfl)) ?_;(with_reducible refine (HV.out k2 _ _ x8_2 t412 _ ?side1 ?side2 A27.out).mono ?_);(case side1 => exact cR HO_8);(case side2 => exact (rq HO_8));rintro e w' ⟨rfl,⟨nd,rfl⟩⟩;refine ⟨_,rfl,?_⟩;(try (rw [drewN_self wr];generalize hq_ : World.drewN wr _ = wr;have n0_ : Aside0 (Kd.R Kd.bool 4 wr w.heap.size (fun k_ => some k_ ≠ (.slice Ao31 x8_2.length co31 : Value).ownBlock) (.slice Ao13 x6_1.length co13) x6_1) := ⟨by rw [← hq_];exact (rN HO_6)⟩;have n1_ : Aside0 (Kd.R Kd.bool 4 wr w.heap.size (fun k_ => some k_ ≠ (.slice Ao13 x6_1.length co13 : Value).ownBlock) (.slice Ao31 x8_2.length co31) x8_2) := ⟨by rw [← hq_];exact (rN HO_8)⟩;have n2_ : Aside0 (wr.heap[gb398]? = some (.cells #[.slice (some ad406) l0_0.length c0_0] 26 (0,0))) := ⟨by rw [← hq_];exact (kN BK398)⟩;have n3_ : Aside0 (Below w.heap.size w wr) := ⟨by rw [← hq_];exact (bN HB)⟩;clear HO_6 HO_8 BK398 HB hq_;have HO_6 := n0_;have HO_8 := n1_;have BK398 := n2_;have HB := n3_;clear n0_ n1_ n2_ n3_));have p30 : 0 ≤ (x7_1 : Int) := of_decide_eq_true (by first | (with_reducible assumption) | assumption);have q30 : (x7_1 : Int) < ((x6_1.length : Int) : Int) := of_decide_eq_true (by first | (with_reducible assumption) | assumption);obtain ⟨go30,co30,eo30,gb30,gl30,cl30,HG30⟩ := Kd.R_form HO_6.out (by omega);(first | cases eo30 | (injection eo30 with ea_ en_ ec_;(first | subst ea_ | (injection ea_ with ea_;subst ea_));subst ec_;clear en_));have GB30 := aK gb30;have GG30 := aK HG30;clear gb30 gl30 HG30;obtain ⟨hx30_0,hf30_0⟩ := Kd.R_celln false HO_6.out (x7_1 : Int) p30 q30;replace p30 := eq_true p30;replace q30 := eq_true q30;obtain ⟨hy32_,hz32_⟩ := Kd.R_celln false HO_6.out (x7_1 : Int) (of_decide_eq_true (by first | (with_reducible assumption) | assumption)) (of_decide_eq_true (by first | (with_reducible assumption) | assumption));have HP32 := Kd.R_putg HO_6.out (x7_1 : Int) t412) | ((with_reducible refine gate_store (t := 4) (p := 49) rfl ?_);refine store_event (t := 4) (p := 49) (v := ?vo_w33) (w1 := (wr.setCell ⟨go30,(x7_1 : Int).toNat,none⟩ (.bool t412))) ?hg ?ho ?hn ?hr ?_;(case ho => rfl);(case hg => rfl);(case hn => rfl);(case hr => first | (go_simp;done) | (go_simp;rfl));intro w33 hw;have hg : wr.grownBy w33 (some go30) := (by rw [hw];exact HP32.2);have hp_ : Kd.R Kd.bool 4 w33 w.heap.size (fun k_ => some k_ ≠ (.slice Ao31 x8_2.length co31 : Value).ownBlock) (.slice (some ⟨go30,0,none⟩) x6_1.length co13) y413 := (by rw [hw,Ny413.out];exact HP32.1);clear HP32;replace HO_8 := aK (Kd.R_after (v := (.slice (some ⟨go30,0,none⟩) x6_1.length co13)) (v1 := (.slice (some ⟨go30,0,none⟩) x6_1.length co13)) (ok := (fun _ => True)) (rM (Kd.R_mono HO_8.out (fun _ hk => ⟨trivial,hk⟩))) hg (.inl rfl));replace BK398 := aK (blk_grown (g := gb398) (o := .cells #[.slice (some ad406) l0_0.length c0_0] 26 (0,0)) (kN BK398) hg (Kd.R_ne HO_6.out BK398.out (by decide)));replace HO_6 := aK (hp_);replace HB := aK ((by rw [hw];exact below_set (HB.out) GB30.out : Below w.heap.size w w33));clear hg hw hp_))
        (try simp only [← hl6_1])
        go_roundg k2
        case measure => have := HK1.out;have := HK2.out;omega
        case rel => exact ⟨(y413),(wrap64 (x7_1 - 1)),rD,H',o2 HK1 HK2,⟨by (try simp only [hl6_1]);(with_reducible repeat (first | apply Kd.R_alloc | apply Kd.R_drewN | apply Kd.R_drew));exact Kd.R_mono HO_6.out (fun _ hk => trivial)⟩,⟨by (try simp only [hl6_1]);(with_reducible repeat (first | refine blk_drewN ?_ _ | refine blk_drew ?_ | refine blk_alloc ?_ _));exact BK398.out⟩,⟨bN HB⟩⟩
    ·simp only [Option.some.injEq,Prod.mk.injEq] at H;obtain ⟨rfl,rfl⟩ := H;go_wp2;go_ret2;exact ⟨_,eR ⟨by (with_reducible repeat (first | apply Kd.R_alloc | apply Kd.R_drewN | apply Kd.R_drew));exact HO_6.out,(bN HB)⟩⟩
 ·simp only [Option.some.injEq,Prod.mk.injEq] at H;obtain ⟨rfl,rfl⟩ := H;go_enter Try.func44,Try.ntmps44
  go_wp2_with ((with_reducible refine wP ?_);first | (refine boxE 2 #[.slice A0_0 l0_0.length c0_0] 26 ?_;intro gb398 hg w34 hbox hb;have BK398 := aK (hbox);have GW398 := aK (zG HB hg);have GE398 := aK (zG HB hg);replace HB := hB HB hb;clear hb hbox hg;have hcz35_0 := z0 BK398;have hfz35_0 := fZ BK398 0) | (refine gT 12 Try.func47 (ZC.calls k _ _ l0_0 false _ (cB HR0_0 HB) HC0_0.out A3.out) ?_;intro w36 hb;replace BK398 := kB BK398 hb;replace HB := hB HB hb;clear hb))
  go_ret2;exact ⟨_,eR ⟨by first | exact Kd.R_nil _ _ _ _ _ | exact Kd.N_nil _ _ _ _ _ | exact Kd.V_nil _ _ _ _ _ | exact Kd.Q_nil _ _ _ _ _ | exact Kd.S_nil _ _ _ _ _,(bN HB)⟩⟩
theorem ZS.has45 : HasFn 45 := ⟨_, Try.func45, by kernel_rfl, rfl⟩
theorem ZS.hv45 : ∀ (k : Nat) (A : Option Addr) (c : Nat) (xs : List Bool) (r : Bool) (w : World), Kd.C Kd.bool w A xs.length xs → xs.length ≤ c → Zaf.f k xs = some r → Calls Try.prog 45 (#[.slice A xs.length c] ++ #[]) w fun e w' => e = .returned (.bool r) ∧ Drawn0 w w' := by
 intro k A c xs r w hr hc h;rw [Array.append_empty]
 first
 | exact Zaf.calls k A c xs r w hr hc h
 | exact (Zaf.calls k A c xs r w hr hc h).mono (fun _ _ h_ => ⟨h_.1,h_.2.below⟩)
def ZS.f (k : Nat) (l0_0 : List (List Int)) : Option (List Bool × Int) := (Zj.f Zaf.f k l0_0).bind fun bt415 => (some (bt415.1, bt415.2))
theorem ZS.mono : ∀ a0 k, LeO (ZS.f k a0) (ZS.f (k + 1) a0) := by
 intro a0 k;unfold ZS.f
 repeat' first | (with_reducible exact Zj.mono Zaf.f Zaf.mono _ _) | (with_reducible exact LeO.refl _) | (with_reducible exact LeO.none _) | (with_reducible refine LeO.ite ?_ ?_) | (with_reducible refine LeO.bind ?_ (fun _ => ?_))
theorem ZS.calls (k : Nat) (A0_0 : Option Addr) (c0_0 : Nat) (l0_0 : List (List Int)) (r1 : List Bool) (r2 : Int) (w : World) (hr0_0 : Kd.C (Kd.slice 2 (Kd.int .i64)) w A0_0 l0_0.length l0_0) (hc0_0 : l0_0.length ≤ c0_0) (h : ZS.f k l0_0 = some (r1, r2)) :
 Calls Try.prog 13 #[.agg #[.slice A0_0 l0_0.length c0_0]] w fun e w' => ∃ v0_ : Value,e = .returned (.tuple #[v0_,.int .i64 r2]) ∧ Kd.R Kd.bool 4 w' w.heap.size (fun _ => True) v0_ r1 ∧ Below w.heap.size w w' := by
 have hu26 := Try.underlying26;have HR0_0 := aK hr0_0;have HC0_0 := aK hc0_0;clear hr0_0 hc0_0;have HB := aK (Below.refl w.heap.size w);have H := h;clear h;unfold ZS.f at H;replace H := bE H;obtain ⟨⟨t415,t418⟩,A2,H⟩ := H;dsimp only at H;simp only [Option.some.injEq,Prod.mk.injEq] at H;obtain ⟨rfl,rfl⟩ := H;go_enter Try.func13,Try.ntmps13
 go_wp2_with ((with_reducible refine wP ?_);first | (refine boxE 1 #[.slice A0_0 l0_0.length c0_0] 26 ?_;intro gb414 hg w3 hbox hb;have BK414 := aK (hbox);have GW414 := aK (zG HB hg);have GE414 := aK (zG HB hg);replace HB := hB HB hb;clear hb hbox hg;have hcz4_0 := z0 BK414;have hfz4_0 := fZ BK414 0) | (refine gS 5 Try.func44 (Zj.calls Zaf.f 45 #[] ZS.has45 ZS.hv45 k _ _ l0_0 t415 t418 _ (cB HR0_0 HB) HC0_0.out A2.out) ?_;rintro e w5 ⟨v416,rfl,ho0,hb⟩;refine ⟨_,rfl,?_⟩;have HO417 := rl ho0 HB;replace BK414 := kB BK414 hb;replace HB := hB HB hb;clear hb ho0))
 go_ret2;exact ⟨_,eR ⟨by (with_reducible repeat (first | apply Kd.R_alloc | apply Kd.R_drewN | apply Kd.R_drew));exact HO417.out,(bN HB)⟩⟩
def ZZ.l0 : Nat → List (S82) → Int → Int → Option (Int)
 | 0,_,_,_ => none
 | k + 1,x5,x6,x7 => if x7 < x6 then (if 0 ≤ x7 then (if x7 < (x5.length : Int) then (if ((rd_T82 x5 x7).f0 = true) then (ZZ.l0 k x5 x6 (wrap64 (x7 + 1))) else (some ((rd_T82 x5 x7).f1))) else (none)) else (none)) else (some 0)
def ZZ.f (k : Nat) (l0 : List (S82)) : Option (Int) := ZZ.l0 k l0 (l0.length : Int) 0
theorem ZZ.mono_l : ∀ k, (∀ y0 y1 y2, LeO (ZZ.l0 k y0 y1 y2) (ZZ.l0 (k + 1) y0 y1 y2))
 | 0 => fun _ _ _ r h => by simp [ZZ.l0] at h
 | k + 1 => by
  have ih0 := ZZ.mono_l k
  ·intro y0 y1 y2;unfold ZZ.l0;exact lO
theorem ZZ.mono : ∀ a0 k, LeO (ZZ.f k a0) (ZZ.f (k + 1) a0) := by
 intro a0 k;have ih0 := ZZ.mono_l k;unfold ZZ.f;exact lO
theorem ZZ.calls (k : Nat) (A0 : Option Addr) (c0 : Nat) (l0 : List (S82)) (r : Int) (w : World) (hr0 : Kd.C k82 w A0 l0.length l0) (hc0 : l0.length ≤ c0) (h : ZZ.f k l0 = some r) :
 Calls Try.prog 71 #[.slice A0 l0.length c0] w fun e w' => e = .returned (.int .i64 r) ∧ Below w.heap.size w w' := by
 have hu82 := Try.underlying82;have HR0 := aK hr0;have HC0 := aK hc0;clear hr0 hc0;have HB := aK (Below.refl w.heap.size w);have H := h;clear h;unfold ZZ.f at H;have H' := aK H;clear H;go_enter Try.func71,Try.ntmps71;go_wp2
 go_loopg [7] k (fun kq v7 w' => ∃ (x7_1 : Int),v7 = .int .i64 x7_1 ∧ Aside0 (ZZ.l0 kq l0 (l0.length : Int) x7_1 = some r) ∧ Aside0 (kq ≤ k) ∧ Aside0 (Below w.heap.size w w'))
 case atStart => exact ⟨(0),rD,H',⟨Nat.le_refl _⟩,⟨bN HB⟩⟩
 case round =>
  clear H';obtain ⟨x7_1,rfl,HA,HK1,HB⟩ := hrel
  cases gk with
  | zero => exact absurd HA.out (by simp [ZZ.l0])
  | succ k1 =>
   have H := HA.out;clear HA;simp only [ZZ.l0] at H;replace H := iT H;obtain ⟨c2b0,H⟩|⟨c2b0,H⟩ := H
   ·replace H := iP H;obtain ⟨c3b0,H⟩ := H;replace H := iP H;obtain ⟨c4b0,H⟩ := H;obtain ⟨bq5,hbq5⟩ : ∃ b_ : Bool,b_ = ((rd_T82 l0 x7_1).f0) := ⟨_,rfl⟩;rw [← hbq5] at H;have Nbq5 := aK hbq5;clear hbq5;replace H := iB H;obtain ⟨rfl,H⟩|⟨rfl,H⟩ := H
    ·have H' := aK H;clear H;have p419 : 0 ≤ (x7_1 : Int) := dT;have q419 : x7_1 < (l0.length : Int) := dT;obtain ⟨ad419,e419,hx419_0,hx419_1⟩ := at_T82 HR0.out x7_1 p419 q419;(try rw [← Nbq5.out] at hx419_0);cases e419;replace hx419_0 := cO HB hx419_0;replace hx419_1 := cO HB hx419_1;replace p419 := eq_true p419;replace q419 := eq_true q419
     go_wp2_with ((with_reducible refine wP ?_);first | (refine boxE 4 #[.bool false,.int .i64 0] 82 ?_;intro gb420 hg w7 hbox hb;have BK420 := aK (hbox);have GW420 := aK (zG HB hg);have GE420 := aK (zG HB hg);replace HB := hB HB hb;clear hb hbox hg;have hcz8_0 := y0 BK420;have hcz8_1 := y1 BK420;have hfz8_0 := fZ BK420 0;have hfz8_1 := fZ BK420 1))
     go_roundg k1
     case measure => have := HK1.out;omega
     case rel => exact ⟨(wrap64 (x7_1 + 1)),rD,H',o1 HK1,⟨bN HB⟩⟩
    ·obtain rfl := Option.some.inj H;have p419 : 0 ≤ (x7_1 : Int) := dT;have q419 : x7_1 < (l0.length : Int) := dT;obtain ⟨ad419,e419,hx419_0,hx419_1⟩ := at_T82 HR0.out x7_1 p419 q419;(try rw [← Nbq5.out] at hx419_0);cases e419;replace hx419_0 := cO HB hx419_0;replace hx419_1 := cO HB hx419_1;replace p419 := eq_true p419;replace q419 := eq_true q419
     go_wp2_with ((with_reducible refine wP ?_);first | (refine boxE 4 #[.bool false,.int .i64 0] 82 ?_;intro gb420 hg w9 hbox hb;have BK420 := aK (hbox);have GW420 := aK (zG HB hg);have GE420 := aK (zG HB hg);replace HB := hB HB hb;clear hb hbox hg;have hcz10_0 := y0 BK420;have hcz10_1 := y1 BK420;have hfz10_0 := fZ BK420 0;have hfz10_1 := fZ BK420 1))
     go_ret;exact eR (bN HB)
   ·obtain rfl := Option.some.inj H;go_wp2;go_ret;exact eR (bN HB)
def ZL.f (k : Nat) (l0_0 : List (List Int)) (a1 : Int) : Option (Int) := (ZC.f k l0_0).bind fun t422 => ((Zan.f l0_0).bind fun t423 => ((Zaa.f a1 0 (wrap64 (t423 - 1))).bind fun t424 => ((ZZ.f k (([(⟨t422, 1⟩ : S82), (⟨t424, 2⟩ : S82)] : List (S82)))).bind fun t428 => (some t428))))
theorem ZL.mono : ∀ a0 a1 k, LeO (ZL.f k a0 a1) (ZL.f (k + 1) a0 a1) := by
 intro a0 a1 k;unfold ZL.f;have m0 := ZC.mono;have m1 := ZZ.mono;exact lO
def ZL.T1 : Bool × List (List Nat × List Nat) := (true, [([], []), ([0], [0]), ([1], [1]), ([], []), ([], []), ([4], [4]), ([5, 1], [5]), ([6], [6]), ([3, 7, 6], [3, 7]), ([8], [8]), ([2, 9], [2, 9]), ([10, 8], [10]), ([11, 11, 0, 1, 2, 3, 4, 5, 6, 7, 8, 9, 10, 11], [11])])
def ZL.B1 : List Nat := [0, 1, 3, 0, 0, 16, 51, 115, 251, 507, 1023, 2047, 4095]
theorem ZL.tab1 : rtab .any (opsOf Try.f33 1) = ZL.T1 := by kernel_rfl
theorem ZL.bits1 : waitsOk ZL.T1.2 ZL.B1 = true := by kernel_rfl
theorem ZL.calls (k : Nat) (A0_0 : Option Addr) (c0_0 : Nat) (l0_0 : List (List Int)) (a1 : Int) (r : Int) (w : World) (hr0_0 : Kd.C (Kd.slice 2 (Kd.int .i64)) w A0_0 l0_0.length l0_0) (hc0_0 : l0_0.length ≤ c0_0) (h : ZL.f k l0_0 a1 = some r) :
 Calls Try.prog 33 #[.agg #[.slice A0_0 l0_0.length c0_0],.int .i64 a1] w fun e w' => e = .returned (.int .i64 r) ∧ Below w.heap.size w w' := by
 have hu26 := Try.underlying26;have hu82 := Try.underlying82;have HR0_0 := aK hr0_0;have HC0_0 := aK hc0_0;clear hr0_0 hc0_0;have HB := aK (Below.refl w.heap.size w);have H := h;clear h;unfold ZL.f at H;replace H := bE H;obtain ⟨t422,A3,H⟩ := H;replace H := bE H;obtain ⟨t423,A4,H⟩ := H;replace H := bE H;obtain ⟨t424,A5,H⟩ := H;obtain ⟨y425,hy425⟩ : ∃ y_ : List (S82),y_ = (([(⟨t422,1⟩ : S82),(⟨t424,2⟩ : S82)] : List (S82))) := ⟨_,rfl⟩;rw [← hy425] at H;have Ny425 := aK hy425;clear hy425;replace H := bE H;obtain ⟨t428,A6,H⟩ := H;obtain rfl := Option.some.inj H;go_enter Try.func33,Try.ntmps33
 try go_wp2_with ((with_reducible refine wP ?_);first | (refine boxE 2 #[.slice A0_0 l0_0.length c0_0] 26 ?_;intro gb421 hg w7 hbox hb;have BK421 := aK (hbox);have GW421 := aK (zG HB hg);have GE421 := aK (zG HB hg);replace HB := hB HB hb;clear hb hbox hg))
 replace BK421 := dK BK421;replace HB := dH HB;refine start_ (n := 13) (S := fun w' => w'.cell? ⟨gb421,0,none⟩ = some (.slice A0_0 l0_0.length c0_0)) (ds := []) #[false,false,false,false,false,false,false,false,false,false,false,false,false] (by kernel_rfl) rfl rfl ((blk_cell BK421.out 0).trans rfl) (fun hHeld => ?_);refine with_tabW ZL.tab1 ZL.bits1 (fun HT_ HW_ => ?_)
 generalize w7.drew = w8 at BK421 HB hHeld ⊢
 refine pT HT_ 3 (some 8) ?_;refine pT HT_ 4 (some 9) ?_;refine tT HT_ HW_ hHeld 0 (some 5) ?_;refine tT HT_ HW_ hHeld 5 (some 10) ?_;refine oT HT_ 1 (some 6) (fun K hK => ?_);refine gO Try.func47 #[.agg #[.slice A0_0 l0_0.length c0_0]] ?_
 with_reducible refine (ZC.calls k _ _ l0_0 t422 _ ?side1 ?side2 A3.out).mono ?_
 (case side1 => exact cB HR0_0 HB)
 (case side2 => exact HC0_0.out)
 rintro e w9 ⟨rfl,hb⟩;refine ⟨_,rfl,?_⟩;replace BK421 := kB BK421 hb;replace HB := hB HB hb;clear hb;refine hK.out _ _ ((blk_cell BK421.out 0).trans rfl) (fun hHeld => ?_);clear hK K;refine nT 6 ?_;refine pT HT_ 2 (some 7) ?_;refine oT HT_ 6 (some 11) (fun K hK => ?_);refine gO Try.func41 #[.slice A0_0 l0_0.length c0_0] ?_
 with_reducible refine (Zan.calls _ _ l0_0 t423 _ ?side1 ?side2 A4.out).mono ?_
 (case side1 => exact cB HR0_0 HB)
 (case side2 => exact HC0_0.out)
 rintro e w' ⟨rfl,⟨nd,rfl⟩⟩;refine ⟨_,rfl,?_⟩;refine hK.out _ _ ((blk_cell BK421.out 0).trans rfl) (fun hHeld => ?_);clear hK K;refine nT 11 ?_;refine pT HT_ 7 (some 12) ?_;refine oT HT_ 8 (some 13) (fun K hK => ?_);refine gO Try.func64 #[.int .i64 a1,.int .i64 0,.int .i64 (wrap64 (t423 - 1))] ?_
 with_reducible refine (Zaa.calls a1 0 (wrap64 (t423 - 1)) t424 _ A5.out).mono ?_
 rintro e w' ⟨rfl,⟨nd,rfl⟩⟩;refine ⟨_,rfl,?_⟩;refine hK.out _ _ ((blk_cell BK421.out 0).trans rfl) (fun hHeld => ?_);clear hK K;refine nT 13 ?_;refine pT HT_ 9 (some 14) ?_;refine oT HT_ 10 (some 15) (fun K hK => ?_);refine Kd.R_lit_step k82 _ 82 ?hg (N := 15) ?hd (xs := ([(⟨t422,1⟩ : S82),(⟨t424,2⟩ : S82)] : List (S82))) (inner := [.bool t422,.int .i64 1,.bool t424,.int .i64 2]) (ok := fun _ => True) (okp := fun _ => True) ?hr ?hp (fun _ hk => hk) trivial (Below.refl _ _) (Nat.le_refl _) (by simp) ?_;(case hd => rfl);(case hg => rfl);(case hr => first | (go_simp;done) | (go_simp;rfl));(case hp => exact (Reps.c2 (show Kd.M k82 _ _ _ (⟨t422,1⟩ : S82) [.bool t422,.int .i64 1] from (k82_mkM _ _ _ (⟨t422,1⟩ : S82) )) (Reps.c2 (show Kd.M k82 _ _ _ (⟨t424,2⟩ : S82) [.bool t424,.int .i64 2] from (k82_mkM _ _ _ (⟨t424,2⟩ : S82) )) (Reps.none _ _))));intro v426 w10 ho11 hb hg_ hnew_;clear hg_ hnew_;(first | rw [← Ny425.out] at ho11 | (simp only [Int.reduceToNat] at ho11;rw [← Ny425.out] at ho11));have HO427 := rl ho11 HB;replace BK421 := kB BK421 hb;replace HB := hB HB hb;clear hb ho11;obtain ⟨Ao12,co12,eo12⟩ := Kd.R_slice HO427.out;(first | subst eo12 | (injection eo12 with f1_ f2_ f3_;have f4_ := f1_.symm;have f5_ := f3_.symm;clear f1_ f2_ f3_;subst f4_;subst f5_));refine hK.out _ _ ((blk_cell BK421.out 0).trans rfl) (fun hHeld => ?_);clear hK K;refine nT 15 ?_;refine oT HT_ 11 (some 16) (fun K hK => ?_);refine gO Try.func71 #[.slice Ao12 y425.length co12] ?_
 with_reducible refine (ZZ.calls k _ _ y425 t428 _ ?side1 ?side2 A6.out).mono ?_
 (case side1 => exact cR HO427)
 (case side2 => exact (rq HO427))
 rintro e w13 ⟨rfl,hb⟩;refine ⟨_,rfl,?_⟩;replace HO427 := rB HO427 hb;replace BK421 := kB BK421 hb;replace HB := hB HB hb;clear hb;refine hK.out _ _ ((blk_cell BK421.out 0).trans rfl) (fun hHeld => ?_);clear hK K;refine nT 16 ?_;refine pT HT_ 12 (some 4) ?_;refine done_ (done_of HT_.out (by kernel_rfl)) ?_
 try go_wp2
 go_ret;exact eR (bN HB)
def Zac.f (a0 : Int) (a1 : Int) (a2 : Int) : Option (Bool) := if a0 ≥ a1 then (some (decide (a0 ≤ a2))) else (some false)
theorem Zac.calls (a0 : Int) (a1 : Int) (a2 : Int) (r : Bool) (w : World) (h : Zac.f a0 a1 a2 = some r) :
 Calls Try.prog 66 #[.int .i64 a0,.int .i64 a1,.int .i64 a2] w fun e w' => e = .returned (.bool r) ∧ Drawn0 w w' := by
 have H := h;clear h;unfold Zac.f at H;replace H := iT H;obtain ⟨c4b0,H⟩|⟨c4b0,H⟩ := H
 ·obtain rfl := Option.some.inj H;go_enter Try.func66,Try.ntmps66;go_wp2;go_ret;exact ⟨rD,dD⟩
 ·obtain rfl := Option.some.inj H;go_enter Try.func66,Try.ntmps66;go_wp2;go_ret;exact ⟨rD,dD⟩
def Ivl (lo hi : Nat) : Nat → Prop := fun k => lo ≤ k ∧ k < hi
theorem R_ivl {α : Type} {d : Kd α} {e b : Nat} {W W' : World} {ok : Nat → Prop} {v : Value} {xs : List α} (h : Kd.R d e W' W.heap.size ok v xs) (hb : b ≤ W.heap.size) : Kd.R d e W' b (Ivl W.heap.size W'.heap.size) v xs :=
 Kd.R_lower (Kd.R_mono (Kd.R_bound h) (fun _ hk => ⟨hk.2.1,hk.2.2.1⟩)) hb
theorem S_ivl {α : Type} {d : Kd α} {e b : Nat} {W W' : World} {ok : Nat → Prop} {v : Value} {xs : List α} (h : Kd.S d e W' W.heap.size ok v xs) (hb : b ≤ W.heap.size) : Kd.S d e W' b (Ivl W.heap.size W'.heap.size) v xs :=
 Kd.S_lower (Kd.S_mono (Kd.S_bound h) (fun _ hk => ⟨hk.2.1,hk.2.2.1⟩)) hb
theorem N_ivl {α : Type} {d : Kd α} {e b : Nat} {W W' : World} {v : Value} {xs : List α} (h : Kd.N d e W' W.heap.size (fun k => W.heap.size ≤ k) v xs) (hb : b ≤ W.heap.size) : Kd.N d e W' b (Ivl W.heap.size W'.heap.size) v xs :=
 Kd.N_lower (Kd.N_mono (Kd.N_bound h) (fun _ hk => ⟨hk.1,hk.2⟩)) hb
theorem V_ivl {α : Type} {d : Kd α} {e b : Nat} {W W' : World} {v : Value} {xs : List α} (h : Kd.V d e W' W.heap.size (fun k => W.heap.size ≤ k) v xs) (_ : b ≤ W.heap.size) : Kd.V d e W' b (Ivl W.heap.size W'.heap.size) v xs :=
 Kd.V_mono (Kd.V_bound h) (fun _ hk => ⟨hk.1,hk.2⟩)
theorem calls_below {P : Program} {f : FuncId} {args : Array Value} {w : World} {x : Ending} (h : Calls P f args w fun e w' => e = x ∧ Drawn0 w w') : Calls P f args w fun e w' => e = x ∧ Below w.heap.size w w' :=
 h.mono fun _ _ h => ⟨h.1,h.2.below⟩
theorem calls_args {P : Program} {f : FuncId} {xs ys : Array Value} {w : World} {K : Ending → World → Prop} (h : xs = ys) (H : Calls P f ys w K) : Calls P f xs w K := h ▸ H
mutual
def Zp.l0 : Nat → Int → Int → List (List Int) → Option (Bool)
 | 0,_,_,_ => none
 | k + 1,x3,x4,xqq => if x4 < x3 then (Zp.l1 k x3 x4 x4 0 xqq) else (some true)
def Zp.l1 : Nat → Int → Int → Int → Int → List (List Int) → Option (Bool)
 | 0,_,_,_,_,_ => none
 | k + 1,x3,x4,x5,x6,xqq => if 0 ≤ x4 then (if x4 < (xqq.length : Int) then (if x6 < ((rd_L2 xqq x4).length : Int) then (if 0 ≤ x6 then (if (rd (rd_L2 xqq x4) x6) ≤ x5 then (some false) else (if (rd (rd_L2 xqq x4) x6) ≥ x3 then (some false) else (Zp.l1 k x3 x4 (rd (rd_L2 xqq x4) x6) (wrap64 (x6 + 1)) xqq))) else (none)) else (Zp.l0 k x3 (wrap64 (x4 + 1)) xqq)) else (none)) else (none)
end
def Zp.f (k : Nat) (l0_0 : List (List Int)) : Option (Bool) := (Zq.f l0_0).bind fun t430 => ((Zac.f t430 1 40).bind fun t431 => (if t431 = true then (Zp.l0 k t430 0 l0_0) else (some false)))
theorem Zp.mono_l : ∀ k, (∀ y0 y1 y2, LeO (Zp.l0 k y0 y1 y2) (Zp.l0 (k + 1) y0 y1 y2)) ∧ (∀ y0 y1 y2 y3 y4, LeO (Zp.l1 k y0 y1 y2 y3 y4) (Zp.l1 (k + 1) y0 y1 y2 y3 y4))
 | 0 => ⟨fun _ _ _ r h => by simp [Zp.l0] at h,fun _ _ _ _ _ r h => by simp [Zp.l1] at h⟩
 | k + 1 => by
  obtain ⟨ih0,ih1⟩ := Zp.mono_l k;refine ⟨?_,?_⟩ <;> (intros;first | unfold Zp.l0 | unfold Zp.l1)
  all_goals exact lO
theorem Zp.mono : ∀ a0 k, LeO (Zp.f k a0) (Zp.f (k + 1) a0) := by
 intro a0 k;obtain ⟨ih0,ih1⟩ := Zp.mono_l k;unfold Zp.f;exact lO
theorem Zp.calls (k : Nat) (A0_0 : Option Addr) (c0_0 : Nat) (l0_0 : List (List Int)) (r : Bool) (w : World) (hr0_0 : Kd.C (Kd.slice 2 (Kd.int .i64)) w A0_0 l0_0.length l0_0) (hc0_0 : l0_0.length ≤ c0_0) (h : Zp.f k l0_0 = some r) :
 Calls Try.prog 58 #[.agg #[.slice A0_0 l0_0.length c0_0]] w fun e w' => e = .returned (.bool r) ∧ Below w.heap.size w w' := by
 have hu26 := Try.underlying26;have HR0_0 := aK hr0_0;have HC0_0 := aK hc0_0;clear hr0_0 hc0_0;have HB := aK (Below.refl w.heap.size w);have H := h;clear h;unfold Zp.f at H;replace H := bE H;obtain ⟨t430,A2,H⟩ := H;replace H := bE H;obtain ⟨t431,A3,H⟩ := H;replace H := iB H;obtain ⟨rfl,H⟩|⟨rfl,H⟩ := H
 ·have H' := aK H;clear H;go_enter Try.func58,Try.ntmps58
  go_wp2_with ((with_reducible refine wP ?_);first | (refine boxE 1 #[.slice A0_0 l0_0.length c0_0] 26 ?_;intro gb429 hg w5 hbox hb;have BK429 := aK (hbox);have GW429 := aK (zG HB hg);have GE429 := aK (zG HB hg);replace HB := hB HB hb;clear hb hbox hg;have hcz6_0 := z0 BK429;have hfz6_0 := fZ BK429 0) | (refine gT 8 Try.func43 (Zq.calls _ _ l0_0 t430 _ (cB HR0_0 HB) HC0_0.out A2.out) ?_;intro w7 hb;replace BK429 := kB BK429 hb;replace HB := hB HB hb;clear hb) | (refine gT 10 Try.func66 (Zac.calls t430 1 40 true _ A3.out) ?_;rintro w' ⟨nd,rfl⟩))
  go_loopg [4] k (fun kq v4 w' => ∃ (x4_1 : Int),v4 = .int .i64 x4_1 ∧ Aside0 (Zp.l0 kq t430 x4_1 l0_0 = some r) ∧ Aside0 (kq ≤ k) ∧ Aside0 (w'.heap[gb429]? = some (.cells #[(.slice A0_0 l0_0.length c0_0)] 26 (0,0))) ∧ Aside0 (Below w.heap.size w w'))
  case atStart => exact ⟨(0),rD,H',⟨Nat.le_refl _⟩,⟨kN BK429⟩,⟨bN HB⟩⟩
  case round =>
   clear H';clear hcz6_0 hfz6_0;obtain ⟨x4_1,rfl,HA,HK1,BK429,HB⟩ := hrel
   cases gk with
   | zero => exact absurd HA.out (by simp [Zp.l0])
   | succ k1 =>
    have H := HA.out;clear HA;simp only [Zp.l0] at H;replace H := iT H;obtain ⟨c8b0,H⟩|⟨c8b0,H⟩ := H
    ·have H' := aK H;clear H;go_wp2
     go_loopg [5,6] k1 (fun kq v5 v6 w' => ∃ (x5_2 : Int) (x6_2 : Int),v5 = .int .i64 x5_2 ∧ v6 = .int .i64 x6_2 ∧ Aside0 (Zp.l1 kq t430 x4_1 x5_2 x6_2 l0_0 = some r) ∧ Aside0 (kq ≤ k1) ∧ Aside0 (w'.heap[gb429]? = some (.cells #[(.slice A0_0 l0_0.length c0_0)] 26 (0,0))) ∧ Aside0 (Below w.heap.size w w'))
     case atStart => exact ⟨(x4_1),(0),rD,rD,H',⟨Nat.le_refl _⟩,⟨kN BK429⟩,⟨bN HB⟩⟩
     case round =>
      clear H';clear c8b0;obtain ⟨x5_2,x6_2,rfl,rfl,HA,HK2,BK429,HB⟩ := hrel
      cases gk with
      | zero => exact absurd HA.out (by simp [Zp.l1])
      | succ k2 =>
       have H := HA.out;clear HA;simp only [Zp.l1] at H;replace H := iP H;obtain ⟨c9b0,H⟩ := H;replace H := iP H;obtain ⟨c10b0,H⟩ := H;replace H := iT H;obtain ⟨c11b0,H⟩|⟨c11b0,H⟩ := H
       ·replace H := iP H;obtain ⟨c12b0,H⟩ := H;replace H := iT H;obtain ⟨c13b0,H⟩|⟨c13b0,H⟩ := H
        ·obtain rfl := Option.some.inj H;have hcz14_0 := z0 BK429;have hfz14_0 := fZ BK429 0;obtain ⟨ad432,A432_0,c432_0,e432,-,hx432_0,HR432_0,HC432_0,p432,q432⟩ := aL HR0_0.out HB x4_1;cases e432;obtain ⟨ad433,A433_0,c433_0,e433,-,hx433_0,HR433_0,HC433_0,p433,q433⟩ := aL HR0_0.out HB x4_1;obtain rfl := iJ e433;have ea_ := Option.some.inj (hx432_0.symm.trans hx433_0);injection ea_ with ea_ en_ ec_
         subst ea_;subst ec_;clear en_;obtain ⟨ad434,e434,-,hx434_0,p434,q434⟩ := aI HR433_0.out HB x6_2;cases e434;go_wp2;go_ret;exact eR (bN HB)
        ·replace H := iT H;obtain ⟨c15b0,H⟩|⟨c15b0,H⟩ := H
         ·obtain rfl := Option.some.inj H;have hcz16_0 := z0 BK429;have hfz16_0 := fZ BK429 0;obtain ⟨ad432,A432_0,c432_0,e432,-,hx432_0,HR432_0,HC432_0,p432,q432⟩ := aL HR0_0.out HB x4_1;cases e432;obtain ⟨ad433,A433_0,c433_0,e433,-,hx433_0,HR433_0,HC433_0,p433,q433⟩ := aL HR0_0.out HB x4_1;obtain rfl := iJ e433;have ea_ := Option.some.inj (hx432_0.symm.trans hx433_0);injection ea_ with ea_ en_ ec_
          subst ea_;subst ec_;clear en_;obtain ⟨ad434,e434,-,hx434_0,p434,q434⟩ := aI HR433_0.out HB x6_2;cases e434;obtain ⟨ad435,A435_0,c435_0,e435,-,hx435_0,HR435_0,HC435_0,p435,q435⟩ := aL HR0_0.out HB x4_1;obtain rfl := iJ e435;have ea_ := Option.some.inj (hx432_0.symm.trans hx435_0);injection ea_ with ea_ en_ ec_
          subst ea_;subst ec_;clear en_;obtain ⟨ad436,e436,-,hx436_0,p436,q436⟩ := aI HR435_0.out HB x6_2;cases e436;go_wp2;go_ret;exact eR (bN HB)
         ·have H' := aK H;clear H;have hcz17_0 := z0 BK429;have hfz17_0 := fZ BK429 0;obtain ⟨ad432,A432_0,c432_0,e432,-,hx432_0,HR432_0,HC432_0,p432,q432⟩ := aL HR0_0.out HB x4_1;cases e432;obtain ⟨ad433,A433_0,c433_0,e433,-,hx433_0,HR433_0,HC433_0,p433,q433⟩ := aL HR0_0.out HB x4_1;obtain rfl := iJ e433;have ea_ := Option.some.inj (hx432_0.symm.trans hx433_0);injection ea_ with ea_ en_ ec_
          subst ea_;subst ec_;clear en_;obtain ⟨ad434,e434,-,hx434_0,p434,q434⟩ := aI HR433_0.out HB x6_2;cases e434;obtain ⟨ad435,A435_0,c435_0,e435,-,hx435_0,HR435_0,HC435_0,p435,q435⟩ := aL HR0_0.out HB x4_1;obtain rfl := iJ e435;have ea_ := Option.some.inj (hx432_0.symm.trans hx435_0);injection ea_ with ea_ en_ ec_
          subst ea_;subst ec_;clear en_;obtain ⟨ad436,e436,-,hx436_0,p436,q436⟩ := aI HR435_0.out HB x6_2;cases e436;obtain ⟨ad437,A437_0,c437_0,e437,-,hx437_0,HR437_0,HC437_0,p437,q437⟩ := aL HR0_0.out HB x4_1;obtain rfl := iJ e437;have ea_ := Option.some.inj (hx432_0.symm.trans hx437_0);injection ea_ with ea_ en_ ec_
          subst ea_;subst ec_;clear en_;obtain ⟨ad438,e438,-,hx438_0,p438,q438⟩ := aI HR437_0.out HB x6_2;cases e438;go_wp2
          go_roundg k2
          case measure => have := HK1.out;have := HK2.out;omega
          case rel => exact ⟨(rd (rd_L2 l0_0 x4_1) x6_2),(wrap64 (x6_2 + 1)),rD,rD,H',o2 HK1 HK2,⟨kN BK429⟩,⟨bN HB⟩⟩
       ·have H' := aK H;clear H;have hcz18_0 := z0 BK429;have hfz18_0 := fZ BK429 0;obtain ⟨ad432,A432_0,c432_0,e432,-,hx432_0,HR432_0,HC432_0,p432,q432⟩ := aL HR0_0.out HB x4_1;cases e432;go_wp2
        go_roundg k2
        case measure => have := HK1.out;have := HK2.out;omega
        case rel => exact ⟨(wrap64 (x4_1 + 1)),rD,H',o2 HK1 HK2,⟨kN BK429⟩,⟨bN HB⟩⟩
    ·obtain rfl := Option.some.inj H;go_wp2;go_ret;exact eR (bN HB)
 ·obtain rfl := Option.some.inj H;go_enter Try.func58,Try.ntmps58
  go_wp2_with ((with_reducible refine wP ?_);first | (refine boxE 1 #[.slice A0_0 l0_0.length c0_0] 26 ?_;intro gb429 hg w19 hbox hb;have BK429 := aK (hbox);have GW429 := aK (zG HB hg);have GE429 := aK (zG HB hg);replace HB := hB HB hb;clear hb hbox hg;have hcz20_0 := z0 BK429;have hfz20_0 := fZ BK429 0) | (refine gT 8 Try.func43 (Zq.calls _ _ l0_0 t430 _ (cB HR0_0 HB) HC0_0.out A2.out) ?_;intro w21 hb;replace BK429 := kB BK429 hb;replace HB := hB HB hb;clear hb) | (refine gT 10 Try.func66 (Zac.calls t430 1 40 false _ A3.out) ?_;rintro w' ⟨nd,rfl⟩))
  go_ret;exact eR (bN HB)
def ZX.f (k : Nat) (l0_0 : List (List Int)) (a1 : Int) : Option (Int) := (Zp.f k l0_0).bind fun t440 => (if t440 = true then ((Zq.f l0_0).bind fun t441 => ((Zac.f a1 0 (wrap64 (t441 - 1))).bind fun t442 => (if t442 = true then (some 0) else (some 2)))) else (some 1))
theorem ZX.mono : ∀ a0 a1 k, LeO (ZX.f k a0 a1) (ZX.f (k + 1) a0 a1) := by
 intro a0 a1 k;unfold ZX.f;have m0 := Zp.mono;exact lO
theorem ZX.calls (k : Nat) (A0_0 : Option Addr) (c0_0 : Nat) (l0_0 : List (List Int)) (a1 : Int) (r : Int) (w : World) (hr0_0 : Kd.C (Kd.slice 2 (Kd.int .i64)) w A0_0 l0_0.length l0_0) (hc0_0 : l0_0.length ≤ c0_0) (h : ZX.f k l0_0 a1 = some r) :
 Calls Try.prog 34 #[.agg #[.slice A0_0 l0_0.length c0_0],.int .i64 a1] w fun e w' => e = .returned (.int .i64 r) ∧ Below w.heap.size w w' := by
 have hu26 := Try.underlying26;have HR0_0 := aK hr0_0;have HC0_0 := aK hc0_0;clear hr0_0 hc0_0;have HB := aK (Below.refl w.heap.size w);have H := h;clear h;unfold ZX.f at H;replace H := bE H;obtain ⟨t440,A3,H⟩ := H;replace H := iB H;obtain ⟨rfl,H⟩|⟨rfl,H⟩ := H
 ·replace H := bE H;obtain ⟨t441,A5,H⟩ := H;replace H := bE H;obtain ⟨t442,A6,H⟩ := H;replace H := iB H;obtain ⟨rfl,H⟩|⟨rfl,H⟩ := H
  ·obtain rfl := Option.some.inj H;go_enter Try.func34,Try.ntmps34
   go_wp2_with ((with_reducible refine wP ?_);first | (refine boxE 2 #[.slice A0_0 l0_0.length c0_0] 26 ?_;intro gb439 hg w8 hbox hb;have BK439 := aK (hbox);have GW439 := aK (zG HB hg);have GE439 := aK (zG HB hg);replace HB := hB HB hb;clear hb hbox hg;have hcz9_0 := z0 BK439;have hfz9_0 := fZ BK439 0) | (refine gT 7 Try.func58 (Zp.calls k _ _ l0_0 true _ (cB HR0_0 HB) HC0_0.out A3.out) ?_;intro w10 hb;replace BK439 := kB BK439 hb;replace HB := hB HB hb;clear hb;have hcz11_0 := z0 BK439;have hfz11_0 := fZ BK439 0) | (refine gT 12 Try.func43 (Zq.calls _ _ l0_0 t441 _ (cB HR0_0 HB) HC0_0.out A5.out) ?_;intro w12 hb;replace BK439 := kB BK439 hb;replace HB := hB HB hb;clear hb) | (refine gT 14 Try.func66 (Zac.calls a1 0 (wrap64 (t441 - 1)) true _ A6.out) ?_;rintro w' ⟨nd,rfl⟩))
   go_ret;exact eR (bN HB)
  ·obtain rfl := Option.some.inj H;go_enter Try.func34,Try.ntmps34
   go_wp2_with ((with_reducible refine wP ?_);first | (refine boxE 2 #[.slice A0_0 l0_0.length c0_0] 26 ?_;intro gb439 hg w13 hbox hb;have BK439 := aK (hbox);have GW439 := aK (zG HB hg);have GE439 := aK (zG HB hg);replace HB := hB HB hb;clear hb hbox hg;have hcz14_0 := z0 BK439;have hfz14_0 := fZ BK439 0) | (refine gT 7 Try.func58 (Zp.calls k _ _ l0_0 true _ (cB HR0_0 HB) HC0_0.out A3.out) ?_;intro w15 hb;replace BK439 := kB BK439 hb;replace HB := hB HB hb;clear hb;have hcz16_0 := z0 BK439;have hfz16_0 := fZ BK439 0) | (refine gT 12 Try.func43 (Zq.calls _ _ l0_0 t441 _ (cB HR0_0 HB) HC0_0.out A5.out) ?_;intro w17 hb;replace BK439 := kB BK439 hb;replace HB := hB HB hb;clear hb) | (refine gT 14 Try.func66 (Zac.calls a1 0 (wrap64 (t441 - 1)) false _ A6.out) ?_;rintro w' ⟨nd,rfl⟩))
   go_ret;exact eR (bN HB)
 ·obtain rfl := Option.some.inj H;go_enter Try.func34,Try.ntmps34
  go_wp2_with ((with_reducible refine wP ?_);first | (refine boxE 2 #[.slice A0_0 l0_0.length c0_0] 26 ?_;intro gb439 hg w18 hbox hb;have BK439 := aK (hbox);have GW439 := aK (zG HB hg);have GE439 := aK (zG HB hg);replace HB := hB HB hb;clear hb hbox hg;have hcz19_0 := z0 BK439;have hfz19_0 := fZ BK439 0) | (refine gT 7 Try.func58 (Zp.calls k _ _ l0_0 false _ (cB HR0_0 HB) HC0_0.out A3.out) ?_;intro w20 hb;replace BK439 := kB BK439 hb;replace HB := hB HB hb;clear hb))
  go_ret;exact eR (bN HB)
mutual
def Zt.l0 : Nat → Bool → List Bool → Int → List (List Int) → Option (List Bool)
 | 0,_,_,_,_ => none
 | k + 1,x1,x5,x6,xqi => if x6 ≥ 0 then (if x1 = true then (if 0 ≤ x6 then (if x6 < (xqi.length : Int) then (if x6 < (x5.length : Int) then (Zt.j1 k x1 (x5.set (x6 : Int).toNat (((rd_L2 xqi x6).length : Int) == 0)) x6 xqi) else (none)) else (none)) else (none)) else (if 0 ≤ x6 then (if x6 < (x5.length : Int) then (Zt.j1 k x1 (x5.set (x6 : Int).toNat false) x6 xqi) else (none)) else (none))) else (some x5)
def Zt.j1 : Nat → Bool → List Bool → Int → List (List Int) → Option (List Bool)
 | 0,_,_,_,_ => none
 | k + 1,x1,x5,x6,xqi => Zt.l1 k x1 x5 x6 0 xqi
def Zt.l1 : Nat → Bool → List Bool → Int → Int → List (List Int) → Option (List Bool)
 | 0,_,_,_,_,_ => none
 | k + 1,x1,x5,x6,x7,xqi => if 0 ≤ x6 then (if x6 < (xqi.length : Int) then (if x7 < ((rd_L2 xqi x6).length : Int) then (if x6 < (x5.length : Int) then (if rdOf false x5 x6 = true then (Zt.l1 k x1 (x5.set (x6 : Int).toNat true) x6 (wrap64 (x7 + 1)) xqi) else (if 0 ≤ x7 then (if 0 ≤ (rd (rd_L2 xqi x6) x7) then (if (rd (rd_L2 xqi x6) x7) < (x5.length : Int) then (Zt.l1 k x1 (x5.set (x6 : Int).toNat (!(rdOf false x5 (rd (rd_L2 xqi x6) x7)))) x6 (wrap64 (x7 + 1)) xqi) else (none)) else (none)) else (none))) else (none)) else (Zt.l0 k x1 x5 (wrap64 (x6 - 1)) xqi)) else (none)) else (none)
end
def Zt.f (k : Nat) (l0_0 : List (List Int)) (a1 : Bool) : Option (List Bool) := (Zq.f l0_0).bind fun t444 => (if 0 ≤ t444 then (if (t444 : Int).toNat ≤ 281474976710656 then ((Zq.f l0_0).bind fun t448 => (Zt.l0 k a1 (List.replicate (t444 : Int).toNat false) (wrap64 (t448 - 1)) l0_0)) else (none)) else (none))
theorem Zt.mono_l : ∀ k, (∀ y0 y1 y2 y3, LeO (Zt.l0 k y0 y1 y2 y3) (Zt.l0 (k + 1) y0 y1 y2 y3)) ∧ (∀ y0 y1 y2 y3, LeO (Zt.j1 k y0 y1 y2 y3) (Zt.j1 (k + 1) y0 y1 y2 y3)) ∧ (∀ y0 y1 y2 y3 y4, LeO (Zt.l1 k y0 y1 y2 y3 y4) (Zt.l1 (k + 1) y0 y1 y2 y3 y4))
 | 0 => ⟨fun _ _ _ _ r h => by simp [Zt.l0] at h,fun _ _ _ _ r h => by simp [Zt.j1] at h,fun _ _ _ _ _ r h => by simp [Zt.l1] at h⟩
 | k + 1 => by
  obtain ⟨ih0,ih1,ih2⟩ := Zt.mono_l k;refine ⟨?_,?_,?_⟩ <;> (intros;first | unfold Zt.l0 | unfold Zt.j1 | unfold Zt.l1)
  all_goals exact lO
theorem Zt.mono : ∀ a0 a1 k, LeO (Zt.f k a0 a1) (Zt.f (k + 1) a0 a1) := by
 intro a0 a1 k;obtain ⟨ih0,ih1,ih2⟩ := Zt.mono_l k;unfold Zt.f;exact lO
theorem Zt.calls (k : Nat) (A0_0 : Option Addr) (c0_0 : Nat) (l0_0 : List (List Int)) (a1 : Bool) (r : List Bool) (w : World) (hr0_0 : Kd.C (Kd.slice 2 (Kd.int .i64)) w A0_0 l0_0.length l0_0) (hc0_0 : l0_0.length ≤ c0_0) (h : Zt.f k l0_0 a1 = some r) :
 Calls Try.prog 35 #[.agg #[.slice A0_0 l0_0.length c0_0],.bool a1] w fun e w' => ∃ v0_ : Value,e = .returned (v0_) ∧ Kd.R Kd.bool 4 w' w.heap.size (fun _ => True) v0_ r ∧ Below w.heap.size w w' := by
 have hu26 := Try.underlying26;have HR0_0 := aK hr0_0;have HC0_0 := aK hc0_0;clear hr0_0 hc0_0;have HB := aK (Below.refl w.heap.size w);have H := h;clear h;unfold Zt.f at H;replace H := bE H;obtain ⟨t444,A3,H⟩ := H
 by_cases c4 : 0 ≤ t444
 rotate_left
 ·rw [if_neg c4] at H;exact absurd H (by simp)
 rw [if_pos c4] at H;have c4b0 := eq_true c4;have c4b1 := decide_eq_true c4;clear c4
 by_cases c5 : (t444 : Int).toNat ≤ 281474976710656
 rotate_left
 ·rw [if_neg c5] at H;exact absurd H (by simp)
 rw [if_pos c5] at H;have c5b0 := eq_true c5;have c5b1 := decide_eq_true c5;clear c5;obtain ⟨y445,hy445⟩ : ∃ y_ : List Bool,y_ = (List.replicate (t444 : Int).toNat false) := ⟨_,rfl⟩;rw [← hy445] at H;have Ny445 := aK hy445;clear hy445;replace H := bE H;obtain ⟨t448,A6,H⟩ := H;have H' := aK H;clear H;go_enter Try.func35,Try.ntmps35
 go_wp2_with (first | ((with_reducible refine gate_dst (N := 2) rfl ?_);(try (refine gate_guard (by rfl) ?_;dsimp only));refine boxE 2 #[.slice A0_0 l0_0.length c0_0] 26 ?_;intro gb443 hg w7 hbox hb;have BK443 := aK (hbox);have GW443 := aK (zG HB hg);have GE443 := aK (zG HB hg);replace HB := hB HB hb;clear hb hbox hg;have hcz8_0 := z0 BK443;have hfz8_0 := fZ BK443 0) | ((with_reducible refine wP ?_);refine gT 9 Try.func43 (Zq.calls _ _ l0_0 t444 _ (cB HR0_0 HB) HC0_0.out A3.out) ?_;intro w9 hb;replace BK443 := kB BK443 hb;replace HB := hB HB hb;clear hb) | ((with_reducible refine gate_dst (N := 10) rfl ?_);(try (refine gate_guard (by rfl) ?_;dsimp only));refine Kd.R_make Kd.bool _ 4 rfl (N := 10) rfl 33 _ _ rfl t444 rfl rfl Try.underlying33 (.bool false) 1 info4 rfl (by decide) (by omega) false (ok := fun _ => True) (okp := fun _ => True) rfl (fun _ hk => hk) trivial (of_decide_eq_true (by first | (with_reducible assumption) | assumption)) (Nat.le_trans (Nat.mul_le_mul_right _ (of_decide_eq_true (by first | (with_reducible assumption) | assumption) : t444.toNat ≤ 281474976710656)) (by omega)) (Below.refl _ _) (Nat.le_refl _) ?_;intro v446 w10 ho11 hb hg_ hnew_;clear hg_ hnew_;(first | rw [← Ny445.out] at ho11 | (simp only [Int.reduceToNat] at ho11;rw [← Ny445.out] at ho11));have HO447 := rl ho11 HB;replace BK443 := kB BK443 hb;replace HB := hB HB hb;clear hb ho11;have hcz12_0 := z0 BK443;have hfz12_0 := fZ BK443 0) | ((with_reducible refine wP ?_);refine gT 12 Try.func43 (Zq.calls _ _ l0_0 t448 _ (cB HR0_0 HB) HC0_0.out A6.out) ?_;intro w13 hb;replace HO447 := rB HO447 hb;replace BK443 := kB BK443 hb;replace HB := hB HB hb;clear hb))
 go_loopg [6] k (fun kq v6 w' => ∃ (x5_1 : List Bool) (x6_1 : Int),v6 = .int .i64 x6_1 ∧ Aside0 (Zt.l0 kq a1 x5_1 x6_1 l0_0 = some r) ∧ Aside0 (kq ≤ k) ∧ Aside0 (Kd.R Kd.bool 4 w' w.heap.size (fun _ => True) v446 x5_1) ∧ Aside0 (w'.heap[gb443]? = some (.cells #[(.slice A0_0 l0_0.length c0_0)] 26 (0,0))) ∧ Aside0 (Below w.heap.size w w'))
 case atStart => exact ⟨(y445),(wrap64 (t448 - 1)),rD,H',⟨Nat.le_refl _⟩,⟨rN HO447⟩,⟨kN BK443⟩,⟨bN HB⟩⟩
 case round =>
  clear H';clear c4b0 c4b1 c5b0 c5b1 hcz12_0 hcz8_0 hfz12_0 hfz8_0;obtain ⟨x5_1,x6_1,rfl,HA,HK1,HO_5,BK443,HB⟩ := hrel
  cases gk with
  | zero => exact absurd HA.out (by simp [Zt.l0])
  | succ k1 =>
   have H := HA.out;clear HA;simp only [Zt.l0] at H;replace H := iT H;obtain ⟨c14b0,H⟩|⟨c14b0,H⟩ := H
   ·have HC15 := aK H;clear H
    go_upto_region 5 with (fail)
    go_cut [] (fun wc => ∃ (kq : Nat) (x5_14 : List Bool),Aside0 (Zt.j1 kq a1 x5_14 x6_1 l0_0 = some r) ∧ Aside0 (kq ≤ k1) ∧ Aside0 (Kd.R Kd.bool 4 wc w.heap.size (fun _ => True) v446 x5_14) ∧ Aside0 (wc.heap[gb443]? = some (.cells #[(.slice A0_0 l0_0.length c0_0)] 26 (0,0))) ∧ Aside0 (Below w.heap.size w wc))
    case first =>
     have H := HC15.out;clear HC15;replace H := iB H;obtain ⟨rfl,H⟩|⟨rfl,H⟩ := H
     ·replace H := iP H;obtain ⟨c17b0,H⟩ := H;(first | rw [c17b0] | (simp only [i64_w,i32_w];rw [c17b0]) | skip);replace H := iP H;obtain ⟨c18b0,H⟩ := H;replace H := iP H;obtain ⟨c19b0,H⟩ := H;obtain ⟨y450,hy450⟩ : ∃ y_ : List Bool,y_ = (x5_1.set (x6_1 : Int).toNat (((rd_L2 l0_0 x6_1).length : Int) == 0)) := ⟨_,rfl⟩;rw [← hy450] at H;have Ny450 := aK hy450;clear hy450;have H' := aK H;clear H;have hcz21_0 := z0 BK443;have hfz21_0 := fZ BK443 0;obtain ⟨ad449,A449_0,c449_0,rfl,-,hx449_0,HR449_0,HC449_0,p449,q449⟩ := aL HR0_0.out HB x6_1;have p20 : 0 ≤ (x6_1 : Int) := dT;have q20 : (x6_1 : Int) < ((x5_1.length : Int) : Int) := dT;obtain ⟨go20,co20,eo20,gb20,gl20,cl20,HG20⟩ := Kd.R_form HO_5.out (by omega);(first | cases eo20 | (injection eo20 with ea_ en_ ec_;(first | subst ea_ | (injection ea_ with ea_;subst ea_));subst ec_;clear en_));have GB20 := aK gb20;have GG20 := aK HG20;clear gb20 gl20 HG20;obtain ⟨hx20_0,hf20_0⟩ := Kd.R_celln false HO_5.out (x6_1 : Int) p20 q20;replace p20 := eq_true p20;replace q20 := eq_true q20;have HP22 := Kd.R_putg HO_5.out (x6_1 : Int) (((rd_L2 l0_0 x6_1).length : Int) == 0)
      go_wp2_with (first | ((with_reducible refine gate_store (t := 4) (p := 30) rfl ?_);refine store_event (t := 4) (p := 30) (v := ?vo_w23) (w1 := (wr.setCell ⟨go20,(x6_1 : Int).toNat,none⟩ (.bool (((rd_L2 l0_0 x6_1).length : Int) == 0)))) ?hg ?ho ?hn ?hr ?_;(case ho => rfl);(case hg => rfl);(case hn => rfl);(case hr => first | (go_simp;done) | (go_simp;rfl));intro w23 hw;have hg : wr.grownBy w23 (some go20) := (by rw [hw];exact HP22.2);have hp_ : Kd.R Kd.bool 4 w23 w.heap.size (fun _ => True) (.slice (some ⟨go20,0,none⟩) x5_1.length co20) y450 := (by rw [hw,Ny450.out];exact HP22.1);clear HP22;replace BK443 := aK (blk_grown (g := gb443) (o := .cells #[.slice (some ad449) l0_0.length c0_0] 26 (0,0)) (kN BK443) hg (Kd.R_ne HO_5.out BK443.out (by decide)));replace HO_5 := aK (hp_);replace HB := aK ((by rw [hw];exact below_set (HB.out) GB20.out : Below w.heap.size w w23));clear hg hw hp_))
      go_meet
      case rel => exact ⟨_,(y450),H',o1 HK1,⟨rN HO_5⟩,⟨kN BK443⟩,⟨bN HB⟩⟩
     ·replace H := iP H;obtain ⟨c24b0,H⟩ := H;replace H := iP H;obtain ⟨c25b0,H⟩ := H;obtain ⟨y451,hy451⟩ : ∃ y_ : List Bool,y_ = (x5_1.set (x6_1 : Int).toNat false) := ⟨_,rfl⟩;rw [← hy451] at H;have Ny451 := aK hy451;clear hy451;have H' := aK H;clear H;have p26 : 0 ≤ (x6_1 : Int) := dT;have q26 : (x6_1 : Int) < ((x5_1.length : Int) : Int) := dT;obtain ⟨go26,co26,eo26,gb26,gl26,cl26,HG26⟩ := Kd.R_form HO_5.out (by omega);(first | cases eo26 | (injection eo26 with ea_ en_ ec_;(first | subst ea_ | (injection ea_ with ea_;subst ea_));subst ec_;clear en_));have GB26 := aK gb26;have GG26 := aK HG26;clear gb26 gl26 HG26;obtain ⟨hx26_0,hf26_0⟩ := Kd.R_celln false HO_5.out (x6_1 : Int) p26 q26;replace p26 := eq_true p26;replace q26 := eq_true q26;have HP27 := Kd.R_putg HO_5.out (x6_1 : Int) false
      go_wp2_with (first | ((with_reducible refine gate_store (t := 4) (p := 30) rfl ?_);refine store_event (t := 4) (p := 30) (v := ?vo_w28) (w1 := (wr.setCell ⟨go26,(x6_1 : Int).toNat,none⟩ (.bool false))) ?hg ?ho ?hn ?hr ?_;(case ho => rfl);(case hg => rfl);(case hn => rfl);(case hr => first | (go_simp;done) | (go_simp;rfl));intro w28 hw;have hg : wr.grownBy w28 (some go26) := (by rw [hw];exact HP27.2);have hp_ : Kd.R Kd.bool 4 w28 w.heap.size (fun _ => True) (.slice (some ⟨go26,0,none⟩) x5_1.length co26) y451 := (by rw [hw,Ny451.out];exact HP27.1);clear HP27;replace BK443 := aK (blk_grown (g := gb443) (o := .cells #[.slice A0_0 l0_0.length c0_0] 26 (0,0)) (kN BK443) hg (Kd.R_ne HO_5.out BK443.out (by decide)));replace HO_5 := aK (hp_);replace HB := aK ((by rw [hw];exact below_set (HB.out) GB26.out : Below w.heap.size w w28));clear hg hw hp_))
      go_meet
      case rel => exact ⟨_,(y451),H',o1 HK1,⟨rN HO_5⟩,⟨kN BK443⟩,⟨bN HB⟩⟩
    case rest =>
     clear HC15;clear c14b0;obtain ⟨kq,x5_14,HA,HJ14,HO_5,BK443,HB⟩ := hcut
     cases kq with
     | zero => exact absurd HA.out (by simp [Zt.j1])
     | succ kj14 =>
      have H := HA.out;clear HA;simp only [Zt.j1] at H;have H' := aK H;clear H;go_wp2
      go_loopg [7] kj14 (fun kq v7 w' => ∃ (x5_3 : List Bool) (x7_3 : Int),v7 = .int .i64 x7_3 ∧ Aside0 (Zt.l1 kq a1 x5_3 x6_1 x7_3 l0_0 = some r) ∧ Aside0 (kq ≤ kj14) ∧ Aside0 (Kd.R Kd.bool 4 w' w.heap.size (fun _ => True) v446 x5_3) ∧ Aside0 (w'.heap[gb443]? = some (.cells #[(.slice A0_0 l0_0.length c0_0)] 26 (0,0))) ∧ Aside0 (Below w.heap.size w w'))
      case atStart => exact ⟨(x5_14),(0),rD,H',⟨Nat.le_refl _⟩,⟨rN HO_5⟩,⟨kN BK443⟩,⟨bN HB⟩⟩
      case round =>
       clear H';obtain ⟨x5_3,x7_3,rfl,HA,HK3,HO_5,BK443,HB⟩ := hrel
       cases gk with
       | zero => exact absurd HA.out (by simp [Zt.l1])
       | succ k3 =>
        have H := HA.out;clear HA;simp only [Zt.l1] at H;replace H := iP H;obtain ⟨c29b0,H⟩ := H;replace H := iP H;obtain ⟨c30b0,H⟩ := H;replace H := iT H;obtain ⟨c31b0,H⟩|⟨c31b0,H⟩ := H
        ·replace H := iP H;obtain ⟨c32b0,H⟩ := H;obtain ⟨bq33,hbq33⟩ : ∃ b_ : Bool,b_ = (rdOf false x5_3 x6_1) := ⟨_,rfl⟩;rw [← hbq33] at H;have Nbq33 := aK hbq33;clear hbq33;replace H := iB H;obtain ⟨rfl,H⟩|⟨rfl,H⟩ := H
         ·obtain ⟨y454,hy454⟩ : ∃ y_ : List Bool,y_ = (x5_3.set (x6_1 : Int).toNat true) := ⟨_,rfl⟩;rw [← hy454] at H;have Ny454 := aK hy454;clear hy454;have H' := aK H;clear H;have hcz36_0 := z0 BK443;have hfz36_0 := fZ BK443 0;obtain ⟨ad452,A452_0,c452_0,rfl,-,hx452_0,HR452_0,HC452_0,p452,q452⟩ := aL HR0_0.out HB x6_1;obtain ⟨Ao37,co37,eo37⟩ := Kd.R_slice HO_5.out;subst eo37;have p453 : 0 ≤ (x6_1 : Int) := dT;have q453 : x6_1 < (x5_3.length : Int) := dT;obtain ⟨ad453,e453,hx453_0⟩ := Kd.at_bool (rr HO_5) x6_1 p453 q453;(try rw [← Nbq33.out] at hx453_0);cases e453;replace p453 := eq_true p453;replace q453 := eq_true q453;have p35 : 0 ≤ (x6_1 : Int) := dT;have q35 : (x6_1 : Int) < ((x5_3.length : Int) : Int) := dT;obtain ⟨go35,co35,eo35,gb35,gl35,cl35,HG35⟩ := Kd.R_form HO_5.out (by omega);(first | cases eo35 | (injection eo35 with ea_ en_ ec_;(first | subst ea_ | (injection ea_ with ea_;subst ea_));subst ec_;clear en_));have GB35 := aK gb35;have GG35 := aK HG35;clear gb35 gl35 HG35;(first | simp only [add_plain] at hx453_0 | skip);obtain ⟨hx35_0,hf35_0⟩ := Kd.R_celln false HO_5.out (x6_1 : Int) p35 q35;replace p35 := eq_true p35;replace q35 := eq_true q35;have HP38 := Kd.R_putg HO_5.out (x6_1 : Int) true
          go_wp2_with (first | ((with_reducible refine gate_store (t := 4) (p := 61) rfl ?_);refine store_event (t := 4) (p := 61) (v := ?vo_w39) (w1 := (wr.setCell ⟨go35,(x6_1 : Int).toNat,none⟩ (.bool true))) ?hg ?ho ?hn ?hr ?_;(case ho => rfl);(case hg => rfl);(case hn => rfl);(case hr => first | (go_simp;done) | (go_simp;rfl));intro w39 hw;have hg : wr.grownBy w39 (some go35) := (by rw [hw];exact HP38.2);have hp_ : Kd.R Kd.bool 4 w39 w.heap.size (fun _ => True) (.slice (some ⟨go35,0,none⟩) x5_3.length co37) y454 := (by rw [hw,Ny454.out];exact HP38.1);clear HP38;replace BK443 := aK (blk_grown (g := gb443) (o := .cells #[.slice (some ad452) l0_0.length c0_0] 26 (0,0)) (kN BK443) hg (Kd.R_ne HO_5.out BK443.out (by decide)));replace HO_5 := aK (hp_);replace HB := aK ((by rw [hw];exact below_set (HB.out) GB35.out : Below w.heap.size w w39));clear hg hw hp_))
          go_roundg k3
          case measure => have := HK1.out;have := HJ14.out;have := HK3.out;omega
          case rel => exact ⟨(y454),(wrap64 (x7_3 + 1)),rD,H',o3 HK1 HJ14 HK3,⟨rN HO_5⟩,⟨kN BK443⟩,⟨bN HB⟩⟩
         ·replace H := iP H;obtain ⟨c40b0,H⟩ := H;replace H := iP H;obtain ⟨c41b0,H⟩ := H;replace H := iP H;obtain ⟨c42b0,H⟩ := H;obtain ⟨y458,hy458⟩ : ∃ y_ : List Bool,y_ = (x5_3.set (x6_1 : Int).toNat (!(rdOf false x5_3 (rd (rd_L2 l0_0 x6_1) x7_3)))) := ⟨_,rfl⟩;rw [← hy458] at H;have Ny458 := aK hy458;clear hy458;have H' := aK H;clear H;have hcz44_0 := z0 BK443;have hfz44_0 := fZ BK443 0;obtain ⟨ad452,A452_0,c452_0,rfl,-,hx452_0,HR452_0,HC452_0,p452,q452⟩ := aL HR0_0.out HB x6_1;obtain ⟨Ao45,co45,eo45⟩ := Kd.R_slice HO_5.out;subst eo45;have p453 : 0 ≤ (x6_1 : Int) := dT;have q453 : x6_1 < (x5_3.length : Int) := dT;obtain ⟨ad453,e453,hx453_0⟩ := Kd.at_bool (rr HO_5) x6_1 p453 q453;(try rw [← Nbq33.out] at hx453_0);cases e453;replace p453 := eq_true p453;replace q453 := eq_true q453;obtain ⟨ad455,A455_0,c455_0,e455,-,hx455_0,HR455_0,HC455_0,p455,q455⟩ := aL HR0_0.out HB x6_1;obtain rfl := iJ e455;have ea_ := Option.some.inj (hx452_0.symm.trans hx455_0);injection ea_ with ea_ en_ ec_
          subst ea_;subst ec_;clear en_;obtain ⟨ad456,rfl,-,hx456_0,p456,q456⟩ := aI HR455_0.out HB x7_3;have p457 : 0 ≤ ((rd (rd_L2 l0_0 x6_1) x7_3) : Int) := dT;have q457 : (rd (rd_L2 l0_0 x6_1) x7_3) < (x5_3.length : Int) := dT;obtain ⟨ad457,e457,hx457_0⟩ := Kd.at_bool (rr HO_5) (rd (rd_L2 l0_0 x6_1) x7_3) p457 q457;(try rw [← Nbq33.out] at hx457_0);obtain rfl : ad453 = ad457 := (by injection e457);replace p457 := eq_true p457;replace q457 := eq_true q457;have p43 : 0 ≤ (x6_1 : Int) := dT;have q43 : (x6_1 : Int) < ((x5_3.length : Int) : Int) := dT;obtain ⟨go43,co43,eo43,gb43,gl43,cl43,HG43⟩ := Kd.R_form HO_5.out (by omega);(first | cases eo43 | (injection eo43 with ea_ en_ ec_;(first | subst ea_ | (injection ea_ with ea_;subst ea_));subst ec_;clear en_));have GB43 := aK gb43;have GG43 := aK HG43;clear gb43 gl43 HG43;(first | simp only [add_plain] at hx453_0 | skip);(first | simp only [add_plain] at hx457_0 | skip);obtain ⟨hx43_0,hf43_0⟩ := Kd.R_celln false HO_5.out (x6_1 : Int) p43 q43;replace p43 := eq_true p43;replace q43 := eq_true q43;have HP46 := Kd.R_putg HO_5.out (x6_1 : Int) (!(rdOf false x5_3 (rd (rd_L2 l0_0 x6_1) x7_3)))
          go_wp2_with (first | ((with_reducible refine gate_store (t := 4) (p := 61) rfl ?_);refine store_event (t := 4) (p := 61) (v := ?vo_w47) (w1 := (wr.setCell ⟨go43,(x6_1 : Int).toNat,none⟩ (.bool (!(rdOf false x5_3 (rd (rd_L2 l0_0 x6_1) x7_3)))))) ?hg ?ho ?hn ?hr ?_;(case ho => rfl);(case hg => rfl);(case hn => rfl);(case hr => first | (go_simp;done) | (go_simp;rfl));intro w47 hw;have hg : wr.grownBy w47 (some go43) := (by rw [hw];exact HP46.2);have hp_ : Kd.R Kd.bool 4 w47 w.heap.size (fun _ => True) (.slice (some ⟨go43,0,none⟩) x5_3.length co45) y458 := (by rw [hw,Ny458.out];exact HP46.1);clear HP46;replace BK443 := aK (blk_grown (g := gb443) (o := .cells #[.slice (some ad452) l0_0.length c0_0] 26 (0,0)) (kN BK443) hg (Kd.R_ne HO_5.out BK443.out (by decide)));replace HO_5 := aK (hp_);replace HB := aK ((by rw [hw];exact below_set (HB.out) GB43.out : Below w.heap.size w w47));clear hg hw hp_))
          go_roundg k3
          case measure => have := HK1.out;have := HJ14.out;have := HK3.out;omega
          case rel => exact ⟨(y458),(wrap64 (x7_3 + 1)),rD,H',o3 HK1 HJ14 HK3,⟨rN HO_5⟩,⟨kN BK443⟩,⟨bN HB⟩⟩
        ·have H' := aK H;clear H;have hcz48_0 := z0 BK443;have hfz48_0 := fZ BK443 0;obtain ⟨ad452,A452_0,c452_0,rfl,-,hx452_0,HR452_0,HC452_0,p452,q452⟩ := aL HR0_0.out HB x6_1;go_wp2
         go_roundg k3
         case measure => have := HK1.out;have := HJ14.out;have := HK3.out;omega
         case rel => exact ⟨(x5_3),(wrap64 (x6_1 - 1)),rD,H',o3 HK1 HJ14 HK3,⟨rN HO_5⟩,⟨kN BK443⟩,⟨bN HB⟩⟩
   ·obtain rfl := Option.some.inj H;go_wp2;go_ret;exact ⟨_,eR ⟨by (with_reducible repeat (first | apply Kd.R_alloc | apply Kd.R_drewN | apply Kd.R_drew));exact HO_5.out,(bN HB)⟩⟩
def ZO.l0 : Nat → List Bool → Int → List Int → Int → List (List Int) → Option (List Int)
 | 0,_,_,_,_,_ => none
 | k + 1,x1,x2,x7,x8,xqt => if 0 ≤ x2 then (if x2 < (xqt.length : Int) then (if x8 < ((rd_L2 xqt x2).length : Int) then (if 0 ≤ x8 then (if 0 ≤ (rd (rd_L2 xqt x2) x8) then (if (rd (rd_L2 xqt x2) x8) < (x1.length : Int) then (if (rdOf false x1 (rd (rd_L2 xqt x2) x8) = true) then (ZO.l0 k x1 x2 x7 (wrap64 (x8 + 1)) xqt) else (if x7.length < 17592186044416 then (ZO.l0 k x1 x2 (x7 ++ [rd (rd_L2 xqt x2) x8]) (wrap64 (x8 + 1)) xqt) else (none))) else (none)) else (none)) else (none)) else (some x7)) else (none)) else (none)
def ZO.f (k : Nat) (l0_0 : List (List Int)) (l1 : List Bool) (a2 : Int) : Option (List Int) := ZO.l0 k l1 a2 (([] : List Int)) 0 l0_0
theorem ZO.mono_l : ∀ k, (∀ y0 y1 y2 y3 y4, LeO (ZO.l0 k y0 y1 y2 y3 y4) (ZO.l0 (k + 1) y0 y1 y2 y3 y4))
 | 0 => fun _ _ _ _ _ r h => by simp [ZO.l0] at h
 | k + 1 => by
  have ih0 := ZO.mono_l k
  ·intro y0 y1 y2 y3 y4;unfold ZO.l0;exact lO
theorem ZO.mono : ∀ a0 a1 a2 k, LeO (ZO.f k a0 a1 a2) (ZO.f (k + 1) a0 a1 a2) := by
 intro a0 a1 a2 k;have ih0 := ZO.mono_l k;unfold ZO.f;exact lO
theorem ZO.calls (k : Nat) (A0_0 : Option Addr) (c0_0 : Nat) (l0_0 : List (List Int)) (A1 : Option Addr) (c1 : Nat) (l1 : List Bool) (a2 : Int) (r : List Int) (w : World) (hr0_0 : Kd.C (Kd.slice 2 (Kd.int .i64)) w A0_0 l0_0.length l0_0) (hc0_0 : l0_0.length ≤ c0_0) (hr1 : Kd.C Kd.bool w A1 l1.length l1) (hc1 : l1.length ≤ c1) (h : ZO.f k l0_0 l1 a2 = some r) :
 Calls Try.prog 36 #[.agg #[.slice A0_0 l0_0.length c0_0],.slice A1 l1.length c1,.int .i64 a2] w fun e w' => ∃ v0_ : Value,e = .returned (v0_) ∧ Kd.R (Kd.int .i64) 2 w' w.heap.size (fun _ => True) v0_ r ∧ Below w.heap.size w w' := by
 have hu26 := Try.underlying26;have HR0_0 := aK hr0_0;have HC0_0 := aK hc0_0;clear hr0_0 hc0_0;have HR1 := aK hr1;have HC1 := aK hc1;clear hr1 hc1;have HB := aK (Below.refl w.heap.size w);have H := h;clear h;unfold ZO.f at H;obtain ⟨y460,hy460⟩ : ∃ y_ : List Int,y_ = (([] : List Int)) := ⟨_,rfl⟩;rw [← hy460] at H;have Ny460 := aK hy460;clear hy460;have H' := aK H;clear H;go_enter Try.func36,Try.ntmps36
 go_wp2_with ((with_reducible refine wP ?_);first | (refine boxE 3 #[.slice A0_0 l0_0.length c0_0] 26 ?_;intro gb459 hg w4 hbox hb;have BK459 := aK (hbox);have GW459 := aK (zG HB hg);have GE459 := aK (zG HB hg);replace HB := hB HB hb;clear hb hbox hg) | (refine Kd.R_lit (Kd.int .i64) _ 2 ?hg (N := 9) ?hd (xs := ([] : List Int)) (inner := []) (ok := fun _ => True) (okp := fun _ => True) ?hr ?hp (fun _ hk => hk) trivial (Below.refl _ _) (Nat.le_refl _) (by simp) ?_;(case hd => rfl);(case hg => rfl);(case hr => first | (go_simp;done) | (go_simp;rfl));(case hp => exact (Reps.none _ _));intro v461 w5 ho6 hb hg_ hnew_;clear hg_ hnew_;(first | rw [← Ny460.out] at ho6 | (simp only [Int.reduceToNat] at ho6;rw [← Ny460.out] at ho6));have HO462 := rl ho6 HB;replace BK459 := kB BK459 hb;replace HB := hB HB hb;clear hb ho6))
 go_loopg [7,8] k (fun kq v7 v8 w' => ∃ (x7_1 : List Int) (x8_1 : Int),v8 = .int .i64 x8_1 ∧ Aside0 (ZO.l0 kq l1 a2 x7_1 x8_1 l0_0 = some r) ∧ Aside0 (kq ≤ k) ∧ Aside0 (Kd.R (Kd.int .i64) 2 w' w.heap.size (fun _ => True) v7 x7_1) ∧ Aside0 (w'.heap[gb459]? = some (.cells #[(.slice A0_0 l0_0.length c0_0)] 26 (0,0))) ∧ Aside0 (Below w.heap.size w w'))
 case atStart => exact ⟨(y460),(0),rD,H',⟨Nat.le_refl _⟩,⟨rN HO462⟩,⟨kN BK459⟩,⟨bN HB⟩⟩
 case round =>
  clear H';obtain ⟨x7_1,x8_1,rfl,HA,HK1,HO_7,BK459,HB⟩ := hrel
  cases gk with
  | zero => exact absurd HA.out (by simp [ZO.l0])
  | succ k1 =>
   have H := HA.out;clear HA;simp only [ZO.l0] at H;replace H := iP H;obtain ⟨c7b0,H⟩ := H;replace H := iP H;obtain ⟨c8b0,H⟩ := H;replace H := iT H;obtain ⟨c9b0,H⟩|⟨c9b0,H⟩ := H
   ·replace H := iP H;obtain ⟨c10b0,H⟩ := H;replace H := iP H;obtain ⟨c11b0,H⟩ := H;replace H := iP H;obtain ⟨c12b0,H⟩ := H;obtain ⟨bq13,hbq13⟩ : ∃ b_ : Bool,b_ = (rdOf false l1 (rd (rd_L2 l0_0 a2) x8_1)) := ⟨_,rfl⟩;rw [← hbq13] at H;have Nbq13 := aK hbq13;clear hbq13;replace H := iB H;obtain ⟨rfl,H⟩|⟨rfl,H⟩ := H
    ·have H' := aK H;clear H;have hcz15_0 := z0 BK459;have hfz15_0 := fZ BK459 0;obtain ⟨ad463,A463_0,c463_0,e463,-,hx463_0,HR463_0,HC463_0,p463,q463⟩ := aL HR0_0.out HB a2;cases e463;obtain ⟨ad464,A464_0,c464_0,e464,-,hx464_0,HR464_0,HC464_0,p464,q464⟩ := aL HR0_0.out HB a2;obtain rfl := iJ e464;have ea_ := Option.some.inj (hx463_0.symm.trans hx464_0);injection ea_ with ea_ en_ ec_
     subst ea_;subst ec_;clear en_;obtain ⟨ad465,e465,-,hx465_0,p465,q465⟩ := aI HR464_0.out HB x8_1;cases e465;have p466 : 0 ≤ ((rd (rd_L2 l0_0 a2) x8_1) : Int) := dT;have q466 : (rd (rd_L2 l0_0 a2) x8_1) < (l1.length : Int) := dT;obtain ⟨ad466,e466,hx466_0⟩ := Kd.at_bool HR1.out (rd (rd_L2 l0_0 a2) x8_1) p466 q466;(try rw [← Nbq13.out] at hx466_0);cases e466;replace hx466_0 := cO HB hx466_0;replace p466 := eq_true p466;replace q466 := eq_true q466;go_wp2
     go_roundg k1
     case measure => have := HK1.out;omega
     case rel => exact ⟨(x7_1),(wrap64 (x8_1 + 1)),rD,H',o1 HK1,⟨rN HO_7⟩,⟨kN BK459⟩,⟨bN HB⟩⟩
    ·replace H := iA H;obtain ⟨LMc16,H⟩ := H;obtain ⟨y469,hy469⟩ : ∃ y_ : List Int,y_ = (x7_1 ++ [rd (rd_L2 l0_0 a2) x8_1]) := ⟨_,rfl⟩;rw [← hy469] at H;have Ny469 := aK hy469;clear hy469;have H' := aK H;clear H;have hcz17_0 := z0 BK459;have hfz17_0 := fZ BK459 0;obtain ⟨ad463,A463_0,c463_0,e463,-,hx463_0,HR463_0,HC463_0,p463,q463⟩ := aL HR0_0.out HB a2;cases e463;obtain ⟨ad464,A464_0,c464_0,e464,-,hx464_0,HR464_0,HC464_0,p464,q464⟩ := aL HR0_0.out HB a2;obtain rfl := iJ e464;have ea_ := Option.some.inj (hx463_0.symm.trans hx464_0);injection ea_ with ea_ en_ ec_
     subst ea_;subst ec_;clear en_;obtain ⟨ad465,e465,-,hx465_0,p465,q465⟩ := aI HR464_0.out HB x8_1;cases e465;have p466 : 0 ≤ ((rd (rd_L2 l0_0 a2) x8_1) : Int) := dT;have q466 : (rd (rd_L2 l0_0 a2) x8_1) < (l1.length : Int) := dT;obtain ⟨ad466,e466,hx466_0⟩ := Kd.at_bool HR1.out (rd (rd_L2 l0_0 a2) x8_1) p466 q466;(try rw [← Nbq13.out] at hx466_0);cases e466;replace hx466_0 := cO HB hx466_0;replace p466 := eq_true p466;replace q466 := eq_true q466;obtain ⟨ad467,A467_0,c467_0,e467,-,hx467_0,HR467_0,HC467_0,p467,q467⟩ := aL HR0_0.out HB a2;obtain rfl := iJ e467;have ea_ := Option.some.inj (hx463_0.symm.trans hx467_0);injection ea_ with ea_ en_ ec_
     subst ea_;subst ec_;clear en_;obtain ⟨ad468,e468,-,hx468_0,p468,q468⟩ := aI HR467_0.out HB x8_1;cases e468
     go_wp2_with (first | ((with_reducible refine gate_builtin (b := .append) (xs := #[.tmp 32,.tmp 41]) rfl ?_);at_builtin;refine Kd.R_append (Kd.int .i64) (w0 := w) w.heap.size rfl (.tmp 32) (.tmp 41) 29 2 (.int .i64 0) 8 rfl Try.underlying29 info2 rfl (by decide) (by omega) u7 x7_1 (rd (rd_L2 l0_0 a2) x8_1) [.int .i64 (rd (rd_L2 l0_0 a2) x8_1)] (fun _ => True) (fun _ => False) rfl rfl ?aP (fun _ hk => hk.elim) ?aF ?aO ?aB ?aS ?aL ?_;(case aP => exact rfl);(case aB => exact (bN HB));(case aF => exact (fun _ _ => trivial));(case aO => exact (rN HO_7));(case aS => exact (below_size (bN HB)));(case aL => have := LMc16.out;omega);intro v470 w18 ho hb hg hat;rw [← Ny469.out] at ho;replace BK459 := aK (blk_grown (g := gb459) (o := .cells #[.slice (some ad463) l0_0.length c0_0] 26 (0,0)) (kN BK459) hg (Kd.R_ne HO_7.out BK459.out (by decide)));replace HB := aK (hb);have HO471 := aK (ho);clear HO_7;clear ho hb hg hat))
     go_roundg k1
     case measure => have := HK1.out;omega
     case rel => exact ⟨(y469),(wrap64 (x8_1 + 1)),rD,H',o1 HK1,⟨rN HO471⟩,⟨kN BK459⟩,⟨bN HB⟩⟩
   ·obtain rfl := Option.some.inj H;have hcz19_0 := z0 BK459;have hfz19_0 := fZ BK459 0;obtain ⟨ad463,A463_0,c463_0,e463,-,hx463_0,HR463_0,HC463_0,p463,q463⟩ := aL HR0_0.out HB a2;cases e463;go_wp2;go_ret;exact ⟨_,eR ⟨by (with_reducible repeat (first | apply Kd.R_alloc | apply Kd.R_drewN | apply Kd.R_drew));exact HO_7.out,(bN HB)⟩⟩
def ZM.l0 : Nat → Int → List Bool → List Int → List (List Int) → Option (List Int × Int)
 | 0,_,_,_,_ => none
 | k + 1,x1,x7,x8,xqu => if 0 ≤ x1 then (if x1 < (xqu.length : Int) then (if ((rd_L2 xqu x1).length : Int) > 0 then ((ZO.f k xqu x7 x1).bind fun t507 => (if (t507.length : Int) > 0 then (if 0 < (t507.length : Int) then (if x8.length < 17592186044416 then (ZM.l0 k (rd t507 0) x7 (x8 ++ [rd t507 0]) xqu) else (none)) else (none)) else (if 0 < ((rd_L2 xqu x1).length : Int) then (if x8.length < 17592186044416 then (ZM.l0 k (rd (rd_L2 xqu x1) 0) x7 (x8 ++ [rd (rd_L2 xqu x1) 0]) xqu) else (none)) else (none)))) else (some (x8,0))) else (none)) else (none)
def ZM.f (k : Nat) (l0_0 : List (List Int)) (a1 : Int) : Option (List Int × Int) := (ZX.f k l0_0 a1).bind fun t499 => (if t499 = 0 then ((Zt.f k l0_0 false).bind fun t500 => (ZM.l0 k a1 t500 (([] : List Int)) l0_0)) else (some (([] : List Int), t499)))
theorem ZM.mono_l : ∀ k, (∀ y0 y1 y2 y3, LeO (ZM.l0 k y0 y1 y2 y3) (ZM.l0 (k + 1) y0 y1 y2 y3))
 | 0 => fun _ _ _ _ r h => by simp [ZM.l0] at h
 | k + 1 => by
  have ih0 := ZM.mono_l k
  ·intro y0 y1 y2 y3;unfold ZM.l0;have m0 := ZO.mono;have m1 := ZX.mono;have m2 := Zt.mono;exact lO
theorem ZM.mono : ∀ a0 a1 k, LeO (ZM.f k a0 a1) (ZM.f (k + 1) a0 a1) := by
 intro a0 a1 k;have ih0 := ZM.mono_l k;unfold ZM.f;have m0 := ZO.mono;have m1 := ZX.mono;have m2 := Zt.mono;exact lO
theorem ZM.calls (k : Nat) (A0_0 : Option Addr) (c0_0 : Nat) (l0_0 : List (List Int)) (a1 : Int) (r1 : List Int) (r2 : Int) (w : World) (hr0_0 : Kd.C (Kd.slice 2 (Kd.int .i64)) w A0_0 l0_0.length l0_0) (hc0_0 : l0_0.length ≤ c0_0) (h : ZM.f k l0_0 a1 = some (r1, r2)) :
 Calls Try.prog 7 #[.agg #[.slice A0_0 l0_0.length c0_0],.int .i64 a1] w fun e w' => ∃ v0_ : Value,e = .returned (.tuple #[v0_,.int .i64 r2]) ∧ Kd.R (Kd.int .i64) 2 w' w.heap.size (fun _ => True) v0_ r1 ∧ Below w.heap.size w w' := by
 have hu26 := Try.underlying26;have HR0_0 := aK hr0_0;have HC0_0 := aK hc0_0;clear hr0_0 hc0_0;have HB := aK (Below.refl w.heap.size w);have H := h;clear h;unfold ZM.f at H;replace H := bE H;obtain ⟨t499,A3,H⟩ := H
 by_cases c4 : t499 = 0
 ·rw [if_pos c4] at H;have c4b0 := beq_iff_eq.mpr c4;have c4b1 := bne_eq_false_iff_eq.mpr c4;clear c4;replace H := bE H;obtain ⟨t500,A5,H⟩ := H;obtain ⟨y503,hy503⟩ : ∃ y_ : List Int,y_ = (([] : List Int)) := ⟨_,rfl⟩;rw [← hy503] at H;have Ny503 := aK hy503;clear hy503;have H' := aK H;clear H;go_enter Try.func7,Try.ntmps7
  go_wp2_with ((with_reducible refine wP ?_);first | (refine boxE 2 #[.slice A0_0 l0_0.length c0_0] 26 ?_;intro gb498 hg w6 hbox hb;have BK498 := aK (hbox);have GW498 := aK (zG HB hg);have GE498 := aK (zG HB hg);replace HB := hB HB hb;clear hb hbox hg;have hcz7_0 := z0 BK498;have hfz7_0 := fZ BK498 0) | (refine gT 12 Try.func34 (ZX.calls k _ _ l0_0 a1 t499 _ (cB HR0_0 HB) HC0_0.out A3.out) ?_;intro w8 hb;replace BK498 := kB BK498 hb;replace HB := hB HB hb;clear hb;have hcz9_0 := z0 BK498;have hfz9_0 := fZ BK498 0) | (refine gS 17 Try.func35 (Zt.calls k _ _ l0_0 false t500 _ (cB HR0_0 HB) HC0_0.out A5.out) ?_;rintro e w10 ⟨v501,rfl,ho0,hb⟩;refine ⟨_,rfl,?_⟩;have HO502 := rl ho0 HB;replace BK498 := kB BK498 hb;replace HB := hB HB hb;clear hb ho0) | (refine Kd.R_lit (Kd.int .i64) _ 2 ?hg (N := 18) ?hd (xs := ([] : List Int)) (inner := []) (ok := fun _ => True) (okp := fun _ => True) ?hr ?hp (fun _ hk => hk) trivial (Below.refl _ _) (Nat.le_refl _) (by simp) ?_;(case hd => rfl);(case hg => rfl);(case hr => first | (go_simp;done) | (go_simp;rfl));(case hp => exact (Reps.none _ _));intro v504 w11 ho12 hb hg_ hnew_;clear hg_ hnew_;(first | rw [← Ny503.out] at ho12 | (simp only [Int.reduceToNat] at ho12;rw [← Ny503.out] at ho12));replace HO502 := rB HO502 hb;have HO505 := rl ho12 HB;replace BK498 := kB BK498 hb;replace HB := hB HB hb;clear hb ho12))
  go_loopg [1,8] k (fun kq v1 v8 w' => ∃ (x1_1 : Int) (x8_1 : List Int),v1 = .int .i64 x1_1 ∧ Aside0 (ZM.l0 kq x1_1 t500 x8_1 l0_0 = some (r1,r2)) ∧ Aside0 (kq ≤ k) ∧ Aside0 (Kd.R Kd.bool 4 w' w.heap.size (fun _ => True) v501 t500) ∧ Aside0 (Kd.R (Kd.int .i64) 2 w' w.heap.size (fun _ => True) v8 x8_1) ∧ Aside0 (w'.heap[gb498]? = some (.cells #[(.slice A0_0 l0_0.length c0_0)] 26 (0,0))) ∧ Aside0 (Below w.heap.size w w'))
  case atStart => exact ⟨(a1),(y503),rD,H',⟨Nat.le_refl _⟩,⟨rN HO502⟩,⟨rN HO505⟩,⟨kN BK498⟩,⟨bN HB⟩⟩
  case round =>
   clear H';clear c4b0 c4b1 hcz7_0 hcz9_0 hfz7_0 hfz9_0;obtain ⟨x1_1,x8_1,rfl,HA,HK1,HO_7,HO_8,BK498,HB⟩ := hrel
   cases gk with
   | zero => exact absurd HA.out (by simp [ZM.l0])
   | succ k1 =>
    have H := HA.out;clear HA;simp only [ZM.l0] at H;replace H := iP H;obtain ⟨c13b0,H⟩ := H;replace H := iP H;obtain ⟨c14b0,H⟩ := H
    by_cases c15 : ((rd_L2 l0_0 x1_1).length : Int) > 0
    ·rw [if_pos c15] at H;have c15b0 := decide_eq_true c15;have c15b1 : decide (0 < (rd_L2 l0_0 x1_1).length) = true := decide_eq_true (by omega);clear c15;replace H := bE H;obtain ⟨t507,A16,H⟩ := H
     by_cases c17 : (t507.length : Int) > 0
     ·rw [if_pos c17] at H;have c17b0 := decide_eq_true c17;have c17b1 : decide (0 < t507.length) = true := decide_eq_true (by omega);clear c17
      by_cases c18 : 0 < (t507.length : Int)
      rotate_left
      ·rw [if_neg c18] at H;exact absurd H (by simp)
      rw [if_pos c18] at H;have c18b0 := decide_eq_true c18;have c18b1 : decide (0 < t507.length) = true := decide_eq_true (by omega);clear c18;replace H := iA H;obtain ⟨LMc19,H⟩ := H;obtain ⟨y511,hy511⟩ : ∃ y_ : List Int,y_ = (x8_1 ++ [rd t507 0]) := ⟨_,rfl⟩;rw [← hy511] at H;have Ny511 := aK hy511;clear hy511;have H' := aK H;clear H;have hcz20_0 := z0 BK498;have hfz20_0 := fZ BK498 0;obtain ⟨ad506,A506_0,c506_0,rfl,-,hx506_0,HR506_0,HC506_0,p506,q506⟩ := aL HR0_0.out HB x1_1;obtain ⟨Ao21,co21,eo21⟩ := Kd.R_slice HO_7.out;subst eo21
      go_wp2_with (first | ((with_reducible refine wP ?_);refine gS 29 Try.func36 (ZO.calls k1 _ _ l0_0 _ _ t500 x1_1 t507 _ (cB HR0_0 HB) HC0_0.out (cR HO_7) (rq HO_7) A16.out) ?_;rintro e w22 ⟨v508,rfl,ho0,hb⟩;refine ⟨_,rfl,?_⟩;replace HO_7 := rB HO_7 hb;have HO509 := rl (rn ho0 HO_8) HB;replace HO_8 := rL HO_8 (rb ho0) hb;replace BK498 := kB BK498 hb;replace HB := hB HB hb;clear hb ho0;obtain ⟨Ao23,co23,eo23⟩ := Kd.R_slice HO509.out;subst eo23;have p510 : 0 ≤ (0 : Int) := (by omega);have q510 : 0 < (t507.length : Int) := of_decide_eq_true (by first | (with_reducible assumption) | assumption);obtain ⟨ad510,e510,hx510_0⟩ := Kd.at_int (rr HO509) 0 p510 q510;cases e510;have qi510 : (0 < t507.length) = True := eq_true (by omega);(try rw [show ((0 : Int)).toNat = 0 from rfl] at hx510_0);(try rw [Addr.add_zero'] at hx510_0);replace p510 := eq_true p510;replace q510 := eq_true q510) | ((with_reducible refine gate_builtin (b := .append) (xs := #[.tmp 43,.tmp 45]) rfl ?_);at_builtin;refine Kd.R_append (Kd.int .i64) (w0 := w) w.heap.size rfl (.tmp 43) (.tmp 45) 29 2 (.int .i64 0) 8 rfl Try.underlying29 info2 rfl (by decide) (by omega) u8 x8_1 (rd t507 0) [.int .i64 (rd t507 0)] (fun k_ => some k_ ≠ (.slice (some ad510) t507.length co23 : Value).ownBlock) (fun _ => False) rfl rfl ?aP (fun _ hk => hk.elim) ?aF ?aO ?aB ?aS ?aL ?_;(case aP => exact rfl);(case aB => exact (bN HB));(case aF => exact (fun k_ hk => Kd.fresh' (rt HO509) k_ hk));(case aO => exact (rM (Kd.R_mono HO_8.out (fun _ hk => hk.2))));(case aS => exact (below_size (bN HB)));(case aL => have := LMc19.out;omega);intro v512 w24 ho hb hg hat;rw [← Ny511.out] at ho;replace HO_7 := aK (Kd.R_over' (rN HO_7) (Kd.R_typed (rN HO_8)) (by decide) hg);replace BK498 := aK (blk_grown (g := gb498) (o := .cells #[.slice (some ad506) l0_0.length c0_0] 26 (0,0)) (kN BK498) hg (Kd.R_ne HO_8.out BK498.out (by decide)));replace HO509 := aK (Kd.R_after (ok := (fun _ => True)) (rN HO509) hg hat);replace HB := aK (hb);have HO513 := aK (ho);clear HO_8;clear ho hb hg hat))
      go_roundg k1
      case measure => have := HK1.out;omega
      case rel => exact ⟨(rd t507 0),(y511),rD,H',o1 HK1,⟨rN HO_7⟩,rW HO513,⟨kN BK498⟩,⟨bN HB⟩⟩
     ·rw [if_neg c17] at H;have c17b0 := decide_eq_false c17;have c17b1 : decide (0 < t507.length) = false := decide_eq_false (by omega);clear c17
      by_cases c25 : 0 < ((rd_L2 l0_0 x1_1).length : Int)
      rotate_left
      ·rw [if_neg c25] at H;exact absurd H (by simp)
      rw [if_pos c25] at H;have c25b0 := decide_eq_true c25;have c25b1 : decide (0 < (rd_L2 l0_0 x1_1).length) = true := decide_eq_true (by omega);clear c25;replace H := iA H;obtain ⟨LMc26,H⟩ := H;obtain ⟨y516,hy516⟩ : ∃ y_ : List Int,y_ = (x8_1 ++ [rd (rd_L2 l0_0 x1_1) 0]) := ⟨_,rfl⟩;rw [← hy516] at H;have Ny516 := aK hy516;clear hy516;have H' := aK H;clear H;have hcz27_0 := z0 BK498;have hfz27_0 := fZ BK498 0;obtain ⟨ad506,A506_0,c506_0,rfl,-,hx506_0,HR506_0,HC506_0,p506,q506⟩ := aL HR0_0.out HB x1_1;obtain ⟨Ao28,co28,eo28⟩ := Kd.R_slice HO_7.out;subst eo28
      go_wp2_with (first | ((with_reducible refine wP ?_);refine gS 29 Try.func36 (ZO.calls k1 _ _ l0_0 _ _ t500 x1_1 t507 _ (cB HR0_0 HB) HC0_0.out (cR HO_7) (rq HO_7) A16.out) ?_;rintro e w29 ⟨v508,rfl,ho0,hb⟩;refine ⟨_,rfl,?_⟩;replace HO_7 := rB HO_7 hb;have HO509 := rl (rn ho0 HO_8) HB;replace HO_8 := rL HO_8 (rb ho0) hb;replace BK498 := kB BK498 hb;replace HB := hB HB hb;clear hb ho0;obtain ⟨Ao30,co30,eo30⟩ := Kd.R_slice HO509.out;subst eo30;have hcz31_0 := z0 BK498;have hfz31_0 := fZ BK498 0;obtain ⟨ad514,A514_0,c514_0,e514,-,hx514_0,HR514_0,HC514_0,p514,q514⟩ := aL HR0_0.out HB x1_1;obtain rfl := iJ e514;have p515 : 0 ≤ (0 : Int) := (by omega);have q515 : 0 < ((rd_L2 l0_0 x1_1).length : Int) := of_decide_eq_true (by first | (with_reducible assumption) | assumption);obtain ⟨ad515,e515,hx515_0⟩ := Kd.at_int HR514_0.out 0 p515 q515;cases e515;have qi515 : (0 < (rd_L2 l0_0 x1_1).length) = True := eq_true (by omega);(try rw [show ((0 : Int)).toNat = 0 from rfl] at hx515_0);(try rw [Addr.add_zero'] at hx515_0);replace hx515_0 := cO HB hx515_0;replace p515 := eq_true p515;replace q515 := eq_true q515) | ((with_reducible refine gate_builtin (b := .append) (xs := #[.tmp 43,.tmp 45]) rfl ?_);at_builtin;refine Kd.R_append (Kd.int .i64) (w0 := w) w.heap.size rfl (.tmp 43) (.tmp 45) 29 2 (.int .i64 0) 8 rfl Try.underlying29 info2 rfl (by decide) (by omega) u8 x8_1 (rd (rd_L2 l0_0 x1_1) 0) [.int .i64 (rd (rd_L2 l0_0 x1_1) 0)] (fun k_ => some k_ ≠ (.slice Ao30 t507.length co30 : Value).ownBlock) (fun _ => False) rfl rfl ?aP (fun _ hk => hk.elim) ?aF ?aO ?aB ?aS ?aL ?_;(case aP => exact rfl);(case aB => exact (bN HB));(case aF => exact (fun k_ hk => Kd.fresh' (rt HO509) k_ hk));(case aO => exact (rM (Kd.R_mono HO_8.out (fun _ hk => hk.2))));(case aS => exact (below_size (bN HB)));(case aL => have := LMc26.out;omega);intro v517 w32 ho hb hg hat;rw [← Ny516.out] at ho;replace HO_7 := aK (Kd.R_over' (rN HO_7) (Kd.R_typed (rN HO_8)) (by decide) hg);replace BK498 := aK (blk_grown (g := gb498) (o := .cells #[.slice (some ad506) l0_0.length c0_0] 26 (0,0)) (kN BK498) hg (Kd.R_ne HO_8.out BK498.out (by decide)));replace HO509 := aK (Kd.R_after (ok := (fun _ => True)) (rN HO509) hg hat);replace HB := aK (hb);have HO518 := aK (ho);clear HO_8;clear ho hb hg hat))
      go_roundg k1
      case measure => have := HK1.out;omega
      case rel => exact ⟨(rd (rd_L2 l0_0 x1_1) 0),(y516),rD,H',o1 HK1,⟨rN HO_7⟩,rW HO518,⟨kN BK498⟩,⟨bN HB⟩⟩
    ·rw [if_neg c15] at H;have c15b0 := decide_eq_false c15;have c15b1 : decide (0 < (rd_L2 l0_0 x1_1).length) = false := decide_eq_false (by omega);clear c15;simp only [Option.some.injEq,Prod.mk.injEq] at H;obtain ⟨rfl,rfl⟩ := H;have hcz33_0 := z0 BK498;have hfz33_0 := fZ BK498 0;obtain ⟨ad506,A506_0,c506_0,rfl,-,hx506_0,HR506_0,HC506_0,p506,q506⟩ := aL HR0_0.out HB x1_1;go_wp2;go_ret2;exact ⟨_,eR ⟨by (with_reducible repeat (first | apply Kd.R_alloc | apply Kd.R_drewN | apply Kd.R_drew));exact HO_8.out,(bN HB)⟩⟩
 ·rw [if_neg c4] at H;have c4b0 := beq_eq_false_iff_ne.mpr c4;have c4b1 := bne_iff_ne.mpr c4;simp only [Option.some.injEq,Prod.mk.injEq] at H;obtain ⟨rfl,rfl⟩ := H;go_enter Try.func7,Try.ntmps7
  go_wp2_with ((with_reducible refine wP ?_);first | (refine boxE 2 #[.slice A0_0 l0_0.length c0_0] 26 ?_;intro gb498 hg w34 hbox hb;have BK498 := aK (hbox);have GW498 := aK (zG HB hg);have GE498 := aK (zG HB hg);replace HB := hB HB hb;clear hb hbox hg;have hcz35_0 := z0 BK498;have hfz35_0 := fZ BK498 0) | (refine gT 12 Try.func34 (ZX.calls k _ _ l0_0 a1 t499 _ (cB HR0_0 HB) HC0_0.out A3.out) ?_;intro w36 hb;replace BK498 := kB BK498 hb;replace HB := hB HB hb;clear hb))
  go_ret2;exact ⟨_,eR ⟨by first | exact Kd.R_nil _ _ _ _ _ | exact Kd.N_nil _ _ _ _ _ | exact Kd.V_nil _ _ _ _ _ | exact Kd.Q_nil _ _ _ _ _ | exact Kd.S_nil _ _ _ _ _,(bN HB)⟩⟩
def Zap.f (k : Nat) (l0_0 : List (List Int)) (a1 : Int) : Option (List Int × Int) := (ZX.f k l0_0 a1).bind fun t520 => (if t520 = 0 then ((Zt.f k l0_0 false).bind fun t521 => ((ZO.f k l0_0 t521 a1).bind fun t524 => (some (t524, 0)))) else (some (([] : List Int), t520)))
theorem Zap.mono : ∀ a0 a1 k, LeO (Zap.f k a0 a1) (Zap.f (k + 1) a0 a1) := by
 intro a0 a1 k;unfold Zap.f;have m0 := ZO.mono;have m1 := ZX.mono;have m2 := Zt.mono;exact lO
theorem Zap.calls (k : Nat) (A0_0 : Option Addr) (c0_0 : Nat) (l0_0 : List (List Int)) (a1 : Int) (r1 : List Int) (r2 : Int) (w : World) (hr0_0 : Kd.C (Kd.slice 2 (Kd.int .i64)) w A0_0 l0_0.length l0_0) (hc0_0 : l0_0.length ≤ c0_0) (h : Zap.f k l0_0 a1 = some (r1, r2)) :
 Calls Try.prog 9 #[.agg #[.slice A0_0 l0_0.length c0_0],.int .i64 a1] w fun e w' => ∃ v0_ : Value,e = .returned (.tuple #[v0_,.int .i64 r2]) ∧ Kd.R (Kd.int .i64) 2 w' w.heap.size (fun _ => True) v0_ r1 ∧ Below w.heap.size w w' := by
 have hu26 := Try.underlying26;have HR0_0 := aK hr0_0;have HC0_0 := aK hc0_0;clear hr0_0 hc0_0;have HB := aK (Below.refl w.heap.size w);have H := h;clear h;unfold Zap.f at H;replace H := bE H;obtain ⟨t520,A3,H⟩ := H
 by_cases c4 : t520 = 0
 ·rw [if_pos c4] at H;have c4b0 := beq_iff_eq.mpr c4;have c4b1 := bne_eq_false_iff_eq.mpr c4;clear c4;replace H := bE H;obtain ⟨t521,A5,H⟩ := H;replace H := bE H;obtain ⟨t524,A6,H⟩ := H;simp only [Option.some.injEq,Prod.mk.injEq] at H;obtain ⟨rfl,rfl⟩ := H;go_enter Try.func9,Try.ntmps9
  try go_wp2_with ((with_reducible refine wP ?_);first | (refine boxE 2 #[.slice A0_0 l0_0.length c0_0] 26 ?_;intro gb519 hg w7 hbox hb;have BK519 := aK (hbox);have GW519 := aK (zG HB hg);have GE519 := aK (zG HB hg);replace HB := hB HB hb;clear hb hbox hg;have hcz8_0 := z0 BK519;have hfz8_0 := fZ BK519 0) | (refine gT 9 Try.func34 (ZX.calls k _ _ l0_0 a1 t520 _ (cB HR0_0 HB) HC0_0.out A3.out) ?_;intro w9 hb;replace BK519 := kB BK519 hb;replace HB := hB HB hb;clear hb))
  replace BK519 := dK BK519;replace HB := dH HB;refine start_ (n := 7) (S := fun w' => w'.cell? ⟨gb519,0,none⟩ = some (.slice A0_0 l0_0.length c0_0)) (ds := []) #[false,false,false,false,false,false,false] (by kernel_rfl) rfl rfl ((blk_cell BK519.out 0).trans rfl) (fun hHeld => ?_)
  generalize w9.drew = w10 at BK519 HB hHeld ⊢
  refine pureE 3 (some 16) #[false,false,false,true,false,false,false] ?_;refine take_ (i := 0) (N := some 13) (v := ?_) (a' := ?_) #[true,false,false,true,false,false,false] rfl rfl (by kernel_rfl) (fun _ _ _ h => h) (Or.inl ⟨by rfl,?_⟩) hHeld ?_ ?_;rotate_left
  ·intro w' s0
   go_simp
   with_reducible rfl
  rotate_left
  ·simp only [Act.put,List.setIfInBounds_toArray,List.set_cons_zero,List.set_cons_succ,i64_w,i32_w]
   rfl
  refine take_ (i := 1) (N := some 14) (v := ?_) (a' := ?_) #[true,true,false,true,false,false,false] rfl rfl (by kernel_rfl) (fun _ _ _ h => h) (Or.inl ⟨by rfl,?_⟩) hHeld ?_ ?_;rotate_left
  ·intro w' s0
   go_simp
   with_reducible rfl
  rotate_left
  ·simp only [Act.put,List.setIfInBounds_toArray,List.set_cons_zero,List.set_cons_succ,i64_w,i32_w]
   rfl
  refine one_ (i := 2) (N := some 15) #[true,true,true,true,false,false,false] rfl rfl (by kernel_rfl) (by decide) (fun K hK => ?_);refine gO Try.func35 #[.agg #[.slice A0_0 l0_0.length c0_0],.bool false] ?_
  with_reducible refine (Zt.calls k _ _ l0_0 false t521 _ ?side1 ?side2 A5.out).mono ?_
  (case side1 => exact cB HR0_0 HB)
  (case side2 => exact HC0_0.out)
  rintro e w11 ⟨v522,rfl,ho0,hb⟩;refine ⟨_,rfl,?_⟩;have HO523 := rl ho0 HB;replace BK519 := kB BK519 hb;replace HB := hB HB hb;clear hb ho0;obtain ⟨Ao12,co12,eo12⟩ := Kd.R_slice HO523.out;(first | subst eo12 | (injection eo12 with f1_ f2_ f3_;have f4_ := f1_.symm;have f5_ := f3_.symm;clear f1_ f2_ f3_;subst f4_;subst f5_));refine hK.out _ _ ((blk_cell BK519.out 0).trans rfl) (fun hHeld => ?_);clear hK K;refine nT 15 ?_;refine one_ (i := 4) (N := some 17) #[true,true,true,true,true,false,false] rfl rfl (by kernel_rfl) (by decide) (fun K hK => ?_);refine gO Try.func36 #[.agg #[.slice A0_0 l0_0.length c0_0],.slice Ao12 t521.length co12,.int .i64 a1] ?_
  with_reducible refine (ZO.calls k _ _ l0_0 _ _ t521 a1 t524 _ ?side1 ?side2 ?side3 ?side4 A6.out).mono ?_
  (case side1 => exact cB HR0_0 HB)
  (case side2 => exact HC0_0.out)
  (case side3 => exact cR HO523)
  (case side4 => exact (rq HO523))
  rintro e w13 ⟨v525,rfl,ho0,hb⟩;refine ⟨_,rfl,?_⟩;replace HO523 := rB HO523 hb;have HO526 := rl ho0 HB;replace BK519 := kB BK519 hb;replace HB := hB HB hb;clear hb ho0;refine hK.out _ _ ((blk_cell BK519.out 0).trans rfl) (fun hHeld => ?_);clear hK K;refine nT 17 ?_;refine pureE 5 (some 4) #[true,true,true,true,true,true,false] ?_;refine pureE 6 (some 5) #[true,true,true,true,true,true,true] ?_;refine done_ (by kernel_rfl) ?_
  try go_wp2
  go_ret2;exact ⟨_,eR ⟨by (with_reducible repeat (first | apply Kd.R_alloc | apply Kd.R_drewN | apply Kd.R_drew));exact HO526.out,(bN HB)⟩⟩
 ·rw [if_neg c4] at H;have c4b0 := beq_eq_false_iff_ne.mpr c4;have c4b1 := bne_iff_ne.mpr c4;simp only [Option.some.injEq,Prod.mk.injEq] at H;obtain ⟨rfl,rfl⟩ := H;go_enter Try.func9,Try.ntmps9
  go_wp2_with ((with_reducible refine wP ?_);first | (refine boxE 2 #[.slice A0_0 l0_0.length c0_0] 26 ?_;intro gb519 hg w14 hbox hb;have BK519 := aK (hbox);have GW519 := aK (zG HB hg);have GE519 := aK (zG HB hg);replace HB := hB HB hb;clear hb hbox hg;have hcz15_0 := z0 BK519;have hfz15_0 := fZ BK519 0) | (refine gT 9 Try.func34 (ZX.calls k _ _ l0_0 a1 t520 _ (cB HR0_0 HB) HC0_0.out A3.out) ?_;intro w16 hb;replace BK519 := kB BK519 hb;replace HB := hB HB hb;clear hb))
  go_ret2;exact ⟨_,eR ⟨by first | exact Kd.R_nil _ _ _ _ _ | exact Kd.N_nil _ _ _ _ _ | exact Kd.V_nil _ _ _ _ _ | exact Kd.Q_nil _ _ _ _ _ | exact Kd.S_nil _ _ _ _ _,(bN HB)⟩⟩
mutual
def Zk.l0 : Nat → List Bool → List Int → Int → List (List Int) → Option (List Int × Int)
 | 0,_,_,_,_ => none
 | k + 1,x7,x8,x9,xqp => (Zq.f xqp).bind fun t556 => (if x9 < t556 then (if 0 ≤ x9 then (if x9 < (x7.length : Int) then (if rdOf false x7 x9 = true then (if x8.length < 17592186044416 then (Zk.l1 k x7 (x8 ++ [x9]) x9 0 xqp) else (none)) else (Zk.l0 k x7 x8 (wrap64 (x9 + 1)) xqp)) else (none)) else (none)) else (some (x8,0)))
def Zk.l1 : Nat → List Bool → List Int → Int → Int → List (List Int) → Option (List Int × Int)
 | 0,_,_,_,_,_ => none
 | k + 1,x7,x8,x9,x10,xqp => if 0 ≤ x9 then (if x9 < (xqp.length : Int) then (if x10 < ((rd_L2 xqp x9).length : Int) then (if 0 ≤ x10 then (if 0 ≤ (rd (rd_L2 xqp x9) x10) then (if (rd (rd_L2 xqp x9) x10) < (x7.length : Int) then (Zk.l1 k (x7.set ((rd (rd_L2 xqp x9) x10) : Int).toNat true) x8 x9 (wrap64 (x10 + 1)) xqp) else (none)) else (none)) else (none)) else (Zk.l0 k x7 x8 (wrap64 (x9 + 1)) xqp)) else (none)) else (none)
end
def Zk.f (k : Nat) (l0_0 : List (List Int)) (a1 : Int) : Option (List Int × Int) := (ZX.f k l0_0 a1).bind fun t547 => (if t547 = 0 then ((Zq.f l0_0).bind fun t548 => (if 0 ≤ t548 then (if (t548 : Int).toNat ≤ 281474976710656 then ((some (List.replicate (t548 : Int).toNat false : List Bool)).bind fun y549 => (if 0 ≤ a1 then (if a1 < (y549.length : Int) then (Zk.l0 k (y549.set (a1 : Int).toNat true) (([] : List Int)) a1 l0_0) else (none)) else (none))) else (none)) else (none))) else (some (([] : List Int), t547)))
theorem Zk.mono_l : ∀ k, (∀ y0 y1 y2 y3, LeO (Zk.l0 k y0 y1 y2 y3) (Zk.l0 (k + 1) y0 y1 y2 y3)) ∧ (∀ y0 y1 y2 y3 y4, LeO (Zk.l1 k y0 y1 y2 y3 y4) (Zk.l1 (k + 1) y0 y1 y2 y3 y4))
 | 0 => ⟨fun _ _ _ _ r h => by simp [Zk.l0] at h,fun _ _ _ _ _ r h => by simp [Zk.l1] at h⟩
 | k + 1 => by
  obtain ⟨ih0,ih1⟩ := Zk.mono_l k;refine ⟨?_,?_⟩ <;> (intros;first | unfold Zk.l0 | unfold Zk.l1)
  all_goals have m0 := ZX.mono;exact lO
theorem Zk.mono : ∀ a0 a1 k, LeO (Zk.f k a0 a1) (Zk.f (k + 1) a0 a1) := by
 intro a0 a1 k;obtain ⟨ih0,ih1⟩ := Zk.mono_l k;unfold Zk.f;have m0 := ZX.mono;exact lO
theorem Zk.calls (k : Nat) (A0_0 : Option Addr) (c0_0 : Nat) (l0_0 : List (List Int)) (a1 : Int) (r1 : List Int) (r2 : Int) (w : World) (hr0_0 : Kd.C (Kd.slice 2 (Kd.int .i64)) w A0_0 l0_0.length l0_0) (hc0_0 : l0_0.length ≤ c0_0) (h : Zk.f k l0_0 a1 = some (r1, r2)) :
 Calls Try.prog 11 #[.agg #[.slice A0_0 l0_0.length c0_0],.int .i64 a1] w fun e w' => ∃ v0_ : Value,e = .returned (.tuple #[v0_,.int .i64 r2]) ∧ Kd.R (Kd.int .i64) 2 w' w.heap.size (fun _ => True) v0_ r1 ∧ Below w.heap.size w w' := by
 have hu26 := Try.underlying26;have HR0_0 := aK hr0_0;have HC0_0 := aK hc0_0;clear hr0_0 hc0_0;have HB := aK (Below.refl w.heap.size w);have H := h;clear h;unfold Zk.f at H;replace H := bE H;obtain ⟨t547,A3,H⟩ := H
 by_cases c4 : t547 = 0
 ·rw [if_pos c4] at H;have c4b0 := beq_iff_eq.mpr c4;have c4b1 := bne_eq_false_iff_eq.mpr c4;clear c4;replace H := bE H;obtain ⟨t548,A5,H⟩ := H
  by_cases c6 : 0 ≤ t548
  rotate_left
  ·rw [if_neg c6] at H;exact absurd H (by simp)
  rw [if_pos c6] at H;have c6b0 := eq_true c6;have c6b1 := decide_eq_true c6;clear c6
  by_cases c7 : (t548 : Int).toNat ≤ 281474976710656
  rotate_left
  ·rw [if_neg c7] at H;exact absurd H (by simp)
  rw [if_pos c7] at H;have c7b0 := eq_true c7;have c7b1 := decide_eq_true c7;clear c7;replace H := sE H;obtain ⟨y549,hy549,H⟩ := H;have Ny549 := aK hy549;clear hy549;obtain ⟨y552,hy552⟩ : ∃ y_ : List Int,y_ = (([] : List Int)) := ⟨_,rfl⟩;rw [← hy552] at H;have Ny552 := aK hy552;clear hy552;replace H := iP H;obtain ⟨c8b0,H⟩ := H;replace H := iP H;obtain ⟨c9b0,H⟩ := H;obtain ⟨y555,hy555⟩ : ∃ y_ : List Bool,y_ = (y549.set (a1 : Int).toNat true) := ⟨_,rfl⟩;rw [← hy555] at H;have Ny555 := aK hy555;clear hy555;have H' := aK H;clear H;go_enter Try.func11,Try.ntmps11
  go_wp2_with (first | ((with_reducible refine wP ?_);refine boxE 2 #[.slice A0_0 l0_0.length c0_0] 26 ?_;intro gb546 hg w11 hbox hb;have BK546 := aK (hbox);have GW546 := aK (zG HB hg);have GE546 := aK (zG HB hg);replace HB := hB HB hb;clear hb hbox hg;have hcz12_0 := z0 BK546;have hfz12_0 := fZ BK546 0) | ((with_reducible refine wP ?_);refine gT 13 Try.func34 (ZX.calls k _ _ l0_0 a1 t547 _ (cB HR0_0 HB) HC0_0.out A3.out) ?_;intro w13 hb;replace BK546 := kB BK546 hb;replace HB := hB HB hb;clear hb;have hcz14_0 := z0 BK546;have hfz14_0 := fZ BK546 0) | ((with_reducible refine wP ?_);refine gT 18 Try.func43 (Zq.calls _ _ l0_0 t548 _ (cB HR0_0 HB) HC0_0.out A5.out) ?_;intro w15 hb;replace BK546 := kB BK546 hb;replace HB := hB HB hb;clear hb) | ((with_reducible refine gate_dst (N := 19) rfl ?_);refine Kd.R_make Kd.bool _ 4 rfl (N := 19) rfl 33 _ _ rfl t548 rfl rfl Try.underlying33 (.bool false) 1 info4 rfl (by decide) (by omega) false (ok := fun _ => True) (okp := fun _ => True) rfl (fun _ hk => hk) trivial (of_decide_eq_true (by first | (with_reducible assumption) | assumption)) (Nat.le_trans (Nat.mul_le_mul_right _ (of_decide_eq_true (by first | (with_reducible assumption) | assumption) : t548.toNat ≤ 281474976710656)) (by omega)) (Below.refl _ _) (Nat.le_refl _) ?_;intro v550 w16 ho17 hb hg_ hnew_;clear hg_ hnew_;(first | rw [← Ny549.out] at ho17 | (simp only [Int.reduceToNat] at ho17;rw [← Ny549.out] at ho17));have HO551 := rl ho17 HB;replace BK546 := kB BK546 hb;replace HB := hB HB hb;clear hb ho17) | ((with_reducible refine wP ?_);refine Kd.R_lit (Kd.int .i64) _ 2 ?hg (N := 20) ?hd (xs := ([] : List Int)) (inner := []) (ok := fun _ => True) (okp := fun _ => True) ?hr ?hp (fun _ hk => hk) trivial (Below.refl _ _) (Nat.le_refl _) (by simp) ?_;(case hd => rfl);(case hg => rfl);(case hr => first | (go_simp;done) | (go_simp;rfl));(case hp => exact (Reps.none _ _));intro v553 w18 ho19 hb hg_ hnew_;clear hg_ hnew_;(first | rw [← Ny552.out] at ho19 | (simp only [Int.reduceToNat] at ho19;rw [← Ny552.out] at ho19));replace HO551 := rB HO551 hb;have HO554 := rl ho19 HB;replace BK546 := kB BK546 hb;replace HB := hB HB hb;clear hb ho19;have p10 : 0 ≤ (a1 : Int) := of_decide_eq_true (by first | (with_reducible assumption) | assumption);have q10 : (a1 : Int) < ((y549.length : Int) : Int) := of_decide_eq_true (by first | (with_reducible assumption) | assumption);obtain ⟨go10,co10,eo10,gb10,gl10,cl10,HG10⟩ := Kd.R_form HO551.out (by omega);(first | cases eo10 | (injection eo10 with ea_ en_ ec_;(first | subst ea_ | (injection ea_ with ea_;subst ea_));subst ec_;clear en_));have GB10 := aK gb10;have GG10 := aK HG10;clear gb10 gl10 HG10;obtain ⟨hx10_0,hf10_0⟩ := Kd.R_celln false HO551.out (a1 : Int) p10 q10;replace p10 := eq_true p10;replace q10 := eq_true q10;obtain ⟨hy20_,hz20_⟩ := Kd.R_celln false HO551.out (a1 : Int) (of_decide_eq_true (by first | (with_reducible assumption) | assumption)) (of_decide_eq_true (by first | (with_reducible assumption) | assumption));have HP20 := Kd.R_putg HO551.out (a1 : Int) true) | ((with_reducible refine gate_store (t := 4) (p := 23) rfl ?_);refine store_event (t := 4) (p := 23) (v := ?vo_w21) (w1 := (w18.setCell ⟨go10,(a1 : Int).toNat,none⟩ (.bool true))) ?hg ?ho ?hn ?hr ?_;(case ho => rfl);(case hg => rfl);(case hn => rfl);(case hr => first | (go_simp;done) | (go_simp;rfl));intro w21 hw;have hg : w18.grownBy w21 (some go10) := (by rw [hw];exact HP20.2);have hp_ : Kd.R Kd.bool 4 w21 w.heap.size (fun _ => True) (.slice (some ⟨go10,0,none⟩) y549.length co10) y555 := (by rw [hw,Ny555.out];exact HP20.1);clear HP20;replace BK546 := aK (blk_grown (g := gb546) (o := .cells #[.slice A0_0 l0_0.length c0_0] 26 (0,0)) (kN BK546) hg (Kd.R_ne HO551.out BK546.out (by decide)));replace HO554 := aK (Kd.R_over' (v := (.slice (some ⟨go10,0,none⟩) y549.length co10)) (rN HO554) (Kd.R_typed HO551.out) (by decide) hg);replace HO551 := aK (hp_);replace HB := aK ((by rw [hw];exact below_set (HB.out) GB10.out : Below w.heap.size w w21));clear hg hw hp_))
  go_loopg [8,9] k (fun kq v8 v9 w' => ∃ (x7_1 : List Bool) (x8_1 : List Int) (x9_1 : Int),v9 = .int .i64 x9_1 ∧ Aside0 (Zk.l0 kq x7_1 x8_1 x9_1 l0_0 = some (r1,r2)) ∧ Aside0 (kq ≤ k) ∧ Aside0 (Kd.R Kd.bool 4 w' w.heap.size (fun _ => True) (.slice (some ⟨go10,0,none⟩) y549.length co10) x7_1) ∧ Aside0 (Kd.R (Kd.int .i64) 2 w' w.heap.size (fun _ => True) v8 x8_1) ∧ Aside0 (w'.heap[gb546]? = some (.cells #[(.slice A0_0 l0_0.length c0_0)] 26 (0,0))) ∧ Aside0 (Below w.heap.size w w'))
  case atStart => exact ⟨(y555),(y552),(a1),rD,H',⟨Nat.le_refl _⟩,⟨rN HO551⟩,⟨rN HO554⟩,⟨kN BK546⟩,⟨bN HB⟩⟩
  case round =>
   clear H';clear c4b0 c4b1 c6b0 c6b1 c7b0 c7b1 c8b0 c9b0 p10 q10 hcz12_0 hcz14_0 hfz12_0 hfz14_0 hx10_0;obtain ⟨x7_1,x8_1,x9_1,rfl,HA,HK1,HO_7,HO_8,BK546,HB⟩ := hrel;have hl7_1 := (Kd.R_reads' HO_7.out).1;rw [hl7_1] at HO_7;(try simp only [hl7_1]);(try simp only [hl7_1] at BK546);(try simp only [hl7_1] at HO_8)
   cases gk with
   | zero => exact absurd HA.out (by simp [Zk.l0])
   | succ k1 =>
    have H := HA.out;clear HA;simp only [Zk.l0] at H;replace H := bE H;obtain ⟨t556,A22,H⟩ := H;replace H := iT H;obtain ⟨c23b0,H⟩|⟨c23b0,H⟩ := H
    ·replace H := iP H;obtain ⟨c24b0,H⟩ := H;replace H := iP H;obtain ⟨c25b0,H⟩ := H;obtain ⟨bq26,hbq26⟩ : ∃ b_ : Bool,b_ = (rdOf false x7_1 x9_1) := ⟨_,rfl⟩;rw [← hbq26] at H;have Nbq26 := aK hbq26;clear hbq26;replace H := iB H;obtain ⟨rfl,H⟩|⟨rfl,H⟩ := H
     ·replace H := iA H;obtain ⟨LMc28,H⟩ := H;obtain ⟨y558,hy558⟩ : ∃ y_ : List Int,y_ = (x8_1 ++ [x9_1]) := ⟨_,rfl⟩;rw [← hy558] at H;have Ny558 := aK hy558;clear hy558;have H' := aK H;clear H;have hcz29_0 := z0 BK546;have hfz29_0 := fZ BK546 0
      go_wp2_with (first | ((with_reducible refine wP ?_);refine gT 27 Try.func43 (Zq.calls _ _ l0_0 t556 _ (cB HR0_0 HB) HC0_0.out A22.out) ?_;intro w30 hb;replace HO_7 := rB HO_7 hb;replace HO_8 := rB HO_8 hb;replace BK546 := kB BK546 hb;replace HB := hB HB hb;clear hb;have p557 : 0 ≤ (x9_1 : Int) := of_decide_eq_true (by first | (with_reducible assumption) | assumption);have q557 : x9_1 < (x7_1.length : Int) := of_decide_eq_true (by first | (with_reducible assumption) | assumption);obtain ⟨ad557,e557,hx557_0⟩ := Kd.at_bool (rr HO_7) x9_1 p557 q557;(try rw [← Nbq26.out] at hx557_0);obtain rfl : (⟨go10,0,none⟩ : Addr) = ad557 := (by injection e557);(first | simp only [add_plain] at hx557_0 | simp only [add_at] at hx557_0 | simp only [Addr.add,Nat.zero_add] at hx557_0 | skip);replace p557 := eq_true p557;replace q557 := eq_true q557) | ((with_reducible refine gate_builtin (b := .append) (xs := #[.tmp 36,.tmp 38]) rfl ?_);at_builtin;refine Kd.R_append (Kd.int .i64) (w0 := w) w.heap.size rfl (.tmp 36) (.tmp 38) 29 2 (.int .i64 0) 8 rfl Try.underlying29 info2 rfl (by decide) (by omega) u8 x8_1 x9_1 [.int .i64 x9_1] (fun _ => True) (fun _ => False) rfl rfl ?aP (fun _ hk => hk.elim) ?aF ?aO ?aB ?aS ?aL ?_;(case aP => exact rfl);(case aB => exact (bN HB));(case aF => exact (fun _ _ => trivial));(case aO => exact (rN HO_8));(case aS => exact (below_size (bN HB)));(case aL => have := LMc28.out;omega);intro v559 w31 ho hb hg hat;rw [← Ny558.out] at ho;replace HO_7 := aK (Kd.R_over' (rN HO_7) (Kd.R_typed (rN HO_8)) (by decide) hg);replace BK546 := aK (blk_grown (g := gb546) (o := .cells #[.slice A0_0 l0_0.length c0_0] 26 (0,0)) (kN BK546) hg (Kd.R_ne HO_8.out BK546.out (by decide)));replace HB := aK (hb);have HO560 := aK (ho);clear HO_8;clear ho hb hg hat))
      go_loopg [10] k1 (fun kq v10 w' => ∃ (x7_2 : List Bool) (x10_2 : Int),v10 = .int .i64 x10_2 ∧ Aside0 (Zk.l1 kq x7_2 y558 x9_1 x10_2 l0_0 = some (r1,r2)) ∧ Aside0 (kq ≤ k1) ∧ Aside0 (Kd.R Kd.bool 4 w' w.heap.size (fun _ => True) (.slice (some ⟨go10,0,none⟩) x7_1.length co10) x7_2) ∧ Aside0 (Kd.R (Kd.int .i64) 2 w' w.heap.size (fun _ => True) v559 y558) ∧ Aside0 (w'.heap[gb546]? = some (.cells #[(.slice A0_0 l0_0.length c0_0)] 26 (0,0))) ∧ Aside0 (Below w.heap.size w w'))
      case atStart => exact ⟨(x7_1),(0),rD,H',⟨Nat.le_refl _⟩,⟨by (try simp only [hl7_1]);(with_reducible repeat (first | apply Kd.R_alloc | apply Kd.R_drewN | apply Kd.R_drew));exact HO_7.out⟩,⟨by (try simp only [hl7_1]);(with_reducible repeat (first | apply Kd.R_alloc | apply Kd.R_drewN | apply Kd.R_drew));exact HO560.out⟩,⟨by (try simp only [hl7_1]);(with_reducible repeat (first | refine blk_drewN ?_ _ | refine blk_drew ?_ | refine blk_alloc ?_ _));exact BK546.out⟩,⟨bN HB⟩⟩
      case round =>
       clear H';clear c23b0 c24b0 c25b0 hcz29_0 hfz29_0 hx557_0 p557 q557;obtain ⟨x7_2,x10_2,rfl,HA,HK2,HO_7,HO_8,BK546,HB⟩ := hrel;have hl7_2 := (Kd.R_reads' HO_7.out).1;rw [hl7_2] at HO_7;(try simp only [hl7_2]);(try simp only [hl7_2] at BK546);(try simp only [hl7_2] at HO_8)
       cases gk with
       | zero => exact absurd HA.out (by simp [Zk.l1])
       | succ k2 =>
        have H := HA.out;clear HA;simp only [Zk.l1] at H;replace H := iP H;obtain ⟨c32b0,H⟩ := H;replace H := iP H;obtain ⟨c33b0,H⟩ := H;replace H := iT H;obtain ⟨c34b0,H⟩|⟨c34b0,H⟩ := H
        ·replace H := iP H;obtain ⟨c35b0,H⟩ := H;replace H := iP H;obtain ⟨c36b0,H⟩ := H;replace H := iP H;obtain ⟨c37b0,H⟩ := H;obtain ⟨y564,hy564⟩ : ∃ y_ : List Bool,y_ = (x7_2.set ((rd (rd_L2 l0_0 x9_1) x10_2) : Int).toNat true) := ⟨_,rfl⟩;rw [← hy564] at H;have Ny564 := aK hy564;clear hy564;have H' := aK H;clear H;have hcz39_0 := z0 BK546;have hfz39_0 := fZ BK546 0;obtain ⟨ad561,A561_0,c561_0,rfl,-,hx561_0,HR561_0,HC561_0,p561,q561⟩ := aL HR0_0.out HB x9_1;obtain ⟨ad562,A562_0,c562_0,e562,-,hx562_0,HR562_0,HC562_0,p562,q562⟩ := aL HR0_0.out HB x9_1;obtain rfl := iJ e562;have ea_ := Option.some.inj (hx561_0.symm.trans hx562_0);injection ea_ with ea_ en_ ec_
         subst ea_;subst ec_;clear en_;obtain ⟨ad563,rfl,-,hx563_0,p563,q563⟩ := aI HR562_0.out HB x10_2;have p38 : 0 ≤ ((rd (rd_L2 l0_0 x9_1) x10_2) : Int) := dT;have q38 : ((rd (rd_L2 l0_0 x9_1) x10_2) : Int) < ((x7_2.length : Int) : Int) := dT;obtain ⟨hx38_0,hf38_0⟩ := Kd.R_celln false HO_7.out ((rd (rd_L2 l0_0 x9_1) x10_2) : Int) p38 q38;replace p38 := eq_true p38;replace q38 := eq_true q38;have HP40 := Kd.R_putg HO_7.out ((rd (rd_L2 l0_0 x9_1) x10_2) : Int) true
         go_wp2_with (first | ((with_reducible refine gate_store (t := 4) (p := 59) rfl ?_);refine store_event (t := 4) (p := 59) (v := ?vo_w41) (w1 := (wr.setCell ⟨go10,((rd (rd_L2 l0_0 x9_1) x10_2) : Int).toNat,none⟩ (.bool true))) ?hg ?ho ?hn ?hr ?_;(case ho => rfl);(case hg => rfl);(case hn => rfl);(case hr => first | (go_simp;done) | (go_simp;rfl));intro w41 hw;have hg : wr.grownBy w41 (some go10) := (by rw [hw];exact HP40.2);have hp_ : Kd.R Kd.bool 4 w41 w.heap.size (fun _ => True) (.slice (some ⟨go10,0,none⟩) x7_2.length co10) y564 := (by rw [hw,Ny564.out];exact HP40.1);clear HP40;replace HO_8 := aK (Kd.R_over' (v := (.slice (some ⟨go10,0,none⟩) x7_2.length co10)) (rN HO_8) (Kd.R_typed HO_7.out) (by decide) hg);replace BK546 := aK (blk_grown (g := gb546) (o := .cells #[.slice (some ad561) l0_0.length c0_0] 26 (0,0)) (kN BK546) hg (Kd.R_ne HO_7.out BK546.out (by decide)));replace HO_7 := aK (hp_);replace HB := aK ((by rw [hw];exact below_set (HB.out) GB10.out : Below w.heap.size w w41));clear hg hw hp_))
         (try simp only [← hl7_2])
         go_roundg k2
         case measure => have := HK1.out;have := HK2.out;omega
         case rel => exact ⟨(y564),(wrap64 (x10_2 + 1)),rD,H',o2 HK1 HK2,⟨by (try simp only [hl7_1]);(try simp only [hl7_2]);(with_reducible repeat (first | apply Kd.R_alloc | apply Kd.R_drewN | apply Kd.R_drew));exact HO_7.out⟩,⟨by (try simp only [hl7_1]);(try simp only [hl7_2]);(with_reducible repeat (first | apply Kd.R_alloc | apply Kd.R_drewN | apply Kd.R_drew));exact HO_8.out⟩,⟨by (try simp only [hl7_1]);(try simp only [hl7_2]);(with_reducible repeat (first | refine blk_drewN ?_ _ | refine blk_drew ?_ | refine blk_alloc ?_ _));exact BK546.out⟩,⟨bN HB⟩⟩
        ·have H' := aK H;clear H;have hcz42_0 := z0 BK546;have hfz42_0 := fZ BK546 0;obtain ⟨ad561,A561_0,c561_0,rfl,-,hx561_0,HR561_0,HC561_0,p561,q561⟩ := aL HR0_0.out HB x9_1;go_wp2;(try simp only [← hl7_1,← hl7_2])
         go_roundg k2
         case measure => have := HK1.out;have := HK2.out;omega
         case rel => exact ⟨(x7_2),(y558),(wrap64 (x9_1 + 1)),rD,H',o2 HK1 HK2,⟨by (try simp only [hl7_1]);(try simp only [hl7_2]);(with_reducible repeat (first | apply Kd.R_alloc | apply Kd.R_drewN | apply Kd.R_drew));exact HO_7.out⟩,⟨by (try simp only [hl7_1]);(try simp only [hl7_2]);(with_reducible repeat (first | apply Kd.R_alloc | apply Kd.R_drewN | apply Kd.R_drew));exact HO_8.out⟩,⟨by (try simp only [hl7_1]);(try simp only [hl7_2]);(with_reducible repeat (first | refine blk_drewN ?_ _ | refine blk_drew ?_ | refine blk_alloc ?_ _));exact BK546.out⟩,⟨bN HB⟩⟩
     ·have H' := aK H;clear H;have hcz43_0 := z0 BK546;have hfz43_0 := fZ BK546 0
      go_wp2_with ((with_reducible refine wP ?_);first | (refine gT 27 Try.func43 (Zq.calls _ _ l0_0 t556 _ (cB HR0_0 HB) HC0_0.out A22.out) ?_;intro w44 hb;replace HO_7 := rB HO_7 hb;replace HO_8 := rB HO_8 hb;replace BK546 := kB BK546 hb;replace HB := hB HB hb;clear hb;have p557 : 0 ≤ (x9_1 : Int) := of_decide_eq_true (by first | (with_reducible assumption) | assumption);have q557 : x9_1 < (x7_1.length : Int) := of_decide_eq_true (by first | (with_reducible assumption) | assumption);obtain ⟨ad557,e557,hx557_0⟩ := Kd.at_bool (rr HO_7) x9_1 p557 q557;(try rw [← Nbq26.out] at hx557_0);obtain rfl : (⟨go10,0,none⟩ : Addr) = ad557 := (by injection e557);(first | simp only [add_plain] at hx557_0 | simp only [add_at] at hx557_0 | simp only [Addr.add,Nat.zero_add] at hx557_0 | skip);replace p557 := eq_true p557;replace q557 := eq_true q557))
      (try simp only [← hl7_1])
      go_roundg k1
      case measure => have := HK1.out;omega
      case rel => exact ⟨(x7_1),(x8_1),(wrap64 (x9_1 + 1)),rD,H',o1 HK1,⟨by (try simp only [hl7_1]);(with_reducible repeat (first | apply Kd.R_alloc | apply Kd.R_drewN | apply Kd.R_drew));exact HO_7.out⟩,⟨by (try simp only [hl7_1]);(with_reducible repeat (first | apply Kd.R_alloc | apply Kd.R_drewN | apply Kd.R_drew));exact HO_8.out⟩,⟨by (try simp only [hl7_1]);(with_reducible repeat (first | refine blk_drewN ?_ _ | refine blk_drew ?_ | refine blk_alloc ?_ _));exact BK546.out⟩,⟨bN HB⟩⟩
    ·simp only [Option.some.injEq,Prod.mk.injEq] at H;obtain ⟨rfl,rfl⟩ := H;have hcz45_0 := z0 BK546;have hfz45_0 := fZ BK546 0
     go_wp2_with ((with_reducible refine wP ?_);first | (refine gT 27 Try.func43 (Zq.calls _ _ l0_0 t556 _ (cB HR0_0 HB) HC0_0.out A22.out) ?_;intro w46 hb;replace HO_7 := rB HO_7 hb;replace HO_8 := rB HO_8 hb;replace BK546 := kB BK546 hb;replace HB := hB HB hb;clear hb))
     go_ret2;exact ⟨_,eR ⟨by (with_reducible repeat (first | apply Kd.R_alloc | apply Kd.R_drewN | apply Kd.R_drew));exact HO_8.out,(bN HB)⟩⟩
 ·rw [if_neg c4] at H;have c4b0 := beq_eq_false_iff_ne.mpr c4;have c4b1 := bne_iff_ne.mpr c4;simp only [Option.some.injEq,Prod.mk.injEq] at H;obtain ⟨rfl,rfl⟩ := H;go_enter Try.func11,Try.ntmps11
  go_wp2_with ((with_reducible refine wP ?_);first | (refine boxE 2 #[.slice A0_0 l0_0.length c0_0] 26 ?_;intro gb546 hg w47 hbox hb;have BK546 := aK (hbox);have GW546 := aK (zG HB hg);have GE546 := aK (zG HB hg);replace HB := hB HB hb;clear hb hbox hg;have hcz48_0 := z0 BK546;have hfz48_0 := fZ BK546 0) | (refine gT 13 Try.func34 (ZX.calls k _ _ l0_0 a1 t547 _ (cB HR0_0 HB) HC0_0.out A3.out) ?_;intro w49 hb;replace BK546 := kB BK546 hb;replace HB := hB HB hb;clear hb))
  go_ret2;exact ⟨_,eR ⟨by first | exact Kd.R_nil _ _ _ _ _ | exact Kd.N_nil _ _ _ _ _ | exact Kd.V_nil _ _ _ _ _ | exact Kd.Q_nil _ _ _ _ _ | exact Kd.S_nil _ _ _ _ _,(bN HB)⟩⟩
def Zd.l0 : Nat → List Int → List Int → Int → Option (Bool)
 | 0,_,_,_ => none
 | k + 1,x0,x1,x5 => if x5 < (x0.length : Int) then (if 0 ≤ x5 then (if x5 < (x1.length : Int) then (if (rd x0 x5) = (rd x1 x5) then (Zd.l0 k x0 x1 (wrap64 (x5 + 1))) else (some false)) else (none)) else (none)) else (some true)
def Zd.f (k : Nat) (l0 : List Int) (l1 : List Int) : Option (Bool) := if (l0.length : Int) = (l1.length : Int) then (Zd.l0 k l0 l1 0) else (some false)
theorem Zd.mono_l : ∀ k, (∀ y0 y1 y2, LeO (Zd.l0 k y0 y1 y2) (Zd.l0 (k + 1) y0 y1 y2))
 | 0 => fun _ _ _ r h => by simp [Zd.l0] at h
 | k + 1 => by
  have ih0 := Zd.mono_l k
  ·intro y0 y1 y2;unfold Zd.l0;exact lO
theorem Zd.mono : ∀ a0 a1 k, LeO (Zd.f k a0 a1) (Zd.f (k + 1) a0 a1) := by
 intro a0 a1 k;have ih0 := Zd.mono_l k;unfold Zd.f;exact lO
theorem Zd.calls (k : Nat) (A0 : Option Addr) (c0 : Nat) (l0 : List Int) (A1 : Option Addr) (c1 : Nat) (l1 : List Int) (r : Bool) (w : World) (hr0 : Kd.C (Kd.int .i64) w A0 l0.length l0) (hc0 : l0.length ≤ c0) (hr1 : Kd.C (Kd.int .i64) w A1 l1.length l1) (hc1 : l1.length ≤ c1) (h : Zd.f k l0 l1 = some r) :
 Calls Try.prog 12 #[.slice A0 l0.length c0,.slice A1 l1.length c1] w fun e w' => e = .returned (.bool r) ∧ Drawn0 w w' := by
 have HR0 := aK hr0;have HC0 := aK hc0;clear hr0 hc0;have HR1 := aK hr1;have HC1 := aK hc1;clear hr1 hc1;have H := h;clear h;unfold Zd.f at H
 by_cases c3 : (l0.length : Int) = (l1.length : Int)
 ·rw [if_pos c3] at H;have c3b0 := beq_iff_eq.mpr c3;have c3b1 := bne_eq_false_iff_eq.mpr c3;have c3b2 : (l0.length == l1.length) = true := by first | simpa using c3 | (simp at c3 ⊢;omega)
  clear c3;have H' := aK H;clear H;go_enter Try.func12,Try.ntmps12;go_wp2
  repeat (go_quiet (fail);try go_wp2)
  go_loopg [5] k (fun kq v5 w' => ∃ (x5_1 : Int),v5 = .int .i64 x5_1 ∧ Aside0 (Zd.l0 kq l0 l1 x5_1 = some r) ∧ Aside0 (kq ≤ k) ∧ Drawn0 w w')
  case atStart => exact ⟨(0),rD,H',⟨Nat.le_refl _⟩,dD⟩
  case round =>
   clear H';clear c3b0 c3b1 c3b2;obtain ⟨x5_1,rfl,HA,HK1,⟨m1,rfl⟩⟩ := hrel
   cases gk with
   | zero => exact absurd HA.out (by simp [Zd.l0])
   | succ k1 =>
    have H := HA.out;clear HA;simp only [Zd.l0] at H;replace H := iT H;obtain ⟨c4b0,H⟩|⟨c4b0,H⟩ := H
    ·replace H := iP H;obtain ⟨c5b0,H⟩ := H;replace H := iP H;obtain ⟨c6b0,H⟩ := H
     by_cases c7 : (rd l0 x5_1) = (rd l1 x5_1)
     ·rw [if_pos c7] at H;have c7b0 := beq_iff_eq.mpr c7;have c7b1 := bne_eq_false_iff_eq.mpr c7;clear c7;have H' := aK H;clear H;obtain ⟨ad565,rfl,hx565_0,p565,q565⟩ := aJ HR0.out x5_1;obtain ⟨ad566,rfl,hx566_0,p566,q566⟩ := aJ HR1.out x5_1;go_wp2
      repeat (go_quiet (fail);try go_wp2)
      go_roundg k1
      case measure => have := HK1.out;omega
      case rel => exact ⟨(wrap64 (x5_1 + 1)),rD,H',o1 HK1,dD⟩
     ·rw [if_neg c7] at H;have c7b0 := beq_eq_false_iff_ne.mpr c7;have c7b1 := bne_iff_ne.mpr c7;obtain rfl := Option.some.inj H;obtain ⟨ad565,rfl,hx565_0,p565,q565⟩ := aJ HR0.out x5_1;obtain ⟨ad566,rfl,hx566_0,p566,q566⟩ := aJ HR1.out x5_1;go_wp2
      repeat (go_quiet (fail);try go_wp2)
      go_ret;exact ⟨rD,dD⟩
    ·obtain rfl := Option.some.inj H;go_wp2
     repeat (go_quiet (fail);try go_wp2)
     go_ret;exact ⟨rD,dD⟩
 ·rw [if_neg c3] at H;have c3b0 := beq_eq_false_iff_ne.mpr c3;have c3b1 := bne_iff_ne.mpr c3;have c3b2 : (l0.length == l1.length) = false := by first | simpa using c3 | (simp at c3 ⊢;omega)
  obtain rfl := Option.some.inj H;go_enter Try.func12,Try.ntmps12;go_wp2
  repeat (go_quiet (fail);try go_wp2)
  go_ret;exact ⟨rD,dD⟩
def Zz.l0 : Nat → List Int → Int → Int → Option (Int)
 | 0,_,_,_ => none
 | k + 1,x0,x3,x4 => if x4 < (x0.length : Int) then (if 0 ≤ x4 then (Zz.l0 k x0 (mx x3 (rd x0 x4)) (wrap64 (x4 + 1))) else (none)) else (some x3)
def Zz.f (k : Nat) (l0 : List Int) : Option (Int) := if (l0.length : Int) < 1 then (none) else (if 0 < (l0.length : Int) then (Zz.l0 k l0 (rd l0 0) 1) else (none))
theorem Zz.mono_l : ∀ k, (∀ y0 y1 y2, LeO (Zz.l0 k y0 y1 y2) (Zz.l0 (k + 1) y0 y1 y2))
 | 0 => fun _ _ _ r h => by simp [Zz.l0] at h
 | k + 1 => by
  have ih0 := Zz.mono_l k
  ·intro y0 y1 y2;unfold Zz.l0;exact lO
theorem Zz.mono : ∀ a0 k, LeO (Zz.f k a0) (Zz.f (k + 1) a0) := by
 intro a0 k;have ih0 := Zz.mono_l k;unfold Zz.f;exact lO
theorem Zz.calls (k : Nat) (A0 : Option Addr) (c0 : Nat) (l0 : List Int) (r : Int) (w : World) (hr0 : Kd.C (Kd.int .i64) w A0 l0.length l0) (hc0 : l0.length ≤ c0) (h : Zz.f k l0 = some r) :
 Calls Try.prog 53 #[.slice A0 l0.length c0] w fun e w' => e = .returned (.int .i64 r) ∧ Below w.heap.size w w' := by
 have HR0 := aK hr0;have HC0 := aK hc0;clear hr0 hc0;have HB := aK (Below.refl w.heap.size w);have H := h;clear h;unfold Zz.f at H
 by_cases c2 : (l0.length : Int) < 1
 ·rw [if_pos c2] at H;exact absurd H (by simp)
 ·rw [if_neg c2] at H;have c2b0 := decide_eq_false c2;have c2b1 : decide (l0.length < 1) = false := decide_eq_false (by omega);clear c2
  by_cases c3 : 0 < (l0.length : Int)
  rotate_left
  ·rw [if_neg c3] at H;exact absurd H (by simp)
  rw [if_pos c3] at H;have c3b0 := decide_eq_true c3;have c3b1 : decide (0 < l0.length) = true := decide_eq_true (by omega);clear c3;have H' := aK H;clear H;have p588 : 0 ≤ (0 : Int) := (by omega);have q588 : 0 < (l0.length : Int) := dT;obtain ⟨ad588,e588,hx588_0⟩ := Kd.at_int HR0.out 0 p588 q588;cases e588;have qi588 : (0 < l0.length) = True := eq_true (by omega);(try rw [show ((0 : Int)).toNat = 0 from rfl] at hx588_0);(try rw [Addr.add_zero'] at hx588_0);replace p588 := eq_true p588;replace q588 := eq_true q588;go_enter Try.func53,Try.ntmps53;go_wp2
  go_loopg [3,4] k (fun kq v3 v4 w' => ∃ (x3_1 : Int) (x4_1 : Int),v3 = .int .i64 x3_1 ∧ v4 = .int .i64 x4_1 ∧ Aside0 (Zz.l0 kq l0 x3_1 x4_1 = some r) ∧ Aside0 (kq ≤ k) ∧ Aside0 (Below w.heap.size w w'))
  case atStart => exact ⟨(rd l0 0),(1),rD,rD,H',⟨Nat.le_refl _⟩,⟨bN HB⟩⟩
  case round =>
   clear H';clear c2b0 c2b1 c3b0 c3b1 hx588_0 p588 q588;obtain ⟨x3_1,x4_1,rfl,rfl,HA,HK1,HB⟩ := hrel
   cases gk with
   | zero => exact absurd HA.out (by simp [Zz.l0])
   | succ k1 =>
    have H := HA.out;clear HA;simp only [Zz.l0] at H;replace H := iT H;obtain ⟨c4b0,H⟩|⟨c4b0,H⟩ := H
    ·replace H := iP H;obtain ⟨c5b0,H⟩ := H;obtain ⟨ji6,hji6⟩ : ∃ j_ : Int,(mx x3_1 (rd l0 x4_1)) = j_ := ⟨_,rfl⟩;(first | rw [hji6] at H | simp only [hji6] at H);have hji6_ : (if x3_1 < (rd l0 x4_1) then (rd l0 x4_1) else x3_1) = ji6 := hji6;have H' := aK H;clear H;obtain ⟨ad589,e589,-,hx589_0,p589,q589⟩ := aI HR0.out HB x4_1;obtain rfl := iJ e589;go_wp2
     go_roundg k1
     case measure => have := HK1.out;omega
     case rel => exact ⟨(ji6),(wrap64 (x4_1 + 1)),(by first | rfl | (simp;done) | (simp only [← hji6] <;> (first | rfl | simp)) | (simp [*];done)),rD,H',o1 HK1,⟨bN HB⟩⟩
    ·obtain rfl := Option.some.inj H;go_wp2;go_ret;exact eR (bN HB)
def Zag.f (k : Nat) (l0 : List Int) : Option (Int) := if (l0.length : Int) = 0 then (some 0) else ((Zz.f k l0).bind fun t590 => (some (wrap64 (t590 + 1))))
theorem Zag.mono : ∀ a0 k, LeO (Zag.f k a0) (Zag.f (k + 1) a0) := by
 intro a0 k;unfold Zag.f;have m0 := Zz.mono;exact lO
theorem Zag.calls (k : Nat) (A0 : Option Addr) (c0 : Nat) (l0 : List Int) (r : Int) (w : World) (hr0 : Kd.C (Kd.int .i64) w A0 l0.length l0) (hc0 : l0.length ≤ c0) (h : Zag.f k l0 = some r) :
 Calls Try.prog 52 #[.slice A0 l0.length c0] w fun e w' => e = .returned (.int .i64 r) ∧ Below w.heap.size w w' := by
 have HR0 := aK hr0;have HC0 := aK hc0;clear hr0 hc0;have HB := aK (Below.refl w.heap.size w);have H := h;clear h;unfold Zag.f at H
 by_cases c2 : (l0.length : Int) = 0
 ·rw [if_pos c2] at H;have c2b0 := beq_iff_eq.mpr c2;have c2b1 := bne_eq_false_iff_eq.mpr c2;clear c2;obtain rfl := Option.some.inj H;go_enter Try.func52,Try.ntmps52;go_wp2;go_ret;exact eR (bN HB)
 ·rw [if_neg c2] at H;have c2b0 := beq_eq_false_iff_ne.mpr c2;have c2b1 := bne_iff_ne.mpr c2;have c2b2 : ¬ (l0 = []) := fun h_ => c2 (by rw [h_];rfl)
  replace H := bE H;obtain ⟨t590,A3,H⟩ := H;obtain rfl := Option.some.inj H;go_enter Try.func52,Try.ntmps52
  go_wp2_with ((with_reducible refine wP ?_);first | (refine gT 7 Try.func53 (Zz.calls k _ _ l0 t590 _ (cM (HR0.out)) HC0.out A3.out) ?_;intro w4 hb;replace HB := hB HB hb;clear hb))
  go_ret;exact eR (bN HB)
section
variable (V : Nat → List Int → Option Int)
mutual
def Ze.l0 : Nat → List Int → Int → List (List Int) → Option (List Int × Int)
 | 0,_,_,_ => none
 | k + 1,x6,x7,xqw => if x7 ≥ 0 then (if 0 ≤ x7 then (if x7 < (xqw.length : Int) then (Ze.l1 k x6 x7 (([] : List Int)) (rd_L2 xqw x7) ((rd_L2 xqw x7).length : Int) 0 xqw) else (none)) else (none)) else (some (x6,0))
def Ze.l1 : Nat → List Int → Int → List Int → List Int → Int → Int → List (List Int) → Option (List Int × Int)
 | 0,_,_,_,_,_,_,_ => none
 | k + 1,x6,x7,x8,x30,x31,x32,xqw => if x32 < x31 then (if 0 ≤ x32 then (if x32 < (x30.length : Int) then (if 0 ≤ (rd x30 x32) then (if (rd x30 x32) < (x6.length : Int) then (if x8.length < 17592186044416 then (Ze.l1 k x6 x7 (x8 ++ [rd x6 (rd x30 x32)]) x30 x31 (wrap64 (x32 + 1)) xqw) else (none)) else (none)) else (none)) else (none)) else (none)) else ((V k x8).bind fun t605 => (if 0 ≤ x7 then (if x7 < (x6.length : Int) then (Ze.l0 k (x6.set (x7 : Int).toNat t605) (wrap64 (x7 - 1)) xqw) else (none)) else (none)))
end
def Ze.f (k : Nat) (l0_0 : List (List Int)) : Option (List Int × Int) := (ZC.f k l0_0).bind fun t592 => (if t592 = true then (if 0 ≤ (l0_0.length : Int) then (if ((l0_0.length : Int) : Int).toNat ≤ 35184372088832 then ((some (List.replicate ((l0_0.length : Int) : Int).toNat 0 : List Int)).bind fun y593 => (Ze.l0 V k y593 (wrap64 ((y593.length : Int) - 1)) l0_0)) else (none)) else (none)) else (some (([] : List Int), 1)))
end
theorem Ze.mono_l (V : Nat → List Int → Option Int) (hm : ∀ a k, LeO (V k a) (V (k + 1) a)) : ∀ k, (∀ y0 y1 y2, LeO (Ze.l0 V k y0 y1 y2) (Ze.l0 V (k + 1) y0 y1 y2)) ∧ (∀ y0 y1 y2 y3 y4 y5 y6, LeO (Ze.l1 V k y0 y1 y2 y3 y4 y5 y6) (Ze.l1 V (k + 1) y0 y1 y2 y3 y4 y5 y6))
 | 0 => ⟨fun _ _ _ r h => by simp [Ze.l0] at h,fun _ _ _ _ _ _ _ r h => by simp [Ze.l1] at h⟩
 | k + 1 => by
  obtain ⟨ih0,ih1⟩ := Ze.mono_l V hm k;refine ⟨?_,?_⟩ <;> (intros;first | unfold Ze.l0 | unfold Ze.l1)
  all_goals repeat' first | (with_reducible exact ih0 _ _ _) | (with_reducible exact ih1 _ _ _ _ _ _ _) | (with_reducible exact ZC.mono _ _) | (with_reducible exact hm _ _) | (with_reducible exact LeO.refl _) | (with_reducible exact LeO.none _) | (with_reducible refine LeO.ite ?_ ?_) | (with_reducible refine LeO.bind ?_ (fun _ => ?_))
theorem Ze.mono (V : Nat → List Int → Option Int) (hm : ∀ a k, LeO (V k a) (V (k + 1) a)) : ∀ a0 k, LeO (Ze.f V k a0) (Ze.f V (k + 1) a0) := by
 intro a0 k;obtain ⟨ih0,ih1⟩ := Ze.mono_l V hm k;unfold Ze.f
 repeat' first | (with_reducible exact ih0 _ _ _) | (with_reducible exact ih1 _ _ _ _ _ _ _) | (with_reducible exact ZC.mono _ _) | (with_reducible exact hm _ _) | (with_reducible exact LeO.refl _) | (with_reducible exact LeO.none _) | (with_reducible refine LeO.ite ?_ ?_) | (with_reducible refine LeO.bind ?_ (fun _ => ?_))
theorem Ze.calls (V : Nat → List Int → Option Int) (cf : FuncId) (cap : Array Value) (hF : HasFn cf) (hV : ∀ (k : Nat) (A : Option Addr) (c : Nat) (xs : List Int) (r : Int) (w : World), Kd.C (Kd.int .i64) w A xs.length xs → xs.length ≤ c → V k xs = some r → Calls Try.prog cf (#[.slice A xs.length c] ++ cap) w fun e w' => e = .returned (.int .i64 r) ∧ Below w.heap.size w w') (k : Nat) (A0_0 : Option Addr) (c0_0 : Nat) (l0_0 : List (List Int)) (r1 : List Int) (r2 : Int) (w : World) (hr0_0 : Kd.C (Kd.slice 2 (Kd.int .i64)) w A0_0 l0_0.length l0_0) (hc0_0 : l0_0.length ≤ c0_0) (h : Ze.f V k l0_0 = some (r1, r2)) :
 Calls Try.prog 49 #[.agg #[.slice A0_0 l0_0.length c0_0],.func (.func cf) #[] cap] w fun e w' => ∃ v0_ : Value,e = .returned (.tuple #[v0_,.int .i64 r2]) ∧ Kd.R (Kd.int .i64) 2 w' w.heap.size (fun _ => True) v0_ r1 ∧ Below w.heap.size w w' := by
 have HF := aK hF;have HV := aK hV;clear hF hV;have hu26 := Try.underlying26;have HR0_0 := aK hr0_0;have HC0_0 := aK hc0_0;clear hr0_0 hc0_0;have HB := aK (Below.refl w.heap.size w);have H := h;clear h;unfold Ze.f at H;replace H := bE H;obtain ⟨t592,A3,H⟩ := H;replace H := iB H;obtain ⟨rfl,H⟩|⟨rfl,H⟩ := H
 ·by_cases c5 : 0 ≤ (l0_0.length : Int)
  rotate_left
  ·rw [if_neg c5] at H;exact absurd H (by simp)
  rw [if_pos c5] at H;have c5b0 := eq_true c5;have c5b1 := decide_eq_true c5;clear c5
  by_cases c6 : ((l0_0.length : Int) : Int).toNat ≤ 35184372088832
  rotate_left
  ·rw [if_neg c6] at H;exact absurd H (by simp)
  rw [if_pos c6] at H;have c6b0 := eq_true c6;have c6b1 := decide_eq_true c6;clear c6;replace H := sE H;obtain ⟨y593,hy593,H⟩ := H;have Ny593 := aK hy593;clear hy593;have H' := aK H;clear H;go_enter Try.func49,Try.ntmps49
  go_wp2_with (first | ((with_reducible refine wP ?_);refine boxE 2 #[.slice A0_0 l0_0.length c0_0] 26 ?_;intro gb591 hg w7 hbox hb;have BK591 := aK (hbox);have GW591 := aK (zG HB hg);have GE591 := aK (zG HB hg);replace HB := hB HB hb;clear hb hbox hg;have hcz8_0 := z0 BK591;have hfz8_0 := fZ BK591 0) | ((with_reducible refine wP ?_);refine gT 12 Try.func47 (ZC.calls k _ _ l0_0 true _ (cB HR0_0 HB) HC0_0.out A3.out) ?_;intro w9 hb;replace BK591 := kB BK591 hb;replace HB := hB HB hb;clear hb;have hcz10_0 := z0 BK591;have hfz10_0 := fZ BK591 0) | ((with_reducible refine gate_dst (N := 17) rfl ?_);refine Kd.R_make (Kd.int .i64) _ 2 rfl (N := 17) rfl 29 _ _ rfl (l0_0.length : Int) rfl rfl Try.underlying29 (.int .i64 0) 8 info2 rfl (by decide) (by omega) 0 (ok := fun _ => True) (okp := fun _ => True) rfl (fun _ hk => hk) trivial (of_decide_eq_true (by first | (with_reducible assumption) | assumption)) (Nat.le_trans (Nat.mul_le_mul_right _ (of_decide_eq_true (by first | (with_reducible assumption) | assumption) : (l0_0.length : Int).toNat ≤ 35184372088832)) (by omega)) (Below.refl _ _) (Nat.le_refl _) ?_;intro v594 w11 ho12 hb hg_ hnew_;clear hg_ hnew_;(first | rw [← Ny593.out] at ho12 | (simp only [Int.reduceToNat] at ho12;rw [← Ny593.out] at ho12));have HO595 := rl ho12 HB;replace BK591 := kB BK591 hb;replace HB := hB HB hb;clear hb ho12;obtain ⟨Ao13,co13,eo13⟩ := Kd.R_slice HO595.out;subst eo13))
  go_loopg [7] k (fun kq v7 w' => ∃ (x6_1 : List Int) (x7_1 : Int),v7 = .int .i64 x7_1 ∧ Aside0 (Ze.l0 V kq x6_1 x7_1 l0_0 = some (r1,r2)) ∧ Aside0 (kq ≤ k) ∧ Aside0 (Kd.R (Kd.int .i64) 2 w' w.heap.size (fun _ => True) (.slice Ao13 y593.length co13) x6_1) ∧ Aside0 (w'.heap[gb591]? = some (.cells #[(.slice A0_0 l0_0.length c0_0)] 26 (0,0))) ∧ Aside0 (Below w.heap.size w w'))
  case atStart => exact ⟨(y593),(wrap64 ((y593.length : Int) - 1)),rD,H',⟨Nat.le_refl _⟩,⟨rN HO595⟩,⟨kN BK591⟩,⟨bN HB⟩⟩
  case round =>
   clear H';clear c5b0 c5b1 c6b0 c6b1 hcz10_0 hcz8_0 hfz10_0 hfz8_0;obtain ⟨x6_1,x7_1,rfl,HA,HK1,HO_6,BK591,HB⟩ := hrel;have hl6_1 := (Kd.R_reads' HO_6.out).1;rw [hl6_1] at HO_6;(try simp only [hl6_1]);(try simp only [hl6_1] at BK591)
   cases gk with
   | zero => exact absurd HA.out (by simp [Ze.l0])
   | succ k1 =>
    have H := HA.out;clear HA;simp only [Ze.l0] at H;replace H := iT H;obtain ⟨c14b0,H⟩|⟨c14b0,H⟩ := H
    ·obtain ⟨y596,hy596⟩ : ∃ y_ : List Int,y_ = (([] : List Int)) := ⟨_,rfl⟩;rw [← hy596] at H;have Ny596 := aK hy596;clear hy596;replace H := iP H;obtain ⟨c15b0,H⟩ := H;replace H := iP H;obtain ⟨c16b0,H⟩ := H;have H' := aK H;clear H
     go_wp2_with ((with_reducible refine wP ?_);first | (refine Kd.R_lit (Kd.int .i64) _ 2 ?hg (N := 25) ?hd (xs := ([] : List Int)) (inner := []) (ok := fun _ => True) (okp := fun _ => True) ?hr ?hp (fun _ hk => hk) trivial (Below.refl _ _) (Nat.le_refl _) (by simp) ?_;(case hd => rfl);(case hg => rfl);(case hr => first | (go_simp;done) | (go_simp;rfl));(case hp => exact (Reps.none _ _));intro v597 w17 ho18 hb hg_ hnew_;clear hg_ hnew_;(first | rw [← Ny596.out] at ho18 | (simp only [Int.reduceToNat] at ho18;rw [← Ny596.out] at ho18));have HO598 := rl (rn ho18 HO_6) HB;replace HO_6 := rL HO_6 (rb ho18) hb;replace BK591 := kB BK591 hb;replace HB := hB HB hb;clear hb ho18;have hcz19_0 := z0 BK591;have hfz19_0 := fZ BK591 0;obtain ⟨ad599,A599_0,c599_0,rfl,-,hx599_0,HR599_0,HC599_0,p599,q599⟩ := aL HR0_0.out HB x7_1))
     go_loopg [8,32] k1 (fun kq v8 v32 w' => ∃ (x8_2 : List Int) (x32_2 : Int),v32 = .int .i64 x32_2 ∧ Aside0 (Ze.l1 V kq x6_1 x7_1 x8_2 (rd_L2 l0_0 x7_1) ((rd_L2 l0_0 x7_1).length : Int) x32_2 l0_0 = some (r1,r2)) ∧ Aside0 (kq ≤ k1) ∧ Aside0 (Kd.R (Kd.int .i64) 2 w' w.heap.size (fun k_ => some k_ ≠ (v8 : Value).ownBlock) (.slice Ao13 x6_1.length co13) x6_1) ∧ Aside0 (Kd.R (Kd.int .i64) 2 w' w.heap.size (fun k_ => some k_ ≠ ((.slice Ao13 x6_1.length co13) : Value).ownBlock) v8 x8_2) ∧ Aside0 (w'.heap[gb591]? = some (.cells #[(.slice (some ad599) l0_0.length c0_0)] 26 (0,0))) ∧ Aside0 (Below w.heap.size w w'))
     case atStart => exact ⟨(y596),(0),rD,H',⟨Nat.le_refl _⟩,⟨by (try simp only [hl6_1]);(with_reducible repeat (first | apply Kd.R_alloc | apply Kd.R_drewN | apply Kd.R_drew));exact Kd.R_mono HO_6.out (fun _ hk => hk.2)⟩,⟨by (try simp only [hl6_1]);(with_reducible repeat (first | apply Kd.R_alloc | apply Kd.R_drewN | apply Kd.R_drew));exact Kd.R_mono HO598.out (fun _ hk => hk.2)⟩,⟨by (try simp only [hl6_1]);(with_reducible repeat (first | refine blk_drewN ?_ _ | refine blk_drew ?_ | refine blk_alloc ?_ _));exact BK591.out⟩,⟨bN HB⟩⟩
     case round =>
      clear H';clear c14b0 c15b0 c16b0 hcz19_0 hfz19_0 hx599_0 p599 q599;obtain ⟨x8_2,x32_2,rfl,HA,HK2,HO_6,HO_8,BK591,HB⟩ := hrel
      cases gk with
      | zero => exact absurd HA.out (by simp [Ze.l1])
      | succ k2 =>
       have H := HA.out;clear HA;simp only [Ze.l1] at H;replace H := iT H;obtain ⟨c20b0,H⟩|⟨c20b0,H⟩ := H
       ·replace H := iP H;obtain ⟨c21b0,H⟩ := H;replace H := iP H;obtain ⟨c22b0,H⟩ := H;replace H := iP H;obtain ⟨c23b0,H⟩ := H;replace H := iP H;obtain ⟨c24b0,H⟩ := H;replace H := iA H;obtain ⟨LMc25,H⟩ := H;obtain ⟨y602,hy602⟩ : ∃ y_ : List Int,y_ = (x8_2 ++ [rd x6_1 (rd (rd_L2 l0_0 x7_1) x32_2)]) := ⟨_,rfl⟩;rw [← hy602] at H;have Ny602 := aK hy602;clear hy602;have H' := aK H;clear H;obtain ⟨ad600,rfl,-,hx600_0,p600,q600⟩ := aI HR599_0.out HB x32_2;obtain ⟨ad601,rfl,hx601_0,p601,q601⟩ := aJ (rr HO_6) (rd (rd_L2 l0_0 x7_1) x32_2)
        go_wp2_with (first | ((with_reducible refine gate_builtin (b := .append) (xs := #[.tmp 36,.tmp 41]) rfl ?_);at_builtin;refine Kd.R_append (Kd.int .i64) (w0 := w) w.heap.size rfl (.tmp 36) (.tmp 41) 29 2 (.int .i64 0) 8 rfl Try.underlying29 info2 rfl (by decide) (by omega) u8 x8_2 (rd x6_1 (rd (rd_L2 l0_0 x7_1) x32_2)) [.int .i64 (rd x6_1 (rd (rd_L2 l0_0 x7_1) x32_2))] (fun k_ => some k_ ≠ (.slice (some ad601) x6_1.length co13 : Value).ownBlock) (fun _ => False) rfl rfl ?aP (fun _ hk => hk.elim) ?aF ?aO ?aB ?aS ?aL ?_;(case aP => exact rfl);(case aB => exact (bN HB));(case aF => exact (fun k_ hk => Kd.fresh' (rt HO_6) k_ hk));(case aO => exact (rN HO_8));(case aS => exact (below_size (bN HB)));(case aL => have := LMc25.out;omega);intro v603 w26 ho hb hg hat;rw [← Ny602.out] at ho;replace HO_6 := aK (Kd.R_after (ok := (fun _ => True)) (rM (Kd.R_mono HO_6.out (fun _ hk => ⟨trivial,hk⟩))) hg hat);replace BK591 := aK (blk_grown (g := gb591) (o := .cells #[.slice (some ad599) l0_0.length c0_0] 26 (0,0)) (kN BK591) hg (Kd.R_ne HO_8.out BK591.out (by decide)));replace HB := aK (hb);have HO604 := aK (ho);clear HO_8;clear ho hb hg hat))
        go_roundg k2
        case measure => have := HK1.out;have := HK2.out;omega
        case rel => exact ⟨(y602),(wrap64 (x32_2 + 1)),rD,H',o2 HK1 HK2,⟨by (try simp only [hl6_1]);(with_reducible repeat (first | apply Kd.R_alloc | apply Kd.R_drewN | apply Kd.R_drew));exact Kd.R_mono HO_6.out (fun _ hk => hk.2)⟩,⟨by (try simp only [hl6_1]);(with_reducible repeat (first | apply Kd.R_alloc | apply Kd.R_drewN | apply Kd.R_drew));exact HO604.out⟩,⟨by (try simp only [hl6_1]);(with_reducible repeat (first | refine blk_drewN ?_ _ | refine blk_drew ?_ | refine blk_alloc ?_ _));exact BK591.out⟩,⟨bN HB⟩⟩
       ·replace H := bE H;obtain ⟨t605,A27,H⟩ := H;replace H := iP H;obtain ⟨c28b0,H⟩ := H;replace H := iP H;obtain ⟨c29b0,H⟩ := H;obtain ⟨y606,hy606⟩ : ∃ y_ : List Int,y_ = (x6_1.set (x7_1 : Int).toNat t605) := ⟨_,rfl⟩;rw [← hy606] at H;have Ny606 := aK hy606;clear hy606;have H' := aK H;clear H;obtain ⟨Ao31,co31,eo31⟩ := Kd.R_slice HO_8.out;subst eo31
        go_wp2_with (first | ((with_reducible refine gate_dst (N := 48) rfl ?_);refine goesV_ (some 48) rfl rfl cf cap HF.out #[.slice Ao31 x8_2.length co31] rfl rfl (by (try simp only [List.map_toArray,List.map_cons,List.map_nil]);first | done | rfl | (simp only [List.length_drop,List.length_take];rfl)) ?_;(with_reducible refine (HV.out k2 _ _ x8_2 t605 _ ?side1 ?side2 A27.out).mono ?_);(case side1 => exact cR HO_8);(case side2 => exact (rq HO_8));rintro e w32 ⟨rfl,hb⟩;refine ⟨_,rfl,?_⟩;replace HO_6 := rB HO_6 hb;replace HO_8 := rB HO_8 hb;replace BK591 := kB BK591 hb;replace HB := hB HB hb;clear hb;have p30 : 0 ≤ (x7_1 : Int) := of_decide_eq_true (by first | (with_reducible assumption) | assumption);have q30 : (x7_1 : Int) < ((x6_1.length : Int) : Int) := of_decide_eq_true (by first | (with_reducible assumption) | assumption);obtain ⟨go30,co30,eo30,gb30,gl30,cl30,HG30⟩ := Kd.R_form HO_6.out (by omega);(first | cases eo30 | (injection eo30 with ea_ en_ ec_;(first | subst ea_ | (injection ea_ with ea_;subst ea_));subst ec_;clear en_));have GB30 := aK gb30;have GG30 := aK HG30;clear gb30 gl30 HG30;obtain ⟨hx30_0,hf30_0⟩ := Kd.R_celln 0 HO_6.out (x7_1 : Int) p30 q30;replace p30 := eq_true p30;replace q30 := eq_true q30;obtain ⟨hy33_,hz33_⟩ := Kd.R_celln 0 HO_6.out (x7_1 : Int) (of_decide_eq_true (by first | (with_reducible assumption) | assumption)) (of_decide_eq_true (by first | (with_reducible assumption) | assumption));have HP33 := Kd.R_putg HO_6.out (x7_1 : Int) t605) | ((with_reducible refine gate_store (t := 2) (p := 49) rfl ?_);refine store_event (t := 2) (p := 49) (v := ?vo_w34) (w1 := (w32.setCell ⟨go30,(x7_1 : Int).toNat,none⟩ (.int .i64 t605))) ?hg ?ho ?hn ?hr ?_;(case ho => rfl);(case hg => rfl);(case hn => rfl);(case hr => first | (go_simp;done) | (go_simp;rfl));intro w34 hw;have hg : w32.grownBy w34 (some go30) := (by rw [hw];exact HP33.2);have hp_ : Kd.R (Kd.int .i64) 2 w34 w.heap.size (fun k_ => some k_ ≠ (.slice Ao31 x8_2.length co31 : Value).ownBlock) (.slice (some ⟨go30,0,none⟩) x6_1.length co13) y606 := (by rw [hw,Ny606.out];exact HP33.1);clear HP33;replace HO_8 := aK (Kd.R_after (v := (.slice (some ⟨go30,0,none⟩) x6_1.length co13)) (v1 := (.slice (some ⟨go30,0,none⟩) x6_1.length co13)) (ok := (fun _ => True)) (rM (Kd.R_mono HO_8.out (fun _ hk => ⟨trivial,hk⟩))) hg (.inl rfl));replace BK591 := aK (blk_grown (g := gb591) (o := .cells #[.slice (some ad599) l0_0.length c0_0] 26 (0,0)) (kN BK591) hg (Kd.R_ne HO_6.out BK591.out (by decide)));replace HO_6 := aK (hp_);replace HB := aK ((by rw [hw];exact below_set (HB.out) GB30.out : Below w.heap.size w w34));clear hg hw hp_))
        (try simp only [← hl6_1])
        go_roundg k2
        case measure => have := HK1.out;have := HK2.out;omega
        case rel => exact ⟨(y606),(wrap64 (x7_1 - 1)),rD,H',o2 HK1 HK2,⟨by (try simp only [hl6_1]);(with_reducible repeat (first | apply Kd.R_alloc | apply Kd.R_drewN | apply Kd.R_drew));exact Kd.R_mono HO_6.out (fun _ hk => trivial)⟩,⟨by (try simp only [hl6_1]);(with_reducible repeat (first | refine blk_drewN ?_ _ | refine blk_drew ?_ | refine blk_alloc ?_ _));exact BK591.out⟩,⟨bN HB⟩⟩
    ·simp only [Option.some.injEq,Prod.mk.injEq] at H;obtain ⟨rfl,rfl⟩ := H;go_wp2;go_ret2;exact ⟨_,eR ⟨by (with_reducible repeat (first | apply Kd.R_alloc | apply Kd.R_drewN | apply Kd.R_drew));exact HO_6.out,(bN HB)⟩⟩
 ·simp only [Option.some.injEq,Prod.mk.injEq] at H;obtain ⟨rfl,rfl⟩ := H;go_enter Try.func49,Try.ntmps49
  go_wp2_with ((with_reducible refine wP ?_);first | (refine boxE 2 #[.slice A0_0 l0_0.length c0_0] 26 ?_;intro gb591 hg w35 hbox hb;have BK591 := aK (hbox);have GW591 := aK (zG HB hg);have GE591 := aK (zG HB hg);replace HB := hB HB hb;clear hb hbox hg;have hcz36_0 := z0 BK591;have hfz36_0 := fZ BK591 0) | (refine gT 12 Try.func47 (ZC.calls k _ _ l0_0 false _ (cB HR0_0 HB) HC0_0.out A3.out) ?_;intro w37 hb;replace BK591 := kB BK591 hb;replace HB := hB HB hb;clear hb))
  go_ret2;exact ⟨_,eR ⟨by first | exact Kd.R_nil _ _ _ _ _ | exact Kd.N_nil _ _ _ _ _ | exact Kd.V_nil _ _ _ _ _ | exact Kd.Q_nil _ _ _ _ _ | exact Kd.S_nil _ _ _ _ _,(bN HB)⟩⟩
def ZA.l0 : Nat → List Int → Int → Int → Option (Int)
 | 0,_,_,_ => none
 | k + 1,x0,x3,x4 => if x4 < (x0.length : Int) then (if 0 ≤ x4 then (ZA.l0 k x0 (mn x3 (rd x0 x4)) (wrap64 (x4 + 1))) else (none)) else (some x3)
def ZA.f (k : Nat) (l0 : List Int) : Option (Int) := if (l0.length : Int) < 1 then (none) else (if 0 < (l0.length : Int) then (ZA.l0 k l0 (rd l0 0) 1) else (none))
theorem ZA.mono_l : ∀ k, (∀ y0 y1 y2, LeO (ZA.l0 k y0 y1 y2) (ZA.l0 (k + 1) y0 y1 y2))
 | 0 => fun _ _ _ r h => by simp [ZA.l0] at h
 | k + 1 => by
  have ih0 := ZA.mono_l k
  ·intro y0 y1 y2;unfold ZA.l0;exact lO
theorem ZA.mono : ∀ a0 k, LeO (ZA.f k a0) (ZA.f (k + 1) a0) := by
 intro a0 k;have ih0 := ZA.mono_l k;unfold ZA.f;exact lO
theorem ZA.calls (k : Nat) (A0 : Option Addr) (c0 : Nat) (l0 : List Int) (r : Int) (w : World) (hr0 : Kd.C (Kd.int .i64) w A0 l0.length l0) (hc0 : l0.length ≤ c0) (h : ZA.f k l0 = some r) :
 Calls Try.prog 51 #[.slice A0 l0.length c0] w fun e w' => e = .returned (.int .i64 r) ∧ Below w.heap.size w w' := by
 have HR0 := aK hr0;have HC0 := aK hc0;clear hr0 hc0;have HB := aK (Below.refl w.heap.size w);have H := h;clear h;unfold ZA.f at H
 by_cases c2 : (l0.length : Int) < 1
 ·rw [if_pos c2] at H;exact absurd H (by simp)
 ·rw [if_neg c2] at H;have c2b0 := decide_eq_false c2;have c2b1 : decide (l0.length < 1) = false := decide_eq_false (by omega);clear c2
  by_cases c3 : 0 < (l0.length : Int)
  rotate_left
  ·rw [if_neg c3] at H;exact absurd H (by simp)
  rw [if_pos c3] at H;have c3b0 := decide_eq_true c3;have c3b1 : decide (0 < l0.length) = true := decide_eq_true (by omega);clear c3;have H' := aK H;clear H;have p607 : 0 ≤ (0 : Int) := (by omega);have q607 : 0 < (l0.length : Int) := dT;obtain ⟨ad607,e607,hx607_0⟩ := Kd.at_int HR0.out 0 p607 q607;cases e607;have qi607 : (0 < l0.length) = True := eq_true (by omega);(try rw [show ((0 : Int)).toNat = 0 from rfl] at hx607_0);(try rw [Addr.add_zero'] at hx607_0);replace p607 := eq_true p607;replace q607 := eq_true q607;go_enter Try.func51,Try.ntmps51;go_wp2
  go_loopg [3,4] k (fun kq v3 v4 w' => ∃ (x3_1 : Int) (x4_1 : Int),v3 = .int .i64 x3_1 ∧ v4 = .int .i64 x4_1 ∧ Aside0 (ZA.l0 kq l0 x3_1 x4_1 = some r) ∧ Aside0 (kq ≤ k) ∧ Aside0 (Below w.heap.size w w'))
  case atStart => exact ⟨(rd l0 0),(1),rD,rD,H',⟨Nat.le_refl _⟩,⟨bN HB⟩⟩
  case round =>
   clear H';clear c2b0 c2b1 c3b0 c3b1 hx607_0 p607 q607;obtain ⟨x3_1,x4_1,rfl,rfl,HA,HK1,HB⟩ := hrel
   cases gk with
   | zero => exact absurd HA.out (by simp [ZA.l0])
   | succ k1 =>
    have H := HA.out;clear HA;simp only [ZA.l0] at H;replace H := iT H;obtain ⟨c4b0,H⟩|⟨c4b0,H⟩ := H
    ·replace H := iP H;obtain ⟨c5b0,H⟩ := H;obtain ⟨ji6,hji6⟩ : ∃ j_ : Int,(mn x3_1 (rd l0 x4_1)) = j_ := ⟨_,rfl⟩;(first | rw [hji6] at H | simp only [hji6] at H);have hji6_ : (if (rd l0 x4_1) < x3_1 then (rd l0 x4_1) else x3_1) = ji6 := hji6;have H' := aK H;clear H;obtain ⟨ad608,e608,-,hx608_0,p608,q608⟩ := aI HR0.out HB x4_1;obtain rfl := iJ e608;go_wp2
     go_roundg k1
     case measure => have := HK1.out;omega
     case rel => exact ⟨(ji6),(wrap64 (x4_1 + 1)),(by first | rfl | (simp;done) | (simp only [← hji6] <;> (first | rfl | simp)) | (simp [*];done)),rD,H',o1 HK1,⟨bN HB⟩⟩
    ·obtain rfl := Option.some.inj H;go_wp2;go_ret;exact eR (bN HB)
def ZV.f (k : Nat) (l0 : List Int) : Option (Int) := if (l0.length : Int) = 0 then (some 0) else ((ZA.f k l0).bind fun t609 => (some (wrap64 (t609 + 1))))
theorem ZV.mono : ∀ a0 k, LeO (ZV.f k a0) (ZV.f (k + 1) a0) := by
 intro a0 k;unfold ZV.f;have m0 := ZA.mono;exact lO
theorem ZV.calls (k : Nat) (A0 : Option Addr) (c0 : Nat) (l0 : List Int) (r : Int) (w : World) (hr0 : Kd.C (Kd.int .i64) w A0 l0.length l0) (hc0 : l0.length ≤ c0) (h : ZV.f k l0 = some r) :
 Calls Try.prog 50 #[.slice A0 l0.length c0] w fun e w' => e = .returned (.int .i64 r) ∧ Below w.heap.size w w' := by
 have HR0 := aK hr0;have HC0 := aK hc0;clear hr0 hc0;have HB := aK (Below.refl w.heap.size w);have H := h;clear h;unfold ZV.f at H
 by_cases c2 : (l0.length : Int) = 0
 ·rw [if_pos c2] at H;have c2b0 := beq_iff_eq.mpr c2;have c2b1 := bne_eq_false_iff_eq.mpr c2;clear c2;obtain rfl := Option.some.inj H;go_enter Try.func50,Try.ntmps50;go_wp2;go_ret;exact eR (bN HB)
 ·rw [if_neg c2] at H;have c2b0 := beq_eq_false_iff_ne.mpr c2;have c2b1 := bne_iff_ne.mpr c2;have c2b2 : ¬ (l0 = []) := fun h_ => c2 (by rw [h_];rfl)
  replace H := bE H;obtain ⟨t609,A3,H⟩ := H;obtain rfl := Option.some.inj H;go_enter Try.func50,Try.ntmps50
  go_wp2_with ((with_reducible refine wP ?_);first | (refine gT 7 Try.func51 (ZA.calls k _ _ l0 t609 _ (cM (HR0.out)) HC0.out A3.out) ?_;intro w4 hb;replace HB := hB HB hb;clear hb))
  go_ret;exact eR (bN HB)
theorem ZT.has50 : HasFn 50 := ⟨_, Try.func50, by kernel_rfl, rfl⟩
theorem ZT.hv50 : ∀ (k : Nat) (A : Option Addr) (c : Nat) (xs : List Int) (r : Int) (w : World), Kd.C (Kd.int .i64) w A xs.length xs → xs.length ≤ c → ZV.f k xs = some r → Calls Try.prog 50 (#[.slice A xs.length c] ++ #[]) w fun e w' => e = .returned (.int .i64 r) ∧ Below w.heap.size w w' := by
 intro k A c xs r w hr hc h;rw [Array.append_empty]
 first
 | exact ZV.calls k A c xs r w hr hc h
 | exact (ZV.calls k A c xs r w hr hc h).mono (fun _ _ h_ => ⟨h_.1,h_.2.below⟩)
def ZT.f (k : Nat) (l0_0 : List (List Int)) : Option (List Int × Int) := (Ze.f ZV.f k l0_0).bind fun bt611 => (some (bt611.1, bt611.2))
theorem ZT.mono : ∀ a0 k, LeO (ZT.f k a0) (ZT.f (k + 1) a0) := by
 intro a0 k;unfold ZT.f
 repeat' first | (with_reducible exact Ze.mono ZV.f ZV.mono _ _) | (with_reducible exact LeO.refl _) | (with_reducible exact LeO.none _) | (with_reducible refine LeO.ite ?_ ?_) | (with_reducible refine LeO.bind ?_ (fun _ => ?_))
theorem ZT.calls (k : Nat) (A0_0 : Option Addr) (c0_0 : Nat) (l0_0 : List (List Int)) (r1 : List Int) (r2 : Int) (w : World) (hr0_0 : Kd.C (Kd.slice 2 (Kd.int .i64)) w A0_0 l0_0.length l0_0) (hc0_0 : l0_0.length ≤ c0_0) (h : ZT.f k l0_0 = some (r1, r2)) :
 Calls Try.prog 15 #[.agg #[.slice A0_0 l0_0.length c0_0]] w fun e w' => ∃ v0_ : Value,e = .returned (.tuple #[v0_,.int .i64 r2]) ∧ Kd.R (Kd.int .i64) 2 w' w.heap.size (fun _ => True) v0_ r1 ∧ Below w.heap.size w w' := by
 have hu26 := Try.underlying26;have HR0_0 := aK hr0_0;have HC0_0 := aK hc0_0;clear hr0_0 hc0_0;have HB := aK (Below.refl w.heap.size w);have H := h;clear h;unfold ZT.f at H;replace H := bE H;obtain ⟨⟨t611,t614⟩,A2,H⟩ := H;dsimp only at H;simp only [Option.some.injEq,Prod.mk.injEq] at H;obtain ⟨rfl,rfl⟩ := H;go_enter Try.func15,Try.ntmps15
 go_wp2_with ((with_reducible refine wP ?_);first | (refine boxE 1 #[.slice A0_0 l0_0.length c0_0] 26 ?_;intro gb610 hg w3 hbox hb;have BK610 := aK (hbox);have GW610 := aK (zG HB hg);have GE610 := aK (zG HB hg);replace HB := hB HB hb;clear hb hbox hg;have hcz4_0 := z0 BK610;have hfz4_0 := fZ BK610 0) | (refine gS 5 Try.func49 (Ze.calls ZV.f 50 #[] ZT.has50 ZT.hv50 k _ _ l0_0 t611 t614 _ (cB HR0_0 HB) HC0_0.out A2.out) ?_;rintro e w5 ⟨v612,rfl,ho0,hb⟩;refine ⟨_,rfl,?_⟩;have HO613 := rl ho0 HB;replace BK610 := kB BK610 hb;replace HB := hB HB hb;clear hb ho0))
 go_ret2;exact ⟨_,eR ⟨by (with_reducible repeat (first | apply Kd.R_alloc | apply Kd.R_drewN | apply Kd.R_drew));exact HO613.out,(bN HB)⟩⟩
theorem ZY.has52 : HasFn 52 := ⟨_, Try.func52, by kernel_rfl, rfl⟩
theorem ZY.hv52 : ∀ (k : Nat) (A : Option Addr) (c : Nat) (xs : List Int) (r : Int) (w : World), Kd.C (Kd.int .i64) w A xs.length xs → xs.length ≤ c → Zag.f k xs = some r → Calls Try.prog 52 (#[.slice A xs.length c] ++ #[]) w fun e w' => e = .returned (.int .i64 r) ∧ Below w.heap.size w w' := by
 intro k A c xs r w hr hc h;rw [Array.append_empty]
 first
 | exact Zag.calls k A c xs r w hr hc h
 | exact (Zag.calls k A c xs r w hr hc h).mono (fun _ _ h_ => ⟨h_.1,h_.2.below⟩)
def ZY.f (k : Nat) (l0_0 : List (List Int)) : Option (List Int × Int) := (Ze.f Zag.f k l0_0).bind fun bt616 => (some (bt616.1, bt616.2))
theorem ZY.mono : ∀ a0 k, LeO (ZY.f k a0) (ZY.f (k + 1) a0) := by
 intro a0 k;unfold ZY.f
 repeat' first | (with_reducible exact Ze.mono Zag.f Zag.mono _ _) | (with_reducible exact LeO.refl _) | (with_reducible exact LeO.none _) | (with_reducible refine LeO.ite ?_ ?_) | (with_reducible refine LeO.bind ?_ (fun _ => ?_))
theorem ZY.calls (k : Nat) (A0_0 : Option Addr) (c0_0 : Nat) (l0_0 : List (List Int)) (r1 : List Int) (r2 : Int) (w : World) (hr0_0 : Kd.C (Kd.slice 2 (Kd.int .i64)) w A0_0 l0_0.length l0_0) (hc0_0 : l0_0.length ≤ c0_0) (h : ZY.f k l0_0 = some (r1, r2)) :
 Calls Try.prog 16 #[.agg #[.slice A0_0 l0_0.length c0_0]] w fun e w' => ∃ v0_ : Value,e = .returned (.tuple #[v0_,.int .i64 r2]) ∧ Kd.R (Kd.int .i64) 2 w' w.heap.size (fun _ => True) v0_ r1 ∧ Below w.heap.size w w' := by
 have hu26 := Try.underlying26;have HR0_0 := aK hr0_0;have HC0_0 := aK hc0_0;clear hr0_0 hc0_0;have HB := aK (Below.refl w.heap.size w);have H := h;clear h;unfold ZY.f at H;replace H := bE H;obtain ⟨⟨t616,t619⟩,A2,H⟩ := H;dsimp only at H;simp only [Option.some.injEq,Prod.mk.injEq] at H;obtain ⟨rfl,rfl⟩ := H;go_enter Try.func16,Try.ntmps16
 go_wp2_with ((with_reducible refine wP ?_);first | (refine boxE 1 #[.slice A0_0 l0_0.length c0_0] 26 ?_;intro gb615 hg w3 hbox hb;have BK615 := aK (hbox);have GW615 := aK (zG HB hg);have GE615 := aK (zG HB hg);replace HB := hB HB hb;clear hb hbox hg;have hcz4_0 := z0 BK615;have hfz4_0 := fZ BK615 0) | (refine gS 5 Try.func49 (Ze.calls Zag.f 52 #[] ZY.has52 ZY.hv52 k _ _ l0_0 t616 t619 _ (cB HR0_0 HB) HC0_0.out A2.out) ?_;rintro e w5 ⟨v617,rfl,ho0,hb⟩;refine ⟨_,rfl,?_⟩;have HO618 := rl ho0 HB;replace BK615 := kB BK615 hb;replace HB := hB HB hb;clear hb ho0))
 go_ret2;exact ⟨_,eR ⟨by (with_reducible repeat (first | apply Kd.R_alloc | apply Kd.R_drewN | apply Kd.R_drew));exact HO618.out,(bN HB)⟩⟩
def ZN.l0 : Nat → List Int → Int → Int → Option (Bool)
 | 0,_,_,_ => none
 | k + 1,x0,x1,x5 => if x5 < (x0.length : Int) then (if 0 ≤ x5 then (if (rd x0 x5) = x1 then (some true) else (ZN.l0 k x0 x1 (wrap64 (x5 + 1)))) else (none)) else (some false)
def ZN.f (k : Nat) (l0 : List Int) (a1 : Int) : Option (Bool) := ZN.l0 k l0 a1 0
theorem ZN.mono_l : ∀ k, (∀ y0 y1 y2, LeO (ZN.l0 k y0 y1 y2) (ZN.l0 (k + 1) y0 y1 y2))
 | 0 => fun _ _ _ r h => by simp [ZN.l0] at h
 | k + 1 => by
  have ih0 := ZN.mono_l k
  ·intro y0 y1 y2;unfold ZN.l0;exact lO
theorem ZN.mono : ∀ a0 a1 k, LeO (ZN.f k a0 a1) (ZN.f (k + 1) a0 a1) := by
 intro a0 a1 k;have ih0 := ZN.mono_l k;unfold ZN.f;exact lO
theorem ZN.calls (k : Nat) (A0 : Option Addr) (c0 : Nat) (l0 : List Int) (a1 : Int) (r : Bool) (w : World) (hr0 : Kd.C (Kd.int .i64) w A0 l0.length l0) (hc0 : l0.length ≤ c0) (h : ZN.f k l0 a1 = some r) :
 Calls Try.prog 17 #[.slice A0 l0.length c0,.int .i64 a1] w fun e w' => e = .returned (.bool r) ∧ Drawn0 w w' := by
 have HR0 := aK hr0;have HC0 := aK hc0;clear hr0 hc0;have H := h;clear h;unfold ZN.f at H;have H' := aK H;clear H;go_enter Try.func17,Try.ntmps17;go_wp2
 go_loopg [5] k (fun kq v5 w' => ∃ (x5_1 : Int),v5 = .int .i64 x5_1 ∧ Aside0 (ZN.l0 kq l0 a1 x5_1 = some r) ∧ Aside0 (kq ≤ k) ∧ Drawn0 w w')
 case atStart => exact ⟨(0),rD,H',⟨Nat.le_refl _⟩,dD⟩
 case round =>
  clear H';obtain ⟨x5_1,rfl,HA,HK1,⟨m1,rfl⟩⟩ := hrel
  cases gk with
  | zero => exact absurd HA.out (by simp [ZN.l0])
  | succ k1 =>
   have H := HA.out;clear HA;simp only [ZN.l0] at H;replace H := iT H;obtain ⟨c3b0,H⟩|⟨c3b0,H⟩ := H
   ·replace H := iP H;obtain ⟨c4b0,H⟩ := H
    by_cases c5 : (rd l0 x5_1) = a1
    ·rw [if_pos c5] at H;have c5b0 := beq_iff_eq.mpr c5;have c5b1 := bne_eq_false_iff_eq.mpr c5;clear c5;obtain rfl := Option.some.inj H;obtain ⟨ad620,rfl,hx620_0,p620,q620⟩ := aJ HR0.out x5_1;go_wp2;go_ret;exact ⟨rD,dD⟩
    ·rw [if_neg c5] at H;have c5b0 := beq_eq_false_iff_ne.mpr c5;have c5b1 := bne_iff_ne.mpr c5;have H' := aK H;clear H;obtain ⟨ad620,rfl,hx620_0,p620,q620⟩ := aJ HR0.out x5_1;go_wp2
     go_roundg k1
     case measure => have := HK1.out;omega
     case rel => exact ⟨(wrap64 (x5_1 + 1)),rD,H',o1 HK1,dD⟩
   ·obtain rfl := Option.some.inj H;go_wp2;go_ret;exact ⟨rD,dD⟩
def Zau.f (k : Nat) (s0_0 : List Int) (s0_1 : Int) (s0_2 : Int) : Option ((List (List Int)) × Int × Int) := (Zab.f k s0_0 s0_1 s0_2).bind fun bt622 => ((ZF.f k s0_0 bt622.2.1 bt622.2.2 bt622.1).bind fun bt627 => (some (bt627.1, bt627.2.1, bt627.2.2)))
theorem Zau.mono : ∀ a0 a1 a2 k, LeO (Zau.f k a0 a1 a2) (Zau.f (k + 1) a0 a1 a2) := by
 intro a0 a1 a2 k;unfold Zau.f;have m0 := ZF.mono;have m1 := Zab.mono;exact lO
theorem Zau.calls (k : Nat) (g : Nat) (s0_0 : List Int) (s0_1 : Int) (s0_2 : Int) (r1 : List (List Int)) (r2 : Int) (r3 : Int) (w0 w : World) (hI : IsS88 w0 w g s0_0 s0_1 s0_2) (hB : Below w0.heap.size w0 w) (h : Zau.f k s0_0 s0_1 s0_2 = some (r1, r2, r3)) :
 Calls Try.prog 54 #[.pointer (some ⟨g,0,none⟩)] w fun e w' => ∃ v0_ : Value,e = .returned (.agg #[v0_]) ∧ Kd.V (Kd.slice 2 (Kd.int .i64)) 29 w' w.heap.size (fun k_ => (w.heap.size ≤ k_)) v0_ r1 ∧ IsS88 w0 w' g s0_0 r2 r3 ∧ Below w0.heap.size w0 w' ∧ KeepBut w w' g none := by
 have hu26 := Try.underlying26;have HI0 := aK hI;have HK := aK (KeepBut.refl w g none);have HL := aK hB.size;clear hI;have HW0 := aK hB.size;have HB := aK hB;clear hB;have H := h;clear h;unfold Zau.f at H;replace H := bE H;obtain ⟨⟨t622,t625,t626⟩,A2,H⟩ := H;dsimp only at H;replace H := bE H;obtain ⟨⟨t627,t630,t631⟩,A3,H⟩ := H;dsimp only at H;simp only [Option.some.injEq,Prod.mk.injEq] at H;obtain ⟨rfl,rfl,rfl⟩ := H;go_enter Try.func54,Try.ntmps54
 go_wp2_with ((with_reducible refine wP ?_);first | (refine boxE 2 #[.slice none 0 0] 26 ?_;intro gb621 hg w4 hbox hb;replace HB := hJ HB hb;have BK621 := aK (hbox);have GW621 := gW HK hg;have GE621 := gE HW0 HK hg;replace HK := kT HK hb;obtain ⟨NB0_621,NB621_0⟩ := nJ hg HI0;replace HI0 := iU HI0 hb;clear hb hbox hg) | (refine gS 5 Try.func69 (Zab.calls k g s0_0 s0_1 s0_2 t622 t625 t626 w0 _ (iN HI0) (bI HB) A2.out) ?_;rintro e w5 ⟨v623,rfl,ho0,hi,hb,hk⟩;refine ⟨_,rfl,?_⟩;replace BK621 := aK (KeepBut.blk hk (g' := gb621) (o := .cells #[.slice none 0 0] 26 (0,0)) (kN BK621) NB621_0.out (by simp));have HO624 := aK (Kd.S_lower (Kd.S_newM (M := fun k_ => (w.heap.size ≤ k_)) ho0 (keep_size (w := w) (g := g) (row := none) (jZ HK)) (fun k_ h_ => h_)) (keep_size (w := w) (g := g) (row := none) (jZ HK)));replace HK := kU HK hk;replace HB := aK (hb);replace HI0 := aK (hi);clear hb hk hi ho0;obtain ⟨Ao6,co6,eo6⟩ := Kd.S_slice HO624.out;subst eo6) | (refine gS 6 Try.func70 (ZF.calls k g s0_0 t625 t626 (fun k_ => ((((w.heap.size ≤ k_) ∧ True) ∧ k_ ≠ gb621) ∧ k_ ≠ g)) _ _ t622 t627 t630 t631 w0 _ (iN HI0) (bI HB) (Kd.V_mono (Kd.S_V (IsS88.apartS HI0.out (Kd.S_types (HO624.out) BK621.out (by decide)) (by decide))) (fun k_ hk_ => ⟨hk_,hk_.2⟩)) A3.out) ?_;rintro e w7 ⟨v628,rfl,ho0,hi,hb,hk⟩;refine ⟨_,rfl,?_⟩;replace HO624 := aK (Kd.S_mono (Kd.S_keep (IsS88.apartS (show IsS88 w0 _ g s0_0 t625 t626 from (iN HI0)) (sN HO624) (by decide)) hk (fun _ h => h.2)) (fun _ h => h.1));have HO629 := aK (Kd.V_lower (Kd.V_mono (ok' := fun k_ => (w.heap.size ≤ k_) ∧ k_ ≠ gb621 ∧ k_ ≠ g) ho0 (fun k_ hk_ => ⟨Or.elim hk_ (fun hs_ => hs_.1.1.1) (fun hn_ => (Nat.le_trans (keep_size (w := w) (g := g) (row := none) (jZ HK)) hn_)),Or.elim hk_ (fun hs_ => hs_.1.2) (fun hn_ => (Kd.freshB (g := gb621) (o := .cells #[.slice none 0 0] 26 (0,0)) (kN BK621) k_ hn_)),Or.elim hk_ (fun hs_ => hs_.2) (fun hn_ => (IsS88.fresh (iN HI0) k_ hn_))⟩)) (keep_size (w := w) (g := g) (row := none) (jZ HK)));replace BK621 := aK (KeepBut.blk hk (g' := gb621) (o := .cells #[.slice none 0 0] 26 (0,0)) (kN BK621) NB621_0.out (by simp));replace HK := kU HK hk;replace HB := aK (hb);replace HI0 := aK (hi);clear hb hk hi ho0;obtain ⟨Ao8,co8,eo8⟩ := Kd.V_slice HO629.out;subst eo8;have hnb9 := NB621_0.out;have hnc9 := NB0_621.out;have hcz10_0 := z0 BK621;have hfz10_0 := fZ BK621 0))
 refine bodyPost_ret (results_cell_row rfl _ _ gb621 26 #[.slice Ao8 t627.length co8] (0,0) _ rfl (kP BK621) Try.underlying26 rfl (by kernel_rfl)) rfl ?_;exact ⟨_,by first | rfl | (simp [errW_none,errW_some] <;> rfl) | (simp [*,errW_none,errW_some] <;> rfl),by (with_reducible repeat (first | apply Kd.V_alloc | apply Kd.V_drewN | apply Kd.V_drew));exact Kd.V_mono (Kd.V_far (p := ⟨gb621,0,none⟩) (Kd.V_mono HO629.out (fun k_ hk => (⟨hk,hk.2.1⟩ : _ ∧ k_ ≠ gb621))) (fun _ hk => hk.2) (.slice Ao8 t627.length co8)) (fun _ hk => hk.1.1),(iN HI0),(bI HB),jZ HK⟩
def Zaj.f (k : Nat) (l0 : List Int) : Option ((List (List Int))) := (ZD.f k l0).bind fun bt633 => ((Zau.f k bt633.1 bt633.2.1 bt633.2.2).bind fun bt637 => (some bt637.1))
theorem Zaj.mono : ∀ a0 k, LeO (Zaj.f k a0) (Zaj.f (k + 1) a0) := by
 intro a0 k;unfold Zaj.f;have m0 := ZD.mono;have m1 := Zau.mono;exact lO
theorem Zaj.calls (k : Nat) (A0 : Option Addr) (c0 : Nat) (l0 : List Int) (r : List (List Int)) (w : World) (hr0 : Kd.C (Kd.int .u8) w A0 l0.length l0) (hc0 : l0.length ≤ c0) (h : Zaj.f k l0 = some r) :
 Calls Try.prog 18 #[.slice A0 l0.length c0] w fun e w' => ∃ v0_ : Value,e = .returned (.agg #[v0_]) ∧ Kd.V (Kd.slice 2 (Kd.int .i64)) 29 w' w.heap.size (fun k_ => (w.heap.size ≤ k_)) v0_ r ∧ Below w.heap.size w w' := by
 have hu26 := Try.underlying26;have HR0 := aK hr0;have HC0 := aK hc0;clear hr0 hc0;have HB := aK (Below.refl w.heap.size w);have H := h;clear h;unfold Zaj.f at H;replace H := bE H;obtain ⟨⟨t633,t634,t635⟩,A2,H⟩ := H;dsimp only at H;replace H := bE H;obtain ⟨⟨t637,t640,t641⟩,A3,H⟩ := H;dsimp only at H;obtain rfl := Option.some.inj H;go_enter Try.func18,Try.ntmps18
 go_wp2_with ((with_reducible refine wP ?_);first | (refine boxE 2 #[.slice none 0 0] 26 ?_;intro gb632 hg w4 hbox hb;have BK632 := aK (hbox);have GW632 := aK (zG HB hg);have GE632 := aK (zG HB hg);replace HB := hB HB hb;clear hb hbox hg) | (refine gS 4 Try.func55 (ZD.calls k _ _ l0 t633 t634 t635 w _ (bN HB) HR0.out HC0.out A2.out) ?_;rintro e w5 ⟨g636,rfl,hi,hb,hb2⟩;refine ⟨_,rfl,?_⟩;replace HB := aK (hb);have HI636 := aK (hi);have NB636_632 := aK (IsS88.ne_blk hi (blk_below (g := gb632) (o := .cells #[.slice none 0 0] 26 (0,0)) (kN BK632) hb2) (by decide));have NB632_636 := aK (Ne.symm (IsS88.ne_blk hi (blk_below (g := gb632) (o := .cells #[.slice none 0 0] 26 (0,0)) (kN BK632) hb2) (by decide)));replace BK632 := aK (blk_below (g := gb632) (o := .cells #[.slice none 0 0] 26 (0,0)) (kN BK632) hb2);clear hb hb2 hi) | (refine gS 5 Try.func54 (Zau.calls k g636 t633 t634 t635 t637 t640 t641 w _ (iN HI636) (bI HB) A3.out) ?_;rintro e w6 ⟨v638,rfl,ho0,hi,hb,hk⟩;refine ⟨_,rfl,?_⟩;have HO639 := aK (Kd.V_lower (Kd.V_mono (ok' := fun k_ => (w.heap.size ≤ k_) ∧ k_ ≠ gb632 ∧ k_ ≠ g636) ho0 (fun k_ hk_ => ⟨(Nat.le_trans (below_size (bI HB)) hk_),(Kd.freshB (g := gb632) (o := .cells #[.slice none 0 0] 26 (0,0)) (kN BK632) k_ hk_),(IsS88.fresh (iN HI636) k_ hk_)⟩)) (below_size (bI HB)));replace BK632 := aK (KeepBut.blk hk (g' := gb632) (o := .cells #[.slice none 0 0] 26 (0,0)) (kN BK632) NB632_636.out (by simp));replace HB := aK (hb);replace HI636 := aK (hi);clear hb hk hi ho0;obtain ⟨Ao7,co7,eo7⟩ := Kd.V_slice HO639.out;subst eo7;have hnb8 := NB632_636.out;have hnc8 := NB636_632.out;have hcz9_0 := z0 BK632;have hfz9_0 := fZ BK632 0))
 refine bodyPost_ret (results_cell_row rfl _ _ gb632 26 #[.slice Ao7 t637.length co7] (0,0) _ rfl (kP BK632) Try.underlying26 rfl (by kernel_rfl)) rfl ?_;exact ⟨_,by first | rfl | (simp [errW_none,errW_some] <;> rfl) | (simp [*,errW_none,errW_some] <;> rfl),by (with_reducible repeat (first | apply Kd.V_alloc | apply Kd.V_drewN | apply Kd.V_drew));exact Kd.V_mono (Kd.V_far (p := ⟨gb632,0,none⟩) (Kd.V_mono HO639.out (fun k_ hk => (⟨hk,hk.2.1⟩ : _ ∧ k_ ≠ gb632))) (fun _ hk => hk.2) (.slice Ao7 t637.length co7)) (fun _ hk => hk.1.1),(bI HB)⟩
mutual
def Zf.l0 : Nat → List Bool → List Int → Int → List (List Int) → Option (List Int × Int)
 | 0,_,_,_,_ => none
 | k + 1,x4,x5,x6,xqf => if x6 ≥ 0 then (Zf.l1 k x4 x5 x6 (-1) 0 xqf) else (some (x5,0))
def Zf.l1 : Nat → List Bool → List Int → Int → Int → Int → List (List Int) → Option (List Int × Int)
 | 0,_,_,_,_,_,_ => none
 | k + 1,x4,x5,x6,x7,x8,xqf => if 0 ≤ x6 then (if x6 < (xqf.length : Int) then (if x8 < ((rd_L2 xqf x6).length : Int) then (if 0 ≤ x8 then (if x6 < (x4.length : Int) then (if rdOf false x4 x6 = true then (if 0 ≤ (rd (rd_L2 xqf x6) x8) then (if (rd (rd_L2 xqf x6) x8) < (x4.length : Int) then (if (rdOf false x4 (rd (rd_L2 xqf x6) x8) = true) then (Zf.j2 k x4 x5 x6 x7 x8 (rd (rd_L2 xqf x6) x8) false xqf) else (if x7 < 0 then (Zf.j2 k x4 x5 x6 x7 x8 (rd (rd_L2 xqf x6) x8) true xqf) else (if (rd (rd_L2 xqf x6) x8) < (x5.length : Int) then (Zf.j2 k x4 x5 x6 x7 x8 (rd (rd_L2 xqf x6) x8) (decide ((rd x5 (rd (rd_L2 xqf x6) x8)) < x7)) xqf) else (none)))) else (none)) else (none)) else (Zf.j2 k x4 x5 x6 x7 x8 (rd (rd_L2 xqf x6) x8) false xqf)) else (none)) else (none)) else (if x6 < (x5.length : Int) then (Zf.l0 k x4 (x5.set (x6 : Int).toNat (wrap64 (x7 + 1))) (wrap64 (x6 - 1)) xqf) else (none))) else (none)) else (none)
def Zf.j2 : Nat → List Bool → List Int → Int → Int → Int → Int → Bool → List (List Int) → Option (List Int × Int)
 | 0,_,_,_,_,_,_,_,_ => none
 | k + 1,x4,x5,x6,x7,x8,x9,x43,xqf => if x43 = true then (if 0 ≤ x9 then (if x9 < (x5.length : Int) then (Zf.l1 k x4 x5 x6 (rd x5 x9) (wrap64 (x8 + 1)) xqf) else (none)) else (none)) else (if 0 ≤ x6 then (if x6 < (x4.length : Int) then (if rdOf false x4 x6 = true then (Zf.l1 k x4 x5 x6 x7 (wrap64 (x8 + 1)) xqf) else (if 0 ≤ x9 then (if x9 < (x5.length : Int) then (if (rd x5 x9) > x7 then (Zf.l1 k x4 x5 x6 (rd x5 x9) (wrap64 (x8 + 1)) xqf) else (Zf.l1 k x4 x5 x6 x7 (wrap64 (x8 + 1)) xqf)) else (none)) else (none))) else (none)) else (none))
end
def Zf.f (k : Nat) (l0_0 : List (List Int)) : Option (List Int × Int) := (Zp.f k l0_0).bind fun t664 => (if t664 = true then ((Zt.f k l0_0 false).bind fun t665 => ((Zq.f l0_0).bind fun t668 => (if 0 ≤ t668 then (if (t668 : Int).toNat ≤ 35184372088832 then ((Zq.f l0_0).bind fun t672 => (Zf.l0 k t665 (List.replicate (t668 : Int).toNat 0) (wrap64 (t672 - 1)) l0_0)) else (none)) else (none)))) else (some (([] : List Int), 1)))
theorem Zf.mono_l : ∀ k, (∀ y0 y1 y2 y3, LeO (Zf.l0 k y0 y1 y2 y3) (Zf.l0 (k + 1) y0 y1 y2 y3)) ∧ (∀ y0 y1 y2 y3 y4 y5, LeO (Zf.l1 k y0 y1 y2 y3 y4 y5) (Zf.l1 (k + 1) y0 y1 y2 y3 y4 y5)) ∧ (∀ y0 y1 y2 y3 y4 y5 y6 y7, LeO (Zf.j2 k y0 y1 y2 y3 y4 y5 y6 y7) (Zf.j2 (k + 1) y0 y1 y2 y3 y4 y5 y6 y7))
 | 0 => ⟨fun _ _ _ _ r h => by simp [Zf.l0] at h,fun _ _ _ _ _ _ r h => by simp [Zf.l1] at h,fun _ _ _ _ _ _ _ _ r h => by simp [Zf.j2] at h⟩
 | k + 1 => by
  obtain ⟨ih0,ih1,ih2⟩ := Zf.mono_l k;refine ⟨?_,?_,?_⟩ <;> (intros;first | unfold Zf.l0 | unfold Zf.l1 | unfold Zf.j2)
  all_goals have m0 := Zp.mono;have m1 := Zt.mono;exact lO
theorem Zf.mono : ∀ a0 k, LeO (Zf.f k a0) (Zf.f (k + 1) a0) := by
 intro a0 k;obtain ⟨ih0,ih1,ih2⟩ := Zf.mono_l k;unfold Zf.f;have m0 := Zp.mono;have m1 := Zt.mono;exact lO
theorem Zf.calls (k : Nat) (A0_0 : Option Addr) (c0_0 : Nat) (l0_0 : List (List Int)) (r1 : List Int) (r2 : Int) (w : World) (hr0_0 : Kd.C (Kd.slice 2 (Kd.int .i64)) w A0_0 l0_0.length l0_0) (hc0_0 : l0_0.length ≤ c0_0) (h : Zf.f k l0_0 = some (r1, r2)) :
 Calls Try.prog 20 #[.agg #[.slice A0_0 l0_0.length c0_0]] w fun e w' => ∃ v0_ : Value,e = .returned (.tuple #[v0_,.int .i64 r2]) ∧ Kd.R (Kd.int .i64) 2 w' w.heap.size (fun _ => True) v0_ r1 ∧ Below w.heap.size w w' := by
 have hu26 := Try.underlying26;have HR0_0 := aK hr0_0;have HC0_0 := aK hc0_0;clear hr0_0 hc0_0;have HB := aK (Below.refl w.heap.size w);have H := h;clear h;unfold Zf.f at H;replace H := bE H;obtain ⟨t664,A2,H⟩ := H;replace H := iB H;obtain ⟨rfl,H⟩|⟨rfl,H⟩ := H
 ·replace H := bE H;obtain ⟨t665,A4,H⟩ := H;replace H := bE H;obtain ⟨t668,A5,H⟩ := H
  by_cases c6 : 0 ≤ t668
  rotate_left
  ·rw [if_neg c6] at H;exact absurd H (by simp)
  rw [if_pos c6] at H;have c6b0 := eq_true c6;have c6b1 := decide_eq_true c6;clear c6
  by_cases c7 : (t668 : Int).toNat ≤ 35184372088832
  rotate_left
  ·rw [if_neg c7] at H;exact absurd H (by simp)
  rw [if_pos c7] at H;have c7b0 := eq_true c7;have c7b1 := decide_eq_true c7;clear c7;obtain ⟨y669,hy669⟩ : ∃ y_ : List Int,y_ = (List.replicate (t668 : Int).toNat 0) := ⟨_,rfl⟩;rw [← hy669] at H;have Ny669 := aK hy669;clear hy669;replace H := bE H;obtain ⟨t672,A8,H⟩ := H;have H' := aK H;clear H;go_enter Try.func20,Try.ntmps20
  try go_wp2_with ((with_reducible refine wP ?_);first | (refine boxE 1 #[.slice A0_0 l0_0.length c0_0] 26 ?_;intro gb663 hg w9 hbox hb;have BK663 := aK (hbox);have GW663 := aK (zG HB hg);have GE663 := aK (zG HB hg);replace HB := hB HB hb;clear hb hbox hg;have hcz10_0 := z0 BK663;have hfz10_0 := fZ BK663 0) | (refine gT 11 Try.func58 (Zp.calls k _ _ l0_0 true _ (cB HR0_0 HB) HC0_0.out A2.out) ?_;intro w11 hb;replace BK663 := kB BK663 hb;replace HB := hB HB hb;clear hb))
  replace BK663 := dK BK663;replace HB := dH HB;refine start_ (n := 7) (S := fun w' => w'.cell? ⟨gb663,0,none⟩ = some (.slice A0_0 l0_0.length c0_0)) (ds := []) #[false,false,false,false,false,false,false] (by kernel_rfl) rfl rfl ((blk_cell BK663.out 0).trans rfl) (fun hHeld => ?_)
  generalize w11.drew = w12 at BK663 HB hHeld ⊢
  refine take_ (i := 0) (N := some 13) (v := ?_) (a' := ?_) #[true,false,false,false,false,false,false] rfl rfl (by kernel_rfl) (fun _ _ _ h => h) (Or.inl ⟨by rfl,?_⟩) hHeld ?_ ?_;rotate_left
  ·intro w' s0
   go_simp
   with_reducible rfl
  rotate_left
  ·simp only [Act.put,List.setIfInBounds_toArray,List.set_cons_zero,List.set_cons_succ,i64_w,i32_w]
   rfl
  refine take_ (i := 2) (N := some 15) (v := ?_) (a' := ?_) #[true,false,true,false,false,false,false] rfl rfl (by kernel_rfl) (fun _ _ _ h => h) (Or.inl ⟨by rfl,?_⟩) hHeld ?_ ?_;rotate_left
  ·intro w' s0
   go_simp
   with_reducible rfl
  rotate_left
  ·simp only [Act.put,List.setIfInBounds_toArray,List.set_cons_zero,List.set_cons_succ,i64_w,i32_w]
   rfl
  refine one_ (i := 1) (N := some 14) #[true,true,true,false,false,false,false] rfl rfl (by kernel_rfl) (by decide) (fun K hK => ?_);refine gO Try.func35 #[.agg #[.slice A0_0 l0_0.length c0_0],.bool false] ?_
  with_reducible refine (Zt.calls k _ _ l0_0 false t665 _ ?side1 ?side2 A4.out).mono ?_
  (case side1 => exact cB HR0_0 HB)
  (case side2 => exact HC0_0.out)
  rintro e w13 ⟨v666,rfl,ho0,hb⟩;refine ⟨_,rfl,?_⟩;have HO667 := rl ho0 HB;replace BK663 := kB BK663 hb;replace HB := hB HB hb;clear hb ho0;refine hK.out _ _ ((blk_cell BK663.out 0).trans rfl) (fun hHeld => ?_);clear hK K;refine nT 14 ?_;refine one_ (i := 3) (N := some 16) #[true,true,true,true,false,false,false] rfl rfl (by kernel_rfl) (by decide) (fun K hK => ?_);refine gO Try.func43 #[.agg #[.slice A0_0 l0_0.length c0_0]] ?_
  with_reducible refine (Zq.calls _ _ l0_0 t668 _ ?side1 ?side2 A5.out).mono ?_
  (case side1 => exact cB HR0_0 HB)
  (case side2 => exact HC0_0.out)
  rintro e w14 ⟨rfl,hb⟩;refine ⟨_,rfl,?_⟩;replace HO667 := rB HO667 hb;replace BK663 := kB BK663 hb;replace HB := hB HB hb;clear hb;refine hK.out _ _ ((blk_cell BK663.out 0).trans rfl) (fun hHeld => ?_);clear hK K;refine nT 16 ?_;refine pureE 5 (some 4) #[true,true,true,true,false,true,false] ?_;refine one_ (i := 4) (N := some 17) #[true,true,true,true,true,true,false] rfl rfl (by kernel_rfl) (by decide) (fun K hK => ?_);refine Kd.R_make_step (Kd.int .i64) _ 2 (by rfl) (N := 17) rfl 29 _ _ rfl t668 rfl rfl Try.underlying29 (.int .i64 0) 8 info2 rfl (by decide) (by omega) 0 (ok := fun _ => True) (okp := fun _ => True) rfl (fun _ hk => hk) trivial (of_decide_eq_true (by first | (with_reducible assumption) | assumption)) (Nat.le_trans (Nat.mul_le_mul_right _ (of_decide_eq_true (by first | (with_reducible assumption) | assumption) : t668.toNat ≤ 35184372088832)) (by omega)) (Below.refl _ _) (Nat.le_refl _) ?_;intro v670 w15 ho16 hb hg_ hnew_;clear hg_ hnew_;(first | rw [← Ny669.out] at ho16 | (simp only [Int.reduceToNat] at ho16;rw [← Ny669.out] at ho16));replace HO667 := rB HO667 hb;have HO671 := rl ho16 HB;replace BK663 := kB BK663 hb;replace HB := hB HB hb;clear hb ho16;refine hK.out _ _ ((blk_cell BK663.out 0).trans rfl) (fun hHeld => ?_);clear hK K;refine nT 17 ?_;refine pureE 6 (some 5) #[true,true,true,true,true,true,true] ?_;refine done_ (by kernel_rfl) ?_;have hcz17_0 := z0 BK663;have hfz17_0 := fZ BK663 0
  try go_wp2_with ((with_reducible refine wP ?_);first | (refine gT 19 Try.func43 (Zq.calls _ _ l0_0 t672 _ (cB HR0_0 HB) HC0_0.out A8.out) ?_;intro w18 hb;replace HO667 := rB HO667 hb;replace HO671 := rB HO671 hb;replace BK663 := kB BK663 hb;replace HB := hB HB hb;clear hb))
  go_loopg [6] k (fun kq v6 w' => ∃ (x5_1 : List Int) (x6_1 : Int),v6 = .int .i64 x6_1 ∧ Aside0 (Zf.l0 kq t665 x5_1 x6_1 l0_0 = some (r1,r2)) ∧ Aside0 (kq ≤ k) ∧ Aside0 (Kd.R Kd.bool 4 w' w.heap.size (fun _ => True) v666 t665) ∧ Aside0 (Kd.R (Kd.int .i64) 2 w' w.heap.size (fun _ => True) v670 x5_1) ∧ Aside0 (w'.heap[gb663]? = some (.cells #[(.slice A0_0 l0_0.length c0_0)] 26 (0,0))) ∧ Aside0 (Below w.heap.size w w'))
  case atStart => exact ⟨(y669),(wrap64 (t672 - 1)),rD,H',⟨Nat.le_refl _⟩,⟨rN HO667⟩,⟨rN HO671⟩,⟨kN BK663⟩,⟨bN HB⟩⟩
  case round =>
   clear H';clear c6b0 c6b1 c7b0 c7b1 hcz10_0 hcz17_0 hfz10_0 hfz17_0;obtain ⟨x5_1,x6_1,rfl,HA,HK1,HO_4,HO_5,BK663,HB⟩ := hrel
   cases gk with
   | zero => exact absurd HA.out (by simp [Zf.l0])
   | succ k1 =>
    have H := HA.out;clear HA;simp only [Zf.l0] at H;replace H := iT H;obtain ⟨c19b0,H⟩|⟨c19b0,H⟩ := H
    ·have H' := aK H;clear H;go_wp2
     go_loopg [7,8] k1 (fun kq v7 v8 w' => ∃ (x7_2 : Int) (x8_2 : Int),v7 = .int .i64 x7_2 ∧ v8 = .int .i64 x8_2 ∧ Aside0 (Zf.l1 kq t665 x5_1 x6_1 x7_2 x8_2 l0_0 = some (r1,r2)) ∧ Aside0 (kq ≤ k1) ∧ Aside0 (Kd.R Kd.bool 4 w' w.heap.size (fun _ => True) v666 t665) ∧ Aside0 (Kd.R (Kd.int .i64) 2 w' w.heap.size (fun _ => True) v670 x5_1) ∧ Aside0 (w'.heap[gb663]? = some (.cells #[(.slice A0_0 l0_0.length c0_0)] 26 (0,0))) ∧ Aside0 (Below w.heap.size w w'))
     case atStart => exact ⟨((-1)),(0),rD,rD,H',⟨Nat.le_refl _⟩,⟨rN HO_4⟩,⟨rN HO_5⟩,⟨kN BK663⟩,⟨bN HB⟩⟩
     case round =>
      clear H';clear c19b0;obtain ⟨x7_2,x8_2,rfl,rfl,HA,HK2,HO_4,HO_5,BK663,HB⟩ := hrel
      cases gk with
      | zero => exact absurd HA.out (by simp [Zf.l1])
      | succ k2 =>
       have H := HA.out;clear HA;simp only [Zf.l1] at H;replace H := iP H;obtain ⟨c20b0,H⟩ := H;replace H := iP H;obtain ⟨c21b0,H⟩ := H;replace H := iT H;obtain ⟨c22b0,H⟩|⟨c22b0,H⟩ := H
       ·replace H := iP H;obtain ⟨c23b0,H⟩ := H;have HC24 := aK H;clear H;have hcz25_0 := z0 BK663;have hfz25_0 := fZ BK663 0;obtain ⟨ad673,A673_0,c673_0,rfl,-,hx673_0,HR673_0,HC673_0,p673,q673⟩ := aL HR0_0.out HB x6_1;obtain ⟨ad675,A675_0,c675_0,e675,-,hx675_0,HR675_0,HC675_0,p675,q675⟩ := aL HR0_0.out HB x6_1;obtain rfl := iJ e675;have ea_ := Option.some.inj (hx673_0.symm.trans hx675_0);injection ea_ with ea_ en_ ec_
        subst ea_;subst ec_;clear en_;obtain ⟨ad676,rfl,-,hx676_0,p676,q676⟩ := aI HR675_0.out HB x8_2
        go_upto_region 12 with (fail)
        go_cut [43] (fun v43 wc => ∃ (kq : Nat) (x43_23 : Bool),v43 = .bool x43_23 ∧ Aside0 (Zf.j2 kq t665 x5_1 x6_1 x7_2 x8_2 (rd (rd_L2 l0_0 x6_1) x8_2) x43_23 l0_0 = some (r1,r2)) ∧ Aside0 (kq ≤ k2) ∧ Aside0 (Kd.R Kd.bool 4 wc w.heap.size (fun _ => True) v666 t665) ∧ Aside0 (Kd.R (Kd.int .i64) 2 wc w.heap.size (fun _ => True) v670 x5_1) ∧ Aside0 (wc.heap[gb663]? = some (.cells #[(.slice (some ad673) l0_0.length c0_0)] 26 (0,0))) ∧ Aside0 (Below w.heap.size w wc))
        case first =>
         have H := HC24.out;clear HC24;replace H := iP H;obtain ⟨c26b0,H⟩ := H;(first | rw [c26b0] | (simp only [i64_w,i32_w];rw [c26b0]) | skip);obtain ⟨bq27,hbq27⟩ : ∃ b_ : Bool,b_ = (rdOf false t665 x6_1) := ⟨_,rfl⟩;rw [← hbq27] at H;have Nbq27 := aK hbq27;clear hbq27;replace H := iB H;obtain ⟨rfl,H⟩|⟨rfl,H⟩ := H
         ·replace H := iP H;obtain ⟨c29b0,H⟩ := H;replace H := iP H;obtain ⟨c30b0,H⟩ := H;obtain ⟨bq31,hbq31⟩ : ∃ b_ : Bool,b_ = (rdOf false t665 (rd (rd_L2 l0_0 x6_1) x8_2)) := ⟨_,rfl⟩;rw [← hbq31] at H;have Nbq31 := aK hbq31;clear hbq31;replace H := iB H;obtain ⟨rfl,H⟩|⟨rfl,H⟩ := H
          ·have H' := aK H;clear H;obtain ⟨Ao33,co33,eo33⟩ := Kd.R_slice HO_4.out;subst eo33;have p677 : 0 ≤ (x6_1 : Int) := dT;have q677 : x6_1 < (t665.length : Int) := dT;obtain ⟨ad677,e677,hx677_0⟩ := Kd.at_bool (rr HO_4) x6_1 p677 q677;(try rw [← Nbq27.out] at hx677_0);(try rw [← Nbq31.out] at hx677_0);cases e677;replace p677 := eq_true p677;replace q677 := eq_true q677;have p678 : 0 ≤ ((rd (rd_L2 l0_0 x6_1) x8_2) : Int) := dT;have q678 : (rd (rd_L2 l0_0 x6_1) x8_2) < (t665.length : Int) := dT;obtain ⟨ad678,e678,hx678_0⟩ := Kd.at_bool (rr HO_4) (rd (rd_L2 l0_0 x6_1) x8_2) p678 q678;(try rw [← Nbq27.out] at hx678_0);(try rw [← Nbq31.out] at hx678_0);obtain rfl : ad677 = ad678 := (by injection e678);replace p678 := eq_true p678;replace q678 := eq_true q678;go_wp2;go_meet
           case rel => exact ⟨_,(false),rD,H',o2 HK1 HK2,⟨rN HO_4⟩,⟨rN HO_5⟩,⟨kN BK663⟩,⟨bN HB⟩⟩
          ·replace H := iT H;obtain ⟨c34b0,H⟩|⟨c34b0,H⟩ := H
           ·have H' := aK H;clear H;obtain ⟨Ao35,co35,eo35⟩ := Kd.R_slice HO_4.out;subst eo35;have p677 : 0 ≤ (x6_1 : Int) := dT;have q677 : x6_1 < (t665.length : Int) := dT;obtain ⟨ad677,e677,hx677_0⟩ := Kd.at_bool (rr HO_4) x6_1 p677 q677;(try rw [← Nbq27.out] at hx677_0);(try rw [← Nbq31.out] at hx677_0);cases e677;replace p677 := eq_true p677;replace q677 := eq_true q677;have p678 : 0 ≤ ((rd (rd_L2 l0_0 x6_1) x8_2) : Int) := dT;have q678 : (rd (rd_L2 l0_0 x6_1) x8_2) < (t665.length : Int) := dT;obtain ⟨ad678,e678,hx678_0⟩ := Kd.at_bool (rr HO_4) (rd (rd_L2 l0_0 x6_1) x8_2) p678 q678;(try rw [← Nbq27.out] at hx678_0);(try rw [← Nbq31.out] at hx678_0);obtain rfl : ad677 = ad678 := (by injection e678);replace p678 := eq_true p678;replace q678 := eq_true q678;go_wp2;go_meet
            case rel => exact ⟨_,(true),rD,H',o2 HK1 HK2,⟨rN HO_4⟩,⟨rN HO_5⟩,⟨kN BK663⟩,⟨bN HB⟩⟩
           ·replace H := iP H;obtain ⟨c36b0,H⟩ := H;have H' := aK H;clear H;obtain ⟨Ao37,co37,eo37⟩ := Kd.R_slice HO_4.out;subst eo37;have p677 : 0 ≤ (x6_1 : Int) := dT;have q677 : x6_1 < (t665.length : Int) := dT;obtain ⟨ad677,e677,hx677_0⟩ := Kd.at_bool (rr HO_4) x6_1 p677 q677;(try rw [← Nbq27.out] at hx677_0);(try rw [← Nbq31.out] at hx677_0);cases e677;replace p677 := eq_true p677;replace q677 := eq_true q677;have p678 : 0 ≤ ((rd (rd_L2 l0_0 x6_1) x8_2) : Int) := dT;have q678 : (rd (rd_L2 l0_0 x6_1) x8_2) < (t665.length : Int) := dT;obtain ⟨ad678,e678,hx678_0⟩ := Kd.at_bool (rr HO_4) (rd (rd_L2 l0_0 x6_1) x8_2) p678 q678;(try rw [← Nbq27.out] at hx678_0);(try rw [← Nbq31.out] at hx678_0);obtain rfl : ad677 = ad678 := (by injection e678);replace p678 := eq_true p678;replace q678 := eq_true q678;obtain ⟨Ao38,co38,eo38⟩ := Kd.R_slice HO_5.out;subst eo38;obtain ⟨ad679,rfl,hx679_0,p679,q679⟩ := aJ (rr HO_5) (rd (rd_L2 l0_0 x6_1) x8_2);go_wp2;go_meet
            case rel => exact ⟨_,(decide ((rd x5_1 (rd (rd_L2 l0_0 x6_1) x8_2)) < x7_2)),rD,H',o2 HK1 HK2,⟨rN HO_4⟩,⟨rN HO_5⟩,⟨kN BK663⟩,⟨bN HB⟩⟩
         ·have H' := aK H;clear H;obtain ⟨Ao39,co39,eo39⟩ := Kd.R_slice HO_4.out;subst eo39;have p677 : 0 ≤ (x6_1 : Int) := dT;have q677 : x6_1 < (t665.length : Int) := dT;obtain ⟨ad677,e677,hx677_0⟩ := Kd.at_bool (rr HO_4) x6_1 p677 q677;(try rw [← Nbq27.out] at hx677_0);cases e677;replace p677 := eq_true p677;replace q677 := eq_true q677;go_wp2;go_meet
          case rel => exact ⟨_,(false),rD,H',o2 HK1 HK2,⟨rN HO_4⟩,⟨rN HO_5⟩,⟨kN BK663⟩,⟨bN HB⟩⟩
        case rest =>
         clear HC24;clear c20b0 c21b0 c22b0 c23b0 hcz25_0 hfz25_0 hx673_0 hx675_0 hx676_0 p673 p675 p676 q673 q675 q676;obtain ⟨kq,x43_23,rfl,HA,HJ23,HO_4,HO_5,BK663,HB⟩ := hcut
         cases kq with
         | zero => exact absurd HA.out (by simp [Zf.j2])
         | succ kj23 =>
          have H := HA.out;clear HA;simp only [Zf.j2] at H;replace H := iB H;obtain ⟨rfl,H⟩|⟨rfl,H⟩ := H
          ·replace H := iP H;obtain ⟨c41b0,H⟩ := H;replace H := iP H;obtain ⟨c42b0,H⟩ := H;have H' := aK H;clear H;obtain ⟨Ao43,co43,eo43⟩ := Kd.R_slice HO_5.out;subst eo43;obtain ⟨ad680,rfl,hx680_0,p680,q680⟩ := aJ (rr HO_5) (rd (rd_L2 l0_0 x6_1) x8_2);go_wp2
           go_roundg kj23
           case measure => have := HK1.out;have := HK2.out;have := HJ23.out;omega
           case rel => exact ⟨(rd x5_1 (rd (rd_L2 l0_0 x6_1) x8_2)),(wrap64 (x8_2 + 1)),rD,rD,H',o3 HK1 HK2 HJ23,⟨rN HO_4⟩,⟨rN HO_5⟩,⟨kN BK663⟩,⟨bN HB⟩⟩
          ·replace H := iP H;obtain ⟨c44b0,H⟩ := H;replace H := iP H;obtain ⟨c45b0,H⟩ := H;obtain ⟨bq46,hbq46⟩ : ∃ b_ : Bool,b_ = (rdOf false t665 x6_1) := ⟨_,rfl⟩;rw [← hbq46] at H;have Nbq46 := aK hbq46;clear hbq46;replace H := iB H;obtain ⟨rfl,H⟩|⟨rfl,H⟩ := H
           ·have H' := aK H;clear H;obtain ⟨Ao48,co48,eo48⟩ := Kd.R_slice HO_4.out;subst eo48;have p681 : 0 ≤ (x6_1 : Int) := dT;have q681 : x6_1 < (t665.length : Int) := dT;obtain ⟨ad681,e681,hx681_0⟩ := Kd.at_bool (rr HO_4) x6_1 p681 q681;(try rw [← Nbq46.out] at hx681_0);cases e681;replace p681 := eq_true p681;replace q681 := eq_true q681;go_wp2
            go_roundg kj23
            case measure => have := HK1.out;have := HK2.out;have := HJ23.out;omega
            case rel => exact ⟨(x7_2),(wrap64 (x8_2 + 1)),rD,rD,H',o3 HK1 HK2 HJ23,⟨rN HO_4⟩,⟨rN HO_5⟩,⟨kN BK663⟩,⟨bN HB⟩⟩
           ·replace H := iP H;obtain ⟨c49b0,H⟩ := H;replace H := iP H;obtain ⟨c50b0,H⟩ := H;replace H := iT H;obtain ⟨c51b0,H⟩|⟨c51b0,H⟩ := H
            ·have H' := aK H;clear H;obtain ⟨Ao52,co52,eo52⟩ := Kd.R_slice HO_4.out;subst eo52;have p681 : 0 ≤ (x6_1 : Int) := dT;have q681 : x6_1 < (t665.length : Int) := dT;obtain ⟨ad681,e681,hx681_0⟩ := Kd.at_bool (rr HO_4) x6_1 p681 q681;(try rw [← Nbq46.out] at hx681_0);cases e681;replace p681 := eq_true p681;replace q681 := eq_true q681;obtain ⟨Ao53,co53,eo53⟩ := Kd.R_slice HO_5.out;subst eo53;obtain ⟨ad682,rfl,hx682_0,p682,q682⟩ := aJ (rr HO_5) (rd (rd_L2 l0_0 x6_1) x8_2);obtain ⟨ad683,e683,hx683_0,p683,q683⟩ := aJ (rr HO_5) (rd (rd_L2 l0_0 x6_1) x8_2);obtain rfl := iJ e683;go_wp2
             go_roundg kj23
             case measure => have := HK1.out;have := HK2.out;have := HJ23.out;omega
             case rel => exact ⟨(rd x5_1 (rd (rd_L2 l0_0 x6_1) x8_2)),(wrap64 (x8_2 + 1)),rD,rD,H',o3 HK1 HK2 HJ23,⟨rN HO_4⟩,⟨rN HO_5⟩,⟨kN BK663⟩,⟨bN HB⟩⟩
            ·have H' := aK H;clear H;obtain ⟨Ao54,co54,eo54⟩ := Kd.R_slice HO_4.out;subst eo54;have p681 : 0 ≤ (x6_1 : Int) := dT;have q681 : x6_1 < (t665.length : Int) := dT;obtain ⟨ad681,e681,hx681_0⟩ := Kd.at_bool (rr HO_4) x6_1 p681 q681;(try rw [← Nbq46.out] at hx681_0);cases e681;replace p681 := eq_true p681;replace q681 := eq_true q681;obtain ⟨Ao55,co55,eo55⟩ := Kd.R_slice HO_5.out;subst eo55;obtain ⟨ad682,rfl,hx682_0,p682,q682⟩ := aJ (rr HO_5) (rd (rd_L2 l0_0 x6_1) x8_2);go_wp2
             go_roundg kj23
             case measure => have := HK1.out;have := HK2.out;have := HJ23.out;omega
             case rel => exact ⟨(x7_2),(wrap64 (x8_2 + 1)),rD,rD,H',o3 HK1 HK2 HJ23,⟨rN HO_4⟩,⟨rN HO_5⟩,⟨kN BK663⟩,⟨bN HB⟩⟩
       ·replace H := iP H;obtain ⟨c56b0,H⟩ := H;obtain ⟨y674,hy674⟩ : ∃ y_ : List Int,y_ = (x5_1.set (x6_1 : Int).toNat (wrap64 (x7_2 + 1))) := ⟨_,rfl⟩;rw [← hy674] at H;have Ny674 := aK hy674;clear hy674;have H' := aK H;clear H;have hcz58_0 := z0 BK663;have hfz58_0 := fZ BK663 0;obtain ⟨ad673,A673_0,c673_0,rfl,-,hx673_0,HR673_0,HC673_0,p673,q673⟩ := aL HR0_0.out HB x6_1;have p57 : 0 ≤ (x6_1 : Int) := dT;have q57 : (x6_1 : Int) < ((x5_1.length : Int) : Int) := dT;obtain ⟨go57,co57,eo57,gb57,gl57,cl57,HG57⟩ := Kd.R_form HO_5.out (by omega);(first | cases eo57 | (injection eo57 with ea_ en_ ec_;(first | subst ea_ | (injection ea_ with ea_;subst ea_));subst ec_;clear en_));have GB57 := aK gb57;have GG57 := aK HG57;clear gb57 gl57 HG57;obtain ⟨hx57_0,hf57_0⟩ := Kd.R_celln 0 HO_5.out (x6_1 : Int) p57 q57;replace p57 := eq_true p57;replace q57 := eq_true q57;have HP59 := Kd.R_putg HO_5.out (x6_1 : Int) (wrap64 (x7_2 + 1))
        go_wp2_with (first | ((with_reducible refine gate_store (t := 2) (p := 93) rfl ?_);refine store_event (t := 2) (p := 93) (v := ?vo_w60) (w1 := (wr.setCell ⟨go57,(x6_1 : Int).toNat,none⟩ (.int .i64 (wrap64 (x7_2 + 1))))) ?hg ?ho ?hn ?hr ?_;(case ho => rfl);(case hg => rfl);(case hn => rfl);(case hr => first | (go_simp;done) | (go_simp;rfl));intro w60 hw;have hg : wr.grownBy w60 (some go57) := (by rw [hw];exact HP59.2);have hp_ : Kd.R (Kd.int .i64) 2 w60 w.heap.size (fun _ => True) (.slice (some ⟨go57,0,none⟩) x5_1.length co57) y674 := (by rw [hw,Ny674.out];exact HP59.1);clear HP59;replace HO_4 := aK (Kd.R_over' (v := (.slice (some ⟨go57,0,none⟩) x5_1.length co57)) (rN HO_4) (Kd.R_typed HO_5.out) (by decide) hg);replace BK663 := aK (blk_grown (g := gb663) (o := .cells #[.slice (some ad673) l0_0.length c0_0] 26 (0,0)) (kN BK663) hg (Kd.R_ne HO_5.out BK663.out (by decide)));replace HO_5 := aK (hp_);replace HB := aK ((by rw [hw];exact below_set (HB.out) GB57.out : Below w.heap.size w w60));clear hg hw hp_))
        go_roundg k2
        case measure => have := HK1.out;have := HK2.out;omega
        case rel => exact ⟨(y674),(wrap64 (x6_1 - 1)),rD,H',o2 HK1 HK2,⟨rN HO_4⟩,⟨rN HO_5⟩,⟨kN BK663⟩,⟨bN HB⟩⟩
    ·simp only [Option.some.injEq,Prod.mk.injEq] at H;obtain ⟨rfl,rfl⟩ := H;go_wp2;go_ret2;exact ⟨_,eR ⟨by (with_reducible repeat (first | apply Kd.R_alloc | apply Kd.R_drewN | apply Kd.R_drew));exact HO_5.out,(bN HB)⟩⟩
 ·simp only [Option.some.injEq,Prod.mk.injEq] at H;obtain ⟨rfl,rfl⟩ := H;go_enter Try.func20,Try.ntmps20
  go_wp2_with ((with_reducible refine wP ?_);first | (refine boxE 1 #[.slice A0_0 l0_0.length c0_0] 26 ?_;intro gb663 hg w61 hbox hb;have BK663 := aK (hbox);have GW663 := aK (zG HB hg);have GE663 := aK (zG HB hg);replace HB := hB HB hb;clear hb hbox hg;have hcz62_0 := z0 BK663;have hfz62_0 := fZ BK663 0) | (refine gT 11 Try.func58 (Zp.calls k _ _ l0_0 false _ (cB HR0_0 HB) HC0_0.out A2.out) ?_;intro w63 hb;replace BK663 := kB BK663 hb;replace HB := hB HB hb;clear hb))
  go_ret2;exact ⟨_,eR ⟨by first | exact Kd.R_nil _ _ _ _ _ | exact Kd.N_nil _ _ _ _ _ | exact Kd.V_nil _ _ _ _ _ | exact Kd.Q_nil _ _ _ _ _ | exact Kd.S_nil _ _ _ _ _,(bN HB)⟩⟩
def ZE.l0 : Nat → Int → List Int → Int → Int → Option (Int)
 | 0,_,_,_,_ => none
 | k + 1,x3,x9,x10,x11 => if x11 < x10 then (if 0 ≤ x11 then (if x11 < (x9.length : Int) then (ZE.l0 k (wrap64 (x3 + (rd x9 x11))) x9 x10 (wrap64 (x11 + 1))) else (none)) else (none)) else (some x3)
def ZE.f (k : Nat) (l0 : List Int) : Option (Int) := if (l0.length : Int) = 0 then (some 1) else (ZE.l0 k 0 l0 (l0.length : Int) 0)
theorem ZE.mono_l : ∀ k, (∀ y0 y1 y2 y3, LeO (ZE.l0 k y0 y1 y2 y3) (ZE.l0 (k + 1) y0 y1 y2 y3))
 | 0 => fun _ _ _ _ r h => by simp [ZE.l0] at h
 | k + 1 => by
  have ih0 := ZE.mono_l k
  ·intro y0 y1 y2 y3;unfold ZE.l0;exact lO
theorem ZE.mono : ∀ a0 k, LeO (ZE.f k a0) (ZE.f (k + 1) a0) := by
 intro a0 k;have ih0 := ZE.mono_l k;unfold ZE.f;exact lO
theorem ZE.calls (k : Nat) (A0 : Option Addr) (c0 : Nat) (l0 : List Int) (r : Int) (w : World) (hr0 : Kd.C (Kd.int .i64) w A0 l0.length l0) (hc0 : l0.length ≤ c0) (h : ZE.f k l0 = some r) :
 Calls Try.prog 59 #[.slice A0 l0.length c0] w fun e w' => e = .returned (.int .i64 r) ∧ Drawn0 w w' := by
 have HR0 := aK hr0;have HC0 := aK hc0;clear hr0 hc0;have H := h;clear h;unfold ZE.f at H
 by_cases c2 : (l0.length : Int) = 0
 ·rw [if_pos c2] at H;have c2b0 := beq_iff_eq.mpr c2;have c2b1 := bne_eq_false_iff_eq.mpr c2;clear c2;obtain rfl := Option.some.inj H;go_enter Try.func59,Try.ntmps59;go_wp2;go_ret;exact ⟨rD,dD⟩
 ·rw [if_neg c2] at H;have c2b0 := beq_eq_false_iff_ne.mpr c2;have c2b1 := bne_iff_ne.mpr c2;have c2b2 : ¬ (l0 = []) := fun h_ => c2 (by rw [h_];rfl)
  have H' := aK H;clear H;go_enter Try.func59,Try.ntmps59;go_wp2
  go_loopg [3,11] k (fun kq v3 v11 w' => ∃ (x3_1 : Int) (x11_1 : Int),v3 = .int .i64 x3_1 ∧ v11 = .int .i64 x11_1 ∧ Aside0 (ZE.l0 kq x3_1 l0 (l0.length : Int) x11_1 = some r) ∧ Aside0 (kq ≤ k) ∧ Drawn0 w w')
  case atStart => exact ⟨(0),(0),rD,rD,H',⟨Nat.le_refl _⟩,dD⟩
  case round =>
   clear H';clear c2 c2b0 c2b1 c2b2;obtain ⟨x3_1,x11_1,rfl,rfl,HA,HK1,⟨m1,rfl⟩⟩ := hrel
   cases gk with
   | zero => exact absurd HA.out (by simp [ZE.l0])
   | succ k1 =>
    have H := HA.out;clear HA;simp only [ZE.l0] at H;replace H := iT H;obtain ⟨c3b0,H⟩|⟨c3b0,H⟩ := H
    ·replace H := iP H;obtain ⟨c4b0,H⟩ := H;replace H := iP H;obtain ⟨c5b0,H⟩ := H;have H' := aK H;clear H;obtain ⟨ad684,rfl,hx684_0,p684,q684⟩ := aJ HR0.out x11_1;go_wp2
     go_roundg k1
     case measure => have := HK1.out;omega
     case rel => exact ⟨(wrap64 (x3_1 + (rd l0 x11_1))),(wrap64 (x11_1 + 1)),rD,rD,H',o1 HK1,dD⟩
    ·obtain rfl := Option.some.inj H;go_wp2;go_ret;exact ⟨rD,dD⟩
theorem Zah.has59 : HasFn 59 := ⟨_, Try.func59, by kernel_rfl, rfl⟩
theorem Zah.hv59 : ∀ (k : Nat) (A : Option Addr) (c : Nat) (xs : List Int) (r : Int) (w : World), Kd.C (Kd.int .i64) w A xs.length xs → xs.length ≤ c → ZE.f k xs = some r → Calls Try.prog 59 (#[.slice A xs.length c] ++ #[]) w fun e w' => e = .returned (.int .i64 r) ∧ Below w.heap.size w w' := by
 intro k A c xs r w hr hc h;rw [Array.append_empty]
 first
 | exact ZE.calls k A c xs r w hr hc h
 | exact (ZE.calls k A c xs r w hr hc h).mono (fun _ _ h_ => ⟨h_.1,h_.2.below⟩)
def Zah.f (k : Nat) (l0_0 : List (List Int)) : Option (List Int × Int) := (Ze.f ZE.f k l0_0).bind fun bt686 => (some (bt686.1, bt686.2))
theorem Zah.mono : ∀ a0 k, LeO (Zah.f k a0) (Zah.f (k + 1) a0) := by
 intro a0 k;unfold Zah.f
 repeat' first | (with_reducible exact Ze.mono ZE.f ZE.mono _ _) | (with_reducible exact LeO.refl _) | (with_reducible exact LeO.none _) | (with_reducible refine LeO.ite ?_ ?_) | (with_reducible refine LeO.bind ?_ (fun _ => ?_))
theorem Zah.calls (k : Nat) (A0_0 : Option Addr) (c0_0 : Nat) (l0_0 : List (List Int)) (r1 : List Int) (r2 : Int) (w : World) (hr0_0 : Kd.C (Kd.slice 2 (Kd.int .i64)) w A0_0 l0_0.length l0_0) (hc0_0 : l0_0.length ≤ c0_0) (h : Zah.f k l0_0 = some (r1, r2)) :
 Calls Try.prog 21 #[.agg #[.slice A0_0 l0_0.length c0_0]] w fun e w' => ∃ v0_ : Value,e = .returned (.tuple #[v0_,.int .i64 r2]) ∧ Kd.R (Kd.int .i64) 2 w' w.heap.size (fun _ => True) v0_ r1 ∧ Below w.heap.size w w' := by
 have hu26 := Try.underlying26;have HR0_0 := aK hr0_0;have HC0_0 := aK hc0_0;clear hr0_0 hc0_0;have HB := aK (Below.refl w.heap.size w);have H := h;clear h;unfold Zah.f at H;replace H := bE H;obtain ⟨⟨t686,t689⟩,A2,H⟩ := H;dsimp only at H;simp only [Option.some.injEq,Prod.mk.injEq] at H;obtain ⟨rfl,rfl⟩ := H;go_enter Try.func21,Try.ntmps21
 go_wp2_with ((with_reducible refine wP ?_);first | (refine boxE 1 #[.slice A0_0 l0_0.length c0_0] 26 ?_;intro gb685 hg w3 hbox hb;have BK685 := aK (hbox);have GW685 := aK (zG HB hg);have GE685 := aK (zG HB hg);replace HB := hB HB hb;clear hb hbox hg;have hcz4_0 := z0 BK685;have hfz4_0 := fZ BK685 0) | (refine gS 5 Try.func49 (Ze.calls ZE.f 59 #[] Zah.has59 Zah.hv59 k _ _ l0_0 t686 t689 _ (cB HR0_0 HB) HC0_0.out A2.out) ?_;rintro e w5 ⟨v687,rfl,ho0,hb⟩;refine ⟨_,rfl,?_⟩;have HO688 := rl ho0 HB;replace BK685 := kB BK685 hb;replace HB := hB HB hb;clear hb ho0))
 go_ret2;exact ⟨_,eR ⟨by (with_reducible repeat (first | apply Kd.R_alloc | apply Kd.R_drewN | apply Kd.R_drew));exact HO688.out,(bN HB)⟩⟩
mutual
def Zb.l0 : Nat → List Int → Int → List (List Int) → Option (List Int × Int)
 | 0,_,_,_ => none
 | k + 1,x4,x5,xqk => if x5 ≥ 0 then (if 0 ≤ x5 then (if x5 < (xqk.length : Int) then (if ((rd_L2 xqk x5).length : Int) = 0 then (if x5 < (x4.length : Int) then (Zb.j1 k (x4.set (x5 : Int).toNat 1) x5 xqk) else (none)) else (Zb.j1 k x4 x5 xqk)) else (none)) else (none)) else (some (x4,0))
def Zb.j1 : Nat → List Int → Int → List (List Int) → Option (List Int × Int)
 | 0,_,_,_ => none
 | k + 1,x4,x5,xqk => Zb.l1 k x4 x5 0 xqk
def Zb.l1 : Nat → List Int → Int → Int → List (List Int) → Option (List Int × Int)
 | 0,_,_,_,_ => none
 | k + 1,x4,x5,x6,xqk => if 0 ≤ x5 then (if x5 < (xqk.length : Int) then (if x6 < ((rd_L2 xqk x5).length : Int) then (if x5 < (x4.length : Int) then (if 0 ≤ x6 then (if 0 ≤ (rd (rd_L2 xqk x5) x6) then (if (rd (rd_L2 xqk x5) x6) < (x4.length : Int) then (Zb.l1 k (x4.set (x5 : Int).toNat (wrap64 ((rd x4 x5) + (rd x4 (rd (rd_L2 xqk x5) x6))))) x5 (wrap64 (x6 + 1)) xqk) else (none)) else (none)) else (none)) else (none)) else (Zb.l0 k x4 (wrap64 (x5 - 1)) xqk)) else (none)) else (none)
end
def Zb.f (k : Nat) (l0_0 : List (List Int)) : Option (List Int × Int) := (Zp.f k l0_0).bind fun t691 => (if t691 = true then ((Zq.f l0_0).bind fun t692 => (if 0 ≤ t692 then (if (t692 : Int).toNat ≤ 35184372088832 then ((Zq.f l0_0).bind fun t696 => (Zb.l0 k (List.replicate (t692 : Int).toNat 0) (wrap64 (t696 - 1)) l0_0)) else (none)) else (none))) else (some (([] : List Int), 1)))
theorem Zb.mono_l : ∀ k, (∀ y0 y1 y2, LeO (Zb.l0 k y0 y1 y2) (Zb.l0 (k + 1) y0 y1 y2)) ∧ (∀ y0 y1 y2, LeO (Zb.j1 k y0 y1 y2) (Zb.j1 (k + 1) y0 y1 y2)) ∧ (∀ y0 y1 y2 y3, LeO (Zb.l1 k y0 y1 y2 y3) (Zb.l1 (k + 1) y0 y1 y2 y3))
 | 0 => ⟨fun _ _ _ r h => by simp [Zb.l0] at h,fun _ _ _ r h => by simp [Zb.j1] at h,fun _ _ _ _ r h => by simp [Zb.l1] at h⟩
 | k + 1 => by
  obtain ⟨ih0,ih1,ih2⟩ := Zb.mono_l k;refine ⟨?_,?_,?_⟩ <;> (intros;first | unfold Zb.l0 | unfold Zb.j1 | unfold Zb.l1)
  all_goals have m0 := Zp.mono;exact lO
theorem Zb.mono : ∀ a0 k, LeO (Zb.f k a0) (Zb.f (k + 1) a0) := by
 intro a0 k;obtain ⟨ih0,ih1,ih2⟩ := Zb.mono_l k;unfold Zb.f;have m0 := Zp.mono;exact lO
def Zb.T12 : Bool × List (List Nat × List Nat) := (true, [([], []), ([], []), ([], []), ([], []), ([2, 3], [2, 3]), ([4], [4]), ([], []), ([], []), ([7], [7]), ([], []), ([8, 9], [8, 9]), ([10], [10]), ([], []), ([11, 12], [11, 12]), ([13], [13]), ([6, 14], [6, 14]), ([15], [15]), ([5, 16], [5, 16]), ([0, 1, 0, 1, 2, 3, 4, 5, 6, 7, 8, 9, 10, 11, 12, 13, 14, 15, 16, 17], [0, 1]), ([18, 17, 0, 1, 2, 3, 4, 5, 6, 7, 8, 9, 10, 11, 12, 13, 14, 15, 16, 17], [17, 18])])
def Zb.B12 : List Nat := [0, 0, 0, 0, 12, 28, 0, 0, 128, 0, 896, 1920, 0, 8064, 16256, 32704, 65472, 131068, 262143, 524287]
theorem Zb.tab12 : rtab .any (opsOf Try.f22 12) = Zb.T12 := by kernel_rfl
theorem Zb.bits12 : waitsOk Zb.T12.2 Zb.B12 = true := by kernel_rfl
theorem Zb.calls (k : Nat) (A0_0 : Option Addr) (c0_0 : Nat) (l0_0 : List (List Int)) (r1 : List Int) (r2 : Int) (w : World) (hr0_0 : Kd.C (Kd.slice 2 (Kd.int .i64)) w A0_0 l0_0.length l0_0) (hc0_0 : l0_0.length ≤ c0_0) (h : Zb.f k l0_0 = some (r1, r2)) :
 Calls Try.prog 22 #[.agg #[.slice A0_0 l0_0.length c0_0]] w fun e w' => ∃ v0_ : Value,e = .returned (.tuple #[v0_,.int .i64 r2]) ∧ Kd.R (Kd.int .i64) 2 w' w.heap.size (fun _ => True) v0_ r1 ∧ Below w.heap.size w w' := by
 have hu26 := Try.underlying26;have HR0_0 := aK hr0_0;have HC0_0 := aK hc0_0;clear hr0_0 hc0_0;have HB := aK (Below.refl w.heap.size w);have H := h;clear h;unfold Zb.f at H;replace H := bE H;obtain ⟨t691,A2,H⟩ := H;replace H := iB H;obtain ⟨rfl,H⟩|⟨rfl,H⟩ := H
 ·replace H := bE H;obtain ⟨t692,A4,H⟩ := H
  by_cases c5 : 0 ≤ t692
  rotate_left
  ·rw [if_neg c5] at H;exact absurd H (by simp)
  rw [if_pos c5] at H;have c5b0 := eq_true c5;have c5b1 := decide_eq_true c5;clear c5
  by_cases c6 : (t692 : Int).toNat ≤ 35184372088832
  rotate_left
  ·rw [if_neg c6] at H;exact absurd H (by simp)
  rw [if_pos c6] at H;have c6b0 := eq_true c6;have c6b1 := decide_eq_true c6;clear c6;obtain ⟨y693,hy693⟩ : ∃ y_ : List Int,y_ = (List.replicate (t692 : Int).toNat 0) := ⟨_,rfl⟩;rw [← hy693] at H;have Ny693 := aK hy693;clear hy693;replace H := bE H;obtain ⟨t696,A7,H⟩ := H;have H' := aK H;clear H;go_enter Try.func22,Try.ntmps22
  go_wp2_with (first | ((with_reducible refine wP ?_);refine boxE 1 #[.slice A0_0 l0_0.length c0_0] 26 ?_;intro gb690 hg w8 hbox hb;have BK690 := aK (hbox);have GW690 := aK (zG HB hg);have GE690 := aK (zG HB hg);replace HB := hB HB hb;clear hb hbox hg;have hcz9_0 := z0 BK690;have hfz9_0 := fZ BK690 0) | ((with_reducible refine wP ?_);refine gT 8 Try.func58 (Zp.calls k _ _ l0_0 true _ (cB HR0_0 HB) HC0_0.out A2.out) ?_;intro w10 hb;replace BK690 := kB BK690 hb;replace HB := hB HB hb;clear hb;have hcz11_0 := z0 BK690;have hfz11_0 := fZ BK690 0) | ((with_reducible refine wP ?_);refine gT 11 Try.func43 (Zq.calls _ _ l0_0 t692 _ (cB HR0_0 HB) HC0_0.out A4.out) ?_;intro w12 hb;replace BK690 := kB BK690 hb;replace HB := hB HB hb;clear hb) | ((with_reducible refine gate_dst (N := 12) rfl ?_);refine Kd.R_make (Kd.int .i64) _ 2 rfl (N := 12) rfl 29 _ _ rfl t692 rfl rfl Try.underlying29 (.int .i64 0) 8 info2 rfl (by decide) (by omega) 0 (ok := fun _ => True) (okp := fun _ => True) rfl (fun _ hk => hk) trivial (of_decide_eq_true (by first | (with_reducible assumption) | assumption)) (Nat.le_trans (Nat.mul_le_mul_right _ (of_decide_eq_true (by first | (with_reducible assumption) | assumption) : t692.toNat ≤ 35184372088832)) (by omega)) (Below.refl _ _) (Nat.le_refl _) ?_;intro v694 w13 ho14 hb hg_ hnew_;clear hg_ hnew_;(first | rw [← Ny693.out] at ho14 | (simp only [Int.reduceToNat] at ho14;rw [← Ny693.out] at ho14));have HO695 := rl ho14 HB;replace BK690 := kB BK690 hb;replace HB := hB HB hb;clear hb ho14;have hcz15_0 := z0 BK690;have hfz15_0 := fZ BK690 0) | ((with_reducible refine wP ?_);refine gT 14 Try.func43 (Zq.calls _ _ l0_0 t696 _ (cB HR0_0 HB) HC0_0.out A7.out) ?_;intro w16 hb;replace HO695 := rB HO695 hb;replace BK690 := kB BK690 hb;replace HB := hB HB hb;clear hb))
  go_loopg [5] k (fun kq v5 w' => ∃ (x4_1 : List Int) (x5_1 : Int),v5 = .int .i64 x5_1 ∧ Aside0 (Zb.l0 kq x4_1 x5_1 l0_0 = some (r1,r2)) ∧ Aside0 (kq ≤ k) ∧ Aside0 (Kd.R (Kd.int .i64) 2 w' w.heap.size (fun _ => True) v694 x4_1) ∧ Aside0 (w'.heap[gb690]? = some (.cells #[(.slice A0_0 l0_0.length c0_0)] 26 (0,0))) ∧ Aside0 (Below w.heap.size w w'))
  case atStart => exact ⟨(y693),(wrap64 (t696 - 1)),rD,H',⟨Nat.le_refl _⟩,⟨rN HO695⟩,⟨kN BK690⟩,⟨bN HB⟩⟩
  case round =>
   clear H';clear c5b0 c5b1 c6b0 c6b1 hcz11_0 hcz15_0 hcz9_0 hfz11_0 hfz15_0 hfz9_0;obtain ⟨x4_1,x5_1,rfl,HA,HK1,HO_4,BK690,HB⟩ := hrel
   cases gk with
   | zero => exact absurd HA.out (by simp [Zb.l0])
   | succ k1 =>
    have H := HA.out;clear HA;simp only [Zb.l0] at H;replace H := iT H;obtain ⟨c17b0,H⟩|⟨c17b0,H⟩ := H
    ·replace H := iP H;obtain ⟨c18b0,H⟩ := H;replace H := iP H;obtain ⟨c19b0,H⟩ := H;have HC20 := aK H;clear H;have hcz21_0 := z0 BK690;have hfz21_0 := fZ BK690 0;obtain ⟨ad697,A697_0,c697_0,rfl,-,hx697_0,HR697_0,HC697_0,p697,q697⟩ := aL HR0_0.out HB x5_1
     go_upto_if 26 with (fail)
     go_cut [] (fun wc => ∃ (kq : Nat) (x4_19 : List Int),Aside0 (Zb.j1 kq x4_19 x5_1 l0_0 = some (r1,r2)) ∧ Aside0 (kq ≤ k1) ∧ Aside0 (Kd.R (Kd.int .i64) 2 wc w.heap.size (fun _ => True) v694 x4_19) ∧ Aside0 (wc.heap[gb690]? = some (.cells #[(.slice (some ad697) l0_0.length c0_0)] 26 (0,0))) ∧ Aside0 (Below w.heap.size w wc))
     case first =>
      have H := HC20.out;clear HC20
      by_cases c22 : ((rd_L2 l0_0 x5_1).length : Int) = 0
      ·rw [if_pos c22] at H;have c22b0 := beq_iff_eq.mpr c22;have c22b1 := bne_eq_false_iff_eq.mpr c22;clear c22;(first | rw [c22b0] | (simp only [i64_w,i32_w];rw [c22b0]) | skip);replace H := iP H;obtain ⟨c23b0,H⟩ := H;obtain ⟨y698,hy698⟩ : ∃ y_ : List Int,y_ = (x4_1.set (x5_1 : Int).toNat 1) := ⟨_,rfl⟩;rw [← hy698] at H;have Ny698 := aK hy698;clear hy698;have H' := aK H;clear H;have p24 : 0 ≤ (x5_1 : Int) := dT;have q24 : (x5_1 : Int) < ((x4_1.length : Int) : Int) := dT;obtain ⟨go24,co24,eo24,gb24,gl24,cl24,HG24⟩ := Kd.R_form HO_4.out (by omega);(first | cases eo24 | (injection eo24 with ea_ en_ ec_;(first | subst ea_ | (injection ea_ with ea_;subst ea_));subst ec_;clear en_));have GB24 := aK gb24;have GG24 := aK HG24;clear gb24 gl24 HG24;obtain ⟨hx24_0,hf24_0⟩ := Kd.R_celln 0 HO_4.out (x5_1 : Int) p24 q24;replace p24 := eq_true p24;replace q24 := eq_true q24;have HP25 := Kd.R_putg HO_4.out (x5_1 : Int) 1
       go_wp2_with (first | ((with_reducible refine gate_store (t := 2) (p := 29) rfl ?_);refine store_event (t := 2) (p := 29) (v := ?vo_w26) (w1 := (wr.setCell ⟨go24,(x5_1 : Int).toNat,none⟩ (.int .i64 1))) ?hg ?ho ?hn ?hr ?_;(case ho => rfl);(case hg => rfl);(case hn => rfl);(case hr => first | (go_simp;done) | (go_simp;rfl));intro w26 hw;have hg : wr.grownBy w26 (some go24) := (by rw [hw];exact HP25.2);have hp_ : Kd.R (Kd.int .i64) 2 w26 w.heap.size (fun _ => True) (.slice (some ⟨go24,0,none⟩) x4_1.length co24) y698 := (by rw [hw,Ny698.out];exact HP25.1);clear HP25;replace BK690 := aK (blk_grown (g := gb690) (o := .cells #[.slice (some ad697) l0_0.length c0_0] 26 (0,0)) (kN BK690) hg (Kd.R_ne HO_4.out BK690.out (by decide)));replace HO_4 := aK (hp_);replace HB := aK ((by rw [hw];exact below_set (HB.out) GB24.out : Below w.heap.size w w26));clear hg hw hp_))
       go_meet
       case rel => exact ⟨_,(y698),H',o1 HK1,⟨rN HO_4⟩,⟨kN BK690⟩,⟨bN HB⟩⟩
      ·rw [if_neg c22] at H;have c22b0 := beq_eq_false_iff_ne.mpr c22;have c22b1 := bne_iff_ne.mpr c22;have c22b2 : ¬ ((rd_L2 l0_0 x5_1) = []) := fun h_ => c22 (by rw [h_];rfl)
       (first | rw [c22b0] | (simp only [i64_w,i32_w];rw [c22b0]) | skip);have H' := aK H;clear H;go_wp2;go_meet
       case rel => exact ⟨_,(x4_1),H',o1 HK1,⟨rN HO_4⟩,⟨kN BK690⟩,⟨bN HB⟩⟩
     case rest =>
      clear HC20;clear c17b0 c18b0 c19b0 hcz21_0 hfz21_0 hx697_0 p697 q697;obtain ⟨kq,x4_19,HA,HJ19,HO_4,BK690,HB⟩ := hcut
      cases kq with
      | zero => exact absurd HA.out (by simp [Zb.j1])
      | succ kj19 =>
       have H := HA.out;clear HA;simp only [Zb.j1] at H;have H' := aK H;clear H;go_wp2
       go_loopg [6] kj19 (fun kq v6 w' => ∃ (x4_3 : List Int) (x6_3 : Int),v6 = .int .i64 x6_3 ∧ Aside0 (Zb.l1 kq x4_3 x5_1 x6_3 l0_0 = some (r1,r2)) ∧ Aside0 (kq ≤ kj19) ∧ Aside0 (Kd.R (Kd.int .i64) 2 w' w.heap.size (fun _ => True) v694 x4_3) ∧ Aside0 (w'.heap[gb690]? = some (.cells #[(.slice (some ad697) l0_0.length c0_0)] 26 (0,0))) ∧ Aside0 (Below w.heap.size w w'))
       case atStart => exact ⟨(x4_19),(0),rD,H',⟨Nat.le_refl _⟩,⟨rN HO_4⟩,⟨kN BK690⟩,⟨bN HB⟩⟩
       case round =>
        clear H';obtain ⟨x4_3,x6_3,rfl,HA,HK3,HO_4,BK690,HB⟩ := hrel
        cases gk with
        | zero => exact absurd HA.out (by simp [Zb.l1])
        | succ k3 =>
         have H := HA.out;clear HA;simp only [Zb.l1] at H;replace H := iP H;obtain ⟨c27b0,H⟩ := H;replace H := iP H;obtain ⟨c28b0,H⟩ := H;replace H := iT H;obtain ⟨c29b0,H⟩|⟨c29b0,H⟩ := H
         ·replace H := iP H;obtain ⟨c30b0,H⟩ := H;replace H := iP H;obtain ⟨c31b0,H⟩ := H;replace H := iP H;obtain ⟨c32b0,H⟩ := H;replace H := iP H;obtain ⟨c33b0,H⟩ := H;obtain ⟨y704,hy704⟩ : ∃ y_ : List Int,y_ = (x4_3.set (x5_1 : Int).toNat (wrap64 ((rd x4_3 x5_1) + (rd x4_3 (rd (rd_L2 l0_0 x5_1) x6_3))))) := ⟨_,rfl⟩;rw [← hy704] at H;have Ny704 := aK hy704;clear hy704;have H' := aK H;clear H;have hcz35_0 := z0 BK690;have hfz35_0 := fZ BK690 0;obtain ⟨ad699,A699_0,c699_0,e699,-,hx699_0,HR699_0,HC699_0,p699,q699⟩ := aL HR0_0.out HB x5_1;obtain rfl := iJ e699
          try go_wp2
          replace HO_4 := aK (Kd.R_drew HO_4.out);replace BK690 := dK BK690;replace HB := dH HB;obtain ⟨Ao37,co37,eo37⟩ := Kd.R_slice HO_4.out;(first | subst eo37 | (injection eo37 with f1_ f2_ f3_;have f4_ := f1_.symm;have f5_ := f3_.symm;clear f1_ f2_ f3_;subst f4_;subst f5_));obtain ⟨ad700,rfl,hx700_0,p700,q700⟩ := aJ (rr HO_4) x5_1;obtain ⟨ad701,A701_0,c701_0,e701,hw701_0,hx701_0,HR701_0,HC701_0,p701,q701⟩ := aL HR0_0.out HB x5_1;obtain rfl := iJ e701;obtain ⟨ad702,rfl,hw702_0,hx702_0,p702,q702⟩ := aI HR701_0.out HB x6_3;obtain ⟨ad703,e703,hx703_0,p703,q703⟩ := aJ (rr HO_4) (rd (rd_L2 l0_0 x5_1) x6_3);obtain rfl := iJ e703;have p34 : 0 ≤ (x5_1 : Int) := dT;have q34 : (x5_1 : Int) < ((x4_3.length : Int) : Int) := dT;obtain ⟨go34,co34,eo34,gb34,gl34,cl34,HG34⟩ := Kd.R_form HO_4.out (by omega);(first | cases eo34 | (injection eo34 with ea_ en_ ec_;(first | subst ea_ | (injection ea_ with ea_;subst ea_));subst ec_;clear en_));have GB34 := aK gb34;have GG34 := aK HG34;clear gb34 gl34 HG34;(first | simp only [add_plain] at hx700_0 | skip);(first | simp only [add_plain] at hx703_0 | skip);obtain ⟨hx34_0,hf34_0⟩ := Kd.R_celln 0 HO_4.out (x5_1 : Int) p34 q34;replace p34 := eq_true p34;replace q34 := eq_true q34;have HP38 := Kd.R_putn HO_4.out (x5_1 : Int) (wrap64 ((rd x4_3 x5_1) + (rd x4_3 (rd (rd_L2 l0_0 x5_1) x6_3))));rw [← Ny704.out] at HP38;have HQ38 := aK HP38;clear HP38;refine start_ (n := 20) (S := fun w' => w'.cell? ⟨gb690,0,none⟩ = some (.slice (some ad697) l0_0.length c0_0) ∧ w'.cell? ⟨go34,(x5_1).toNat,none⟩ = some (.int .i64 (rd x4_3 x5_1)) ∧ w'.cell? (ad697.add (x5_1).toNat) = some (.slice (some ad702) (rd_L2 l0_0 x5_1).length c701_0) ∧ w'.cell? (ad702.add (x6_3).toNat) = some (.int .i64 (rd (rd_L2 l0_0 x5_1) x6_3)) ∧ w'.cell? ⟨go34,((rd (rd_L2 l0_0 x5_1) x6_3)).toNat,none⟩ = some (.int .i64 (rd x4_3 (rd (rd_L2 l0_0 x5_1) x6_3)))) (ds := [19]) #[false,false,false,false,false,false,false,false,false,false,false,false,false,false,false,false,false,false,false,false] (by kernel_rfl) rfl rfl ⟨(blk_cell BK690.out 0).trans rfl,hx700_0,(cO HB hw701_0),(cO HB hw702_0),hx703_0⟩ (fun hHeld => ?_);refine with_tabW Zb.tab12 Zb.bits12 (fun HT_ HW_ => ?_)
          generalize wr.drew = w36 at HO_4 BK690 HB GG34 HQ38 HR701_0 hf34_0 hx34_0 hx700_0 hx701_0 hx702_0 hx703_0 hHeld ⊢
          refine pT HT_ 0 (some 40) ?_;refine pT HT_ 1 (some 41) ?_;refine pT HT_ 2 (some 42) ?_;refine pT HT_ 3 (some 43) ?_;refine pT HT_ 4 (some 44) ?_;refine pT HT_ 6 (some 46) ?_;refine pT HT_ 7 (some 47) ?_;refine pT HT_ 9 (some 49) ?_;refine pT HT_ 12 (some 52) ?_;refine tT HT_ HW_ hHeld 5 (some 45) ?_;refine tT HT_ HW_ hHeld 8 (some 48) ?_;refine pT HT_ 10 (some 50) ?_;refine tT HT_ HW_ hHeld 11 (some 51) ?_;refine pT HT_ 13 (some 53) ?_;refine tT HT_ HW_ hHeld 14 (some 54) ?_;refine pT HT_ 15 (some 55) ?_;refine tT HT_ HW_ hHeld 16 (some 56) ?_;refine pT HT_ 17 (some 57) ?_;refine pT HT_ 18 (some 58) ?_;refine last_ (i := 19) (N := none) #[true,true,true,true,true,true,true,true,true,true,true,true,true,true,true,true,true,true,true,true] rfl rfl (one_of HT_.out (by kernel_rfl)) (by decide) (fun K hK => ?_);refine skip_ (w1 := ?_) (by rfl) rfl ?_ ?_;rotate_left
          ·go_simp
           rfl
          refine hK.out _ _ ?_;clear hK K;refine done_ (done_of HT_.out (by kernel_rfl)) ?_
          try go_wp2
          go_roundg k3
          case measure => have := HK1.out;have := HJ19.out;have := HK3.out;omega
          case rel => exact ⟨(y704),(wrap64 (x6_3 + 1)),rD,H',o3 HK1 HJ19 HK3,⟨rN HQ38⟩,⟨by (with_reducible repeat (first | refine blk_drewN ?_ _ | refine blk_drew ?_ | refine blk_alloc ?_ _));refine blk_far ?_ (by have h_ := Kd.R_ne HO_4.out BK690.out (by decide);intro e_;exact h_ (by rw [e_];rfl)) _;(with_reducible repeat (first | refine blk_drewN ?_ _ | refine blk_drew ?_ | refine blk_alloc ?_ _));exact BK690.out⟩,⟨bN HB⟩⟩
         ·have H' := aK H;clear H;have hcz39_0 := z0 BK690;have hfz39_0 := fZ BK690 0;obtain ⟨ad699,A699_0,c699_0,e699,-,hx699_0,HR699_0,HC699_0,p699,q699⟩ := aL HR0_0.out HB x5_1;obtain rfl := iJ e699;go_wp2
          go_roundg k3
          case measure => have := HK1.out;have := HJ19.out;have := HK3.out;omega
          case rel => exact ⟨(x4_3),(wrap64 (x5_1 - 1)),rD,H',o3 HK1 HJ19 HK3,⟨rN HO_4⟩,⟨kN BK690⟩,⟨bN HB⟩⟩
    ·simp only [Option.some.injEq,Prod.mk.injEq] at H;obtain ⟨rfl,rfl⟩ := H;go_wp2;go_ret2;exact ⟨_,eR ⟨by (with_reducible repeat (first | apply Kd.R_alloc | apply Kd.R_drewN | apply Kd.R_drew));exact HO_4.out,(bN HB)⟩⟩
 ·simp only [Option.some.injEq,Prod.mk.injEq] at H;obtain ⟨rfl,rfl⟩ := H;go_enter Try.func22,Try.ntmps22
  go_wp2_with ((with_reducible refine wP ?_);first | (refine boxE 1 #[.slice A0_0 l0_0.length c0_0] 26 ?_;intro gb690 hg w40 hbox hb;have BK690 := aK (hbox);have GW690 := aK (zG HB hg);have GE690 := aK (zG HB hg);replace HB := hB HB hb;clear hb hbox hg;have hcz41_0 := z0 BK690;have hfz41_0 := fZ BK690 0) | (refine gT 8 Try.func58 (Zp.calls k _ _ l0_0 false _ (cB HR0_0 HB) HC0_0.out A2.out) ?_;intro w42 hb;replace BK690 := kB BK690 hb;replace HB := hB HB hb;clear hb))
  go_ret2;exact ⟨_,eR ⟨by first | exact Kd.R_nil _ _ _ _ _ | exact Kd.N_nil _ _ _ _ _ | exact Kd.V_nil _ _ _ _ _ | exact Kd.Q_nil _ _ _ _ _ | exact Kd.S_nil _ _ _ _ _,(bN HB)⟩⟩
mutual
def Zo.l0 : Nat → List Int → Int → List (List Int) → Option (List Int × Int)
 | 0,_,_,_ => none
 | k + 1,x4,x5,xqn => if x5 ≥ 0 then (Zo.l1 k x4 x5 0 xqn) else (some (x4,0))
def Zo.l1 : Nat → List Int → Int → Int → List (List Int) → Option (List Int × Int)
 | 0,_,_,_,_ => none
 | k + 1,x4,x5,x6,xqn => if 0 ≤ x5 then (if x5 < (xqn.length : Int) then (if x6 < ((rd_L2 xqn x5).length : Int) then (if 0 ≤ x6 then (if 0 ≤ (rd (rd_L2 xqn x5) x6) then (if (rd (rd_L2 xqn x5) x6) < (x4.length : Int) then (if x6 = 0 then (if x5 < (x4.length : Int) then (Zo.l1 k (x4.set (x5 : Int).toNat (wrap64 ((rd x4 (rd (rd_L2 xqn x5) x6)) + 1))) x5 (wrap64 (x6 + 1)) xqn) else (none)) else (if x5 < (x4.length : Int) then (if (wrap64 ((rd x4 (rd (rd_L2 xqn x5) x6)) + 1)) < (rd x4 x5) then (Zo.l1 k (x4.set (x5 : Int).toNat (wrap64 ((rd x4 (rd (rd_L2 xqn x5) x6)) + 1))) x5 (wrap64 (x6 + 1)) xqn) else (Zo.l1 k x4 x5 (wrap64 (x6 + 1)) xqn)) else (none))) else (none)) else (none)) else (none)) else (Zo.l0 k x4 (wrap64 (x5 - 1)) xqn)) else (none)) else (none)
end
def Zo.f (k : Nat) (l0_0 : List (List Int)) : Option (List Int × Int) := (Zp.f k l0_0).bind fun t706 => (if t706 = true then ((Zq.f l0_0).bind fun t707 => (if 0 ≤ t707 then (if (t707 : Int).toNat ≤ 35184372088832 then ((Zq.f l0_0).bind fun t711 => (Zo.l0 k (List.replicate (t707 : Int).toNat 0) (wrap64 (t711 - 1)) l0_0)) else (none)) else (none))) else (some (([] : List Int), 1)))
theorem Zo.mono_l : ∀ k, (∀ y0 y1 y2, LeO (Zo.l0 k y0 y1 y2) (Zo.l0 (k + 1) y0 y1 y2)) ∧ (∀ y0 y1 y2 y3, LeO (Zo.l1 k y0 y1 y2 y3) (Zo.l1 (k + 1) y0 y1 y2 y3))
 | 0 => ⟨fun _ _ _ r h => by simp [Zo.l0] at h,fun _ _ _ _ r h => by simp [Zo.l1] at h⟩
 | k + 1 => by
  obtain ⟨ih0,ih1⟩ := Zo.mono_l k;refine ⟨?_,?_⟩ <;> (intros;first | unfold Zo.l0 | unfold Zo.l1)
  all_goals have m0 := Zp.mono;exact lO
theorem Zo.mono : ∀ a0 k, LeO (Zo.f k a0) (Zo.f (k + 1) a0) := by
 intro a0 k;obtain ⟨ih0,ih1⟩ := Zo.mono_l k;unfold Zo.f;have m0 := Zp.mono;exact lO
theorem Zo.calls (k : Nat) (A0_0 : Option Addr) (c0_0 : Nat) (l0_0 : List (List Int)) (r1 : List Int) (r2 : Int) (w : World) (hr0_0 : Kd.C (Kd.slice 2 (Kd.int .i64)) w A0_0 l0_0.length l0_0) (hc0_0 : l0_0.length ≤ c0_0) (h : Zo.f k l0_0 = some (r1, r2)) :
 Calls Try.prog 23 #[.agg #[.slice A0_0 l0_0.length c0_0]] w fun e w' => ∃ v0_ : Value,e = .returned (.tuple #[v0_,.int .i64 r2]) ∧ Kd.R (Kd.int .i64) 2 w' w.heap.size (fun _ => True) v0_ r1 ∧ Below w.heap.size w w' := by
 have hu26 := Try.underlying26;have HR0_0 := aK hr0_0;have HC0_0 := aK hc0_0;clear hr0_0 hc0_0;have HB := aK (Below.refl w.heap.size w);have H := h;clear h;unfold Zo.f at H;replace H := bE H;obtain ⟨t706,A2,H⟩ := H;replace H := iB H;obtain ⟨rfl,H⟩|⟨rfl,H⟩ := H
 ·replace H := bE H;obtain ⟨t707,A4,H⟩ := H
  by_cases c5 : 0 ≤ t707
  rotate_left
  ·rw [if_neg c5] at H;exact absurd H (by simp)
  rw [if_pos c5] at H;have c5b0 := eq_true c5;have c5b1 := decide_eq_true c5;clear c5
  by_cases c6 : (t707 : Int).toNat ≤ 35184372088832
  rotate_left
  ·rw [if_neg c6] at H;exact absurd H (by simp)
  rw [if_pos c6] at H;have c6b0 := eq_true c6;have c6b1 := decide_eq_true c6;clear c6;obtain ⟨y708,hy708⟩ : ∃ y_ : List Int,y_ = (List.replicate (t707 : Int).toNat 0) := ⟨_,rfl⟩;rw [← hy708] at H;have Ny708 := aK hy708;clear hy708;replace H := bE H;obtain ⟨t711,A7,H⟩ := H;have H' := aK H;clear H;go_enter Try.func23,Try.ntmps23
  go_wp2_with (first | ((with_reducible refine wP ?_);refine boxE 1 #[.slice A0_0 l0_0.length c0_0] 26 ?_;intro gb705 hg w8 hbox hb;have BK705 := aK (hbox);have GW705 := aK (zG HB hg);have GE705 := aK (zG HB hg);replace HB := hB HB hb;clear hb hbox hg;have hcz9_0 := z0 BK705;have hfz9_0 := fZ BK705 0) | ((with_reducible refine wP ?_);refine gT 9 Try.func58 (Zp.calls k _ _ l0_0 true _ (cB HR0_0 HB) HC0_0.out A2.out) ?_;intro w10 hb;replace BK705 := kB BK705 hb;replace HB := hB HB hb;clear hb;have hcz11_0 := z0 BK705;have hfz11_0 := fZ BK705 0) | ((with_reducible refine wP ?_);refine gT 12 Try.func43 (Zq.calls _ _ l0_0 t707 _ (cB HR0_0 HB) HC0_0.out A4.out) ?_;intro w12 hb;replace BK705 := kB BK705 hb;replace HB := hB HB hb;clear hb) | ((with_reducible refine gate_dst (N := 13) rfl ?_);refine Kd.R_make (Kd.int .i64) _ 2 rfl (N := 13) rfl 29 _ _ rfl t707 rfl rfl Try.underlying29 (.int .i64 0) 8 info2 rfl (by decide) (by omega) 0 (ok := fun _ => True) (okp := fun _ => True) rfl (fun _ hk => hk) trivial (of_decide_eq_true (by first | (with_reducible assumption) | assumption)) (Nat.le_trans (Nat.mul_le_mul_right _ (of_decide_eq_true (by first | (with_reducible assumption) | assumption) : t707.toNat ≤ 35184372088832)) (by omega)) (Below.refl _ _) (Nat.le_refl _) ?_;intro v709 w13 ho14 hb hg_ hnew_;clear hg_ hnew_;(first | rw [← Ny708.out] at ho14 | (simp only [Int.reduceToNat] at ho14;rw [← Ny708.out] at ho14));have HO710 := rl ho14 HB;replace BK705 := kB BK705 hb;replace HB := hB HB hb;clear hb ho14;have hcz15_0 := z0 BK705;have hfz15_0 := fZ BK705 0) | ((with_reducible refine wP ?_);refine gT 15 Try.func43 (Zq.calls _ _ l0_0 t711 _ (cB HR0_0 HB) HC0_0.out A7.out) ?_;intro w16 hb;replace HO710 := rB HO710 hb;replace BK705 := kB BK705 hb;replace HB := hB HB hb;clear hb))
  go_loopg [5] k (fun kq v5 w' => ∃ (x4_1 : List Int) (x5_1 : Int),v5 = .int .i64 x5_1 ∧ Aside0 (Zo.l0 kq x4_1 x5_1 l0_0 = some (r1,r2)) ∧ Aside0 (kq ≤ k) ∧ Aside0 (Kd.R (Kd.int .i64) 2 w' w.heap.size (fun _ => True) v709 x4_1) ∧ Aside0 (w'.heap[gb705]? = some (.cells #[(.slice A0_0 l0_0.length c0_0)] 26 (0,0))) ∧ Aside0 (Below w.heap.size w w'))
  case atStart => exact ⟨(y708),(wrap64 (t711 - 1)),rD,H',⟨Nat.le_refl _⟩,⟨rN HO710⟩,⟨kN BK705⟩,⟨bN HB⟩⟩
  case round =>
   clear H';clear c5b0 c5b1 c6b0 c6b1 hcz11_0 hcz15_0 hcz9_0 hfz11_0 hfz15_0 hfz9_0;obtain ⟨x4_1,x5_1,rfl,HA,HK1,HO_4,BK705,HB⟩ := hrel
   cases gk with
   | zero => exact absurd HA.out (by simp [Zo.l0])
   | succ k1 =>
    have H := HA.out;clear HA;simp only [Zo.l0] at H;replace H := iT H;obtain ⟨c17b0,H⟩|⟨c17b0,H⟩ := H
    ·have H' := aK H;clear H;go_wp2
     go_loopg [6] k1 (fun kq v6 w' => ∃ (x4_2 : List Int) (x6_2 : Int),v6 = .int .i64 x6_2 ∧ Aside0 (Zo.l1 kq x4_2 x5_1 x6_2 l0_0 = some (r1,r2)) ∧ Aside0 (kq ≤ k1) ∧ Aside0 (Kd.R (Kd.int .i64) 2 w' w.heap.size (fun _ => True) v709 x4_2) ∧ Aside0 (w'.heap[gb705]? = some (.cells #[(.slice A0_0 l0_0.length c0_0)] 26 (0,0))) ∧ Aside0 (Below w.heap.size w w'))
     case atStart => exact ⟨(x4_1),(0),rD,H',⟨Nat.le_refl _⟩,⟨rN HO_4⟩,⟨kN BK705⟩,⟨bN HB⟩⟩
     case round =>
      clear H';clear c17b0;obtain ⟨x4_2,x6_2,rfl,HA,HK2,HO_4,BK705,HB⟩ := hrel
      cases gk with
      | zero => exact absurd HA.out (by simp [Zo.l1])
      | succ k2 =>
       have H := HA.out;clear HA;simp only [Zo.l1] at H;replace H := iP H;obtain ⟨c18b0,H⟩ := H;replace H := iP H;obtain ⟨c19b0,H⟩ := H;replace H := iT H;obtain ⟨c20b0,H⟩|⟨c20b0,H⟩ := H
       ·replace H := iP H;obtain ⟨c21b0,H⟩ := H;replace H := iP H;obtain ⟨c22b0,H⟩ := H;replace H := iP H;obtain ⟨c23b0,H⟩ := H
        by_cases c24 : x6_2 = 0
        ·rw [if_pos c24] at H;have c24b0 := beq_iff_eq.mpr c24;have c24b1 := bne_eq_false_iff_eq.mpr c24;clear c24;replace H := iP H;obtain ⟨c25b0,H⟩ := H;obtain ⟨y716,hy716⟩ : ∃ y_ : List Int,y_ = (x4_2.set (x5_1 : Int).toNat (wrap64 ((rd x4_2 (rd (rd_L2 l0_0 x5_1) x6_2)) + 1))) := ⟨_,rfl⟩;rw [← hy716] at H;have Ny716 := aK hy716;clear hy716;have H' := aK H;clear H;have hcz27_0 := z0 BK705;have hfz27_0 := fZ BK705 0;obtain ⟨ad712,A712_0,c712_0,rfl,-,hx712_0,HR712_0,HC712_0,p712,q712⟩ := aL HR0_0.out HB x5_1;obtain ⟨ad713,A713_0,c713_0,e713,-,hx713_0,HR713_0,HC713_0,p713,q713⟩ := aL HR0_0.out HB x5_1;obtain rfl := iJ e713;have ea_ := Option.some.inj (hx712_0.symm.trans hx713_0);injection ea_ with ea_ en_ ec_
         subst ea_;subst ec_;clear en_;obtain ⟨ad714,rfl,-,hx714_0,p714,q714⟩ := aI HR713_0.out HB x6_2;obtain ⟨Ao28,co28,eo28⟩ := Kd.R_slice HO_4.out;subst eo28;obtain ⟨ad715,rfl,hx715_0,p715,q715⟩ := aJ (rr HO_4) (rd (rd_L2 l0_0 x5_1) x6_2);have p26 : 0 ≤ (x5_1 : Int) := dT;have q26 : (x5_1 : Int) < ((x4_2.length : Int) : Int) := dT;obtain ⟨go26,co26,eo26,gb26,gl26,cl26,HG26⟩ := Kd.R_form HO_4.out (by omega);(first | cases eo26 | (injection eo26 with ea_ en_ ec_;(first | subst ea_ | (injection ea_ with ea_;subst ea_));subst ec_;clear en_));have GB26 := aK gb26;have GG26 := aK HG26;clear gb26 gl26 HG26;(first | simp only [add_plain] at hx715_0 | skip);obtain ⟨hx26_0,hf26_0⟩ := Kd.R_celln 0 HO_4.out (x5_1 : Int) p26 q26;replace p26 := eq_true p26;replace q26 := eq_true q26;have HP29 := Kd.R_putg HO_4.out (x5_1 : Int) (wrap64 ((rd x4_2 (rd (rd_L2 l0_0 x5_1) x6_2)) + 1))
         go_wp2_with (first | ((with_reducible refine gate_store (t := 2) (p := 56) rfl ?_);refine store_event (t := 2) (p := 56) (v := ?vo_w30) (w1 := (wr.setCell ⟨go26,(x5_1 : Int).toNat,none⟩ (.int .i64 (wrap64 ((rd x4_2 (rd (rd_L2 l0_0 x5_1) x6_2)) + 1))))) ?hg ?ho ?hn ?hr ?_;(case ho => rfl);(case hg => rfl);(case hn => rfl);(case hr => first | (go_simp;done) | (go_simp;rfl));intro w30 hw;have hg : wr.grownBy w30 (some go26) := (by rw [hw];exact HP29.2);have hp_ : Kd.R (Kd.int .i64) 2 w30 w.heap.size (fun _ => True) (.slice (some ⟨go26,0,none⟩) x4_2.length co28) y716 := (by rw [hw,Ny716.out];exact HP29.1);clear HP29;replace BK705 := aK (blk_grown (g := gb705) (o := .cells #[.slice (some ad712) l0_0.length c0_0] 26 (0,0)) (kN BK705) hg (Kd.R_ne HO_4.out BK705.out (by decide)));replace HO_4 := aK (hp_);replace HB := aK ((by rw [hw];exact below_set (HB.out) GB26.out : Below w.heap.size w w30));clear hg hw hp_))
         go_roundg k2
         case measure => have := HK1.out;have := HK2.out;omega
         case rel => exact ⟨(y716),(wrap64 (x6_2 + 1)),rD,H',o2 HK1 HK2,⟨rN HO_4⟩,⟨kN BK705⟩,⟨bN HB⟩⟩
        ·rw [if_neg c24] at H;have c24b0 := beq_eq_false_iff_ne.mpr c24;have c24b1 := bne_iff_ne.mpr c24;replace H := iP H;obtain ⟨c31b0,H⟩ := H;replace H := iT H;obtain ⟨c32b0,H⟩|⟨c32b0,H⟩ := H
         ·obtain ⟨y718,hy718⟩ : ∃ y_ : List Int,y_ = (x4_2.set (x5_1 : Int).toNat (wrap64 ((rd x4_2 (rd (rd_L2 l0_0 x5_1) x6_2)) + 1))) := ⟨_,rfl⟩;rw [← hy718] at H;have Ny718 := aK hy718;clear hy718;have H' := aK H;clear H;have hcz34_0 := z0 BK705;have hfz34_0 := fZ BK705 0;obtain ⟨ad712,A712_0,c712_0,rfl,-,hx712_0,HR712_0,HC712_0,p712,q712⟩ := aL HR0_0.out HB x5_1;obtain ⟨ad713,A713_0,c713_0,e713,-,hx713_0,HR713_0,HC713_0,p713,q713⟩ := aL HR0_0.out HB x5_1;obtain rfl := iJ e713;have ea_ := Option.some.inj (hx712_0.symm.trans hx713_0);injection ea_ with ea_ en_ ec_
          subst ea_;subst ec_;clear en_;obtain ⟨ad714,rfl,-,hx714_0,p714,q714⟩ := aI HR713_0.out HB x6_2;obtain ⟨Ao35,co35,eo35⟩ := Kd.R_slice HO_4.out;subst eo35;obtain ⟨ad715,rfl,hx715_0,p715,q715⟩ := aJ (rr HO_4) (rd (rd_L2 l0_0 x5_1) x6_2);obtain ⟨ad717,e717,hx717_0,p717,q717⟩ := aJ (rr HO_4) x5_1;obtain rfl := iJ e717;have p33 : 0 ≤ (x5_1 : Int) := dT;have q33 : (x5_1 : Int) < ((x4_2.length : Int) : Int) := dT;obtain ⟨go33,co33,eo33,gb33,gl33,cl33,HG33⟩ := Kd.R_form HO_4.out (by omega);(first | cases eo33 | (injection eo33 with ea_ en_ ec_;(first | subst ea_ | (injection ea_ with ea_;subst ea_));subst ec_;clear en_));have GB33 := aK gb33;have GG33 := aK HG33;clear gb33 gl33 HG33;(first | simp only [add_plain] at hx715_0 | skip);(first | simp only [add_plain] at hx717_0 | skip);obtain ⟨hx33_0,hf33_0⟩ := Kd.R_celln 0 HO_4.out (x5_1 : Int) p33 q33;replace p33 := eq_true p33;replace q33 := eq_true q33;have HP36 := Kd.R_putg HO_4.out (x5_1 : Int) (wrap64 ((rd x4_2 (rd (rd_L2 l0_0 x5_1) x6_2)) + 1))
          go_wp2_with (first | ((with_reducible refine gate_store (t := 2) (p := 56) rfl ?_);refine store_event (t := 2) (p := 56) (v := ?vo_w37) (w1 := (wr.setCell ⟨go33,(x5_1 : Int).toNat,none⟩ (.int .i64 (wrap64 ((rd x4_2 (rd (rd_L2 l0_0 x5_1) x6_2)) + 1))))) ?hg ?ho ?hn ?hr ?_;(case ho => rfl);(case hg => rfl);(case hn => rfl);(case hr => first | (go_simp;done) | (go_simp;rfl));intro w37 hw;have hg : wr.grownBy w37 (some go33) := (by rw [hw];exact HP36.2);have hp_ : Kd.R (Kd.int .i64) 2 w37 w.heap.size (fun _ => True) (.slice (some ⟨go33,0,none⟩) x4_2.length co35) y718 := (by rw [hw,Ny718.out];exact HP36.1);clear HP36;replace BK705 := aK (blk_grown (g := gb705) (o := .cells #[.slice (some ad712) l0_0.length c0_0] 26 (0,0)) (kN BK705) hg (Kd.R_ne HO_4.out BK705.out (by decide)));replace HO_4 := aK (hp_);replace HB := aK ((by rw [hw];exact below_set (HB.out) GB33.out : Below w.heap.size w w37));clear hg hw hp_))
          go_roundg k2
          case measure => have := HK1.out;have := HK2.out;omega
          case rel => exact ⟨(y718),(wrap64 (x6_2 + 1)),rD,H',o2 HK1 HK2,⟨rN HO_4⟩,⟨kN BK705⟩,⟨bN HB⟩⟩
         ·have H' := aK H;clear H;have hcz38_0 := z0 BK705;have hfz38_0 := fZ BK705 0;obtain ⟨ad712,A712_0,c712_0,rfl,-,hx712_0,HR712_0,HC712_0,p712,q712⟩ := aL HR0_0.out HB x5_1;obtain ⟨ad713,A713_0,c713_0,e713,-,hx713_0,HR713_0,HC713_0,p713,q713⟩ := aL HR0_0.out HB x5_1;obtain rfl := iJ e713;have ea_ := Option.some.inj (hx712_0.symm.trans hx713_0);injection ea_ with ea_ en_ ec_
          subst ea_;subst ec_;clear en_;obtain ⟨ad714,rfl,-,hx714_0,p714,q714⟩ := aI HR713_0.out HB x6_2;obtain ⟨Ao39,co39,eo39⟩ := Kd.R_slice HO_4.out;subst eo39;obtain ⟨ad715,rfl,hx715_0,p715,q715⟩ := aJ (rr HO_4) (rd (rd_L2 l0_0 x5_1) x6_2);obtain ⟨ad717,e717,hx717_0,p717,q717⟩ := aJ (rr HO_4) x5_1;obtain rfl := iJ e717;go_wp2
          go_roundg k2
          case measure => have := HK1.out;have := HK2.out;omega
          case rel => exact ⟨(x4_2),(wrap64 (x6_2 + 1)),rD,H',o2 HK1 HK2,⟨rN HO_4⟩,⟨kN BK705⟩,⟨bN HB⟩⟩
       ·have H' := aK H;clear H;have hcz40_0 := z0 BK705;have hfz40_0 := fZ BK705 0;obtain ⟨ad712,A712_0,c712_0,rfl,-,hx712_0,HR712_0,HC712_0,p712,q712⟩ := aL HR0_0.out HB x5_1;go_wp2
        go_roundg k2
        case measure => have := HK1.out;have := HK2.out;omega
        case rel => exact ⟨(x4_2),(wrap64 (x5_1 - 1)),rD,H',o2 HK1 HK2,⟨rN HO_4⟩,⟨kN BK705⟩,⟨bN HB⟩⟩
    ·simp only [Option.some.injEq,Prod.mk.injEq] at H;obtain ⟨rfl,rfl⟩ := H;go_wp2;go_ret2;exact ⟨_,eR ⟨by (with_reducible repeat (first | apply Kd.R_alloc | apply Kd.R_drewN | apply Kd.R_drew));exact HO_4.out,(bN HB)⟩⟩
 ·simp only [Option.some.injEq,Prod.mk.injEq] at H;obtain ⟨rfl,rfl⟩ := H;go_enter Try.func23,Try.ntmps23
  go_wp2_with ((with_reducible refine wP ?_);first | (refine boxE 1 #[.slice A0_0 l0_0.length c0_0] 26 ?_;intro gb705 hg w41 hbox hb;have BK705 := aK (hbox);have GW705 := aK (zG HB hg);have GE705 := aK (zG HB hg);replace HB := hB HB hb;clear hb hbox hg;have hcz42_0 := z0 BK705;have hfz42_0 := fZ BK705 0) | (refine gT 9 Try.func58 (Zp.calls k _ _ l0_0 false _ (cB HR0_0 HB) HC0_0.out A2.out) ?_;intro w43 hb;replace BK705 := kB BK705 hb;replace HB := hB HB hb;clear hb))
  go_ret2;exact ⟨_,eR ⟨by first | exact Kd.R_nil _ _ _ _ _ | exact Kd.N_nil _ _ _ _ _ | exact Kd.V_nil _ _ _ _ _ | exact Kd.Q_nil _ _ _ _ _ | exact Kd.S_nil _ _ _ _ _,(bN HB)⟩⟩
mutual
def Zm.l0 : Nat → List Int → Int → List (List Int) → Option (List Int × Int)
 | 0,_,_,_ => none
 | k + 1,x4,x5,xqr => if x5 ≥ 0 then (Zm.l1 k x4 x5 0 xqr) else (some (x4,0))
def Zm.l1 : Nat → List Int → Int → Int → List (List Int) → Option (List Int × Int)
 | 0,_,_,_,_ => none
 | k + 1,x4,x5,x6,xqr => if 0 ≤ x5 then (if x5 < (xqr.length : Int) then (if x6 < ((rd_L2 xqr x5).length : Int) then (if x5 < (x4.length : Int) then (if 0 ≤ x6 then (if 0 ≤ (rd (rd_L2 xqr x5) x6) then (if (rd (rd_L2 xqr x5) x6) < (x4.length : Int) then (Zm.l1 k (x4.set (x5 : Int).toNat (mx (rd x4 x5) (wrap64 ((rd x4 (rd (rd_L2 xqr x5) x6)) + 1)))) x5 (wrap64 (x6 + 1)) xqr) else (none)) else (none)) else (none)) else (none)) else (Zm.l0 k x4 (wrap64 (x5 - 1)) xqr)) else (none)) else (none)
end
def Zm.f (k : Nat) (l0_0 : List (List Int)) : Option (List Int × Int) := (Zp.f k l0_0).bind fun t720 => (if t720 = true then ((Zq.f l0_0).bind fun t721 => (if 0 ≤ t721 then (if (t721 : Int).toNat ≤ 35184372088832 then ((Zq.f l0_0).bind fun t725 => (Zm.l0 k (List.replicate (t721 : Int).toNat 0) (wrap64 (t725 - 1)) l0_0)) else (none)) else (none))) else (some (([] : List Int), 1)))
theorem Zm.mono_l : ∀ k, (∀ y0 y1 y2, LeO (Zm.l0 k y0 y1 y2) (Zm.l0 (k + 1) y0 y1 y2)) ∧ (∀ y0 y1 y2 y3, LeO (Zm.l1 k y0 y1 y2 y3) (Zm.l1 (k + 1) y0 y1 y2 y3))
 | 0 => ⟨fun _ _ _ r h => by simp [Zm.l0] at h,fun _ _ _ _ r h => by simp [Zm.l1] at h⟩
 | k + 1 => by
  obtain ⟨ih0,ih1⟩ := Zm.mono_l k;refine ⟨?_,?_⟩ <;> (intros;first | unfold Zm.l0 | unfold Zm.l1)
  all_goals have m0 := Zp.mono;exact lO
theorem Zm.mono : ∀ a0 k, LeO (Zm.f k a0) (Zm.f (k + 1) a0) := by
 intro a0 k;obtain ⟨ih0,ih1⟩ := Zm.mono_l k;unfold Zm.f;have m0 := Zp.mono;exact lO
def Zm.T10 : Bool × List (List Nat × List Nat) := (true, [([], []), ([], []), ([], []), ([], []), ([2, 3], [2, 3]), ([4], [4]), ([], []), ([], []), ([7], [7]), ([], []), ([8, 9], [8, 9]), ([10], [10]), ([], []), ([11, 12], [11, 12]), ([13], [13]), ([6, 14], [6, 14]), ([15], [15]), ([16], [16]), ([5, 17], [5, 17]), ([0, 1, 0, 1, 2, 3, 4, 5, 6, 7, 8, 9, 10, 11, 12, 13, 14, 15, 16, 17, 18], [0, 1]), ([19, 18, 0, 1, 2, 3, 4, 5, 6, 7, 8, 9, 10, 11, 12, 13, 14, 15, 16, 17, 18], [18, 19])])
def Zm.B10 : List Nat := [0, 0, 0, 0, 12, 28, 0, 0, 128, 0, 896, 1920, 0, 8064, 16256, 32704, 65472, 131008, 262140, 524287, 1048575]
theorem Zm.tab10 : rtab .any (opsOf Try.f24 10) = Zm.T10 := by kernel_rfl
theorem Zm.bits10 : waitsOk Zm.T10.2 Zm.B10 = true := by kernel_rfl
theorem Zm.calls (k : Nat) (A0_0 : Option Addr) (c0_0 : Nat) (l0_0 : List (List Int)) (r1 : List Int) (r2 : Int) (w : World) (hr0_0 : Kd.C (Kd.slice 2 (Kd.int .i64)) w A0_0 l0_0.length l0_0) (hc0_0 : l0_0.length ≤ c0_0) (h : Zm.f k l0_0 = some (r1, r2)) :
 Calls Try.prog 24 #[.agg #[.slice A0_0 l0_0.length c0_0]] w fun e w' => ∃ v0_ : Value,e = .returned (.tuple #[v0_,.int .i64 r2]) ∧ Kd.R (Kd.int .i64) 2 w' w.heap.size (fun _ => True) v0_ r1 ∧ Below w.heap.size w w' := by
 have hu26 := Try.underlying26;have HR0_0 := aK hr0_0;have HC0_0 := aK hc0_0;clear hr0_0 hc0_0;have HB := aK (Below.refl w.heap.size w);have H := h;clear h;unfold Zm.f at H;replace H := bE H;obtain ⟨t720,A2,H⟩ := H;replace H := iB H;obtain ⟨rfl,H⟩|⟨rfl,H⟩ := H
 ·replace H := bE H;obtain ⟨t721,A4,H⟩ := H
  by_cases c5 : 0 ≤ t721
  rotate_left
  ·rw [if_neg c5] at H;exact absurd H (by simp)
  rw [if_pos c5] at H;have c5b0 := eq_true c5;have c5b1 := decide_eq_true c5;clear c5
  by_cases c6 : (t721 : Int).toNat ≤ 35184372088832
  rotate_left
  ·rw [if_neg c6] at H;exact absurd H (by simp)
  rw [if_pos c6] at H;have c6b0 := eq_true c6;have c6b1 := decide_eq_true c6;clear c6;obtain ⟨y722,hy722⟩ : ∃ y_ : List Int,y_ = (List.replicate (t721 : Int).toNat 0) := ⟨_,rfl⟩;rw [← hy722] at H;have Ny722 := aK hy722;clear hy722;replace H := bE H;obtain ⟨t725,A7,H⟩ := H;have H' := aK H;clear H;go_enter Try.func24,Try.ntmps24
  go_wp2_with (first | ((with_reducible refine wP ?_);refine boxE 1 #[.slice A0_0 l0_0.length c0_0] 26 ?_;intro gb719 hg w8 hbox hb;have BK719 := aK (hbox);have GW719 := aK (zG HB hg);have GE719 := aK (zG HB hg);replace HB := hB HB hb;clear hb hbox hg;have hcz9_0 := z0 BK719;have hfz9_0 := fZ BK719 0) | ((with_reducible refine wP ?_);refine gT 8 Try.func58 (Zp.calls k _ _ l0_0 true _ (cB HR0_0 HB) HC0_0.out A2.out) ?_;intro w10 hb;replace BK719 := kB BK719 hb;replace HB := hB HB hb;clear hb;have hcz11_0 := z0 BK719;have hfz11_0 := fZ BK719 0) | ((with_reducible refine wP ?_);refine gT 11 Try.func43 (Zq.calls _ _ l0_0 t721 _ (cB HR0_0 HB) HC0_0.out A4.out) ?_;intro w12 hb;replace BK719 := kB BK719 hb;replace HB := hB HB hb;clear hb) | ((with_reducible refine gate_dst (N := 12) rfl ?_);refine Kd.R_make (Kd.int .i64) _ 2 rfl (N := 12) rfl 29 _ _ rfl t721 rfl rfl Try.underlying29 (.int .i64 0) 8 info2 rfl (by decide) (by omega) 0 (ok := fun _ => True) (okp := fun _ => True) rfl (fun _ hk => hk) trivial (of_decide_eq_true (by first | (with_reducible assumption) | assumption)) (Nat.le_trans (Nat.mul_le_mul_right _ (of_decide_eq_true (by first | (with_reducible assumption) | assumption) : t721.toNat ≤ 35184372088832)) (by omega)) (Below.refl _ _) (Nat.le_refl _) ?_;intro v723 w13 ho14 hb hg_ hnew_;clear hg_ hnew_;(first | rw [← Ny722.out] at ho14 | (simp only [Int.reduceToNat] at ho14;rw [← Ny722.out] at ho14));have HO724 := rl ho14 HB;replace BK719 := kB BK719 hb;replace HB := hB HB hb;clear hb ho14;have hcz15_0 := z0 BK719;have hfz15_0 := fZ BK719 0) | ((with_reducible refine wP ?_);refine gT 14 Try.func43 (Zq.calls _ _ l0_0 t725 _ (cB HR0_0 HB) HC0_0.out A7.out) ?_;intro w16 hb;replace HO724 := rB HO724 hb;replace BK719 := kB BK719 hb;replace HB := hB HB hb;clear hb))
  go_loopg [5] k (fun kq v5 w' => ∃ (x4_1 : List Int) (x5_1 : Int),v5 = .int .i64 x5_1 ∧ Aside0 (Zm.l0 kq x4_1 x5_1 l0_0 = some (r1,r2)) ∧ Aside0 (kq ≤ k) ∧ Aside0 (Kd.R (Kd.int .i64) 2 w' w.heap.size (fun _ => True) v723 x4_1) ∧ Aside0 (w'.heap[gb719]? = some (.cells #[(.slice A0_0 l0_0.length c0_0)] 26 (0,0))) ∧ Aside0 (Below w.heap.size w w'))
  case atStart => exact ⟨(y722),(wrap64 (t725 - 1)),rD,H',⟨Nat.le_refl _⟩,⟨rN HO724⟩,⟨kN BK719⟩,⟨bN HB⟩⟩
  case round =>
   clear H';clear c5b0 c5b1 c6b0 c6b1 hcz11_0 hcz15_0 hcz9_0 hfz11_0 hfz15_0 hfz9_0;obtain ⟨x4_1,x5_1,rfl,HA,HK1,HO_4,BK719,HB⟩ := hrel
   cases gk with
   | zero => exact absurd HA.out (by simp [Zm.l0])
   | succ k1 =>
    have H := HA.out;clear HA;simp only [Zm.l0] at H;replace H := iT H;obtain ⟨c17b0,H⟩|⟨c17b0,H⟩ := H
    ·have H' := aK H;clear H;go_wp2
     go_loopg [6] k1 (fun kq v6 w' => ∃ (x4_2 : List Int) (x6_2 : Int),v6 = .int .i64 x6_2 ∧ Aside0 (Zm.l1 kq x4_2 x5_1 x6_2 l0_0 = some (r1,r2)) ∧ Aside0 (kq ≤ k1) ∧ Aside0 (Kd.R (Kd.int .i64) 2 w' w.heap.size (fun _ => True) v723 x4_2) ∧ Aside0 (w'.heap[gb719]? = some (.cells #[(.slice A0_0 l0_0.length c0_0)] 26 (0,0))) ∧ Aside0 (Below w.heap.size w w'))
     case atStart => exact ⟨(x4_1),(0),rD,H',⟨Nat.le_refl _⟩,⟨rN HO_4⟩,⟨kN BK719⟩,⟨bN HB⟩⟩
     case round =>
      clear H';clear c17b0;obtain ⟨x4_2,x6_2,rfl,HA,HK2,HO_4,BK719,HB⟩ := hrel
      cases gk with
      | zero => exact absurd HA.out (by simp [Zm.l1])
      | succ k2 =>
       have H := HA.out;clear HA;simp only [Zm.l1] at H;replace H := iP H;obtain ⟨c18b0,H⟩ := H;replace H := iP H;obtain ⟨c19b0,H⟩ := H;replace H := iT H;obtain ⟨c20b0,H⟩|⟨c20b0,H⟩ := H
       ·replace H := iP H;obtain ⟨c21b0,H⟩ := H;replace H := iP H;obtain ⟨c22b0,H⟩ := H;replace H := iP H;obtain ⟨c23b0,H⟩ := H;replace H := iP H;obtain ⟨c24b0,H⟩ := H;obtain ⟨ji25,hji25⟩ : ∃ j_ : Int,(mx (rd x4_2 x5_1) (wrap64 ((rd x4_2 (rd (rd_L2 l0_0 x5_1) x6_2)) + 1))) = j_ := ⟨_,rfl⟩;(first | rw [hji25] at H | simp only [hji25] at H);have hji25_ : (if (rd x4_2 x5_1) < (wrap64 ((rd x4_2 (rd (rd_L2 l0_0 x5_1) x6_2)) + 1)) then (wrap64 ((rd x4_2 (rd (rd_L2 l0_0 x5_1) x6_2)) + 1)) else (rd x4_2 x5_1)) = ji25 := hji25;obtain ⟨y731,hy731⟩ : ∃ y_ : List Int,y_ = (x4_2.set (x5_1 : Int).toNat (ji25)) := ⟨_,rfl⟩;rw [← hy731] at H;have Ny731 := aK hy731;clear hy731;have H' := aK H;clear H;have hcz27_0 := z0 BK719;have hfz27_0 := fZ BK719 0;obtain ⟨ad726,A726_0,c726_0,rfl,-,hx726_0,HR726_0,HC726_0,p726,q726⟩ := aL HR0_0.out HB x5_1
        try go_wp2
        replace HO_4 := aK (Kd.R_drew HO_4.out);replace BK719 := dK BK719;replace HB := dH HB;obtain ⟨Ao29,co29,eo29⟩ := Kd.R_slice HO_4.out;(first | subst eo29 | (injection eo29 with f1_ f2_ f3_;have f4_ := f1_.symm;have f5_ := f3_.symm;clear f1_ f2_ f3_;subst f4_;subst f5_));obtain ⟨ad727,rfl,hx727_0,p727,q727⟩ := aJ (rr HO_4) x5_1;obtain ⟨ad728,A728_0,c728_0,e728,hw728_0,hx728_0,HR728_0,HC728_0,p728,q728⟩ := aL HR0_0.out HB x5_1;obtain rfl := iJ e728;obtain ⟨ad729,rfl,hw729_0,hx729_0,p729,q729⟩ := aI HR728_0.out HB x6_2;obtain ⟨ad730,e730,hx730_0,p730,q730⟩ := aJ (rr HO_4) (rd (rd_L2 l0_0 x5_1) x6_2);obtain rfl := iJ e730;have p26 : 0 ≤ (x5_1 : Int) := dT;have q26 : (x5_1 : Int) < ((x4_2.length : Int) : Int) := dT;obtain ⟨go26,co26,eo26,gb26,gl26,cl26,HG26⟩ := Kd.R_form HO_4.out (by omega);(first | cases eo26 | (injection eo26 with ea_ en_ ec_;(first | subst ea_ | (injection ea_ with ea_;subst ea_));subst ec_;clear en_));have GB26 := aK gb26;have GG26 := aK HG26;clear gb26 gl26 HG26;(first | simp only [add_plain] at hx727_0 | skip);(first | simp only [add_plain] at hx730_0 | skip);obtain ⟨hx26_0,hf26_0⟩ := Kd.R_celln 0 HO_4.out (x5_1 : Int) p26 q26;replace p26 := eq_true p26;replace q26 := eq_true q26;have HP30 := Kd.R_putn HO_4.out (x5_1 : Int) ji25;rw [← Ny731.out] at HP30;have HQ30 := aK HP30;clear HP30;refine start_ (n := 21) (S := fun w' => w'.cell? ⟨gb719,0,none⟩ = some (.slice (some ad726) l0_0.length c0_0) ∧ w'.cell? ⟨go26,(x5_1).toNat,none⟩ = some (.int .i64 (rd x4_2 x5_1)) ∧ w'.cell? (ad726.add (x5_1).toNat) = some (.slice (some ad729) (rd_L2 l0_0 x5_1).length c728_0) ∧ w'.cell? (ad729.add (x6_2).toNat) = some (.int .i64 (rd (rd_L2 l0_0 x5_1) x6_2)) ∧ w'.cell? ⟨go26,((rd (rd_L2 l0_0 x5_1) x6_2)).toNat,none⟩ = some (.int .i64 (rd x4_2 (rd (rd_L2 l0_0 x5_1) x6_2)))) (ds := [20]) #[false,false,false,false,false,false,false,false,false,false,false,false,false,false,false,false,false,false,false,false,false] (by kernel_rfl) rfl rfl ⟨(blk_cell BK719.out 0).trans rfl,hx727_0,(cO HB hw728_0),(cO HB hw729_0),hx730_0⟩ (fun hHeld => ?_);refine with_tabW Zm.tab10 Zm.bits10 (fun HT_ HW_ => ?_)
        generalize wr.drew = w28 at HO_4 BK719 HB GG26 HQ30 HR728_0 hf26_0 hx26_0 hx727_0 hx728_0 hx729_0 hx730_0 hHeld ⊢
        refine pT HT_ 0 (some 30) ?_;refine pT HT_ 1 (some 31) ?_;refine pT HT_ 2 (some 32) ?_;refine pT HT_ 3 (some 33) ?_;refine pT HT_ 4 (some 34) ?_;refine pT HT_ 6 (some 36) ?_;refine pT HT_ 7 (some 37) ?_;refine pT HT_ 9 (some 39) ?_;refine pT HT_ 12 (some 42) ?_;refine tT HT_ HW_ hHeld 5 (some 35) ?_;refine tT HT_ HW_ hHeld 8 (some 38) ?_;refine pT HT_ 10 (some 40) ?_;refine tT HT_ HW_ hHeld 11 (some 41) ?_;refine pT HT_ 13 (some 43) ?_;refine tT HT_ HW_ hHeld 14 (some 44) ?_;refine pT HT_ 15 (some 45) ?_;refine tT HT_ HW_ hHeld 16 (some 46) ?_;refine pT HT_ 17 (some 47) ?_;refine pT HT_ 18 (some 48) ?_;refine pT HT_ 19 (some 49) ?_;refine last_ (i := 20) (N := none) #[true,true,true,true,true,true,true,true,true,true,true,true,true,true,true,true,true,true,true,true,true] rfl rfl (one_of HT_.out (by kernel_rfl)) (by decide) (fun K hK => ?_);refine skip_ (w1 := ?_) (by rfl) rfl ?_ ?_;rotate_left
        ·go_simp
         rfl
        refine hK.out _ _ ?_;clear hK K;refine done_ (done_of HT_.out (by kernel_rfl)) ?_
        try go_wp2
        go_roundg k2
        case measure => have := HK1.out;have := HK2.out;omega
        case rel => exact ⟨(y731),(wrap64 (x6_2 + 1)),rD,H',o2 HK1 HK2,⟨rN HQ30⟩,⟨by (with_reducible repeat (first | refine blk_drewN ?_ _ | refine blk_drew ?_ | refine blk_alloc ?_ _));refine blk_far ?_ (by have h_ := Kd.R_ne HO_4.out BK719.out (by decide);intro e_;exact h_ (by rw [e_];rfl)) _;(with_reducible repeat (first | refine blk_drewN ?_ _ | refine blk_drew ?_ | refine blk_alloc ?_ _));exact BK719.out⟩,⟨bN HB⟩⟩
       ·have H' := aK H;clear H;have hcz31_0 := z0 BK719;have hfz31_0 := fZ BK719 0;obtain ⟨ad726,A726_0,c726_0,rfl,-,hx726_0,HR726_0,HC726_0,p726,q726⟩ := aL HR0_0.out HB x5_1;go_wp2
        go_roundg k2
        case measure => have := HK1.out;have := HK2.out;omega
        case rel => exact ⟨(x4_2),(wrap64 (x5_1 - 1)),rD,H',o2 HK1 HK2,⟨rN HO_4⟩,⟨kN BK719⟩,⟨bN HB⟩⟩
    ·simp only [Option.some.injEq,Prod.mk.injEq] at H;obtain ⟨rfl,rfl⟩ := H;go_wp2;go_ret2;exact ⟨_,eR ⟨by (with_reducible repeat (first | apply Kd.R_alloc | apply Kd.R_drewN | apply Kd.R_drew));exact HO_4.out,(bN HB)⟩⟩
 ·simp only [Option.some.injEq,Prod.mk.injEq] at H;obtain ⟨rfl,rfl⟩ := H;go_enter Try.func24,Try.ntmps24
  go_wp2_with ((with_reducible refine wP ?_);first | (refine boxE 1 #[.slice A0_0 l0_0.length c0_0] 26 ?_;intro gb719 hg w32 hbox hb;have BK719 := aK (hbox);have GW719 := aK (zG HB hg);have GE719 := aK (zG HB hg);replace HB := hB HB hb;clear hb hbox hg;have hcz33_0 := z0 BK719;have hfz33_0 := fZ BK719 0) | (refine gT 8 Try.func58 (Zp.calls k _ _ l0_0 false _ (cB HR0_0 HB) HC0_0.out A2.out) ?_;intro w34 hb;replace BK719 := kB BK719 hb;replace HB := hB HB hb;clear hb))
  go_ret2;exact ⟨_,eR ⟨by first | exact Kd.R_nil _ _ _ _ _ | exact Kd.N_nil _ _ _ _ _ | exact Kd.V_nil _ _ _ _ _ | exact Kd.Q_nil _ _ _ _ _ | exact Kd.S_nil _ _ _ _ _,(bN HB)⟩⟩
end Go.Proofs.Ytfpoppidppoeoaa.PX
