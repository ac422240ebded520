/- Part 11 of the texts under the row of FnGamePlays (no condition). -/
import Derived.Test.YtfpoppidppoeoaaPk7FnGamePlays
namespace Go.Proofs.Ytfpoppidppoeoaa.PX
open Go.RowKit Go.Proofs.YtfpoppidppoeoaaW.PrintWords Go.Proofs.YtfpoppidppoeoaaW.PrintLast Go.Proofs.YtfpoppidppoeoaaW.PrintMore
attribute [local go_sem] max2_int min2_int max_two min_two max_three min_three max_four min_four
set_option linter.unusedVariables false
set_option linter.unusedSimpArgs false
set_option maxHeartbeats 8000000
set_option maxRecDepth 100000
theorem Za.sec3 : Za.S3 := by
 unfold Za.S3;intros;rename_i _ _ _ _ _ _ _ _ _ _ _ _ l0 r w _ t900 _ _ _ t913 _ gb904 Ao14 co14 _ _ _ _ _ _ HJ10 _ z2_450 _ _ _ t932 _ v933 _ _ _ _ _ _ _ _ _ _ _ _ _ _ _ _ _ _ _ _ _ _ _ _ _ _ _ _ _ _ _ _ _ _ _ _ _ _ _ _ _ _ _ _ _ _ _ _ _ _ _ _ _ _ _ _ _ _ _ _ _ _ _ _ _ _ _ _ _ _ _ _ _ _ _ _ _ _ _ _ _ _ _ _ _ _ _ _ _ _ _ _ _ _ _ _ _ _ _ _ _ _ _ _ _ _ _ _ _ _ _ _ _ _ _ _ _ _ _ _ _ _ _ _ _ _ _ _ _ _ _ _ _ _ _ _ _ _ _ _ _ _ _ _ _ _ _ _ _ _ _ _ _ _ _ _ _ _ _ _ _ _ _ _ _ _ _ _ _ _ _ _ _ _ _ _ _ _ _ _ _ _ _ _ _ _ _ _ _ _ _ _ _ _ _ _ _ _ _ _ _ _ _ _ _ _ _ _ _ _ _ _ _ _ _ _ _ _ _ _ _ _ _ _ _ _ _ _ _ _ _ _ _ _ _ _ _ _ _ _ _ _ _ _ _ _ _ _ _ _ _ _ _ _ _ _ _ _ _ _ _ _ _ _ _ _ _ _ _ _ _ _ _ _ _ _ _ _ _ _ _ _ _ _ _ _ _ _ _ _ _ _ _ _ _ _ _ _ _ _ _ _ _ _ _ _ _ _ _ _ _ _ _ _ _ _ _ _ _ _ _ _ _ _ _ _ _ _ _ _ _ _ _ _ _ _ _ _ _ _ _ _ _ _ _ _ _ _ _ _ _ _ _ _ _ _ _ _ _ _ _ _ _ _ _ _ _ _ _ _ _ HJ59 _ _ _ _ _ _ _ _ _ _ _ _ _ HK3 _ z3_539 _ z3_541 _ _ _ _ _ _ _ _ _ _ _ _ _ _ _ _ _ _ _ _ _ _ _ _ _ _ _ _ _ _ _ _ _ _ _ _ _ _ _ _ _ _ _ _ _ _ _ _ _ _ _ _ _ _ _ _ _ _ _ _ _ _ _ _ _ _ _ _ _ _ _ _ _ _ _ _ _ _ _ _ _ _ _ _ _ _ _ _ _ _ _ _ _ _ _ _ _ _ _ _ _ _ _ _ _ _ _ _ _ _ _ _ _ _ _ _ _ _ _ _ _ _ _ _ _ _ _ _ _ _ _ _ _ _ _ _ _ _ _ _ _ _ _ _ _ _ _ _ _ _ _ _ _ _ _ _ _ _ _ _ _ _ _ _ _ _ _ _ _ _ _ _ _ _ _ _ _ _ _ _ _ _ _ _ _ _ _ _ _ _ _ _ _ _ _ _ _ _ _ _ _ _ _ _ _ _ _ _ _ _ _ _ _ _ _ _ _ _ _ _ _ _ _ _ _ _ _ _ _ _ _ _ _ _ _ _ _ _ _ _ _ _ _ _ _ _ _ _ _ _ _ _ _ _ _ _ _ _ _ _ _ _ _ _ _ _ _ _ _ _ _ _ _ _ _ _ _ _ _ _ _ _ _ _ _ _ _ _ _ _ _ _ _ _ _ _ _ _ _ _ _ _ _ _ _ _ _ _ _ _ _ _ _ _ _ _ _ _ _ _ _ _ _ _ _ _ _ _ _ _ _ _ _ _ _ _ _ _ _ _ _ _ _ _ _ _ _ _ _ _ _ _ _ _ _ _ _ _ _ _ _ _ _ _ _ _ _ _ _ _ _ _ _ _ _ _ _ _ _ _ _ _ _ _ _ _ _ _ _ _ _ _ _ _ _ _ _ _ hcut
 conv => arg 2;whnf
 conv at z2_450 => enter [a,w];arg 1;arg 2;whnf
 conv at z3_539 => enter [a,w];arg 1;arg 2;whnf
 conv at z3_541 => enter [a,w];arg 1;arg 2;whnf
 obtain ⟨kq,x245_104,rfl,HA,HJ104,HO_9,HO_17,HO_q4,BK904,HB⟩ := hcut
 cases kq with
 | zero => exact absurd HA.out (by simp [Za.j3])
 | succ kj104 =>
  have H := HA.out;clear HA;simp only [Za.j3] at H
  replace H := iB H;obtain ⟨rfl,H⟩|⟨rfl,H⟩ := H
  ·obtain rfl := Option.some.inj H;go_wp2;go_ret;exact eR (bN HB)
  ·have H' := aK H;clear H;obtain ⟨Ao114,co114,eo114⟩ := Kd.R_slice HO_9.out;subst eo114;go_wp2
   go_loopg [248] kj104 (fun kq v248 w' => ∃ (x248_5 : Int),v248 = .int .i64 x248_5 ∧ Aside0 (Za.l1 kq l0 t913 t932 (t913.length : Int) x248_5 = some r) ∧ Aside0 (kq ≤ kj104) ∧ Aside0 (Kd.R (Kd.int .i64) 2 w' w.heap.size (fun _ => True) (.slice Ao114 t913.length co114) t913) ∧ Aside0 (Kd.R Kd.bool 4 w' w.heap.size (fun _ => True) v933 t932) ∧ Aside0 (Kd.V (Kd.slice 2 (Kd.int .i64)) 29 w' w.heap.size (fun k_ => some k_ ≠ ((.slice Ao114 t913.length co114) : Value).ownBlock ∧ some k_ ≠ (v933 : Value).ownBlock ∧ k_ ≠ gb904) (.slice Ao14 t900.length co14) t900) ∧ Aside0 (w'.heap[gb904]? = some (.cells #[(.slice Ao14 t900.length co14)] 26 (0,0))) ∧ Aside0 (Below w.heap.size w w'))
   case atStart => exact ⟨(0),rD,H',⟨Nat.le_refl _⟩,⟨rN HO_9⟩,⟨rN HO_17⟩,⟨vN HO_q4⟩,⟨kN BK904⟩,⟨bN HB⟩⟩
   case round =>
    clear H'
    try clear c1
    try clear p2
    try clear p6
    try clear c9
    try clear p9
    try clear q9
    try clear hx9
    try clear c10
    try clear c11
    try clear c17
    try clear p64
    try clear c91
    try clear c91b0
    try clear c92
    try clear c93
    try clear c94
    try clear c95
    try clear p95
    try clear q95
    try clear hx95
    try clear c97
    try clear c99
    try clear c107
    try clear c108
    try clear c108b0
    try clear c109
    try clear c109b0
    try clear c113
    try clear hx951_0
    try clear hx952_0
    try clear hx954_0
    try clear hx956_0
    try clear hx958_0
    try clear p2
    try clear p6
    try clear p64
    try clear p9
    try clear p95
    try clear p951
    try clear p952
    try clear p954
    try clear p956
    try clear p958
    try clear q9
    try clear q95
    try clear q951
    try clear q952
    try clear q954
    try clear q956
    try clear q958
    obtain ⟨x248_5,rfl,HA,HK5,HO_9,HO_17,HO_q4,BK904,HB⟩ := hrel
    cases gk with
    | zero => exact absurd HA.out (by simp [Za.l1])
    | succ k5 =>
     have H := HA.out;clear HA;simp only [Za.l1] at H
     replace H := iT H;obtain ⟨c115b0,H⟩|⟨c115b0,H⟩ := H
     ·replace H := iP H;obtain ⟨c116b0,H⟩ := H
      replace H := iP H;obtain ⟨c117b0,H⟩ := H
      replace H := iP H;obtain ⟨c118b0,H⟩ := H
      replace H := iP H;obtain ⟨c119b0,H⟩ := H;obtain ⟨bq120,hbq120⟩ : ∃ b_ : Bool,b_ = (rdOf false t932 (rd t913 x248_5)) := ⟨_,rfl⟩;rw [← hbq120] at H
      have Nbq120 := aK hbq120;clear hbq120
      replace H := iB H;obtain ⟨rfl,H⟩|⟨rfl,H⟩ := H
      ·obtain rfl := Option.some.inj H;obtain ⟨ad959,rfl,hx959_0,p959,q959⟩ := aJ (rr HO_9) x248_5;obtain ⟨Ao122,co122,eo122⟩ := Kd.R_slice HO_17.out;subst eo122;have p960 : 0 ≤ ((rd t913 x248_5) : Int) := dT;have q960 : (rd t913 x248_5) < (t932.length : Int) := dT;obtain ⟨ad960,e960,hx960_0⟩ := Kd.at_bool (rr HO_17) (rd t913 x248_5) p960 q960;(try rw [← Nbq120.out] at hx960_0);cases e960;replace p960 := eq_true p960;replace q960 := eq_true q960;go_wp2;go_ret;exact eR (bN HB)
      ·have H' := aK H;clear H;obtain ⟨ad959,rfl,hx959_0,p959,q959⟩ := aJ (rr HO_9) x248_5;obtain ⟨Ao123,co123,eo123⟩ := Kd.R_slice HO_17.out;subst eo123;have p960 : 0 ≤ ((rd t913 x248_5) : Int) := dT;have q960 : (rd t913 x248_5) < (t932.length : Int) := dT;obtain ⟨ad960,e960,hx960_0⟩ := Kd.at_bool (rr HO_17) (rd t913 x248_5) p960 q960;(try rw [← Nbq120.out] at hx960_0);cases e960;replace p960 := eq_true p960;replace q960 := eq_true q960;go_wp2
       go_roundg k5
       case measure => have := HJ10.out;have := HJ59.out;have := HK3.out;have := HJ104.out;have := HK5.out;omega
       case rel => exact ⟨(wrap64 (x248_5 + 1)),rD,H',o5 HJ10 HJ59 HK3 HJ104 HK5,⟨rN HO_9⟩,⟨rN HO_17⟩,⟨vN HO_q4⟩,⟨kN BK904⟩,⟨bN HB⟩⟩
     ·have H' := aK H;clear H;go_wp2;go_meet
      case rel => exact ⟨_,H',o5 HJ10 HJ59 HK3 HJ104 HK5,vW HO_q4,⟨kN BK904⟩,⟨bN HB⟩⟩
end Go.Proofs.Ytfpoppidppoeoaa.PX
