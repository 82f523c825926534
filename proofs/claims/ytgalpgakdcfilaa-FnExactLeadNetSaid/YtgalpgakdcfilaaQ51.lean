-- Written by a program of this session (wip/xp.py).
import Derived.Test.YtgalpgakdcfilaaQ0
namespace Go.Proofs.Ytgalpgakdcfilaa.Q
open Go.RowKit Go.Proofs.YtgalpgakdcfilaaW.PrintWords Go.Proofs.YtgalpgakdcfilaaW.PrintLast Go.Proofs.YtgalpgakdcfilaaW.PrintMore
attribute [local go_sem] max2_int min2_int max_two min_two max_three min_three max_four min_four   -- for this text's walks alone
set_option linter.unusedVariables false
set_option linter.unusedSimpArgs false
set_option maxHeartbeats 8000000
set_option maxRecDepth 100000

def laws_heldPipeS.l0 : Nat → List (S112) → Int → Int → Option (Int)
  | 0, _, _, _ => none
  | k + 1, x0, x1, x5 => if x5 < (x0.length : Int) then (if 0 ≤ x5 then (if ((rd_T112 x0 x5).f0) = x1 then (if ((rd_T112 x0 x5).f1) = (wrap64 (x1 + 1)) then (if ((rd_T112 x0 x5).f2) = (wrap64 ((wrap64 (x1 + 1)) + 1)) then (laws_heldPipeS.l0 k x0 (wrap64 ((wrap64 ((wrap64 (x1 + 1)) + 1)) + 1)) (wrap64 (x5 + 1))) else (some (-1))) else (some (-1))) else (some (-1))) else (none)) else (some x1)
def laws_heldPipeS.f (k : Nat) (l0 : List (S112)) (a1 : Int) : Option (Int) := laws_heldPipeS.l0 k l0 a1 0
theorem laws_heldPipeS.calls (k : Nat) (A0 : Option Addr) (c0 : Nat) (l0 : List (S112)) (a1 : Int) (r : Int) (w : World) (hr0 : Kd.C k112 w A0 l0.length l0) (hc0 : l0.length ≤ c0) (h : laws_heldPipeS.f k l0 a1 = some r) : Calls Try.prog 86 #[.slice A0 l0.length c0, .int .i64 a1] w fun e w' => e = .returned (.int .i64 r) ∧ Drawn0 w w' := by
 have HR0 := am hr0
 have HC0 := am hc0
 clear hr0 hc0
 have H : (laws_heldPipeS.l0 k l0 a1 0) = some r := h
 clear h
 have H' := am H
 clear H
 go_enter Try.func86, Try.ntmps86
 go_wp2
 go_loopg [1, 5] k (fun kq v1 v5 w' => ∃ (x1_1 : Int) (x5_1 : Int), v1 = .int .i64 x1_1 ∧ v5 = .int .i64 x5_1 ∧ Aside0 (laws_heldPipeS.l0 kq l0 x1_1 x5_1 = some r) ∧ Aside0 (kq ≤ k) ∧ Drawn0 w w')
 case atStart => exact ⟨(a1), (0), (es), (es), H', ⟨Nat.le_refl _⟩, by repeat (first | exact Drawn0.refl _ | apply Drawn0.step)⟩
 case round =>
  clear H'
  obtain ⟨x1_1, x5_1, rfl, rfl, HA, HK1, ⟨m1, rfl⟩⟩ := hrel
  cases gk with
  | zero => exact absurd HA.out (by simp [laws_heldPipeS.l0])
  | succ k1 =>
   have H := HA.out
   clear HA
   simp only [laws_heldPipeS.l0] at H
   replace H := i1 H; obtain ⟨c3b0, H⟩ | ⟨c3b0, H⟩ := H
   ·replace H := i0 H; obtain ⟨c4b0, H⟩ := H
    replace H := ie H; obtain ⟨c5b0, c5b1, H⟩ | ⟨⟨c5, c5b0, c5b1⟩, H⟩ := H
    ·replace H := ie H; obtain ⟨c6b0, c6b1, H⟩ | ⟨⟨c6, c6b0, c6b1⟩, H⟩ := H
     ·replace H := ie H; obtain ⟨c7b0, c7b1, H⟩ | ⟨⟨c7, c7b0, c7b1⟩, H⟩ := H
      ·have H' := am H
       clear H
       have p612 : 0 ≤ (x5_1 : Int) := asm
       have q612 : x5_1 < (l0.length : Int) := asm
       obtain ⟨ad612, e612, hx612_0, hx612_1, hx612_2⟩ := at_T112 HR0.out x5_1 p612 q612
       cases e612
       replace p612 := eq_true p612
       replace q612 := eq_true q612
       have p613 : 0 ≤ (x5_1 : Int) := asm
       have q613 : x5_1 < (l0.length : Int) := asm
       obtain ⟨ad613, e613, hx613_0, hx613_1, hx613_2⟩ := at_T112 HR0.out x5_1 p613 q613
       obtain rfl : ad612 = ad613 := (by injection e613)
       replace p613 := eq_true p613
       replace q613 := eq_true q613
       have p614 : 0 ≤ (x5_1 : Int) := asm
       have q614 : x5_1 < (l0.length : Int) := asm
       obtain ⟨ad614, e614, hx614_0, hx614_1, hx614_2⟩ := at_T112 HR0.out x5_1 p614 q614
       obtain rfl : ad612 = ad614 := (by injection e614)
       replace p614 := eq_true p614
       replace q614 := eq_true q614
       go_wp2
       go_roundg k1
       case measure => have := HK1.out; omega
       case rel => exact ⟨(wrap64 ((wrap64 ((wrap64 (x1_1 + 1)) + 1)) + 1)), (wrap64 (x5_1 + 1)), (es), (es), H', ⟨by have := HK1.out; omega⟩, by repeat (first | exact Drawn0.refl _ | apply Drawn0.step)⟩
      ·obtain rfl := Option.some.inj H
       have p612 : 0 ≤ (x5_1 : Int) := asm
       have q612 : x5_1 < (l0.length : Int) := asm
       obtain ⟨ad612, e612, hx612_0, hx612_1, hx612_2⟩ := at_T112 HR0.out x5_1 p612 q612
       cases e612
       replace p612 := eq_true p612
       replace q612 := eq_true q612
       have p613 : 0 ≤ (x5_1 : Int) := asm
       have q613 : x5_1 < (l0.length : Int) := asm
       obtain ⟨ad613, e613, hx613_0, hx613_1, hx613_2⟩ := at_T112 HR0.out x5_1 p613 q613
       obtain rfl : ad612 = ad613 := (by injection e613)
       replace p613 := eq_true p613
       replace q613 := eq_true q613
       have p614 : 0 ≤ (x5_1 : Int) := asm
       have q614 : x5_1 < (l0.length : Int) := asm
       obtain ⟨ad614, e614, hx614_0, hx614_1, hx614_2⟩ := at_T112 HR0.out x5_1 p614 q614
       obtain rfl : ad612 = ad614 := (by injection e614)
       replace p614 := eq_true p614
       replace q614 := eq_true q614
       go_wp2
       go_ret
       exact ⟨es, by repeat (first | exact Drawn0.refl _ | apply Drawn0.step)⟩
     ·obtain rfl := Option.some.inj H
      have p612 : 0 ≤ (x5_1 : Int) := asm
      have q612 : x5_1 < (l0.length : Int) := asm
      obtain ⟨ad612, e612, hx612_0, hx612_1, hx612_2⟩ := at_T112 HR0.out x5_1 p612 q612
      cases e612
      replace p612 := eq_true p612
      replace q612 := eq_true q612
      have p613 : 0 ≤ (x5_1 : Int) := asm
      have q613 : x5_1 < (l0.length : Int) := asm
      obtain ⟨ad613, e613, hx613_0, hx613_1, hx613_2⟩ := at_T112 HR0.out x5_1 p613 q613
      obtain rfl : ad612 = ad613 := (by injection e613)
      replace p613 := eq_true p613
      replace q613 := eq_true q613
      go_wp2
      go_ret
      exact ⟨es, by repeat (first | exact Drawn0.refl _ | apply Drawn0.step)⟩
    ·obtain rfl := Option.some.inj H
     have p612 : 0 ≤ (x5_1 : Int) := asm
     have q612 : x5_1 < (l0.length : Int) := asm
     obtain ⟨ad612, e612, hx612_0, hx612_1, hx612_2⟩ := at_T112 HR0.out x5_1 p612 q612
     cases e612
     replace p612 := eq_true p612
     replace q612 := eq_true q612
     go_wp2
     go_ret
     exact ⟨es, by repeat (first | exact Drawn0.refl _ | apply Drawn0.step)⟩
   ·obtain rfl := Option.some.inj H
    go_wp2
    go_ret
    exact ⟨es, by repeat (first | exact Drawn0.refl _ | apply Drawn0.step)⟩
def laws_heldNet.f (k : Nat) (a0_0 : Int) (l0_1 : List (S112)) (a1 : Int) : Option (Int) := (laws_heldPipeS.f k l0_1 a1).bind fun t616 => (if t616 < 0 then (some (-1)) else (some t616))
theorem laws_heldNet.calls (k : Nat) (a0_0 : Int) (A0_1 : Option Addr) (c0_1 : Nat) (l0_1 : List (S112)) (a1 : Int) (r : Int) (w : World) (hr0_1 : Kd.C k112 w A0_1 l0_1.length l0_1) (hc0_1 : l0_1.length ≤ c0_1) (h : laws_heldNet.f k a0_0 l0_1 a1 = some r) : Calls Try.prog 42 #[.agg #[.int .i64 a0_0, .slice A0_1 l0_1.length c0_1], .int .i64 a1] w fun e w' => e = .returned (.int .i64 r) ∧ Below w.heap.size w w' := by
 have hu58 := Try.underlying58
 have HR0_1 := am hr0_1
 have HC0_1 := am hc0_1
 clear hr0_1 hc0_1
 have HB := am (Below.refl w.heap.size w)
 have H : ((laws_heldPipeS.f k l0_1 a1).bind fun t616 => (if t616 < 0 then (some (-1)) else (some t616))) = some r := h
 clear h
 replace H := bm H; obtain ⟨t616, A3, H⟩ := H
 replace H := i1 H; obtain ⟨c4b0, H⟩ | ⟨c4b0, H⟩ := H
 ·obtain rfl := Option.some.inj H
  go_enter Try.func42, Try.ntmps42
  go_wp2_with (first | ((with_reducible refine gd 2 ?_); refine bx w 2 #[.int .i64 a0_0, .slice A0_1 l0_1.length c0_1] 58 ?_; clear HB; intro gb615 w5 BK615 GE615 HB; obtain ⟨_, _, _, _⟩ := cf2 BK615.out) | ((with_reducible refine gc 86 ?_); refine gl1 8 Try.func86 (laws_heldPipeS.calls k _ _ l0_1 a1 t616 _ (cb HR0_1 HB) HC0_1.out A3.out) ?_; intro nd))
  go_ret
  exact ⟨er, bel⟩
 ·obtain rfl := Option.some.inj H
  go_enter Try.func42, Try.ntmps42
  go_wp2_with (first | ((with_reducible refine gd 2 ?_); refine bx w 2 #[.int .i64 a0_0, .slice A0_1 l0_1.length c0_1] 58 ?_; clear HB; intro gb615 w7 BK615 GE615 HB; obtain ⟨_, _, _, _⟩ := cf2 BK615.out) | ((with_reducible refine gc 86 ?_); refine gl1 8 Try.func86 (laws_heldPipeS.calls k _ _ l0_1 a1 t616 _ (cb HR0_1 HB) HC0_1.out A3.out) ?_; intro nd))
  go_ret
  exact ⟨er, bel⟩
end Go.Proofs.Ytgalpgakdcfilaa.Q
