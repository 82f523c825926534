-- Written by a program of this session (wip/xp.py).
import Derived.Test.YtgalpgakdcfilaaQ0
import Derived.Test.YtgalpgakdcfilaaQ29
namespace Go.Proofs.Ytgalpgakdcfilaa.Q
open Go.RowKit Go.Proofs.YtgalpgakdcfilaaW.PrintWords Go.Proofs.YtgalpgakdcfilaaW.PrintLast Go.Proofs.YtgalpgakdcfilaaW.PrintMore
attribute [local go_sem] max2_int min2_int max_two min_two max_three min_three max_four min_four   -- for this text's walks alone
set_option linter.unusedVariables false
set_option linter.unusedSimpArgs false
set_option maxHeartbeats 8000000
set_option maxRecDepth 100000

def impl_RulesOk.l0 : Nat → List Int → Int → Int → Int → Int → Int → List Int → Bool → Option (Bool)
  | 0, _, _, _, _, _, _, _, _ => none
  | k + 1, x6, x7, x8, x452000, x452001, x452002, x452003, x452004 => if x8 < x7 then (if 0 ≤ x8 then (if x8 < (x6.length : Int) then ((impl_isKey.f (rd x6 x8)).bind fun t454 => (if t454 = true then (if x8 ≤ (x452003.length : Int) then ((slices_Contains_int_int.f k (x452003.take (x8 : Int).toNat) (rd x6 x8)).bind fun t456 => (if t456 = true then (some false) else (impl_RulesOk.l0 k x6 x7 (wrap64 (x8 + 1)) x452000 x452001 x452002 x452003 x452004))) else (none)) else (some false))) else (none)) else (none)) else (if 0 ≤ x452002 then (if x452002 ≤ x452001 then (if x452001 ≤ x452000 then (if x452000 ≤ 10 then ((impl_within.f (x452003.length : Int) 1 8).bind fun t452 => (some t452)) else (some false)) else (some false)) else (some false)) else (some false))
def impl_RulesOk.f (k : Nat) (a0_0 : Int) (a0_1 : Int) (a0_2 : Int) (l0_3 : List Int) (a0_4 : Bool) : Option (Bool) := impl_RulesOk.l0 k l0_3 (l0_3.length : Int) 0 a0_0 a0_1 a0_2 l0_3 a0_4
theorem impl_RulesOk.calls (k : Nat) (a0_0 : Int) (a0_1 : Int) (a0_2 : Int) (A0_3 : Option Addr) (c0_3 : Nat) (l0_3 : List Int) (a0_4 : Bool) (r : Bool) (w : World) (hr0_3 : Kd.C (Kd.int .i64) w A0_3 l0_3.length l0_3) (hc0_3 : l0_3.length ≤ c0_3) (h : impl_RulesOk.f k a0_0 a0_1 a0_2 l0_3 a0_4 = some r) : Calls Try.prog 97 #[.agg #[.int .i64 a0_0, .int .i64 a0_1, .int .i64 a0_2, .slice A0_3 l0_3.length c0_3, .bool a0_4]] w fun e w' => e = .returned (.bool r) ∧ Below w.heap.size w w' := by
 have hu34 := Try.underlying34
 have HR0_3 := am hr0_3
 have HC0_3 := am hc0_3
 clear hr0_3 hc0_3
 have HB := am (Below.refl w.heap.size w)
 have H : (impl_RulesOk.l0 k l0_3 (l0_3.length : Int) 0 a0_0 a0_1 a0_2 l0_3 a0_4) = some r := h
 clear h
 have H' := am H
 clear H
 go_enter Try.func97, Try.ntmps97
 go_wp2_with (first | ((with_reducible refine gd 1 ?_); refine bx w 1 #[.int .i64 a0_0, .int .i64 a0_1, .int .i64 a0_2, .slice A0_3 l0_3.length c0_3, .bool a0_4] 34 ?_; clear HB; intro gb451 w2 BK451 GE451 HB; obtain ⟨hcz3_0, hcz3_1, hcz3_2, hcz3_3, hcz3_4, hfz3_0, hfz3_1, hfz3_2, hfz3_3, hfz3_4⟩ := cf5 BK451.out))
 go_loopg [8] k (fun kq v8 w' => ∃ (x8_1 : Int), v8 = .int .i64 x8_1 ∧ Aside0 (impl_RulesOk.l0 kq l0_3 (l0_3.length : Int) x8_1 a0_0 a0_1 a0_2 l0_3 a0_4 = some r) ∧ Aside0 (kq ≤ k) ∧ Aside0 (w'.heap[gb451]? = some (.cells #[.int .i64 a0_0, .int .i64 a0_1, .int .i64 a0_2, (.slice A0_3 l0_3.length c0_3), .bool a0_4] 34 (0, 0))) ∧ Aside0 (Below w.heap.size w w'))
 case atStart => exact ⟨(0), (es), H', ⟨Nat.le_refl _⟩, ⟨bk BK451.out⟩, ⟨bel⟩⟩
 case round =>
  clear H'
  try clear hcz3_0; try clear hcz3_1; try clear hcz3_2; try clear hcz3_3; try clear hcz3_4; try clear hfz3_0; try clear hfz3_1; try clear hfz3_2; try clear hfz3_3; try clear hfz3_4
  obtain ⟨x8_1, rfl, HA, HK1, BK451, HB⟩ := hrel
  cases gk with
  | zero => exact absurd HA.out (by simp [impl_RulesOk.l0])
  | succ k1 =>
   have H := HA.out
   clear HA
   simp only [impl_RulesOk.l0] at H
   replace H := i1 H; obtain ⟨c4b0, H⟩ | ⟨c4b0, H⟩ := H
   ·replace H := i0 H; obtain ⟨c5b0, H⟩ := H
    replace H := i0 H; obtain ⟨c6b0, H⟩ := H
    replace H := bm H; obtain ⟨t454, A7, H⟩ := H
    replace H := ib H; obtain ⟨rfl, H⟩ | ⟨rfl, H⟩ := H
    ·have c9b0 := eq_true (asm : 0 ≤ x8_1)
     replace H := i0 H; obtain ⟨c10b1, H⟩ := H
     have c10b0 := eq_true (of_decide_eq_true c10b1)
     replace H := bm H; obtain ⟨t456, A11, H⟩ := H
     replace H := ib H; obtain ⟨rfl, H⟩ | ⟨rfl, H⟩ := H
     ·obtain rfl := Option.some.inj H
      have p453 : 0 ≤ (x8_1 : Int) := asm
      have q453 : x8_1 < (l0_3.length : Int) := asm
      obtain ⟨ad453, e453, hx453_0⟩ := hc1 HB.out (Kd.at_int HR0_3.out x8_1 p453 q453)
      cases e453
      replace p453 := eq_true p453
      replace q453 := eq_true q453
      go_wp2_with (first | ((with_reducible refine gc 123 ?_); refine gl1 14 Try.func123 (impl_isKey.calls (rd l0_3 x8_1) true _ A7.out) ?_; intro nd; obtain ⟨_, _, _, _, _, _, _, _, _, _⟩ := cf5 BK451.out; obtain ⟨i014, hi014, _, hsz14, _⟩ := info_parts info3; obtain ⟨hcut14, hA14, hC14⟩ := print_take_of (P := Try.prog) (Value.int .i64) 0 23 3 .i64 Try.underlying23 hi014 hsz14 (some ad453) c0_3 l0_3 x8_1 (asm) (asm) HC0_3.out; have HR455 := am (Kd.C_of_reads (h1 := fun _ => rfl) (hA14 _ (Kd.reads_of_C HR0_3.out))); have HC455 := am hC14; clear hA14 hC14 hi014 hsz14) | (go_at_call 124; refine cm1 (slices_Contains_int_int.calls k1 _ _ (l0_3.take (x8_1 : Int).toNat) (rd l0_3 x8_1) true _ (ck (Kd.C_below HR455.out bel)) HC455.out A11.out) ?_; intro nd) | (go_at_call 124; rw [show (x8_1 : Int).toNat = (l0_3.take (x8_1 : Int).toNat).length from (slen l0_3 x8_1 asm).symm]; (with_reducible refine (slices_Contains_int_int.calls k1 _ _ (l0_3.take (x8_1 : Int).toNat) (rd l0_3 x8_1) true _ ?side1 ?side2 A11.out).mono ?_); (case side1 => exact ck (Kd.C_below HR455.out bel)); (case side2 => exact HC455.out); rintro e w' ⟨rfl, ⟨nd, rfl⟩⟩))
      go_ret
      exact ⟨er, bel⟩
     ·have H' := am H
      clear H
      have p453 : 0 ≤ (x8_1 : Int) := asm
      have q453 : x8_1 < (l0_3.length : Int) := asm
      obtain ⟨ad453, e453, hx453_0⟩ := hc1 HB.out (Kd.at_int HR0_3.out x8_1 p453 q453)
      cases e453
      replace p453 := eq_true p453
      replace q453 := eq_true q453
      go_wp2_with (first | ((with_reducible refine gc 123 ?_); refine gl1 14 Try.func123 (impl_isKey.calls (rd l0_3 x8_1) true _ A7.out) ?_; intro nd; obtain ⟨_, _, _, _, _, _, _, _, _, _⟩ := cf5 BK451.out; obtain ⟨i016, hi016, _, hsz16, _⟩ := info_parts info3; obtain ⟨hcut16, hA16, hC16⟩ := print_take_of (P := Try.prog) (Value.int .i64) 0 23 3 .i64 Try.underlying23 hi016 hsz16 (some ad453) c0_3 l0_3 x8_1 (asm) (asm) HC0_3.out; have HR455 := am (Kd.C_of_reads (h1 := fun _ => rfl) (hA16 _ (Kd.reads_of_C HR0_3.out))); have HC455 := am hC16; clear hA16 hC16 hi016 hsz16) | (go_at_call 124; refine cm1 (slices_Contains_int_int.calls k1 _ _ (l0_3.take (x8_1 : Int).toNat) (rd l0_3 x8_1) false _ (ck (Kd.C_below HR455.out bel)) HC455.out A11.out) ?_; intro nd) | (go_at_call 124; rw [show (x8_1 : Int).toNat = (l0_3.take (x8_1 : Int).toNat).length from (slen l0_3 x8_1 asm).symm]; (with_reducible refine (slices_Contains_int_int.calls k1 _ _ (l0_3.take (x8_1 : Int).toNat) (rd l0_3 x8_1) false _ ?side1 ?side2 A11.out).mono ?_); (case side1 => exact ck (Kd.C_below HR455.out bel)); (case side2 => exact HC455.out); rintro e w' ⟨rfl, ⟨nd, rfl⟩⟩))
      go_roundg k1
      case measure => have := HK1.out; omega
      case rel => exact ⟨(wrap64 (x8_1 + 1)), (es), H', ⟨by have := HK1.out; omega⟩, ⟨bk BK451.out⟩, ⟨bel⟩⟩
    ·obtain rfl := Option.some.inj H
     have p453 : 0 ≤ (x8_1 : Int) := asm
     have q453 : x8_1 < (l0_3.length : Int) := asm
     obtain ⟨ad453, e453, hx453_0⟩ := hc1 HB.out (Kd.at_int HR0_3.out x8_1 p453 q453)
     cases e453
     replace p453 := eq_true p453
     replace q453 := eq_true q453
     go_wp2_with (first | ((with_reducible refine gc 123 ?_); refine gl1 14 Try.func123 (impl_isKey.calls (rd l0_3 x8_1) false _ A7.out) ?_; intro nd))
     go_ret
     exact ⟨er, bel⟩
   ·replace H := i1 H; obtain ⟨c17b0, H⟩ | ⟨c17b0, H⟩ := H
    ·replace H := i1 H; obtain ⟨c18b0, H⟩ | ⟨c18b0, H⟩ := H
     ·replace H := i1 H; obtain ⟨c19b0, H⟩ | ⟨c19b0, H⟩ := H
      ·replace H := i1 H; obtain ⟨c20b0, H⟩ | ⟨c20b0, H⟩ := H
       ·replace H := bm H; obtain ⟨t452, A21, H⟩ := H
        obtain rfl := Option.some.inj H
        obtain ⟨_, _, _, _, _, _, _, _, _, _⟩ := cf5 BK451.out
        go_wp2_with (first | (go_at_call 55; refine cm1 (impl_within.calls (l0_3.length : Int) 1 8 t452 _ A21.out) ?_; intro nd))
        go_ret
        exact ⟨er, bel⟩
       ·obtain rfl := Option.some.inj H
        obtain ⟨_, _, _, _, _, _, _, _, _, _⟩ := cf5 BK451.out
        go_wp2
        go_ret
        exact ⟨er, bel⟩
      ·obtain rfl := Option.some.inj H
       obtain ⟨_, _, _, _, _, _, _, _, _, _⟩ := cf5 BK451.out
       go_wp2
       go_ret
       exact ⟨er, bel⟩
     ·obtain rfl := Option.some.inj H
      obtain ⟨_, _, _, _, _, _, _, _, _, _⟩ := cf5 BK451.out
      go_wp2
      go_ret
      exact ⟨er, bel⟩
    ·obtain rfl := Option.some.inj H
     obtain ⟨_, _, _, _, _, _, _, _, _, _⟩ := cf5 BK451.out
     go_wp2
     go_ret
     exact ⟨er, bel⟩
def impl_GameOk.j0 : Nat → Int → Int → Int → Int → Int → Int → Int → Option (Bool)
  | 0, _, _, _, _, _, _, _ => none
  | k + 1, x0, x5, x458000, x458001, x458002, x458003, x458004 => (impl_within.f x0 2 8).bind fun t458 => (if t458 = true then (if x458000 = x458001 then (some false) else ((impl_within.f x458000 0 (wrap64 (x0 - 1))).bind fun t459 => (if t459 = true then ((impl_within.f x458001 0 (wrap64 (x0 - 1))).bind fun t460 => (if t460 = true then ((impl_within.f x458004 0 4).bind fun t461 => (if t461 = true then ((impl_within.f x458002 0 x5).bind fun t462 => (if t462 = true then ((impl_within.f x458003 0 x5).bind fun t463 => (some t463)) else (some false))) else (some false))) else (some false))) else (some false)))) else (some false))
def impl_GameOk.f (k : Nat) (a0 : Int) (a1_0 : Int) (a1_1 : Int) (a1_2 : Int) (a1_3 : Int) (a1_4 : Int) : Option (Bool) := if a1_4 = 1 then (impl_GameOk.j0 k a0 99 a1_0 a1_1 a1_2 a1_3 a1_4) else (impl_GameOk.j0 k a0 0 a1_0 a1_1 a1_2 a1_3 a1_4)
theorem impl_GameOk.calls (k : Nat) (a0 : Int) (a1_0 : Int) (a1_1 : Int) (a1_2 : Int) (a1_3 : Int) (a1_4 : Int) (r : Bool) (w : World) (h : impl_GameOk.f k a0 a1_0 a1_1 a1_2 a1_3 a1_4 = some r) : Calls Try.prog 125 #[.int .i64 a0, .agg #[.int .i64 a1_0, .int .i64 a1_1, .int .i64 a1_2, .int .i64 a1_3, .int .i64 a1_4]] w fun e w' => e = .returned (.bool r) ∧ Below w.heap.size w w' := by
 have hu71 := Try.underlying71
 have HB := am (Below.refl w.heap.size w)
 have H : (if a1_4 = 1 then (impl_GameOk.j0 k a0 99 a1_0 a1_1 a1_2 a1_3 a1_4) else (impl_GameOk.j0 k a0 0 a1_0 a1_1 a1_2 a1_3 a1_4)) = some r := h
 clear h
 have HC3 := am H
 clear H
 go_enter Try.func125, Try.ntmps125
 go_upto_if 8 with (first | ((with_reducible refine gd 3 ?_); refine bx w 3 #[.int .i64 a1_0, .int .i64 a1_1, .int .i64 a1_2, .int .i64 a1_3, .int .i64 a1_4] 71 ?_; clear HB; intro gb457 w4 BK457 GE457 HB; obtain ⟨hcz5_0, hcz5_1, hcz5_2, hcz5_3, hcz5_4, hfz5_0, hfz5_1, hfz5_2, hfz5_3, hfz5_4⟩ := cf5 BK457.out))
 (try simp only [Act.put, List.setIfInBounds_toArray, List.set_cons_zero, List.set_cons_succ])
 go_cut [5] (fun v5 wc => ∃ (kq : Nat) (x5_2 : Int), v5 = .int .i64 x5_2 ∧ Aside0 (impl_GameOk.j0 kq a0 x5_2 a1_0 a1_1 a1_2 a1_3 a1_4 = some r) ∧ Aside0 (kq ≤ k) ∧ Aside0 (wc.heap[gb457]? = some (.cells #[.int .i64 a1_0, .int .i64 a1_1, .int .i64 a1_2, .int .i64 a1_3, .int .i64 a1_4] 71 (0, 0))) ∧ Aside0 (Below w.heap.size w wc))
 case first =>
  have H := HC3.out
  clear HC3
  replace H := ie H; obtain ⟨c6b0, c6b1, H⟩ | ⟨⟨c6, c6b0, c6b1⟩, H⟩ := H
  ·(first | rw [c6b0] | (simp only [i64_w, i32_w]; rw [c6b0]) | skip)
   have H' := am H
   clear H
   go_wp2
   go_meet
   case rel => exact ⟨_, (99), (es), H', ⟨by first | omega | exact Nat.le_refl _⟩, ⟨bk BK457.out⟩, ⟨bel⟩⟩
  ·(first | rw [c6b0] | (simp only [i64_w, i32_w]; rw [c6b0]) | skip)
   have H' := am H
   clear H
   go_wp2
   go_meet
   case rel => exact ⟨_, (0), (es), H', ⟨by first | omega | exact Nat.le_refl _⟩, ⟨bk BK457.out⟩, ⟨bel⟩⟩
 case rest =>
  clear HC3
  try clear hcz5_0; try clear hcz5_1; try clear hcz5_2; try clear hcz5_3; try clear hcz5_4; try clear hfz5_0; try clear hfz5_1; try clear hfz5_2; try clear hfz5_3; try clear hfz5_4
  obtain ⟨kq, x5_2, rfl, HA, HJ2, BK457, HB⟩ := hcut
  cases kq with
  | zero => exact absurd HA.out (by simp [impl_GameOk.j0])
  | succ kj2 =>
   have H := HA.out
   clear HA
   simp only [impl_GameOk.j0] at H
   replace H := bm H; obtain ⟨t458, A7, H⟩ := H
   replace H := ib H; obtain ⟨rfl, H⟩ | ⟨rfl, H⟩ := H
   ·replace H := ie H; obtain ⟨c9b0, c9b1, H⟩ | ⟨⟨c9, c9b0, c9b1⟩, H⟩ := H
    ·obtain rfl := Option.some.inj H
     go_wp2_with (first | ((with_reducible refine gc 55 ?_); refine gl1 10 Try.func55 (impl_within.calls a0 2 8 true _ A7.out) ?_; intro nd; obtain ⟨_, _, _, _, _, _, _, _, _, _⟩ := cf5 BK457.out))
     go_ret
     exact ⟨er, bel⟩
    ·replace H := bm H; obtain ⟨t459, A11, H⟩ := H
     replace H := ib H; obtain ⟨rfl, H⟩ | ⟨rfl, H⟩ := H
     ·replace H := bm H; obtain ⟨t460, A13, H⟩ := H
      replace H := ib H; obtain ⟨rfl, H⟩ | ⟨rfl, H⟩ := H
      ·replace H := bm H; obtain ⟨t461, A15, H⟩ := H
       replace H := ib H; obtain ⟨rfl, H⟩ | ⟨rfl, H⟩ := H
       ·replace H := bm H; obtain ⟨t462, A17, H⟩ := H
        replace H := ib H; obtain ⟨rfl, H⟩ | ⟨rfl, H⟩ := H
        ·replace H := bm H; obtain ⟨t463, A19, H⟩ := H
         obtain rfl := Option.some.inj H
         go_wp2_with (first | ((with_reducible refine gc 55 ?_); refine gl1 10 Try.func55 (impl_within.calls a0 2 8 true _ A7.out) ?_; intro nd; obtain ⟨_, _, _, _, _, _, _, _, _, _⟩ := cf5 BK457.out) | (go_at_call 55; refine cm1 (impl_within.calls a1_0 0 (wrap64 (a0 - 1)) true _ A11.out) ?_; intro nd) | (go_at_call 55; refine cm1 (impl_within.calls a1_1 0 (wrap64 (a0 - 1)) true _ A13.out) ?_; intro nd) | (go_at_call 55; refine cm1 (impl_within.calls a1_4 0 4 true _ A15.out) ?_; intro nd) | (go_at_call 55; refine cm1 (impl_within.calls a1_2 0 x5_2 true _ A17.out) ?_; intro nd) | (go_at_call 55; refine cm1 (impl_within.calls a1_3 0 x5_2 t463 _ A19.out) ?_; intro nd))
         go_ret
         exact ⟨er, bel⟩
        ·obtain rfl := Option.some.inj H
         go_wp2_with (first | ((with_reducible refine gc 55 ?_); refine gl1 10 Try.func55 (impl_within.calls a0 2 8 true _ A7.out) ?_; intro nd; obtain ⟨_, _, _, _, _, _, _, _, _, _⟩ := cf5 BK457.out) | (go_at_call 55; refine cm1 (impl_within.calls a1_0 0 (wrap64 (a0 - 1)) true _ A11.out) ?_; intro nd) | (go_at_call 55; refine cm1 (impl_within.calls a1_1 0 (wrap64 (a0 - 1)) true _ A13.out) ?_; intro nd) | (go_at_call 55; refine cm1 (impl_within.calls a1_4 0 4 true _ A15.out) ?_; intro nd) | (go_at_call 55; refine cm1 (impl_within.calls a1_2 0 x5_2 false _ A17.out) ?_; intro nd))
         go_ret
         exact ⟨er, bel⟩
       ·obtain rfl := Option.some.inj H
        go_wp2_with (first | ((with_reducible refine gc 55 ?_); refine gl1 10 Try.func55 (impl_within.calls a0 2 8 true _ A7.out) ?_; intro nd; obtain ⟨_, _, _, _, _, _, _, _, _, _⟩ := cf5 BK457.out) | (go_at_call 55; refine cm1 (impl_within.calls a1_0 0 (wrap64 (a0 - 1)) true _ A11.out) ?_; intro nd) | (go_at_call 55; refine cm1 (impl_within.calls a1_1 0 (wrap64 (a0 - 1)) true _ A13.out) ?_; intro nd) | (go_at_call 55; refine cm1 (impl_within.calls a1_4 0 4 false _ A15.out) ?_; intro nd))
        go_ret
        exact ⟨er, bel⟩
      ·obtain rfl := Option.some.inj H
       go_wp2_with (first | ((with_reducible refine gc 55 ?_); refine gl1 10 Try.func55 (impl_within.calls a0 2 8 true _ A7.out) ?_; intro nd; obtain ⟨_, _, _, _, _, _, _, _, _, _⟩ := cf5 BK457.out) | (go_at_call 55; refine cm1 (impl_within.calls a1_0 0 (wrap64 (a0 - 1)) true _ A11.out) ?_; intro nd) | (go_at_call 55; refine cm1 (impl_within.calls a1_1 0 (wrap64 (a0 - 1)) false _ A13.out) ?_; intro nd))
       go_ret
       exact ⟨er, bel⟩
     ·obtain rfl := Option.some.inj H
      go_wp2_with (first | ((with_reducible refine gc 55 ?_); refine gl1 10 Try.func55 (impl_within.calls a0 2 8 true _ A7.out) ?_; intro nd; obtain ⟨_, _, _, _, _, _, _, _, _, _⟩ := cf5 BK457.out) | (go_at_call 55; refine cm1 (impl_within.calls a1_0 0 (wrap64 (a0 - 1)) false _ A11.out) ?_; intro nd))
      go_ret
      exact ⟨er, bel⟩
   ·obtain rfl := Option.some.inj H
    go_wp2_with (first | ((with_reducible refine gc 55 ?_); refine gl1 10 Try.func55 (impl_within.calls a0 2 8 false _ A7.out) ?_; intro nd))
    go_ret
    exact ⟨er, bel⟩
-- NOT PRINTED: function 140 (impl_Game)

def impl_GameOf_1.f (a0_0 : Int) (a0_1 : Int) (a0_2 : Int) (a0_3 : Int) (a0_4 : Int) (a1_0 : Int) (a2_0 : Int) : Option (Bool) := if a0_0 = a1_0 then (some (a0_1 == a2_0)) else (some false)
theorem impl_GameOf_1.calls (a0_0 : Int) (a0_1 : Int) (a0_2 : Int) (a0_3 : Int) (a0_4 : Int) (gb464 : Nat) (a1_0 : Int) (gb465 : Nat) (a2_0 : Int) (r : Bool) (w : World) (hbk464 : w.heap[gb464]? = some (.cells #[.int .i64 a1_0] 3 (0, 0))) (hbk465 : w.heap[gb465]? = some (.cells #[.int .i64 a2_0] 3 (0, 0))) (h : impl_GameOf_1.f a0_0 a0_1 a0_2 a0_3 a0_4 a1_0 a2_0 = some r) : Calls Try.prog 141 #[.agg #[.int .i64 a0_0, .int .i64 a0_1, .int .i64 a0_2, .int .i64 a0_3, .int .i64 a0_4], .pointer (some ⟨gb464, 0, none⟩), .pointer (some ⟨gb465, 0, none⟩)] w fun e w' => e = .returned (.bool r) ∧ Below w.heap.size w w' := by
 have hu71 := Try.underlying71
 have BK464 := am hbk464
 clear hbk464
 have BK465 := am hbk465
 clear hbk465
 have HB := am (Below.refl w.heap.size w)
 have H : (if a0_0 = a1_0 then (some (a0_1 == a2_0)) else (some false)) = some r := h
 clear h
 replace H := ie H; obtain ⟨c4b0, c4b1, H⟩ | ⟨⟨c4, c4b0, c4b1⟩, H⟩ := H
 ·obtain rfl := Option.some.inj H
  go_enter Try.func141, Try.ntmps141
  go_wp2_with (first | ((with_reducible refine gd 3 ?_); refine by_ w 3 #[.int .i64 a0_0, .int .i64 a0_1, .int .i64 a0_2, .int .i64 a0_3, .int .i64 a0_4] 71 ?_; clear HB; intro gb466 hg w5 BK466 GE466 hb HB; have NB464_466 := am ((nlt hg BK464.out : gb464 ≠ gb466)); have NB466_464 := am ((ngt hg BK464.out : gb466 ≠ gb464)); have NB465_466 := am ((nlt hg BK465.out : gb465 ≠ gb466)); have NB466_465 := am ((ngt hg BK465.out : gb466 ≠ gb465)); replace BK464 := b1 BK464 hb; replace BK465 := b1 BK465 hb; clear hb hg; have hnb6 := NB466_464.out; have hnc6 := NB464_466.out; have hnb7 := NB466_465.out; have hnc7 := NB465_466.out; obtain ⟨_, _, _, _, _, _, _, _, _, _⟩ := cf5 BK466.out; obtain ⟨_, _⟩ := cf1 BK464.out; obtain ⟨_, _⟩ := cf1 BK465.out))
  go_ret
  exact ⟨er, bel⟩
 ·obtain rfl := Option.some.inj H
  go_enter Try.func141, Try.ntmps141
  go_wp2_with (first | ((with_reducible refine gd 3 ?_); refine by_ w 3 #[.int .i64 a0_0, .int .i64 a0_1, .int .i64 a0_2, .int .i64 a0_3, .int .i64 a0_4] 71 ?_; clear HB; intro gb466 hg w12 BK466 GE466 hb HB; have NB464_466 := am ((nlt hg BK464.out : gb464 ≠ gb466)); have NB466_464 := am ((ngt hg BK464.out : gb466 ≠ gb464)); have NB465_466 := am ((nlt hg BK465.out : gb465 ≠ gb466)); have NB466_465 := am ((ngt hg BK465.out : gb466 ≠ gb465)); replace BK464 := b1 BK464 hb; replace BK465 := b1 BK465 hb; clear hb hg; have hnb13 := NB466_464.out; have hnc13 := NB464_466.out; have hnb14 := NB466_465.out; have hnc14 := NB465_466.out; obtain ⟨_, _, _, _, _, _, _, _, _, _⟩ := cf5 BK466.out; obtain ⟨_, _⟩ := cf1 BK464.out))
  go_ret
  exact ⟨er, bel⟩
def slices_IndexFunc_impl_Game_impl_Game_impl_GameOf_1.l0 : Nat → List (S71) → Int → Int → Int → Int → Option (Int)
  | 0, _, _, _, _, _ => none
  | k + 1, x0, x7, x8, x468000, x469000 => if x8 < x7 then (if 0 ≤ x8 then (if x8 < (x0.length : Int) then ((impl_GameOf_1.f ((rd_T71 x0 x8).f0) ((rd_T71 x0 x8).f1) ((rd_T71 x0 x8).f2) ((rd_T71 x0 x8).f3) ((rd_T71 x0 x8).f4) x468000 x469000).bind fun t470 => (if t470 = true then (some x8) else (slices_IndexFunc_impl_Game_impl_Game_impl_GameOf_1.l0 k x0 x7 (wrap64 (x8 + 1)) x468000 x469000))) else (none)) else (none)) else (some (-1))
def slices_IndexFunc_impl_Game_impl_Game_impl_GameOf_1.f (k : Nat) (l0 : List (S71))  (a2_0 : Int) (a3_0 : Int) : Option (Int) := slices_IndexFunc_impl_Game_impl_Game_impl_GameOf_1.l0 k l0 (l0.length : Int) 0 a2_0 a3_0
theorem slices_IndexFunc_impl_Game_impl_Game_impl_GameOf_1.calls (k : Nat) (A0 : Option Addr) (c0 : Nat) (l0 : List (S71))  (gb467 : Nat) (a2_0 : Int) (gb468 : Nat) (a3_0 : Int) (r : Int) (w : World) (hr0 : Kd.C k71 w A0 l0.length l0) (hc0 : l0.length ≤ c0) (hbk467 : w.heap[gb467]? = some (.cells #[.int .i64 a2_0] 3 (0, 0))) (hbk468 : w.heap[gb468]? = some (.cells #[.int .i64 a3_0] 3 (0, 0))) (h : slices_IndexFunc_impl_Game_impl_Game_impl_GameOf_1.f k l0 a2_0 a3_0 = some r) : Calls Try.prog 140 #[.slice A0 l0.length c0, .func (.func 141) #[] #[.pointer (some ⟨gb467, 0, none⟩), .pointer (some ⟨gb468, 0, none⟩)]] w fun e w' => e = .returned (.int .i64 r) ∧ Below w.heap.size w w' := by
 have hu71 := Try.underlying71
 have HR0 := am hr0
 have HC0 := am hc0
 clear hr0 hc0
 have BK467 := am hbk467
 clear hbk467
 have BK468 := am hbk468
 clear hbk468
 have HB := am (Below.refl w.heap.size w)
 have H : (slices_IndexFunc_impl_Game_impl_Game_impl_GameOf_1.l0 k l0 (l0.length : Int) 0 a2_0 a3_0) = some r := h
 clear h
 have H' := am H
 clear H
 go_enter Try.func140, Try.ntmps140
 go_wp2
 go_loopg [8] k (fun kq v8 w' => ∃ (x8_1 : Int), v8 = .int .i64 x8_1 ∧ Aside0 (slices_IndexFunc_impl_Game_impl_Game_impl_GameOf_1.l0 kq l0 (l0.length : Int) x8_1 a2_0 a3_0 = some r) ∧ Aside0 (kq ≤ k) ∧ Aside0 (w'.heap[gb467]? = some (.cells #[.int .i64 a2_0] 3 (0, 0))) ∧ Aside0 (w'.heap[gb468]? = some (.cells #[.int .i64 a3_0] 3 (0, 0))) ∧ Aside0 (Below w.heap.size w w'))
 case atStart => exact ⟨(0), (es), H', ⟨Nat.le_refl _⟩, ⟨bk BK467.out⟩, ⟨bk BK468.out⟩, ⟨bel⟩⟩
 case round =>
  clear H'
  obtain ⟨x8_1, rfl, HA, HK1, BK467, BK468, HB⟩ := hrel
  cases gk with
  | zero => exact absurd HA.out (by simp [slices_IndexFunc_impl_Game_impl_Game_impl_GameOf_1.l0])
  | succ k1 =>
   have H := HA.out
   clear HA
   simp only [slices_IndexFunc_impl_Game_impl_Game_impl_GameOf_1.l0] at H
   replace H := i1 H; obtain ⟨c5b0, H⟩ | ⟨c5b0, H⟩ := H
   ·replace H := i0 H; obtain ⟨c6b0, H⟩ := H
    replace H := i0 H; obtain ⟨c7b0, H⟩ := H
    replace H := bm H; obtain ⟨t470, A8, H⟩ := H
    replace H := ib H; obtain ⟨rfl, H⟩ | ⟨rfl, H⟩ := H
    ·obtain rfl := Option.some.inj H
     have p469 : 0 ≤ (x8_1 : Int) := asm
     have q469 : x8_1 < (l0.length : Int) := asm
     obtain ⟨ad469, e469, hx469_0, hx469_1, hx469_2, hx469_3, hx469_4⟩ := hc5 HB.out (at_T71 HR0.out x8_1 p469 q469)
     cases e469
     replace p469 := eq_true p469
     replace q469 := eq_true q469
     go_wp2_with (first | (go_at_call 141; refine cm2 (impl_GameOf_1.calls ((rd_T71 l0 x8_1).f0) ((rd_T71 l0 x8_1).f1) ((rd_T71 l0 x8_1).f2) ((rd_T71 l0 x8_1).f3) ((rd_T71 l0 x8_1).f4) gb467 a2_0 gb468 a3_0 true _ (bk BK467.out) (bk BK468.out) A8.out) ?_; intro w10 hb; replace BK467 := b1 BK467 hb; replace BK468 := b1 BK468 hb; replace HB := b2 hb; clear hb))
     go_ret
     exact ⟨er, bel⟩
    ·have H' := am H
     clear H
     have p469 : 0 ≤ (x8_1 : Int) := asm
     have q469 : x8_1 < (l0.length : Int) := asm
     obtain ⟨ad469, e469, hx469_0, hx469_1, hx469_2, hx469_3, hx469_4⟩ := hc5 HB.out (at_T71 HR0.out x8_1 p469 q469)
     cases e469
     replace p469 := eq_true p469
     replace q469 := eq_true q469
     go_wp2_with (first | (go_at_call 141; refine cm2 (impl_GameOf_1.calls ((rd_T71 l0 x8_1).f0) ((rd_T71 l0 x8_1).f1) ((rd_T71 l0 x8_1).f2) ((rd_T71 l0 x8_1).f3) ((rd_T71 l0 x8_1).f4) gb467 a2_0 gb468 a3_0 false _ (bk BK467.out) (bk BK468.out) A8.out) ?_; intro w11 hb; replace BK467 := b1 BK467 hb; replace BK468 := b1 BK468 hb; replace HB := b2 hb; clear hb))
     go_roundg k1
     case measure => have := HK1.out; omega
     case rel => exact ⟨(wrap64 (x8_1 + 1)), (es), H', ⟨by have := HK1.out; omega⟩, ⟨bk BK467.out⟩, ⟨bk BK468.out⟩, ⟨bel⟩⟩
   ·obtain rfl := Option.some.inj H
    go_wp2
    go_ret
    exact ⟨er, bel⟩
def impl_GameOf.f (k : Nat) (l0 : List (S71)) (a1 : Int) (a2 : Int) : Option (Int) := (slices_IndexFunc_impl_Game_impl_Game_impl_GameOf_1.f k l0 a1 a2).bind fun t473 => (some t473)
theorem impl_GameOf.calls (k : Nat) (A0 : Option Addr) (c0 : Nat) (l0 : List (S71)) (a1 : Int) (a2 : Int) (r : Int) (w : World) (hr0 : Kd.C k71 w A0 l0.length l0) (hc0 : l0.length ≤ c0) (h : impl_GameOf.f k l0 a1 a2 = some r) : Calls Try.prog 126 #[.slice A0 l0.length c0, .int .i64 a1, .int .i64 a2] w fun e w' => e = .returned (.int .i64 r) ∧ Below w.heap.size w w' := by
 have HR0 := am hr0
 have HC0 := am hc0
 clear hr0 hc0
 have HB := am (Below.refl w.heap.size w)
 have H : ((slices_IndexFunc_impl_Game_impl_Game_impl_GameOf_1.f k l0 a1 a2).bind fun t473 => (some t473)) = some r := h
 clear h
 replace H := bm H; obtain ⟨t473, A4, H⟩ := H
 obtain rfl := Option.some.inj H
 go_enter Try.func126, Try.ntmps126
 go_wp2_with (first | ((with_reducible refine gd 4 ?_); refine bx w 4 #[.int .i64 a1] 3 ?_; clear HB; intro gb471 w5 BK471 GE471 HB) | ((with_reducible refine gd 5 ?_); refine by_ w 5 #[.int .i64 a2] 3 ?_; clear HB; intro gb472 hg w6 BK472 GE472 hb HB; have NB471_472 := am ((nlt hg BK471.out : gb471 ≠ gb472)); have NB472_471 := am ((ngt hg BK471.out : gb472 ≠ gb471)); replace BK471 := b1 BK471 hb; clear hb hg) | ((with_reducible refine gc 140 ?_); refine gl2 9 Try.func140 (slices_IndexFunc_impl_Game_impl_Game_impl_GameOf_1.calls k _ _ l0 gb471 a1 gb472 a2 t473 _ (cb HR0 HB) HC0.out (bk BK471.out) (bk BK472.out) A4.out) ?_; intro w7 hb; replace BK471 := b1 BK471 hb; replace BK472 := b1 BK472 hb; replace HB := b2 hb; clear hb))
 go_ret
 exact ⟨er, bel⟩
def impl_SeasonOk.l0 : Nat → Int → List (S71) → List (S71) → Int → Int → Option (Bool)
  | 0, _, _, _, _, _ => none
  | k + 1, x0, x1, x7, x8, x9 => if x9 < x8 then (if 0 ≤ x9 then (if x9 < (x7.length : Int) then ((impl_GameOk.f k x0 ((rd_T71 x7 x9).f0) ((rd_T71 x7 x9).f1) ((rd_T71 x7 x9).f2) ((rd_T71 x7 x9).f3) ((rd_T71 x7 x9).f4)).bind fun t476 => (if t476 = true then (if x9 ≤ (x1.length : Int) then ((impl_GameOf.f k (x1.take (x9 : Int).toNat) ((rd_T71 x7 x9).f0) ((rd_T71 x7 x9).f1)).bind fun t481 => (if t481 ≥ 0 then (some false) else (impl_SeasonOk.l0 k x0 x1 x7 x8 (wrap64 (x9 + 1))))) else (none)) else (some false))) else (none)) else (none)) else (some (decide ((x1.length : Int) ≤ 60)))
def impl_SeasonOk.f (k : Nat) (a0 : Int) (l1 : List (S71)) : Option (Bool) := impl_SeasonOk.l0 k a0 l1 l1 (l1.length : Int) 0
def impl_SeasonOk.T4 : Bool × List (List Nat × List Nat) := (true, [([], []), ([], []), ([0, 1], [0, 1]), ([2], [2]), ([3, 2], [3]), ([4], [4]), ([4], [4]), ([5, 6, 4], [4, 5, 6]), ([4], [4]), ([8, 4], [4, 8]), ([4], [4]), ([10, 4], [4, 10]), ([7, 9, 11, 4, 4], [4, 7, 9, 11]), ([12, 4], [4, 12]), ([4, 13], [4, 13])])
def impl_SeasonOk.B4 : List Nat := [0, 0, 3, 7, 15, 31, 31, 127, 31, 287, 31, 1055, 4095, 8191, 16383]
theorem impl_SeasonOk.tab4 : rtab .any (opsOf Try.f98 4) = impl_SeasonOk.T4 := by kernel_rfl
theorem impl_SeasonOk.bits4 : waitsOk impl_SeasonOk.T4.2 impl_SeasonOk.B4 = true := by kernel_rfl
theorem impl_SeasonOk.calls (k : Nat) (a0 : Int) (A1 : Option Addr) (c1 : Nat) (l1 : List (S71)) (r : Bool) (w : World) (hr1 : Kd.C k71 w A1 l1.length l1) (hc1 : l1.length ≤ c1) (h : impl_SeasonOk.f k a0 l1 = some r) : Calls Try.prog 98 #[.int .i64 a0, .slice A1 l1.length c1] w fun e w' => e = .returned (.bool r) ∧ Below w.heap.size w w' := by
 have hu71 := Try.underlying71
 have HR1 := am hr1
 have HC1 := am hc1
 clear hr1 hc1
 have HB := am (Below.refl w.heap.size w)
 have H : (impl_SeasonOk.l0 k a0 l1 l1 (l1.length : Int) 0) = some r := h
 clear h
 have H' := am H
 clear H
 go_enter Try.func98, Try.ntmps98
 go_wp2
 go_loopg [9] k (fun kq v9 w' => ∃ (x9_1 : Int), v9 = .int .i64 x9_1 ∧ Aside0 (impl_SeasonOk.l0 kq a0 l1 l1 (l1.length : Int) x9_1 = some r) ∧ Aside0 (kq ≤ k) ∧ Aside0 (Below w.heap.size w w'))
 case atStart => exact ⟨(0), (es), H', ⟨Nat.le_refl _⟩, ⟨bel⟩⟩
 case round =>
  clear H'
  try clear c1
  obtain ⟨x9_1, rfl, HA, HK1, HB⟩ := hrel
  cases gk with
  | zero => exact absurd HA.out (by simp [impl_SeasonOk.l0])
  | succ k1 =>
   have H := HA.out
   clear HA
   simp only [impl_SeasonOk.l0] at H
   replace H := i1 H; obtain ⟨c3b0, H⟩ | ⟨c3b0, H⟩ := H
   ·replace H := i0 H; obtain ⟨c4b0, H⟩ := H
    replace H := i0 H; obtain ⟨c5b0, H⟩ := H
    replace H := bm H; obtain ⟨t476, A6, H⟩ := H
    replace H := ib H; obtain ⟨rfl, H⟩ | ⟨rfl, H⟩ := H
    ·have c8b0 := eq_true (asm : 0 ≤ x9_1)
     replace H := i0 H; obtain ⟨c9b1, H⟩ := H
     have c9b0 := eq_true (of_decide_eq_true c9b1)
     obtain ⟨y477, hy477⟩ : ∃ y_ : List (S71), y_ = (l1.take (x9_1 : Int).toNat) := ⟨_, rfl⟩
     replace H : ((impl_GameOf.f k1 y477 ((rd_T71 l1 x9_1).f0) ((rd_T71 l1 x9_1).f1)).bind fun t481 => (if t481 ≥ 0 then (some false) else (impl_SeasonOk.l0 k1 a0 l1 l1 (l1.length : Int) (wrap64 (x9_1 + 1))))) = some r := by first | (rw [hy477]; with_reducible exact H) | (have H2_ := (Option.bind_some _ _).symm.trans H; rw [hy477]; with_reducible exact H2_) | (have H2_ := (Option.bind_some _ _).symm.trans H; with_reducible exact H2_) | with_reducible exact H | (rw [hy477]; exact H) | exact H
     have Ny477 := am hy477
     clear hy477
     replace H := bm H; obtain ⟨t481, A10, H⟩ := H
     replace H := i1 H; obtain ⟨c11b0, H⟩ | ⟨c11b0, H⟩ := H
     ·obtain rfl := Option.some.inj H
      have p474 : 0 ≤ (x9_1 : Int) := asm
      have q474 : x9_1 < (l1.length : Int) := asm
      obtain ⟨ad474, e474, hx474_0, hx474_1, hx474_2, hx474_3, hx474_4⟩ := hc5 HB.out (at_T71 HR1.out x9_1 p474 q474)
      cases e474
      replace p474 := eq_true p474
      replace q474 := eq_true q474
      try go_wp2_with (first | ((with_reducible refine gd 6 ?_); refine bx w 6 #[.int .i64 0, .int .i64 0, .int .i64 0, .int .i64 0, .int .i64 0] 71 ?_; clear HB; intro gb475 w12 BK475 GE475 HB; obtain ⟨_, _, _, _, _, _, _, _, _, _⟩ := cf5 BK475.out))
      generalize hw_ : World.setCell (World.setCell (World.setCell (World.setCell (World.setCell w12 _ _) _ _) _ _) _ _) _ _ = w14
      replace BK475 := am (pt5 BK475.out hw_.symm)
      replace HB := am (bs5 HB.out (Aside0.out (by assumption)) hw_.symm)
      clear hw_
      replace BK475 := am (blk_drew BK475.out)
      replace HB := am (below_drew1 HB.out)
      refine start_ (n := 15) (S := fun w' => w'.cell? ⟨gb475, 0, none⟩ = some (.int .i64 ((rd_T71 l1 x9_1).f0)) ∧ w'.cell? ⟨gb475, 1, none⟩ = some (.int .i64 ((rd_T71 l1 x9_1).f1)) ∧ w'.cell? ⟨gb475, 2, none⟩ = some (.int .i64 ((rd_T71 l1 x9_1).f2)) ∧ w'.cell? ⟨gb475, 3, none⟩ = some (.int .i64 ((rd_T71 l1 x9_1).f3)) ∧ w'.cell? ⟨gb475, 4, none⟩ = some (.int .i64 ((rd_T71 l1 x9_1).f4))) (ds := []) (lb 15 0) (by kernel_rfl) rfl rfl (cc5 BK475.out) (fun hHeld => ?_); refine with_tabW impl_SeasonOk.tab4 impl_SeasonOk.bits4 (fun HT_ HW_ => ?_)
      generalize w14.drew = w15 at BK475 HB hHeld ⊢
      refine pu HT_ 0 14 (lb 15 1) ?_
      refine tk HT_ HW_ hHeld 1 15 (lb 15 3) ?_
      refine on HT_ 2 16 (lb 15 7) fun K hK => ?_
      refine goes_ Try.func125 (by kernel_rfl) rfl #[.int .i64 a0, .agg #[.int .i64 ((rd_T71 l1 x9_1).f0), .int .i64 ((rd_T71 l1 x9_1).f1), .int .i64 ((rd_T71 l1 x9_1).f2), .int .i64 ((rd_T71 l1 x9_1).f3), .int .i64 ((rd_T71 l1 x9_1).f4)]] (by rfl) rfl rfl ga ?_
      with_reducible refine (impl_GameOk.calls k1 a0 ((rd_T71 l1 x9_1).f0) ((rd_T71 l1 x9_1).f1) ((rd_T71 l1 x9_1).f2) ((rd_T71 l1 x9_1).f3) ((rd_T71 l1 x9_1).f4) true _ A6.out).mono ?_
      rintro e w16 ⟨rfl, hb⟩
      refine ⟨_, rfl, ?_⟩
      replace BK475 := b1 BK475 hb
      replace HB := b2 hb
      (try clear hb)
      have q17 : (x9_1 : Int) ≤ ((l1.length : Int) : Int) := asm
      obtain ⟨i017, hi017, _, hsz17, _⟩ := info_parts info71
      have hroom17 : l1.length ≤ c1 := HC1.out
      have hC17 : Kd.C k71 _ (some ad474) l1.length l1 := HR1.out
      have hcut17 := cut_to (P := Try.prog) 35 71 .i64 Try.underlying35 hi017 (some ad474) l1.length c1 x9_1 (asm) q17 hroom17
      have hr17 := Kd.C_take (m := (x9_1 : Int).toNat) hC17 (by omega)
      have hy17 : y477.length = (x9_1 : Int).toNat := (by rw [Ny477.out, List.length_take]; omega)
      rw [← Ny477.out] at hr17
      rw [← hy17] at hcut17
      have HR480 := am hr17
      have HC480 := am (show y477.length ≤ c1 from by omega)
      clear hr17 hC17 hroom17 hi017 hsz17
      have KY17 := am hy17
      clear hy17
      replace q17 := eq_true q17
      refine hK.out _ _ (cc5 BK475.out) (fun hHeld => ?_)
      clear hK K
      refine nm 16 ?_
      refine pu HT_ 3 17 (lb 15 15) ?_
      refine pu HT_ 4 18 (lb 15 31) ?_
      refine pu HT_ 5 19 (lb 15 63) ?_
      refine pu HT_ 6 20 (lb 15 127) ?_
      refine pu HT_ 7 21 (lb 15 255) ?_
      refine pu HT_ 8 22 (lb 15 511) ?_
      refine pu HT_ 10 24 (lb 15 1535) ?_
      refine tk HT_ HW_ hHeld 9 23 (lb 15 2047) ?_
      refine tk HT_ HW_ hHeld 11 25 (lb 15 4095) ?_
      refine on HT_ 12 26 (lb 15 8191) fun K hK => ?_
      refine goes_ Try.func126 (by kernel_rfl) rfl #[.slice (some ad474) y477.length c1, .int .i64 ((rd_T71 l1 x9_1).f0), .int .i64 ((rd_T71 l1 x9_1).f1)] (by rfl) rfl rfl ga ?_
      with_reducible refine (impl_GameOf.calls k1 _ _ y477 ((rd_T71 l1 x9_1).f0) ((rd_T71 l1 x9_1).f1) t481 _ ?side1 ?side2 A10.out).mono ?_
      (case side1 => exact ck (Kd.C_below HR480.out HB.out))
      (case side2 => exact HC480.out)
      rintro e w18 ⟨rfl, hb⟩
      refine ⟨_, rfl, ?_⟩
      replace BK475 := b1 BK475 hb
      replace HB := b2 hb
      (try clear hb)
      refine hK.out _ _ (cc5 BK475.out) (fun hHeld => ?_)
      clear hK K
      refine nm 26 ?_
      refine pu HT_ 13 27 (lb 15 16383) ?_
      refine pu HT_ 14 28 (lb 15 32767) ?_
      refine done_ (done_of HT_.out (by kernel_rfl)) ?_
      try go_wp2
      go_ret
      exact ⟨er, bel⟩
     ·have H' := am H
      clear H
      have p474 : 0 ≤ (x9_1 : Int) := asm
      have q474 : x9_1 < (l1.length : Int) := asm
      obtain ⟨ad474, e474, hx474_0, hx474_1, hx474_2, hx474_3, hx474_4⟩ := hc5 HB.out (at_T71 HR1.out x9_1 p474 q474)
      cases e474
      replace p474 := eq_true p474
      replace q474 := eq_true q474
      try go_wp2_with (first | ((with_reducible refine gd 6 ?_); refine bx w 6 #[.int .i64 0, .int .i64 0, .int .i64 0, .int .i64 0, .int .i64 0] 71 ?_; clear HB; intro gb475 w19 BK475 GE475 HB; obtain ⟨_, _, _, _, _, _, _, _, _, _⟩ := cf5 BK475.out))
      generalize hw_ : World.setCell (World.setCell (World.setCell (World.setCell (World.setCell w19 _ _) _ _) _ _) _ _) _ _ = w21
      replace BK475 := am (pt5 BK475.out hw_.symm)
      replace HB := am (bs5 HB.out (Aside0.out (by assumption)) hw_.symm)
      clear hw_
      replace BK475 := am (blk_drew BK475.out)
      replace HB := am (below_drew1 HB.out)
      refine start_ (n := 15) (S := fun w' => w'.cell? ⟨gb475, 0, none⟩ = some (.int .i64 ((rd_T71 l1 x9_1).f0)) ∧ w'.cell? ⟨gb475, 1, none⟩ = some (.int .i64 ((rd_T71 l1 x9_1).f1)) ∧ w'.cell? ⟨gb475, 2, none⟩ = some (.int .i64 ((rd_T71 l1 x9_1).f2)) ∧ w'.cell? ⟨gb475, 3, none⟩ = some (.int .i64 ((rd_T71 l1 x9_1).f3)) ∧ w'.cell? ⟨gb475, 4, none⟩ = some (.int .i64 ((rd_T71 l1 x9_1).f4))) (ds := []) (lb 15 0) (by kernel_rfl) rfl rfl (cc5 BK475.out) (fun hHeld => ?_); refine with_tabW impl_SeasonOk.tab4 impl_SeasonOk.bits4 (fun HT_ HW_ => ?_)
      generalize w21.drew = w22 at BK475 HB hHeld ⊢
      refine pu HT_ 0 14 (lb 15 1) ?_
      refine tk HT_ HW_ hHeld 1 15 (lb 15 3) ?_
      refine on HT_ 2 16 (lb 15 7) fun K hK => ?_
      refine goes_ Try.func125 (by kernel_rfl) rfl #[.int .i64 a0, .agg #[.int .i64 ((rd_T71 l1 x9_1).f0), .int .i64 ((rd_T71 l1 x9_1).f1), .int .i64 ((rd_T71 l1 x9_1).f2), .int .i64 ((rd_T71 l1 x9_1).f3), .int .i64 ((rd_T71 l1 x9_1).f4)]] (by rfl) rfl rfl ga ?_
      with_reducible refine (impl_GameOk.calls k1 a0 ((rd_T71 l1 x9_1).f0) ((rd_T71 l1 x9_1).f1) ((rd_T71 l1 x9_1).f2) ((rd_T71 l1 x9_1).f3) ((rd_T71 l1 x9_1).f4) true _ A6.out).mono ?_
      rintro e w23 ⟨rfl, hb⟩
      refine ⟨_, rfl, ?_⟩
      replace BK475 := b1 BK475 hb
      replace HB := b2 hb
      (try clear hb)
      have q24 : (x9_1 : Int) ≤ ((l1.length : Int) : Int) := asm
      obtain ⟨i024, hi024, _, hsz24, _⟩ := info_parts info71
      have hroom24 : l1.length ≤ c1 := HC1.out
      have hC24 : Kd.C k71 _ (some ad474) l1.length l1 := HR1.out
      have hcut24 := cut_to (P := Try.prog) 35 71 .i64 Try.underlying35 hi024 (some ad474) l1.length c1 x9_1 (asm) q24 hroom24
      have hr24 := Kd.C_take (m := (x9_1 : Int).toNat) hC24 (by omega)
      have hy24 : y477.length = (x9_1 : Int).toNat := (by rw [Ny477.out, List.length_take]; omega)
      rw [← Ny477.out] at hr24
      rw [← hy24] at hcut24
      have HR480 := am hr24
      have HC480 := am (show y477.length ≤ c1 from by omega)
      clear hr24 hC24 hroom24 hi024 hsz24
      have KY24 := am hy24
      clear hy24
      replace q24 := eq_true q24
      refine hK.out _ _ (cc5 BK475.out) (fun hHeld => ?_)
      clear hK K
      refine nm 16 ?_
      refine pu HT_ 3 17 (lb 15 15) ?_
      refine pu HT_ 4 18 (lb 15 31) ?_
      refine pu HT_ 5 19 (lb 15 63) ?_
      refine pu HT_ 6 20 (lb 15 127) ?_
      refine pu HT_ 7 21 (lb 15 255) ?_
      refine pu HT_ 8 22 (lb 15 511) ?_
      refine pu HT_ 10 24 (lb 15 1535) ?_
      refine tk HT_ HW_ hHeld 9 23 (lb 15 2047) ?_
      refine tk HT_ HW_ hHeld 11 25 (lb 15 4095) ?_
      refine on HT_ 12 26 (lb 15 8191) fun K hK => ?_
      refine goes_ Try.func126 (by kernel_rfl) rfl #[.slice (some ad474) y477.length c1, .int .i64 ((rd_T71 l1 x9_1).f0), .int .i64 ((rd_T71 l1 x9_1).f1)] (by rfl) rfl rfl ga ?_
      with_reducible refine (impl_GameOf.calls k1 _ _ y477 ((rd_T71 l1 x9_1).f0) ((rd_T71 l1 x9_1).f1) t481 _ ?side1 ?side2 A10.out).mono ?_
      (case side1 => exact ck (Kd.C_below HR480.out HB.out))
      (case side2 => exact HC480.out)
      rintro e w25 ⟨rfl, hb⟩
      refine ⟨_, rfl, ?_⟩
      replace BK475 := b1 BK475 hb
      replace HB := b2 hb
      (try clear hb)
      refine hK.out _ _ (cc5 BK475.out) (fun hHeld => ?_)
      clear hK K
      refine nm 26 ?_
      refine pu HT_ 13 27 (lb 15 16383) ?_
      refine pu HT_ 14 28 (lb 15 32767) ?_
      refine done_ (done_of HT_.out (by kernel_rfl)) ?_
      try go_wp2
      go_roundg k1
      case measure => have := HK1.out; omega
      case rel => exact ⟨(wrap64 (x9_1 + 1)), (es), H', ⟨by have := HK1.out; omega⟩, ⟨bel⟩⟩
    ·obtain rfl := Option.some.inj H
     have p474 : 0 ≤ (x9_1 : Int) := asm
     have q474 : x9_1 < (l1.length : Int) := asm
     obtain ⟨ad474, e474, hx474_0, hx474_1, hx474_2, hx474_3, hx474_4⟩ := hc5 HB.out (at_T71 HR1.out x9_1 p474 q474)
     cases e474
     replace p474 := eq_true p474
     replace q474 := eq_true q474
     try go_wp2_with (first | ((with_reducible refine gd 6 ?_); refine bx w 6 #[.int .i64 0, .int .i64 0, .int .i64 0, .int .i64 0, .int .i64 0] 71 ?_; clear HB; intro gb475 w26 BK475 GE475 HB; obtain ⟨_, _, _, _, _, _, _, _, _, _⟩ := cf5 BK475.out))
     generalize hw_ : World.setCell (World.setCell (World.setCell (World.setCell (World.setCell w26 _ _) _ _) _ _) _ _) _ _ = w28
     replace BK475 := am (pt5 BK475.out hw_.symm)
     replace HB := am (bs5 HB.out (Aside0.out (by assumption)) hw_.symm)
     clear hw_
     replace BK475 := am (blk_drew BK475.out)
     replace HB := am (below_drew1 HB.out)
     refine start_ (n := 15) (S := fun w' => w'.cell? ⟨gb475, 0, none⟩ = some (.int .i64 ((rd_T71 l1 x9_1).f0)) ∧ w'.cell? ⟨gb475, 1, none⟩ = some (.int .i64 ((rd_T71 l1 x9_1).f1)) ∧ w'.cell? ⟨gb475, 2, none⟩ = some (.int .i64 ((rd_T71 l1 x9_1).f2)) ∧ w'.cell? ⟨gb475, 3, none⟩ = some (.int .i64 ((rd_T71 l1 x9_1).f3)) ∧ w'.cell? ⟨gb475, 4, none⟩ = some (.int .i64 ((rd_T71 l1 x9_1).f4))) (ds := []) (lb 15 0) (by kernel_rfl) rfl rfl (cc5 BK475.out) (fun hHeld => ?_); refine with_tabW impl_SeasonOk.tab4 impl_SeasonOk.bits4 (fun HT_ HW_ => ?_)
     generalize w28.drew = w29 at BK475 HB hHeld ⊢
     refine pu HT_ 0 14 (lb 15 1) ?_
     refine tk HT_ HW_ hHeld 1 15 (lb 15 3) ?_
     refine on HT_ 2 16 (lb 15 7) fun K hK => ?_
     refine goes_ Try.func125 (by kernel_rfl) rfl #[.int .i64 a0, .agg #[.int .i64 ((rd_T71 l1 x9_1).f0), .int .i64 ((rd_T71 l1 x9_1).f1), .int .i64 ((rd_T71 l1 x9_1).f2), .int .i64 ((rd_T71 l1 x9_1).f3), .int .i64 ((rd_T71 l1 x9_1).f4)]] (by rfl) rfl rfl ga ?_
     with_reducible refine (impl_GameOk.calls k1 a0 ((rd_T71 l1 x9_1).f0) ((rd_T71 l1 x9_1).f1) ((rd_T71 l1 x9_1).f2) ((rd_T71 l1 x9_1).f3) ((rd_T71 l1 x9_1).f4) false _ A6.out).mono ?_
     rintro e w30 ⟨rfl, hb⟩
     refine ⟨_, rfl, ?_⟩
     replace BK475 := b1 BK475 hb
     replace HB := b2 hb
     (try clear hb)
     refine hK.out _ _ (cc5 BK475.out) (fun hHeld => ?_)
     clear hK K
     refine nm 16 ?_
     refine pu HT_ 3 17 (lb 15 15) ?_
     refine pu HT_ 4 18 (lb 15 31) ?_
     refine pure_ (i := 5) (N := some 19) (v := undef) (a' := ?_) (lb 15 63) rfl rfl (any_of HT_.out (by kernel_rfl)) (fun _ _ _ h => h) (Or.inr ⟨by rfl, rfl⟩) ?_ ?_
     rotate_left
     ·simp only [Act.put, List.setIfInBounds_toArray, List.set_cons_zero, List.set_cons_succ, i64_w, i32_w]
      rfl
     refine pure_ (i := 6) (N := some 20) (v := undef) (a' := ?_) (lb 15 127) rfl rfl (any_of HT_.out (by kernel_rfl)) (fun _ _ _ h => h) (Or.inr ⟨by rfl, rfl⟩) ?_ ?_
     rotate_left
     ·simp only [Act.put, List.setIfInBounds_toArray, List.set_cons_zero, List.set_cons_succ, i64_w, i32_w]
      rfl
     refine pure_ (i := 7) (N := some 21) (v := undef) (a' := ?_) (lb 15 255) rfl rfl (any_of HT_.out (by kernel_rfl)) (fun _ _ _ h => h) (Or.inr ⟨by rfl, rfl⟩) ?_ ?_
     rotate_left
     ·simp only [Act.put, List.setIfInBounds_toArray, List.set_cons_zero, List.set_cons_succ, i64_w, i32_w]
      rfl
     refine pure_ (i := 8) (N := some 22) (v := undef) (a' := ?_) (lb 15 511) rfl rfl (any_of HT_.out (by kernel_rfl)) (fun _ _ _ h => h) (Or.inr ⟨by rfl, rfl⟩) ?_ ?_
     rotate_left
     ·simp only [Act.put, List.setIfInBounds_toArray, List.set_cons_zero, List.set_cons_succ, i64_w, i32_w]
      rfl
     refine pure_ (i := 9) (N := some 23) (v := undef) (a' := ?_) (lb 15 1023) rfl rfl (any_of HT_.out (by kernel_rfl)) (fun _ _ _ h => h) (Or.inr ⟨by rfl, rfl⟩) ?_ ?_
     rotate_left
     ·simp only [Act.put, List.setIfInBounds_toArray, List.set_cons_zero, List.set_cons_succ, i64_w, i32_w]
      rfl
     refine pure_ (i := 10) (N := some 24) (v := undef) (a' := ?_) (lb 15 2047) rfl rfl (any_of HT_.out (by kernel_rfl)) (fun _ _ _ h => h) (Or.inr ⟨by rfl, rfl⟩) ?_ ?_
     rotate_left
     ·simp only [Act.put, List.setIfInBounds_toArray, List.set_cons_zero, List.set_cons_succ, i64_w, i32_w]
      rfl
     refine pure_ (i := 11) (N := some 25) (v := undef) (a' := ?_) (lb 15 4095) rfl rfl (any_of HT_.out (by kernel_rfl)) (fun _ _ _ h => h) (Or.inr ⟨by rfl, rfl⟩) ?_ ?_
     rotate_left
     ·simp only [Act.put, List.setIfInBounds_toArray, List.set_cons_zero, List.set_cons_succ, i64_w, i32_w]
      rfl
     refine pure_ (i := 12) (N := some 26) (v := undef) (a' := ?_) (lb 15 8191) rfl rfl (any_of HT_.out (by kernel_rfl)) (fun _ _ _ h => h) (Or.inr ⟨by rfl, rfl⟩) ?_ ?_
     rotate_left
     ·simp only [Act.put, List.setIfInBounds_toArray, List.set_cons_zero, List.set_cons_succ, i64_w, i32_w]
      rfl
     refine pure_ (i := 13) (N := some 27) (v := undef) (a' := ?_) (lb 15 16383) rfl rfl (any_of HT_.out (by kernel_rfl)) (fun _ _ _ h => h) (Or.inr ⟨by rfl, rfl⟩) ?_ ?_
     rotate_left
     ·simp only [Act.put, List.setIfInBounds_toArray, List.set_cons_zero, List.set_cons_succ, i64_w, i32_w]
      rfl
     refine pu HT_ 14 28 (lb 15 32767) ?_
     refine done_ (done_of HT_.out (by kernel_rfl)) ?_
     try go_wp2
     go_ret
     exact ⟨er, bel⟩
   ·obtain rfl := Option.some.inj H
    go_wp2
    go_ret
    exact ⟨er, bel⟩
-- NOT PRINTED: function 105 (slices_IndexFunc_int_int)

-- NOT PRINTED: function 102 (slices_ContainsFunc_int_int)

def impl_arePenalties_1.f (a0 : Int) : Option (Bool) := (impl_within.f a0 0 1000).bind fun t482 => (some (!t482))
theorem impl_arePenalties_1.calls (a0 : Int) (r : Bool) (w : World) (h : impl_arePenalties_1.f a0 = some r) : Calls Try.prog 127 #[.int .i64 a0] w fun e w' => e = .returned (.bool r) ∧ Drawn0 w w' := by
 have H : ((impl_within.f a0 0 1000).bind fun t482 => (some (!t482))) = some r := h
 clear h
 replace H := bm H; obtain ⟨t482, A2, H⟩ := H
 obtain rfl := Option.some.inj H
 go_enter Try.func127, Try.ntmps127
 go_wp2_with (first | ((with_reducible refine gc 55 ?_); refine gl1 4 Try.func55 (impl_within.calls a0 0 1000 t482 _ A2.out) ?_; intro nd))
 go_ret
 exact ⟨es, by repeat (first | exact Drawn0.refl _ | apply Drawn0.step)⟩
def slices_IndexFunc_int_int_impl_arePenalties_1.l0 : Nat → List Int → Int → Int → Option (Int)
  | 0, _, _, _ => none
  | k + 1, x0, x7, x8 => if x8 < x7 then (if 0 ≤ x8 then (if x8 < (x0.length : Int) then ((impl_arePenalties_1.f (rd x0 x8)).bind fun t484 => (if t484 = true then (some x8) else (slices_IndexFunc_int_int_impl_arePenalties_1.l0 k x0 x7 (wrap64 (x8 + 1))))) else (none)) else (none)) else (some (-1))
def slices_IndexFunc_int_int_impl_arePenalties_1.f (k : Nat) (l0 : List Int)  : Option (Int) := slices_IndexFunc_int_int_impl_arePenalties_1.l0 k l0 (l0.length : Int) 0
theorem slices_IndexFunc_int_int_impl_arePenalties_1.calls (k : Nat) (A0 : Option Addr) (c0 : Nat) (l0 : List Int)  (r : Int) (w : World) (hr0 : Kd.C (Kd.int .i64) w A0 l0.length l0) (hc0 : l0.length ≤ c0) (h : slices_IndexFunc_int_int_impl_arePenalties_1.f k l0 = some r) : Calls Try.prog 105 #[.slice A0 l0.length c0, .func (.func 127) #[] #[]] w fun e w' => e = .returned (.int .i64 r) ∧ Below w.heap.size w w' := by
 have HR0 := am hr0
 have HC0 := am hc0
 clear hr0 hc0
 have HB := am (Below.refl w.heap.size w)
 have H : (slices_IndexFunc_int_int_impl_arePenalties_1.l0 k l0 (l0.length : Int) 0) = some r := h
 clear h
 have H' := am H
 clear H
 go_enter Try.func105, Try.ntmps105
 go_wp2
 go_loopg [8] k (fun kq v8 w' => ∃ (x8_1 : Int), v8 = .int .i64 x8_1 ∧ Aside0 (slices_IndexFunc_int_int_impl_arePenalties_1.l0 kq l0 (l0.length : Int) x8_1 = some r) ∧ Aside0 (kq ≤ k) ∧ Aside0 (Below w.heap.size w w'))
 case atStart => exact ⟨(0), (es), H', ⟨Nat.le_refl _⟩, ⟨bel⟩⟩
 case round =>
  clear H'
  obtain ⟨x8_1, rfl, HA, HK1, HB⟩ := hrel
  cases gk with
  | zero => exact absurd HA.out (by simp [slices_IndexFunc_int_int_impl_arePenalties_1.l0])
  | succ k1 =>
   have H := HA.out
   clear HA
   simp only [slices_IndexFunc_int_int_impl_arePenalties_1.l0] at H
   replace H := i1 H; obtain ⟨c3b0, H⟩ | ⟨c3b0, H⟩ := H
   ·replace H := i0 H; obtain ⟨c4b0, H⟩ := H
    replace H := i0 H; obtain ⟨c5b0, H⟩ := H
    replace H := bm H; obtain ⟨t484, A6, H⟩ := H
    replace H := ib H; obtain ⟨rfl, H⟩ | ⟨rfl, H⟩ := H
    ·obtain rfl := Option.some.inj H
     have p483 : 0 ≤ (x8_1 : Int) := asm
     have q483 : x8_1 < (l0.length : Int) := asm
     obtain ⟨ad483, e483, hx483_0⟩ := hc1 HB.out (Kd.at_int HR0.out x8_1 p483 q483)
     cases e483
     replace p483 := eq_true p483
     replace q483 := eq_true q483
     go_wp2_with (first | (go_at_call 127; refine cm1 (impl_arePenalties_1.calls (rd l0 x8_1) true _ A6.out) ?_; intro nd))
     go_ret
     exact ⟨er, bel⟩
    ·have H' := am H
     clear H
     have p483 : 0 ≤ (x8_1 : Int) := asm
     have q483 : x8_1 < (l0.length : Int) := asm
     obtain ⟨ad483, e483, hx483_0⟩ := hc1 HB.out (Kd.at_int HR0.out x8_1 p483 q483)
     cases e483
     replace p483 := eq_true p483
     replace q483 := eq_true q483
     go_wp2_with (first | (go_at_call 127; refine cm1 (impl_arePenalties_1.calls (rd l0 x8_1) false _ A6.out) ?_; intro nd))
     go_roundg k1
     case measure => have := HK1.out; omega
     case rel => exact ⟨(wrap64 (x8_1 + 1)), (es), H', ⟨by have := HK1.out; omega⟩, ⟨bel⟩⟩
   ·obtain rfl := Option.some.inj H
    go_wp2
    go_ret
    exact ⟨er, bel⟩
def slices_ContainsFunc_int_int_impl_arePenalties_1.f (k : Nat) (l0 : List Int)  : Option (Bool) := (slices_IndexFunc_int_int_impl_arePenalties_1.f k l0).bind fun t485 => (some (decide (t485 ≥ 0)))
theorem slices_ContainsFunc_int_int_impl_arePenalties_1.calls (k : Nat) (A0 : Option Addr) (c0 : Nat) (l0 : List Int)  (r : Bool) (w : World) (hr0 : Kd.C (Kd.int .i64) w A0 l0.length l0) (hc0 : l0.length ≤ c0) (h : slices_ContainsFunc_int_int_impl_arePenalties_1.f k l0 = some r) : Calls Try.prog 102 #[.slice A0 l0.length c0, .func (.func 127) #[] #[]] w fun e w' => e = .returned (.bool r) ∧ Below w.heap.size w w' := by
 have HR0 := am hr0
 have HC0 := am hc0
 clear hr0 hc0
 have HB := am (Below.refl w.heap.size w)
 have H : ((slices_IndexFunc_int_int_impl_arePenalties_1.f k l0).bind fun t485 => (some (decide (t485 ≥ 0)))) = some r := h
 clear h
 replace H := bm H; obtain ⟨t485, A3, H⟩ := H
 obtain rfl := Option.some.inj H
 go_enter Try.func102, Try.ntmps102
 go_wp2_with (first | ((with_reducible refine gc 105 ?_); refine gl2 7 Try.func105 (slices_IndexFunc_int_int_impl_arePenalties_1.calls k _ _ l0 t485 _ (ck HR0.out) HC0.out A3.out) ?_; intro w4 hb; replace HB := b2 hb; clear hb))
 go_ret
 exact ⟨er, bel⟩
def impl_arePenalties.f (k : Nat) (l0 : List Int) (a1 : Int) : Option (Bool) := if (l0.length : Int) = a1 then ((slices_ContainsFunc_int_int_impl_arePenalties_1.f k l0).bind fun t486 => (some (!t486))) else (some false)
theorem impl_arePenalties.calls (k : Nat) (A0 : Option Addr) (c0 : Nat) (l0 : List Int) (a1 : Int) (r : Bool) (w : World) (hr0 : Kd.C (Kd.int .i64) w A0 l0.length l0) (hc0 : l0.length ≤ c0) (h : impl_arePenalties.f k l0 a1 = some r) : Calls Try.prog 99 #[.slice A0 l0.length c0, .int .i64 a1] w fun e w' => e = .returned (.bool r) ∧ Below w.heap.size w w' := by
 have HR0 := am hr0
 have HC0 := am hc0
 clear hr0 hc0
 have HB := am (Below.refl w.heap.size w)
 have H : (if (l0.length : Int) = a1 then ((slices_ContainsFunc_int_int_impl_arePenalties_1.f k l0).bind fun t486 => (some (!t486))) else (some false)) = some r := h
 clear h
 replace H := ie H; obtain ⟨c3b0, c3b1, H⟩ | ⟨⟨c3, c3b0, c3b1⟩, H⟩ := H
 ·replace H := bm H; obtain ⟨t486, A4, H⟩ := H
  obtain rfl := Option.some.inj H
  go_enter Try.func99, Try.ntmps99
  go_wp2_with (first | (go_at_call 102; refine cm2 (slices_ContainsFunc_int_int_impl_arePenalties_1.calls k _ _ l0 t486 _ (ck HR0.out) HC0.out A4.out) ?_; intro w5 hb; replace HB := b2 hb; clear hb))
  go_ret
  exact ⟨er, bel⟩
 ·obtain rfl := Option.some.inj H
  go_enter Try.func99, Try.ntmps99
  go_wp2
  go_ret
  exact ⟨er, bel⟩
end Go.Proofs.Ytgalpgakdcfilaa.Q
