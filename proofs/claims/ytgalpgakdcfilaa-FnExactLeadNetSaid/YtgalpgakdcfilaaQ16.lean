-- Written by a program of this session (wip/xp.py).
import Derived.Test.YtgalpgakdcfilaaQ0
import Derived.Test.YtgalpgakdcfilaaQ11
namespace Go.Proofs.Ytgalpgakdcfilaa.Q
open Go.RowKit Go.Proofs.YtgalpgakdcfilaaW.PrintWords Go.Proofs.YtgalpgakdcfilaaW.PrintLast Go.Proofs.YtgalpgakdcfilaaW.PrintMore
attribute [local go_sem] max2_int min2_int max_two min_two max_three min_three max_four min_four   -- for this text's walks alone
set_option linter.unusedVariables false
set_option linter.unusedSimpArgs false
set_option maxHeartbeats 8000000
set_option maxRecDepth 100000

mutual
def spec_RulesOk.j0 : Nat → Bool → Int → Int → Int → List Int → Bool → Option (Bool)
  | 0, _, _, _, _, _, _ => none
  | k + 1, x31, x235000, x235001, x235002, x235003, x235004 => if x31 = true then (some false) else (spec_RulesOk.l0 k x235003 (x235003.length : Int) 0 x235000 x235001 x235002 x235003 x235004)
def spec_RulesOk.l0 : Nat → List Int → Int → Int → Int → Int → Int → List Int → Bool → Option (Bool)
  | 0, _, _, _, _, _, _, _, _ => none
  | k + 1, x33, x34, x35, x235000, x235001, x235002, x235003, x235004 => if x35 < x34 then (if 0 ≤ x35 then (if x35 < (x33.length : Int) then ((spec_l01In.f (rd x33 x35) 1 8).bind fun t240 => (if t240 = true then (if x35 ≤ (x235003.length : Int) then ((spec_l02Has.f k (x235003.take (x35 : Int).toNat) (rd x33 x35)).bind fun t242 => (if t242 = true then (some false) else (spec_RulesOk.l0 k x33 x34 (wrap64 (x35 + 1)) x235000 x235001 x235002 x235003 x235004))) else (none)) else (some false))) else (none)) else (none)) else (some true)
end
def spec_RulesOk.f (k : Nat) (a0_0 : Int) (a0_1 : Int) (a0_2 : Int) (l0_3 : List Int) (a0_4 : Bool) : Option (Bool) := (spec_l01In.f a0_0 0 10).bind fun t235 => (if t235 = true then ((spec_l01In.f a0_1 0 a0_0).bind fun t236 => (if t236 = true then ((spec_l01In.f a0_2 0 a0_1).bind fun t237 => (if t237 = true then ((spec_l01In.f (l0_3.length : Int) 1 8).bind fun t238 => (spec_RulesOk.j0 k (!t238) a0_0 a0_1 a0_2 l0_3 a0_4)) else (spec_RulesOk.j0 k true a0_0 a0_1 a0_2 l0_3 a0_4))) else (spec_RulesOk.j0 k true a0_0 a0_1 a0_2 l0_3 a0_4))) else (spec_RulesOk.j0 k true a0_0 a0_1 a0_2 l0_3 a0_4))
theorem spec_RulesOk.calls (k : Nat) (a0_0 : Int) (a0_1 : Int) (a0_2 : Int) (A0_3 : Option Addr) (c0_3 : Nat) (l0_3 : List Int) (a0_4 : Bool) (r : Bool) (w : World) (hr0_3 : Kd.C (Kd.int .i64) w A0_3 l0_3.length l0_3) (hc0_3 : l0_3.length ≤ c0_3) (h : spec_RulesOk.f k a0_0 a0_1 a0_2 l0_3 a0_4 = some r) : Calls Try.prog 92 #[.agg #[.int .i64 a0_0, .int .i64 a0_1, .int .i64 a0_2, .slice A0_3 l0_3.length c0_3, .bool a0_4]] w fun e w' => e = .returned (.bool r) ∧ Below w.heap.size w w' := by
 have hu34 := Try.underlying34
 have HR0_3 := am hr0_3
 have HC0_3 := am hc0_3
 clear hr0_3 hc0_3
 have HB := am (Below.refl w.heap.size w)
 have H : ((spec_l01In.f a0_0 0 10).bind fun t235 => (if t235 = true then ((spec_l01In.f a0_1 0 a0_0).bind fun t236 => (if t236 = true then ((spec_l01In.f a0_2 0 a0_1).bind fun t237 => (if t237 = true then ((spec_l01In.f (l0_3.length : Int) 1 8).bind fun t238 => (spec_RulesOk.j0 k (!t238) a0_0 a0_1 a0_2 l0_3 a0_4)) else (spec_RulesOk.j0 k true a0_0 a0_1 a0_2 l0_3 a0_4))) else (spec_RulesOk.j0 k true a0_0 a0_1 a0_2 l0_3 a0_4))) else (spec_RulesOk.j0 k true a0_0 a0_1 a0_2 l0_3 a0_4))) = some r := h
 clear h
 have HC2 := am H
 clear H
 go_enter Try.func92, Try.ntmps92
 go_upto_region 1 with (first | ((with_reducible refine gd 1 ?_); refine bx w 1 #[.int .i64 a0_0, .int .i64 a0_1, .int .i64 a0_2, .slice A0_3 l0_3.length c0_3, .bool a0_4] 34 ?_; clear HB; intro gb234 w3 BK234 GE234 HB))
 (try simp only [Act.put, List.setIfInBounds_toArray, List.set_cons_zero, List.set_cons_succ])
 go_cut [31] (fun v31 wc => ∃ (kq : Nat) (x31_1 : Bool), v31 = .bool x31_1 ∧ Aside0 (spec_RulesOk.j0 kq x31_1 a0_0 a0_1 a0_2 l0_3 a0_4 = some r) ∧ Aside0 (kq ≤ k) ∧ Aside0 (wc.heap[gb234]? = some (.cells #[.int .i64 a0_0, .int .i64 a0_1, .int .i64 a0_2, (.slice A0_3 l0_3.length c0_3), .bool a0_4] 34 (0, 0))) ∧ Aside0 (Below w.heap.size w wc))
 case first =>
  have H := HC2.out
  clear HC2
  replace H := bm H; obtain ⟨t235, A4, H⟩ := H
  replace H := ib H; obtain ⟨rfl, H⟩ | ⟨rfl, H⟩ := H
  ·replace H := bm H; obtain ⟨t236, A6, H⟩ := H
   replace H := ib H; obtain ⟨rfl, H⟩ | ⟨rfl, H⟩ := H
   ·replace H := bm H; obtain ⟨t237, A8, H⟩ := H
    replace H := ib H; obtain ⟨rfl, H⟩ | ⟨rfl, H⟩ := H
    ·replace H := bm H; obtain ⟨t238, A10, H⟩ := H
     have H' := am H
     clear H
     obtain ⟨_, _, _, _, _, _, _, _, _, _⟩ := cf5 BK234.out
     go_wp2_with (first | ((with_reducible refine gc 50 ?_); refine gl1 7 Try.func50 (spec_l01In.calls a0_0 0 10 true _ A4.out) ?_; intro nd) | (go_at_call 50; refine cm1 (spec_l01In.calls a0_1 0 a0_0 true _ A6.out) ?_; intro nd) | (go_at_call 50; refine cm1 (spec_l01In.calls a0_2 0 a0_1 true _ A8.out) ?_; intro nd) | (go_at_call 50; refine cm1 (spec_l01In.calls (l0_3.length : Int) 1 8 t238 _ A10.out) ?_; intro nd))
     go_meet
     case rel => exact ⟨_, (!t238), (es), H', ⟨by first | omega | exact Nat.le_refl _⟩, ⟨bk BK234.out⟩, ⟨bel⟩⟩
    ·have H' := am H
     clear H
     obtain ⟨_, _, _, _, _, _, _, _, _, _⟩ := cf5 BK234.out
     go_wp2_with (first | ((with_reducible refine gc 50 ?_); refine gl1 7 Try.func50 (spec_l01In.calls a0_0 0 10 true _ A4.out) ?_; intro nd) | (go_at_call 50; refine cm1 (spec_l01In.calls a0_1 0 a0_0 true _ A6.out) ?_; intro nd) | (go_at_call 50; refine cm1 (spec_l01In.calls a0_2 0 a0_1 false _ A8.out) ?_; intro nd))
     go_meet
     case rel => exact ⟨_, (true), (es), H', ⟨by first | omega | exact Nat.le_refl _⟩, ⟨bk BK234.out⟩, ⟨bel⟩⟩
   ·have H' := am H
    clear H
    obtain ⟨_, _, _, _, _, _, _, _, _, _⟩ := cf5 BK234.out
    go_wp2_with (first | ((with_reducible refine gc 50 ?_); refine gl1 7 Try.func50 (spec_l01In.calls a0_0 0 10 true _ A4.out) ?_; intro nd) | (go_at_call 50; refine cm1 (spec_l01In.calls a0_1 0 a0_0 false _ A6.out) ?_; intro nd))
    go_meet
    case rel => exact ⟨_, (true), (es), H', ⟨by first | omega | exact Nat.le_refl _⟩, ⟨bk BK234.out⟩, ⟨bel⟩⟩
  ·have H' := am H
   clear H
   obtain ⟨_, _, _, _, _, _, _, _, _, _⟩ := cf5 BK234.out
   go_wp2_with (first | ((with_reducible refine gc 50 ?_); refine gl1 7 Try.func50 (spec_l01In.calls a0_0 0 10 false _ A4.out) ?_; intro nd))
   go_meet
   case rel => exact ⟨_, (true), (es), H', ⟨by first | omega | exact Nat.le_refl _⟩, ⟨bk BK234.out⟩, ⟨bel⟩⟩
 case rest =>
  clear HC2
  obtain ⟨kq, x31_1, rfl, HA, HJ1, BK234, HB⟩ := hcut
  cases kq with
  | zero => exact absurd HA.out (by simp [spec_RulesOk.j0])
  | succ kj1 =>
   have H := HA.out
   clear HA
   simp only [spec_RulesOk.j0] at H
   replace H := ib H; obtain ⟨rfl, H⟩ | ⟨rfl, H⟩ := H
   ·obtain rfl := Option.some.inj H
    go_wp2
    go_ret
    exact ⟨er, bel⟩
   ·have H' := am H
    clear H
    obtain ⟨hcz16_0, hcz16_1, hcz16_2, hcz16_3, hcz16_4, hfz16_0, hfz16_1, hfz16_2, hfz16_3, hfz16_4⟩ := cf5 BK234.out
    go_wp2
    go_loopg [35] kj1 (fun kq v35 w' => ∃ (x35_2 : Int), v35 = .int .i64 x35_2 ∧ Aside0 (spec_RulesOk.l0 kq l0_3 (l0_3.length : Int) x35_2 a0_0 a0_1 a0_2 l0_3 a0_4 = some r) ∧ Aside0 (kq ≤ kj1) ∧ Aside0 (w'.heap[gb234]? = some (.cells #[.int .i64 a0_0, .int .i64 a0_1, .int .i64 a0_2, (.slice A0_3 l0_3.length c0_3), .bool a0_4] 34 (0, 0))) ∧ Aside0 (Below w.heap.size w w'))
    case atStart => exact ⟨(0), (es), H', ⟨Nat.le_refl _⟩, ⟨bk BK234.out⟩, ⟨bel⟩⟩
    case round =>
     clear H'
     try clear c15; try clear hcz16_0; try clear hcz16_1; try clear hcz16_2; try clear hcz16_3; try clear hcz16_4; try clear hfz16_0; try clear hfz16_1; try clear hfz16_2; try clear hfz16_3; try clear hfz16_4
     obtain ⟨x35_2, rfl, HA, HK2, BK234, HB⟩ := hrel
     cases gk with
     | zero => exact absurd HA.out (by simp [spec_RulesOk.l0])
     | succ k2 =>
      have H := HA.out
      clear HA
      simp only [spec_RulesOk.l0] at H
      replace H := i1 H; obtain ⟨c17b0, H⟩ | ⟨c17b0, H⟩ := H
      ·replace H := i0 H; obtain ⟨c18b0, H⟩ := H
       replace H := i0 H; obtain ⟨c19b0, H⟩ := H
       replace H := bm H; obtain ⟨t240, A20, H⟩ := H
       replace H := ib H; obtain ⟨rfl, H⟩ | ⟨rfl, H⟩ := H
       ·have c22b0 := eq_true (asm : 0 ≤ x35_2)
        replace H := i0 H; obtain ⟨c23b1, H⟩ := H
        have c23b0 := eq_true (of_decide_eq_true c23b1)
        replace H := bm H; obtain ⟨t242, A24, H⟩ := H
        replace H := ib H; obtain ⟨rfl, H⟩ | ⟨rfl, H⟩ := H
        ·obtain rfl := Option.some.inj H
         have p239 : 0 ≤ (x35_2 : Int) := asm
         have q239 : x35_2 < (l0_3.length : Int) := asm
         obtain ⟨ad239, e239, hx239_0⟩ := hc1 HB.out (Kd.at_int HR0_3.out x35_2 p239 q239)
         cases e239
         replace p239 := eq_true p239
         replace q239 := eq_true q239
         go_wp2_with (first | ((with_reducible refine gc 50 ?_); refine gl1 41 Try.func50 (spec_l01In.calls (rd l0_3 x35_2) 1 8 true _ A20.out) ?_; intro nd; obtain ⟨_, _, _, _, _, _, _, _, _, _⟩ := cf5 BK234.out; obtain ⟨i027, hi027, _, hsz27, _⟩ := info_parts info3; obtain ⟨hcut27, hA27, hC27⟩ := print_take_of (P := Try.prog) (Value.int .i64) 0 23 3 .i64 Try.underlying23 hi027 hsz27 (some ad239) c0_3 l0_3 x35_2 (asm) (asm) HC0_3.out; have HR241 := am (Kd.C_of_reads (h1 := fun _ => rfl) (hA27 _ (Kd.reads_of_C HR0_3.out))); have HC241 := am hC27; clear hA27 hC27 hi027 hsz27) | (go_at_call 114; refine cm1 (spec_l02Has.calls k2 _ _ (l0_3.take (x35_2 : Int).toNat) (rd l0_3 x35_2) true _ (ck (Kd.C_below HR241.out bel)) HC241.out A24.out) ?_; intro nd) | (go_at_call 114; rw [show (x35_2 : Int).toNat = (l0_3.take (x35_2 : Int).toNat).length from (slen l0_3 x35_2 asm).symm]; (with_reducible refine (spec_l02Has.calls k2 _ _ (l0_3.take (x35_2 : Int).toNat) (rd l0_3 x35_2) true _ ?side1 ?side2 A24.out).mono ?_); (case side1 => exact ck (Kd.C_below HR241.out bel)); (case side2 => exact HC241.out); rintro e w' ⟨rfl, ⟨nd, rfl⟩⟩))
         go_ret
         exact ⟨er, bel⟩
        ·have H' := am H
         clear H
         have p239 : 0 ≤ (x35_2 : Int) := asm
         have q239 : x35_2 < (l0_3.length : Int) := asm
         obtain ⟨ad239, e239, hx239_0⟩ := hc1 HB.out (Kd.at_int HR0_3.out x35_2 p239 q239)
         cases e239
         replace p239 := eq_true p239
         replace q239 := eq_true q239
         go_wp2_with (first | ((with_reducible refine gc 50 ?_); refine gl1 41 Try.func50 (spec_l01In.calls (rd l0_3 x35_2) 1 8 true _ A20.out) ?_; intro nd; obtain ⟨_, _, _, _, _, _, _, _, _, _⟩ := cf5 BK234.out; obtain ⟨i029, hi029, _, hsz29, _⟩ := info_parts info3; obtain ⟨hcut29, hA29, hC29⟩ := print_take_of (P := Try.prog) (Value.int .i64) 0 23 3 .i64 Try.underlying23 hi029 hsz29 (some ad239) c0_3 l0_3 x35_2 (asm) (asm) HC0_3.out; have HR241 := am (Kd.C_of_reads (h1 := fun _ => rfl) (hA29 _ (Kd.reads_of_C HR0_3.out))); have HC241 := am hC29; clear hA29 hC29 hi029 hsz29) | (go_at_call 114; refine cm1 (spec_l02Has.calls k2 _ _ (l0_3.take (x35_2 : Int).toNat) (rd l0_3 x35_2) false _ (ck (Kd.C_below HR241.out bel)) HC241.out A24.out) ?_; intro nd) | (go_at_call 114; rw [show (x35_2 : Int).toNat = (l0_3.take (x35_2 : Int).toNat).length from (slen l0_3 x35_2 asm).symm]; (with_reducible refine (spec_l02Has.calls k2 _ _ (l0_3.take (x35_2 : Int).toNat) (rd l0_3 x35_2) false _ ?side1 ?side2 A24.out).mono ?_); (case side1 => exact ck (Kd.C_below HR241.out bel)); (case side2 => exact HC241.out); rintro e w' ⟨rfl, ⟨nd, rfl⟩⟩))
         go_roundg k2
         case measure => have := HJ1.out; have := HK2.out; omega
         case rel => exact ⟨(wrap64 (x35_2 + 1)), (es), H', ⟨by have := HJ1.out; have := HK2.out; omega⟩, ⟨bk BK234.out⟩, ⟨bel⟩⟩
       ·obtain rfl := Option.some.inj H
        have p239 : 0 ≤ (x35_2 : Int) := asm
        have q239 : x35_2 < (l0_3.length : Int) := asm
        obtain ⟨ad239, e239, hx239_0⟩ := hc1 HB.out (Kd.at_int HR0_3.out x35_2 p239 q239)
        cases e239
        replace p239 := eq_true p239
        replace q239 := eq_true q239
        go_wp2_with (first | ((with_reducible refine gc 50 ?_); refine gl1 41 Try.func50 (spec_l01In.calls (rd l0_3 x35_2) 1 8 false _ A20.out) ?_; intro nd))
        go_ret
        exact ⟨er, bel⟩
      ·obtain rfl := Option.some.inj H
       go_wp2
       go_ret
       exact ⟨er, bel⟩
def spec_IsName.l0 : Nat → ByteArray → Int → Option (Bool)
  | 0, _, _ => none
  | k + 1, x0, x3 => if x3 < (x0.size : Int) then (if 0 ≤ x3 then (if (bt x0 x3) ≥ 97 then (if ((bt x0 x3) ≤ 122) then (spec_IsName.l0 k x0 (wrap64 (x3 + 1))) else (if x3 = 0 then (some false) else (if (bt x0 x3) < 48 then (some false) else (if (bt x0 x3) > 57 then (some false) else (spec_IsName.l0 k x0 (wrap64 (x3 + 1))))))) else (if x3 = 0 then (some false) else (if (bt x0 x3) < 48 then (some false) else (if (bt x0 x3) > 57 then (some false) else (spec_IsName.l0 k x0 (wrap64 (x3 + 1))))))) else (none)) else ((spec_l01In.f (x0.size : Int) 1 8).bind fun t218 => (some t218))
def spec_IsName.f (k : Nat) (a0 : ByteArray) : Option (Bool) := spec_IsName.l0 k a0 0
theorem spec_IsName.calls (k : Nat) (a0 : ByteArray) (r : Bool) (w : World) (h : spec_IsName.f k a0 = some r) : Calls Try.prog 136 #[.string a0] w fun e w' => e = .returned (.bool r) ∧ Drawn0 w w' := by
 have H : (spec_IsName.l0 k a0 0) = some r := h
 clear h
 have H' := am H
 clear H
 go_enter Try.func136, Try.ntmps136
 go_wp2
 go_loopg [3] k (fun kq v3 w' => ∃ (x3_1 : Int), v3 = .int .i64 x3_1 ∧ Aside0 (spec_IsName.l0 kq a0 x3_1 = some r) ∧ Aside0 (kq ≤ k) ∧ Drawn0 w w')
 case atStart => exact ⟨(0), (es), H', ⟨Nat.le_refl _⟩, by repeat (first | exact Drawn0.refl _ | apply Drawn0.step)⟩
 case round =>
  clear H'
  obtain ⟨x3_1, rfl, HA, HK1, ⟨m1, rfl⟩⟩ := hrel
  cases gk with
  | zero => exact absurd HA.out (by simp [spec_IsName.l0])
  | succ k1 =>
   have H := HA.out
   clear HA
   simp only [spec_IsName.l0] at H
   replace H := i1 H; obtain ⟨c2b0, H⟩ | ⟨c2b0, H⟩ := H
   ·replace H := i0 H; obtain ⟨c3b0, H⟩ := H
    replace H := i1 H; obtain ⟨c5b0, H⟩ | ⟨c5b0, H⟩ := H
    ·replace H := i1 H; obtain ⟨c7b0, H⟩ | ⟨c7b0, H⟩ := H
     ·have H' := am H
      clear H
      have p4 : 0 ≤ (x3_1 : Int) := asm
      have q4 : x3_1 < (a0.size : Int) := asm
      have hx4 := bt_at a0 x3_1
      replace p4 := eq_true p4
      replace q4 := eq_true q4
      have p6 : 0 ≤ (x3_1 : Int) := asm
      have q6 : x3_1 < (a0.size : Int) := asm
      have hx6 := bt_at a0 x3_1
      replace p6 := eq_true p6
      replace q6 := eq_true q6
      go_wp2
      go_roundg k1
      case measure => have := HK1.out; omega
      case rel => exact ⟨(wrap64 (x3_1 + 1)), (es), H', ⟨by have := HK1.out; omega⟩, by repeat (first | exact Drawn0.refl _ | apply Drawn0.step)⟩
     ·replace H := ie H; obtain ⟨c8b0, c8b1, H⟩ | ⟨⟨c8, c8b0, c8b1⟩, H⟩ := H
      ·obtain rfl := Option.some.inj H
       have p4 : 0 ≤ (x3_1 : Int) := asm
       have q4 : x3_1 < (a0.size : Int) := asm
       have hx4 := bt_at a0 x3_1
       replace p4 := eq_true p4
       replace q4 := eq_true q4
       have p6 : 0 ≤ (x3_1 : Int) := asm
       have q6 : x3_1 < (a0.size : Int) := asm
       have hx6 := bt_at a0 x3_1
       replace p6 := eq_true p6
       replace q6 := eq_true q6
       go_wp2
       go_ret
       exact ⟨es, by repeat (first | exact Drawn0.refl _ | apply Drawn0.step)⟩
      ·replace H := i1 H; obtain ⟨c10b0, H⟩ | ⟨c10b0, H⟩ := H
       ·obtain rfl := Option.some.inj H
        have p4 : 0 ≤ (x3_1 : Int) := asm
        have q4 : x3_1 < (a0.size : Int) := asm
        have hx4 := bt_at a0 x3_1
        replace p4 := eq_true p4
        replace q4 := eq_true q4
        have p6 : 0 ≤ (x3_1 : Int) := asm
        have q6 : x3_1 < (a0.size : Int) := asm
        have hx6 := bt_at a0 x3_1
        replace p6 := eq_true p6
        replace q6 := eq_true q6
        have p9 : 0 ≤ (x3_1 : Int) := asm
        have q9 : x3_1 < (a0.size : Int) := asm
        have hx9 := bt_at a0 x3_1
        replace p9 := eq_true p9
        replace q9 := eq_true q9
        go_wp2
        go_ret
        exact ⟨es, by repeat (first | exact Drawn0.refl _ | apply Drawn0.step)⟩
       ·replace H := i1 H; obtain ⟨c12b0, H⟩ | ⟨c12b0, H⟩ := H
        ·obtain rfl := Option.some.inj H
         have p4 : 0 ≤ (x3_1 : Int) := asm
         have q4 : x3_1 < (a0.size : Int) := asm
         have hx4 := bt_at a0 x3_1
         replace p4 := eq_true p4
         replace q4 := eq_true q4
         have p6 : 0 ≤ (x3_1 : Int) := asm
         have q6 : x3_1 < (a0.size : Int) := asm
         have hx6 := bt_at a0 x3_1
         replace p6 := eq_true p6
         replace q6 := eq_true q6
         have p9 : 0 ≤ (x3_1 : Int) := asm
         have q9 : x3_1 < (a0.size : Int) := asm
         have hx9 := bt_at a0 x3_1
         replace p9 := eq_true p9
         replace q9 := eq_true q9
         have p11 : 0 ≤ (x3_1 : Int) := asm
         have q11 : x3_1 < (a0.size : Int) := asm
         have hx11 := bt_at a0 x3_1
         replace p11 := eq_true p11
         replace q11 := eq_true q11
         go_wp2
         go_ret
         exact ⟨es, by repeat (first | exact Drawn0.refl _ | apply Drawn0.step)⟩
        ·have H' := am H
         clear H
         have p4 : 0 ≤ (x3_1 : Int) := asm
         have q4 : x3_1 < (a0.size : Int) := asm
         have hx4 := bt_at a0 x3_1
         replace p4 := eq_true p4
         replace q4 := eq_true q4
         have p6 : 0 ≤ (x3_1 : Int) := asm
         have q6 : x3_1 < (a0.size : Int) := asm
         have hx6 := bt_at a0 x3_1
         replace p6 := eq_true p6
         replace q6 := eq_true q6
         have p9 : 0 ≤ (x3_1 : Int) := asm
         have q9 : x3_1 < (a0.size : Int) := asm
         have hx9 := bt_at a0 x3_1
         replace p9 := eq_true p9
         replace q9 := eq_true q9
         have p11 : 0 ≤ (x3_1 : Int) := asm
         have q11 : x3_1 < (a0.size : Int) := asm
         have hx11 := bt_at a0 x3_1
         replace p11 := eq_true p11
         replace q11 := eq_true q11
         go_wp2
         go_roundg k1
         case measure => have := HK1.out; omega
         case rel => exact ⟨(wrap64 (x3_1 + 1)), (es), H', ⟨by have := HK1.out; omega⟩, by repeat (first | exact Drawn0.refl _ | apply Drawn0.step)⟩
    ·replace H := ie H; obtain ⟨c13b0, c13b1, H⟩ | ⟨⟨c13, c13b0, c13b1⟩, H⟩ := H
     ·obtain rfl := Option.some.inj H
      have p4 : 0 ≤ (x3_1 : Int) := asm
      have q4 : x3_1 < (a0.size : Int) := asm
      have hx4 := bt_at a0 x3_1
      replace p4 := eq_true p4
      replace q4 := eq_true q4
      go_wp2
      go_ret
      exact ⟨es, by repeat (first | exact Drawn0.refl _ | apply Drawn0.step)⟩
     ·replace H := i1 H; obtain ⟨c15b0, H⟩ | ⟨c15b0, H⟩ := H
      ·obtain rfl := Option.some.inj H
       have p4 : 0 ≤ (x3_1 : Int) := asm
       have q4 : x3_1 < (a0.size : Int) := asm
       have hx4 := bt_at a0 x3_1
       replace p4 := eq_true p4
       replace q4 := eq_true q4
       have p14 : 0 ≤ (x3_1 : Int) := asm
       have q14 : x3_1 < (a0.size : Int) := asm
       have hx14 := bt_at a0 x3_1
       replace p14 := eq_true p14
       replace q14 := eq_true q14
       go_wp2
       go_ret
       exact ⟨es, by repeat (first | exact Drawn0.refl _ | apply Drawn0.step)⟩
      ·replace H := i1 H; obtain ⟨c17b0, H⟩ | ⟨c17b0, H⟩ := H
       ·obtain rfl := Option.some.inj H
        have p4 : 0 ≤ (x3_1 : Int) := asm
        have q4 : x3_1 < (a0.size : Int) := asm
        have hx4 := bt_at a0 x3_1
        replace p4 := eq_true p4
        replace q4 := eq_true q4
        have p14 : 0 ≤ (x3_1 : Int) := asm
        have q14 : x3_1 < (a0.size : Int) := asm
        have hx14 := bt_at a0 x3_1
        replace p14 := eq_true p14
        replace q14 := eq_true q14
        have p16 : 0 ≤ (x3_1 : Int) := asm
        have q16 : x3_1 < (a0.size : Int) := asm
        have hx16 := bt_at a0 x3_1
        replace p16 := eq_true p16
        replace q16 := eq_true q16
        go_wp2
        go_ret
        exact ⟨es, by repeat (first | exact Drawn0.refl _ | apply Drawn0.step)⟩
       ·have H' := am H
        clear H
        have p4 : 0 ≤ (x3_1 : Int) := asm
        have q4 : x3_1 < (a0.size : Int) := asm
        have hx4 := bt_at a0 x3_1
        replace p4 := eq_true p4
        replace q4 := eq_true q4
        have p14 : 0 ≤ (x3_1 : Int) := asm
        have q14 : x3_1 < (a0.size : Int) := asm
        have hx14 := bt_at a0 x3_1
        replace p14 := eq_true p14
        replace q14 := eq_true q14
        have p16 : 0 ≤ (x3_1 : Int) := asm
        have q16 : x3_1 < (a0.size : Int) := asm
        have hx16 := bt_at a0 x3_1
        replace p16 := eq_true p16
        replace q16 := eq_true q16
        go_wp2
        go_roundg k1
        case measure => have := HK1.out; omega
        case rel => exact ⟨(wrap64 (x3_1 + 1)), (es), H', ⟨by have := HK1.out; omega⟩, by repeat (first | exact Drawn0.refl _ | apply Drawn0.step)⟩
   ·replace H := bm H; obtain ⟨t218, A18, H⟩ := H
    obtain rfl := Option.some.inj H
    go_wp2_with (first | ((with_reducible refine gc 50 ?_); refine gl1 41 Try.func50 (spec_l01In.calls (a0.size : Int) 1 8 t218 _ A18.out) ?_; intro nd))
    go_ret
    exact ⟨es, by repeat (first | exact Drawn0.refl _ | apply Drawn0.step)⟩
def spec_TeamOk.f (k : Nat) (a0_0 : ByteArray) (a0_1 : Int) (a0_2 : Int) : Option (Bool) := (spec_IsName.f k a0_0).bind fun t220 => (if t220 = true then ((spec_l01In.f a0_1 0 5).bind fun t221 => (if t221 = true then ((spec_l01In.f a0_2 1 8).bind fun t222 => (some t222)) else (some false))) else (some false))
theorem spec_TeamOk.calls (k : Nat) (a0_0 : ByteArray) (a0_1 : Int) (a0_2 : Int) (r : Bool) (w : World) (h : spec_TeamOk.f k a0_0 a0_1 a0_2 = some r) : Calls Try.prog 117 #[.agg #[.string a0_0, .int .i64 a0_1, .int .i64 a0_2]] w fun e w' => e = .returned (.bool r) ∧ Below w.heap.size w w' := by
 have hu101 := Try.underlying101
 have HB := am (Below.refl w.heap.size w)
 have H : ((spec_IsName.f k a0_0).bind fun t220 => (if t220 = true then ((spec_l01In.f a0_1 0 5).bind fun t221 => (if t221 = true then ((spec_l01In.f a0_2 1 8).bind fun t222 => (some t222)) else (some false))) else (some false))) = some r := h
 clear h
 replace H := bm H; obtain ⟨t220, A2, H⟩ := H
 replace H := ib H; obtain ⟨rfl, H⟩ | ⟨rfl, H⟩ := H
 ·replace H := bm H; obtain ⟨t221, A4, H⟩ := H
  replace H := ib H; obtain ⟨rfl, H⟩ | ⟨rfl, H⟩ := H
  ·replace H := bm H; obtain ⟨t222, A6, H⟩ := H
   obtain rfl := Option.some.inj H
   go_enter Try.func117, Try.ntmps117
   go_wp2_with (first | ((with_reducible refine gd 1 ?_); refine bx w 1 #[.string a0_0, .int .i64 a0_1, .int .i64 a0_2] 101 ?_; clear HB; intro gb219 w7 BK219 GE219 HB; obtain ⟨_, _, _, _, _, _⟩ := cf3 BK219.out) | ((with_reducible refine gc 136 ?_); refine gl1 5 Try.func136 (spec_IsName.calls k a0_0 true _ A2.out) ?_; intro nd) | (go_at_call 50; refine cm1 (spec_l01In.calls a0_1 0 5 true _ A4.out) ?_; intro nd) | (go_at_call 50; refine cm1 (spec_l01In.calls a0_2 1 8 t222 _ A6.out) ?_; intro nd))
   go_ret
   exact ⟨er, bel⟩
  ·obtain rfl := Option.some.inj H
   go_enter Try.func117, Try.ntmps117
   go_wp2_with (first | ((with_reducible refine gd 1 ?_); refine bx w 1 #[.string a0_0, .int .i64 a0_1, .int .i64 a0_2] 101 ?_; clear HB; intro gb219 w9 BK219 GE219 HB; obtain ⟨_, _, _, _, _, _⟩ := cf3 BK219.out) | ((with_reducible refine gc 136 ?_); refine gl1 5 Try.func136 (spec_IsName.calls k a0_0 true _ A2.out) ?_; intro nd) | (go_at_call 50; refine cm1 (spec_l01In.calls a0_1 0 5 false _ A4.out) ?_; intro nd))
   go_ret
   exact ⟨er, bel⟩
 ·obtain rfl := Option.some.inj H
  go_enter Try.func117, Try.ntmps117
  go_wp2_with (first | ((with_reducible refine gd 1 ?_); refine bx w 1 #[.string a0_0, .int .i64 a0_1, .int .i64 a0_2] 101 ?_; clear HB; intro gb219 w11 BK219 GE219 HB; obtain ⟨_, _, _, _, _, _⟩ := cf3 BK219.out) | ((with_reducible refine gc 136 ?_); refine gl1 5 Try.func136 (spec_IsName.calls k a0_0 false _ A2.out) ?_; intro nd))
  go_ret
  exact ⟨er, bel⟩
mutual
def spec_FieldOk.l0 : Nat → List (S101) → List (S101) → Int → Int → Option (Bool)
  | 0, _, _, _, _ => none
  | k + 1, x0, x11, x12, x13 => if x13 < x12 then (if 0 ≤ x13 then (if x13 < (x11.length : Int) then ((spec_TeamOk.f k ((rd_T101 x11 x13).f0) ((rd_T101 x11 x13).f1) ((rd_T101 x11 x13).f2)).bind fun t226 => (if t226 = true then (if x13 ≤ (x0.length : Int) then ((some (x0.take (x13 : Int).toNat : List (S101))).bind fun y227 => (spec_FieldOk.l1 k x0 x11 x12 x13 y227 (y227.length : Int) 0 ((rd_T101 x11 x13).f0) ((rd_T101 x11 x13).f1) ((rd_T101 x11 x13).f2))) else (none)) else (some false))) else (none)) else (none)) else (some true)
def spec_FieldOk.l1 : Nat → List (S101) → List (S101) → Int → Int → List (S101) → Int → Int → ByteArray → Int → Int → Option (Bool)
  | 0, _, _, _, _, _, _, _, _, _, _ => none
  | k + 1, x0, x11, x12, x13, x23, x24, x25, x226000, x226001, x226002 => if x25 < x24 then (if 0 ≤ x25 then (if x25 < (x23.length : Int) then (if ((rd_T101 x23 x25).f0).toList = x226000.toList then (some false) else (if ((rd_T101 x23 x25).f2) = x226002 then (some false) else (spec_FieldOk.l1 k x0 x11 x12 x13 x23 x24 (wrap64 (x25 + 1)) x226000 x226001 x226002))) else (none)) else (none)) else (spec_FieldOk.l0 k x0 x11 x12 (wrap64 (x13 + 1)))
end
def spec_FieldOk.f (k : Nat) (l0 : List (S101)) : Option (Bool) := (spec_l01In.f (l0.length : Int) 2 8).bind fun t223 => (if t223 = true then (spec_FieldOk.l0 k l0 l0 (l0.length : Int) 0) else (some false))
theorem spec_FieldOk.calls (k : Nat) (A0 : Option Addr) (c0 : Nat) (l0 : List (S101)) (r : Bool) (w : World) (hr0 : Kd.C k101 w A0 l0.length l0) (hc0 : l0.length ≤ c0) (h : spec_FieldOk.f k l0 = some r) : Calls Try.prog 91 #[.slice A0 l0.length c0] w fun e w' => e = .returned (.bool r) ∧ Below w.heap.size w w' := by
 have hu101 := Try.underlying101
 have HR0 := am hr0
 have HC0 := am hc0
 clear hr0 hc0
 have HB := am (Below.refl w.heap.size w)
 have H : ((spec_l01In.f (l0.length : Int) 2 8).bind fun t223 => (if t223 = true then (spec_FieldOk.l0 k l0 l0 (l0.length : Int) 0) else (some false))) = some r := h
 clear h
 replace H := bm H; obtain ⟨t223, A2, H⟩ := H
 replace H := ib H; obtain ⟨rfl, H⟩ | ⟨rfl, H⟩ := H
 ·have H' := am H
  clear H
  go_enter Try.func91, Try.ntmps91
  go_wp2_with (first | ((with_reducible refine gc 50 ?_); refine gl1 9 Try.func50 (spec_l01In.calls (l0.length : Int) 2 8 true _ A2.out) ?_; intro nd))
  go_loopg [13] k (fun kq v13 w' => ∃ (x13_1 : Int), v13 = .int .i64 x13_1 ∧ Aside0 (spec_FieldOk.l0 kq l0 l0 (l0.length : Int) x13_1 = some r) ∧ Aside0 (kq ≤ k) ∧ Aside0 (Below w.heap.size w w'))
  case atStart => exact ⟨(0), (es), H', ⟨Nat.le_refl _⟩, ⟨bel⟩⟩
  case round =>
   clear H'
   try clear c3
   obtain ⟨x13_1, rfl, HA, HK1, HB⟩ := hrel
   cases gk with
   | zero => exact absurd HA.out (by simp [spec_FieldOk.l0])
   | succ k1 =>
    have H := HA.out
    clear HA
    simp only [spec_FieldOk.l0] at H
    replace H := i1 H; obtain ⟨c4b0, H⟩ | ⟨c4b0, H⟩ := H
    ·replace H := i0 H; obtain ⟨c5b0, H⟩ := H
     replace H := i0 H; obtain ⟨c6b0, H⟩ := H
     replace H := bm H; obtain ⟨t226, A7, H⟩ := H
     replace H := ib H; obtain ⟨rfl, H⟩ | ⟨rfl, H⟩ := H
     ·have c9b0 := eq_true (asm : 0 ≤ x13_1)
      replace H := i0 H; obtain ⟨c10b1, H⟩ := H
      have c10b0 := eq_true (of_decide_eq_true c10b1)
      obtain ⟨y227, hy227⟩ : ∃ y_ : List (S101), y_ = (l0.take (x13_1 : Int).toNat) := ⟨_, rfl⟩
      replace H : (spec_FieldOk.l1 k1 l0 l0 (l0.length : Int) x13_1 y227 (y227.length : Int) 0 ((rd_T101 l0 x13_1).f0) ((rd_T101 l0 x13_1).f1) ((rd_T101 l0 x13_1).f2)) = some r := by first | (rw [hy227]; with_reducible exact H) | (have H2_ := (Option.bind_some _ _).symm.trans H; rw [hy227]; with_reducible exact H2_) | (have H2_ := (Option.bind_some _ _).symm.trans H; with_reducible exact H2_) | with_reducible exact H | (rw [hy227]; exact H) | exact H
      have Ny227 := am hy227
      clear hy227
      have H' := am H
      clear H
      have p224 : 0 ≤ (x13_1 : Int) := asm
      have q224 : x13_1 < (l0.length : Int) := asm
      obtain ⟨ad224, e224, hx224_0, hx224_1, hx224_2⟩ := hc3 HB.out (at_T101 HR0.out x13_1 p224 q224)
      cases e224
      replace p224 := eq_true p224
      replace q224 := eq_true q224
      go_wp2_with (first | ((with_reducible refine gd 4 ?_); refine bx w 4 #[.string (⟨#[]⟩ : ByteArray), .int .i64 0, .int .i64 0] 101 ?_; clear HB; intro gb225 w11 BK225 GE225 HB; obtain ⟨hcz12_0, hcz12_1, hcz12_2, hfz12_0, hfz12_1, hfz12_2⟩ := cf3 BK225.out) | ((with_reducible refine gc 117 ?_); refine gl2 19 Try.func117 (spec_TeamOk.calls k1 ((rd_T101 l0 x13_1).f0) ((rd_T101 l0 x13_1).f1) ((rd_T101 l0 x13_1).f2) true _ A7.out) ?_; intro w13 hb; replace BK225 := bq BK225 hb; replace HB := b2 hb; clear hb; have q14 : (x13_1 : Int) ≤ ((l0.length : Int) : Int) := asm; obtain ⟨i014, hi014, _, hsz14, _⟩ := info_parts info101; have hroom14 : l0.length ≤ c0 := HC0.out; have hC14 : Kd.C k101 _ (some ad224) l0.length l0 := HR0.out; have hcut14 := cut_to (P := Try.prog) 33 101 .i64 Try.underlying33 hi014 (some ad224) l0.length c0 x13_1 (asm) q14 hroom14; have hr14 := Kd.C_take (m := (x13_1 : Int).toNat) hC14 (by omega); have hy14 : y227.length = (x13_1 : Int).toNat := (by rw [Ny227.out, List.length_take]; omega); rw [← Ny227.out] at hr14; rw [← hy14] at hcut14; have HR230 := am hr14; have HC230 := am (show y227.length ≤ c0 from by omega); clear hr14 hC14 hroom14 hi014 hsz14; have KY14 := am hy14; clear hy14; replace q14 := eq_true q14))
      go_loopg [25] k1 (fun kq v25 w' => ∃ (x25_2 : Int), v25 = .int .i64 x25_2 ∧ Aside0 (spec_FieldOk.l1 kq l0 l0 (l0.length : Int) x13_1 y227 (y227.length : Int) x25_2 ((rd_T101 l0 x13_1).f0) ((rd_T101 l0 x13_1).f1) ((rd_T101 l0 x13_1).f2) = some r) ∧ Aside0 (kq ≤ k1) ∧ Aside0 (w'.heap[gb225]? = some (.cells #[.string ((rd_T101 l0 x13_1).f0), .int .i64 ((rd_T101 l0 x13_1).f1), .int .i64 ((rd_T101 l0 x13_1).f2)] 101 (0, 0))) ∧ Aside0 (Below w.heap.size w w'))
      case atStart => exact ⟨(0), (es), H', ⟨Nat.le_refl _⟩, ⟨bk BK225.out⟩, ⟨bel⟩⟩
      case round =>
       clear H'
       try clear c3; try clear c4; try clear c4b0; try clear c5; try clear c5b0; try clear c6; try clear c6b0; try clear c8; try clear c9b0; try clear c10; try clear c10b0; try clear c10b1; try clear q14; try clear hcz12_0; try clear hcz12_1; try clear hcz12_2; try clear hfz12_0; try clear hfz12_1; try clear hfz12_2; try clear hx224_0; try clear hx224_1; try clear hx224_2; try clear p224; try clear q14; try clear q224
       obtain ⟨x25_2, rfl, HA, HK2, BK225, HB⟩ := hrel
       cases gk with
       | zero => exact absurd HA.out (by simp [spec_FieldOk.l1])
       | succ k2 =>
        have H := HA.out
        clear HA
        simp only [spec_FieldOk.l1] at H
        replace H := i1 H; obtain ⟨c15b0, H⟩ | ⟨c15b0, H⟩ := H
        ·replace H := i0 H; obtain ⟨c16b0, H⟩ := H
         replace H := i0 H; obtain ⟨c17b0, H⟩ := H
         by_cases c18 : ((rd_T101 y227 x25_2).f0).toList = ((rd_T101 l0 x13_1).f0).toList
         ·rw [if_pos c18] at H
          have c18b0 : (((rd_T101 y227 x25_2).f0).toList == ((rd_T101 l0 x13_1).f0).toList) = true := beq_iff_eq.mpr c18
          have c18b1 : (((rd_T101 y227 x25_2).f0).toList != ((rd_T101 l0 x13_1).f0).toList) = false := bne_eq_false_iff_eq.mpr c18
          clear c18
          obtain rfl := Option.some.inj H
          have p231 : 0 ≤ (x25_2 : Int) := asm
          have q231 : x25_2 < (y227.length : Int) := asm
          obtain ⟨ad231, e231, hx231_0, hx231_1, hx231_2⟩ := hc3 HB.out (at_T101 HR230.out x25_2 p231 q231)
          obtain rfl : ad224 = ad231 := (by injection e231)
          replace p231 := eq_true p231
          replace q231 := eq_true q231
          go_wp2_with (first | ((with_reducible refine gd 6 ?_); refine by_ w 6 #[.string (⟨#[]⟩ : ByteArray), .int .i64 0, .int .i64 0] 101 ?_; clear HB; intro gb232 hg w19 BK232 GE232 hb HB; have NB225_232 := am ((nlt hg BK225.out : gb225 ≠ gb232)); have NB232_225 := am ((ngt hg BK225.out : gb232 ≠ gb225)); replace BK225 := b1 BK225 hb; clear hb hg; have hnb20 := NB232_225.out; have hnc20 := NB225_232.out; obtain ⟨_, _, _, _, _, _⟩ := cf3 BK232.out; obtain ⟨_, _, _, _, _, _⟩ := cf3 BK225.out))
          go_ret
          exact ⟨er, bel⟩
         ·rw [if_neg c18] at H
          have c18b0 : (((rd_T101 y227 x25_2).f0).toList == ((rd_T101 l0 x13_1).f0).toList) = false := beq_eq_false_iff_ne.mpr c18
          have c18b1 : (((rd_T101 y227 x25_2).f0).toList != ((rd_T101 l0 x13_1).f0).toList) = true := bne_iff_ne.mpr c18
          replace H := ie H; obtain ⟨c23b0, c23b1, H⟩ | ⟨⟨c23, c23b0, c23b1⟩, H⟩ := H
          ·obtain rfl := Option.some.inj H
           have p231 : 0 ≤ (x25_2 : Int) := asm
           have q231 : x25_2 < (y227.length : Int) := asm
           obtain ⟨ad231, e231, hx231_0, hx231_1, hx231_2⟩ := hc3 HB.out (at_T101 HR230.out x25_2 p231 q231)
           obtain rfl : ad224 = ad231 := (by injection e231)
           replace p231 := eq_true p231
           replace q231 := eq_true q231
           go_wp2_with (first | ((with_reducible refine gd 6 ?_); refine by_ w 6 #[.string (⟨#[]⟩ : ByteArray), .int .i64 0, .int .i64 0] 101 ?_; clear HB; intro gb232 hg w24 BK232 GE232 hb HB; have NB225_232 := am ((nlt hg BK225.out : gb225 ≠ gb232)); have NB232_225 := am ((ngt hg BK225.out : gb232 ≠ gb225)); replace BK225 := b1 BK225 hb; clear hb hg; have hnb25 := NB232_225.out; have hnc25 := NB225_232.out; obtain ⟨_, _, _, _, _, _⟩ := cf3 BK232.out; obtain ⟨_, _, _, _, _, _⟩ := cf3 BK225.out))
           go_ret
           exact ⟨er, bel⟩
          ·have H' := am H
           clear H
           have p231 : 0 ≤ (x25_2 : Int) := asm
           have q231 : x25_2 < (y227.length : Int) := asm
           obtain ⟨ad231, e231, hx231_0, hx231_1, hx231_2⟩ := hc3 HB.out (at_T101 HR230.out x25_2 p231 q231)
           obtain rfl : ad224 = ad231 := (by injection e231)
           replace p231 := eq_true p231
           replace q231 := eq_true q231
           go_wp2_with (first | ((with_reducible refine gd 6 ?_); refine by_ w 6 #[.string (⟨#[]⟩ : ByteArray), .int .i64 0, .int .i64 0] 101 ?_; clear HB; intro gb232 hg w28 BK232 GE232 hb HB; have NB225_232 := am ((nlt hg BK225.out : gb225 ≠ gb232)); have NB232_225 := am ((ngt hg BK225.out : gb232 ≠ gb225)); replace BK225 := b1 BK225 hb; clear hb hg; have hnb29 := NB232_225.out; have hnc29 := NB225_232.out; obtain ⟨_, _, _, _, _, _⟩ := cf3 BK232.out; obtain ⟨_, _, _, _, _, _⟩ := cf3 BK225.out))
           go_roundg k2
           case measure => have := HK1.out; have := HK2.out; omega
           case rel => exact ⟨(wrap64 (x25_2 + 1)), (es), H', ⟨by have := HK1.out; have := HK2.out; omega⟩, ⟨bk BK225.out⟩, ⟨bel⟩⟩
        ·have H' := am H
         clear H
         go_wp2
         go_roundg k2
         case measure => have := HK1.out; have := HK2.out; omega
         case rel => exact ⟨(wrap64 (x13_1 + 1)), (es), H', ⟨by have := HK1.out; have := HK2.out; omega⟩, ⟨bel⟩⟩
     ·obtain rfl := Option.some.inj H
      have p224 : 0 ≤ (x13_1 : Int) := asm
      have q224 : x13_1 < (l0.length : Int) := asm
      obtain ⟨ad224, e224, hx224_0, hx224_1, hx224_2⟩ := hc3 HB.out (at_T101 HR0.out x13_1 p224 q224)
      cases e224
      replace p224 := eq_true p224
      replace q224 := eq_true q224
      go_wp2_with (first | ((with_reducible refine gd 4 ?_); refine bx w 4 #[.string (⟨#[]⟩ : ByteArray), .int .i64 0, .int .i64 0] 101 ?_; clear HB; intro gb225 w32 BK225 GE225 HB; obtain ⟨_, _, _, _, _, _⟩ := cf3 BK225.out) | ((with_reducible refine gc 117 ?_); refine gl2 19 Try.func117 (spec_TeamOk.calls k1 ((rd_T101 l0 x13_1).f0) ((rd_T101 l0 x13_1).f1) ((rd_T101 l0 x13_1).f2) false _ A7.out) ?_; intro w34 hb; replace BK225 := bq BK225 hb; replace HB := b2 hb; clear hb))
      go_ret
      exact ⟨er, bel⟩
    ·obtain rfl := Option.some.inj H
     go_wp2
     go_ret
     exact ⟨er, bel⟩
 ·obtain rfl := Option.some.inj H
  go_enter Try.func91, Try.ntmps91
  go_wp2_with (first | ((with_reducible refine gc 50 ?_); refine gl1 9 Try.func50 (spec_l01In.calls (l0.length : Int) 2 8 false _ A2.out) ?_; intro nd))
  go_ret
  exact ⟨er, bel⟩
def spec_GameOk.j0 : Nat → Bool → Int → Int → Int → Int → Int → Option (Bool)
  | 0, _, _, _, _, _, _ => none
  | k + 1, x36, x244000, x244001, x244002, x244003, x244004 => if x36 = true then (some false) else (if x244004 = 1 then ((spec_l01In.f x244002 0 99).bind fun t248 => (if t248 = true then ((spec_l01In.f x244003 0 99).bind fun t249 => (some t249)) else (some false))) else (if x244002 = 0 then (some (x244003 == 0)) else (some false)))
def spec_GameOk.f (k : Nat) (a0 : Int) (a1_0 : Int) (a1_1 : Int) (a1_2 : Int) (a1_3 : Int) (a1_4 : Int) : Option (Bool) := (spec_l01In.f a0 2 8).bind fun t244 => (if t244 = true then ((spec_l01In.f a1_0 0 (wrap64 (a0 - 1))).bind fun t245 => (if t245 = true then ((spec_l01In.f a1_1 0 (wrap64 (a0 - 1))).bind fun t246 => (if t246 = true then (if a1_0 = a1_1 then (spec_GameOk.j0 k true a1_0 a1_1 a1_2 a1_3 a1_4) else ((spec_l01In.f a1_4 0 4).bind fun t247 => (spec_GameOk.j0 k (!t247) a1_0 a1_1 a1_2 a1_3 a1_4))) else (spec_GameOk.j0 k true a1_0 a1_1 a1_2 a1_3 a1_4))) else (spec_GameOk.j0 k true a1_0 a1_1 a1_2 a1_3 a1_4))) else (spec_GameOk.j0 k true a1_0 a1_1 a1_2 a1_3 a1_4))
theorem spec_GameOk.calls (k : Nat) (a0 : Int) (a1_0 : Int) (a1_1 : Int) (a1_2 : Int) (a1_3 : Int) (a1_4 : Int) (r : Bool) (w : World) (h : spec_GameOk.f k a0 a1_0 a1_1 a1_2 a1_3 a1_4 = some r) : Calls Try.prog 118 #[.int .i64 a0, .agg #[.int .i64 a1_0, .int .i64 a1_1, .int .i64 a1_2, .int .i64 a1_3, .int .i64 a1_4]] w fun e w' => e = .returned (.bool r) ∧ Below w.heap.size w w' := by
 have hu71 := Try.underlying71
 have HB := am (Below.refl w.heap.size w)
 have H : ((spec_l01In.f a0 2 8).bind fun t244 => (if t244 = true then ((spec_l01In.f a1_0 0 (wrap64 (a0 - 1))).bind fun t245 => (if t245 = true then ((spec_l01In.f a1_1 0 (wrap64 (a0 - 1))).bind fun t246 => (if t246 = true then (if a1_0 = a1_1 then (spec_GameOk.j0 k true a1_0 a1_1 a1_2 a1_3 a1_4) else ((spec_l01In.f a1_4 0 4).bind fun t247 => (spec_GameOk.j0 k (!t247) a1_0 a1_1 a1_2 a1_3 a1_4))) else (spec_GameOk.j0 k true a1_0 a1_1 a1_2 a1_3 a1_4))) else (spec_GameOk.j0 k true a1_0 a1_1 a1_2 a1_3 a1_4))) else (spec_GameOk.j0 k true a1_0 a1_1 a1_2 a1_3 a1_4))) = some r := h
 clear h
 have HC3 := am H
 clear H
 go_enter Try.func118, Try.ntmps118
 go_upto_region 1 with (first | ((with_reducible refine gd 3 ?_); refine bx w 3 #[.int .i64 a1_0, .int .i64 a1_1, .int .i64 a1_2, .int .i64 a1_3, .int .i64 a1_4] 71 ?_; clear HB; intro gb243 w4 BK243 GE243 HB))
 (try simp only [Act.put, List.setIfInBounds_toArray, List.set_cons_zero, List.set_cons_succ])
 go_cut [36] (fun v36 wc => ∃ (kq : Nat) (x36_2 : Bool), v36 = .bool x36_2 ∧ Aside0 (spec_GameOk.j0 kq x36_2 a1_0 a1_1 a1_2 a1_3 a1_4 = some r) ∧ Aside0 (kq ≤ k) ∧ Aside0 (wc.heap[gb243]? = some (.cells #[.int .i64 a1_0, .int .i64 a1_1, .int .i64 a1_2, .int .i64 a1_3, .int .i64 a1_4] 71 (0, 0))) ∧ Aside0 (Below w.heap.size w wc))
 case first =>
  have H := HC3.out
  clear HC3
  replace H := bm H; obtain ⟨t244, A5, H⟩ := H
  replace H := ib H; obtain ⟨rfl, H⟩ | ⟨rfl, H⟩ := H
  ·replace H := bm H; obtain ⟨t245, A7, H⟩ := H
   replace H := ib H; obtain ⟨rfl, H⟩ | ⟨rfl, H⟩ := H
   ·replace H := bm H; obtain ⟨t246, A9, H⟩ := H
    replace H := ib H; obtain ⟨rfl, H⟩ | ⟨rfl, H⟩ := H
    ·replace H := ie H; obtain ⟨c11b0, c11b1, H⟩ | ⟨⟨c11, c11b0, c11b1⟩, H⟩ := H
     ·(first | rw [c11b0] | (simp only [i64_w, i32_w]; rw [c11b0]) | skip)
      have H' := am H
      clear H
      go_wp2_with (first | ((with_reducible refine gc 50 ?_); refine gl1 6 Try.func50 (spec_l01In.calls a0 2 8 true _ A5.out) ?_; intro nd; obtain ⟨_, _, _, _, _, _, _, _, _, _⟩ := cf5 BK243.out) | (go_at_call 50; refine cm1 (spec_l01In.calls a1_0 0 (wrap64 (a0 - 1)) true _ A7.out) ?_; intro nd) | (go_at_call 50; refine cm1 (spec_l01In.calls a1_1 0 (wrap64 (a0 - 1)) true _ A9.out) ?_; intro nd))
      go_meet
      case rel => exact ⟨_, (true), (es), H', ⟨by first | omega | exact Nat.le_refl _⟩, ⟨bk BK243.out⟩, ⟨bel⟩⟩
     ·(first | rw [c11b0] | (simp only [i64_w, i32_w]; rw [c11b0]) | skip)
      replace H := bm H; obtain ⟨t247, A13, H⟩ := H
      have H' := am H
      clear H
      go_wp2_with (first | ((with_reducible refine gc 50 ?_); refine gl1 6 Try.func50 (spec_l01In.calls a0 2 8 true _ A5.out) ?_; intro nd; obtain ⟨_, _, _, _, _, _, _, _, _, _⟩ := cf5 BK243.out) | (go_at_call 50; refine cm1 (spec_l01In.calls a1_0 0 (wrap64 (a0 - 1)) true _ A7.out) ?_; intro nd) | (go_at_call 50; refine cm1 (spec_l01In.calls a1_1 0 (wrap64 (a0 - 1)) true _ A9.out) ?_; intro nd) | (go_at_call 50; refine cm1 (spec_l01In.calls a1_4 0 4 t247 _ A13.out) ?_; intro nd))
      go_meet
      case rel => exact ⟨_, (!t247), (es), H', ⟨by first | omega | exact Nat.le_refl _⟩, ⟨bk BK243.out⟩, ⟨bel⟩⟩
    ·have H' := am H
     clear H
     go_wp2_with (first | ((with_reducible refine gc 50 ?_); refine gl1 6 Try.func50 (spec_l01In.calls a0 2 8 true _ A5.out) ?_; intro nd; obtain ⟨_, _, _, _, _, _, _, _, _, _⟩ := cf5 BK243.out) | (go_at_call 50; refine cm1 (spec_l01In.calls a1_0 0 (wrap64 (a0 - 1)) true _ A7.out) ?_; intro nd) | (go_at_call 50; refine cm1 (spec_l01In.calls a1_1 0 (wrap64 (a0 - 1)) false _ A9.out) ?_; intro nd))
     go_meet
     case rel => exact ⟨_, (true), (es), H', ⟨by first | omega | exact Nat.le_refl _⟩, ⟨bk BK243.out⟩, ⟨bel⟩⟩
   ·have H' := am H
    clear H
    go_wp2_with (first | ((with_reducible refine gc 50 ?_); refine gl1 6 Try.func50 (spec_l01In.calls a0 2 8 true _ A5.out) ?_; intro nd; obtain ⟨_, _, _, _, _, _, _, _, _, _⟩ := cf5 BK243.out) | (go_at_call 50; refine cm1 (spec_l01In.calls a1_0 0 (wrap64 (a0 - 1)) false _ A7.out) ?_; intro nd))
    go_meet
    case rel => exact ⟨_, (true), (es), H', ⟨by first | omega | exact Nat.le_refl _⟩, ⟨bk BK243.out⟩, ⟨bel⟩⟩
  ·have H' := am H
   clear H
   go_wp2_with (first | ((with_reducible refine gc 50 ?_); refine gl1 6 Try.func50 (spec_l01In.calls a0 2 8 false _ A5.out) ?_; intro nd))
   go_meet
   case rel => exact ⟨_, (true), (es), H', ⟨by first | omega | exact Nat.le_refl _⟩, ⟨bk BK243.out⟩, ⟨bel⟩⟩
 case rest =>
  clear HC3
  obtain ⟨kq, x36_2, rfl, HA, HJ2, BK243, HB⟩ := hcut
  cases kq with
  | zero => exact absurd HA.out (by simp [spec_GameOk.j0])
  | succ kj2 =>
   have H := HA.out
   clear HA
   simp only [spec_GameOk.j0] at H
   replace H := ib H; obtain ⟨rfl, H⟩ | ⟨rfl, H⟩ := H
   ·obtain rfl := Option.some.inj H
    go_wp2
    go_ret
    exact ⟨er, bel⟩
   ·replace H := ie H; obtain ⟨c18b0, c18b1, H⟩ | ⟨⟨c18, c18b0, c18b1⟩, H⟩ := H
    ·replace H := bm H; obtain ⟨t248, A19, H⟩ := H
     replace H := ib H; obtain ⟨rfl, H⟩ | ⟨rfl, H⟩ := H
     ·replace H := bm H; obtain ⟨t249, A21, H⟩ := H
      obtain rfl := Option.some.inj H
      obtain ⟨_, _, _, _, _, _, _, _, _, _⟩ := cf5 BK243.out
      go_wp2_with (first | ((with_reducible refine gc 50 ?_); refine gl1 50 Try.func50 (spec_l01In.calls a1_2 0 99 true _ A19.out) ?_; intro nd) | (go_at_call 50; refine cm1 (spec_l01In.calls a1_3 0 99 t249 _ A21.out) ?_; intro nd))
      go_ret
      exact ⟨er, bel⟩
     ·obtain rfl := Option.some.inj H
      obtain ⟨_, _, _, _, _, _, _, _, _, _⟩ := cf5 BK243.out
      go_wp2_with (first | ((with_reducible refine gc 50 ?_); refine gl1 50 Try.func50 (spec_l01In.calls a1_2 0 99 false _ A19.out) ?_; intro nd))
      go_ret
      exact ⟨er, bel⟩
    ·replace H := ie H; obtain ⟨c24b0, c24b1, H⟩ | ⟨⟨c24, c24b0, c24b1⟩, H⟩ := H
     ·obtain rfl := Option.some.inj H
      obtain ⟨_, _, _, _, _, _, _, _, _, _⟩ := cf5 BK243.out
      go_wp2
      go_ret
      exact ⟨er, bel⟩
     ·obtain rfl := Option.some.inj H
      obtain ⟨_, _, _, _, _, _, _, _, _, _⟩ := cf5 BK243.out
      go_wp2
      go_ret
      exact ⟨er, bel⟩
def spec_GameOf.l0 : Nat → Int → Int → List (S71) → Int → Int → Option (Int)
  | 0, _, _, _, _, _ => none
  | k + 1, x1, x2, x9, x10, x11 => if x11 < x10 then (if 0 ≤ x11 then (if x11 < (x9.length : Int) then (if ((rd_T71 x9 x11).f0) = x1 then (if ((rd_T71 x9 x11).f1) = x2 then (some x11) else (spec_GameOf.l0 k x1 x2 x9 x10 (wrap64 (x11 + 1)))) else (spec_GameOf.l0 k x1 x2 x9 x10 (wrap64 (x11 + 1)))) else (none)) else (none)) else (some (-1))
def spec_GameOf.f (k : Nat) (l0 : List (S71)) (a1 : Int) (a2 : Int) : Option (Int) := spec_GameOf.l0 k a1 a2 l0 (l0.length : Int) 0
theorem spec_GameOf.calls (k : Nat) (A0 : Option Addr) (c0 : Nat) (l0 : List (S71)) (a1 : Int) (a2 : Int) (r : Int) (w : World) (hr0 : Kd.C k71 w A0 l0.length l0) (hc0 : l0.length ≤ c0) (h : spec_GameOf.f k l0 a1 a2 = some r) : Calls Try.prog 119 #[.slice A0 l0.length c0, .int .i64 a1, .int .i64 a2] w fun e w' => e = .returned (.int .i64 r) ∧ Below w.heap.size w w' := by
 have hu71 := Try.underlying71
 have HR0 := am hr0
 have HC0 := am hc0
 clear hr0 hc0
 have HB := am (Below.refl w.heap.size w)
 have H : (spec_GameOf.l0 k a1 a2 l0 (l0.length : Int) 0) = some r := h
 clear h
 have H' := am H
 clear H
 go_enter Try.func119, Try.ntmps119
 go_wp2
 go_loopg [11] k (fun kq v11 w' => ∃ (x11_1 : Int), v11 = .int .i64 x11_1 ∧ Aside0 (spec_GameOf.l0 kq a1 a2 l0 (l0.length : Int) x11_1 = some r) ∧ Aside0 (kq ≤ k) ∧ Aside0 (Below w.heap.size w w'))
 case atStart => exact ⟨(0), (es), H', ⟨Nat.le_refl _⟩, ⟨bel⟩⟩
 case round =>
  clear H'
  obtain ⟨x11_1, rfl, HA, HK1, HB⟩ := hrel
  cases gk with
  | zero => exact absurd HA.out (by simp [spec_GameOf.l0])
  | succ k1 =>
   have H := HA.out
   clear HA
   simp only [spec_GameOf.l0] at H
   replace H := i1 H; obtain ⟨c4b0, H⟩ | ⟨c4b0, H⟩ := H
   ·replace H := i0 H; obtain ⟨c5b0, H⟩ := H
    replace H := i0 H; obtain ⟨c6b0, H⟩ := H
    replace H := ie H; obtain ⟨c7b0, c7b1, H⟩ | ⟨⟨c7, c7b0, c7b1⟩, H⟩ := H
    ·replace H := ie H; obtain ⟨c8b0, c8b1, H⟩ | ⟨⟨c8, c8b0, c8b1⟩, H⟩ := H
     ·obtain rfl := Option.some.inj H
      have p250 : 0 ≤ (x11_1 : Int) := asm
      have q250 : x11_1 < (l0.length : Int) := asm
      obtain ⟨ad250, e250, hx250_0, hx250_1, hx250_2, hx250_3, hx250_4⟩ := hc5 HB.out (at_T71 HR0.out x11_1 p250 q250)
      cases e250
      replace p250 := eq_true p250
      replace q250 := eq_true q250
      go_wp2_with (first | ((with_reducible refine gd 8 ?_); refine bx w 8 #[.int .i64 0, .int .i64 0, .int .i64 0, .int .i64 0, .int .i64 0] 71 ?_; clear HB; intro gb251 w9 BK251 GE251 HB; obtain ⟨_, _, _, _, _, _, _, _, _, _⟩ := cf5 BK251.out))
      go_ret
      exact ⟨er, bel⟩
     ·have H' := am H
      clear H
      have p250 : 0 ≤ (x11_1 : Int) := asm
      have q250 : x11_1 < (l0.length : Int) := asm
      obtain ⟨ad250, e250, hx250_0, hx250_1, hx250_2, hx250_3, hx250_4⟩ := hc5 HB.out (at_T71 HR0.out x11_1 p250 q250)
      cases e250
      replace p250 := eq_true p250
      replace q250 := eq_true q250
      go_wp2_with (first | ((with_reducible refine gd 8 ?_); refine bx w 8 #[.int .i64 0, .int .i64 0, .int .i64 0, .int .i64 0, .int .i64 0] 71 ?_; clear HB; intro gb251 w11 BK251 GE251 HB; obtain ⟨_, _, _, _, _, _, _, _, _, _⟩ := cf5 BK251.out))
      go_roundg k1
      case measure => have := HK1.out; omega
      case rel => exact ⟨(wrap64 (x11_1 + 1)), (es), H', ⟨by have := HK1.out; omega⟩, ⟨bel⟩⟩
    ·have H' := am H
     clear H
     have p250 : 0 ≤ (x11_1 : Int) := asm
     have q250 : x11_1 < (l0.length : Int) := asm
     obtain ⟨ad250, e250, hx250_0, hx250_1, hx250_2, hx250_3, hx250_4⟩ := hc5 HB.out (at_T71 HR0.out x11_1 p250 q250)
     cases e250
     replace p250 := eq_true p250
     replace q250 := eq_true q250
     go_wp2_with (first | ((with_reducible refine gd 8 ?_); refine bx w 8 #[.int .i64 0, .int .i64 0, .int .i64 0, .int .i64 0, .int .i64 0] 71 ?_; clear HB; intro gb251 w13 BK251 GE251 HB; obtain ⟨_, _, _, _, _, _, _, _, _, _⟩ := cf5 BK251.out))
     go_roundg k1
     case measure => have := HK1.out; omega
     case rel => exact ⟨(wrap64 (x11_1 + 1)), (es), H', ⟨by have := HK1.out; omega⟩, ⟨bel⟩⟩
   ·obtain rfl := Option.some.inj H
    go_wp2
    go_ret
    exact ⟨er, bel⟩
def spec_SeasonOk.l0 : Nat → Int → List (S71) → List (S71) → Int → Int → Option (Bool)
  | 0, _, _, _, _, _ => none
  | k + 1, x0, x1, x10, x11, x12 => if x12 < x11 then (if 0 ≤ x12 then (if x12 < (x10.length : Int) then ((spec_GameOk.f k x0 ((rd_T71 x10 x12).f0) ((rd_T71 x10 x12).f1) ((rd_T71 x10 x12).f2) ((rd_T71 x10 x12).f3) ((rd_T71 x10 x12).f4)).bind fun t254 => (if t254 = true then ((spec_GameOf.f k x1 ((rd_T71 x10 x12).f0) ((rd_T71 x10 x12).f1)).bind fun t255 => (if t255 = x12 then (spec_SeasonOk.l0 k x0 x1 x10 x11 (wrap64 (x12 + 1))) else (some false))) else (some false))) else (none)) else (none)) else (some true)
def spec_SeasonOk.f (k : Nat) (a0 : Int) (l1 : List (S71)) : Option (Bool) := if (l1.length : Int) > 60 then (some false) else (spec_SeasonOk.l0 k a0 l1 l1 (l1.length : Int) 0)
theorem spec_SeasonOk.calls (k : Nat) (a0 : Int) (A1 : Option Addr) (c1 : Nat) (l1 : List (S71)) (r : Bool) (w : World) (hr1 : Kd.C k71 w A1 l1.length l1) (hc1 : l1.length ≤ c1) (h : spec_SeasonOk.f k a0 l1 = some r) : Calls Try.prog 93 #[.int .i64 a0, .slice A1 l1.length c1] w fun e w' => e = .returned (.bool r) ∧ Below w.heap.size w w' := by
 have hu71 := Try.underlying71
 have HR1 := am hr1
 have HC1 := am hc1
 clear hr1 hc1
 have HB := am (Below.refl w.heap.size w)
 have H : (if (l1.length : Int) > 60 then (some false) else (spec_SeasonOk.l0 k a0 l1 l1 (l1.length : Int) 0)) = some r := h
 clear h
 by_cases c3 : (l1.length : Int) > 60
 ·rw [if_pos c3] at H
  have c3b0 : decide (60 < (l1.length : Int)) = true := decide_eq_true c3
  have c3b1 : decide (60 < l1.length) = true := decide_eq_true (by omega)
  clear c3
  obtain rfl := Option.some.inj H
  go_enter Try.func93, Try.ntmps93
  go_wp2
  go_ret
  exact ⟨er, bel⟩
 ·rw [if_neg c3] at H
  have c3b0 : decide (60 < (l1.length : Int)) = false := decide_eq_false c3
  have c3b1 : decide (60 < l1.length) = false := decide_eq_false (by omega)
  clear c3
  have H' := am H
  clear H
  go_enter Try.func93, Try.ntmps93
  go_wp2
  go_loopg [12] k (fun kq v12 w' => ∃ (x12_1 : Int), v12 = .int .i64 x12_1 ∧ Aside0 (spec_SeasonOk.l0 kq a0 l1 l1 (l1.length : Int) x12_1 = some r) ∧ Aside0 (kq ≤ k) ∧ Aside0 (Below w.heap.size w w'))
  case atStart => exact ⟨(0), (es), H', ⟨Nat.le_refl _⟩, ⟨bel⟩⟩
  case round =>
   clear H'
   try clear c1; try clear c3; try clear c3b0; try clear c3b1
   obtain ⟨x12_1, rfl, HA, HK1, HB⟩ := hrel
   cases gk with
   | zero => exact absurd HA.out (by simp [spec_SeasonOk.l0])
   | succ k1 =>
    have H := HA.out
    clear HA
    simp only [spec_SeasonOk.l0] at H
    replace H := i1 H; obtain ⟨c4b0, H⟩ | ⟨c4b0, H⟩ := H
    ·replace H := i0 H; obtain ⟨c5b0, H⟩ := H
     replace H := i0 H; obtain ⟨c6b0, H⟩ := H
     replace H := bm H; obtain ⟨t254, A7, H⟩ := H
     replace H := ib H; obtain ⟨rfl, H⟩ | ⟨rfl, H⟩ := H
     ·replace H := bm H; obtain ⟨t255, A9, H⟩ := H
      replace H := ie H; obtain ⟨c10b0, c10b1, H⟩ | ⟨⟨c10, c10b0, c10b1⟩, H⟩ := H
      ·have H' := am H
       clear H
       have p252 : 0 ≤ (x12_1 : Int) := asm
       have q252 : x12_1 < (l1.length : Int) := asm
       obtain ⟨ad252, e252, hx252_0, hx252_1, hx252_2, hx252_3, hx252_4⟩ := hc5 HB.out (at_T71 HR1.out x12_1 p252 q252)
       cases e252
       replace p252 := eq_true p252
       replace q252 := eq_true q252
       go_wp2_with (first | ((with_reducible refine gd 6 ?_); refine bx w 6 #[.int .i64 0, .int .i64 0, .int .i64 0, .int .i64 0, .int .i64 0] 71 ?_; clear HB; intro gb253 w11 BK253 GE253 HB; obtain ⟨_, _, _, _, _, _, _, _, _, _⟩ := cf5 BK253.out) | ((with_reducible refine gc 118 ?_); refine gl2 19 Try.func118 (spec_GameOk.calls k1 a0 ((rd_T71 l1 x12_1).f0) ((rd_T71 l1 x12_1).f1) ((rd_T71 l1 x12_1).f2) ((rd_T71 l1 x12_1).f3) ((rd_T71 l1 x12_1).f4) true _ A7.out) ?_; intro w13 hb; replace BK253 := bq BK253 hb; replace HB := b2 hb; clear hb; obtain ⟨_, _, _, _, _, _, _, _, _, _⟩ := cf5 BK253.out) | (go_at_call 119; refine cm2 (spec_GameOf.calls k1 _ _ l1 ((rd_T71 l1 x12_1).f0) ((rd_T71 l1 x12_1).f1) t255 _ (cb HR1 HB) HC1.out A9.out) ?_; intro w15 hb; replace BK253 := b1 BK253 hb; replace HB := b2 hb; clear hb))
       go_roundg k1
       case measure => have := HK1.out; omega
       case rel => exact ⟨(wrap64 (x12_1 + 1)), (es), H', ⟨by have := HK1.out; omega⟩, ⟨bel⟩⟩
      ·obtain rfl := Option.some.inj H
       have p252 : 0 ≤ (x12_1 : Int) := asm
       have q252 : x12_1 < (l1.length : Int) := asm
       obtain ⟨ad252, e252, hx252_0, hx252_1, hx252_2, hx252_3, hx252_4⟩ := hc5 HB.out (at_T71 HR1.out x12_1 p252 q252)
       cases e252
       replace p252 := eq_true p252
       replace q252 := eq_true q252
       go_wp2_with (first | ((with_reducible refine gd 6 ?_); refine bx w 6 #[.int .i64 0, .int .i64 0, .int .i64 0, .int .i64 0, .int .i64 0] 71 ?_; clear HB; intro gb253 w16 BK253 GE253 HB; obtain ⟨_, _, _, _, _, _, _, _, _, _⟩ := cf5 BK253.out) | ((with_reducible refine gc 118 ?_); refine gl2 19 Try.func118 (spec_GameOk.calls k1 a0 ((rd_T71 l1 x12_1).f0) ((rd_T71 l1 x12_1).f1) ((rd_T71 l1 x12_1).f2) ((rd_T71 l1 x12_1).f3) ((rd_T71 l1 x12_1).f4) true _ A7.out) ?_; intro w18 hb; replace BK253 := bq BK253 hb; replace HB := b2 hb; clear hb; obtain ⟨_, _, _, _, _, _, _, _, _, _⟩ := cf5 BK253.out) | (go_at_call 119; refine cm2 (spec_GameOf.calls k1 _ _ l1 ((rd_T71 l1 x12_1).f0) ((rd_T71 l1 x12_1).f1) t255 _ (cb HR1 HB) HC1.out A9.out) ?_; intro w20 hb; replace BK253 := b1 BK253 hb; replace HB := b2 hb; clear hb))
       go_ret
       exact ⟨er, bel⟩
     ·obtain rfl := Option.some.inj H
      have p252 : 0 ≤ (x12_1 : Int) := asm
      have q252 : x12_1 < (l1.length : Int) := asm
      obtain ⟨ad252, e252, hx252_0, hx252_1, hx252_2, hx252_3, hx252_4⟩ := hc5 HB.out (at_T71 HR1.out x12_1 p252 q252)
      cases e252
      replace p252 := eq_true p252
      replace q252 := eq_true q252
      go_wp2_with (first | ((with_reducible refine gd 6 ?_); refine bx w 6 #[.int .i64 0, .int .i64 0, .int .i64 0, .int .i64 0, .int .i64 0] 71 ?_; clear HB; intro gb253 w21 BK253 GE253 HB; obtain ⟨_, _, _, _, _, _, _, _, _, _⟩ := cf5 BK253.out) | ((with_reducible refine gc 118 ?_); refine gl2 19 Try.func118 (spec_GameOk.calls k1 a0 ((rd_T71 l1 x12_1).f0) ((rd_T71 l1 x12_1).f1) ((rd_T71 l1 x12_1).f2) ((rd_T71 l1 x12_1).f3) ((rd_T71 l1 x12_1).f4) false _ A7.out) ?_; intro w23 hb; replace BK253 := bq BK253 hb; replace HB := b2 hb; clear hb))
      go_ret
      exact ⟨er, bel⟩
    ·obtain rfl := Option.some.inj H
     go_wp2
     go_ret
     exact ⟨er, bel⟩
end Go.Proofs.Ytgalpgakdcfilaa.Q
