-- Written by a program of this session (wip/xp.py).
import Derived.Test.YtgalpgakdcfilaaQ0
import Derived.Test.YtgalpgakdcfilaaQ11
import Derived.Test.YtgalpgakdcfilaaQ16
namespace Go.Proofs.Ytgalpgakdcfilaa.Q
open Go.RowKit Go.Proofs.YtgalpgakdcfilaaW.PrintWords Go.Proofs.YtgalpgakdcfilaaW.PrintLast Go.Proofs.YtgalpgakdcfilaaW.PrintMore
attribute [local go_sem] max2_int min2_int max_two min_two max_three min_three max_four min_four   -- for this text's walks alone
set_option linter.unusedVariables false
set_option linter.unusedSimpArgs false
set_option maxHeartbeats 8000000
set_option maxRecDepth 100000

mutual
def spec_BookOk.j0 : Nat → Bool → List (S101) → Int → Int → Int → List Int → Bool → List (S71) → List Int → List Int → Option (Bool)
  | 0, _, _, _, _, _, _, _, _, _, _ => none
  | k + 1, x38, x257000, x257001, x257002, x257003, x257004, x257005, x257006, x257007, x257008 => if x38 = true then (some false) else (spec_BookOk.l0 k (x257000.length : Int) 0 x257000 x257001 x257002 x257003 x257004 x257005 x257006 x257007 x257008)
def spec_BookOk.l0 : Nat → Int → Int → List (S101) → Int → Int → Int → List Int → Bool → List (S71) → List Int → List Int → Option (Bool)
  | 0, _, _, _, _, _, _, _, _, _, _, _ => none
  | k + 1, x41, x42, x257000, x257001, x257002, x257003, x257004, x257005, x257006, x257007, x257008 => if x42 < x41 then (if 0 ≤ x42 then (if x42 < (x257007.length : Int) then ((spec_l01In.f (rd x257007 x42) 0 1000).bind fun t261 => (if t261 = true then (if x42 < (x257008.length : Int) then ((spec_l01In.f (rd x257008 x42) 0 1000).bind fun t263 => (if t263 = true then (spec_BookOk.l0 k x41 (wrap64 (x42 + 1)) x257000 x257001 x257002 x257003 x257004 x257005 x257006 x257007 x257008) else (some false))) else (none)) else (some false))) else (none)) else (none)) else (some true)
end
def spec_BookOk.f (k : Nat) (l0_0 : List (S101)) (a0_1 : Int) (a0_2 : Int) (a0_3 : Int) (l0_4 : List Int) (a0_5 : Bool) (l0_6 : List (S71)) (l0_7 : List Int) (l0_8 : List Int) : Option (Bool) := (spec_FieldOk.f k l0_0).bind fun t257 => (if t257 = true then ((spec_RulesOk.f k a0_1 a0_2 a0_3 l0_4 a0_5).bind fun t258 => (if t258 = true then ((spec_SeasonOk.f k (l0_0.length : Int) l0_6).bind fun t259 => (if t259 = true then (if (l0_7.length : Int) = (l0_0.length : Int) then (spec_BookOk.j0 k ((l0_8.length : Int) != (l0_0.length : Int)) l0_0 a0_1 a0_2 a0_3 l0_4 a0_5 l0_6 l0_7 l0_8) else (spec_BookOk.j0 k true l0_0 a0_1 a0_2 a0_3 l0_4 a0_5 l0_6 l0_7 l0_8)) else (spec_BookOk.j0 k true l0_0 a0_1 a0_2 a0_3 l0_4 a0_5 l0_6 l0_7 l0_8))) else (spec_BookOk.j0 k true l0_0 a0_1 a0_2 a0_3 l0_4 a0_5 l0_6 l0_7 l0_8))) else (spec_BookOk.j0 k true l0_0 a0_1 a0_2 a0_3 l0_4 a0_5 l0_6 l0_7 l0_8))
theorem spec_BookOk.calls (k : Nat) (A0_0 : Option Addr) (c0_0 : Nat) (l0_0 : List (S101)) (a0_1 : Int) (a0_2 : Int) (a0_3 : Int) (A0_4 : Option Addr) (c0_4 : Nat) (l0_4 : List Int) (a0_5 : Bool) (A0_6 : Option Addr) (c0_6 : Nat) (l0_6 : List (S71)) (A0_7 : Option Addr) (c0_7 : Nat) (l0_7 : List Int) (A0_8 : Option Addr) (c0_8 : Nat) (l0_8 : List Int) (r : Bool) (w : World) (hr0_0 : Kd.C k101 w A0_0 l0_0.length l0_0) (hc0_0 : l0_0.length ≤ c0_0) (hr0_4 : Kd.C (Kd.int .i64) w A0_4 l0_4.length l0_4) (hc0_4 : l0_4.length ≤ c0_4) (hr0_6 : Kd.C k71 w A0_6 l0_6.length l0_6) (hc0_6 : l0_6.length ≤ c0_6) (hr0_7 : Kd.C (Kd.int .i64) w A0_7 l0_7.length l0_7) (hc0_7 : l0_7.length ≤ c0_7) (hr0_8 : Kd.C (Kd.int .i64) w A0_8 l0_8.length l0_8) (hc0_8 : l0_8.length ≤ c0_8) (h : spec_BookOk.f k l0_0 a0_1 a0_2 a0_3 l0_4 a0_5 l0_6 l0_7 l0_8 = some r) : Calls Try.prog 49 #[.agg #[.slice A0_0 l0_0.length c0_0, .int .i64 a0_1, .int .i64 a0_2, .int .i64 a0_3, .slice A0_4 l0_4.length c0_4, .bool a0_5, .slice A0_6 l0_6.length c0_6, .slice A0_7 l0_7.length c0_7, .slice A0_8 l0_8.length c0_8]] w fun e w' => e = .returned (.bool r) ∧ Below w.heap.size w w' := by
 have hu37 := Try.underlying37
 have hu34 := Try.underlying34
 have HR0_0 := am hr0_0
 have HC0_0 := am hc0_0
 clear hr0_0 hc0_0
 have HR0_4 := am hr0_4
 have HC0_4 := am hc0_4
 clear hr0_4 hc0_4
 have HR0_6 := am hr0_6
 have HC0_6 := am hc0_6
 clear hr0_6 hc0_6
 have HR0_7 := am hr0_7
 have HC0_7 := am hc0_7
 clear hr0_7 hc0_7
 have HR0_8 := am hr0_8
 have HC0_8 := am hc0_8
 clear hr0_8 hc0_8
 have HB := am (Below.refl w.heap.size w)
 have H : ((spec_FieldOk.f k l0_0).bind fun t257 => (if t257 = true then ((spec_RulesOk.f k a0_1 a0_2 a0_3 l0_4 a0_5).bind fun t258 => (if t258 = true then ((spec_SeasonOk.f k (l0_0.length : Int) l0_6).bind fun t259 => (if t259 = true then (if (l0_7.length : Int) = (l0_0.length : Int) then (spec_BookOk.j0 k ((l0_8.length : Int) != (l0_0.length : Int)) l0_0 a0_1 a0_2 a0_3 l0_4 a0_5 l0_6 l0_7 l0_8) else (spec_BookOk.j0 k true l0_0 a0_1 a0_2 a0_3 l0_4 a0_5 l0_6 l0_7 l0_8)) else (spec_BookOk.j0 k true l0_0 a0_1 a0_2 a0_3 l0_4 a0_5 l0_6 l0_7 l0_8))) else (spec_BookOk.j0 k true l0_0 a0_1 a0_2 a0_3 l0_4 a0_5 l0_6 l0_7 l0_8))) else (spec_BookOk.j0 k true l0_0 a0_1 a0_2 a0_3 l0_4 a0_5 l0_6 l0_7 l0_8))) = some r := h
 clear h
 have HC2 := am H
 clear H
 go_enter Try.func49, Try.ntmps49
 go_upto_region 2 with (first | ((with_reducible refine gd 1 ?_); refine bx w 1 #[.slice A0_0 l0_0.length c0_0, .int .i64 a0_1, .int .i64 a0_2, .int .i64 a0_3, .slice A0_4 l0_4.length c0_4, .bool a0_5, .slice A0_6 l0_6.length c0_6, .slice A0_7 l0_7.length c0_7, .slice A0_8 l0_8.length c0_8] 37 ?_; clear HB; intro gb256 w3 BK256 GE256 HB; obtain ⟨hcz4_0, hcz4_1, hcz4_2, hcz4_3, hcz4_4, hcz4_5, hcz4_6, hcz4_7, hcz4_8, hfz4_0, hfz4_1, hfz4_2, hfz4_3, hfz4_4, hfz4_5, hfz4_6, hfz4_7, hfz4_8⟩ := cf9 BK256.out))
 (try simp only [Act.put, List.setIfInBounds_toArray, List.set_cons_zero, List.set_cons_succ])
 go_cut [38] (fun v38 wc => ∃ (kq : Nat) (x38_1 : Bool), v38 = .bool x38_1 ∧ Aside0 (spec_BookOk.j0 kq x38_1 l0_0 a0_1 a0_2 a0_3 l0_4 a0_5 l0_6 l0_7 l0_8 = some r) ∧ Aside0 (kq ≤ k) ∧ Aside0 (wc.heap[gb256]? = some (.cells #[(.slice A0_0 l0_0.length c0_0), .int .i64 a0_1, .int .i64 a0_2, .int .i64 a0_3, (.slice A0_4 l0_4.length c0_4), .bool a0_5, (.slice A0_6 l0_6.length c0_6), (.slice A0_7 l0_7.length c0_7), (.slice A0_8 l0_8.length c0_8)] 37 (0, 0))) ∧ Aside0 (Below w.heap.size w wc))
 case first =>
  have H := HC2.out
  clear HC2
  replace H := bm H; obtain ⟨t257, A5, H⟩ := H
  replace H := ib H; obtain ⟨rfl, H⟩ | ⟨rfl, H⟩ := H
  ·replace H := bm H; obtain ⟨t258, A7, H⟩ := H
   replace H := ib H; obtain ⟨rfl, H⟩ | ⟨rfl, H⟩ := H
   ·replace H := bm H; obtain ⟨t259, A9, H⟩ := H
    replace H := ib H; obtain ⟨rfl, H⟩ | ⟨rfl, H⟩ := H
    ·by_cases c11 : (l0_7.length : Int) = (l0_0.length : Int)
     ·rw [if_pos c11] at H
      have c11b0 : ((l0_7.length : Int) == (l0_0.length : Int)) = true := beq_iff_eq.mpr c11
      have c11b1 : ((l0_7.length : Int) != (l0_0.length : Int)) = false := bne_eq_false_iff_eq.mpr c11
      have c11b2 : (l0_7.length == l0_0.length) = true := by first | simpa using c11 | (simp at c11 ⊢; omega)
      clear c11
      (first | rw [c11b0] | (simp only [i64_w, i32_w]; rw [c11b0]) | skip)
      have H' := am H
      clear H
      obtain ⟨_, _, _, _, _, _, _, _, _, _, _, _, _, _, _, _, _, _⟩ := cf9 BK256.out
      go_wp2_with (first | ((with_reducible refine gc 91 ?_); refine gl2 10 Try.func91 (spec_FieldOk.calls k _ _ l0_0 true _ (cb HR0_0 HB) HC0_0.out A5.out) ?_; intro w13 hb; replace BK256 := b1 BK256 hb; replace HB := b2 hb; clear hb; obtain ⟨_, _, _, _, _, _, _, _, _, _, _, _, _, _, _, _, _, _⟩ := cf9 BK256.out) | (go_at_call 92; refine cm2 (spec_RulesOk.calls k a0_1 a0_2 a0_3 _ _ l0_4 a0_5 true _ (cb HR0_4 HB) HC0_4.out A7.out) ?_; intro w15 hb; replace BK256 := b1 BK256 hb; replace HB := b2 hb; clear hb; obtain ⟨_, _, _, _, _, _, _, _, _, _, _, _, _, _, _, _, _, _⟩ := cf9 BK256.out) | (go_at_call 93; refine cm2 (spec_SeasonOk.calls k (l0_0.length : Int) _ _ l0_6 true _ (cb HR0_6 HB) HC0_6.out A9.out) ?_; intro w17 hb; replace BK256 := b1 BK256 hb; replace HB := b2 hb; clear hb; obtain ⟨_, _, _, _, _, _, _, _, _, _, _, _, _, _, _, _, _, _⟩ := cf9 BK256.out))
      go_meet
      case rel => exact ⟨_, (((l0_8.length : Int) != (l0_0.length : Int))), (es), H', ⟨by first | omega | exact Nat.le_refl _⟩, ⟨bk BK256.out⟩, ⟨bel⟩⟩
     ·rw [if_neg c11] at H
      have c11b0 : ((l0_7.length : Int) == (l0_0.length : Int)) = false := beq_eq_false_iff_ne.mpr c11
      have c11b1 : ((l0_7.length : Int) != (l0_0.length : Int)) = true := bne_iff_ne.mpr c11
      have c11b2 : (l0_7.length == l0_0.length) = false := by first | simpa using c11 | (simp at c11 ⊢; omega)
      (first | rw [c11b0] | (simp only [i64_w, i32_w]; rw [c11b0]) | skip)
      have H' := am H
      clear H
      obtain ⟨_, _, _, _, _, _, _, _, _, _, _, _, _, _, _, _, _, _⟩ := cf9 BK256.out
      go_wp2_with (first | ((with_reducible refine gc 91 ?_); refine gl2 10 Try.func91 (spec_FieldOk.calls k _ _ l0_0 true _ (cb HR0_0 HB) HC0_0.out A5.out) ?_; intro w20 hb; replace BK256 := b1 BK256 hb; replace HB := b2 hb; clear hb; obtain ⟨_, _, _, _, _, _, _, _, _, _, _, _, _, _, _, _, _, _⟩ := cf9 BK256.out) | (go_at_call 92; refine cm2 (spec_RulesOk.calls k a0_1 a0_2 a0_3 _ _ l0_4 a0_5 true _ (cb HR0_4 HB) HC0_4.out A7.out) ?_; intro w22 hb; replace BK256 := b1 BK256 hb; replace HB := b2 hb; clear hb; obtain ⟨_, _, _, _, _, _, _, _, _, _, _, _, _, _, _, _, _, _⟩ := cf9 BK256.out) | (go_at_call 93; refine cm2 (spec_SeasonOk.calls k (l0_0.length : Int) _ _ l0_6 true _ (cb HR0_6 HB) HC0_6.out A9.out) ?_; intro w24 hb; replace BK256 := b1 BK256 hb; replace HB := b2 hb; clear hb; obtain ⟨_, _, _, _, _, _, _, _, _, _, _, _, _, _, _, _, _, _⟩ := cf9 BK256.out))
      go_meet
      case rel => exact ⟨_, (true), (es), H', ⟨by first | omega | exact Nat.le_refl _⟩, ⟨bk BK256.out⟩, ⟨bel⟩⟩
    ·have H' := am H
     clear H
     obtain ⟨_, _, _, _, _, _, _, _, _, _, _, _, _, _, _, _, _, _⟩ := cf9 BK256.out
     go_wp2_with (first | ((with_reducible refine gc 91 ?_); refine gl2 10 Try.func91 (spec_FieldOk.calls k _ _ l0_0 true _ (cb HR0_0 HB) HC0_0.out A5.out) ?_; intro w27 hb; replace BK256 := b1 BK256 hb; replace HB := b2 hb; clear hb; obtain ⟨_, _, _, _, _, _, _, _, _, _, _, _, _, _, _, _, _, _⟩ := cf9 BK256.out) | (go_at_call 92; refine cm2 (spec_RulesOk.calls k a0_1 a0_2 a0_3 _ _ l0_4 a0_5 true _ (cb HR0_4 HB) HC0_4.out A7.out) ?_; intro w29 hb; replace BK256 := b1 BK256 hb; replace HB := b2 hb; clear hb; obtain ⟨_, _, _, _, _, _, _, _, _, _, _, _, _, _, _, _, _, _⟩ := cf9 BK256.out) | (go_at_call 93; refine cm2 (spec_SeasonOk.calls k (l0_0.length : Int) _ _ l0_6 false _ (cb HR0_6 HB) HC0_6.out A9.out) ?_; intro w31 hb; replace BK256 := b1 BK256 hb; replace HB := b2 hb; clear hb))
     go_meet
     case rel => exact ⟨_, (true), (es), H', ⟨by first | omega | exact Nat.le_refl _⟩, ⟨bk BK256.out⟩, ⟨bel⟩⟩
   ·have H' := am H
    clear H
    obtain ⟨_, _, _, _, _, _, _, _, _, _, _, _, _, _, _, _, _, _⟩ := cf9 BK256.out
    go_wp2_with (first | ((with_reducible refine gc 91 ?_); refine gl2 10 Try.func91 (spec_FieldOk.calls k _ _ l0_0 true _ (cb HR0_0 HB) HC0_0.out A5.out) ?_; intro w33 hb; replace BK256 := b1 BK256 hb; replace HB := b2 hb; clear hb; obtain ⟨_, _, _, _, _, _, _, _, _, _, _, _, _, _, _, _, _, _⟩ := cf9 BK256.out) | (go_at_call 92; refine cm2 (spec_RulesOk.calls k a0_1 a0_2 a0_3 _ _ l0_4 a0_5 false _ (cb HR0_4 HB) HC0_4.out A7.out) ?_; intro w35 hb; replace BK256 := b1 BK256 hb; replace HB := b2 hb; clear hb))
    go_meet
    case rel => exact ⟨_, (true), (es), H', ⟨by first | omega | exact Nat.le_refl _⟩, ⟨bk BK256.out⟩, ⟨bel⟩⟩
  ·have H' := am H
   clear H
   obtain ⟨_, _, _, _, _, _, _, _, _, _, _, _, _, _, _, _, _, _⟩ := cf9 BK256.out
   go_wp2_with (first | ((with_reducible refine gc 91 ?_); refine gl2 10 Try.func91 (spec_FieldOk.calls k _ _ l0_0 false _ (cb HR0_0 HB) HC0_0.out A5.out) ?_; intro w37 hb; replace BK256 := b1 BK256 hb; replace HB := b2 hb; clear hb))
   go_meet
   case rel => exact ⟨_, (true), (es), H', ⟨by first | omega | exact Nat.le_refl _⟩, ⟨bk BK256.out⟩, ⟨bel⟩⟩
 case rest =>
  clear HC2
  try clear hcz4_0; try clear hcz4_1; try clear hcz4_2; try clear hcz4_3; try clear hcz4_4; try clear hcz4_5; try clear hcz4_6; try clear hcz4_7; try clear hcz4_8; try clear hfz4_0; try clear hfz4_1; try clear hfz4_2; try clear hfz4_3; try clear hfz4_4; try clear hfz4_5; try clear hfz4_6; try clear hfz4_7; try clear hfz4_8
  obtain ⟨kq, x38_1, rfl, HA, HJ1, BK256, HB⟩ := hcut
  cases kq with
  | zero => exact absurd HA.out (by simp [spec_BookOk.j0])
  | succ kj1 =>
   have H := HA.out
   clear HA
   simp only [spec_BookOk.j0] at H
   replace H := ib H; obtain ⟨rfl, H⟩ | ⟨rfl, H⟩ := H
   ·obtain rfl := Option.some.inj H
    go_wp2
    go_ret
    exact ⟨er, bel⟩
   ·have H' := am H
    clear H
    obtain ⟨hcz39_0, hcz39_1, hcz39_2, hcz39_3, hcz39_4, hcz39_5, hcz39_6, hcz39_7, hcz39_8, hfz39_0, hfz39_1, hfz39_2, hfz39_3, hfz39_4, hfz39_5, hfz39_6, hfz39_7, hfz39_8⟩ := cf9 BK256.out
    go_wp2
    go_loopg [42] kj1 (fun kq v42 w' => ∃ (x42_2 : Int), v42 = .int .i64 x42_2 ∧ Aside0 (spec_BookOk.l0 kq (l0_0.length : Int) x42_2 l0_0 a0_1 a0_2 a0_3 l0_4 a0_5 l0_6 l0_7 l0_8 = some r) ∧ Aside0 (kq ≤ kj1) ∧ Aside0 (w'.heap[gb256]? = some (.cells #[(.slice A0_0 l0_0.length c0_0), .int .i64 a0_1, .int .i64 a0_2, .int .i64 a0_3, (.slice A0_4 l0_4.length c0_4), .bool a0_5, (.slice A0_6 l0_6.length c0_6), (.slice A0_7 l0_7.length c0_7), (.slice A0_8 l0_8.length c0_8)] 37 (0, 0))) ∧ Aside0 (Below w.heap.size w w'))
    case atStart => exact ⟨(0), (es), H', ⟨Nat.le_refl _⟩, ⟨bk BK256.out⟩, ⟨bel⟩⟩
    case round =>
     clear H'
     try clear c38; try clear hcz39_0; try clear hcz39_1; try clear hcz39_2; try clear hcz39_3; try clear hcz39_4; try clear hcz39_5; try clear hcz39_6; try clear hcz39_7; try clear hcz39_8; try clear hcz4_0; try clear hcz4_1; try clear hcz4_2; try clear hcz4_3; try clear hcz4_4; try clear hcz4_5; try clear hcz4_6; try clear hcz4_7; try clear hcz4_8; try clear hfz39_0; try clear hfz39_1; try clear hfz39_2; try clear hfz39_3; try clear hfz39_4; try clear hfz39_5; try clear hfz39_6; try clear hfz39_7; try clear hfz39_8; try clear hfz4_0; try clear hfz4_1; try clear hfz4_2; try clear hfz4_3; try clear hfz4_4; try clear hfz4_5; try clear hfz4_6; try clear hfz4_7; try clear hfz4_8
     obtain ⟨x42_2, rfl, HA, HK2, BK256, HB⟩ := hrel
     cases gk with
     | zero => exact absurd HA.out (by simp [spec_BookOk.l0])
     | succ k2 =>
      have H := HA.out
      clear HA
      simp only [spec_BookOk.l0] at H
      replace H := i1 H; obtain ⟨c40b0, H⟩ | ⟨c40b0, H⟩ := H
      ·replace H := i0 H; obtain ⟨c41b0, H⟩ := H
       replace H := i0 H; obtain ⟨c42b0, H⟩ := H
       replace H := bm H; obtain ⟨t261, A43, H⟩ := H
       replace H := ib H; obtain ⟨rfl, H⟩ | ⟨rfl, H⟩ := H
       ·replace H := i0 H; obtain ⟨c45b0, H⟩ := H
        replace H := bm H; obtain ⟨t263, A46, H⟩ := H
        replace H := ib H; obtain ⟨rfl, H⟩ | ⟨rfl, H⟩ := H
        ·have H' := am H
         clear H
         obtain ⟨_, _, _, _, _, _, _, _, _, _, _, _, _, _, _, _, _, _⟩ := cf9 BK256.out
         have p260 : 0 ≤ (x42_2 : Int) := asm
         have q260 : x42_2 < (l0_7.length : Int) := asm
         obtain ⟨ad260, e260, hx260_0⟩ := hc1 HB.out (Kd.at_int HR0_7.out x42_2 p260 q260)
         cases e260
         replace p260 := eq_true p260
         replace q260 := eq_true q260
         go_wp2_with (first | ((with_reducible refine gc 50 ?_); refine gl1 50 Try.func50 (spec_l01In.calls (rd l0_7 x42_2) 0 1000 true _ A43.out) ?_; intro nd; have p262 : 0 ≤ (x42_2 : Int) := asm; have q262 : x42_2 < (l0_8.length : Int) := asm; obtain ⟨ad262, e262, hx262_0⟩ := Kd.at_int HR0_8.out x42_2 p262 q262; cases e262; replace hx262_0 := hcl HB.out hx262_0; replace p262 := eq_true p262; replace q262 := eq_true q262) | (go_at_call 50; refine cm1 (spec_l01In.calls (rd l0_8 x42_2) 0 1000 true _ A46.out) ?_; intro nd))
         go_roundg k2
         case measure => have := HJ1.out; have := HK2.out; omega
         case rel => exact ⟨(wrap64 (x42_2 + 1)), (es), H', ⟨by have := HJ1.out; have := HK2.out; omega⟩, ⟨bk BK256.out⟩, ⟨bel⟩⟩
        ·obtain rfl := Option.some.inj H
         obtain ⟨_, _, _, _, _, _, _, _, _, _, _, _, _, _, _, _, _, _⟩ := cf9 BK256.out
         have p260 : 0 ≤ (x42_2 : Int) := asm
         have q260 : x42_2 < (l0_7.length : Int) := asm
         obtain ⟨ad260, e260, hx260_0⟩ := hc1 HB.out (Kd.at_int HR0_7.out x42_2 p260 q260)
         cases e260
         replace p260 := eq_true p260
         replace q260 := eq_true q260
         go_wp2_with (first | ((with_reducible refine gc 50 ?_); refine gl1 50 Try.func50 (spec_l01In.calls (rd l0_7 x42_2) 0 1000 true _ A43.out) ?_; intro nd; have p262 : 0 ≤ (x42_2 : Int) := asm; have q262 : x42_2 < (l0_8.length : Int) := asm; obtain ⟨ad262, e262, hx262_0⟩ := Kd.at_int HR0_8.out x42_2 p262 q262; cases e262; replace hx262_0 := hcl HB.out hx262_0; replace p262 := eq_true p262; replace q262 := eq_true q262) | (go_at_call 50; refine cm1 (spec_l01In.calls (rd l0_8 x42_2) 0 1000 false _ A46.out) ?_; intro nd))
         go_ret
         exact ⟨er, bel⟩
       ·obtain rfl := Option.some.inj H
        obtain ⟨_, _, _, _, _, _, _, _, _, _, _, _, _, _, _, _, _, _⟩ := cf9 BK256.out
        have p260 : 0 ≤ (x42_2 : Int) := asm
        have q260 : x42_2 < (l0_7.length : Int) := asm
        obtain ⟨ad260, e260, hx260_0⟩ := hc1 HB.out (Kd.at_int HR0_7.out x42_2 p260 q260)
        cases e260
        replace p260 := eq_true p260
        replace q260 := eq_true q260
        go_wp2_with (first | ((with_reducible refine gc 50 ?_); refine gl1 50 Try.func50 (spec_l01In.calls (rd l0_7 x42_2) 0 1000 false _ A43.out) ?_; intro nd))
        go_ret
        exact ⟨er, bel⟩
      ·obtain rfl := Option.some.inj H
       go_wp2
       go_ret
       exact ⟨er, bel⟩
def spec_IsSimple.f (k : Nat) (a0_0 : Int) (a0_1 : Int) (a0_2 : Int) (l0_3 : List Int) (a0_4 : Bool) : Option (Bool) := (spec_RulesOk.f k a0_0 a0_1 a0_2 l0_3 a0_4).bind fun t265 => (if t265 = true then (if a0_0 = 2 then (if a0_1 = 1 then (some (a0_2 == 0)) else (some false)) else (some false)) else (some false))
theorem spec_IsSimple.calls (k : Nat) (a0_0 : Int) (a0_1 : Int) (a0_2 : Int) (A0_3 : Option Addr) (c0_3 : Nat) (l0_3 : List Int) (a0_4 : Bool) (r : Bool) (w : World) (hr0_3 : Kd.C (Kd.int .i64) w A0_3 l0_3.length l0_3) (hc0_3 : l0_3.length ≤ c0_3) (h : spec_IsSimple.f k a0_0 a0_1 a0_2 l0_3 a0_4 = some r) : Calls Try.prog 107 #[.agg #[.int .i64 a0_0, .int .i64 a0_1, .int .i64 a0_2, .slice A0_3 l0_3.length c0_3, .bool a0_4]] w fun e w' => e = .returned (.bool r) ∧ Below w.heap.size w w' := by
 have hu34 := Try.underlying34
 have HR0_3 := am hr0_3
 have HC0_3 := am hc0_3
 clear hr0_3 hc0_3
 have HB := am (Below.refl w.heap.size w)
 have H : ((spec_RulesOk.f k a0_0 a0_1 a0_2 l0_3 a0_4).bind fun t265 => (if t265 = true then (if a0_0 = 2 then (if a0_1 = 1 then (some (a0_2 == 0)) else (some false)) else (some false)) else (some false))) = some r := h
 clear h
 replace H := bm H; obtain ⟨t265, A2, H⟩ := H
 replace H := ib H; obtain ⟨rfl, H⟩ | ⟨rfl, H⟩ := H
 ·replace H := ie H; obtain ⟨c4b0, c4b1, H⟩ | ⟨⟨c4, c4b0, c4b1⟩, H⟩ := H
  ·replace H := ie H; obtain ⟨c5b0, c5b1, H⟩ | ⟨⟨c5, c5b0, c5b1⟩, H⟩ := H
   ·obtain rfl := Option.some.inj H
    go_enter Try.func107, Try.ntmps107
    go_wp2_with (first | ((with_reducible refine gd 1 ?_); refine bx w 1 #[.int .i64 a0_0, .int .i64 a0_1, .int .i64 a0_2, .slice A0_3 l0_3.length c0_3, .bool a0_4] 34 ?_; clear HB; intro gb264 w6 BK264 GE264 HB; obtain ⟨_, _, _, _, _, _, _, _, _, _⟩ := cf5 BK264.out) | ((with_reducible refine gc 92 ?_); refine gl2 4 Try.func92 (spec_RulesOk.calls k a0_0 a0_1 a0_2 _ _ l0_3 a0_4 true _ (cb HR0_3 HB) HC0_3.out A2.out) ?_; intro w8 hb; replace BK264 := b1 BK264 hb; replace HB := b2 hb; clear hb; obtain ⟨_, _, _, _, _, _, _, _, _, _⟩ := cf5 BK264.out))
    go_ret
    exact ⟨er, bel⟩
   ·obtain rfl := Option.some.inj H
    go_enter Try.func107, Try.ntmps107
    go_wp2_with (first | ((with_reducible refine gd 1 ?_); refine bx w 1 #[.int .i64 a0_0, .int .i64 a0_1, .int .i64 a0_2, .slice A0_3 l0_3.length c0_3, .bool a0_4] 34 ?_; clear HB; intro gb264 w10 BK264 GE264 HB; obtain ⟨_, _, _, _, _, _, _, _, _, _⟩ := cf5 BK264.out) | ((with_reducible refine gc 92 ?_); refine gl2 4 Try.func92 (spec_RulesOk.calls k a0_0 a0_1 a0_2 _ _ l0_3 a0_4 true _ (cb HR0_3 HB) HC0_3.out A2.out) ?_; intro w12 hb; replace BK264 := b1 BK264 hb; replace HB := b2 hb; clear hb; obtain ⟨_, _, _, _, _, _, _, _, _, _⟩ := cf5 BK264.out))
    go_ret
    exact ⟨er, bel⟩
  ·obtain rfl := Option.some.inj H
   go_enter Try.func107, Try.ntmps107
   go_wp2_with (first | ((with_reducible refine gd 1 ?_); refine bx w 1 #[.int .i64 a0_0, .int .i64 a0_1, .int .i64 a0_2, .slice A0_3 l0_3.length c0_3, .bool a0_4] 34 ?_; clear HB; intro gb264 w14 BK264 GE264 HB; obtain ⟨_, _, _, _, _, _, _, _, _, _⟩ := cf5 BK264.out) | ((with_reducible refine gc 92 ?_); refine gl2 4 Try.func92 (spec_RulesOk.calls k a0_0 a0_1 a0_2 _ _ l0_3 a0_4 true _ (cb HR0_3 HB) HC0_3.out A2.out) ?_; intro w16 hb; replace BK264 := b1 BK264 hb; replace HB := b2 hb; clear hb; obtain ⟨_, _, _, _, _, _, _, _, _, _⟩ := cf5 BK264.out))
   go_ret
   exact ⟨er, bel⟩
 ·obtain rfl := Option.some.inj H
  go_enter Try.func107, Try.ntmps107
  go_wp2_with (first | ((with_reducible refine gd 1 ?_); refine bx w 1 #[.int .i64 a0_0, .int .i64 a0_1, .int .i64 a0_2, .slice A0_3 l0_3.length c0_3, .bool a0_4] 34 ?_; clear HB; intro gb264 w18 BK264 GE264 HB; obtain ⟨_, _, _, _, _, _, _, _, _, _⟩ := cf5 BK264.out) | ((with_reducible refine gc 92 ?_); refine gl2 4 Try.func92 (spec_RulesOk.calls k a0_0 a0_1 a0_2 _ _ l0_3 a0_4 false _ (cb HR0_3 HB) HC0_3.out A2.out) ?_; intro w20 hb; replace BK264 := b1 BK264 hb; replace HB := b2 hb; clear hb))
  go_ret
  exact ⟨er, bel⟩
def spec_l18Ok.f (k : Nat) (l0_0 : List (S101)) (a0_1 : Int) (a0_2 : Int) (a0_3 : Int) (l0_4 : List Int) (a0_5 : Bool) (l0_6 : List (S71)) (l0_7 : List Int) (l0_8 : List Int) (a1 : Int) : Option (Bool) := (spec_BookOk.f k l0_0 a0_1 a0_2 a0_3 l0_4 a0_5 l0_6 l0_7 l0_8).bind fun t267 => (if t267 = true then ((spec_IsSimple.f k a0_1 a0_2 a0_3 l0_4 a0_5).bind fun t268 => (if t268 = true then ((spec_l01In.f a1 0 (wrap64 ((l0_0.length : Int) - 1))).bind fun t269 => (some t269)) else (some false))) else (some false))
theorem spec_l18Ok.calls (k : Nat) (A0_0 : Option Addr) (c0_0 : Nat) (l0_0 : List (S101)) (a0_1 : Int) (a0_2 : Int) (a0_3 : Int) (A0_4 : Option Addr) (c0_4 : Nat) (l0_4 : List Int) (a0_5 : Bool) (A0_6 : Option Addr) (c0_6 : Nat) (l0_6 : List (S71)) (A0_7 : Option Addr) (c0_7 : Nat) (l0_7 : List Int) (A0_8 : Option Addr) (c0_8 : Nat) (l0_8 : List Int) (a1 : Int) (r : Bool) (w : World) (hr0_0 : Kd.C k101 w A0_0 l0_0.length l0_0) (hc0_0 : l0_0.length ≤ c0_0) (hr0_4 : Kd.C (Kd.int .i64) w A0_4 l0_4.length l0_4) (hc0_4 : l0_4.length ≤ c0_4) (hr0_6 : Kd.C k71 w A0_6 l0_6.length l0_6) (hc0_6 : l0_6.length ≤ c0_6) (hr0_7 : Kd.C (Kd.int .i64) w A0_7 l0_7.length l0_7) (hc0_7 : l0_7.length ≤ c0_7) (hr0_8 : Kd.C (Kd.int .i64) w A0_8 l0_8.length l0_8) (hc0_8 : l0_8.length ≤ c0_8) (h : spec_l18Ok.f k l0_0 a0_1 a0_2 a0_3 l0_4 a0_5 l0_6 l0_7 l0_8 a1 = some r) : Calls Try.prog 76 #[.agg #[.slice A0_0 l0_0.length c0_0, .int .i64 a0_1, .int .i64 a0_2, .int .i64 a0_3, .slice A0_4 l0_4.length c0_4, .bool a0_5, .slice A0_6 l0_6.length c0_6, .slice A0_7 l0_7.length c0_7, .slice A0_8 l0_8.length c0_8], .int .i64 a1] w fun e w' => e = .returned (.bool r) ∧ Below w.heap.size w w' := by
 have hu37 := Try.underlying37
 have hu34 := Try.underlying34
 have HR0_0 := am hr0_0
 have HC0_0 := am hc0_0
 clear hr0_0 hc0_0
 have HR0_4 := am hr0_4
 have HC0_4 := am hc0_4
 clear hr0_4 hc0_4
 have HR0_6 := am hr0_6
 have HC0_6 := am hc0_6
 clear hr0_6 hc0_6
 have HR0_7 := am hr0_7
 have HC0_7 := am hc0_7
 clear hr0_7 hc0_7
 have HR0_8 := am hr0_8
 have HC0_8 := am hc0_8
 clear hr0_8 hc0_8
 have HB := am (Below.refl w.heap.size w)
 have H : ((spec_BookOk.f k l0_0 a0_1 a0_2 a0_3 l0_4 a0_5 l0_6 l0_7 l0_8).bind fun t267 => (if t267 = true then ((spec_IsSimple.f k a0_1 a0_2 a0_3 l0_4 a0_5).bind fun t268 => (if t268 = true then ((spec_l01In.f a1 0 (wrap64 ((l0_0.length : Int) - 1))).bind fun t269 => (some t269)) else (some false))) else (some false))) = some r := h
 clear h
 replace H := bm H; obtain ⟨t267, A3, H⟩ := H
 replace H := ib H; obtain ⟨rfl, H⟩ | ⟨rfl, H⟩ := H
 ·replace H := bm H; obtain ⟨t268, A5, H⟩ := H
  replace H := ib H; obtain ⟨rfl, H⟩ | ⟨rfl, H⟩ := H
  ·replace H := bm H; obtain ⟨t269, A7, H⟩ := H
   obtain rfl := Option.some.inj H
   go_enter Try.func76, Try.ntmps76
   go_wp2_with (first | ((with_reducible refine gd 2 ?_); refine bx w 2 #[.slice A0_0 l0_0.length c0_0, .int .i64 a0_1, .int .i64 a0_2, .int .i64 a0_3, .slice A0_4 l0_4.length c0_4, .bool a0_5, .slice A0_6 l0_6.length c0_6, .slice A0_7 l0_7.length c0_7, .slice A0_8 l0_8.length c0_8] 37 ?_; clear HB; intro gb266 w8 BK266 GE266 HB; obtain ⟨_, _, _, _, _, _, _, _, _, _, _, _, _, _, _, _, _, _⟩ := cf9 BK266.out) | ((with_reducible refine gc 49 ?_); refine gl2 6 Try.func49 (spec_BookOk.calls k _ _ l0_0 a0_1 a0_2 a0_3 _ _ l0_4 a0_5 _ _ l0_6 _ _ l0_7 _ _ l0_8 true _ (cb HR0_0 HB) HC0_0.out (cb HR0_4 HB) HC0_4.out (cb HR0_6 HB) HC0_6.out (cb HR0_7 HB) HC0_7.out (cb HR0_8 HB) HC0_8.out A3.out) ?_; intro w10 hb; replace BK266 := b1 BK266 hb; replace HB := b2 hb; clear hb; obtain ⟨_, _, _, _, _, _, _, _, _, _, _, _, _, _, _, _, _, _⟩ := cf9 BK266.out) | (go_at_call 107; refine cm2 (spec_IsSimple.calls k a0_1 a0_2 a0_3 _ _ l0_4 a0_5 true _ (cb HR0_4 HB) HC0_4.out A5.out) ?_; intro w12 hb; replace BK266 := b1 BK266 hb; replace HB := b2 hb; clear hb; obtain ⟨_, _, _, _, _, _, _, _, _, _, _, _, _, _, _, _, _, _⟩ := cf9 BK266.out) | (go_at_call 50; refine cm1 (spec_l01In.calls a1 0 (wrap64 ((l0_0.length : Int) - 1)) t269 _ A7.out) ?_; intro nd))
   go_ret
   exact ⟨er, bel⟩
  ·obtain rfl := Option.some.inj H
   go_enter Try.func76, Try.ntmps76
   go_wp2_with (first | ((with_reducible refine gd 2 ?_); refine bx w 2 #[.slice A0_0 l0_0.length c0_0, .int .i64 a0_1, .int .i64 a0_2, .int .i64 a0_3, .slice A0_4 l0_4.length c0_4, .bool a0_5, .slice A0_6 l0_6.length c0_6, .slice A0_7 l0_7.length c0_7, .slice A0_8 l0_8.length c0_8] 37 ?_; clear HB; intro gb266 w14 BK266 GE266 HB; obtain ⟨_, _, _, _, _, _, _, _, _, _, _, _, _, _, _, _, _, _⟩ := cf9 BK266.out) | ((with_reducible refine gc 49 ?_); refine gl2 6 Try.func49 (spec_BookOk.calls k _ _ l0_0 a0_1 a0_2 a0_3 _ _ l0_4 a0_5 _ _ l0_6 _ _ l0_7 _ _ l0_8 true _ (cb HR0_0 HB) HC0_0.out (cb HR0_4 HB) HC0_4.out (cb HR0_6 HB) HC0_6.out (cb HR0_7 HB) HC0_7.out (cb HR0_8 HB) HC0_8.out A3.out) ?_; intro w16 hb; replace BK266 := b1 BK266 hb; replace HB := b2 hb; clear hb; obtain ⟨_, _, _, _, _, _, _, _, _, _, _, _, _, _, _, _, _, _⟩ := cf9 BK266.out) | (go_at_call 107; refine cm2 (spec_IsSimple.calls k a0_1 a0_2 a0_3 _ _ l0_4 a0_5 false _ (cb HR0_4 HB) HC0_4.out A5.out) ?_; intro w18 hb; replace BK266 := b1 BK266 hb; replace HB := b2 hb; clear hb))
   go_ret
   exact ⟨er, bel⟩
 ·obtain rfl := Option.some.inj H
  go_enter Try.func76, Try.ntmps76
  go_wp2_with (first | ((with_reducible refine gd 2 ?_); refine bx w 2 #[.slice A0_0 l0_0.length c0_0, .int .i64 a0_1, .int .i64 a0_2, .int .i64 a0_3, .slice A0_4 l0_4.length c0_4, .bool a0_5, .slice A0_6 l0_6.length c0_6, .slice A0_7 l0_7.length c0_7, .slice A0_8 l0_8.length c0_8] 37 ?_; clear HB; intro gb266 w19 BK266 GE266 HB; obtain ⟨_, _, _, _, _, _, _, _, _, _, _, _, _, _, _, _, _, _⟩ := cf9 BK266.out) | ((with_reducible refine gc 49 ?_); refine gl2 6 Try.func49 (spec_BookOk.calls k _ _ l0_0 a0_1 a0_2 a0_3 _ _ l0_4 a0_5 _ _ l0_6 _ _ l0_7 _ _ l0_8 false _ (cb HR0_0 HB) HC0_0.out (cb HR0_4 HB) HC0_4.out (cb HR0_6 HB) HC0_6.out (cb HR0_7 HB) HC0_7.out (cb HR0_8 HB) HC0_8.out A3.out) ?_; intro w21 hb; replace BK266 := b1 BK266 hb; replace HB := b2 hb; clear hb))
  go_ret
  exact ⟨er, bel⟩
def spec_IsOpen.f (a0_0 : Int) (a0_1 : Int) (a0_2 : Int) (a0_3 : Int) (a0_4 : Int) : Option (Bool) := some (a0_4 == 0)
theorem spec_IsOpen.calls (a0_0 : Int) (a0_1 : Int) (a0_2 : Int) (a0_3 : Int) (a0_4 : Int) (r : Bool) (w : World) (h : spec_IsOpen.f a0_0 a0_1 a0_2 a0_3 a0_4 = some r) : Calls Try.prog 61 #[.agg #[.int .i64 a0_0, .int .i64 a0_1, .int .i64 a0_2, .int .i64 a0_3, .int .i64 a0_4]] w fun e w' => e = .returned (.bool r) ∧ Below w.heap.size w w' := by
 have hu71 := Try.underlying71
 have HB := am (Below.refl w.heap.size w)
 have H : (some (a0_4 == 0)) = some r := h
 clear h
 obtain rfl := Option.some.inj H
 go_enter Try.func61, Try.ntmps61
 go_wp2_with (first | ((with_reducible refine gd 1 ?_); refine bx w 1 #[.int .i64 a0_0, .int .i64 a0_1, .int .i64 a0_2, .int .i64 a0_3, .int .i64 a0_4] 71 ?_; clear HB; intro gb270 w2 BK270 GE270 HB; obtain ⟨_, _, _, _, _, _, _, _, _, _⟩ := cf5 BK270.out))
 go_ret
 exact ⟨er, bel⟩
def spec_GoalsOf.f (a0_0 : Int) (a0_1 : Int) (a0_2 : Int) (a0_3 : Int) (a0_4 : Int) : Option (Int × Int × Bool) := if a0_4 = 1 then (some (a0_2, a0_3, true)) else (if a0_4 = 2 then (some (3, 0, true)) else (if a0_4 = 3 then (some (0, 3, true)) else (some (0, 0, false))))
theorem spec_GoalsOf.calls (a0_0 : Int) (a0_1 : Int) (a0_2 : Int) (a0_3 : Int) (a0_4 : Int) (r1 : Int) (r2 : Int) (r3 : Bool) (w : World) (h : spec_GoalsOf.f a0_0 a0_1 a0_2 a0_3 a0_4 = some (r1, r2, r3)) : Calls Try.prog 149 #[.agg #[.int .i64 a0_0, .int .i64 a0_1, .int .i64 a0_2, .int .i64 a0_3, .int .i64 a0_4]] w fun e w' => e = .returned (.tuple #[.int .i64 r1, .int .i64 r2, .bool r3]) ∧ Below w.heap.size w w' := by
 have hu71 := Try.underlying71
 have HB := am (Below.refl w.heap.size w)
 have H : (if a0_4 = 1 then (some (a0_2, a0_3, true)) else (if a0_4 = 2 then (some (3, 0, true)) else (if a0_4 = 3 then (some (0, 3, true)) else (some (0, 0, false))))) = some (r1, r2, r3) := h
 clear h
 replace H := ie H; obtain ⟨c2b0, c2b1, H⟩ | ⟨⟨c2, c2b0, c2b1⟩, H⟩ := H
 ·simp only [Option.some.injEq, Prod.mk.injEq] at H
  obtain ⟨rfl, rfl, rfl⟩ := H
  go_enter Try.func149, Try.ntmps149
  go_wp2_with (first | ((with_reducible refine gd 1 ?_); refine bx w 1 #[.int .i64 a0_0, .int .i64 a0_1, .int .i64 a0_2, .int .i64 a0_3, .int .i64 a0_4] 71 ?_; clear HB; intro gb271 w3 BK271 GE271 HB; obtain ⟨hcz4_0, hcz4_1, hcz4_2, hcz4_3, hcz4_4, hfz4_0, hfz4_1, hfz4_2, hfz4_3, hfz4_4⟩ := cf5 BK271.out))
  repeat (go_quiet (first | ((with_reducible refine gd 1 ?_); refine bx w 1 #[.int .i64 a0_0, .int .i64 a0_1, .int .i64 a0_2, .int .i64 a0_3, .int .i64 a0_4] 71 ?_; clear HB; intro gb271 w3 BK271 GE271 HB; obtain ⟨hcz4_0, hcz4_1, hcz4_2, hcz4_3, hcz4_4, hfz4_0, hfz4_1, hfz4_2, hfz4_3, hfz4_4⟩ := cf5 BK271.out)); try go_wp2_with (first | ((with_reducible refine gate_dst (N := 1) rfl ?_); refine box_event ?hg (N := 1) ?hd (cs := #[.int .i64 a0_0, .int .i64 a0_1, .int .i64 a0_2, .int .i64 a0_3, .int .i64 a0_4]) (t := 71) ?hr ?_; (case hd => rfl); (case hg => rfl); (case hr => first | (go_simp; done) | (go_simp; rfl)); intro gb271 hg w3 hbox hb; have BK271 := am (hbox); have GE271 := am (bsz hg : w.heap.size ≤ gb271); have GE271 := am ((bsz hg : w.heap.size ≤ gb271)); replace HB := b2 hb; clear hb hbox hg; obtain ⟨hcz4_0, hcz4_1, hcz4_2, hcz4_3, hcz4_4, hfz4_0, hfz4_1, hfz4_2, hfz4_3, hfz4_4⟩ := cf5 BK271.out)))
  go_ret3
  exact ⟨er, bel⟩
 ·replace H := ie H; obtain ⟨c5b0, c5b1, H⟩ | ⟨⟨c5, c5b0, c5b1⟩, H⟩ := H
  ·simp only [Option.some.injEq, Prod.mk.injEq] at H
   obtain ⟨rfl, rfl, rfl⟩ := H
   go_enter Try.func149, Try.ntmps149
   go_wp2_with (first | ((with_reducible refine gd 1 ?_); refine bx w 1 #[.int .i64 a0_0, .int .i64 a0_1, .int .i64 a0_2, .int .i64 a0_3, .int .i64 a0_4] 71 ?_; clear HB; intro gb271 w6 BK271 GE271 HB; obtain ⟨hcz7_0, hcz7_1, hcz7_2, hcz7_3, hcz7_4, hfz7_0, hfz7_1, hfz7_2, hfz7_3, hfz7_4⟩ := cf5 BK271.out))
   repeat (go_quiet (first | ((with_reducible refine gd 1 ?_); refine bx w 1 #[.int .i64 a0_0, .int .i64 a0_1, .int .i64 a0_2, .int .i64 a0_3, .int .i64 a0_4] 71 ?_; clear HB; intro gb271 w6 BK271 GE271 HB; obtain ⟨hcz7_0, hcz7_1, hcz7_2, hcz7_3, hcz7_4, hfz7_0, hfz7_1, hfz7_2, hfz7_3, hfz7_4⟩ := cf5 BK271.out)); try go_wp2_with (first | ((with_reducible refine gate_dst (N := 1) rfl ?_); refine box_event ?hg (N := 1) ?hd (cs := #[.int .i64 a0_0, .int .i64 a0_1, .int .i64 a0_2, .int .i64 a0_3, .int .i64 a0_4]) (t := 71) ?hr ?_; (case hd => rfl); (case hg => rfl); (case hr => first | (go_simp; done) | (go_simp; rfl)); intro gb271 hg w6 hbox hb; have BK271 := am (hbox); have GE271 := am (bsz hg : w.heap.size ≤ gb271); have GE271 := am ((bsz hg : w.heap.size ≤ gb271)); replace HB := b2 hb; clear hb hbox hg; obtain ⟨hcz7_0, hcz7_1, hcz7_2, hcz7_3, hcz7_4, hfz7_0, hfz7_1, hfz7_2, hfz7_3, hfz7_4⟩ := cf5 BK271.out)))
   go_ret3
   exact ⟨er, bel⟩
  ·replace H := ie H; obtain ⟨c8b0, c8b1, H⟩ | ⟨⟨c8, c8b0, c8b1⟩, H⟩ := H
   ·simp only [Option.some.injEq, Prod.mk.injEq] at H
    obtain ⟨rfl, rfl, rfl⟩ := H
    go_enter Try.func149, Try.ntmps149
    go_wp2_with (first | ((with_reducible refine gd 1 ?_); refine bx w 1 #[.int .i64 a0_0, .int .i64 a0_1, .int .i64 a0_2, .int .i64 a0_3, .int .i64 a0_4] 71 ?_; clear HB; intro gb271 w9 BK271 GE271 HB; obtain ⟨hcz10_0, hcz10_1, hcz10_2, hcz10_3, hcz10_4, hfz10_0, hfz10_1, hfz10_2, hfz10_3, hfz10_4⟩ := cf5 BK271.out))
    repeat (go_quiet (first | ((with_reducible refine gd 1 ?_); refine bx w 1 #[.int .i64 a0_0, .int .i64 a0_1, .int .i64 a0_2, .int .i64 a0_3, .int .i64 a0_4] 71 ?_; clear HB; intro gb271 w9 BK271 GE271 HB; obtain ⟨hcz10_0, hcz10_1, hcz10_2, hcz10_3, hcz10_4, hfz10_0, hfz10_1, hfz10_2, hfz10_3, hfz10_4⟩ := cf5 BK271.out)); try go_wp2_with (first | ((with_reducible refine gate_dst (N := 1) rfl ?_); refine box_event ?hg (N := 1) ?hd (cs := #[.int .i64 a0_0, .int .i64 a0_1, .int .i64 a0_2, .int .i64 a0_3, .int .i64 a0_4]) (t := 71) ?hr ?_; (case hd => rfl); (case hg => rfl); (case hr => first | (go_simp; done) | (go_simp; rfl)); intro gb271 hg w9 hbox hb; have BK271 := am (hbox); have GE271 := am (bsz hg : w.heap.size ≤ gb271); have GE271 := am ((bsz hg : w.heap.size ≤ gb271)); replace HB := b2 hb; clear hb hbox hg; obtain ⟨hcz10_0, hcz10_1, hcz10_2, hcz10_3, hcz10_4, hfz10_0, hfz10_1, hfz10_2, hfz10_3, hfz10_4⟩ := cf5 BK271.out)))
    go_ret3
    exact ⟨er, bel⟩
   ·simp only [Option.some.injEq, Prod.mk.injEq] at H
    obtain ⟨rfl, rfl, rfl⟩ := H
    go_enter Try.func149, Try.ntmps149
    go_wp2_with (first | ((with_reducible refine gd 1 ?_); refine bx w 1 #[.int .i64 a0_0, .int .i64 a0_1, .int .i64 a0_2, .int .i64 a0_3, .int .i64 a0_4] 71 ?_; clear HB; intro gb271 w11 BK271 GE271 HB; obtain ⟨hcz12_0, hcz12_1, hcz12_2, hcz12_3, hcz12_4, hfz12_0, hfz12_1, hfz12_2, hfz12_3, hfz12_4⟩ := cf5 BK271.out))
    repeat (go_quiet (first | ((with_reducible refine gd 1 ?_); refine bx w 1 #[.int .i64 a0_0, .int .i64 a0_1, .int .i64 a0_2, .int .i64 a0_3, .int .i64 a0_4] 71 ?_; clear HB; intro gb271 w11 BK271 GE271 HB; obtain ⟨hcz12_0, hcz12_1, hcz12_2, hcz12_3, hcz12_4, hfz12_0, hfz12_1, hfz12_2, hfz12_3, hfz12_4⟩ := cf5 BK271.out)); try go_wp2_with (first | ((with_reducible refine gate_dst (N := 1) rfl ?_); refine box_event ?hg (N := 1) ?hd (cs := #[.int .i64 a0_0, .int .i64 a0_1, .int .i64 a0_2, .int .i64 a0_3, .int .i64 a0_4]) (t := 71) ?hr ?_; (case hd => rfl); (case hg => rfl); (case hr => first | (go_simp; done) | (go_simp; rfl)); intro gb271 hg w11 hbox hb; have BK271 := am (hbox); have GE271 := am (bsz hg : w.heap.size ≤ gb271); have GE271 := am ((bsz hg : w.heap.size ≤ gb271)); replace HB := b2 hb; clear hb hbox hg; obtain ⟨hcz12_0, hcz12_1, hcz12_2, hcz12_3, hcz12_4, hfz12_0, hfz12_1, hfz12_2, hfz12_3, hfz12_4⟩ := cf5 BK271.out)))
    go_ret3
    exact ⟨er, bel⟩
def spec_OutcomeOf.f (a0_0 : Int) (a0_1 : Int) (a0_2 : Int) (a0_3 : Int) (a0_4 : Int) : Option (Int) := (spec_GoalsOf.f a0_0 a0_1 a0_2 a0_3 a0_4).bind fun bt273 => (if bt273.2.2 = true then (if bt273.1 > bt273.2.1 then (some 1) else (if bt273.1 = bt273.2.1 then (some 2) else (some 3))) else (some 0))
theorem spec_OutcomeOf.calls (a0_0 : Int) (a0_1 : Int) (a0_2 : Int) (a0_3 : Int) (a0_4 : Int) (r : Int) (w : World) (h : spec_OutcomeOf.f a0_0 a0_1 a0_2 a0_3 a0_4 = some r) : Calls Try.prog 150 #[.agg #[.int .i64 a0_0, .int .i64 a0_1, .int .i64 a0_2, .int .i64 a0_3, .int .i64 a0_4]] w fun e w' => e = .returned (.int .i64 r) ∧ Below w.heap.size w w' := by
 have hu71 := Try.underlying71
 have HB := am (Below.refl w.heap.size w)
 have H : ((spec_GoalsOf.f a0_0 a0_1 a0_2 a0_3 a0_4).bind fun bt273 => (if bt273.2.2 = true then (if bt273.1 > bt273.2.1 then (some 1) else (if bt273.1 = bt273.2.1 then (some 2) else (some 3))) else (some 0))) = some r := h
 clear h
 replace H := Option.bind_eq_some_iff.mp H
 obtain ⟨⟨t273, t274, t275⟩, A20, H⟩ := H
 replace H : (if t275 = true then (if t273 > t274 then (some 1) else (if t273 = t274 then (some 2) else (some 3))) else (some 0)) = some r := H
 have A2 := am A20
 clear A20
 replace H := ib H; obtain ⟨rfl, H⟩ | ⟨rfl, H⟩ := H
 ·replace H := i1 H; obtain ⟨c4b0, H⟩ | ⟨c4b0, H⟩ := H
  ·obtain rfl := Option.some.inj H
   go_enter Try.func150, Try.ntmps150
   go_wp2_with (first | ((with_reducible refine gd 1 ?_); refine bx w 1 #[.int .i64 a0_0, .int .i64 a0_1, .int .i64 a0_2, .int .i64 a0_3, .int .i64 a0_4] 71 ?_; clear HB; intro gb272 w5 BK272 GE272 HB; obtain ⟨_, _, _, _, _, _, _, _, _, _⟩ := cf5 BK272.out) | ((with_reducible refine gc 149 ?_); refine gl2 8 Try.func149 (spec_GoalsOf.calls a0_0 a0_1 a0_2 a0_3 a0_4 t273 t274 true _ A2.out) ?_; intro w7 hb; replace BK272 := b1 BK272 hb; replace HB := b2 hb; clear hb))
   go_ret
   exact ⟨er, bel⟩
  ·replace H := ie H; obtain ⟨c8b0, c8b1, H⟩ | ⟨⟨c8, c8b0, c8b1⟩, H⟩ := H
   ·obtain rfl := Option.some.inj H
    go_enter Try.func150, Try.ntmps150
    go_wp2_with (first | ((with_reducible refine gd 1 ?_); refine bx w 1 #[.int .i64 a0_0, .int .i64 a0_1, .int .i64 a0_2, .int .i64 a0_3, .int .i64 a0_4] 71 ?_; clear HB; intro gb272 w9 BK272 GE272 HB; obtain ⟨_, _, _, _, _, _, _, _, _, _⟩ := cf5 BK272.out) | ((with_reducible refine gc 149 ?_); refine gl2 8 Try.func149 (spec_GoalsOf.calls a0_0 a0_1 a0_2 a0_3 a0_4 t273 t274 true _ A2.out) ?_; intro w11 hb; replace BK272 := b1 BK272 hb; replace HB := b2 hb; clear hb))
    go_ret
    exact ⟨er, bel⟩
   ·obtain rfl := Option.some.inj H
    go_enter Try.func150, Try.ntmps150
    go_wp2_with (first | ((with_reducible refine gd 1 ?_); refine bx w 1 #[.int .i64 a0_0, .int .i64 a0_1, .int .i64 a0_2, .int .i64 a0_3, .int .i64 a0_4] 71 ?_; clear HB; intro gb272 w12 BK272 GE272 HB; obtain ⟨_, _, _, _, _, _, _, _, _, _⟩ := cf5 BK272.out) | ((with_reducible refine gc 149 ?_); refine gl2 8 Try.func149 (spec_GoalsOf.calls a0_0 a0_1 a0_2 a0_3 a0_4 t273 t274 true _ A2.out) ?_; intro w14 hb; replace BK272 := b1 BK272 hb; replace HB := b2 hb; clear hb))
    go_ret
    exact ⟨er, bel⟩
 ·obtain rfl := Option.some.inj H
  go_enter Try.func150, Try.ntmps150
  go_wp2_with (first | ((with_reducible refine gd 1 ?_); refine bx w 1 #[.int .i64 a0_0, .int .i64 a0_1, .int .i64 a0_2, .int .i64 a0_3, .int .i64 a0_4] 71 ?_; clear HB; intro gb272 w15 BK272 GE272 HB; obtain ⟨_, _, _, _, _, _, _, _, _, _⟩ := cf5 BK272.out) | ((with_reducible refine gc 149 ?_); refine gl2 8 Try.func149 (spec_GoalsOf.calls a0_0 a0_1 a0_2 a0_3 a0_4 t273 t274 false _ A2.out) ?_; intro w17 hb; replace BK272 := b1 BK272 hb; replace HB := b2 hb; clear hb))
  go_ret
  exact ⟨er, bel⟩
def spec_AddRows.f (a0_0 : Int) (a0_1 : Int) (a0_2 : Int) (a0_3 : Int) (a0_4 : Int) (a0_5 : Int) (a0_6 : Int) (a1_0 : Int) (a1_1 : Int) (a1_2 : Int) (a1_3 : Int) (a1_4 : Int) (a1_5 : Int) (a1_6 : Int) : Option (Int × Int × Int × Int × Int × Int × Int) := some (wrap64 (a0_0 + a1_0), wrap64 (a0_1 + a1_1), wrap64 (a0_2 + a1_2), wrap64 (a0_3 + a1_3), wrap64 (a0_4 + a1_4), wrap64 (a0_5 + a1_5), wrap64 (a0_6 + a1_6))
theorem spec_AddRows.calls (a0_0 : Int) (a0_1 : Int) (a0_2 : Int) (a0_3 : Int) (a0_4 : Int) (a0_5 : Int) (a0_6 : Int) (a1_0 : Int) (a1_1 : Int) (a1_2 : Int) (a1_3 : Int) (a1_4 : Int) (a1_5 : Int) (a1_6 : Int) (r1 : Int) (r2 : Int) (r3 : Int) (r4 : Int) (r5 : Int) (r6 : Int) (r7 : Int) (w : World) (h : spec_AddRows.f a0_0 a0_1 a0_2 a0_3 a0_4 a0_5 a0_6 a1_0 a1_1 a1_2 a1_3 a1_4 a1_5 a1_6 = some (r1, r2, r3, r4, r5, r6, r7)) : Calls Try.prog 151 #[.agg #[.int .i64 a0_0, .int .i64 a0_1, .int .i64 a0_2, .int .i64 a0_3, .int .i64 a0_4, .int .i64 a0_5, .int .i64 a0_6], .agg #[.int .i64 a1_0, .int .i64 a1_1, .int .i64 a1_2, .int .i64 a1_3, .int .i64 a1_4, .int .i64 a1_5, .int .i64 a1_6]] w fun e w' => e = .returned (.agg #[.int .i64 r1, .int .i64 r2, .int .i64 r3, .int .i64 r4, .int .i64 r5, .int .i64 r6, .int .i64 r7]) ∧ Below w.heap.size w w' := by
 have hu129 := Try.underlying129
 have HB := am (Below.refl w.heap.size w)
 have H : (some (wrap64 (a0_0 + a1_0), wrap64 (a0_1 + a1_1), wrap64 (a0_2 + a1_2), wrap64 (a0_3 + a1_3), wrap64 (a0_4 + a1_4), wrap64 (a0_5 + a1_5), wrap64 (a0_6 + a1_6))) = some (r1, r2, r3, r4, r5, r6, r7) := h
 clear h
 simp only [Option.some.injEq, Prod.mk.injEq] at H
 obtain ⟨rfl, rfl, rfl, rfl, rfl, rfl, rfl⟩ := H
 go_enter Try.func151, Try.ntmps151
 go_wp2_with (first | ((with_reducible refine gd 2 ?_); refine bx w 2 #[.int .i64 a0_0, .int .i64 a0_1, .int .i64 a0_2, .int .i64 a0_3, .int .i64 a0_4, .int .i64 a0_5, .int .i64 a0_6] 129 ?_; clear HB; intro gb276 w3 BK276 GE276 HB) | ((with_reducible refine gd 3 ?_); refine by_ w 3 #[.int .i64 a1_0, .int .i64 a1_1, .int .i64 a1_2, .int .i64 a1_3, .int .i64 a1_4, .int .i64 a1_5, .int .i64 a1_6] 129 ?_; clear HB; intro gb277 hg w4 BK277 GE277 hb HB; have NB276_277 := am ((nlt hg BK276.out : gb276 ≠ gb277)); have NB277_276 := am ((ngt hg BK276.out : gb277 ≠ gb276)); replace BK276 := b1 BK276 hb; clear hb hg) | ((with_reducible refine gd 4 ?_); refine by_ w 4 #[.int .i64 0, .int .i64 0, .int .i64 0, .int .i64 0, .int .i64 0, .int .i64 0, .int .i64 0] 129 ?_; clear HB; intro gb278 hg w5 BK278 GE278 hb HB; have NB276_278 := am ((nlt hg BK276.out : gb276 ≠ gb278)); have NB278_276 := am ((ngt hg BK276.out : gb278 ≠ gb276)); have NB277_278 := am ((nlt hg BK277.out : gb277 ≠ gb278)); have NB278_277 := am ((ngt hg BK277.out : gb278 ≠ gb277)); replace BK276 := b1 BK276 hb; replace BK277 := b1 BK277 hb; clear hb hg; have hnb6 := NB276_277.out; have hnc6 := NB277_276.out; have hnb7 := NB276_278.out; have hnc7 := NB278_276.out; obtain ⟨_, _, _, _, _, _, _, _, _, _, _, _, _, _⟩ := cf7 BK276.out; have hnb9 := NB277_278.out; have hnc9 := NB278_277.out; obtain ⟨_, _, _, _, _, _, _, _, _, _, _, _, _, _⟩ := cf7 BK277.out; obtain ⟨_, _, _, _, _, _, _, _, _, _, _, _, _, _⟩ := cf7 BK278.out))
 refine bodyPost_ret (results_cell_row rfl _ _ gb278 129 #[.int .i64 (wrap64 (a0_0 + a1_0)), .int .i64 (wrap64 (a0_1 + a1_1)), .int .i64 (wrap64 (a0_2 + a1_2)), .int .i64 (wrap64 (a0_3 + a1_3)), .int .i64 (wrap64 (a0_4 + a1_4)), .int .i64 (wrap64 (a0_5 + a1_5)), .int .i64 (wrap64 (a0_6 + a1_6))] (0, 0) _ rfl (bz BK278) Try.underlying129 rfl (by kernel_rfl)) rfl ?_
 exact ⟨er, bel⟩
end Go.Proofs.Ytgalpgakdcfilaa.Q
