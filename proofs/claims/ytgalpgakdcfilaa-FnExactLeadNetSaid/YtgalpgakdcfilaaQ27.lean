-- Written by a program of this session (wip/xp.py).
import Derived.Test.YtgalpgakdcfilaaQ0
import Derived.Test.YtgalpgakdcfilaaQ20
import Derived.Test.YtgalpgakdcfilaaQ24
import Derived.Test.YtgalpgakdcfilaaQ11
namespace Go.Proofs.Ytgalpgakdcfilaa.Q
open Go.RowKit Go.Proofs.YtgalpgakdcfilaaW.PrintWords Go.Proofs.YtgalpgakdcfilaaW.PrintLast Go.Proofs.YtgalpgakdcfilaaW.PrintMore
attribute [local go_sem] max2_int min2_int max_two min_two max_three min_three max_four min_four   -- for this text's walks alone
set_option linter.unusedVariables false
set_option linter.unusedSimpArgs false
set_option maxHeartbeats 8000000
set_option maxRecDepth 100000

mutual
def spec_l18Net.l0 : Nat → Int → List Int → Int → List (S71) → Int → Int → Int → List (S112) → Option (Int × (List (S112)) × Int)
  | 0, _, _, _, _, _, _, _, _ => none
  | k + 1, x1, x6, x7, x24, x25, x26, x397000, x397001 => if x26 < x25 then (if 0 ≤ x26 then (if x26 < (x24.length : Int) then ((spec_IsOpen.f ((rd_T71 x24 x26).f0) ((rd_T71 x24 x26).f1) ((rd_T71 x24 x26).f2) ((rd_T71 x24 x26).f3) ((rd_T71 x24 x26).f4)).bind fun t399 => (if t399 = true then (if ((rd_T71 x24 x26).f0) = x1 then (spec_l18Net.l0 k x1 x6 x7 x24 x25 (wrap64 (x26 + 1)) x397000 x397001) else (if ((rd_T71 x24 x26).f1) = x1 then (spec_l18Net.l0 k x1 x6 x7 x24 x25 (wrap64 (x26 + 1)) x397000 x397001) else ((some (([(⟨0, x397000, 2⟩ : S112), (⟨x397000, wrap64 (2 + ((rd_T71 x24 x26).f0)), 2⟩ : S112), (⟨x397000, wrap64 (2 + ((rd_T71 x24 x26).f1)), 2⟩ : S112)] : List (S112)) : List (S112))).bind fun y400 => (if x397001.length + y400.length < 5864062014805 then (spec_l18Net.l0 k x1 x6 x7 x24 x25 (wrap64 (x26 + 1)) (wrap64 (x397000 + 1)) (x397001 ++ y400)) else (none))))) else (spec_l18Net.l0 k x1 x6 x7 x24 x25 (wrap64 (x26 + 1)) x397000 x397001))) else (none)) else (none)) else (spec_l18Net.l1 k x1 x7 x6 (x6.length : Int) 0 x397000 x397001)
def spec_l18Net.l1 : Nat → Int → Int → List Int → Int → Int → Int → List (S112) → Option (Int × (List (S112)) × Int)
  | 0, _, _, _, _, _, _, _ => none
  | k + 1, x1, x7, x70, x71, x72, x397000, x397001 => if x72 < x71 then (if 0 ≤ x72 then (if x72 < (x70.length : Int) then (if x72 = x1 then (spec_l18Net.l1 k x1 x7 x70 x71 (wrap64 (x72 + 1)) x397000 x397001) else (if (rd x70 x72) > x7 then (some (0, ([] : List (S112)), x72)) else (if x397001.length < 5864062014805 then (spec_l18Net.l1 k x1 x7 x70 x71 (wrap64 (x72 + 1)) x397000 (x397001 ++ [(⟨wrap64 (2 + x72), 1, wrap64 (x7 - (rd x70 x72))⟩ : S112)])) else (none)))) else (none)) else (none)) else (some (x397000, x397001, (-1)))
end
def spec_l18Net.f (k : Nat) (l0_0 : List (S101)) (a0_1 : Int) (a0_2 : Int) (a0_3 : Int) (l0_4 : List Int) (a0_5 : Bool) (l0_6 : List (S71)) (l0_7 : List Int) (l0_8 : List Int) (a1 : Int) : Option (Int × (List (S112)) × Int) := (spec_l18Points.f k l0_0 a0_1 a0_2 a0_3 l0_4 a0_5 l0_6 l0_7 l0_8).bind fun t392 => ((spec_l18Best.f k l0_0 a0_1 a0_2 a0_3 l0_4 a0_5 l0_6 l0_7 l0_8 a1).bind fun t395 => (spec_l18Net.l0 k a1 t392 t395 l0_6 (l0_6.length : Int) 0 (wrap64 (2 + (l0_0.length : Int))) ([] : List (S112))))
theorem spec_l18Net.calls (k : Nat) (A0_0 : Option Addr) (c0_0 : Nat) (l0_0 : List (S101)) (a0_1 : Int) (a0_2 : Int) (a0_3 : Int) (A0_4 : Option Addr) (c0_4 : Nat) (l0_4 : List Int) (a0_5 : Bool) (A0_6 : Option Addr) (c0_6 : Nat) (l0_6 : List (S71)) (A0_7 : Option Addr) (c0_7 : Nat) (l0_7 : List Int) (A0_8 : Option Addr) (c0_8 : Nat) (l0_8 : List Int) (a1 : Int) (r1 : Int) (r2 : List (S112)) (r3 : Int) (w : World) (hr0_0 : Kd.C k101 w A0_0 l0_0.length l0_0) (hc0_0 : l0_0.length ≤ c0_0) (hr0_4 : Kd.C (Kd.int .i64) w A0_4 l0_4.length l0_4) (hc0_4 : l0_4.length ≤ c0_4) (hr0_6 : Kd.C k71 w A0_6 l0_6.length l0_6) (hc0_6 : l0_6.length ≤ c0_6) (hr0_7 : Kd.C (Kd.int .i64) w A0_7 l0_7.length l0_7) (hc0_7 : l0_7.length ≤ c0_7) (hr0_8 : Kd.C (Kd.int .i64) w A0_8 l0_8.length l0_8) (hc0_8 : l0_8.length ≤ c0_8) (h : spec_l18Net.f k l0_0 a0_1 a0_2 a0_3 l0_4 a0_5 l0_6 l0_7 l0_8 a1 = some (r1, r2, r3)) : Calls Try.prog 80 #[.agg #[.slice A0_0 l0_0.length c0_0, .int .i64 a0_1, .int .i64 a0_2, .int .i64 a0_3, .slice A0_4 l0_4.length c0_4, .bool a0_5, .slice A0_6 l0_6.length c0_6, .slice A0_7 l0_7.length c0_7, .slice A0_8 l0_8.length c0_8], .int .i64 a1] w fun e w' => ∃ v1_ : Value, e = .returned (.tuple #[.agg #[.int .i64 r1, v1_], .int .i64 r3]) ∧ Kd.R k112 112 w' w.heap.size (fun _ => True) v1_ r2 ∧ Below w.heap.size w w' := by
 have hu37 := Try.underlying37
 have hu58 := Try.underlying58
 have hu71 := Try.underlying71
 have hu112 := Try.underlying112
 have HR0_0 := am hr0_0
 have HC0_0 := am hc0_0
 clear hr0_0 hc0_0
 have HR0_4 := am hr0_4
 have HC0_4 := am hc0_4
 clear hr0_4 hc0_4
 have HR0_6 := am hr0_6
 have HC0_6 := am hc0_6
 clear hr0_6 hc0_6
 have HR0_7 := am hr0_7
 have HC0_7 := am hc0_7
 clear hr0_7 hc0_7
 have HR0_8 := am hr0_8
 have HC0_8 := am hc0_8
 clear hr0_8 hc0_8
 have HB := am (Below.refl w.heap.size w)
 have H : ((spec_l18Points.f k l0_0 a0_1 a0_2 a0_3 l0_4 a0_5 l0_6 l0_7 l0_8).bind fun t392 => ((spec_l18Best.f k l0_0 a0_1 a0_2 a0_3 l0_4 a0_5 l0_6 l0_7 l0_8 a1).bind fun t395 => (spec_l18Net.l0 k a1 t392 t395 l0_6 (l0_6.length : Int) 0 (wrap64 (2 + (l0_0.length : Int))) ([] : List (S112))))) = some (r1, r2, r3) := h
 clear h
 replace H := bm H; obtain ⟨t392, A3, H⟩ := H
 replace H := bm H; obtain ⟨t395, A4, H⟩ := H
 have H' := am H
 clear H
 go_enter Try.func80, Try.ntmps80
 go_wp2_with (first | ((with_reducible refine gd 2 ?_); refine bx w 2 #[.slice A0_0 l0_0.length c0_0, .int .i64 a0_1, .int .i64 a0_2, .int .i64 a0_3, .slice A0_4 l0_4.length c0_4, .bool a0_5, .slice A0_6 l0_6.length c0_6, .slice A0_7 l0_7.length c0_7, .slice A0_8 l0_8.length c0_8] 37 ?_; clear HB; intro gb390 w5 BK390 GE390 HB) | ((with_reducible refine gd 4 ?_); refine by_ w 4 #[.int .i64 0, .slice none 0 0] 58 ?_; clear HB; intro gb391 hg w6 BK391 GE391 hb HB; have NB390_391 := am ((nlt hg BK390.out : gb390 ≠ gb391)); have NB391_390 := am ((ngt hg BK390.out : gb391 ≠ gb390)); replace BK390 := b1 BK390 hb; clear hb hg; have hnb7 := NB390_391.out; have hnc7 := NB391_390.out; obtain ⟨hcz8_0, hcz8_1, hcz8_2, hcz8_3, hcz8_4, hcz8_5, hcz8_6, hcz8_7, hcz8_8, hfz8_0, hfz8_1, hfz8_2, hfz8_3, hfz8_4, hfz8_5, hfz8_6, hfz8_7, hfz8_8⟩ := cf9 BK390.out) | ((with_reducible refine gc 108 ?_); refine gl 14 Try.func108 (spec_l18Points.calls k _ _ l0_0 a0_1 a0_2 a0_3 _ _ l0_4 a0_5 _ _ l0_6 _ _ l0_7 _ _ l0_8 t392 _ (cb HR0_0 HB) HC0_0.out (cb HR0_4 HB) HC0_4.out (cb HR0_6 HB) HC0_6.out (cb HR0_7 HB) HC0_7.out (cb HR0_8 HB) HC0_8.out A3.out) ?_; rintro e w9 ⟨v393, rfl, ho0, hb⟩; refine ⟨_, rfl, ?_⟩; have HO394 := am (Kd.R_lower ho0 (below_size bel)); replace BK390 := b1 BK390 hb; replace BK391 := b1 BK391 hb; replace HB := b2 hb; clear hb; (try clear ho0); obtain ⟨hcz10_0, hcz10_1, hcz10_2, hcz10_3, hcz10_4, hcz10_5, hcz10_6, hcz10_7, hcz10_8, hfz10_0, hfz10_1, hfz10_2, hfz10_3, hfz10_4, hfz10_5, hfz10_6, hfz10_7, hfz10_8⟩ := cf9 BK390.out) | ((with_reducible refine gc 77 ?_); refine gl2 17 Try.func77 (spec_l18Best.calls k _ _ l0_0 a0_1 a0_2 a0_3 _ _ l0_4 a0_5 _ _ l0_6 _ _ l0_7 _ _ l0_8 a1 t395 _ (cb HR0_0 HB) HC0_0.out (cb HR0_4 HB) HC0_4.out (cb HR0_6 HB) HC0_6.out (cb HR0_7 HB) HC0_7.out (cb HR0_8 HB) HC0_8.out A4.out) ?_; intro w11 hb; replace HO394 := am (Kd.R_below (rk HO394.out) hb); replace BK390 := b1 BK390 hb; replace BK391 := b1 BK391 hb; replace HB := b2 hb; clear hb; obtain ⟨hcz12_0, hcz12_1, hcz12_2, hcz12_3, hcz12_4, hcz12_5, hcz12_6, hcz12_7, hcz12_8, hfz12_0, hfz12_1, hfz12_2, hfz12_3, hfz12_4, hfz12_5, hfz12_6, hfz12_7, hfz12_8⟩ := cf9 BK390.out) | ((with_reducible refine gd 8 ?_); refine by_ w 8 #[.int .i64 0, .slice none 0 0] 58 ?_; clear HB; intro gb396 hg w13 BK396 GE396 hb HB; have NB390_396 := am ((nlt hg BK390.out : gb390 ≠ gb396)); have NB396_390 := am ((ngt hg BK390.out : gb396 ≠ gb390)); have NB391_396 := am ((nlt hg BK391.out : gb391 ≠ gb396)); have NB396_391 := am ((ngt hg BK391.out : gb396 ≠ gb391)); replace HO394 := am (Kd.R_below (rk HO394.out) hb); replace BK390 := b1 BK390 hb; replace BK391 := b1 BK391 hb; clear hb hg; have hnb14 := NB396_390.out; have hnc14 := NB390_396.out; have hnb15 := NB396_391.out; have hnc15 := NB391_396.out; obtain ⟨hcz16_0, hcz16_1, hfz16_0, hfz16_1⟩ := cf2 BK396.out; obtain ⟨hcz17_0, hcz17_1, hcz17_2, hcz17_3, hcz17_4, hcz17_5, hcz17_6, hcz17_7, hcz17_8, hfz17_0, hfz17_1, hfz17_2, hfz17_3, hfz17_4, hfz17_5, hfz17_6, hfz17_7, hfz17_8⟩ := cf9 BK390.out))
 go_loopg [26] k (fun kq v26 w' => ∃ (x26_1 : Int) (x397000_1 : Int) (x397001_1 : List (S112)) (u397001 : Value), v26 = .int .i64 x26_1 ∧ Aside0 (spec_l18Net.l0 kq a1 t392 t395 l0_6 (l0_6.length : Int) x26_1 x397000_1 x397001_1 = some (r1, r2, r3)) ∧ Aside0 (kq ≤ k) ∧ Aside0 (Kd.R (Kd.int .i64) 3 w' w.heap.size (fun _ => True) v393 t392) ∧ Aside0 (Kd.R k112 112 w' w.heap.size (fun _ => True) u397001 x397001_1) ∧ Aside0 (w'.heap[gb390]? = some (.cells #[(.slice A0_0 l0_0.length c0_0), .int .i64 a0_1, .int .i64 a0_2, .int .i64 a0_3, (.slice A0_4 l0_4.length c0_4), .bool a0_5, (.slice A0_6 l0_6.length c0_6), (.slice A0_7 l0_7.length c0_7), (.slice A0_8 l0_8.length c0_8)] 37 (0, 0))) ∧ Aside0 (w'.heap[gb391]? = some (.cells #[.int .i64 0, (.slice none 0 0)] 58 (0, 0))) ∧ Aside0 (w'.heap[gb396]? = some (.cells #[.int .i64 x397000_1, u397001] 58 (0, 0))) ∧ Aside0 (Below w.heap.size w w'))
 case atStart => exact ⟨(0), (wrap64 (2 + (l0_0.length : Int))), (([] : List (S112))), (.slice none 0 0), (es), H', ⟨Nat.le_refl _⟩, ⟨(kf (Kd.R_types HO394.out BK396.out (by decide)))⟩, ⟨by first | exact Kd.R_nil _ _ _ _ _ | exact Kd.N_nil _ _ _ _ _ | exact Kd.V_nil _ _ _ _ _ | exact Kd.Q_nil _ _ _ _ _ | exact Kd.S_nil _ _ _ _ _⟩, ⟨bk BK390.out⟩, ⟨bk BK391.out⟩, ⟨(bz BK396)⟩, ⟨bel⟩⟩
 case round =>
  clear H'
  try clear hcz10_0; try clear hcz10_1; try clear hcz10_2; try clear hcz10_3; try clear hcz10_4; try clear hcz10_5; try clear hcz10_6; try clear hcz10_7; try clear hcz10_8; try clear hcz12_0; try clear hcz12_1; try clear hcz12_2; try clear hcz12_3; try clear hcz12_4; try clear hcz12_5; try clear hcz12_6; try clear hcz12_7; try clear hcz12_8; try clear hcz16_0; try clear hcz16_1; try clear hcz17_0; try clear hcz17_1; try clear hcz17_2; try clear hcz17_3; try clear hcz17_4; try clear hcz17_5; try clear hcz17_6; try clear hcz17_7; try clear hcz17_8; try clear hcz8_0; try clear hcz8_1; try clear hcz8_2; try clear hcz8_3; try clear hcz8_4; try clear hcz8_5; try clear hcz8_6; try clear hcz8_7; try clear hcz8_8; try clear hfz10_0; try clear hfz10_1; try clear hfz10_2; try clear hfz10_3; try clear hfz10_4; try clear hfz10_5; try clear hfz10_6; try clear hfz10_7; try clear hfz10_8; try clear hfz12_0; try clear hfz12_1; try clear hfz12_2; try clear hfz12_3; try clear hfz12_4; try clear hfz12_5; try clear hfz12_6; try clear hfz12_7; try clear hfz12_8; try clear hfz16_0; try clear hfz16_1; try clear hfz17_0; try clear hfz17_1; try clear hfz17_2; try clear hfz17_3; try clear hfz17_4; try clear hfz17_5; try clear hfz17_6; try clear hfz17_7; try clear hfz17_8; try clear hfz8_0; try clear hfz8_1; try clear hfz8_2; try clear hfz8_3; try clear hfz8_4; try clear hfz8_5; try clear hfz8_6; try clear hfz8_7; try clear hfz8_8
  obtain ⟨x26_1, x397000_1, x397001_1, u397001, rfl, HA, HK1, HO_6, HO_397001, BK390, BK391, BK396, HB⟩ := hrel
  cases gk with
  | zero => exact absurd HA.out (by simp [spec_l18Net.l0])
  | succ k1 =>
   have H := HA.out
   clear HA
   simp only [spec_l18Net.l0] at H
   replace H := i1 H; obtain ⟨c18b0, H⟩ | ⟨c18b0, H⟩ := H
   ·replace H := i0 H; obtain ⟨c19b0, H⟩ := H
    replace H := i0 H; obtain ⟨c20b0, H⟩ := H
    replace H := bm H; obtain ⟨t399, A21, H⟩ := H
    replace H := ib H; obtain ⟨rfl, H⟩ | ⟨rfl, H⟩ := H
    ·replace H := ie H; obtain ⟨c23b0, c23b1, H⟩ | ⟨⟨c23, c23b0, c23b1⟩, H⟩ := H
     ·have H' := am H
      clear H
      have p397 : 0 ≤ (x26_1 : Int) := asm
      have q397 : x26_1 < (l0_6.length : Int) := asm
      obtain ⟨ad397, e397, hx397_0, hx397_1, hx397_2, hx397_3, hx397_4⟩ := hc5 HB.out (at_T71 HR0_6.out x26_1 p397 q397)
      cases e397
      replace p397 := eq_true p397
      replace q397 := eq_true q397
      go_wp2_with (first | ((with_reducible refine gd 10 ?_); refine by_ w 10 #[.int .i64 0, .int .i64 0, .int .i64 0, .int .i64 0, .int .i64 0] 71 ?_; clear HB; intro gb398 hg w24 BK398 GE398 hb HB; have NB390_398 := am ((nlt hg BK390.out : gb390 ≠ gb398)); have NB398_390 := am ((ngt hg BK390.out : gb398 ≠ gb390)); have NB391_398 := am ((nlt hg BK391.out : gb391 ≠ gb398)); have NB398_391 := am ((ngt hg BK391.out : gb398 ≠ gb391)); have NB396_398 := am ((nlt hg BK396.out : gb396 ≠ gb398)); have NB398_396 := am ((ngt hg BK396.out : gb398 ≠ gb396)); replace HO_6 := am (Kd.R_below (rk HO_6.out) hb); replace HO_397001 := am (Kd.R_below (rk HO_397001.out) hb); replace BK390 := b1 BK390 hb; replace BK391 := b1 BK391 hb; replace BK396 := b1 BK396 hb; clear hb hg; have hnb25 := NB398_390.out; have hnc25 := NB390_398.out; have hnb26 := NB398_391.out; have hnc26 := NB391_398.out; have hnb27 := NB398_396.out; have hnc27 := NB396_398.out; obtain ⟨_, _, _, _, _, _, _, _, _, _⟩ := cf5 BK398.out) | ((with_reducible refine gc 61 ?_); refine gl2 31 Try.func61 (spec_IsOpen.calls ((rd_T71 l0_6 x26_1).f0) ((rd_T71 l0_6 x26_1).f1) ((rd_T71 l0_6 x26_1).f2) ((rd_T71 l0_6 x26_1).f3) ((rd_T71 l0_6 x26_1).f4) true _ A21.out) ?_; intro w29 hb; replace HO_6 := am (Kd.R_below (kf (Kd.R_types HO_6.out BK398.out (by decide))) hb); replace HO_397001 := am (Kd.R_below (kf (Kd.R_types HO_397001.out BK398.out (by decide))) hb); replace BK390 := b1 BK390 hb; replace BK391 := b1 BK391 hb; replace BK396 := b1 BK396 hb; replace BK398 := bq BK398 hb; replace HB := b2 hb; clear hb; obtain ⟨_, _, _, _, _, _, _, _, _, _⟩ := cf5 BK398.out))
      go_roundg k1
      case measure => have := HK1.out; omega
      case rel => exact ⟨(wrap64 (x26_1 + 1)), (x397000_1), (x397001_1), (u397001), (es), H', ⟨by have := HK1.out; omega⟩, ⟨rk HO_6.out⟩, ⟨rk HO_397001.out⟩, ⟨bk BK390.out⟩, ⟨bk BK391.out⟩, ⟨bk BK396.out⟩, ⟨bel⟩⟩
     ·replace H := ie H; obtain ⟨c31b0, c31b1, H⟩ | ⟨⟨c31, c31b0, c31b1⟩, H⟩ := H
      ·have H' := am H
       clear H
       have p397 : 0 ≤ (x26_1 : Int) := asm
       have q397 : x26_1 < (l0_6.length : Int) := asm
       obtain ⟨ad397, e397, hx397_0, hx397_1, hx397_2, hx397_3, hx397_4⟩ := hc5 HB.out (at_T71 HR0_6.out x26_1 p397 q397)
       cases e397
       replace p397 := eq_true p397
       replace q397 := eq_true q397
       go_wp2_with (first | ((with_reducible refine gd 10 ?_); refine by_ w 10 #[.int .i64 0, .int .i64 0, .int .i64 0, .int .i64 0, .int .i64 0] 71 ?_; clear HB; intro gb398 hg w32 BK398 GE398 hb HB; have NB390_398 := am ((nlt hg BK390.out : gb390 ≠ gb398)); have NB398_390 := am ((ngt hg BK390.out : gb398 ≠ gb390)); have NB391_398 := am ((nlt hg BK391.out : gb391 ≠ gb398)); have NB398_391 := am ((ngt hg BK391.out : gb398 ≠ gb391)); have NB396_398 := am ((nlt hg BK396.out : gb396 ≠ gb398)); have NB398_396 := am ((ngt hg BK396.out : gb398 ≠ gb396)); replace HO_6 := am (Kd.R_below (rk HO_6.out) hb); replace HO_397001 := am (Kd.R_below (rk HO_397001.out) hb); replace BK390 := b1 BK390 hb; replace BK391 := b1 BK391 hb; replace BK396 := b1 BK396 hb; clear hb hg; have hnb33 := NB398_390.out; have hnc33 := NB390_398.out; have hnb34 := NB398_391.out; have hnc34 := NB391_398.out; have hnb35 := NB398_396.out; have hnc35 := NB396_398.out; obtain ⟨_, _, _, _, _, _, _, _, _, _⟩ := cf5 BK398.out) | ((with_reducible refine gc 61 ?_); refine gl2 31 Try.func61 (spec_IsOpen.calls ((rd_T71 l0_6 x26_1).f0) ((rd_T71 l0_6 x26_1).f1) ((rd_T71 l0_6 x26_1).f2) ((rd_T71 l0_6 x26_1).f3) ((rd_T71 l0_6 x26_1).f4) true _ A21.out) ?_; intro w37 hb; replace HO_6 := am (Kd.R_below (kf (Kd.R_types HO_6.out BK398.out (by decide))) hb); replace HO_397001 := am (Kd.R_below (kf (Kd.R_types HO_397001.out BK398.out (by decide))) hb); replace BK390 := b1 BK390 hb; replace BK391 := b1 BK391 hb; replace BK396 := b1 BK396 hb; replace BK398 := bq BK398 hb; replace HB := b2 hb; clear hb; obtain ⟨_, _, _, _, _, _, _, _, _, _⟩ := cf5 BK398.out))
       go_roundg k1
       case measure => have := HK1.out; omega
       case rel => exact ⟨(wrap64 (x26_1 + 1)), (x397000_1), (x397001_1), (u397001), (es), H', ⟨by have := HK1.out; omega⟩, ⟨rk HO_6.out⟩, ⟨rk HO_397001.out⟩, ⟨bk BK390.out⟩, ⟨bk BK391.out⟩, ⟨bk BK396.out⟩, ⟨bel⟩⟩
      ·obtain ⟨y400, hy400⟩ : ∃ y_ : List (S112), y_ = (([(⟨0, x397000_1, 2⟩ : S112), (⟨x397000_1, wrap64 (2 + ((rd_T71 l0_6 x26_1).f0)), 2⟩ : S112), (⟨x397000_1, wrap64 (2 + ((rd_T71 l0_6 x26_1).f1)), 2⟩ : S112)] : List (S112))) := ⟨_, rfl⟩
       replace H : (if x397001_1.length + y400.length < 5864062014805 then (spec_l18Net.l0 k1 a1 t392 t395 l0_6 (l0_6.length : Int) (wrap64 (x26_1 + 1)) (wrap64 (x397000_1 + 1)) (x397001_1 ++ y400)) else (none)) = some (r1, r2, r3) := by first | (rw [hy400]; with_reducible exact H) | (have H2_ := (Option.bind_some _ _).symm.trans H; rw [hy400]; with_reducible exact H2_) | (have H2_ := (Option.bind_some _ _).symm.trans H; with_reducible exact H2_) | with_reducible exact H | (rw [hy400]; exact H) | exact H
       have Ny400 := am hy400
       clear hy400
       replace H := i0 H; obtain ⟨c39, H⟩ := H
       have LMc39 := am (of_decide_eq_true c39)
       clear c39
       obtain ⟨y403, hy403⟩ : ∃ y_ : List (S112), y_ = (x397001_1 ++ y400) := ⟨_, rfl⟩
       replace H : (spec_l18Net.l0 k1 a1 t392 t395 l0_6 (l0_6.length : Int) (wrap64 (x26_1 + 1)) (wrap64 (x397000_1 + 1)) y403) = some (r1, r2, r3) := by first | (rw [hy403]; with_reducible exact H) | (have H2_ := (Option.bind_some _ _).symm.trans H; rw [hy403]; with_reducible exact H2_) | (have H2_ := (Option.bind_some _ _).symm.trans H; with_reducible exact H2_) | with_reducible exact H | (rw [hy403]; exact H) | exact H
       have Ny403 := am hy403
       clear hy403
       have H' := am H
       clear H
       have p397 : 0 ≤ (x26_1 : Int) := asm
       have q397 : x26_1 < (l0_6.length : Int) := asm
       obtain ⟨ad397, e397, hx397_0, hx397_1, hx397_2, hx397_3, hx397_4⟩ := hc5 HB.out (at_T71 HR0_6.out x26_1 p397 q397)
       cases e397
       replace p397 := eq_true p397
       replace q397 := eq_true q397
       go_wp2_with (first | ((with_reducible refine gd 10 ?_); refine by_ w 10 #[.int .i64 0, .int .i64 0, .int .i64 0, .int .i64 0, .int .i64 0] 71 ?_; clear HB; intro gb398 hg w40 BK398 GE398 hb HB; have NB390_398 := am ((nlt hg BK390.out : gb390 ≠ gb398)); have NB398_390 := am ((ngt hg BK390.out : gb398 ≠ gb390)); have NB391_398 := am ((nlt hg BK391.out : gb391 ≠ gb398)); have NB398_391 := am ((ngt hg BK391.out : gb398 ≠ gb391)); have NB396_398 := am ((nlt hg BK396.out : gb396 ≠ gb398)); have NB398_396 := am ((ngt hg BK396.out : gb398 ≠ gb396)); replace HO_6 := am (Kd.R_below (rk HO_6.out) hb); replace HO_397001 := am (Kd.R_below (rk HO_397001.out) hb); replace BK390 := b1 BK390 hb; replace BK391 := b1 BK391 hb; replace BK396 := b1 BK396 hb; clear hb hg; have hnb41 := NB398_390.out; have hnc41 := NB390_398.out; have hnb42 := NB398_391.out; have hnc42 := NB391_398.out; have hnb43 := NB398_396.out; have hnc43 := NB396_398.out; obtain ⟨_, _, _, _, _, _, _, _, _, _⟩ := cf5 BK398.out) | ((with_reducible refine gc 61 ?_); refine gl2 31 Try.func61 (spec_IsOpen.calls ((rd_T71 l0_6 x26_1).f0) ((rd_T71 l0_6 x26_1).f1) ((rd_T71 l0_6 x26_1).f2) ((rd_T71 l0_6 x26_1).f3) ((rd_T71 l0_6 x26_1).f4) true _ A21.out) ?_; intro w45 hb; replace HO_6 := am (Kd.R_below (kf (Kd.R_types HO_6.out BK398.out (by decide))) hb); replace HO_397001 := am (Kd.R_below (kf (Kd.R_types HO_397001.out BK398.out (by decide))) hb); replace BK390 := b1 BK390 hb; replace BK391 := b1 BK391 hb; replace BK396 := b1 BK396 hb; replace BK398 := bq BK398 hb; replace HB := b2 hb; clear hb; obtain ⟨_, _, _, _, _, _, _, _, _, _⟩ := cf5 BK398.out; have hnb47 := NB396_390.out; have hnc47 := NB390_396.out; have hnb48 := NB396_391.out; have hnc48 := NB391_396.out; obtain ⟨_, _, _, _⟩ := cf2 BK396.out) | ((with_reducible refine gate_dst (N := 62) rfl ?_); refine Kd.R_lit k112 _ 112 ?hg (N := 62) ?hd (xs := ([(⟨0, x397000_1, 2⟩ : S112), (⟨x397000_1, wrap64 (2 + ((rd_T71 l0_6 x26_1).f0)), 2⟩ : S112), (⟨x397000_1, wrap64 (2 + ((rd_T71 l0_6 x26_1).f1)), 2⟩ : S112)] : List (S112))) (inner := [.int .i64 0, .int .i64 x397000_1, .int .i64 2, .int .i64 x397000_1, .int .i64 (wrap64 (2 + ((rd_T71 l0_6 x26_1).f0))), .int .i64 2, .int .i64 x397000_1, .int .i64 (wrap64 (2 + ((rd_T71 l0_6 x26_1).f1))), .int .i64 2]) (ok := fun _ => True) (okp := fun _ => True) ?hr ?hp (fun _ hk => hk) trivial (Below.refl _ _) (Nat.le_refl _) (by simp) ?_; (case hd => rfl); (case hg => rfl); (case hr => first | (go_simp; done) | (go_simp; rfl)); (case hp => exact (Reps.c3 (show Kd.M k112 _ _ _ (⟨0, x397000_1, 2⟩ : S112) [.int .i64 0, .int .i64 x397000_1, .int .i64 2] from (k112_mkM _ _ _ (⟨0, x397000_1, 2⟩ : S112) )) (Reps.c3 (show Kd.M k112 _ _ _ (⟨x397000_1, wrap64 (2 + ((rd_T71 l0_6 x26_1).f0)), 2⟩ : S112) [.int .i64 x397000_1, .int .i64 (wrap64 (2 + ((rd_T71 l0_6 x26_1).f0))), .int .i64 2] from (k112_mkM _ _ _ (⟨x397000_1, wrap64 (2 + ((rd_T71 l0_6 x26_1).f0)), 2⟩ : S112) )) (Reps.c3 (show Kd.M k112 _ _ _ (⟨x397000_1, wrap64 (2 + ((rd_T71 l0_6 x26_1).f1)), 2⟩ : S112) [.int .i64 x397000_1, .int .i64 (wrap64 (2 + ((rd_T71 l0_6 x26_1).f1))), .int .i64 2] from (k112_mkM _ _ _ (⟨x397000_1, wrap64 (2 + ((rd_T71 l0_6 x26_1).f1)), 2⟩ : S112) )) (Reps.none _ _))))); intro v401 w50 ho51 hb hg_ hnew_; clear hg_ hnew_; (first | rw [← Ny400.out] at ho51 | (simp only [Int.reduceToNat] at ho51; rw [← Ny400.out] at ho51)); have HO402 := am (Kd.R_lower (Kd.R_new' ho51 (Kd.R_lt (rk HO_397001.out))) (below_size bel)); replace HO_6 := am (Kd.R_below (rk HO_6.out) hb); replace HO_397001 := am (Kd.R_elder' (rk HO_397001.out) (Kd.R_base ho51) hb); replace BK390 := b1 BK390 hb; replace BK391 := b1 BK391 hb; replace BK396 := b1 BK396 hb; replace BK398 := b1 BK398 hb; replace HB := b2 hb; clear hb ho51; obtain ⟨Ao53, co53, eo53⟩ := Kd.R_slice HO402.out; subst eo53) | ((with_reducible refine gate_builtin (b := .append) (xs := #[.tmp 46, .tmp 62]) rfl ?_); at_builtin; refine Kd.R_append_rows k112 (w0 := w) w.heap.size rfl (.tmp 46) (.tmp 62) 56 112 (.agg #[(.int .i64 0), (.int .i64 0), (.int .i64 0)]) 24 rfl Try.underlying56 info112 rfl (by decide) (by omega) u397001 x397001_1 y400 _ _ _ (fun k_ => some k_ ≠ (.slice Ao53 y400.length co53 : Value).ownBlock) (fun _ => False) rfl rfl ?aO ?aR (fun _ _ h => h) (fun _ h => h.elim) ?aF ?aB ?aS ?aL ?_; (case aR => exact ck (Kd.R_reads' HO402.out).2.2); (case aB => exact bel); (case aF => exact (fun k_ hk => Kd.fresh' (Kd.R_lt (rk HO402.out)) k_ hk)); (case aO => exact (by (with_reducible repeat (first | apply Kd.R_alloc | apply Kd.R_drewN | apply Kd.R_drew)); exact Kd.R_mono HO_397001.out (fun _ hk => hk.2))); (case aS => exact (below_size bel)); (case aL => have := LMc39.out; omega); intro v404 w52 ho hb hg hat; rw [← Ny403.out] at ho; have n0_ := am (Kd.R_over' (rk HO_6.out) (Kd.R_typed (rk HO_397001.out)) (by decide) hg); have n1_ := am (blk_grown (g := gb390) (o := .cells #[.slice A0_0 l0_0.length c0_0, .int .i64 a0_1, .int .i64 a0_2, .int .i64 a0_3, .slice A0_4 l0_4.length c0_4, .bool a0_5, .slice (some ad397) l0_6.length c0_6, .slice A0_7 l0_7.length c0_7, .slice A0_8 l0_8.length c0_8] 37 (0, 0)) (bk BK390.out) hg (Kd.R_ne HO_397001.out BK390.out (by decide))); have n2_ := am (blk_grown (g := gb391) (o := .cells #[.int .i64 0, .slice none 0 0] 58 (0, 0)) (bk BK391.out) hg (Kd.R_ne HO_397001.out BK391.out (by decide))); have n3_ := am (blk_grown (g := gb396) (o := .cells #[.int .i64 x397000_1, u397001] 58 (0, 0)) (bk BK396.out) hg (Kd.R_ne HO_397001.out BK396.out (by decide))); have n4_ := am (blk_grown (g := gb398) (o := .cells #[.int .i64 ((rd_T71 l0_6 x26_1).f0), .int .i64 ((rd_T71 l0_6 x26_1).f1), .int .i64 ((rd_T71 l0_6 x26_1).f2), .int .i64 ((rd_T71 l0_6 x26_1).f3), .int .i64 ((rd_T71 l0_6 x26_1).f4)] 71 (0, 0)) (bk BK398.out) hg (Kd.R_ne HO_397001.out BK398.out (by decide))); have n5_ := am (Kd.R_after (ok := (fun _ => True)) (rk HO402.out) hg hat); have n6_ := am (hb); have n7_ := am (ho); clear HO_6; clear BK390; clear BK391; clear BK396; clear BK398; clear HO402; clear HB; clear HO_397001; have HO_6 := n0_; have BK390 := n1_; have BK391 := n2_; have BK396 := n3_; have BK398 := n4_; have HO402 := n5_; have HB := n6_; have HO405 := n7_; clear n0_ n1_ n2_ n3_ n4_ n5_ n6_ n7_; clear ho hb hg hat; obtain ⟨Ao54, co54, eo54⟩ := Kd.R_slice HO405.out; subst eo54; obtain ⟨_, _, _, _⟩ := cf2 BK396.out))
       go_roundg k1
       case measure => have := HK1.out; omega
       case rel => exact ⟨(wrap64 (x26_1 + 1)), (wrap64 (x397000_1 + 1)), (y403), (.slice Ao54 y403.length co54), (es), H', ⟨by have := HK1.out; omega⟩, ⟨(kf (Kd.R_types HO_6.out BK396.out (by decide)))⟩, ⟨(kf (Kd.R_types HO405.out BK396.out (by decide)))⟩, ⟨bk BK390.out⟩, ⟨bk BK391.out⟩, ⟨(bz BK396)⟩, ⟨bel⟩⟩
    ·have H' := am H
     clear H
     have p397 : 0 ≤ (x26_1 : Int) := asm
     have q397 : x26_1 < (l0_6.length : Int) := asm
     obtain ⟨ad397, e397, hx397_0, hx397_1, hx397_2, hx397_3, hx397_4⟩ := hc5 HB.out (at_T71 HR0_6.out x26_1 p397 q397)
     cases e397
     replace p397 := eq_true p397
     replace q397 := eq_true q397
     go_wp2_with (first | ((with_reducible refine gd 10 ?_); refine by_ w 10 #[.int .i64 0, .int .i64 0, .int .i64 0, .int .i64 0, .int .i64 0] 71 ?_; clear HB; intro gb398 hg w56 BK398 GE398 hb HB; have NB390_398 := am ((nlt hg BK390.out : gb390 ≠ gb398)); have NB398_390 := am ((ngt hg BK390.out : gb398 ≠ gb390)); have NB391_398 := am ((nlt hg BK391.out : gb391 ≠ gb398)); have NB398_391 := am ((ngt hg BK391.out : gb398 ≠ gb391)); have NB396_398 := am ((nlt hg BK396.out : gb396 ≠ gb398)); have NB398_396 := am ((ngt hg BK396.out : gb398 ≠ gb396)); replace HO_6 := am (Kd.R_below (rk HO_6.out) hb); replace HO_397001 := am (Kd.R_below (rk HO_397001.out) hb); replace BK390 := b1 BK390 hb; replace BK391 := b1 BK391 hb; replace BK396 := b1 BK396 hb; clear hb hg; have hnb57 := NB398_390.out; have hnc57 := NB390_398.out; have hnb58 := NB398_391.out; have hnc58 := NB391_398.out; have hnb59 := NB398_396.out; have hnc59 := NB396_398.out; obtain ⟨_, _, _, _, _, _, _, _, _, _⟩ := cf5 BK398.out) | ((with_reducible refine gc 61 ?_); refine gl2 31 Try.func61 (spec_IsOpen.calls ((rd_T71 l0_6 x26_1).f0) ((rd_T71 l0_6 x26_1).f1) ((rd_T71 l0_6 x26_1).f2) ((rd_T71 l0_6 x26_1).f3) ((rd_T71 l0_6 x26_1).f4) false _ A21.out) ?_; intro w61 hb; replace HO_6 := am (Kd.R_below (kf (Kd.R_types HO_6.out BK398.out (by decide))) hb); replace HO_397001 := am (Kd.R_below (kf (Kd.R_types HO_397001.out BK398.out (by decide))) hb); replace BK390 := b1 BK390 hb; replace BK391 := b1 BK391 hb; replace BK396 := b1 BK396 hb; replace BK398 := bq BK398 hb; replace HB := b2 hb; clear hb))
     go_roundg k1
     case measure => have := HK1.out; omega
     case rel => exact ⟨(wrap64 (x26_1 + 1)), (x397000_1), (x397001_1), (u397001), (es), H', ⟨by have := HK1.out; omega⟩, ⟨rk HO_6.out⟩, ⟨rk HO_397001.out⟩, ⟨bk BK390.out⟩, ⟨bk BK391.out⟩, ⟨bk BK396.out⟩, ⟨bel⟩⟩
   ·have H' := am H
    clear H
    obtain ⟨Ao62, co62, eo62⟩ := Kd.R_slice HO_6.out
    subst eo62
    go_wp2
    go_loopg [72] k1 (fun kq v72 w' => ∃ (x72_2 : Int) (x392000_2 : Int) (x397001_2 : List (S112)) (u397001 : Value), v72 = .int .i64 x72_2 ∧ Aside0 (spec_l18Net.l1 kq a1 t395 t392 (t392.length : Int) x72_2 x397000_1 x397001_2 = some (r1, r2, r3)) ∧ Aside0 (kq ≤ k1) ∧ Aside0 (Kd.R (Kd.int .i64) 3 w' w.heap.size (fun _ => True) (.slice Ao62 t392.length co62) t392) ∧ Aside0 (Kd.R k112 112 w' w.heap.size (fun _ => True) u397001 x397001_2) ∧ Aside0 (w'.heap[gb390]? = some (.cells #[(.slice A0_0 l0_0.length c0_0), .int .i64 a0_1, .int .i64 a0_2, .int .i64 a0_3, (.slice A0_4 l0_4.length c0_4), .bool a0_5, (.slice A0_6 l0_6.length c0_6), (.slice A0_7 l0_7.length c0_7), (.slice A0_8 l0_8.length c0_8)] 37 (0, 0))) ∧ Aside0 (w'.heap[gb391]? = some (.cells #[.int .i64 x392000_2, (.slice none 0 0)] 58 (0, 0))) ∧ Aside0 (w'.heap[gb396]? = some (.cells #[.int .i64 x397000_1, u397001] 58 (0, 0))) ∧ Aside0 (Below w.heap.size w w'))
    case atStart => exact ⟨(0), (0), (x397001_1), (u397001), (es), H', ⟨Nat.le_refl _⟩, ⟨rk HO_6.out⟩, ⟨rk HO_397001.out⟩, ⟨bk BK390.out⟩, ⟨bk BK391.out⟩, ⟨bk BK396.out⟩, ⟨bel⟩⟩
    case round =>
     clear H'
     try clear c18; try clear c18b0; try clear hcz10_0; try clear hcz10_1; try clear hcz10_2; try clear hcz10_3; try clear hcz10_4; try clear hcz10_5; try clear hcz10_6; try clear hcz10_7; try clear hcz10_8; try clear hcz12_0; try clear hcz12_1; try clear hcz12_2; try clear hcz12_3; try clear hcz12_4; try clear hcz12_5; try clear hcz12_6; try clear hcz12_7; try clear hcz12_8; try clear hcz16_0; try clear hcz16_1; try clear hcz17_0; try clear hcz17_1; try clear hcz17_2; try clear hcz17_3; try clear hcz17_4; try clear hcz17_5; try clear hcz17_6; try clear hcz17_7; try clear hcz17_8; try clear hcz8_0; try clear hcz8_1; try clear hcz8_2; try clear hcz8_3; try clear hcz8_4; try clear hcz8_5; try clear hcz8_6; try clear hcz8_7; try clear hcz8_8; try clear hfz10_0; try clear hfz10_1; try clear hfz10_2; try clear hfz10_3; try clear hfz10_4; try clear hfz10_5; try clear hfz10_6; try clear hfz10_7; try clear hfz10_8; try clear hfz12_0; try clear hfz12_1; try clear hfz12_2; try clear hfz12_3; try clear hfz12_4; try clear hfz12_5; try clear hfz12_6; try clear hfz12_7; try clear hfz12_8; try clear hfz16_0; try clear hfz16_1; try clear hfz17_0; try clear hfz17_1; try clear hfz17_2; try clear hfz17_3; try clear hfz17_4; try clear hfz17_5; try clear hfz17_6; try clear hfz17_7; try clear hfz17_8; try clear hfz8_0; try clear hfz8_1; try clear hfz8_2; try clear hfz8_3; try clear hfz8_4; try clear hfz8_5; try clear hfz8_6; try clear hfz8_7; try clear hfz8_8
     obtain ⟨x72_2, x392000_2, x397001_2, u397001, rfl, HA, HK2, HO_70, HO_397001, BK390, BK391, BK396, HB⟩ := hrel
     cases gk with
     | zero => exact absurd HA.out (by simp [spec_l18Net.l1])
     | succ k2 =>
      have H := HA.out
      clear HA
      simp only [spec_l18Net.l1] at H
      replace H := i1 H; obtain ⟨c63b0, H⟩ | ⟨c63b0, H⟩ := H
      ·replace H := i0 H; obtain ⟨c64b0, H⟩ := H
       replace H := i0 H; obtain ⟨c65b0, H⟩ := H
       replace H := ie H; obtain ⟨c66b0, c66b1, H⟩ | ⟨⟨c66, c66b0, c66b1⟩, H⟩ := H
       ·have H' := am H
        clear H
        have p406 : 0 ≤ (x72_2 : Int) := asm
        have q406 : x72_2 < (t392.length : Int) := asm
        obtain ⟨ad406, e406, hx406_0⟩ := Kd.at_int (Kd.R_reads' HO_70.out).2.2 x72_2 p406 q406
        cases e406
        replace p406 := eq_true p406
        replace q406 := eq_true q406
        go_wp2
        go_roundg k2
        case measure => have := HK1.out; have := HK2.out; omega
        case rel => exact ⟨(wrap64 (x72_2 + 1)), (x392000_2), (x397001_2), (u397001), (es), H', ⟨by have := HK1.out; have := HK2.out; omega⟩, ⟨rk HO_70.out⟩, ⟨rk HO_397001.out⟩, ⟨bk BK390.out⟩, ⟨bk BK391.out⟩, ⟨bk BK396.out⟩, ⟨bel⟩⟩
       ·replace H := i1 H; obtain ⟨c67b0, H⟩ | ⟨c67b0, H⟩ := H
        ·simp only [Option.some.injEq, Prod.mk.injEq] at H
         obtain ⟨rfl, rfl, rfl⟩ := H
         have p406 : 0 ≤ (x72_2 : Int) := asm
         have q406 : x72_2 < (t392.length : Int) := asm
         obtain ⟨ad406, e406, hx406_0⟩ := Kd.at_int (Kd.R_reads' HO_70.out).2.2 x72_2 p406 q406
         cases e406
         replace p406 := eq_true p406
         replace q406 := eq_true q406
         have hnb68 := NB391_390.out
         have hnc68 := NB390_391.out
         have hnb69 := NB391_396.out
         have hnc69 := NB396_391.out
         obtain ⟨_, _, _, _⟩ := cf2 BK391.out
         go_wp2
         refine bodyPost_ret (results_ct rfl _ _ gb391 58 #[.int .i64 0, .slice none 0 0] (0, 0) _ rfl (bz BK391) Try.underlying58 rfl (by kernel_rfl)) rfl ?_
         exact ⟨_, er, by first | exact Kd.R_nil _ _ _ _ _ | exact Kd.N_nil _ _ _ _ _ | exact Kd.V_nil _ _ _ _ _ | exact Kd.Q_nil _ _ _ _ _ | exact Kd.S_nil _ _ _ _ _, bel⟩
        ·replace H := i0 H; obtain ⟨c71, H⟩ := H
         have LMc71 := am (of_decide_eq_true c71)
         clear c71
         obtain ⟨y407, hy407⟩ : ∃ y_ : List (S112), y_ = (x397001_2 ++ [(⟨wrap64 (2 + x72_2), 1, wrap64 (t395 - (rd t392 x72_2))⟩ : S112)]) := ⟨_, rfl⟩
         replace H : (spec_l18Net.l1 k2 a1 t395 t392 (t392.length : Int) (wrap64 (x72_2 + 1)) x397000_1 y407) = some (r1, r2, r3) := by first | (rw [hy407]; with_reducible exact H) | (have H2_ := (Option.bind_some _ _).symm.trans H; rw [hy407]; with_reducible exact H2_) | (have H2_ := (Option.bind_some _ _).symm.trans H; with_reducible exact H2_) | with_reducible exact H | (rw [hy407]; exact H) | exact H
         have Ny407 := am hy407
         clear hy407
         have H' := am H
         clear H
         have p406 : 0 ≤ (x72_2 : Int) := asm
         have q406 : x72_2 < (t392.length : Int) := asm
         obtain ⟨ad406, e406, hx406_0⟩ := Kd.at_int (Kd.R_reads' HO_70.out).2.2 x72_2 p406 q406
         cases e406
         replace p406 := eq_true p406
         replace q406 := eq_true q406
         have hnb72 := NB396_390.out
         have hnc72 := NB390_396.out
         have hnb73 := NB396_391.out
         have hnc73 := NB391_396.out
         obtain ⟨_, _, _, _⟩ := cf2 BK396.out
         go_wp2_with (first | ((with_reducible refine gate_builtin (b := .append) (xs := #[.tmp 86, .tmp 93]) rfl ?_); at_builtin; refine Kd.R_append k112 (w0 := w) w.heap.size rfl (.tmp 86) (.tmp 93) 56 112 (.agg #[(.int .i64 0), (.int .i64 0), (.int .i64 0)]) 24 rfl Try.underlying56 info112 rfl (by decide) (by omega) u397001 x397001_2 (⟨wrap64 (2 + x72_2), 1, wrap64 (t395 - (rd t392 x72_2))⟩ : S112) [.int .i64 (wrap64 (2 + x72_2)), .int .i64 1, .int .i64 (wrap64 (t395 - (rd t392 x72_2)))] (fun _ => True) (fun _ => False) rfl rfl ?aP (fun _ hk => hk.elim) ?aF ?aO ?aB ?aS ?aL ?_; (case aP => exact k112_mkM _ _ _ (⟨wrap64 (2 + x72_2), 1, wrap64 (t395 - (rd t392 x72_2))⟩ : S112)); (case aB => exact bel); (case aF => exact (fun _ _ => trivial)); (case aO => exact (rk HO_397001.out)); (case aS => exact (below_size bel)); (case aL => have := LMc71.out; omega); intro v408 w75 ho hb hg hat; rw [← Ny407.out] at ho; have n0_ := am (Kd.R_over' (rk HO_70.out) (Kd.R_typed (rk HO_397001.out)) (by decide) hg); have n1_ := am (blk_grown (g := gb390) (o := .cells #[.slice A0_0 l0_0.length c0_0, .int .i64 a0_1, .int .i64 a0_2, .int .i64 a0_3, .slice A0_4 l0_4.length c0_4, .bool a0_5, .slice A0_6 l0_6.length c0_6, .slice A0_7 l0_7.length c0_7, .slice A0_8 l0_8.length c0_8] 37 (0, 0)) (bk BK390.out) hg (Kd.R_ne HO_397001.out BK390.out (by decide))); have n2_ := am (blk_grown (g := gb391) (o := .cells #[.int .i64 x392000_2, .slice none 0 0] 58 (0, 0)) (bk BK391.out) hg (Kd.R_ne HO_397001.out BK391.out (by decide))); have n3_ := am (blk_grown (g := gb396) (o := .cells #[.int .i64 x397000_1, u397001] 58 (0, 0)) (bk BK396.out) hg (Kd.R_ne HO_397001.out BK396.out (by decide))); have n4_ := am (hb); have n5_ := am (ho); clear HO_70; clear BK390; clear BK391; clear BK396; clear HB; clear HO_397001; have HO_70 := n0_; have BK390 := n1_; have BK391 := n2_; have BK396 := n3_; have HB := n4_; have HO409 := n5_; clear n0_ n1_ n2_ n3_ n4_ n5_; clear ho hb hg hat; obtain ⟨Ao76, co76, eo76⟩ := Kd.R_slice HO409.out; subst eo76; obtain ⟨_, _, _, _⟩ := cf2 BK396.out))
         go_roundg k2
         case measure => have := HK1.out; have := HK2.out; omega
         case rel => exact ⟨(wrap64 (x72_2 + 1)), (x392000_2), (y407), (.slice Ao76 y407.length co76), (es), H', ⟨by have := HK1.out; have := HK2.out; omega⟩, ⟨(kf (Kd.R_types HO_70.out BK396.out (by decide)))⟩, ⟨(kf (Kd.R_types HO409.out BK396.out (by decide)))⟩, ⟨bk BK390.out⟩, ⟨bk BK391.out⟩, ⟨(bz BK396)⟩, ⟨bel⟩⟩
      ·simp only [Option.some.injEq, Prod.mk.injEq] at H
       obtain ⟨rfl, rfl, rfl⟩ := H
       have hnb78 := NB396_390.out
       have hnc78 := NB390_396.out
       have hnb79 := NB396_391.out
       have hnc79 := NB391_396.out
       obtain ⟨_, _, _, _⟩ := cf2 BK396.out
       have hnb81 := NB391_390.out
       have hnc81 := NB390_391.out
       obtain ⟨_, _, _, _⟩ := cf2 BK391.out
       obtain ⟨Ao83, co83, eo83⟩ := Kd.R_slice HO_397001.out
       subst eo83
       go_wp2
       refine bodyPost_ret (results_ct rfl _ _ gb391 58 #[.int .i64 x397000_1, .slice Ao83 x397001_2.length co83] (0, 0) _ rfl (bz BK391) Try.underlying58 rfl (by kernel_rfl)) rfl ?_
       exact ⟨_, er, (kf (Kd.R_types HO_397001.out BK391.out (by decide))), bel⟩
mutual
def spec_NetOk.j0 : Nat → Bool → Int → List (S112) → Option (Bool)
  | 0, _, _, _ => none
  | k + 1, x14, x411000, x411001 => if x14 = true then (some false) else (spec_NetOk.l0 k x411001 (x411001.length : Int) 0 x411000 x411001)
def spec_NetOk.l0 : Nat → List (S112) → Int → Int → Int → List (S112) → Option (Bool)
  | 0, _, _, _, _, _ => none
  | k + 1, x16, x17, x18, x411000, x411001 => if x18 < x17 then (if 0 ≤ x18 then (if x18 < (x16.length : Int) then ((spec_l01In.f ((rd_T112 x16 x18).f0) 0 (wrap64 (x411000 - 1))).bind fun t414 => (if t414 = true then ((spec_l01In.f ((rd_T112 x16 x18).f1) 0 (wrap64 (x411000 - 1))).bind fun t415 => (if t415 = true then (if ((rd_T112 x16 x18).f0) = ((rd_T112 x16 x18).f1) then (some false) else ((spec_l01In.f ((rd_T112 x16 x18).f2) 0 1000).bind fun t416 => (if t416 = true then (spec_NetOk.l0 k x16 x17 (wrap64 (x18 + 1)) x411000 x411001) else (some false)))) else (some false))) else (some false))) else (none)) else (none)) else (some true)
end
def spec_NetOk.f (k : Nat) (a0_0 : Int) (l0_1 : List (S112)) : Option (Bool) := (spec_l01In.f a0_0 2 40).bind fun t411 => (if t411 = true then (spec_NetOk.j0 k (decide ((l0_1.length : Int) > 120)) a0_0 l0_1) else (spec_NetOk.j0 k true a0_0 l0_1))
theorem spec_NetOk.calls (k : Nat) (a0_0 : Int) (A0_1 : Option Addr) (c0_1 : Nat) (l0_1 : List (S112)) (r : Bool) (w : World) (hr0_1 : Kd.C k112 w A0_1 l0_1.length l0_1) (hc0_1 : l0_1.length ≤ c0_1) (h : spec_NetOk.f k a0_0 l0_1 = some r) : Calls Try.prog 81 #[.agg #[.int .i64 a0_0, .slice A0_1 l0_1.length c0_1]] w fun e w' => e = .returned (.bool r) ∧ Below w.heap.size w w' := by
 have hu58 := Try.underlying58
 have hu112 := Try.underlying112
 have HR0_1 := am hr0_1
 have HC0_1 := am hc0_1
 clear hr0_1 hc0_1
 have HB := am (Below.refl w.heap.size w)
 have H : ((spec_l01In.f a0_0 2 40).bind fun t411 => (if t411 = true then (spec_NetOk.j0 k (decide ((l0_1.length : Int) > 120)) a0_0 l0_1) else (spec_NetOk.j0 k true a0_0 l0_1))) = some r := h
 clear h
 have HC2 := am H
 clear H
 go_enter Try.func81, Try.ntmps81
 go_upto_region 1 with (first | ((with_reducible refine gd 1 ?_); refine bx w 1 #[.int .i64 a0_0, .slice A0_1 l0_1.length c0_1] 58 ?_; clear HB; intro gb410 w3 BK410 GE410 HB))
 (try simp only [Act.put, List.setIfInBounds_toArray, List.set_cons_zero, List.set_cons_succ])
 go_cut [14] (fun v14 wc => ∃ (kq : Nat) (x14_1 : Bool), v14 = .bool x14_1 ∧ Aside0 (spec_NetOk.j0 kq x14_1 a0_0 l0_1 = some r) ∧ Aside0 (kq ≤ k) ∧ Aside0 (wc.heap[gb410]? = some (.cells #[.int .i64 a0_0, (.slice A0_1 l0_1.length c0_1)] 58 (0, 0))) ∧ Aside0 (Below w.heap.size w wc))
 case first =>
  have H := HC2.out
  clear HC2
  replace H := bm H; obtain ⟨t411, A4, H⟩ := H
  replace H := ib H; obtain ⟨rfl, H⟩ | ⟨rfl, H⟩ := H
  ·have H' := am H
   clear H
   obtain ⟨_, _, _, _⟩ := cf2 BK410.out
   go_wp2_with (first | ((with_reducible refine gc 50 ?_); refine gl1 7 Try.func50 (spec_l01In.calls a0_0 2 40 true _ A4.out) ?_; intro nd))
   go_meet
   case rel => exact ⟨_, (decide ((l0_1.length : Int) > 120)), (es), H', ⟨by first | omega | exact Nat.le_refl _⟩, ⟨bk BK410.out⟩, ⟨bel⟩⟩
  ·have H' := am H
   clear H
   obtain ⟨_, _, _, _⟩ := cf2 BK410.out
   go_wp2_with (first | ((with_reducible refine gc 50 ?_); refine gl1 7 Try.func50 (spec_l01In.calls a0_0 2 40 false _ A4.out) ?_; intro nd))
   go_meet
   case rel => exact ⟨_, (true), (es), H', ⟨by first | omega | exact Nat.le_refl _⟩, ⟨bk BK410.out⟩, ⟨bel⟩⟩
 case rest =>
  clear HC2
  obtain ⟨kq, x14_1, rfl, HA, HJ1, BK410, HB⟩ := hcut
  cases kq with
  | zero => exact absurd HA.out (by simp [spec_NetOk.j0])
  | succ kj1 =>
   have H := HA.out
   clear HA
   simp only [spec_NetOk.j0] at H
   replace H := ib H; obtain ⟨rfl, H⟩ | ⟨rfl, H⟩ := H
   ·obtain rfl := Option.some.inj H
    go_wp2
    go_ret
    exact ⟨er, bel⟩
   ·have H' := am H
    clear H
    obtain ⟨hcz9_0, hcz9_1, hfz9_0, hfz9_1⟩ := cf2 BK410.out
    go_wp2
    go_loopg [18] kj1 (fun kq v18 w' => ∃ (x18_2 : Int), v18 = .int .i64 x18_2 ∧ Aside0 (spec_NetOk.l0 kq l0_1 (l0_1.length : Int) x18_2 a0_0 l0_1 = some r) ∧ Aside0 (kq ≤ kj1) ∧ Aside0 (w'.heap[gb410]? = some (.cells #[.int .i64 a0_0, (.slice A0_1 l0_1.length c0_1)] 58 (0, 0))) ∧ Aside0 (Below w.heap.size w w'))
    case atStart => exact ⟨(0), (es), H', ⟨Nat.le_refl _⟩, ⟨bk BK410.out⟩, ⟨bel⟩⟩
    case round =>
     clear H'
     try clear c8; try clear hcz9_0; try clear hcz9_1; try clear hfz9_0; try clear hfz9_1
     obtain ⟨x18_2, rfl, HA, HK2, BK410, HB⟩ := hrel
     cases gk with
     | zero => exact absurd HA.out (by simp [spec_NetOk.l0])
     | succ k2 =>
      have H := HA.out
      clear HA
      simp only [spec_NetOk.l0] at H
      replace H := i1 H; obtain ⟨c10b0, H⟩ | ⟨c10b0, H⟩ := H
      ·replace H := i0 H; obtain ⟨c11b0, H⟩ := H
       replace H := i0 H; obtain ⟨c12b0, H⟩ := H
       replace H := bm H; obtain ⟨t414, A13, H⟩ := H
       replace H := ib H; obtain ⟨rfl, H⟩ | ⟨rfl, H⟩ := H
       ·replace H := bm H; obtain ⟨t415, A15, H⟩ := H
        replace H := ib H; obtain ⟨rfl, H⟩ | ⟨rfl, H⟩ := H
        ·replace H := ie H; obtain ⟨c17b0, c17b1, H⟩ | ⟨⟨c17, c17b0, c17b1⟩, H⟩ := H
         ·obtain rfl := Option.some.inj H
          have p412 : 0 ≤ (x18_2 : Int) := asm
          have q412 : x18_2 < (l0_1.length : Int) := asm
          obtain ⟨ad412, e412, hx412_0, hx412_1, hx412_2⟩ := hc3 HB.out (at_T112 HR0_1.out x18_2 p412 q412)
          cases e412
          replace p412 := eq_true p412
          replace q412 := eq_true q412
          go_wp2_with (first | ((with_reducible refine gd 4 ?_); refine by_ w 4 #[.int .i64 0, .int .i64 0, .int .i64 0] 112 ?_; clear HB; intro gb413 hg w18 BK413 GE413 hb HB; have NB410_413 := am ((nlt hg BK410.out : gb410 ≠ gb413)); have NB413_410 := am ((ngt hg BK410.out : gb413 ≠ gb410)); replace BK410 := b1 BK410 hb; clear hb hg; have hnb19 := NB413_410.out; have hnc19 := NB410_413.out; obtain ⟨_, _, _, _, _, _⟩ := cf3 BK413.out; obtain ⟨_, _, _, _⟩ := cf2 BK410.out) | ((with_reducible refine gc 50 ?_); refine gl1 27 Try.func50 (spec_l01In.calls ((rd_T112 l0_1 x18_2).f0) 0 (wrap64 (a0_0 - 1)) true _ A13.out) ?_; intro nd) | (go_at_call 50; refine cm1 (spec_l01In.calls ((rd_T112 l0_1 x18_2).f1) 0 (wrap64 (a0_0 - 1)) true _ A15.out) ?_; intro nd))
          go_ret
          exact ⟨er, bel⟩
         ·replace H := bm H; obtain ⟨t416, A22, H⟩ := H
          replace H := ib H; obtain ⟨rfl, H⟩ | ⟨rfl, H⟩ := H
          ·have H' := am H
           clear H
           have p412 : 0 ≤ (x18_2 : Int) := asm
           have q412 : x18_2 < (l0_1.length : Int) := asm
           obtain ⟨ad412, e412, hx412_0, hx412_1, hx412_2⟩ := hc3 HB.out (at_T112 HR0_1.out x18_2 p412 q412)
           cases e412
           replace p412 := eq_true p412
           replace q412 := eq_true q412
           go_wp2_with (first | ((with_reducible refine gd 4 ?_); refine by_ w 4 #[.int .i64 0, .int .i64 0, .int .i64 0] 112 ?_; clear HB; intro gb413 hg w24 BK413 GE413 hb HB; have NB410_413 := am ((nlt hg BK410.out : gb410 ≠ gb413)); have NB413_410 := am ((ngt hg BK410.out : gb413 ≠ gb410)); replace BK410 := b1 BK410 hb; clear hb hg; have hnb25 := NB413_410.out; have hnc25 := NB410_413.out; obtain ⟨_, _, _, _, _, _⟩ := cf3 BK413.out; obtain ⟨_, _, _, _⟩ := cf2 BK410.out) | ((with_reducible refine gc 50 ?_); refine gl1 27 Try.func50 (spec_l01In.calls ((rd_T112 l0_1 x18_2).f0) 0 (wrap64 (a0_0 - 1)) true _ A13.out) ?_; intro nd) | (go_at_call 50; refine cm1 (spec_l01In.calls ((rd_T112 l0_1 x18_2).f1) 0 (wrap64 (a0_0 - 1)) true _ A15.out) ?_; intro nd) | (go_at_call 50; refine cm1 (spec_l01In.calls ((rd_T112 l0_1 x18_2).f2) 0 1000 true _ A22.out) ?_; intro nd))
           go_roundg k2
           case measure => have := HJ1.out; have := HK2.out; omega
           case rel => exact ⟨(wrap64 (x18_2 + 1)), (es), H', ⟨by have := HJ1.out; have := HK2.out; omega⟩, ⟨bk BK410.out⟩, ⟨bel⟩⟩
          ·obtain rfl := Option.some.inj H
           have p412 : 0 ≤ (x18_2 : Int) := asm
           have q412 : x18_2 < (l0_1.length : Int) := asm
           obtain ⟨ad412, e412, hx412_0, hx412_1, hx412_2⟩ := hc3 HB.out (at_T112 HR0_1.out x18_2 p412 q412)
           cases e412
           replace p412 := eq_true p412
           replace q412 := eq_true q412
           go_wp2_with (first | ((with_reducible refine gd 4 ?_); refine by_ w 4 #[.int .i64 0, .int .i64 0, .int .i64 0] 112 ?_; clear HB; intro gb413 hg w28 BK413 GE413 hb HB; have NB410_413 := am ((nlt hg BK410.out : gb410 ≠ gb413)); have NB413_410 := am ((ngt hg BK410.out : gb413 ≠ gb410)); replace BK410 := b1 BK410 hb; clear hb hg; have hnb29 := NB413_410.out; have hnc29 := NB410_413.out; obtain ⟨_, _, _, _, _, _⟩ := cf3 BK413.out; obtain ⟨_, _, _, _⟩ := cf2 BK410.out) | ((with_reducible refine gc 50 ?_); refine gl1 27 Try.func50 (spec_l01In.calls ((rd_T112 l0_1 x18_2).f0) 0 (wrap64 (a0_0 - 1)) true _ A13.out) ?_; intro nd) | (go_at_call 50; refine cm1 (spec_l01In.calls ((rd_T112 l0_1 x18_2).f1) 0 (wrap64 (a0_0 - 1)) true _ A15.out) ?_; intro nd) | (go_at_call 50; refine cm1 (spec_l01In.calls ((rd_T112 l0_1 x18_2).f2) 0 1000 false _ A22.out) ?_; intro nd))
           go_ret
           exact ⟨er, bel⟩
        ·obtain rfl := Option.some.inj H
         have p412 : 0 ≤ (x18_2 : Int) := asm
         have q412 : x18_2 < (l0_1.length : Int) := asm
         obtain ⟨ad412, e412, hx412_0, hx412_1, hx412_2⟩ := hc3 HB.out (at_T112 HR0_1.out x18_2 p412 q412)
         cases e412
         replace p412 := eq_true p412
         replace q412 := eq_true q412
         go_wp2_with (first | ((with_reducible refine gd 4 ?_); refine by_ w 4 #[.int .i64 0, .int .i64 0, .int .i64 0] 112 ?_; clear HB; intro gb413 hg w32 BK413 GE413 hb HB; have NB410_413 := am ((nlt hg BK410.out : gb410 ≠ gb413)); have NB413_410 := am ((ngt hg BK410.out : gb413 ≠ gb410)); replace BK410 := b1 BK410 hb; clear hb hg; have hnb33 := NB413_410.out; have hnc33 := NB410_413.out; obtain ⟨_, _, _, _, _, _⟩ := cf3 BK413.out; obtain ⟨_, _, _, _⟩ := cf2 BK410.out) | ((with_reducible refine gc 50 ?_); refine gl1 27 Try.func50 (spec_l01In.calls ((rd_T112 l0_1 x18_2).f0) 0 (wrap64 (a0_0 - 1)) true _ A13.out) ?_; intro nd) | (go_at_call 50; refine cm1 (spec_l01In.calls ((rd_T112 l0_1 x18_2).f1) 0 (wrap64 (a0_0 - 1)) false _ A15.out) ?_; intro nd))
         go_ret
         exact ⟨er, bel⟩
       ·obtain rfl := Option.some.inj H
        have p412 : 0 ≤ (x18_2 : Int) := asm
        have q412 : x18_2 < (l0_1.length : Int) := asm
        obtain ⟨ad412, e412, hx412_0, hx412_1, hx412_2⟩ := hc3 HB.out (at_T112 HR0_1.out x18_2 p412 q412)
        cases e412
        replace p412 := eq_true p412
        replace q412 := eq_true q412
        go_wp2_with (first | ((with_reducible refine gd 4 ?_); refine by_ w 4 #[.int .i64 0, .int .i64 0, .int .i64 0] 112 ?_; clear HB; intro gb413 hg w36 BK413 GE413 hb HB; have NB410_413 := am ((nlt hg BK410.out : gb410 ≠ gb413)); have NB413_410 := am ((ngt hg BK410.out : gb413 ≠ gb410)); replace BK410 := b1 BK410 hb; clear hb hg; have hnb37 := NB413_410.out; have hnc37 := NB410_413.out; obtain ⟨_, _, _, _, _, _⟩ := cf3 BK413.out; obtain ⟨_, _, _, _⟩ := cf2 BK410.out) | ((with_reducible refine gc 50 ?_); refine gl1 27 Try.func50 (spec_l01In.calls ((rd_T112 l0_1 x18_2).f0) 0 (wrap64 (a0_0 - 1)) false _ A13.out) ?_; intro nd))
        go_ret
        exact ⟨er, bel⟩
      ·obtain rfl := Option.some.inj H
       go_wp2
       go_ret
       exact ⟨er, bel⟩
end Go.Proofs.Ytgalpgakdcfilaa.Q
