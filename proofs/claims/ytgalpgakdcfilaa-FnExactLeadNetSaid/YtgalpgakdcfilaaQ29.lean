-- Written by a program of this session (wip/xp.py).
import Derived.Test.YtgalpgakdcfilaaQ0
import Derived.Test.YtgalpgakdcfilaaQ20
import Derived.Test.YtgalpgakdcfilaaQ27
namespace Go.Proofs.Ytgalpgakdcfilaa.Q
open Go.RowKit Go.Proofs.YtgalpgakdcfilaaW.PrintWords Go.Proofs.YtgalpgakdcfilaaW.PrintLast Go.Proofs.YtgalpgakdcfilaaW.PrintMore
attribute [local go_sem] max2_int min2_int max_two min_two max_three min_three max_four min_four   -- for this text's walks alone
set_option linter.unusedVariables false
set_option linter.unusedSimpArgs false
set_option maxHeartbeats 8000000
set_option maxRecDepth 100000

def spec_LeadNet.f (k : Nat) (l0_0 : List (S101)) (a0_1 : Int) (a0_2 : Int) (a0_3 : Int) (l0_4 : List Int) (a0_5 : Bool) (l0_6 : List (S71)) (l0_7 : List Int) (l0_8 : List Int) (a1 : Int) : Option (Int × (List (S112)) × Bool) := (spec_l18Ok.f k l0_0 a0_1 a0_2 a0_3 l0_4 a0_5 l0_6 l0_7 l0_8 a1).bind fun t419 => (if t419 = true then ((spec_l18Net.f k l0_0 a0_1 a0_2 a0_3 l0_4 a0_5 l0_6 l0_7 l0_8 a1).bind fun bt420 => (if bt420.2.2 ≥ 0 then (some (0, ([] : List (S112)), false)) else ((spec_NetOk.f k bt420.1 bt420.2.1).bind fun t426 => (if t426 = true then (some (bt420.1, bt420.2.1, true)) else (some (0, ([] : List (S112)), false)))))) else (some (0, ([] : List (S112)), false)))
theorem spec_LeadNet.calls (k : Nat) (A0_0 : Option Addr) (c0_0 : Nat) (l0_0 : List (S101)) (a0_1 : Int) (a0_2 : Int) (a0_3 : Int) (A0_4 : Option Addr) (c0_4 : Nat) (l0_4 : List Int) (a0_5 : Bool) (A0_6 : Option Addr) (c0_6 : Nat) (l0_6 : List (S71)) (A0_7 : Option Addr) (c0_7 : Nat) (l0_7 : List Int) (A0_8 : Option Addr) (c0_8 : Nat) (l0_8 : List Int) (a1 : Int) (r1 : Int) (r2 : List (S112)) (r3 : Bool) (w : World) (hr0_0 : Kd.C k101 w A0_0 l0_0.length l0_0) (hc0_0 : l0_0.length ≤ c0_0) (hr0_4 : Kd.C (Kd.int .i64) w A0_4 l0_4.length l0_4) (hc0_4 : l0_4.length ≤ c0_4) (hr0_6 : Kd.C k71 w A0_6 l0_6.length l0_6) (hc0_6 : l0_6.length ≤ c0_6) (hr0_7 : Kd.C (Kd.int .i64) w A0_7 l0_7.length l0_7) (hc0_7 : l0_7.length ≤ c0_7) (hr0_8 : Kd.C (Kd.int .i64) w A0_8 l0_8.length l0_8) (hc0_8 : l0_8.length ≤ c0_8) (h : spec_LeadNet.f k l0_0 a0_1 a0_2 a0_3 l0_4 a0_5 l0_6 l0_7 l0_8 a1 = some (r1, r2, r3)) : Calls Try.prog 38 #[.agg #[.slice A0_0 l0_0.length c0_0, .int .i64 a0_1, .int .i64 a0_2, .int .i64 a0_3, .slice A0_4 l0_4.length c0_4, .bool a0_5, .slice A0_6 l0_6.length c0_6, .slice A0_7 l0_7.length c0_7, .slice A0_8 l0_8.length c0_8], .int .i64 a1] w fun e w' => ∃ v1_ : Value, e = .returned (.tuple #[.agg #[.int .i64 r1, v1_], .bool r3]) ∧ Kd.R k112 112 w' w.heap.size (fun _ => True) v1_ r2 ∧ Below w.heap.size w w' := by
 have hu37 := Try.underlying37
 have hu58 := Try.underlying58
 have HR0_0 := am hr0_0
 have HC0_0 := am hc0_0
 clear hr0_0 hc0_0
 have HR0_4 := am hr0_4
 have HC0_4 := am hc0_4
 clear hr0_4 hc0_4
 have HR0_6 := am hr0_6
 have HC0_6 := am hc0_6
 clear hr0_6 hc0_6
 have HR0_7 := am hr0_7
 have HC0_7 := am hc0_7
 clear hr0_7 hc0_7
 have HR0_8 := am hr0_8
 have HC0_8 := am hc0_8
 clear hr0_8 hc0_8
 have HB := am (Below.refl w.heap.size w)
 have H : ((spec_l18Ok.f k l0_0 a0_1 a0_2 a0_3 l0_4 a0_5 l0_6 l0_7 l0_8 a1).bind fun t419 => (if t419 = true then ((spec_l18Net.f k l0_0 a0_1 a0_2 a0_3 l0_4 a0_5 l0_6 l0_7 l0_8 a1).bind fun bt420 => (if bt420.2.2 ≥ 0 then (some (0, ([] : List (S112)), false)) else ((spec_NetOk.f k bt420.1 bt420.2.1).bind fun t426 => (if t426 = true then (some (bt420.1, bt420.2.1, true)) else (some (0, ([] : List (S112)), false)))))) else (some (0, ([] : List (S112)), false)))) = some (r1, r2, r3) := h
 clear h
 replace H := bm H; obtain ⟨t419, A3, H⟩ := H
 replace H := ib H; obtain ⟨rfl, H⟩ | ⟨rfl, H⟩ := H
 ·replace H := Option.bind_eq_some_iff.mp H
  obtain ⟨⟨t420, t421, t424⟩, A50, H⟩ := H
  replace H : (if t424 ≥ 0 then (some (0, ([] : List (S112)), false)) else ((spec_NetOk.f k t420 t421).bind fun t426 => (if t426 = true then (some (t420, t421, true)) else (some (0, ([] : List (S112)), false))))) = some (r1, r2, r3) := H
  have A5 := am A50
  clear A50
  replace H := i1 H; obtain ⟨c6b0, H⟩ | ⟨c6b0, H⟩ := H
  ·simp only [Option.some.injEq, Prod.mk.injEq] at H
   obtain ⟨rfl, rfl, rfl⟩ := H
   go_enter Try.func38, Try.ntmps38
   go_wp2_with (first | ((with_reducible refine gd 2 ?_); refine bx w 2 #[.slice A0_0 l0_0.length c0_0, .int .i64 a0_1, .int .i64 a0_2, .int .i64 a0_3, .slice A0_4 l0_4.length c0_4, .bool a0_5, .slice A0_6 l0_6.length c0_6, .slice A0_7 l0_7.length c0_7, .slice A0_8 l0_8.length c0_8] 37 ?_; clear HB; intro gb417 w7 BK417 GE417 HB) | ((with_reducible refine gd 4 ?_); refine by_ w 4 #[.int .i64 0, .slice none 0 0] 58 ?_; clear HB; intro gb418 hg w8 BK418 GE418 hb HB; have NB417_418 := am ((nlt hg BK417.out : gb417 ≠ gb418)); have NB418_417 := am ((ngt hg BK417.out : gb418 ≠ gb417)); replace BK417 := b1 BK417 hb; clear hb hg; have hnb9 := NB417_418.out; have hnc9 := NB418_417.out; obtain ⟨_, _, _, _, _, _, _, _, _, _, _, _, _, _, _, _, _, _⟩ := cf9 BK417.out) | ((with_reducible refine gc 76 ?_); refine gl2 10 Try.func76 (spec_l18Ok.calls k _ _ l0_0 a0_1 a0_2 a0_3 _ _ l0_4 a0_5 _ _ l0_6 _ _ l0_7 _ _ l0_8 a1 true _ (cb HR0_0 HB) HC0_0.out (cb HR0_4 HB) HC0_4.out (cb HR0_6 HB) HC0_6.out (cb HR0_7 HB) HC0_7.out (cb HR0_8 HB) HC0_8.out A3.out) ?_; intro w11 hb; replace BK417 := b1 BK417 hb; replace BK418 := b1 BK418 hb; replace HB := b2 hb; clear hb; obtain ⟨_, _, _, _, _, _, _, _, _, _, _, _, _, _, _, _, _, _⟩ := cf9 BK417.out) | ((with_reducible refine gc 80 ?_); refine gl 16 Try.func80 (spec_l18Net.calls k _ _ l0_0 a0_1 a0_2 a0_3 _ _ l0_4 a0_5 _ _ l0_6 _ _ l0_7 _ _ l0_8 a1 t420 t421 t424 _ (cb HR0_0 HB) HC0_0.out (cb HR0_4 HB) HC0_4.out (cb HR0_6 HB) HC0_6.out (cb HR0_7 HB) HC0_7.out (cb HR0_8 HB) HC0_8.out A5.out) ?_; rintro e w13 ⟨v422, rfl, ho0, hb⟩; refine ⟨_, rfl, ?_⟩; have HO423 := am (Kd.R_lower ho0 (below_size bel)); replace BK417 := b1 BK417 hb; replace BK418 := b1 BK418 hb; replace HB := b2 hb; clear hb; (try clear ho0)) | ((with_reducible refine gd 6 ?_); refine by_ w 6 #[.int .i64 0, .slice none 0 0] 58 ?_; clear HB; intro gb425 hg w14 BK425 GE425 hb HB; have NB417_425 := am ((nlt hg BK417.out : gb417 ≠ gb425)); have NB425_417 := am ((ngt hg BK417.out : gb425 ≠ gb417)); have NB418_425 := am ((nlt hg BK418.out : gb418 ≠ gb425)); have NB425_418 := am ((ngt hg BK418.out : gb425 ≠ gb418)); replace HO423 := am (Kd.R_below (rk HO423.out) hb); replace BK417 := b1 BK417 hb; replace BK418 := b1 BK418 hb; clear hb hg; have hnb15 := NB425_417.out; have hnc15 := NB417_425.out; have hnb16 := NB425_418.out; have hnc16 := NB418_425.out; obtain ⟨_, _, _, _⟩ := cf2 BK425.out; obtain ⟨Ao18, co18, eo18⟩ := Kd.R_slice HO423.out; subst eo18; obtain ⟨_, _, _, _⟩ := cf2 BK418.out))
   refine bodyPost_ret (results_ct rfl _ _ gb418 58 #[.int .i64 0, .slice none 0 0] (0, 0) _ rfl (bz BK418) Try.underlying58 rfl (by kernel_rfl)) rfl ?_
   exact ⟨_, er, by first | exact Kd.R_nil _ _ _ _ _ | exact Kd.N_nil _ _ _ _ _ | exact Kd.V_nil _ _ _ _ _ | exact Kd.Q_nil _ _ _ _ _ | exact Kd.S_nil _ _ _ _ _, bel⟩
  ·replace H := bm H; obtain ⟨t426, A20, H⟩ := H
   replace H := ib H; obtain ⟨rfl, H⟩ | ⟨rfl, H⟩ := H
   ·simp only [Option.some.injEq, Prod.mk.injEq] at H
    obtain ⟨rfl, rfl, rfl⟩ := H
    go_enter Try.func38, Try.ntmps38
    go_wp2_with (first | ((with_reducible refine gd 2 ?_); refine bx w 2 #[.slice A0_0 l0_0.length c0_0, .int .i64 a0_1, .int .i64 a0_2, .int .i64 a0_3, .slice A0_4 l0_4.length c0_4, .bool a0_5, .slice A0_6 l0_6.length c0_6, .slice A0_7 l0_7.length c0_7, .slice A0_8 l0_8.length c0_8] 37 ?_; clear HB; intro gb417 w22 BK417 GE417 HB) | ((with_reducible refine gd 4 ?_); refine by_ w 4 #[.int .i64 0, .slice none 0 0] 58 ?_; clear HB; intro gb418 hg w23 BK418 GE418 hb HB; have NB417_418 := am ((nlt hg BK417.out : gb417 ≠ gb418)); have NB418_417 := am ((ngt hg BK417.out : gb418 ≠ gb417)); replace BK417 := b1 BK417 hb; clear hb hg; have hnb24 := NB417_418.out; have hnc24 := NB418_417.out; obtain ⟨_, _, _, _, _, _, _, _, _, _, _, _, _, _, _, _, _, _⟩ := cf9 BK417.out) | ((with_reducible refine gc 76 ?_); refine gl2 10 Try.func76 (spec_l18Ok.calls k _ _ l0_0 a0_1 a0_2 a0_3 _ _ l0_4 a0_5 _ _ l0_6 _ _ l0_7 _ _ l0_8 a1 true _ (cb HR0_0 HB) HC0_0.out (cb HR0_4 HB) HC0_4.out (cb HR0_6 HB) HC0_6.out (cb HR0_7 HB) HC0_7.out (cb HR0_8 HB) HC0_8.out A3.out) ?_; intro w26 hb; replace BK417 := b1 BK417 hb; replace BK418 := b1 BK418 hb; replace HB := b2 hb; clear hb; obtain ⟨_, _, _, _, _, _, _, _, _, _, _, _, _, _, _, _, _, _⟩ := cf9 BK417.out) | ((with_reducible refine gc 80 ?_); refine gl 16 Try.func80 (spec_l18Net.calls k _ _ l0_0 a0_1 a0_2 a0_3 _ _ l0_4 a0_5 _ _ l0_6 _ _ l0_7 _ _ l0_8 a1 t420 t421 t424 _ (cb HR0_0 HB) HC0_0.out (cb HR0_4 HB) HC0_4.out (cb HR0_6 HB) HC0_6.out (cb HR0_7 HB) HC0_7.out (cb HR0_8 HB) HC0_8.out A5.out) ?_; rintro e w28 ⟨v422, rfl, ho0, hb⟩; refine ⟨_, rfl, ?_⟩; have HO423 := am (Kd.R_lower ho0 (below_size bel)); replace BK417 := b1 BK417 hb; replace BK418 := b1 BK418 hb; replace HB := b2 hb; clear hb; (try clear ho0)) | ((with_reducible refine gd 6 ?_); refine by_ w 6 #[.int .i64 0, .slice none 0 0] 58 ?_; clear HB; intro gb425 hg w29 BK425 GE425 hb HB; have NB417_425 := am ((nlt hg BK417.out : gb417 ≠ gb425)); have NB425_417 := am ((ngt hg BK417.out : gb425 ≠ gb417)); have NB418_425 := am ((nlt hg BK418.out : gb418 ≠ gb425)); have NB425_418 := am ((ngt hg BK418.out : gb425 ≠ gb418)); replace HO423 := am (Kd.R_below (rk HO423.out) hb); replace BK417 := b1 BK417 hb; replace BK418 := b1 BK418 hb; clear hb hg; have hnb30 := NB425_417.out; have hnc30 := NB417_425.out; have hnb31 := NB425_418.out; have hnc31 := NB418_425.out; obtain ⟨_, _, _, _⟩ := cf2 BK425.out; obtain ⟨Ao33, co33, eo33⟩ := Kd.R_slice HO423.out; subst eo33) | (go_at_call 81; (with_reducible refine (spec_NetOk.calls k t420 _ _ t421 true _ ?side1 ?side2 A20.out).mono ?_); (case side1 => refine (Kd.R_reads' (e := 112) (base := w.heap.size) (ok := fun k_ => True) (n := t421.length) (c := co33) ?_).2.2; exact (kf (Kd.R_types HO423.out BK425.out (by decide)))); (case side2 => exact (Kd.R_reads' HO423.out).2.1); rintro e w34 ⟨rfl, hb⟩; replace HO423 := am (Kd.R_below (kf (Kd.R_types HO423.out BK425.out (by decide))) hb); replace BK417 := b1 BK417 hb; replace BK418 := b1 BK418 hb; replace BK425 := bq BK425 hb; replace HB := b2 hb; (try clear hb); (try clear hk); obtain ⟨_, _, _, _⟩ := cf2 BK425.out; obtain ⟨_, _, _, _⟩ := cf2 BK418.out))
    refine bodyPost_ret (results_ct rfl _ _ gb418 58 #[.int .i64 t420, .slice Ao33 t421.length co33] (0, 0) _ rfl (bz BK418) Try.underlying58 rfl (by kernel_rfl)) rfl ?_
    exact ⟨_, er, (kf (Kd.R_types HO423.out BK418.out (by decide))), bel⟩
   ·simp only [Option.some.injEq, Prod.mk.injEq] at H
    obtain ⟨rfl, rfl, rfl⟩ := H
    go_enter Try.func38, Try.ntmps38
    go_wp2_with (first | ((with_reducible refine gd 2 ?_); refine bx w 2 #[.slice A0_0 l0_0.length c0_0, .int .i64 a0_1, .int .i64 a0_2, .int .i64 a0_3, .slice A0_4 l0_4.length c0_4, .bool a0_5, .slice A0_6 l0_6.length c0_6, .slice A0_7 l0_7.length c0_7, .slice A0_8 l0_8.length c0_8] 37 ?_; clear HB; intro gb417 w37 BK417 GE417 HB) | ((with_reducible refine gd 4 ?_); refine by_ w 4 #[.int .i64 0, .slice none 0 0] 58 ?_; clear HB; intro gb418 hg w38 BK418 GE418 hb HB; have NB417_418 := am ((nlt hg BK417.out : gb417 ≠ gb418)); have NB418_417 := am ((ngt hg BK417.out : gb418 ≠ gb417)); replace BK417 := b1 BK417 hb; clear hb hg; have hnb39 := NB417_418.out; have hnc39 := NB418_417.out; obtain ⟨_, _, _, _, _, _, _, _, _, _, _, _, _, _, _, _, _, _⟩ := cf9 BK417.out) | ((with_reducible refine gc 76 ?_); refine gl2 10 Try.func76 (spec_l18Ok.calls k _ _ l0_0 a0_1 a0_2 a0_3 _ _ l0_4 a0_5 _ _ l0_6 _ _ l0_7 _ _ l0_8 a1 true _ (cb HR0_0 HB) HC0_0.out (cb HR0_4 HB) HC0_4.out (cb HR0_6 HB) HC0_6.out (cb HR0_7 HB) HC0_7.out (cb HR0_8 HB) HC0_8.out A3.out) ?_; intro w41 hb; replace BK417 := b1 BK417 hb; replace BK418 := b1 BK418 hb; replace HB := b2 hb; clear hb; obtain ⟨_, _, _, _, _, _, _, _, _, _, _, _, _, _, _, _, _, _⟩ := cf9 BK417.out) | ((with_reducible refine gc 80 ?_); refine gl 16 Try.func80 (spec_l18Net.calls k _ _ l0_0 a0_1 a0_2 a0_3 _ _ l0_4 a0_5 _ _ l0_6 _ _ l0_7 _ _ l0_8 a1 t420 t421 t424 _ (cb HR0_0 HB) HC0_0.out (cb HR0_4 HB) HC0_4.out (cb HR0_6 HB) HC0_6.out (cb HR0_7 HB) HC0_7.out (cb HR0_8 HB) HC0_8.out A5.out) ?_; rintro e w43 ⟨v422, rfl, ho0, hb⟩; refine ⟨_, rfl, ?_⟩; have HO423 := am (Kd.R_lower ho0 (below_size bel)); replace BK417 := b1 BK417 hb; replace BK418 := b1 BK418 hb; replace HB := b2 hb; clear hb; (try clear ho0)) | ((with_reducible refine gd 6 ?_); refine by_ w 6 #[.int .i64 0, .slice none 0 0] 58 ?_; clear HB; intro gb425 hg w44 BK425 GE425 hb HB; have NB417_425 := am ((nlt hg BK417.out : gb417 ≠ gb425)); have NB425_417 := am ((ngt hg BK417.out : gb425 ≠ gb417)); have NB418_425 := am ((nlt hg BK418.out : gb418 ≠ gb425)); have NB425_418 := am ((ngt hg BK418.out : gb425 ≠ gb418)); replace HO423 := am (Kd.R_below (rk HO423.out) hb); replace BK417 := b1 BK417 hb; replace BK418 := b1 BK418 hb; clear hb hg; have hnb45 := NB425_417.out; have hnc45 := NB417_425.out; have hnb46 := NB425_418.out; have hnc46 := NB418_425.out; obtain ⟨_, _, _, _⟩ := cf2 BK425.out; obtain ⟨Ao48, co48, eo48⟩ := Kd.R_slice HO423.out; subst eo48) | (go_at_call 81; (with_reducible refine (spec_NetOk.calls k t420 _ _ t421 false _ ?side1 ?side2 A20.out).mono ?_); (case side1 => refine (Kd.R_reads' (e := 112) (base := w.heap.size) (ok := fun k_ => True) (n := t421.length) (c := co48) ?_).2.2; exact (kf (Kd.R_types HO423.out BK425.out (by decide)))); (case side2 => exact (Kd.R_reads' HO423.out).2.1); rintro e w49 ⟨rfl, hb⟩; replace HO423 := am (Kd.R_below (kf (Kd.R_types HO423.out BK425.out (by decide))) hb); replace BK417 := b1 BK417 hb; replace BK418 := b1 BK418 hb; replace BK425 := bq BK425 hb; replace HB := b2 hb; (try clear hb); (try clear hk); obtain ⟨_, _, _, _⟩ := cf2 BK418.out))
    refine bodyPost_ret (results_ct rfl _ _ gb418 58 #[.int .i64 0, .slice none 0 0] (0, 0) _ rfl (bz BK418) Try.underlying58 rfl (by kernel_rfl)) rfl ?_
    exact ⟨_, er, by first | exact Kd.R_nil _ _ _ _ _ | exact Kd.N_nil _ _ _ _ _ | exact Kd.V_nil _ _ _ _ _ | exact Kd.Q_nil _ _ _ _ _ | exact Kd.S_nil _ _ _ _ _, bel⟩
 ·simp only [Option.some.injEq, Prod.mk.injEq] at H
  obtain ⟨rfl, rfl, rfl⟩ := H
  go_enter Try.func38, Try.ntmps38
  go_wp2_with (first | ((with_reducible refine gd 2 ?_); refine bx w 2 #[.slice A0_0 l0_0.length c0_0, .int .i64 a0_1, .int .i64 a0_2, .int .i64 a0_3, .slice A0_4 l0_4.length c0_4, .bool a0_5, .slice A0_6 l0_6.length c0_6, .slice A0_7 l0_7.length c0_7, .slice A0_8 l0_8.length c0_8] 37 ?_; clear HB; intro gb417 w51 BK417 GE417 HB) | ((with_reducible refine gd 4 ?_); refine by_ w 4 #[.int .i64 0, .slice none 0 0] 58 ?_; clear HB; intro gb418 hg w52 BK418 GE418 hb HB; have NB417_418 := am ((nlt hg BK417.out : gb417 ≠ gb418)); have NB418_417 := am ((ngt hg BK417.out : gb418 ≠ gb417)); replace BK417 := b1 BK417 hb; clear hb hg; have hnb53 := NB417_418.out; have hnc53 := NB418_417.out; obtain ⟨_, _, _, _, _, _, _, _, _, _, _, _, _, _, _, _, _, _⟩ := cf9 BK417.out) | ((with_reducible refine gc 76 ?_); refine gl2 10 Try.func76 (spec_l18Ok.calls k _ _ l0_0 a0_1 a0_2 a0_3 _ _ l0_4 a0_5 _ _ l0_6 _ _ l0_7 _ _ l0_8 a1 false _ (cb HR0_0 HB) HC0_0.out (cb HR0_4 HB) HC0_4.out (cb HR0_6 HB) HC0_6.out (cb HR0_7 HB) HC0_7.out (cb HR0_8 HB) HC0_8.out A3.out) ?_; intro w55 hb; replace BK417 := b1 BK417 hb; replace BK418 := b1 BK418 hb; replace HB := b2 hb; clear hb; obtain ⟨_, _, _, _⟩ := cf2 BK418.out))
  refine bodyPost_ret (results_ct rfl _ _ gb418 58 #[.int .i64 0, .slice none 0 0] (0, 0) _ rfl (bz BK418) Try.underlying58 rfl (by kernel_rfl)) rfl ?_
  exact ⟨_, er, by first | exact Kd.R_nil _ _ _ _ _ | exact Kd.N_nil _ _ _ _ _ | exact Kd.V_nil _ _ _ _ _ | exact Kd.Q_nil _ _ _ _ _ | exact Kd.S_nil _ _ _ _ _, bel⟩
def impl_within.f (a0 : Int) (a1 : Int) (a2 : Int) : Option (Bool) := if a1 ≤ a0 then (some (decide (a0 ≤ a2))) else (some false)
theorem impl_within.calls (a0 : Int) (a1 : Int) (a2 : Int) (r : Bool) (w : World) (h : impl_within.f a0 a1 a2 = some r) : Calls Try.prog 55 #[.int .i64 a0, .int .i64 a1, .int .i64 a2] w fun e w' => e = .returned (.bool r) ∧ Drawn0 w w' := by
 have H : (if a1 ≤ a0 then (some (decide (a0 ≤ a2))) else (some false)) = some r := h
 clear h
 replace H := i1 H; obtain ⟨c4b0, H⟩ | ⟨c4b0, H⟩ := H
 ·obtain rfl := Option.some.inj H
  go_enter Try.func55, Try.ntmps55
  go_wp2
  go_ret
  exact ⟨es, by repeat (first | exact Drawn0.refl _ | apply Drawn0.step)⟩
 ·obtain rfl := Option.some.inj H
  go_enter Try.func55, Try.ntmps55
  go_wp2
  go_ret
  exact ⟨es, by repeat (first | exact Drawn0.refl _ | apply Drawn0.step)⟩
def impl_IsName.l0 : Nat → ByteArray → Int → Int → Option (Bool)
  | 0, _, _, _ => none
  | k + 1, x0, x6, x7 => if x7 < x6 then (if 0 ≤ x7 then (if x7 < (x0.size : Int) then (if (bt x0 x7) ≥ 97 then (if ((bt x0 x7) ≤ 122) then (impl_IsName.l0 k x0 x6 (wrap64 (x7 + 1))) else (if x7 = 0 then (some false) else (if (bt x0 x7) < 48 then (some false) else (if (bt x0 x7) > 57 then (some false) else (impl_IsName.l0 k x0 x6 (wrap64 (x7 + 1))))))) else (if x7 = 0 then (some false) else (if (bt x0 x7) < 48 then (some false) else (if (bt x0 x7) > 57 then (some false) else (impl_IsName.l0 k x0 x6 (wrap64 (x7 + 1))))))) else (none)) else (none)) else ((impl_within.f (x0.size : Int) 1 8).bind fun t427 => (some t427))
def impl_IsName.f (k : Nat) (a0 : ByteArray) : Option (Bool) := impl_IsName.l0 k a0 (a0.size : Int) 0
theorem impl_IsName.calls (k : Nat) (a0 : ByteArray) (r : Bool) (w : World) (h : impl_IsName.f k a0 = some r) : Calls Try.prog 137 #[.string a0] w fun e w' => e = .returned (.bool r) ∧ Drawn0 w w' := by
 have H : (impl_IsName.l0 k a0 (a0.size : Int) 0) = some r := h
 clear h
 have H' := am H
 clear H
 go_enter Try.func137, Try.ntmps137
 go_wp2
 go_loopg [7] k (fun kq v7 w' => ∃ (x7_1 : Int), v7 = .int .i64 x7_1 ∧ Aside0 (impl_IsName.l0 kq a0 (a0.size : Int) x7_1 = some r) ∧ Aside0 (kq ≤ k) ∧ Drawn0 w w')
 case atStart => exact ⟨(0), (es), H', ⟨Nat.le_refl _⟩, by repeat (first | exact Drawn0.refl _ | apply Drawn0.step)⟩
 case round =>
  clear H'
  obtain ⟨x7_1, rfl, HA, HK1, ⟨m1, rfl⟩⟩ := hrel
  cases gk with
  | zero => exact absurd HA.out (by simp [impl_IsName.l0])
  | succ k1 =>
   have H := HA.out
   clear HA
   simp only [impl_IsName.l0] at H
   replace H := i1 H; obtain ⟨c2b0, H⟩ | ⟨c2b0, H⟩ := H
   ·replace H := i0 H; obtain ⟨c3b0, H⟩ := H
    replace H := i0 H; obtain ⟨c4b0, H⟩ := H
    replace H := i1 H; obtain ⟨c6b0, H⟩ | ⟨c6b0, H⟩ := H
    ·replace H := i1 H; obtain ⟨c8b0, H⟩ | ⟨c8b0, H⟩ := H
     ·have H' := am H
      clear H
      have p5 : 0 ≤ (x7_1 : Int) := asm
      have q5 : x7_1 < (a0.size : Int) := asm
      have hx5 := bt_at a0 x7_1
      replace p5 := eq_true p5
      replace q5 := eq_true q5
      have p7 : 0 ≤ (x7_1 : Int) := asm
      have q7 : x7_1 < (a0.size : Int) := asm
      have hx7 := bt_at a0 x7_1
      replace p7 := eq_true p7
      replace q7 := eq_true q7
      go_wp2
      go_roundg k1
      case measure => have := HK1.out; omega
      case rel => exact ⟨(wrap64 (x7_1 + 1)), (es), H', ⟨by have := HK1.out; omega⟩, by repeat (first | exact Drawn0.refl _ | apply Drawn0.step)⟩
     ·replace H := ie H; obtain ⟨c9b0, c9b1, H⟩ | ⟨⟨c9, c9b0, c9b1⟩, H⟩ := H
      ·obtain rfl := Option.some.inj H
       have p5 : 0 ≤ (x7_1 : Int) := asm
       have q5 : x7_1 < (a0.size : Int) := asm
       have hx5 := bt_at a0 x7_1
       replace p5 := eq_true p5
       replace q5 := eq_true q5
       have p7 : 0 ≤ (x7_1 : Int) := asm
       have q7 : x7_1 < (a0.size : Int) := asm
       have hx7 := bt_at a0 x7_1
       replace p7 := eq_true p7
       replace q7 := eq_true q7
       go_wp2
       go_ret
       exact ⟨es, by repeat (first | exact Drawn0.refl _ | apply Drawn0.step)⟩
      ·replace H := i1 H; obtain ⟨c11b0, H⟩ | ⟨c11b0, H⟩ := H
       ·obtain rfl := Option.some.inj H
        have p5 : 0 ≤ (x7_1 : Int) := asm
        have q5 : x7_1 < (a0.size : Int) := asm
        have hx5 := bt_at a0 x7_1
        replace p5 := eq_true p5
        replace q5 := eq_true q5
        have p7 : 0 ≤ (x7_1 : Int) := asm
        have q7 : x7_1 < (a0.size : Int) := asm
        have hx7 := bt_at a0 x7_1
        replace p7 := eq_true p7
        replace q7 := eq_true q7
        have p10 : 0 ≤ (x7_1 : Int) := asm
        have q10 : x7_1 < (a0.size : Int) := asm
        have hx10 := bt_at a0 x7_1
        replace p10 := eq_true p10
        replace q10 := eq_true q10
        go_wp2
        go_ret
        exact ⟨es, by repeat (first | exact Drawn0.refl _ | apply Drawn0.step)⟩
       ·replace H := i1 H; obtain ⟨c13b0, H⟩ | ⟨c13b0, H⟩ := H
        ·obtain rfl := Option.some.inj H
         have p5 : 0 ≤ (x7_1 : Int) := asm
         have q5 : x7_1 < (a0.size : Int) := asm
         have hx5 := bt_at a0 x7_1
         replace p5 := eq_true p5
         replace q5 := eq_true q5
         have p7 : 0 ≤ (x7_1 : Int) := asm
         have q7 : x7_1 < (a0.size : Int) := asm
         have hx7 := bt_at a0 x7_1
         replace p7 := eq_true p7
         replace q7 := eq_true q7
         have p10 : 0 ≤ (x7_1 : Int) := asm
         have q10 : x7_1 < (a0.size : Int) := asm
         have hx10 := bt_at a0 x7_1
         replace p10 := eq_true p10
         replace q10 := eq_true q10
         have p12 : 0 ≤ (x7_1 : Int) := asm
         have q12 : x7_1 < (a0.size : Int) := asm
         have hx12 := bt_at a0 x7_1
         replace p12 := eq_true p12
         replace q12 := eq_true q12
         go_wp2
         go_ret
         exact ⟨es, by repeat (first | exact Drawn0.refl _ | apply Drawn0.step)⟩
        ·have H' := am H
         clear H
         have p5 : 0 ≤ (x7_1 : Int) := asm
         have q5 : x7_1 < (a0.size : Int) := asm
         have hx5 := bt_at a0 x7_1
         replace p5 := eq_true p5
         replace q5 := eq_true q5
         have p7 : 0 ≤ (x7_1 : Int) := asm
         have q7 : x7_1 < (a0.size : Int) := asm
         have hx7 := bt_at a0 x7_1
         replace p7 := eq_true p7
         replace q7 := eq_true q7
         have p10 : 0 ≤ (x7_1 : Int) := asm
         have q10 : x7_1 < (a0.size : Int) := asm
         have hx10 := bt_at a0 x7_1
         replace p10 := eq_true p10
         replace q10 := eq_true q10
         have p12 : 0 ≤ (x7_1 : Int) := asm
         have q12 : x7_1 < (a0.size : Int) := asm
         have hx12 := bt_at a0 x7_1
         replace p12 := eq_true p12
         replace q12 := eq_true q12
         go_wp2
         go_roundg k1
         case measure => have := HK1.out; omega
         case rel => exact ⟨(wrap64 (x7_1 + 1)), (es), H', ⟨by have := HK1.out; omega⟩, by repeat (first | exact Drawn0.refl _ | apply Drawn0.step)⟩
    ·replace H := ie H; obtain ⟨c14b0, c14b1, H⟩ | ⟨⟨c14, c14b0, c14b1⟩, H⟩ := H
     ·obtain rfl := Option.some.inj H
      have p5 : 0 ≤ (x7_1 : Int) := asm
      have q5 : x7_1 < (a0.size : Int) := asm
      have hx5 := bt_at a0 x7_1
      replace p5 := eq_true p5
      replace q5 := eq_true q5
      go_wp2
      go_ret
      exact ⟨es, by repeat (first | exact Drawn0.refl _ | apply Drawn0.step)⟩
     ·replace H := i1 H; obtain ⟨c16b0, H⟩ | ⟨c16b0, H⟩ := H
      ·obtain rfl := Option.some.inj H
       have p5 : 0 ≤ (x7_1 : Int) := asm
       have q5 : x7_1 < (a0.size : Int) := asm
       have hx5 := bt_at a0 x7_1
       replace p5 := eq_true p5
       replace q5 := eq_true q5
       have p15 : 0 ≤ (x7_1 : Int) := asm
       have q15 : x7_1 < (a0.size : Int) := asm
       have hx15 := bt_at a0 x7_1
       replace p15 := eq_true p15
       replace q15 := eq_true q15
       go_wp2
       go_ret
       exact ⟨es, by repeat (first | exact Drawn0.refl _ | apply Drawn0.step)⟩
      ·replace H := i1 H; obtain ⟨c18b0, H⟩ | ⟨c18b0, H⟩ := H
       ·obtain rfl := Option.some.inj H
        have p5 : 0 ≤ (x7_1 : Int) := asm
        have q5 : x7_1 < (a0.size : Int) := asm
        have hx5 := bt_at a0 x7_1
        replace p5 := eq_true p5
        replace q5 := eq_true q5
        have p15 : 0 ≤ (x7_1 : Int) := asm
        have q15 : x7_1 < (a0.size : Int) := asm
        have hx15 := bt_at a0 x7_1
        replace p15 := eq_true p15
        replace q15 := eq_true q15
        have p17 : 0 ≤ (x7_1 : Int) := asm
        have q17 : x7_1 < (a0.size : Int) := asm
        have hx17 := bt_at a0 x7_1
        replace p17 := eq_true p17
        replace q17 := eq_true q17
        go_wp2
        go_ret
        exact ⟨es, by repeat (first | exact Drawn0.refl _ | apply Drawn0.step)⟩
       ·have H' := am H
        clear H
        have p5 : 0 ≤ (x7_1 : Int) := asm
        have q5 : x7_1 < (a0.size : Int) := asm
        have hx5 := bt_at a0 x7_1
        replace p5 := eq_true p5
        replace q5 := eq_true q5
        have p15 : 0 ≤ (x7_1 : Int) := asm
        have q15 : x7_1 < (a0.size : Int) := asm
        have hx15 := bt_at a0 x7_1
        replace p15 := eq_true p15
        replace q15 := eq_true q15
        have p17 : 0 ≤ (x7_1 : Int) := asm
        have q17 : x7_1 < (a0.size : Int) := asm
        have hx17 := bt_at a0 x7_1
        replace p17 := eq_true p17
        replace q17 := eq_true q17
        go_wp2
        go_roundg k1
        case measure => have := HK1.out; omega
        case rel => exact ⟨(wrap64 (x7_1 + 1)), (es), H', ⟨by have := HK1.out; omega⟩, by repeat (first | exact Drawn0.refl _ | apply Drawn0.step)⟩
   ·replace H := bm H; obtain ⟨t427, A19, H⟩ := H
    obtain rfl := Option.some.inj H
    go_wp2_with (first | ((with_reducible refine gc 55 ?_); refine gl1 41 Try.func55 (impl_within.calls (a0.size : Int) 1 8 t427 _ A19.out) ?_; intro nd))
    go_ret
    exact ⟨es, by repeat (first | exact Drawn0.refl _ | apply Drawn0.step)⟩
def impl_TeamOk.f (k : Nat) (a0_0 : ByteArray) (a0_1 : Int) (a0_2 : Int) : Option (Bool) := (impl_IsName.f k a0_0).bind fun t429 => (if t429 = true then ((impl_within.f a0_1 0 5).bind fun t430 => (if t430 = true then ((impl_within.f a0_2 1 8).bind fun t431 => (some t431)) else (some false))) else (some false))
theorem impl_TeamOk.calls (k : Nat) (a0_0 : ByteArray) (a0_1 : Int) (a0_2 : Int) (r : Bool) (w : World) (h : impl_TeamOk.f k a0_0 a0_1 a0_2 = some r) : Calls Try.prog 120 #[.agg #[.string a0_0, .int .i64 a0_1, .int .i64 a0_2]] w fun e w' => e = .returned (.bool r) ∧ Below w.heap.size w w' := by
 have hu101 := Try.underlying101
 have HB := am (Below.refl w.heap.size w)
 have H : ((impl_IsName.f k a0_0).bind fun t429 => (if t429 = true then ((impl_within.f a0_1 0 5).bind fun t430 => (if t430 = true then ((impl_within.f a0_2 1 8).bind fun t431 => (some t431)) else (some false))) else (some false))) = some r := h
 clear h
 replace H := bm H; obtain ⟨t429, A2, H⟩ := H
 replace H := ib H; obtain ⟨rfl, H⟩ | ⟨rfl, H⟩ := H
 ·replace H := bm H; obtain ⟨t430, A4, H⟩ := H
  replace H := ib H; obtain ⟨rfl, H⟩ | ⟨rfl, H⟩ := H
  ·replace H := bm H; obtain ⟨t431, A6, H⟩ := H
   obtain rfl := Option.some.inj H
   go_enter Try.func120, Try.ntmps120
   go_wp2_with (first | ((with_reducible refine gd 1 ?_); refine bx w 1 #[.string a0_0, .int .i64 a0_1, .int .i64 a0_2] 101 ?_; clear HB; intro gb428 w7 BK428 GE428 HB; obtain ⟨_, _, _, _, _, _⟩ := cf3 BK428.out) | ((with_reducible refine gc 137 ?_); refine gl1 5 Try.func137 (impl_IsName.calls k a0_0 true _ A2.out) ?_; intro nd) | (go_at_call 55; refine cm1 (impl_within.calls a0_1 0 5 true _ A4.out) ?_; intro nd) | (go_at_call 55; refine cm1 (impl_within.calls a0_2 1 8 t431 _ A6.out) ?_; intro nd))
   go_ret
   exact ⟨er, bel⟩
  ·obtain rfl := Option.some.inj H
   go_enter Try.func120, Try.ntmps120
   go_wp2_with (first | ((with_reducible refine gd 1 ?_); refine bx w 1 #[.string a0_0, .int .i64 a0_1, .int .i64 a0_2] 101 ?_; clear HB; intro gb428 w9 BK428 GE428 HB; obtain ⟨_, _, _, _, _, _⟩ := cf3 BK428.out) | ((with_reducible refine gc 137 ?_); refine gl1 5 Try.func137 (impl_IsName.calls k a0_0 true _ A2.out) ?_; intro nd) | (go_at_call 55; refine cm1 (impl_within.calls a0_1 0 5 false _ A4.out) ?_; intro nd))
   go_ret
   exact ⟨er, bel⟩
 ·obtain rfl := Option.some.inj H
  go_enter Try.func120, Try.ntmps120
  go_wp2_with (first | ((with_reducible refine gd 1 ?_); refine bx w 1 #[.string a0_0, .int .i64 a0_1, .int .i64 a0_2] 101 ?_; clear HB; intro gb428 w11 BK428 GE428 HB; obtain ⟨_, _, _, _, _, _⟩ := cf3 BK428.out) | ((with_reducible refine gc 137 ?_); refine gl1 5 Try.func137 (impl_IsName.calls k a0_0 false _ A2.out) ?_; intro nd))
  go_ret
  exact ⟨er, bel⟩
-- NOT PRINTED: function 138 (impl_Team_138)

-- NOT PRINTED: function 121 (impl_Team_121)

def impl_FieldOk_1.f (a0_0 : ByteArray) (a0_1 : Int) (a0_2 : Int) (a1_0 : ByteArray) (a1_1 : Int) (a1_2 : Int) : Option (Bool) := if a0_0.toList = a1_0.toList then (some true) else (some (a0_2 == a1_2))
theorem impl_FieldOk_1.calls (a0_0 : ByteArray) (a0_1 : Int) (a0_2 : Int) (gb432 : Nat) (a1_0 : ByteArray) (a1_1 : Int) (a1_2 : Int) (r : Bool) (w : World) (hbk432 : w.heap[gb432]? = some (.cells #[.string a1_0, .int .i64 a1_1, .int .i64 a1_2] 101 (0, 0))) (h : impl_FieldOk_1.f a0_0 a0_1 a0_2 a1_0 a1_1 a1_2 = some r) : Calls Try.prog 122 #[.agg #[.string a0_0, .int .i64 a0_1, .int .i64 a0_2], .pointer (some ⟨gb432, 0, none⟩)] w fun e w' => e = .returned (.bool r) ∧ Below w.heap.size w w' := by
 have hu101 := Try.underlying101
 have BK432 := am hbk432
 clear hbk432
 have HB := am (Below.refl w.heap.size w)
 have H : (if a0_0.toList = a1_0.toList then (some true) else (some (a0_2 == a1_2))) = some r := h
 clear h
 by_cases c3 : a0_0.toList = a1_0.toList
 ·rw [if_pos c3] at H
  have c3b0 : (a0_0.toList == a1_0.toList) = true := beq_iff_eq.mpr c3
  have c3b1 : (a0_0.toList != a1_0.toList) = false := bne_eq_false_iff_eq.mpr c3
  clear c3
  obtain rfl := Option.some.inj H
  go_enter Try.func122, Try.ntmps122
  go_wp2_with (first | ((with_reducible refine gd 2 ?_); refine by_ w 2 #[.string a0_0, .int .i64 a0_1, .int .i64 a0_2] 101 ?_; clear HB; intro gb433 hg w4 BK433 GE433 hb HB; have NB432_433 := am ((nlt hg BK432.out : gb432 ≠ gb433)); have NB433_432 := am ((ngt hg BK432.out : gb433 ≠ gb432)); replace BK432 := b1 BK432 hb; clear hb hg; have hnb5 := NB433_432.out; have hnc5 := NB432_433.out; obtain ⟨_, _, _, _, _, _⟩ := cf3 BK433.out; obtain ⟨_, _, _, _, _, _⟩ := cf3 BK432.out))
  go_ret
  exact ⟨er, bel⟩
 ·rw [if_neg c3] at H
  have c3b0 : (a0_0.toList == a1_0.toList) = false := beq_eq_false_iff_ne.mpr c3
  have c3b1 : (a0_0.toList != a1_0.toList) = true := bne_iff_ne.mpr c3
  obtain rfl := Option.some.inj H
  go_enter Try.func122, Try.ntmps122
  go_wp2_with (first | ((with_reducible refine gd 2 ?_); refine by_ w 2 #[.string a0_0, .int .i64 a0_1, .int .i64 a0_2] 101 ?_; clear HB; intro gb433 hg w8 BK433 GE433 hb HB; have NB432_433 := am ((nlt hg BK432.out : gb432 ≠ gb433)); have NB433_432 := am ((ngt hg BK432.out : gb433 ≠ gb432)); replace BK432 := b1 BK432 hb; clear hb hg; have hnb9 := NB433_432.out; have hnc9 := NB432_433.out; obtain ⟨_, _, _, _, _, _⟩ := cf3 BK433.out; obtain ⟨_, _, _, _, _, _⟩ := cf3 BK432.out))
  go_ret
  exact ⟨er, bel⟩
def slices_IndexFunc_impl_Team_impl_Team_impl_FieldOk_1.l0 : Nat → List (S101) → Int → Int → ByteArray → Int → Int → Option (Int)
  | 0, _, _, _, _, _, _ => none
  | k + 1, x0, x7, x8, x435000, x435001, x435002 => if x8 < x7 then (if 0 ≤ x8 then (if x8 < (x0.length : Int) then ((impl_FieldOk_1.f ((rd_T101 x0 x8).f0) ((rd_T101 x0 x8).f1) ((rd_T101 x0 x8).f2) x435000 x435001 x435002).bind fun t436 => (if t436 = true then (some x8) else (slices_IndexFunc_impl_Team_impl_Team_impl_FieldOk_1.l0 k x0 x7 (wrap64 (x8 + 1)) x435000 x435001 x435002))) else (none)) else (none)) else (some (-1))
def slices_IndexFunc_impl_Team_impl_Team_impl_FieldOk_1.f (k : Nat) (l0 : List (S101))  (a2_0 : ByteArray) (a2_1 : Int) (a2_2 : Int) : Option (Int) := slices_IndexFunc_impl_Team_impl_Team_impl_FieldOk_1.l0 k l0 (l0.length : Int) 0 a2_0 a2_1 a2_2
theorem slices_IndexFunc_impl_Team_impl_Team_impl_FieldOk_1.calls (k : Nat) (A0 : Option Addr) (c0 : Nat) (l0 : List (S101))  (gb434 : Nat) (a2_0 : ByteArray) (a2_1 : Int) (a2_2 : Int) (r : Int) (w : World) (hr0 : Kd.C k101 w A0 l0.length l0) (hc0 : l0.length ≤ c0) (hbk434 : w.heap[gb434]? = some (.cells #[.string a2_0, .int .i64 a2_1, .int .i64 a2_2] 101 (0, 0))) (h : slices_IndexFunc_impl_Team_impl_Team_impl_FieldOk_1.f k l0 a2_0 a2_1 a2_2 = some r) : Calls Try.prog 138 #[.slice A0 l0.length c0, .func (.func 122) #[] #[.pointer (some ⟨gb434, 0, none⟩)]] w fun e w' => e = .returned (.int .i64 r) ∧ Below w.heap.size w w' := by
 have hu101 := Try.underlying101
 have HR0 := am hr0
 have HC0 := am hc0
 clear hr0 hc0
 have BK434 := am hbk434
 clear hbk434
 have HB := am (Below.refl w.heap.size w)
 have H : (slices_IndexFunc_impl_Team_impl_Team_impl_FieldOk_1.l0 k l0 (l0.length : Int) 0 a2_0 a2_1 a2_2) = some r := h
 clear h
 have H' := am H
 clear H
 go_enter Try.func138, Try.ntmps138
 go_wp2
 go_loopg [8] k (fun kq v8 w' => ∃ (x8_1 : Int), v8 = .int .i64 x8_1 ∧ Aside0 (slices_IndexFunc_impl_Team_impl_Team_impl_FieldOk_1.l0 kq l0 (l0.length : Int) x8_1 a2_0 a2_1 a2_2 = some r) ∧ Aside0 (kq ≤ k) ∧ Aside0 (w'.heap[gb434]? = some (.cells #[.string a2_0, .int .i64 a2_1, .int .i64 a2_2] 101 (0, 0))) ∧ Aside0 (Below w.heap.size w w'))
 case atStart => exact ⟨(0), (es), H', ⟨Nat.le_refl _⟩, ⟨bk BK434.out⟩, ⟨bel⟩⟩
 case round =>
  clear H'
  obtain ⟨x8_1, rfl, HA, HK1, BK434, HB⟩ := hrel
  cases gk with
  | zero => exact absurd HA.out (by simp [slices_IndexFunc_impl_Team_impl_Team_impl_FieldOk_1.l0])
  | succ k1 =>
   have H := HA.out
   clear HA
   simp only [slices_IndexFunc_impl_Team_impl_Team_impl_FieldOk_1.l0] at H
   replace H := i1 H; obtain ⟨c4b0, H⟩ | ⟨c4b0, H⟩ := H
   ·replace H := i0 H; obtain ⟨c5b0, H⟩ := H
    replace H := i0 H; obtain ⟨c6b0, H⟩ := H
    replace H := bm H; obtain ⟨t436, A7, H⟩ := H
    replace H := ib H; obtain ⟨rfl, H⟩ | ⟨rfl, H⟩ := H
    ·obtain rfl := Option.some.inj H
     have p435 : 0 ≤ (x8_1 : Int) := asm
     have q435 : x8_1 < (l0.length : Int) := asm
     obtain ⟨ad435, e435, hx435_0, hx435_1, hx435_2⟩ := hc3 HB.out (at_T101 HR0.out x8_1 p435 q435)
     cases e435
     replace p435 := eq_true p435
     replace q435 := eq_true q435
     go_wp2_with (first | (go_at_call 122; refine cm2 (impl_FieldOk_1.calls ((rd_T101 l0 x8_1).f0) ((rd_T101 l0 x8_1).f1) ((rd_T101 l0 x8_1).f2) gb434 a2_0 a2_1 a2_2 true _ (bk BK434.out) A7.out) ?_; intro w9 hb; replace BK434 := b1 BK434 hb; replace HB := b2 hb; clear hb))
     go_ret
     exact ⟨er, bel⟩
    ·have H' := am H
     clear H
     have p435 : 0 ≤ (x8_1 : Int) := asm
     have q435 : x8_1 < (l0.length : Int) := asm
     obtain ⟨ad435, e435, hx435_0, hx435_1, hx435_2⟩ := hc3 HB.out (at_T101 HR0.out x8_1 p435 q435)
     cases e435
     replace p435 := eq_true p435
     replace q435 := eq_true q435
     go_wp2_with (first | (go_at_call 122; refine cm2 (impl_FieldOk_1.calls ((rd_T101 l0 x8_1).f0) ((rd_T101 l0 x8_1).f1) ((rd_T101 l0 x8_1).f2) gb434 a2_0 a2_1 a2_2 false _ (bk BK434.out) A7.out) ?_; intro w10 hb; replace BK434 := b1 BK434 hb; replace HB := b2 hb; clear hb))
     go_roundg k1
     case measure => have := HK1.out; omega
     case rel => exact ⟨(wrap64 (x8_1 + 1)), (es), H', ⟨by have := HK1.out; omega⟩, ⟨bk BK434.out⟩, ⟨bel⟩⟩
   ·obtain rfl := Option.some.inj H
    go_wp2
    go_ret
    exact ⟨er, bel⟩
def slices_ContainsFunc_impl_Team_impl_Team_impl_FieldOk_1.f (k : Nat) (l0 : List (S101))  (a2_0 : ByteArray) (a2_1 : Int) (a2_2 : Int) : Option (Bool) := (slices_IndexFunc_impl_Team_impl_Team_impl_FieldOk_1.f k l0 a2_0 a2_1 a2_2).bind fun t438 => (some (decide (t438 ≥ 0)))
theorem slices_ContainsFunc_impl_Team_impl_Team_impl_FieldOk_1.calls (k : Nat) (A0 : Option Addr) (c0 : Nat) (l0 : List (S101))  (gb437 : Nat) (a2_0 : ByteArray) (a2_1 : Int) (a2_2 : Int) (r : Bool) (w : World) (hr0 : Kd.C k101 w A0 l0.length l0) (hc0 : l0.length ≤ c0) (hbk437 : w.heap[gb437]? = some (.cells #[.string a2_0, .int .i64 a2_1, .int .i64 a2_2] 101 (0, 0))) (h : slices_ContainsFunc_impl_Team_impl_Team_impl_FieldOk_1.f k l0 a2_0 a2_1 a2_2 = some r) : Calls Try.prog 121 #[.slice A0 l0.length c0, .func (.func 122) #[] #[.pointer (some ⟨gb437, 0, none⟩)]] w fun e w' => e = .returned (.bool r) ∧ Below w.heap.size w w' := by
 have HR0 := am hr0
 have HC0 := am hc0
 clear hr0 hc0
 have BK437 := am hbk437
 clear hbk437
 have HB := am (Below.refl w.heap.size w)
 have H : ((slices_IndexFunc_impl_Team_impl_Team_impl_FieldOk_1.f k l0 a2_0 a2_1 a2_2).bind fun t438 => (some (decide (t438 ≥ 0)))) = some r := h
 clear h
 replace H := bm H; obtain ⟨t438, A4, H⟩ := H
 obtain rfl := Option.some.inj H
 go_enter Try.func121, Try.ntmps121
 go_wp2_with (first | ((with_reducible refine gc 138 ?_); refine gl2 7 Try.func138 (slices_IndexFunc_impl_Team_impl_Team_impl_FieldOk_1.calls k _ _ l0 gb437 a2_0 a2_1 a2_2 t438 _ (ck HR0.out) HC0.out (bk BK437.out) A4.out) ?_; intro w5 hb; replace BK437 := b1 BK437 hb; replace HB := b2 hb; clear hb))
 go_ret
 exact ⟨er, bel⟩
def impl_FieldOk.l0 : Nat → List (S101) → List (S101) → Int → Int → Option (Bool)
  | 0, _, _, _, _ => none
  | k + 1, x0, x5, x6, x7 => if x7 < x6 then (if 0 ≤ x7 then (if x7 < (x5.length : Int) then ((impl_TeamOk.f k ((rd_T101 x5 x7).f0) ((rd_T101 x5 x7).f1) ((rd_T101 x5 x7).f2)).bind fun t442 => (if t442 = true then (if x7 ≤ (x0.length : Int) then ((slices_ContainsFunc_impl_Team_impl_Team_impl_FieldOk_1.f k (x0.take (x7 : Int).toNat) ((rd_T101 x5 x7).f0) ((rd_T101 x5 x7).f1) ((rd_T101 x5 x7).f2)).bind fun t447 => (if t447 = true then (some false) else (impl_FieldOk.l0 k x0 x5 x6 (wrap64 (x7 + 1))))) else (none)) else (some false))) else (none)) else (none)) else ((impl_within.f (x0.length : Int) 2 8).bind fun t439 => (some t439))
def impl_FieldOk.f (k : Nat) (l0 : List (S101)) : Option (Bool) := impl_FieldOk.l0 k l0 l0 (l0.length : Int) 0
theorem impl_FieldOk.calls (k : Nat) (A0 : Option Addr) (c0 : Nat) (l0 : List (S101)) (r : Bool) (w : World) (hr0 : Kd.C k101 w A0 l0.length l0) (hc0 : l0.length ≤ c0) (h : impl_FieldOk.f k l0 = some r) : Calls Try.prog 96 #[.slice A0 l0.length c0] w fun e w' => e = .returned (.bool r) ∧ Below w.heap.size w w' := by
 have hu101 := Try.underlying101
 have HR0 := am hr0
 have HC0 := am hc0
 clear hr0 hc0
 have HB := am (Below.refl w.heap.size w)
 have H : (impl_FieldOk.l0 k l0 l0 (l0.length : Int) 0) = some r := h
 clear h
 have H' := am H
 clear H
 go_enter Try.func96, Try.ntmps96
 go_wp2
 go_loopg [7] k (fun kq v7 w' => ∃ (x7_1 : Int), v7 = .int .i64 x7_1 ∧ Aside0 (impl_FieldOk.l0 kq l0 l0 (l0.length : Int) x7_1 = some r) ∧ Aside0 (kq ≤ k) ∧ Aside0 (Below w.heap.size w w'))
 case atStart => exact ⟨(0), (es), H', ⟨Nat.le_refl _⟩, ⟨bel⟩⟩
 case round =>
  clear H'
  obtain ⟨x7_1, rfl, HA, HK1, HB⟩ := hrel
  cases gk with
  | zero => exact absurd HA.out (by simp [impl_FieldOk.l0])
  | succ k1 =>
   have H := HA.out
   clear HA
   simp only [impl_FieldOk.l0] at H
   replace H := i1 H; obtain ⟨c2b0, H⟩ | ⟨c2b0, H⟩ := H
   ·replace H := i0 H; obtain ⟨c3b0, H⟩ := H
    replace H := i0 H; obtain ⟨c4b0, H⟩ := H
    replace H := bm H; obtain ⟨t442, A5, H⟩ := H
    replace H := ib H; obtain ⟨rfl, H⟩ | ⟨rfl, H⟩ := H
    ·have c7b0 := eq_true (asm : 0 ≤ x7_1)
     replace H := i0 H; obtain ⟨c8b1, H⟩ := H
     have c8b0 := eq_true (of_decide_eq_true c8b1)
     obtain ⟨y443, hy443⟩ : ∃ y_ : List (S101), y_ = (l0.take (x7_1 : Int).toNat) := ⟨_, rfl⟩
     replace H : ((slices_ContainsFunc_impl_Team_impl_Team_impl_FieldOk_1.f k1 y443 ((rd_T101 l0 x7_1).f0) ((rd_T101 l0 x7_1).f1) ((rd_T101 l0 x7_1).f2)).bind fun t447 => (if t447 = true then (some false) else (impl_FieldOk.l0 k1 l0 l0 (l0.length : Int) (wrap64 (x7_1 + 1))))) = some r := by first | (rw [hy443]; with_reducible exact H) | (have H2_ := (Option.bind_some _ _).symm.trans H; rw [hy443]; with_reducible exact H2_) | (have H2_ := (Option.bind_some _ _).symm.trans H; with_reducible exact H2_) | with_reducible exact H | (rw [hy443]; exact H) | exact H
     have Ny443 := am hy443
     clear hy443
     replace H := bm H; obtain ⟨t447, A9, H⟩ := H
     replace H := ib H; obtain ⟨rfl, H⟩ | ⟨rfl, H⟩ := H
     ·obtain rfl := Option.some.inj H
      have p440 : 0 ≤ (x7_1 : Int) := asm
      have q440 : x7_1 < (l0.length : Int) := asm
      obtain ⟨ad440, e440, hx440_0, hx440_1, hx440_2⟩ := hc3 HB.out (at_T101 HR0.out x7_1 p440 q440)
      cases e440
      replace p440 := eq_true p440
      replace q440 := eq_true q440
      go_wp2_with (first | ((with_reducible refine gd 4 ?_); refine bx w 4 #[.string (⟨#[]⟩ : ByteArray), .int .i64 0, .int .i64 0] 101 ?_; clear HB; intro gb441 w11 BK441 GE441 HB; obtain ⟨_, _, _, _, _, _⟩ := cf3 BK441.out) | ((with_reducible refine gc 120 ?_); refine gl2 13 Try.func120 (impl_TeamOk.calls k1 ((rd_T101 l0 x7_1).f0) ((rd_T101 l0 x7_1).f1) ((rd_T101 l0 x7_1).f2) true _ A5.out) ?_; intro w13 hb; replace BK441 := bq BK441 hb; replace HB := b2 hb; clear hb; have q14 : (x7_1 : Int) ≤ ((l0.length : Int) : Int) := asm; obtain ⟨i014, hi014, _, hsz14, _⟩ := info_parts info101; have hroom14 : l0.length ≤ c0 := HC0.out; have hC14 : Kd.C k101 _ (some ad440) l0.length l0 := HR0.out; have hcut14 := cut_to (P := Try.prog) 33 101 .i64 Try.underlying33 hi014 (some ad440) l0.length c0 x7_1 (asm) q14 hroom14; have hr14 := Kd.C_take (m := (x7_1 : Int).toNat) hC14 (by omega); have hy14 : y443.length = (x7_1 : Int).toNat := (by rw [Ny443.out, List.length_take]; omega); rw [← Ny443.out] at hr14; rw [← hy14] at hcut14; have HR446 := am hr14; have HC446 := am (show y443.length ≤ c0 from by omega); clear hr14 hC14 hroom14 hi014 hsz14; have KY14 := am hy14; clear hy14; replace q14 := eq_true q14) | (go_at_call 121; refine cm2 (slices_ContainsFunc_impl_Team_impl_Team_impl_FieldOk_1.calls k1 _ _ y443 gb441 ((rd_T101 l0 x7_1).f0) ((rd_T101 l0 x7_1).f1) ((rd_T101 l0 x7_1).f2) true _ (cb HR446 HB) HC446.out (bk BK441.out) A9.out) ?_; intro w15 hb; replace BK441 := b1 BK441 hb; replace HB := b2 hb; clear hb))
      go_ret
      exact ⟨er, bel⟩
     ·have H' := am H
      clear H
      have p440 : 0 ≤ (x7_1 : Int) := asm
      have q440 : x7_1 < (l0.length : Int) := asm
      obtain ⟨ad440, e440, hx440_0, hx440_1, hx440_2⟩ := hc3 HB.out (at_T101 HR0.out x7_1 p440 q440)
      cases e440
      replace p440 := eq_true p440
      replace q440 := eq_true q440
      go_wp2_with (first | ((with_reducible refine gd 4 ?_); refine bx w 4 #[.string (⟨#[]⟩ : ByteArray), .int .i64 0, .int .i64 0] 101 ?_; clear HB; intro gb441 w16 BK441 GE441 HB; obtain ⟨_, _, _, _, _, _⟩ := cf3 BK441.out) | ((with_reducible refine gc 120 ?_); refine gl2 13 Try.func120 (impl_TeamOk.calls k1 ((rd_T101 l0 x7_1).f0) ((rd_T101 l0 x7_1).f1) ((rd_T101 l0 x7_1).f2) true _ A5.out) ?_; intro w18 hb; replace BK441 := bq BK441 hb; replace HB := b2 hb; clear hb; have q19 : (x7_1 : Int) ≤ ((l0.length : Int) : Int) := asm; obtain ⟨i019, hi019, _, hsz19, _⟩ := info_parts info101; have hroom19 : l0.length ≤ c0 := HC0.out; have hC19 : Kd.C k101 _ (some ad440) l0.length l0 := HR0.out; have hcut19 := cut_to (P := Try.prog) 33 101 .i64 Try.underlying33 hi019 (some ad440) l0.length c0 x7_1 (asm) q19 hroom19; have hr19 := Kd.C_take (m := (x7_1 : Int).toNat) hC19 (by omega); have hy19 : y443.length = (x7_1 : Int).toNat := (by rw [Ny443.out, List.length_take]; omega); rw [← Ny443.out] at hr19; rw [← hy19] at hcut19; have HR446 := am hr19; have HC446 := am (show y443.length ≤ c0 from by omega); clear hr19 hC19 hroom19 hi019 hsz19; have KY19 := am hy19; clear hy19; replace q19 := eq_true q19) | (go_at_call 121; refine cm2 (slices_ContainsFunc_impl_Team_impl_Team_impl_FieldOk_1.calls k1 _ _ y443 gb441 ((rd_T101 l0 x7_1).f0) ((rd_T101 l0 x7_1).f1) ((rd_T101 l0 x7_1).f2) false _ (cb HR446 HB) HC446.out (bk BK441.out) A9.out) ?_; intro w20 hb; replace BK441 := b1 BK441 hb; replace HB := b2 hb; clear hb))
      go_roundg k1
      case measure => have := HK1.out; omega
      case rel => exact ⟨(wrap64 (x7_1 + 1)), (es), H', ⟨by have := HK1.out; omega⟩, ⟨bel⟩⟩
    ·obtain rfl := Option.some.inj H
     have p440 : 0 ≤ (x7_1 : Int) := asm
     have q440 : x7_1 < (l0.length : Int) := asm
     obtain ⟨ad440, e440, hx440_0, hx440_1, hx440_2⟩ := hc3 HB.out (at_T101 HR0.out x7_1 p440 q440)
     cases e440
     replace p440 := eq_true p440
     replace q440 := eq_true q440
     go_wp2_with (first | ((with_reducible refine gd 4 ?_); refine bx w 4 #[.string (⟨#[]⟩ : ByteArray), .int .i64 0, .int .i64 0] 101 ?_; clear HB; intro gb441 w21 BK441 GE441 HB; obtain ⟨_, _, _, _, _, _⟩ := cf3 BK441.out) | ((with_reducible refine gc 120 ?_); refine gl2 13 Try.func120 (impl_TeamOk.calls k1 ((rd_T101 l0 x7_1).f0) ((rd_T101 l0 x7_1).f1) ((rd_T101 l0 x7_1).f2) false _ A5.out) ?_; intro w23 hb; replace BK441 := bq BK441 hb; replace HB := b2 hb; clear hb))
     go_ret
     exact ⟨er, bel⟩
   ·replace H := bm H; obtain ⟨t439, A24, H⟩ := H
    obtain rfl := Option.some.inj H
    go_wp2_with (first | ((with_reducible refine gc 55 ?_); refine gl1 25 Try.func55 (impl_within.calls (l0.length : Int) 2 8 t439 _ A24.out) ?_; intro nd))
    go_ret
    exact ⟨er, bel⟩
def impl_isKey.f (a0 : Int) : Option (Bool) := (impl_within.f a0 1 8).bind fun t448 => (some t448)
theorem impl_isKey.calls (a0 : Int) (r : Bool) (w : World) (h : impl_isKey.f a0 = some r) : Calls Try.prog 123 #[.int .i64 a0] w fun e w' => e = .returned (.bool r) ∧ Drawn0 w w' := by
 have H : ((impl_within.f a0 1 8).bind fun t448 => (some t448)) = some r := h
 clear h
 replace H := bm H; obtain ⟨t448, A2, H⟩ := H
 obtain rfl := Option.some.inj H
 go_enter Try.func123, Try.ntmps123
 go_wp2_with (first | ((with_reducible refine gc 55 ?_); refine gl1 4 Try.func55 (impl_within.calls a0 1 8 t448 _ A2.out) ?_; intro nd))
 go_ret
 exact ⟨es, by repeat (first | exact Drawn0.refl _ | apply Drawn0.step)⟩
def slices_Index_int_int.l0 : Nat → List Int → Int → Int → Int → Option (Int)
  | 0, _, _, _, _ => none
  | k + 1, x0, x1, x7, x8 => if x8 < x7 then (if 0 ≤ x8 then (if x8 < (x0.length : Int) then (if x1 = (rd x0 x8) then (some x8) else (slices_Index_int_int.l0 k x0 x1 x7 (wrap64 (x8 + 1)))) else (none)) else (none)) else (some (-1))
def slices_Index_int_int.f (k : Nat) (l0 : List Int) (a1 : Int) : Option (Int) := slices_Index_int_int.l0 k l0 a1 (l0.length : Int) 0
theorem slices_Index_int_int.calls (k : Nat) (A0 : Option Addr) (c0 : Nat) (l0 : List Int) (a1 : Int) (r : Int) (w : World) (hr0 : Kd.C (Kd.int .i64) w A0 l0.length l0) (hc0 : l0.length ≤ c0) (h : slices_Index_int_int.f k l0 a1 = some r) : Calls Try.prog 139 #[.slice A0 l0.length c0, .int .i64 a1] w fun e w' => e = .returned (.int .i64 r) ∧ Drawn0 w w' := by
 have HR0 := am hr0
 have HC0 := am hc0
 clear hr0 hc0
 have H : (slices_Index_int_int.l0 k l0 a1 (l0.length : Int) 0) = some r := h
 clear h
 have H' := am H
 clear H
 go_enter Try.func139, Try.ntmps139
 go_wp2
 go_loopg [8] k (fun kq v8 w' => ∃ (x8_1 : Int), v8 = .int .i64 x8_1 ∧ Aside0 (slices_Index_int_int.l0 kq l0 a1 (l0.length : Int) x8_1 = some r) ∧ Aside0 (kq ≤ k) ∧ Drawn0 w w')
 case atStart => exact ⟨(0), (es), H', ⟨Nat.le_refl _⟩, by repeat (first | exact Drawn0.refl _ | apply Drawn0.step)⟩
 case round =>
  clear H'
  obtain ⟨x8_1, rfl, HA, HK1, ⟨m1, rfl⟩⟩ := hrel
  cases gk with
  | zero => exact absurd HA.out (by simp [slices_Index_int_int.l0])
  | succ k1 =>
   have H := HA.out
   clear HA
   simp only [slices_Index_int_int.l0] at H
   replace H := i1 H; obtain ⟨c3b0, H⟩ | ⟨c3b0, H⟩ := H
   ·replace H := i0 H; obtain ⟨c4b0, H⟩ := H
    replace H := i0 H; obtain ⟨c5b0, H⟩ := H
    replace H := ie H; obtain ⟨c6b0, c6b1, H⟩ | ⟨⟨c6, c6b0, c6b1⟩, H⟩ := H
    ·obtain rfl := Option.some.inj H
     have p449 : 0 ≤ (x8_1 : Int) := asm
     have q449 : x8_1 < (l0.length : Int) := asm
     obtain ⟨ad449, e449, hx449_0⟩ := Kd.at_int HR0.out x8_1 p449 q449
     cases e449
     replace p449 := eq_true p449
     replace q449 := eq_true q449
     go_wp2
     go_ret
     exact ⟨es, by repeat (first | exact Drawn0.refl _ | apply Drawn0.step)⟩
    ·have H' := am H
     clear H
     have p449 : 0 ≤ (x8_1 : Int) := asm
     have q449 : x8_1 < (l0.length : Int) := asm
     obtain ⟨ad449, e449, hx449_0⟩ := Kd.at_int HR0.out x8_1 p449 q449
     cases e449
     replace p449 := eq_true p449
     replace q449 := eq_true q449
     go_wp2
     go_roundg k1
     case measure => have := HK1.out; omega
     case rel => exact ⟨(wrap64 (x8_1 + 1)), (es), H', ⟨by have := HK1.out; omega⟩, by repeat (first | exact Drawn0.refl _ | apply Drawn0.step)⟩
   ·obtain rfl := Option.some.inj H
    go_wp2
    go_ret
    exact ⟨es, by repeat (first | exact Drawn0.refl _ | apply Drawn0.step)⟩
def slices_Contains_int_int.f (k : Nat) (l0 : List Int) (a1 : Int) : Option (Bool) := (slices_Index_int_int.f k l0 a1).bind fun t450 => (some (decide (t450 ≥ 0)))
theorem slices_Contains_int_int.calls (k : Nat) (A0 : Option Addr) (c0 : Nat) (l0 : List Int) (a1 : Int) (r : Bool) (w : World) (hr0 : Kd.C (Kd.int .i64) w A0 l0.length l0) (hc0 : l0.length ≤ c0) (h : slices_Contains_int_int.f k l0 a1 = some r) : Calls Try.prog 124 #[.slice A0 l0.length c0, .int .i64 a1] w fun e w' => e = .returned (.bool r) ∧ Drawn0 w w' := by
 have HR0 := am hr0
 have HC0 := am hc0
 clear hr0 hc0
 have H : ((slices_Index_int_int.f k l0 a1).bind fun t450 => (some (decide (t450 ≥ 0)))) = some r := h
 clear h
 replace H := bm H; obtain ⟨t450, A3, H⟩ := H
 obtain rfl := Option.some.inj H
 go_enter Try.func124, Try.ntmps124
 go_wp2_with (first | ((with_reducible refine gc 139 ?_); refine gl1 7 Try.func139 (slices_Index_int_int.calls k _ _ l0 a1 t450 _ (ck HR0.out) HC0.out A3.out) ?_; intro nd))
 go_ret
 exact ⟨es, by repeat (first | exact Drawn0.refl _ | apply Drawn0.step)⟩
end Go.Proofs.Ytgalpgakdcfilaa.Q
