-- Written by a program of this session (wip/xp.py).
import Derived.Test.YtgalpgakdcfilaaQ0
import Derived.Test.YtgalpgakdcfilaaQ39
import Derived.Test.YtgalpgakdcfilaaQ46
namespace Go.Proofs.Ytgalpgakdcfilaa.Q
open Go.RowKit Go.Proofs.YtgalpgakdcfilaaW.PrintWords Go.Proofs.YtgalpgakdcfilaaW.PrintLast Go.Proofs.YtgalpgakdcfilaaW.PrintMore
attribute [local go_sem] max2_int min2_int max_two min_two max_three min_three max_four min_four   -- for this text's walks alone
set_option linter.unusedVariables false
set_option linter.unusedSimpArgs false
set_option maxHeartbeats 8000000
set_option maxRecDepth 100000

def impl_LeadNet.f (k : Nat) (l0_0 : List (S101)) (a0_1 : Int) (a0_2 : Int) (a0_3 : Int) (l0_4 : List Int) (a0_5 : Bool) (l0_6 : List (S71)) (l0_7 : List Int) (l0_8 : List Int) (a1 : Int) : Option (Int × (List (S112)) × Bool) := (impl_isLead.f k l0_0 a0_1 a0_2 a0_3 l0_4 a0_5 l0_6 l0_7 l0_8 a1).bind fun t590 => (if t590 = true then ((impl_leadNet.f k l0_0 a0_1 a0_2 a0_3 l0_4 a0_5 l0_6 l0_7 l0_8 a1).bind fun bt591 => (if bt591.2.2 ≥ 0 then (some (0, ([] : List (S112)), false)) else ((impl_NetOk.f k bt591.1 bt591.2.1).bind fun t597 => (if t597 = true then (some (bt591.1, bt591.2.1, true)) else (some (0, ([] : List (S112)), false)))))) else (some (0, ([] : List (S112)), false)))
theorem impl_LeadNet.calls (k : Nat) (A0_0 : Option Addr) (c0_0 : Nat) (l0_0 : List (S101)) (a0_1 : Int) (a0_2 : Int) (a0_3 : Int) (A0_4 : Option Addr) (c0_4 : Nat) (l0_4 : List Int) (a0_5 : Bool) (A0_6 : Option Addr) (c0_6 : Nat) (l0_6 : List (S71)) (A0_7 : Option Addr) (c0_7 : Nat) (l0_7 : List Int) (A0_8 : Option Addr) (c0_8 : Nat) (l0_8 : List Int) (a1 : Int) (r1 : Int) (r2 : List (S112)) (r3 : Bool) (w : World) (hr0_0 : Kd.C k101 w A0_0 l0_0.length l0_0) (hc0_0 : l0_0.length ≤ c0_0) (hr0_4 : Kd.C (Kd.int .i64) w A0_4 l0_4.length l0_4) (hc0_4 : l0_4.length ≤ c0_4) (hr0_6 : Kd.C k71 w A0_6 l0_6.length l0_6) (hc0_6 : l0_6.length ≤ c0_6) (hr0_7 : Kd.C (Kd.int .i64) w A0_7 l0_7.length l0_7) (hc0_7 : l0_7.length ≤ c0_7) (hr0_8 : Kd.C (Kd.int .i64) w A0_8 l0_8.length l0_8) (hc0_8 : l0_8.length ≤ c0_8) (h : impl_LeadNet.f k l0_0 a0_1 a0_2 a0_3 l0_4 a0_5 l0_6 l0_7 l0_8 a1 = some (r1, r2, r3)) : Calls Try.prog 39 #[.agg #[.slice A0_0 l0_0.length c0_0, .int .i64 a0_1, .int .i64 a0_2, .int .i64 a0_3, .slice A0_4 l0_4.length c0_4, .bool a0_5, .slice A0_6 l0_6.length c0_6, .slice A0_7 l0_7.length c0_7, .slice A0_8 l0_8.length c0_8], .int .i64 a1] w fun e w' => ∃ v1_ : Value, e = .returned (.tuple #[.agg #[.int .i64 r1, v1_], .bool r3]) ∧ Kd.R k112 112 w' w.heap.size (fun _ => True) v1_ r2 ∧ Below w.heap.size w w' := by
 have hu37 := Try.underlying37
 have hu58 := Try.underlying58
 have HR0_0 := am hr0_0
 have HC0_0 := am hc0_0
 clear hr0_0 hc0_0
 have HR0_4 := am hr0_4
 have HC0_4 := am hc0_4
 clear hr0_4 hc0_4
 have HR0_6 := am hr0_6
 have HC0_6 := am hc0_6
 clear hr0_6 hc0_6
 have HR0_7 := am hr0_7
 have HC0_7 := am hc0_7
 clear hr0_7 hc0_7
 have HR0_8 := am hr0_8
 have HC0_8 := am hc0_8
 clear hr0_8 hc0_8
 have HB := am (Below.refl w.heap.size w)
 have H : ((impl_isLead.f k l0_0 a0_1 a0_2 a0_3 l0_4 a0_5 l0_6 l0_7 l0_8 a1).bind fun t590 => (if t590 = true then ((impl_leadNet.f k l0_0 a0_1 a0_2 a0_3 l0_4 a0_5 l0_6 l0_7 l0_8 a1).bind fun bt591 => (if bt591.2.2 ≥ 0 then (some (0, ([] : List (S112)), false)) else ((impl_NetOk.f k bt591.1 bt591.2.1).bind fun t597 => (if t597 = true then (some (bt591.1, bt591.2.1, true)) else (some (0, ([] : List (S112)), false)))))) else (some (0, ([] : List (S112)), false)))) = some (r1, r2, r3) := h
 clear h
 replace H := bm H; obtain ⟨t590, A3, H⟩ := H
 replace H := ib H; obtain ⟨rfl, H⟩ | ⟨rfl, H⟩ := H
 ·replace H := Option.bind_eq_some_iff.mp H
  obtain ⟨⟨t591, t592, t595⟩, A50, H⟩ := H
  replace H : (if t595 ≥ 0 then (some (0, ([] : List (S112)), false)) else ((impl_NetOk.f k t591 t592).bind fun t597 => (if t597 = true then (some (t591, t592, true)) else (some (0, ([] : List (S112)), false))))) = some (r1, r2, r3) := H
  have A5 := am A50
  clear A50
  replace H := i1 H; obtain ⟨c6b0, H⟩ | ⟨c6b0, H⟩ := H
  ·simp only [Option.some.injEq, Prod.mk.injEq] at H
   obtain ⟨rfl, rfl, rfl⟩ := H
   go_enter Try.func39, Try.ntmps39
   go_wp2_with (first | ((with_reducible refine gd 2 ?_); refine bx w 2 #[.slice A0_0 l0_0.length c0_0, .int .i64 a0_1, .int .i64 a0_2, .int .i64 a0_3, .slice A0_4 l0_4.length c0_4, .bool a0_5, .slice A0_6 l0_6.length c0_6, .slice A0_7 l0_7.length c0_7, .slice A0_8 l0_8.length c0_8] 37 ?_; clear HB; intro gb588 w7 BK588 GE588 HB) | ((with_reducible refine gd 4 ?_); refine by_ w 4 #[.int .i64 0, .slice none 0 0] 58 ?_; clear HB; intro gb589 hg w8 BK589 GE589 hb HB; have NB588_589 := am ((nlt hg BK588.out : gb588 ≠ gb589)); have NB589_588 := am ((ngt hg BK588.out : gb589 ≠ gb588)); replace BK588 := b1 BK588 hb; clear hb hg; have hnb9 := NB588_589.out; have hnc9 := NB589_588.out; obtain ⟨_, _, _, _, _, _, _, _, _, _, _, _, _, _, _, _, _, _⟩ := cf9 BK588.out) | ((with_reducible refine gc 78 ?_); refine gl2 10 Try.func78 (impl_isLead.calls k _ _ l0_0 a0_1 a0_2 a0_3 _ _ l0_4 a0_5 _ _ l0_6 _ _ l0_7 _ _ l0_8 a1 true _ (cb HR0_0 HB) HC0_0.out (cb HR0_4 HB) HC0_4.out (cb HR0_6 HB) HC0_6.out (cb HR0_7 HB) HC0_7.out (cb HR0_8 HB) HC0_8.out A3.out) ?_; intro w11 hb; replace BK588 := b1 BK588 hb; replace BK589 := b1 BK589 hb; replace HB := b2 hb; clear hb; obtain ⟨_, _, _, _, _, _, _, _, _, _, _, _, _, _, _, _, _, _⟩ := cf9 BK588.out) | ((with_reducible refine gc 82 ?_); refine gl 16 Try.func82 (impl_leadNet.calls k _ _ l0_0 a0_1 a0_2 a0_3 _ _ l0_4 a0_5 _ _ l0_6 _ _ l0_7 _ _ l0_8 a1 t591 t592 t595 _ (cb HR0_0 HB) HC0_0.out (cb HR0_4 HB) HC0_4.out (cb HR0_6 HB) HC0_6.out (cb HR0_7 HB) HC0_7.out (cb HR0_8 HB) HC0_8.out A5.out) ?_; rintro e w13 ⟨v593, rfl, ho0, hb⟩; refine ⟨_, rfl, ?_⟩; have HO594 := am (Kd.R_lower ho0 (below_size bel)); replace BK588 := b1 BK588 hb; replace BK589 := b1 BK589 hb; replace HB := b2 hb; clear hb; (try clear ho0)) | ((with_reducible refine gd 6 ?_); refine by_ w 6 #[.int .i64 0, .slice none 0 0] 58 ?_; clear HB; intro gb596 hg w14 BK596 GE596 hb HB; have NB588_596 := am ((nlt hg BK588.out : gb588 ≠ gb596)); have NB596_588 := am ((ngt hg BK588.out : gb596 ≠ gb588)); have NB589_596 := am ((nlt hg BK589.out : gb589 ≠ gb596)); have NB596_589 := am ((ngt hg BK589.out : gb596 ≠ gb589)); replace HO594 := am (Kd.R_below (rk HO594.out) hb); replace BK588 := b1 BK588 hb; replace BK589 := b1 BK589 hb; clear hb hg; have hnb15 := NB596_588.out; have hnc15 := NB588_596.out; have hnb16 := NB596_589.out; have hnc16 := NB589_596.out; obtain ⟨_, _, _, _⟩ := cf2 BK596.out; obtain ⟨Ao18, co18, eo18⟩ := Kd.R_slice HO594.out; subst eo18; obtain ⟨_, _, _, _⟩ := cf2 BK589.out))
   refine bodyPost_ret (results_ct rfl _ _ gb589 58 #[.int .i64 0, .slice none 0 0] (0, 0) _ rfl (bz BK589) Try.underlying58 rfl (by kernel_rfl)) rfl ?_
   exact ⟨_, er, by first | exact Kd.R_nil _ _ _ _ _ | exact Kd.N_nil _ _ _ _ _ | exact Kd.V_nil _ _ _ _ _ | exact Kd.Q_nil _ _ _ _ _ | exact Kd.S_nil _ _ _ _ _, bel⟩
  ·replace H := bm H; obtain ⟨t597, A20, H⟩ := H
   replace H := ib H; obtain ⟨rfl, H⟩ | ⟨rfl, H⟩ := H
   ·simp only [Option.some.injEq, Prod.mk.injEq] at H
    obtain ⟨rfl, rfl, rfl⟩ := H
    go_enter Try.func39, Try.ntmps39
    go_wp2_with (first | ((with_reducible refine gd 2 ?_); refine bx w 2 #[.slice A0_0 l0_0.length c0_0, .int .i64 a0_1, .int .i64 a0_2, .int .i64 a0_3, .slice A0_4 l0_4.length c0_4, .bool a0_5, .slice A0_6 l0_6.length c0_6, .slice A0_7 l0_7.length c0_7, .slice A0_8 l0_8.length c0_8] 37 ?_; clear HB; intro gb588 w22 BK588 GE588 HB) | ((with_reducible refine gd 4 ?_); refine by_ w 4 #[.int .i64 0, .slice none 0 0] 58 ?_; clear HB; intro gb589 hg w23 BK589 GE589 hb HB; have NB588_589 := am ((nlt hg BK588.out : gb588 ≠ gb589)); have NB589_588 := am ((ngt hg BK588.out : gb589 ≠ gb588)); replace BK588 := b1 BK588 hb; clear hb hg; have hnb24 := NB588_589.out; have hnc24 := NB589_588.out; obtain ⟨_, _, _, _, _, _, _, _, _, _, _, _, _, _, _, _, _, _⟩ := cf9 BK588.out) | ((with_reducible refine gc 78 ?_); refine gl2 10 Try.func78 (impl_isLead.calls k _ _ l0_0 a0_1 a0_2 a0_3 _ _ l0_4 a0_5 _ _ l0_6 _ _ l0_7 _ _ l0_8 a1 true _ (cb HR0_0 HB) HC0_0.out (cb HR0_4 HB) HC0_4.out (cb HR0_6 HB) HC0_6.out (cb HR0_7 HB) HC0_7.out (cb HR0_8 HB) HC0_8.out A3.out) ?_; intro w26 hb; replace BK588 := b1 BK588 hb; replace BK589 := b1 BK589 hb; replace HB := b2 hb; clear hb; obtain ⟨_, _, _, _, _, _, _, _, _, _, _, _, _, _, _, _, _, _⟩ := cf9 BK588.out) | ((with_reducible refine gc 82 ?_); refine gl 16 Try.func82 (impl_leadNet.calls k _ _ l0_0 a0_1 a0_2 a0_3 _ _ l0_4 a0_5 _ _ l0_6 _ _ l0_7 _ _ l0_8 a1 t591 t592 t595 _ (cb HR0_0 HB) HC0_0.out (cb HR0_4 HB) HC0_4.out (cb HR0_6 HB) HC0_6.out (cb HR0_7 HB) HC0_7.out (cb HR0_8 HB) HC0_8.out A5.out) ?_; rintro e w28 ⟨v593, rfl, ho0, hb⟩; refine ⟨_, rfl, ?_⟩; have HO594 := am (Kd.R_lower ho0 (below_size bel)); replace BK588 := b1 BK588 hb; replace BK589 := b1 BK589 hb; replace HB := b2 hb; clear hb; (try clear ho0)) | ((with_reducible refine gd 6 ?_); refine by_ w 6 #[.int .i64 0, .slice none 0 0] 58 ?_; clear HB; intro gb596 hg w29 BK596 GE596 hb HB; have NB588_596 := am ((nlt hg BK588.out : gb588 ≠ gb596)); have NB596_588 := am ((ngt hg BK588.out : gb596 ≠ gb588)); have NB589_596 := am ((nlt hg BK589.out : gb589 ≠ gb596)); have NB596_589 := am ((ngt hg BK589.out : gb596 ≠ gb589)); replace HO594 := am (Kd.R_below (rk HO594.out) hb); replace BK588 := b1 BK588 hb; replace BK589 := b1 BK589 hb; clear hb hg; have hnb30 := NB596_588.out; have hnc30 := NB588_596.out; have hnb31 := NB596_589.out; have hnc31 := NB589_596.out; obtain ⟨_, _, _, _⟩ := cf2 BK596.out; obtain ⟨Ao33, co33, eo33⟩ := Kd.R_slice HO594.out; subst eo33) | (go_at_call 83; (with_reducible refine (impl_NetOk.calls k t591 _ _ t592 true _ ?side1 ?side2 A20.out).mono ?_); (case side1 => refine (Kd.R_reads' (e := 112) (base := w.heap.size) (ok := fun k_ => True) (n := t592.length) (c := co33) ?_).2.2; exact (kf (Kd.R_types HO594.out BK596.out (by decide)))); (case side2 => exact (Kd.R_reads' HO594.out).2.1); rintro e w34 ⟨rfl, hb⟩; replace HO594 := am (Kd.R_below (kf (Kd.R_types HO594.out BK596.out (by decide))) hb); replace BK588 := b1 BK588 hb; replace BK589 := b1 BK589 hb; replace BK596 := bq BK596 hb; replace HB := b2 hb; (try clear hb); (try clear hk); obtain ⟨_, _, _, _⟩ := cf2 BK596.out; obtain ⟨_, _, _, _⟩ := cf2 BK589.out))
    refine bodyPost_ret (results_ct rfl _ _ gb589 58 #[.int .i64 t591, .slice Ao33 t592.length co33] (0, 0) _ rfl (bz BK589) Try.underlying58 rfl (by kernel_rfl)) rfl ?_
    exact ⟨_, er, (kf (Kd.R_types HO594.out BK589.out (by decide))), bel⟩
   ·simp only [Option.some.injEq, Prod.mk.injEq] at H
    obtain ⟨rfl, rfl, rfl⟩ := H
    go_enter Try.func39, Try.ntmps39
    go_wp2_with (first | ((with_reducible refine gd 2 ?_); refine bx w 2 #[.slice A0_0 l0_0.length c0_0, .int .i64 a0_1, .int .i64 a0_2, .int .i64 a0_3, .slice A0_4 l0_4.length c0_4, .bool a0_5, .slice A0_6 l0_6.length c0_6, .slice A0_7 l0_7.length c0_7, .slice A0_8 l0_8.length c0_8] 37 ?_; clear HB; intro gb588 w37 BK588 GE588 HB) | ((with_reducible refine gd 4 ?_); refine by_ w 4 #[.int .i64 0, .slice none 0 0] 58 ?_; clear HB; intro gb589 hg w38 BK589 GE589 hb HB; have NB588_589 := am ((nlt hg BK588.out : gb588 ≠ gb589)); have NB589_588 := am ((ngt hg BK588.out : gb589 ≠ gb588)); replace BK588 := b1 BK588 hb; clear hb hg; have hnb39 := NB588_589.out; have hnc39 := NB589_588.out; obtain ⟨_, _, _, _, _, _, _, _, _, _, _, _, _, _, _, _, _, _⟩ := cf9 BK588.out) | ((with_reducible refine gc 78 ?_); refine gl2 10 Try.func78 (impl_isLead.calls k _ _ l0_0 a0_1 a0_2 a0_3 _ _ l0_4 a0_5 _ _ l0_6 _ _ l0_7 _ _ l0_8 a1 true _ (cb HR0_0 HB) HC0_0.out (cb HR0_4 HB) HC0_4.out (cb HR0_6 HB) HC0_6.out (cb HR0_7 HB) HC0_7.out (cb HR0_8 HB) HC0_8.out A3.out) ?_; intro w41 hb; replace BK588 := b1 BK588 hb; replace BK589 := b1 BK589 hb; replace HB := b2 hb; clear hb; obtain ⟨_, _, _, _, _, _, _, _, _, _, _, _, _, _, _, _, _, _⟩ := cf9 BK588.out) | ((with_reducible refine gc 82 ?_); refine gl 16 Try.func82 (impl_leadNet.calls k _ _ l0_0 a0_1 a0_2 a0_3 _ _ l0_4 a0_5 _ _ l0_6 _ _ l0_7 _ _ l0_8 a1 t591 t592 t595 _ (cb HR0_0 HB) HC0_0.out (cb HR0_4 HB) HC0_4.out (cb HR0_6 HB) HC0_6.out (cb HR0_7 HB) HC0_7.out (cb HR0_8 HB) HC0_8.out A5.out) ?_; rintro e w43 ⟨v593, rfl, ho0, hb⟩; refine ⟨_, rfl, ?_⟩; have HO594 := am (Kd.R_lower ho0 (below_size bel)); replace BK588 := b1 BK588 hb; replace BK589 := b1 BK589 hb; replace HB := b2 hb; clear hb; (try clear ho0)) | ((with_reducible refine gd 6 ?_); refine by_ w 6 #[.int .i64 0, .slice none 0 0] 58 ?_; clear HB; intro gb596 hg w44 BK596 GE596 hb HB; have NB588_596 := am ((nlt hg BK588.out : gb588 ≠ gb596)); have NB596_588 := am ((ngt hg BK588.out : gb596 ≠ gb588)); have NB589_596 := am ((nlt hg BK589.out : gb589 ≠ gb596)); have NB596_589 := am ((ngt hg BK589.out : gb596 ≠ gb589)); replace HO594 := am (Kd.R_below (rk HO594.out) hb); replace BK588 := b1 BK588 hb; replace BK589 := b1 BK589 hb; clear hb hg; have hnb45 := NB596_588.out; have hnc45 := NB588_596.out; have hnb46 := NB596_589.out; have hnc46 := NB589_596.out; obtain ⟨_, _, _, _⟩ := cf2 BK596.out; obtain ⟨Ao48, co48, eo48⟩ := Kd.R_slice HO594.out; subst eo48) | (go_at_call 83; (with_reducible refine (impl_NetOk.calls k t591 _ _ t592 false _ ?side1 ?side2 A20.out).mono ?_); (case side1 => refine (Kd.R_reads' (e := 112) (base := w.heap.size) (ok := fun k_ => True) (n := t592.length) (c := co48) ?_).2.2; exact (kf (Kd.R_types HO594.out BK596.out (by decide)))); (case side2 => exact (Kd.R_reads' HO594.out).2.1); rintro e w49 ⟨rfl, hb⟩; replace HO594 := am (Kd.R_below (kf (Kd.R_types HO594.out BK596.out (by decide))) hb); replace BK588 := b1 BK588 hb; replace BK589 := b1 BK589 hb; replace BK596 := bq BK596 hb; replace HB := b2 hb; (try clear hb); (try clear hk); obtain ⟨_, _, _, _⟩ := cf2 BK589.out))
    refine bodyPost_ret (results_ct rfl _ _ gb589 58 #[.int .i64 0, .slice none 0 0] (0, 0) _ rfl (bz BK589) Try.underlying58 rfl (by kernel_rfl)) rfl ?_
    exact ⟨_, er, by first | exact Kd.R_nil _ _ _ _ _ | exact Kd.N_nil _ _ _ _ _ | exact Kd.V_nil _ _ _ _ _ | exact Kd.Q_nil _ _ _ _ _ | exact Kd.S_nil _ _ _ _ _, bel⟩
 ·simp only [Option.some.injEq, Prod.mk.injEq] at H
  obtain ⟨rfl, rfl, rfl⟩ := H
  go_enter Try.func39, Try.ntmps39
  go_wp2_with (first | ((with_reducible refine gd 2 ?_); refine bx w 2 #[.slice A0_0 l0_0.length c0_0, .int .i64 a0_1, .int .i64 a0_2, .int .i64 a0_3, .slice A0_4 l0_4.length c0_4, .bool a0_5, .slice A0_6 l0_6.length c0_6, .slice A0_7 l0_7.length c0_7, .slice A0_8 l0_8.length c0_8] 37 ?_; clear HB; intro gb588 w51 BK588 GE588 HB) | ((with_reducible refine gd 4 ?_); refine by_ w 4 #[.int .i64 0, .slice none 0 0] 58 ?_; clear HB; intro gb589 hg w52 BK589 GE589 hb HB; have NB588_589 := am ((nlt hg BK588.out : gb588 ≠ gb589)); have NB589_588 := am ((ngt hg BK588.out : gb589 ≠ gb588)); replace BK588 := b1 BK588 hb; clear hb hg; have hnb53 := NB588_589.out; have hnc53 := NB589_588.out; obtain ⟨_, _, _, _, _, _, _, _, _, _, _, _, _, _, _, _, _, _⟩ := cf9 BK588.out) | ((with_reducible refine gc 78 ?_); refine gl2 10 Try.func78 (impl_isLead.calls k _ _ l0_0 a0_1 a0_2 a0_3 _ _ l0_4 a0_5 _ _ l0_6 _ _ l0_7 _ _ l0_8 a1 false _ (cb HR0_0 HB) HC0_0.out (cb HR0_4 HB) HC0_4.out (cb HR0_6 HB) HC0_6.out (cb HR0_7 HB) HC0_7.out (cb HR0_8 HB) HC0_8.out A3.out) ?_; intro w55 hb; replace BK588 := b1 BK588 hb; replace BK589 := b1 BK589 hb; replace HB := b2 hb; clear hb; obtain ⟨_, _, _, _⟩ := cf2 BK589.out))
  refine bodyPost_ret (results_ct rfl _ _ gb589 58 #[.int .i64 0, .slice none 0 0] (0, 0) _ rfl (bz BK589) Try.underlying58 rfl (by kernel_rfl)) rfl ?_
  exact ⟨_, er, by first | exact Kd.R_nil _ _ _ _ _ | exact Kd.N_nil _ _ _ _ _ | exact Kd.V_nil _ _ _ _ _ | exact Kd.Q_nil _ _ _ _ _ | exact Kd.S_nil _ _ _ _ _, bel⟩
def laws_eqPipe.f (a0_0 : Int) (a0_1 : Int) (a0_2 : Int) (a1_0 : Int) (a1_1 : Int) (a1_2 : Int) : Option (Bool) := if a0_0 = a1_0 then (if a0_1 = a1_1 then (if a0_2 = a1_2 then (some true) else (some false)) else (some false)) else (some false)
theorem laws_eqPipe.calls (a0_0 : Int) (a0_1 : Int) (a0_2 : Int) (a1_0 : Int) (a1_1 : Int) (a1_2 : Int) (r : Bool) (w : World) (h : laws_eqPipe.f a0_0 a0_1 a0_2 a1_0 a1_1 a1_2 = some r) : Calls Try.prog 112 #[.agg #[.int .i64 a0_0, .int .i64 a0_1, .int .i64 a0_2], .agg #[.int .i64 a1_0, .int .i64 a1_1, .int .i64 a1_2]] w fun e w' => e = .returned (.bool r) ∧ Below w.heap.size w w' := by
 have hu112 := Try.underlying112
 have HB := am (Below.refl w.heap.size w)
 have H : (if a0_0 = a1_0 then (if a0_1 = a1_1 then (if a0_2 = a1_2 then (some true) else (some false)) else (some false)) else (some false)) = some r := h
 clear h
 replace H := ie H; obtain ⟨c3b0, c3b1, H⟩ | ⟨⟨c3, c3b0, c3b1⟩, H⟩ := H
 ·replace H := ie H; obtain ⟨c4b0, c4b1, H⟩ | ⟨⟨c4, c4b0, c4b1⟩, H⟩ := H
  ·replace H := ie H; obtain ⟨c5b0, c5b1, H⟩ | ⟨⟨c5, c5b0, c5b1⟩, H⟩ := H
   ·obtain rfl := Option.some.inj H
    go_enter Try.func112, Try.ntmps112
    go_wp2_with (first | ((with_reducible refine gd 2 ?_); refine bx w 2 #[.int .i64 a0_0, .int .i64 a0_1, .int .i64 a0_2] 112 ?_; clear HB; intro gb598 w6 BK598 GE598 HB) | ((with_reducible refine gd 3 ?_); refine by_ w 3 #[.int .i64 a1_0, .int .i64 a1_1, .int .i64 a1_2] 112 ?_; clear HB; intro gb599 hg w7 BK599 GE599 hb HB; have NB598_599 := am ((nlt hg BK598.out : gb598 ≠ gb599)); have NB599_598 := am ((ngt hg BK598.out : gb599 ≠ gb598)); replace BK598 := b1 BK598 hb; clear hb hg; have hnb8 := NB598_599.out; have hnc8 := NB599_598.out; obtain ⟨_, _, _, _, _, _⟩ := cf3 BK598.out; obtain ⟨_, _, _, _, _, _⟩ := cf3 BK599.out))
    go_ret
    exact ⟨er, bel⟩
   ·obtain rfl := Option.some.inj H
    go_enter Try.func112, Try.ntmps112
    go_wp2_with (first | ((with_reducible refine gd 2 ?_); refine bx w 2 #[.int .i64 a0_0, .int .i64 a0_1, .int .i64 a0_2] 112 ?_; clear HB; intro gb598 w11 BK598 GE598 HB) | ((with_reducible refine gd 3 ?_); refine by_ w 3 #[.int .i64 a1_0, .int .i64 a1_1, .int .i64 a1_2] 112 ?_; clear HB; intro gb599 hg w12 BK599 GE599 hb HB; have NB598_599 := am ((nlt hg BK598.out : gb598 ≠ gb599)); have NB599_598 := am ((ngt hg BK598.out : gb599 ≠ gb598)); replace BK598 := b1 BK598 hb; clear hb hg; have hnb13 := NB598_599.out; have hnc13 := NB599_598.out; obtain ⟨_, _, _, _, _, _⟩ := cf3 BK598.out; obtain ⟨_, _, _, _, _, _⟩ := cf3 BK599.out))
    go_ret
    exact ⟨er, bel⟩
  ·obtain rfl := Option.some.inj H
   go_enter Try.func112, Try.ntmps112
   go_wp2_with (first | ((with_reducible refine gd 2 ?_); refine bx w 2 #[.int .i64 a0_0, .int .i64 a0_1, .int .i64 a0_2] 112 ?_; clear HB; intro gb598 w16 BK598 GE598 HB) | ((with_reducible refine gd 3 ?_); refine by_ w 3 #[.int .i64 a1_0, .int .i64 a1_1, .int .i64 a1_2] 112 ?_; clear HB; intro gb599 hg w17 BK599 GE599 hb HB; have NB598_599 := am ((nlt hg BK598.out : gb598 ≠ gb599)); have NB599_598 := am ((ngt hg BK598.out : gb599 ≠ gb598)); replace BK598 := b1 BK598 hb; clear hb hg; have hnb18 := NB598_599.out; have hnc18 := NB599_598.out; obtain ⟨_, _, _, _, _, _⟩ := cf3 BK598.out; obtain ⟨_, _, _, _, _, _⟩ := cf3 BK599.out))
   go_ret
   exact ⟨er, bel⟩
 ·obtain rfl := Option.some.inj H
  go_enter Try.func112, Try.ntmps112
  go_wp2_with (first | ((with_reducible refine gd 2 ?_); refine bx w 2 #[.int .i64 a0_0, .int .i64 a0_1, .int .i64 a0_2] 112 ?_; clear HB; intro gb598 w21 BK598 GE598 HB) | ((with_reducible refine gd 3 ?_); refine by_ w 3 #[.int .i64 a1_0, .int .i64 a1_1, .int .i64 a1_2] 112 ?_; clear HB; intro gb599 hg w22 BK599 GE599 hb HB; have NB598_599 := am ((nlt hg BK598.out : gb598 ≠ gb599)); have NB599_598 := am ((ngt hg BK598.out : gb599 ≠ gb598)); replace BK598 := b1 BK598 hb; clear hb hg; have hnb23 := NB598_599.out; have hnc23 := NB599_598.out; obtain ⟨_, _, _, _, _, _⟩ := cf3 BK598.out; obtain ⟨_, _, _, _, _, _⟩ := cf3 BK599.out))
  go_ret
  exact ⟨er, bel⟩
def laws_eqPipeS.l0 : Nat → List (S112) → List (S112) → Int → Option (Bool)
  | 0, _, _, _ => none
  | k + 1, x0, x1, x5 => if x5 < (x0.length : Int) then (if 0 ≤ x5 then (if x5 < (x1.length : Int) then ((laws_eqPipe.f ((rd_T112 x0 x5).f0) ((rd_T112 x0 x5).f1) ((rd_T112 x0 x5).f2) ((rd_T112 x1 x5).f0) ((rd_T112 x1 x5).f1) ((rd_T112 x1 x5).f2)).bind fun t602 => (if t602 = true then (laws_eqPipeS.l0 k x0 x1 (wrap64 (x5 + 1))) else (some false))) else (none)) else (none)) else (some true)
def laws_eqPipeS.f (k : Nat) (l0 : List (S112)) (l1 : List (S112)) : Option (Bool) := if (l0.length : Int) = (l1.length : Int) then (laws_eqPipeS.l0 k l0 l1 0) else (some false)
def laws_eqPipeS.T6 : Bool × List (List Nat × List Nat) := (true, [([], []), ([], []), ([0, 1], [0, 1]), ([2], [2]), ([], []), ([], []), ([4, 5], [4, 5]), ([6], [6]), ([3, 7], [3, 7]), ([8], [8])])
def laws_eqPipeS.B6 : List Nat := [0, 0, 3, 7, 0, 0, 48, 112, 255, 511]
theorem laws_eqPipeS.tab6 : rtab .any (opsOf Try.f84 6) = laws_eqPipeS.T6 := by kernel_rfl
theorem laws_eqPipeS.bits6 : waitsOk laws_eqPipeS.T6.2 laws_eqPipeS.B6 = true := by kernel_rfl
theorem laws_eqPipeS.calls (k : Nat) (A0 : Option Addr) (c0 : Nat) (l0 : List (S112)) (A1 : Option Addr) (c1 : Nat) (l1 : List (S112)) (r : Bool) (w : World) (hr0 : Kd.C k112 w A0 l0.length l0) (hc0 : l0.length ≤ c0) (hr1 : Kd.C k112 w A1 l1.length l1) (hc1 : l1.length ≤ c1) (h : laws_eqPipeS.f k l0 l1 = some r) : Calls Try.prog 84 #[.slice A0 l0.length c0, .slice A1 l1.length c1] w fun e w' => e = .returned (.bool r) ∧ Below w.heap.size w w' := by
 have hu112 := Try.underlying112
 have HR0 := am hr0
 have HC0 := am hc0
 clear hr0 hc0
 have HR1 := am hr1
 have HC1 := am hc1
 clear hr1 hc1
 have HB := am (Below.refl w.heap.size w)
 have H : (if (l0.length : Int) = (l1.length : Int) then (laws_eqPipeS.l0 k l0 l1 0) else (some false)) = some r := h
 clear h
 by_cases c3 : (l0.length : Int) = (l1.length : Int)
 ·rw [if_pos c3] at H
  have c3b0 : ((l0.length : Int) == (l1.length : Int)) = true := beq_iff_eq.mpr c3
  have c3b1 : ((l0.length : Int) != (l1.length : Int)) = false := bne_eq_false_iff_eq.mpr c3
  have c3b2 : (l0.length == l1.length) = true := by first | simpa using c3 | (simp at c3 ⊢; omega)
  clear c3
  have H' := am H
  clear H
  go_enter Try.func84, Try.ntmps84
  go_wp2
  go_loopg [5] k (fun kq v5 w' => ∃ (x5_1 : Int), v5 = .int .i64 x5_1 ∧ Aside0 (laws_eqPipeS.l0 kq l0 l1 x5_1 = some r) ∧ Aside0 (kq ≤ k) ∧ Aside0 (Below w.heap.size w w'))
  case atStart => exact ⟨(0), (es), H', ⟨Nat.le_refl _⟩, ⟨bel⟩⟩
  case round =>
   clear H'
   try clear c1; try clear c3; try clear c3b0; try clear c3b1; try clear c3b2
   obtain ⟨x5_1, rfl, HA, HK1, HB⟩ := hrel
   cases gk with
   | zero => exact absurd HA.out (by simp [laws_eqPipeS.l0])
   | succ k1 =>
    have H := HA.out
    clear HA
    simp only [laws_eqPipeS.l0] at H
    replace H := i1 H; obtain ⟨c4b0, H⟩ | ⟨c4b0, H⟩ := H
    ·replace H := i0 H; obtain ⟨c5b0, H⟩ := H
     replace H := i0 H; obtain ⟨c6b0, H⟩ := H
     replace H := bm H; obtain ⟨t602, A7, H⟩ := H
     replace H := ib H; obtain ⟨rfl, H⟩ | ⟨rfl, H⟩ := H
     ·have H' := am H
      clear H
      try go_wp2
      replace HB := am (below_drew1 HB.out)
      have p600 : 0 ≤ (x5_1 : Int) := asm
      have q600 : x5_1 < (l0.length : Int) := asm
      obtain ⟨ad600, e600, hx600_0, hx600_1, hx600_2⟩ := at_T112 HR0.out x5_1 p600 q600
      have hw600_2 := hx600_2
      have hw600_1 := hx600_1
      have hw600_0 := hx600_0
      cases e600
      replace hx600_0 := hcl HB.out hx600_0
      replace hx600_1 := hcl HB.out hx600_1
      replace hx600_2 := hcl HB.out hx600_2
      replace p600 := eq_true p600
      replace q600 := eq_true q600
      have p601 : 0 ≤ (x5_1 : Int) := asm
      have q601 : x5_1 < (l1.length : Int) := asm
      obtain ⟨ad601, e601, hx601_0, hx601_1, hx601_2⟩ := at_T112 HR1.out x5_1 p601 q601
      have hw601_2 := hx601_2
      have hw601_1 := hx601_1
      have hw601_0 := hx601_0
      cases e601
      replace hx601_0 := hcl HB.out hx601_0
      replace hx601_1 := hcl HB.out hx601_1
      replace hx601_2 := hcl HB.out hx601_2
      replace p601 := eq_true p601
      replace q601 := eq_true q601
      refine start_ (n := 10) (S := fun w' => w'.cell? (ad600.add ((x5_1).toNat * 3)) = some (.int .i64 ((rd_T112 l0 x5_1).f0)) ∧ w'.cell? ⟨(ad600.add ((x5_1).toNat * 3)).block, (ad600.add ((x5_1).toNat * 3)).off + 1, none⟩ = some (.int .i64 ((rd_T112 l0 x5_1).f1)) ∧ w'.cell? ⟨(ad600.add ((x5_1).toNat * 3)).block, (ad600.add ((x5_1).toNat * 3)).off + 2, none⟩ = some (.int .i64 ((rd_T112 l0 x5_1).f2)) ∧ w'.cell? (ad601.add ((x5_1).toNat * 3)) = some (.int .i64 ((rd_T112 l1 x5_1).f0)) ∧ w'.cell? ⟨(ad601.add ((x5_1).toNat * 3)).block, (ad601.add ((x5_1).toNat * 3)).off + 1, none⟩ = some (.int .i64 ((rd_T112 l1 x5_1).f1)) ∧ w'.cell? ⟨(ad601.add ((x5_1).toNat * 3)).block, (ad601.add ((x5_1).toNat * 3)).off + 2, none⟩ = some (.int .i64 ((rd_T112 l1 x5_1).f2))) (ds := []) (lb 10 0) (by kernel_rfl) rfl rfl ⟨((HB.out.cell (World.block_lt_of_cell? w _ hw600_0)).trans hw600_0), ((HB.out.cell (World.block_lt_of_cell? w _ hw600_1)).trans hw600_1), ((HB.out.cell (World.block_lt_of_cell? w _ hw600_2)).trans hw600_2), ((HB.out.cell (World.block_lt_of_cell? w _ hw601_0)).trans hw601_0), ((HB.out.cell (World.block_lt_of_cell? w _ hw601_1)).trans hw601_1), ((HB.out.cell (World.block_lt_of_cell? w _ hw601_2)).trans hw601_2)⟩ (fun hHeld => ?_); refine with_tabW laws_eqPipeS.tab6 laws_eqPipeS.bits6 (fun HT_ HW_ => ?_)
      generalize wr.drew = w9 at HB hx600_0 hx600_1 hx600_2 hx601_0 hx601_1 hx601_2 hHeld ⊢
      refine pu HT_ 0 17 (lb 10 1) ?_
      refine pu HT_ 1 18 (lb 10 3) ?_
      refine pu HT_ 2 19 (lb 10 7) ?_
      refine pu HT_ 4 21 (lb 10 23) ?_
      refine pu HT_ 5 22 (lb 10 55) ?_
      refine pu HT_ 6 23 (lb 10 119) ?_
      refine tk HT_ HW_ hHeld 3 20 (lb 10 127) ?_
      refine tk HT_ HW_ hHeld 7 24 (lb 10 255) ?_
      refine on HT_ 8 25 (lb 10 511) fun K hK => ?_
      refine goes_ Try.func112 (by kernel_rfl) rfl #[.agg #[.int .i64 ((rd_T112 l0 x5_1).f0), .int .i64 ((rd_T112 l0 x5_1).f1), .int .i64 ((rd_T112 l0 x5_1).f2)], .agg #[.int .i64 ((rd_T112 l1 x5_1).f0), .int .i64 ((rd_T112 l1 x5_1).f1), .int .i64 ((rd_T112 l1 x5_1).f2)]] (by rfl) rfl rfl ga ?_
      with_reducible refine (laws_eqPipe.calls ((rd_T112 l0 x5_1).f0) ((rd_T112 l0 x5_1).f1) ((rd_T112 l0 x5_1).f2) ((rd_T112 l1 x5_1).f0) ((rd_T112 l1 x5_1).f1) ((rd_T112 l1 x5_1).f2) true _ A7.out).mono ?_
      rintro e w10 ⟨rfl, hb⟩
      refine ⟨_, rfl, ?_⟩
      replace HB := b2 hb
      (try clear hb)
      refine hK.out _ _ ⟨((HB.out.cell (World.block_lt_of_cell? w _ hw600_0)).trans hw600_0), ((HB.out.cell (World.block_lt_of_cell? w _ hw600_1)).trans hw600_1), ((HB.out.cell (World.block_lt_of_cell? w _ hw600_2)).trans hw600_2), ((HB.out.cell (World.block_lt_of_cell? w _ hw601_0)).trans hw601_0), ((HB.out.cell (World.block_lt_of_cell? w _ hw601_1)).trans hw601_1), ((HB.out.cell (World.block_lt_of_cell? w _ hw601_2)).trans hw601_2)⟩ (fun hHeld => ?_)
      clear hK K
      refine nm 25 ?_
      refine pu HT_ 9 26 (lb 10 1023) ?_
      refine done_ (done_of HT_.out (by kernel_rfl)) ?_
      try go_wp2
      go_roundg k1
      case measure => have := HK1.out; omega
      case rel => exact ⟨(wrap64 (x5_1 + 1)), (es), H', ⟨by have := HK1.out; omega⟩, ⟨bel⟩⟩
     ·obtain rfl := Option.some.inj H
      try go_wp2
      replace HB := am (below_drew1 HB.out)
      have p600 : 0 ≤ (x5_1 : Int) := asm
      have q600 : x5_1 < (l0.length : Int) := asm
      obtain ⟨ad600, e600, hx600_0, hx600_1, hx600_2⟩ := at_T112 HR0.out x5_1 p600 q600
      have hw600_2 := hx600_2
      have hw600_1 := hx600_1
      have hw600_0 := hx600_0
      cases e600
      replace hx600_0 := hcl HB.out hx600_0
      replace hx600_1 := hcl HB.out hx600_1
      replace hx600_2 := hcl HB.out hx600_2
      replace p600 := eq_true p600
      replace q600 := eq_true q600
      have p601 : 0 ≤ (x5_1 : Int) := asm
      have q601 : x5_1 < (l1.length : Int) := asm
      obtain ⟨ad601, e601, hx601_0, hx601_1, hx601_2⟩ := at_T112 HR1.out x5_1 p601 q601
      have hw601_2 := hx601_2
      have hw601_1 := hx601_1
      have hw601_0 := hx601_0
      cases e601
      replace hx601_0 := hcl HB.out hx601_0
      replace hx601_1 := hcl HB.out hx601_1
      replace hx601_2 := hcl HB.out hx601_2
      replace p601 := eq_true p601
      replace q601 := eq_true q601
      refine start_ (n := 10) (S := fun w' => w'.cell? (ad600.add ((x5_1).toNat * 3)) = some (.int .i64 ((rd_T112 l0 x5_1).f0)) ∧ w'.cell? ⟨(ad600.add ((x5_1).toNat * 3)).block, (ad600.add ((x5_1).toNat * 3)).off + 1, none⟩ = some (.int .i64 ((rd_T112 l0 x5_1).f1)) ∧ w'.cell? ⟨(ad600.add ((x5_1).toNat * 3)).block, (ad600.add ((x5_1).toNat * 3)).off + 2, none⟩ = some (.int .i64 ((rd_T112 l0 x5_1).f2)) ∧ w'.cell? (ad601.add ((x5_1).toNat * 3)) = some (.int .i64 ((rd_T112 l1 x5_1).f0)) ∧ w'.cell? ⟨(ad601.add ((x5_1).toNat * 3)).block, (ad601.add ((x5_1).toNat * 3)).off + 1, none⟩ = some (.int .i64 ((rd_T112 l1 x5_1).f1)) ∧ w'.cell? ⟨(ad601.add ((x5_1).toNat * 3)).block, (ad601.add ((x5_1).toNat * 3)).off + 2, none⟩ = some (.int .i64 ((rd_T112 l1 x5_1).f2))) (ds := []) (lb 10 0) (by kernel_rfl) rfl rfl ⟨((HB.out.cell (World.block_lt_of_cell? w _ hw600_0)).trans hw600_0), ((HB.out.cell (World.block_lt_of_cell? w _ hw600_1)).trans hw600_1), ((HB.out.cell (World.block_lt_of_cell? w _ hw600_2)).trans hw600_2), ((HB.out.cell (World.block_lt_of_cell? w _ hw601_0)).trans hw601_0), ((HB.out.cell (World.block_lt_of_cell? w _ hw601_1)).trans hw601_1), ((HB.out.cell (World.block_lt_of_cell? w _ hw601_2)).trans hw601_2)⟩ (fun hHeld => ?_); refine with_tabW laws_eqPipeS.tab6 laws_eqPipeS.bits6 (fun HT_ HW_ => ?_)
      generalize wr.drew = w11 at HB hx600_0 hx600_1 hx600_2 hx601_0 hx601_1 hx601_2 hHeld ⊢
      refine pu HT_ 0 17 (lb 10 1) ?_
      refine pu HT_ 1 18 (lb 10 3) ?_
      refine pu HT_ 2 19 (lb 10 7) ?_
      refine pu HT_ 4 21 (lb 10 23) ?_
      refine pu HT_ 5 22 (lb 10 55) ?_
      refine pu HT_ 6 23 (lb 10 119) ?_
      refine tk HT_ HW_ hHeld 3 20 (lb 10 127) ?_
      refine tk HT_ HW_ hHeld 7 24 (lb 10 255) ?_
      refine on HT_ 8 25 (lb 10 511) fun K hK => ?_
      refine goes_ Try.func112 (by kernel_rfl) rfl #[.agg #[.int .i64 ((rd_T112 l0 x5_1).f0), .int .i64 ((rd_T112 l0 x5_1).f1), .int .i64 ((rd_T112 l0 x5_1).f2)], .agg #[.int .i64 ((rd_T112 l1 x5_1).f0), .int .i64 ((rd_T112 l1 x5_1).f1), .int .i64 ((rd_T112 l1 x5_1).f2)]] (by rfl) rfl rfl ga ?_
      with_reducible refine (laws_eqPipe.calls ((rd_T112 l0 x5_1).f0) ((rd_T112 l0 x5_1).f1) ((rd_T112 l0 x5_1).f2) ((rd_T112 l1 x5_1).f0) ((rd_T112 l1 x5_1).f1) ((rd_T112 l1 x5_1).f2) false _ A7.out).mono ?_
      rintro e w12 ⟨rfl, hb⟩
      refine ⟨_, rfl, ?_⟩
      replace HB := b2 hb
      (try clear hb)
      refine hK.out _ _ ⟨((HB.out.cell (World.block_lt_of_cell? w _ hw600_0)).trans hw600_0), ((HB.out.cell (World.block_lt_of_cell? w _ hw600_1)).trans hw600_1), ((HB.out.cell (World.block_lt_of_cell? w _ hw600_2)).trans hw600_2), ((HB.out.cell (World.block_lt_of_cell? w _ hw601_0)).trans hw601_0), ((HB.out.cell (World.block_lt_of_cell? w _ hw601_1)).trans hw601_1), ((HB.out.cell (World.block_lt_of_cell? w _ hw601_2)).trans hw601_2)⟩ (fun hHeld => ?_)
      clear hK K
      refine nm 25 ?_
      refine pu HT_ 9 26 (lb 10 1023) ?_
      refine done_ (done_of HT_.out (by kernel_rfl)) ?_
      try go_wp2
      go_ret
      exact ⟨er, bel⟩
    ·obtain rfl := Option.some.inj H
     go_wp2
     go_ret
     exact ⟨er, bel⟩
 ·rw [if_neg c3] at H
  have c3b0 : ((l0.length : Int) == (l1.length : Int)) = false := beq_eq_false_iff_ne.mpr c3
  have c3b1 : ((l0.length : Int) != (l1.length : Int)) = true := bne_iff_ne.mpr c3
  have c3b2 : (l0.length == l1.length) = false := by first | simpa using c3 | (simp at c3 ⊢; omega)
  obtain rfl := Option.some.inj H
  go_enter Try.func84, Try.ntmps84
  go_wp2
  go_ret
  exact ⟨er, bel⟩
def laws_eqNet.f (k : Nat) (a0_0 : Int) (l0_1 : List (S112)) (a1_0 : Int) (l1_1 : List (S112)) : Option (Bool) := if a0_0 = a1_0 then ((laws_eqPipeS.f k l0_1 l1_1).bind fun t605 => (if t605 = true then (some true) else (some false))) else (some false)
theorem laws_eqNet.calls (k : Nat) (a0_0 : Int) (A0_1 : Option Addr) (c0_1 : Nat) (l0_1 : List (S112)) (a1_0 : Int) (A1_1 : Option Addr) (c1_1 : Nat) (l1_1 : List (S112)) (r : Bool) (w : World) (hr0_1 : Kd.C k112 w A0_1 l0_1.length l0_1) (hc0_1 : l0_1.length ≤ c0_1) (hr1_1 : Kd.C k112 w A1_1 l1_1.length l1_1) (hc1_1 : l1_1.length ≤ c1_1) (h : laws_eqNet.f k a0_0 l0_1 a1_0 l1_1 = some r) : Calls Try.prog 40 #[.agg #[.int .i64 a0_0, .slice A0_1 l0_1.length c0_1], .agg #[.int .i64 a1_0, .slice A1_1 l1_1.length c1_1]] w fun e w' => e = .returned (.bool r) ∧ Below w.heap.size w w' := by
 have hu58 := Try.underlying58
 have HR0_1 := am hr0_1
 have HC0_1 := am hc0_1
 clear hr0_1 hc0_1
 have HR1_1 := am hr1_1
 have HC1_1 := am hc1_1
 clear hr1_1 hc1_1
 have HB := am (Below.refl w.heap.size w)
 have H : (if a0_0 = a1_0 then ((laws_eqPipeS.f k l0_1 l1_1).bind fun t605 => (if t605 = true then (some true) else (some false))) else (some false)) = some r := h
 clear h
 replace H := ie H; obtain ⟨c3b0, c3b1, H⟩ | ⟨⟨c3, c3b0, c3b1⟩, H⟩ := H
 ·replace H := bm H; obtain ⟨t605, A4, H⟩ := H
  replace H := ib H; obtain ⟨rfl, H⟩ | ⟨rfl, H⟩ := H
  ·obtain rfl := Option.some.inj H
   go_enter Try.func40, Try.ntmps40
   go_wp2_with (first | ((with_reducible refine gd 2 ?_); refine bx w 2 #[.int .i64 a0_0, .slice A0_1 l0_1.length c0_1] 58 ?_; clear HB; intro gb603 w6 BK603 GE603 HB) | ((with_reducible refine gd 3 ?_); refine by_ w 3 #[.int .i64 a1_0, .slice A1_1 l1_1.length c1_1] 58 ?_; clear HB; intro gb604 hg w7 BK604 GE604 hb HB; have NB603_604 := am ((nlt hg BK603.out : gb603 ≠ gb604)); have NB604_603 := am ((ngt hg BK603.out : gb604 ≠ gb603)); replace BK603 := b1 BK603 hb; clear hb hg; have hnb8 := NB603_604.out; have hnc8 := NB604_603.out; obtain ⟨_, _, _, _⟩ := cf2 BK603.out; obtain ⟨_, _, _, _⟩ := cf2 BK604.out) | ((with_reducible refine gc 84 ?_); refine gl2 14 Try.func84 (laws_eqPipeS.calls k _ _ l0_1 _ _ l1_1 true _ (cb HR0_1 HB) HC0_1.out (cb HR1_1 HB) HC1_1.out A4.out) ?_; intro w11 hb; replace BK603 := b1 BK603 hb; replace BK604 := b1 BK604 hb; replace HB := b2 hb; clear hb))
   go_ret
   exact ⟨er, bel⟩
  ·obtain rfl := Option.some.inj H
   go_enter Try.func40, Try.ntmps40
   go_wp2_with (first | ((with_reducible refine gd 2 ?_); refine bx w 2 #[.int .i64 a0_0, .slice A0_1 l0_1.length c0_1] 58 ?_; clear HB; intro gb603 w12 BK603 GE603 HB) | ((with_reducible refine gd 3 ?_); refine by_ w 3 #[.int .i64 a1_0, .slice A1_1 l1_1.length c1_1] 58 ?_; clear HB; intro gb604 hg w13 BK604 GE604 hb HB; have NB603_604 := am ((nlt hg BK603.out : gb603 ≠ gb604)); have NB604_603 := am ((ngt hg BK603.out : gb604 ≠ gb603)); replace BK603 := b1 BK603 hb; clear hb hg; have hnb14 := NB603_604.out; have hnc14 := NB604_603.out; obtain ⟨_, _, _, _⟩ := cf2 BK603.out; obtain ⟨_, _, _, _⟩ := cf2 BK604.out) | ((with_reducible refine gc 84 ?_); refine gl2 14 Try.func84 (laws_eqPipeS.calls k _ _ l0_1 _ _ l1_1 false _ (cb HR0_1 HB) HC0_1.out (cb HR1_1 HB) HC1_1.out A4.out) ?_; intro w17 hb; replace BK603 := b1 BK603 hb; replace BK604 := b1 BK604 hb; replace HB := b2 hb; clear hb))
   go_ret
   exact ⟨er, bel⟩
 ·obtain rfl := Option.some.inj H
  go_enter Try.func40, Try.ntmps40
  go_wp2_with (first | ((with_reducible refine gd 2 ?_); refine bx w 2 #[.int .i64 a0_0, .slice A0_1 l0_1.length c0_1] 58 ?_; clear HB; intro gb603 w18 BK603 GE603 HB) | ((with_reducible refine gd 3 ?_); refine by_ w 3 #[.int .i64 a1_0, .slice A1_1 l1_1.length c1_1] 58 ?_; clear HB; intro gb604 hg w19 BK604 GE604 hb HB; have NB603_604 := am ((nlt hg BK603.out : gb603 ≠ gb604)); have NB604_603 := am ((ngt hg BK603.out : gb604 ≠ gb603)); replace BK603 := b1 BK603 hb; clear hb hg; have hnb20 := NB603_604.out; have hnc20 := NB604_603.out; obtain ⟨_, _, _, _⟩ := cf2 BK603.out; obtain ⟨_, _, _, _⟩ := cf2 BK604.out))
  go_ret
  exact ⟨er, bel⟩
def laws_markPipeS.l0 : Nat → List (S112) → Int → Int → Option (Int × (List (S112)))
  | 0, _, _, _ => none
  | k + 1, x0, x1, x5 => if x5 < (x0.length : Int) then (if 0 ≤ x5 then ((some (x0.set (x5 : Int).toNat (⟨x1, (rd_T112 x0 x5).f1, (rd_T112 x0 x5).f2⟩ : S112) : List (S112))).bind fun y606 => ((some (y606.set (x5 : Int).toNat (⟨(rd_T112 y606 x5).f0, wrap64 (x1 + 1), (rd_T112 y606 x5).f2⟩ : S112) : List (S112))).bind fun y607 => (laws_markPipeS.l0 k (y607.set (x5 : Int).toNat (⟨(rd_T112 y607 x5).f0, (rd_T112 y607 x5).f1, wrap64 ((wrap64 (x1 + 1)) + 1)⟩ : S112)) (wrap64 ((wrap64 ((wrap64 (x1 + 1)) + 1)) + 1)) (wrap64 (x5 + 1))))) else (none)) else (some (x1, x0))
def laws_markPipeS.f (k : Nat) (l0 : List (S112)) (a1 : Int) : Option (Int × (List (S112))) := laws_markPipeS.l0 k l0 a1 0
theorem laws_markPipeS.calls (k : Nat) (P0_ : Nat → Prop) (u9000_ : Value) (l0 : List (S112)) (a1 : Int) (r1 : Int) (r2 : List (S112)) (w0 w : World) (hB : Below w0.heap.size w0 w) (ho0 : Kd.R k112 112 w w0.heap.size P0_ u9000_ l0) (h : laws_markPipeS.f k l0 a1 = some (r1, r2)) : Calls Try.prog 85 #[u9000_, .int .i64 a1] w fun e w' => e = .returned (.int .i64 r1) ∧ Kd.R k112 112 w' w0.heap.size (fun k_ => (P0_ k_ ∨ w.heap.size ≤ k_)) u9000_ r2 ∧ Below w0.heap.size w0 w' ∧ Kept w w' (fun k_ => P0_ k_) := by
 have HO0 := am (show Kd.R k112 112 w w0.heap.size (fun k_ => (P0_ k_ ∨ w.heap.size ≤ k_)) u9000_ l0 from Kd.R_mono ho0 (fun k_ hk => (.inl hk)))
 have HK := am (Kept.refl w (fun k_ => P0_ k_))
 have HW0 := am hB.size
 have HB := am hB
 clear hB
 have H : (laws_markPipeS.l0 k l0 a1 0) = some (r1, r2) := h
 clear h
 have H' := am H
 clear H
 go_enter Try.func85, Try.ntmps85
 go_wp2
 go_loopg [1, 5] k (fun kq v1 v5 w' => ∃ (x0_1 : List (S112)) (x1_1 : Int) (x5_1 : Int), v1 = .int .i64 x1_1 ∧ v5 = .int .i64 x5_1 ∧ Aside0 (laws_markPipeS.l0 kq x0_1 x1_1 x5_1 = some (r1, r2)) ∧ Aside0 (kq ≤ k) ∧ Aside0 (Kd.R k112 112 w' w0.heap.size (fun k_ => (P0_ k_ ∨ w.heap.size ≤ k_)) u9000_ x0_1) ∧ Aside0 (Kept w w' (fun k_ => P0_ k_)) ∧ Aside0 (Below w0.heap.size w0 w'))
 case atStart => exact ⟨(l0), (a1), (0), (es), (es), H', ⟨Nat.le_refl _⟩, ⟨rk HO0.out⟩, ⟨by repeat (first | (with_reducible first | exact HK.out | apply Kept.alloc | apply Kept.drewN | apply Kept.drew) | exact HK.out)⟩, ⟨bel⟩⟩
 case round =>
  clear H'
  obtain ⟨x0_1, x1_1, x5_1, rfl, rfl, HA, HK1, HO_0, HK, HB⟩ := hrel
  cases gk with
  | zero => exact absurd HA.out (by simp [laws_markPipeS.l0])
  | succ k1 =>
   have H := HA.out
   clear HA
   simp only [laws_markPipeS.l0] at H
   replace H := i1 H; obtain ⟨c3b0, H⟩ | ⟨c3b0, H⟩ := H
   ·replace H := i0 H; obtain ⟨c4b0, H⟩ := H
    obtain ⟨y606, hy606⟩ : ∃ y_ : List (S112), y_ = (x0_1.set (x5_1 : Int).toNat (⟨x1_1, (rd_T112 x0_1 x5_1).f1, (rd_T112 x0_1 x5_1).f2⟩ : S112)) := ⟨_, rfl⟩
    replace H : ((some (y606.set (x5_1 : Int).toNat (⟨(rd_T112 y606 x5_1).f0, wrap64 (x1_1 + 1), (rd_T112 y606 x5_1).f2⟩ : S112) : List (S112))).bind fun y607 => (laws_markPipeS.l0 k1 (y607.set (x5_1 : Int).toNat (⟨(rd_T112 y607 x5_1).f0, (rd_T112 y607 x5_1).f1, wrap64 ((wrap64 (x1_1 + 1)) + 1)⟩ : S112)) (wrap64 ((wrap64 ((wrap64 (x1_1 + 1)) + 1)) + 1)) (wrap64 (x5_1 + 1)))) = some (r1, r2) := by first | (rw [hy606]; with_reducible exact H) | (have H2_ := (Option.bind_some _ _).symm.trans H; rw [hy606]; with_reducible exact H2_) | (have H2_ := (Option.bind_some _ _).symm.trans H; with_reducible exact H2_) | with_reducible exact H | (rw [hy606]; exact H) | exact H
    have Ny606 := am hy606
    clear hy606
    obtain ⟨y607, hy607⟩ : ∃ y_ : List (S112), y_ = (y606.set (x5_1 : Int).toNat (⟨(rd_T112 y606 x5_1).f0, wrap64 (x1_1 + 1), (rd_T112 y606 x5_1).f2⟩ : S112)) := ⟨_, rfl⟩
    replace H : (laws_markPipeS.l0 k1 (y607.set (x5_1 : Int).toNat (⟨(rd_T112 y607 x5_1).f0, (rd_T112 y607 x5_1).f1, wrap64 ((wrap64 (x1_1 + 1)) + 1)⟩ : S112)) (wrap64 ((wrap64 ((wrap64 (x1_1 + 1)) + 1)) + 1)) (wrap64 (x5_1 + 1))) = some (r1, r2) := by first | (rw [hy607]; with_reducible exact H) | (have H2_ := (Option.bind_some _ _).symm.trans H; rw [hy607]; with_reducible exact H2_) | (have H2_ := (Option.bind_some _ _).symm.trans H; with_reducible exact H2_) | with_reducible exact H | (rw [hy607]; exact H) | exact H
    have Ny607 := am hy607
    clear hy607
    obtain ⟨y608, hy608⟩ : ∃ y_ : List (S112), y_ = (y607.set (x5_1 : Int).toNat (⟨(rd_T112 y607 x5_1).f0, (rd_T112 y607 x5_1).f1, wrap64 ((wrap64 (x1_1 + 1)) + 1)⟩ : S112)) := ⟨_, rfl⟩
    replace H : (laws_markPipeS.l0 k1 y608 (wrap64 ((wrap64 ((wrap64 (x1_1 + 1)) + 1)) + 1)) (wrap64 (x5_1 + 1))) = some (r1, r2) := by first | (rw [hy608]; with_reducible exact H) | (have H2_ := (Option.bind_some _ _).symm.trans H; rw [hy608]; with_reducible exact H2_) | (have H2_ := (Option.bind_some _ _).symm.trans H; with_reducible exact H2_) | with_reducible exact H | (rw [hy608]; exact H) | exact H
    have Ny608 := am hy608
    clear hy608
    have H' := am H
    clear H
    obtain ⟨Ao8, co8, eo8⟩ := Kd.R_slice HO_0.out
    subst eo8
    have p5 : 0 ≤ (x5_1 : Int) := asm
    have q5 : (x5_1 : Int) < ((x0_1.length : Int) : Int) := asm
    obtain ⟨go5, co5, eo5, gb5, gl5, cl5, HG5⟩ := Kd.R_form HO_0.out (by omega)
    (first | cases eo5 | (injection eo5 with ea_ en_ ec_; (first | subst ea_ | (injection ea_ with ea_; subst ea_)); subst ec_; clear en_))
    have GB5 := am gb5
    have GG5 := am HG5
    clear gb5 gl5 HG5
    have HMgo5 := am (show (P0_ go5 ∨ w.heap.size ≤ go5) from (HO_0.out.1 _ rfl))
    obtain ⟨ce5, hcl5, hM5, hcc5, hfr5⟩ := Kd.R_elem HO_0.out z112 (x5_1 : Int) p5 q5
    obtain rfl := k112_openM hM5
    have hx5_0 : wr.cell? ⟨go5, (x5_1 : Int).toNat * 3, none⟩ = some (.int .i64 ((rd_T112 x0_1 x5_1).f0)) := hcc5 0 _ rfl
    have hx5_1 : wr.cell? ⟨go5, (x5_1 : Int).toNat * 3 + 1, none⟩ = some (.int .i64 ((rd_T112 x0_1 x5_1).f1)) := hcc5 1 _ rfl
    have hx5_2 : wr.cell? ⟨go5, (x5_1 : Int).toNat * 3 + 2, none⟩ = some (.int .i64 ((rd_T112 x0_1 x5_1).f2)) := hcc5 2 _ rfl
    have hf5_0 : wr.frozen? ⟨go5, (x5_1 : Int).toNat * 3, none⟩ = false := hfr5 0
    have hf5_1 : wr.frozen? ⟨go5, (x5_1 : Int).toNat * 3 + 1, none⟩ = false := hfr5 1
    have hf5_2 : wr.frozen? ⟨go5, (x5_1 : Int).toNat * 3 + 2, none⟩ = false := hfr5 2
    clear hcl5 hcc5 hfr5 hM5
    replace p5 := eq_true p5
    replace q5 := eq_true q5
    have HX9 := am (show Kd.R k112 112 wr w0.heap.size (fun k_ => (P0_ k_ ∨ w.heap.size ≤ k_)) (.slice (some ⟨go5, 0, none⟩) x0_1.length co8) x0_1 from (rk HO_0.out))
    obtain ⟨ce9, hcl9, hM9, hcc9, hfr9⟩ := Kd.R_elem HX9.out z112 (x5_1 : Int) (asm) (by have h_ : (x5_1 : Int) < ((x0_1.length : Int) : Int) := asm; first | exact h_ | (have e_ := (Kd.R_reads' HO_0.out).1; omega) | simpa using h_)
    obtain rfl := k112_openM hM9
    have HP9 := Kd.R_seg HX9.out (x5_1 : Int) (asm) (by have h_ : (x5_1 : Int) < ((x0_1.length : Int) : Int) := asm; first | exact h_ | (have e_ := (Kd.R_reads' HO_0.out).1; omega) | simpa using h_) (seg := [.int .i64 x1_1]) (j := 0) hcl9 hcc9 (show 1 ≤ 3 from by decide) (x' := (⟨x1_1, (rd_T112 x0_1 x5_1).f1, (rd_T112 x0_1 x5_1).f2⟩ : S112)) (k112_mkM _ _ _ (⟨x1_1, (rd_T112 x0_1 x5_1).f1, (rd_T112 x0_1 x5_1).f2⟩ : S112) ) (fun _ hk => hk)
    have hx9_0 := hcc9 0 _ rfl
    (try simp only [show (k112).sz = 3 from rfl, Nat.mul_one, Nat.add_zero] at hx9_0)
    have hf9_0 := hfr9 0
    (try simp only [show (k112).sz = 3 from rfl, Nat.mul_one, Nat.add_zero] at hf9_0)
    clear hcl9 hcc9 hfr9 hM9
    go_wp2_with (first | ((with_reducible refine gate_store (t := 3) (p := 16) rfl ?_); refine store_event (t := 3) (p := 16) (v := ?vo_w10) (w1 := (wr.setCell ⟨go5, (x5_1 : Int).toNat * 3, none⟩ (.int .i64 x1_1))) ?hg ?ho ?hn ?hr ?_; (case ho => rfl); (case hg => rfl); (case hn => rfl); (case hr => first | (go_simp; done) | (go_simp; rfl)); intro w10 hw; have hg : wr.grownBy w10 (some go5) := (by rw [hw]; exact HP9.2); have hp_ : Kd.R k112 112 w10 w0.heap.size (fun k_ => (P0_ k_ ∨ w.heap.size ≤ k_)) (.slice (some ⟨go5, 0, none⟩) x0_1.length co8) y606 := (by rw [hw, Ny606.out]; exact HP9.1); clear HP9; have n0_ := am (hp_); have n1_ := am ((by rw [hw]; exact below_set (HB.out) GB5.out : Below w0.heap.size w0 w10)); have n2_ := am (Kept.of_grown (S := (fun k_ => P0_ k_)) hg (by repeat (first | (with_reducible first | exact HK.out | apply Kept.alloc | apply Kept.drewN | apply Kept.drew) | exact HK.out)) (fun k_ e_ => (HO_0.out.1 k_ e_))); clear HO_0; clear HB; clear HK; have HO_0 := n0_; have HB := n1_; have HK := n2_; clear n0_ n1_ n2_; clear hg hw hp_; have p6 : 0 ≤ (x5_1 : Int) := asm; have q6 : (x5_1 : Int) < ((x0_1.length : Int) : Int) := asm; obtain ⟨ce6, hcl6, hM6, hcc6, hfr6⟩ := Kd.R_elem HO_0.out z112 (x5_1 : Int) p6 q6; obtain rfl := k112_openM hM6; have hx6_0 : w10.cell? ⟨go5, (x5_1 : Int).toNat * 3, none⟩ = some (.int .i64 ((rd_T112 y606 x5_1).f0)) := hcc6 0 _ rfl; have hx6_1 : w10.cell? ⟨go5, (x5_1 : Int).toNat * 3 + 1, none⟩ = some (.int .i64 ((rd_T112 y606 x5_1).f1)) := hcc6 1 _ rfl; have hx6_2 : w10.cell? ⟨go5, (x5_1 : Int).toNat * 3 + 2, none⟩ = some (.int .i64 ((rd_T112 y606 x5_1).f2)) := hcc6 2 _ rfl; have hf6_0 : w10.frozen? ⟨go5, (x5_1 : Int).toNat * 3, none⟩ = false := hfr6 0; have hf6_1 : w10.frozen? ⟨go5, (x5_1 : Int).toNat * 3 + 1, none⟩ = false := hfr6 1; have hf6_2 : w10.frozen? ⟨go5, (x5_1 : Int).toNat * 3 + 2, none⟩ = false := hfr6 2; clear hcl6 hcc6 hfr6; (try clear hM6); replace p6 := eq_true p6; replace q6 := eq_true q6; have HX11 := am (show Kd.R k112 112 w10 w0.heap.size (fun k_ => (P0_ k_ ∨ w.heap.size ≤ k_)) (.slice (some ⟨go5, 0, none⟩) x0_1.length co8) y606 from (rk HO_0.out)); obtain ⟨ce11, hcl11, hM11, hcc11, hfr11⟩ := Kd.R_elem HX11.out z112 (x5_1 : Int) (asm) (by have h_ : (x5_1 : Int) < ((x0_1.length : Int) : Int) := asm; first | exact h_ | (have e_ := (Kd.R_reads' HO_0.out).1; omega) | simpa using h_); obtain rfl := k112_openM hM11; have HP11 := Kd.R_seg HX11.out (x5_1 : Int) (asm) (by have h_ : (x5_1 : Int) < ((x0_1.length : Int) : Int) := asm; first | exact h_ | (have e_ := (Kd.R_reads' HO_0.out).1; omega) | simpa using h_) (seg := [.int .i64 (wrap64 (x1_1 + 1))]) (j := 1) hcl11 hcc11 (show 2 ≤ 3 from by decide) (x' := (⟨(rd_T112 y606 x5_1).f0, wrap64 (x1_1 + 1), (rd_T112 y606 x5_1).f2⟩ : S112)) (k112_mkM _ _ _ (⟨(rd_T112 y606 x5_1).f0, wrap64 (x1_1 + 1), (rd_T112 y606 x5_1).f2⟩ : S112) ) (fun _ hk => hk); have hx11_1 := hcc11 1 _ rfl; (try simp only [show (k112).sz = 3 from rfl, Nat.mul_one, Nat.add_zero] at hx11_1); have hf11_1 := hfr11 1; (try simp only [show (k112).sz = 3 from rfl, Nat.mul_one, Nat.add_zero] at hf11_1); clear hcl11 hcc11 hfr11 hM11) | ((with_reducible refine gate_store (t := 3) (p := 23) rfl ?_); refine store_event (t := 3) (p := 23) (v := ?vo_w12) (w1 := (w10.setCell ⟨go5, (x5_1 : Int).toNat * 3 + 1, none⟩ (.int .i64 (wrap64 (x1_1 + 1))))) ?hg ?ho ?hn ?hr ?_; (case ho => rfl); (case hg => rfl); (case hn => rfl); (case hr => first | (go_simp; done) | (go_simp; rfl)); intro w12 hw; have hg : w10.grownBy w12 (some go5) := (by rw [hw]; exact HP11.2); have hp_ : Kd.R k112 112 w12 w0.heap.size (fun k_ => (P0_ k_ ∨ w.heap.size ≤ k_)) (.slice (some ⟨go5, 0, none⟩) x0_1.length co8) y607 := (by rw [hw, Ny607.out]; exact HP11.1); clear HP11; have n0_ := am (hp_); have n1_ := am ((by rw [hw]; exact below_set (HB.out) GB5.out : Below w0.heap.size w0 w12)); have n2_ := am (Kept.of_grown (S := (fun k_ => P0_ k_)) hg (by repeat (first | (with_reducible first | exact HK.out | apply Kept.alloc | apply Kept.drewN | apply Kept.drew) | exact HK.out)) (fun k_ e_ => (HO_0.out.1 k_ e_))); clear HO_0; clear HB; clear HK; have HO_0 := n0_; have HB := n1_; have HK := n2_; clear n0_ n1_ n2_; clear hg hw hp_; have p7 : 0 ≤ (x5_1 : Int) := asm; have q7 : (x5_1 : Int) < ((x0_1.length : Int) : Int) := asm; obtain ⟨ce7, hcl7, hM7, hcc7, hfr7⟩ := Kd.R_elem HO_0.out z112 (x5_1 : Int) p7 q7; obtain rfl := k112_openM hM7; have hx7_0 : w12.cell? ⟨go5, (x5_1 : Int).toNat * 3, none⟩ = some (.int .i64 ((rd_T112 y607 x5_1).f0)) := hcc7 0 _ rfl; have hx7_1 : w12.cell? ⟨go5, (x5_1 : Int).toNat * 3 + 1, none⟩ = some (.int .i64 ((rd_T112 y607 x5_1).f1)) := hcc7 1 _ rfl; have hx7_2 : w12.cell? ⟨go5, (x5_1 : Int).toNat * 3 + 2, none⟩ = some (.int .i64 ((rd_T112 y607 x5_1).f2)) := hcc7 2 _ rfl; have hf7_0 : w12.frozen? ⟨go5, (x5_1 : Int).toNat * 3, none⟩ = false := hfr7 0; have hf7_1 : w12.frozen? ⟨go5, (x5_1 : Int).toNat * 3 + 1, none⟩ = false := hfr7 1; have hf7_2 : w12.frozen? ⟨go5, (x5_1 : Int).toNat * 3 + 2, none⟩ = false := hfr7 2; clear hcl7 hcc7 hfr7; (try clear hM7); replace p7 := eq_true p7; replace q7 := eq_true q7; have HX13 := am (show Kd.R k112 112 w12 w0.heap.size (fun k_ => (P0_ k_ ∨ w.heap.size ≤ k_)) (.slice (some ⟨go5, 0, none⟩) x0_1.length co8) y607 from (rk HO_0.out)); obtain ⟨ce13, hcl13, hM13, hcc13, hfr13⟩ := Kd.R_elem HX13.out z112 (x5_1 : Int) (asm) (by have h_ : (x5_1 : Int) < ((x0_1.length : Int) : Int) := asm; first | exact h_ | (have e_ := (Kd.R_reads' HO_0.out).1; omega) | simpa using h_); obtain rfl := k112_openM hM13; have HP13 := Kd.R_seg HX13.out (x5_1 : Int) (asm) (by have h_ : (x5_1 : Int) < ((x0_1.length : Int) : Int) := asm; first | exact h_ | (have e_ := (Kd.R_reads' HO_0.out).1; omega) | simpa using h_) (seg := [.int .i64 (wrap64 ((wrap64 (x1_1 + 1)) + 1))]) (j := 2) hcl13 hcc13 (show 3 ≤ 3 from by decide) (x' := (⟨(rd_T112 y607 x5_1).f0, (rd_T112 y607 x5_1).f1, wrap64 ((wrap64 (x1_1 + 1)) + 1)⟩ : S112)) (k112_mkM _ _ _ (⟨(rd_T112 y607 x5_1).f0, (rd_T112 y607 x5_1).f1, wrap64 ((wrap64 (x1_1 + 1)) + 1)⟩ : S112) ) (fun _ hk => hk); have hx13_2 := hcc13 2 _ rfl; (try simp only [show (k112).sz = 3 from rfl, Nat.mul_one, Nat.add_zero] at hx13_2); have hf13_2 := hfr13 2; (try simp only [show (k112).sz = 3 from rfl, Nat.mul_one, Nat.add_zero] at hf13_2); clear hcl13 hcc13 hfr13 hM13) | ((with_reducible refine gate_store (t := 3) (p := 30) rfl ?_); refine store_event (t := 3) (p := 30) (v := ?vo_w14) (w1 := (w12.setCell ⟨go5, (x5_1 : Int).toNat * 3 + 2, none⟩ (.int .i64 (wrap64 ((wrap64 (x1_1 + 1)) + 1))))) ?hg ?ho ?hn ?hr ?_; (case ho => rfl); (case hg => rfl); (case hn => rfl); (case hr => first | (go_simp; done) | (go_simp; rfl)); intro w14 hw; have hg : w12.grownBy w14 (some go5) := (by rw [hw]; exact HP13.2); have hp_ : Kd.R k112 112 w14 w0.heap.size (fun k_ => (P0_ k_ ∨ w.heap.size ≤ k_)) (.slice (some ⟨go5, 0, none⟩) x0_1.length co8) y608 := (by rw [hw, Ny608.out]; exact HP13.1); clear HP13; have n0_ := am (hp_); have n1_ := am ((by rw [hw]; exact below_set (HB.out) GB5.out : Below w0.heap.size w0 w14)); have n2_ := am (Kept.of_grown (S := (fun k_ => P0_ k_)) hg (by repeat (first | (with_reducible first | exact HK.out | apply Kept.alloc | apply Kept.drewN | apply Kept.drew) | exact HK.out)) (fun k_ e_ => (HO_0.out.1 k_ e_))); clear HO_0; clear HB; clear HK; have HO_0 := n0_; have HB := n1_; have HK := n2_; clear n0_ n1_ n2_; clear hg hw hp_))
    go_roundg k1
    case measure => have := HK1.out; omega
    case rel => exact ⟨(y608), (wrap64 ((wrap64 ((wrap64 (x1_1 + 1)) + 1)) + 1)), (wrap64 (x5_1 + 1)), (es), (es), H', ⟨by have := HK1.out; omega⟩, ⟨rk HO_0.out⟩, ⟨by repeat (first | (with_reducible first | exact HK.out | apply Kept.alloc | apply Kept.drewN | apply Kept.drew) | exact HK.out)⟩, ⟨bel⟩⟩
   ·simp only [Option.some.injEq, Prod.mk.injEq] at H
    obtain ⟨rfl, rfl⟩ := H
    obtain ⟨Ao15, co15, eo15⟩ := Kd.R_slice HO_0.out
    subst eo15
    go_wp2
    go_ret
    exact ⟨er, rk HO_0.out, bel, by repeat (first | (with_reducible first | exact HK.out | apply Kept.alloc | apply Kept.drewN | apply Kept.drew) | exact HK.out)⟩
def laws_markNet.f (k : Nat) (a0_0 : Int) (l0_1 : List (S112)) (a1 : Int) : Option (Int × (List (S112))) := (laws_markPipeS.f k l0_1 a1).bind fun bt610 => (some (bt610.1, bt610.2))
theorem laws_markNet.calls (k : Nat) (a0_0 : Int) (P0_1_ : Nat → Prop) (u9000_ : Value) (l0_1 : List (S112)) (a1 : Int) (r1 : Int) (r2 : List (S112)) (w0 w : World) (hB : Below w0.heap.size w0 w) (ho0_1 : Kd.R k112 112 w w0.heap.size P0_1_ u9000_ l0_1) (h : laws_markNet.f k a0_0 l0_1 a1 = some (r1, r2)) : Calls Try.prog 41 #[.agg #[.int .i64 a0_0, u9000_], .int .i64 a1] w fun e w' => e = .returned (.int .i64 r1) ∧ Kd.R k112 112 w' w0.heap.size (fun k_ => (P0_1_ k_ ∨ w.heap.size ≤ k_)) u9000_ r2 ∧ Below w0.heap.size w0 w' ∧ Kept w w' (fun k_ => P0_1_ k_) := by
 have hu58 := Try.underlying58
 have HO0_1 := am (show Kd.R k112 112 w w0.heap.size (fun k_ => (P0_1_ k_ ∨ w.heap.size ≤ k_)) u9000_ l0_1 from Kd.R_mono ho0_1 (fun k_ hk => (.inl hk)))
 have HK := am (Kept.refl w (fun k_ => P0_1_ k_))
 have HW0 := am hB.size
 have HB := am hB
 clear hB
 have H : ((laws_markPipeS.f k l0_1 a1).bind fun bt610 => (some (bt610.1, bt610.2))) = some (r1, r2) := h
 clear h
 replace H := Option.bind_eq_some_iff.mp H
 obtain ⟨⟨t610, t611⟩, A30, H⟩ := H
 replace H : (some (t610, t611)) = some (r1, r2) := H
 have A3 := am A30
 clear A30
 simp only [Option.some.injEq, Prod.mk.injEq] at H
 obtain ⟨rfl, rfl⟩ := H
 obtain ⟨Ao4, co4, eo4⟩ := Kd.R_slice HO0_1.out
 subst eo4
 go_enter Try.func41, Try.ntmps41
 go_wp2_with (first | ((with_reducible refine gate_dst (N := 2) rfl ?_); refine box_event ?hg (N := 2) ?hd (cs := #[.int .i64 a0_0, .slice Ao4 l0_1.length co4]) (t := 58) ?hr ?_; (case hd => rfl); (case hg => rfl); (case hr => first | (go_simp; done) | (go_simp; rfl)); intro gb609 hg w5 hbox hb; have BK609 := am (hbox); have GW609 := am ((by rw [hg]; exact (by first | exact HK.out.1 | exact (show Kept w _ (fun k_ => P0_1_ k_) from by repeat (first | (with_reducible first | exact HK.out | apply Kept.alloc | apply Kept.drewN | apply Kept.drew) | exact HK.out)).1) : w.heap.size ≤ gb609)); have GE609 := am ((bsz hg : w0.heap.size ≤ gb609)); replace HO0_1 := am (Kd.R_below (rk HO0_1.out) hb); replace HK := am (Kept.below (S := (fun k_ => P0_1_ k_)) (by repeat (first | (with_reducible first | exact HK.out | apply Kept.alloc | apply Kept.drewN | apply Kept.drew) | exact HK.out)) hb); replace HB := b2 hb; clear hb hbox hg; obtain ⟨_, _, _, _⟩ := cf2 BK609.out) | ((with_reducible refine gc 85 ?_); refine gl 8 Try.func85 (laws_markPipeS.calls k (fun k_ => some k_ = (.slice Ao4 l0_1.length co4 : Value).ownBlock) (.slice Ao4 l0_1.length co4) l0_1 a1 t610 t611 w0 _ bel (Kd.R_tight rfl HO0_1.out) A3.out) ?_; rintro e w7 ⟨rfl, hy0, hb, hkp⟩; refine ⟨_, rfl, ?_⟩; have n0_ := am (Kd.R_reok rfl hy0 (fun k_ e_ => HO0_1.out.1 k_ e_)); have n1_ := am (blk_kept (bk BK609.out) hkp (fun hs_ => (fun e_ => (Kd.R_ne HO0_1.out BK609.out (by decide)) e_) hs_)); have n2_ := am (Kept.then_ (S := (fun k_ => P0_1_ k_)) (by repeat (first | (with_reducible first | exact HK.out | apply Kept.alloc | apply Kept.drewN | apply Kept.drew | refine Kept.setCell ?_ (.inr GW609.out) _) | exact HK.out)) hkp (fun k_ hs_ => (fun e_ => (HO0_1.out.1 k_ e_.symm)) hs_)); have n3_ := am (hb); clear HO0_1; clear BK609; clear HK; clear HB; have HO0_1 := n0_; have BK609 := n1_; have HK := n2_; have HB := n3_; clear n0_ n1_ n2_ n3_; clear hb; (try clear hkp); (try clear hy0)))
 go_ret
 exact ⟨er, rk HO0_1.out, bel, by repeat (first | (with_reducible first | exact HK.out | apply Kept.alloc | apply Kept.drewN | apply Kept.drew | refine Kept.setCell ?_ (.inr GW609.out) _) | exact HK.out)⟩
end Go.Proofs.Ytgalpgakdcfilaa.Q
