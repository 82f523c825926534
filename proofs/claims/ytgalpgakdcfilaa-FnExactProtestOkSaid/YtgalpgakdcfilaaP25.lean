-- Written by a program of this session (wip/xp.py, over the kit's print) out of the translation: functions, and the walks that show them.
import Derived.Test.YtgalpgakdcfilaaP0
import Derived.Test.YtgalpgakdcfilaaP18
import Derived.Test.YtgalpgakdcfilaaP20
import Derived.Test.YtgalpgakdcfilaaP23
import Derived.Test.YtgalpgakdcfilaaP24
namespace Go.Proofs.Ytgalpgakdcfilaa.P
open Go.RowKit Go.Proofs.YtgalpgakdcfilaaW.PrintWords Go.Proofs.YtgalpgakdcfilaaW.PrintLast Go.Proofs.YtgalpgakdcfilaaW.PrintMore
attribute [local go_sem] max2_int min2_int max_two min_two max_three min_three max_four min_four   -- for this text's walks alone
set_option linter.unusedVariables false
set_option linter.unusedSimpArgs false

/-! ### impl_BookOk: function 54 -/
def impl_BookOk.f (k : Nat) (l0_0 : List (S101)) (a0_1 : Int) (a0_2 : Int) (a0_3 : Int) (l0_4 : List Int) (a0_5 : Bool) (l0_6 : List (S71)) (l0_7 : List Int) (l0_8 : List Int) : Option (Bool) := (impl_FieldOk.f k l0_0).bind fun t285 => (if t285 = true then ((impl_RulesOk.f k a0_1 a0_2 a0_3 l0_4 a0_5).bind fun t286 => (if t286 = true then ((impl_SeasonOk.f k (l0_0.length : Int) l0_6).bind fun t287 => (if t287 = true then ((impl_arePenalties.f k l0_7 (l0_0.length : Int)).bind fun t288 => (if t288 = true then ((impl_arePenalties.f k l0_8 (l0_0.length : Int)).bind fun t289 => (some t289)) else (some false))) else (some false))) else (some false))) else (some false))
theorem impl_BookOk.mono : ∀ a0 a1 a2 a3 a4 a5 a6 a7 a8 k, LeO (impl_BookOk.f k a0 a1 a2 a3 a4 a5 a6 a7 a8) (impl_BookOk.f (k + 1) a0 a1 a2 a3 a4 a5 a6 a7 a8) := by
  intro a0 a1 a2 a3 a4 a5 a6 a7 a8 k
  unfold impl_BookOk.f
  repeat' first
      | (with_reducible exact impl_FieldOk.mono _ _)
      | (with_reducible exact impl_RulesOk.mono _ _ _ _ _ _)
      | (with_reducible exact impl_SeasonOk.mono _ _ _)
      | (with_reducible exact impl_arePenalties.mono _ _ _)
      | (with_reducible exact LeO.refl _)
      | (with_reducible exact LeO.none _)
      | (with_reducible refine LeO.ite ?_ ?_)
      | (with_reducible refine LeO.bind ?_ (fun _ => ?_))
      | exact impl_FieldOk.mono _ _
      | exact impl_RulesOk.mono _ _ _ _ _ _
      | exact impl_SeasonOk.mono _ _ _
      | exact impl_arePenalties.mono _ _ _
      | exact LeO.none _
      | refine LeO.ite ?_ ?_
      | refine LeO.bind ?_ (fun _ => ?_)
set_option maxHeartbeats 8000000 in
set_option maxRecDepth 100000 in
theorem impl_BookOk.calls (k : Nat) (A0_0 : Option Addr) (c0_0 : Nat) (l0_0 : List (S101)) (a0_1 : Int) (a0_2 : Int) (a0_3 : Int) (A0_4 : Option Addr) (c0_4 : Nat) (l0_4 : List Int) (a0_5 : Bool) (A0_6 : Option Addr) (c0_6 : Nat) (l0_6 : List (S71)) (A0_7 : Option Addr) (c0_7 : Nat) (l0_7 : List Int) (A0_8 : Option Addr) (c0_8 : Nat) (l0_8 : List Int) (r : Bool) (w : World) (hr0_0 : Kd.C k101 w A0_0 l0_0.length l0_0) (hc0_0 : l0_0.length ≤ c0_0) (hr0_4 : Kd.C (Kd.int .i64) w A0_4 l0_4.length l0_4) (hc0_4 : l0_4.length ≤ c0_4) (hr0_6 : Kd.C k71 w A0_6 l0_6.length l0_6) (hc0_6 : l0_6.length ≤ c0_6) (hr0_7 : Kd.C (Kd.int .i64) w A0_7 l0_7.length l0_7) (hc0_7 : l0_7.length ≤ c0_7) (hr0_8 : Kd.C (Kd.int .i64) w A0_8 l0_8.length l0_8) (hc0_8 : l0_8.length ≤ c0_8) (h : impl_BookOk.f k l0_0 a0_1 a0_2 a0_3 l0_4 a0_5 l0_6 l0_7 l0_8 = some r) :
    Calls Try.prog 54 #[.agg #[.slice A0_0 l0_0.length c0_0, .int .i64 a0_1, .int .i64 a0_2, .int .i64 a0_3, .slice A0_4 l0_4.length c0_4, .bool a0_5, .slice A0_6 l0_6.length c0_6, .slice A0_7 l0_7.length c0_7, .slice A0_8 l0_8.length c0_8]] w fun e w' => e = .returned (.bool r) ∧ Below w.heap.size w w' := by
  have hu37 := Try.underlying37
  have hu34 := Try.underlying34
  have HR0_0 := Aside0.mk hr0_0
  have HC0_0 := Aside0.mk hc0_0
  clear hr0_0 hc0_0
  have HR0_4 := Aside0.mk hr0_4
  have HC0_4 := Aside0.mk hc0_4
  clear hr0_4 hc0_4
  have HR0_6 := Aside0.mk hr0_6
  have HC0_6 := Aside0.mk hc0_6
  clear hr0_6 hc0_6
  have HR0_7 := Aside0.mk hr0_7
  have HC0_7 := Aside0.mk hc0_7
  clear hr0_7 hc0_7
  have HR0_8 := Aside0.mk hr0_8
  have HC0_8 := Aside0.mk hc0_8
  clear hr0_8 hc0_8
  have HB := Aside0.mk (Below.refl w.heap.size w)
  have H : ((impl_FieldOk.f k l0_0).bind fun t285 => (if t285 = true then ((impl_RulesOk.f k a0_1 a0_2 a0_3 l0_4 a0_5).bind fun t286 => (if t286 = true then ((impl_SeasonOk.f k (l0_0.length : Int) l0_6).bind fun t287 => (if t287 = true then ((impl_arePenalties.f k l0_7 (l0_0.length : Int)).bind fun t288 => (if t288 = true then ((impl_arePenalties.f k l0_8 (l0_0.length : Int)).bind fun t289 => (some t289)) else (some false))) else (some false))) else (some false))) else (some false))) = some r := h
  clear h
  replace H := Option.bind_eq_some_iff.mp H
  obtain ⟨t285, A20, H⟩ := H
  replace H : (if t285 = true then ((impl_RulesOk.f k a0_1 a0_2 a0_3 l0_4 a0_5).bind fun t286 => (if t286 = true then ((impl_SeasonOk.f k (l0_0.length : Int) l0_6).bind fun t287 => (if t287 = true then ((impl_arePenalties.f k l0_7 (l0_0.length : Int)).bind fun t288 => (if t288 = true then ((impl_arePenalties.f k l0_8 (l0_0.length : Int)).bind fun t289 => (some t289)) else (some false))) else (some false))) else (some false))) else (some false)) = some r := H
  have A2 := Aside0.mk A20
  clear A20
  by_cases c3 : t285 = true
  · subst c3
    have H1 : ((impl_RulesOk.f k a0_1 a0_2 a0_3 l0_4 a0_5).bind fun t286 => (if t286 = true then ((impl_SeasonOk.f k (l0_0.length : Int) l0_6).bind fun t287 => (if t287 = true then ((impl_arePenalties.f k l0_7 (l0_0.length : Int)).bind fun t288 => (if t288 = true then ((impl_arePenalties.f k l0_8 (l0_0.length : Int)).bind fun t289 => (some t289)) else (some false))) else (some false))) else (some false))) = some r := by rw [if_pos rfl] at H; exact H
    clear H
    have H := H1
    clear H1
    replace H := Option.bind_eq_some_iff.mp H
    obtain ⟨t286, A40, H⟩ := H
    replace H : (if t286 = true then ((impl_SeasonOk.f k (l0_0.length : Int) l0_6).bind fun t287 => (if t287 = true then ((impl_arePenalties.f k l0_7 (l0_0.length : Int)).bind fun t288 => (if t288 = true then ((impl_arePenalties.f k l0_8 (l0_0.length : Int)).bind fun t289 => (some t289)) else (some false))) else (some false))) else (some false)) = some r := H
    have A4 := Aside0.mk A40
    clear A40
    by_cases c5 : t286 = true
    · subst c5
      have H1 : ((impl_SeasonOk.f k (l0_0.length : Int) l0_6).bind fun t287 => (if t287 = true then ((impl_arePenalties.f k l0_7 (l0_0.length : Int)).bind fun t288 => (if t288 = true then ((impl_arePenalties.f k l0_8 (l0_0.length : Int)).bind fun t289 => (some t289)) else (some false))) else (some false))) = some r := by rw [if_pos rfl] at H; exact H
      clear H
      have H := H1
      clear H1
      replace H := Option.bind_eq_some_iff.mp H
      obtain ⟨t287, A60, H⟩ := H
      replace H : (if t287 = true then ((impl_arePenalties.f k l0_7 (l0_0.length : Int)).bind fun t288 => (if t288 = true then ((impl_arePenalties.f k l0_8 (l0_0.length : Int)).bind fun t289 => (some t289)) else (some false))) else (some false)) = some r := H
      have A6 := Aside0.mk A60
      clear A60
      by_cases c7 : t287 = true
      · subst c7
        have H1 : ((impl_arePenalties.f k l0_7 (l0_0.length : Int)).bind fun t288 => (if t288 = true then ((impl_arePenalties.f k l0_8 (l0_0.length : Int)).bind fun t289 => (some t289)) else (some false))) = some r := by rw [if_pos rfl] at H; exact H
        clear H
        have H := H1
        clear H1
        replace H := Option.bind_eq_some_iff.mp H
        obtain ⟨t288, A80, H⟩ := H
        replace H : (if t288 = true then ((impl_arePenalties.f k l0_8 (l0_0.length : Int)).bind fun t289 => (some t289)) else (some false)) = some r := H
        have A8 := Aside0.mk A80
        clear A80
        by_cases c9 : t288 = true
        · subst c9
          have H1 : ((impl_arePenalties.f k l0_8 (l0_0.length : Int)).bind fun t289 => (some t289)) = some r := by rw [if_pos rfl] at H; exact H
          clear H
          have H := H1
          clear H1
          replace H := Option.bind_eq_some_iff.mp H
          obtain ⟨t289, A100, H⟩ := H
          replace H : (some t289) = some r := H
          have A10 := Aside0.mk A100
          clear A100
          obtain rfl := Option.some.inj H
          go_enter Try.func54, Try.ntmps54
          go_wp2_with (first | ((with_reducible refine gate_dst (N := 1) rfl ?_); refine box_event ?hg (N := 1) ?hd (cs := #[.slice A0_0 l0_0.length c0_0, .int .i64 a0_1, .int .i64 a0_2, .int .i64 a0_3, .slice A0_4 l0_4.length c0_4, .bool a0_5, .slice A0_6 l0_6.length c0_6, .slice A0_7 l0_7.length c0_7, .slice A0_8 l0_8.length c0_8]) (t := 37) ?hr ?_; (case hd => rfl); (case hg => rfl); (case hr => first | (go_simp; done) | (go_simp; rfl)); intro gb284 hg w11 hbox hb; have BK284 := Aside0.mk (hbox); have GW284 := Aside0.mk ((bsz hg : w.heap.size ≤ gb284)); have GE284 := Aside0.mk ((bsz hg : w.heap.size ≤ gb284)); replace HB := Aside0.mk (below_step bel hb); clear hb hbox hg; obtain ⟨hcz12_0, hcz12_1, hcz12_2, hcz12_3, hcz12_4, hcz12_5, hcz12_6, hcz12_7, hcz12_8, hfz12_0, hfz12_1, hfz12_2, hfz12_3, hfz12_4, hfz12_5, hfz12_6, hfz12_7, hfz12_8⟩ := cf9 BK284.out) | ((with_reducible refine gate_callee (f := 96) rfl ?_); refine goesL_ (some 9) rfl rfl Try.func96 (by kernel_rfl) rfl #[.slice A0_0 l0_0.length c0_0] rfl ga ?_; (with_reducible refine (impl_FieldOk.calls k _ _ l0_0 true _ ?side1 ?side2 A2.out).mono ?_); (case side1 => exact ck (Kd.C_below HR0_0.out HB.out)); (case side2 => exact HC0_0.out); rintro e w13 ⟨rfl, hb⟩; refine ⟨_, rfl, ?_⟩; replace BK284 := Aside0.mk (bb BK284.out hb); replace HB := Aside0.mk (below_step bel hb); (try clear hb); obtain ⟨hcz14_0, hcz14_1, hcz14_2, hcz14_3, hcz14_4, hcz14_5, hcz14_6, hcz14_7, hcz14_8, hfz14_0, hfz14_1, hfz14_2, hfz14_3, hfz14_4, hfz14_5, hfz14_6, hfz14_7, hfz14_8⟩ := cf9 BK284.out) | (go_at_call 97; (with_reducible refine (impl_RulesOk.calls k a0_1 a0_2 a0_3 _ _ l0_4 a0_5 true _ ?side1 ?side2 A4.out).mono ?_); (case side1 => exact ck (Kd.C_below HR0_4.out HB.out)); (case side2 => exact HC0_4.out); rintro e w15 ⟨rfl, hb⟩; replace BK284 := Aside0.mk (bb BK284.out hb); replace HB := Aside0.mk (below_step bel hb); (try clear hb); (try clear hb2); (try clear hk); (try clear hi); obtain ⟨hcz16_0, hcz16_1, hcz16_2, hcz16_3, hcz16_4, hcz16_5, hcz16_6, hcz16_7, hcz16_8, hfz16_0, hfz16_1, hfz16_2, hfz16_3, hfz16_4, hfz16_5, hfz16_6, hfz16_7, hfz16_8⟩ := cf9 BK284.out) | (go_at_call 98; (with_reducible refine (impl_SeasonOk.calls k (l0_0.length : Int) _ _ l0_6 true _ ?side1 ?side2 A6.out).mono ?_); (case side1 => exact ck (Kd.C_below HR0_6.out HB.out)); (case side2 => exact HC0_6.out); rintro e w17 ⟨rfl, hb⟩; replace BK284 := Aside0.mk (bb BK284.out hb); replace HB := Aside0.mk (below_step bel hb); (try clear hb); (try clear hb2); (try clear hk); (try clear hi); obtain ⟨hcz18_0, hcz18_1, hcz18_2, hcz18_3, hcz18_4, hcz18_5, hcz18_6, hcz18_7, hcz18_8, hfz18_0, hfz18_1, hfz18_2, hfz18_3, hfz18_4, hfz18_5, hfz18_6, hfz18_7, hfz18_8⟩ := cf9 BK284.out) | (go_at_call 99; (with_reducible refine (impl_arePenalties.calls k _ _ l0_7 (l0_0.length : Int) true _ ?side1 ?side2 A8.out).mono ?_); (case side1 => exact ck (Kd.C_below HR0_7.out HB.out)); (case side2 => exact HC0_7.out); rintro e w19 ⟨rfl, hb⟩; replace BK284 := Aside0.mk (bb BK284.out hb); replace HB := Aside0.mk (below_step bel hb); (try clear hb); (try clear hb2); (try clear hk); (try clear hi); obtain ⟨hcz20_0, hcz20_1, hcz20_2, hcz20_3, hcz20_4, hcz20_5, hcz20_6, hcz20_7, hcz20_8, hfz20_0, hfz20_1, hfz20_2, hfz20_3, hfz20_4, hfz20_5, hfz20_6, hfz20_7, hfz20_8⟩ := cf9 BK284.out) | (go_at_call 99; (with_reducible refine (impl_arePenalties.calls k _ _ l0_8 (l0_0.length : Int) t289 _ ?side1 ?side2 A10.out).mono ?_); (case side1 => exact ck (Kd.C_below HR0_8.out HB.out)); (case side2 => exact HC0_8.out); rintro e w21 ⟨rfl, hb⟩; replace BK284 := Aside0.mk (bb BK284.out hb); replace HB := Aside0.mk (below_step bel hb); (try clear hb); (try clear hb2); (try clear hk); (try clear hi)))
          go_ret
          exact ⟨er, bel⟩
        · replace c9 := Bool.eq_false_iff.mpr c9
          subst c9
          have H1 : (some false) = some r := by rw [if_neg (show ¬ (false = true) by decide)] at H; exact H
          clear H
          have H := H1
          clear H1
          obtain rfl := Option.some.inj H
          go_enter Try.func54, Try.ntmps54
          go_wp2_with (first | ((with_reducible refine gate_dst (N := 1) rfl ?_); refine box_event ?hg (N := 1) ?hd (cs := #[.slice A0_0 l0_0.length c0_0, .int .i64 a0_1, .int .i64 a0_2, .int .i64 a0_3, .slice A0_4 l0_4.length c0_4, .bool a0_5, .slice A0_6 l0_6.length c0_6, .slice A0_7 l0_7.length c0_7, .slice A0_8 l0_8.length c0_8]) (t := 37) ?hr ?_; (case hd => rfl); (case hg => rfl); (case hr => first | (go_simp; done) | (go_simp; rfl)); intro gb284 hg w22 hbox hb; have BK284 := Aside0.mk (hbox); have GW284 := Aside0.mk ((bsz hg : w.heap.size ≤ gb284)); have GE284 := Aside0.mk ((bsz hg : w.heap.size ≤ gb284)); replace HB := Aside0.mk (below_step bel hb); clear hb hbox hg; obtain ⟨hcz23_0, hcz23_1, hcz23_2, hcz23_3, hcz23_4, hcz23_5, hcz23_6, hcz23_7, hcz23_8, hfz23_0, hfz23_1, hfz23_2, hfz23_3, hfz23_4, hfz23_5, hfz23_6, hfz23_7, hfz23_8⟩ := cf9 BK284.out) | ((with_reducible refine gate_callee (f := 96) rfl ?_); refine goesL_ (some 9) rfl rfl Try.func96 (by kernel_rfl) rfl #[.slice A0_0 l0_0.length c0_0] rfl ga ?_; (with_reducible refine (impl_FieldOk.calls k _ _ l0_0 true _ ?side1 ?side2 A2.out).mono ?_); (case side1 => exact ck (Kd.C_below HR0_0.out HB.out)); (case side2 => exact HC0_0.out); rintro e w24 ⟨rfl, hb⟩; refine ⟨_, rfl, ?_⟩; replace BK284 := Aside0.mk (bb BK284.out hb); replace HB := Aside0.mk (below_step bel hb); (try clear hb); obtain ⟨hcz25_0, hcz25_1, hcz25_2, hcz25_3, hcz25_4, hcz25_5, hcz25_6, hcz25_7, hcz25_8, hfz25_0, hfz25_1, hfz25_2, hfz25_3, hfz25_4, hfz25_5, hfz25_6, hfz25_7, hfz25_8⟩ := cf9 BK284.out) | (go_at_call 97; (with_reducible refine (impl_RulesOk.calls k a0_1 a0_2 a0_3 _ _ l0_4 a0_5 true _ ?side1 ?side2 A4.out).mono ?_); (case side1 => exact ck (Kd.C_below HR0_4.out HB.out)); (case side2 => exact HC0_4.out); rintro e w26 ⟨rfl, hb⟩; replace BK284 := Aside0.mk (bb BK284.out hb); replace HB := Aside0.mk (below_step bel hb); (try clear hb); (try clear hb2); (try clear hk); (try clear hi); obtain ⟨hcz27_0, hcz27_1, hcz27_2, hcz27_3, hcz27_4, hcz27_5, hcz27_6, hcz27_7, hcz27_8, hfz27_0, hfz27_1, hfz27_2, hfz27_3, hfz27_4, hfz27_5, hfz27_6, hfz27_7, hfz27_8⟩ := cf9 BK284.out) | (go_at_call 98; (with_reducible refine (impl_SeasonOk.calls k (l0_0.length : Int) _ _ l0_6 true _ ?side1 ?side2 A6.out).mono ?_); (case side1 => exact ck (Kd.C_below HR0_6.out HB.out)); (case side2 => exact HC0_6.out); rintro e w28 ⟨rfl, hb⟩; replace BK284 := Aside0.mk (bb BK284.out hb); replace HB := Aside0.mk (below_step bel hb); (try clear hb); (try clear hb2); (try clear hk); (try clear hi); obtain ⟨hcz29_0, hcz29_1, hcz29_2, hcz29_3, hcz29_4, hcz29_5, hcz29_6, hcz29_7, hcz29_8, hfz29_0, hfz29_1, hfz29_2, hfz29_3, hfz29_4, hfz29_5, hfz29_6, hfz29_7, hfz29_8⟩ := cf9 BK284.out) | (go_at_call 99; (with_reducible refine (impl_arePenalties.calls k _ _ l0_7 (l0_0.length : Int) false _ ?side1 ?side2 A8.out).mono ?_); (case side1 => exact ck (Kd.C_below HR0_7.out HB.out)); (case side2 => exact HC0_7.out); rintro e w30 ⟨rfl, hb⟩; replace BK284 := Aside0.mk (bb BK284.out hb); replace HB := Aside0.mk (below_step bel hb); (try clear hb); (try clear hb2); (try clear hk); (try clear hi)))
          go_ret
          exact ⟨er, bel⟩
      · replace c7 := Bool.eq_false_iff.mpr c7
        subst c7
        have H1 : (some false) = some r := by rw [if_neg (show ¬ (false = true) by decide)] at H; exact H
        clear H
        have H := H1
        clear H1
        obtain rfl := Option.some.inj H
        go_enter Try.func54, Try.ntmps54
        go_wp2_with (first | ((with_reducible refine gate_dst (N := 1) rfl ?_); refine box_event ?hg (N := 1) ?hd (cs := #[.slice A0_0 l0_0.length c0_0, .int .i64 a0_1, .int .i64 a0_2, .int .i64 a0_3, .slice A0_4 l0_4.length c0_4, .bool a0_5, .slice A0_6 l0_6.length c0_6, .slice A0_7 l0_7.length c0_7, .slice A0_8 l0_8.length c0_8]) (t := 37) ?hr ?_; (case hd => rfl); (case hg => rfl); (case hr => first | (go_simp; done) | (go_simp; rfl)); intro gb284 hg w31 hbox hb; have BK284 := Aside0.mk (hbox); have GW284 := Aside0.mk ((bsz hg : w.heap.size ≤ gb284)); have GE284 := Aside0.mk ((bsz hg : w.heap.size ≤ gb284)); replace HB := Aside0.mk (below_step bel hb); clear hb hbox hg; obtain ⟨hcz32_0, hcz32_1, hcz32_2, hcz32_3, hcz32_4, hcz32_5, hcz32_6, hcz32_7, hcz32_8, hfz32_0, hfz32_1, hfz32_2, hfz32_3, hfz32_4, hfz32_5, hfz32_6, hfz32_7, hfz32_8⟩ := cf9 BK284.out) | ((with_reducible refine gate_callee (f := 96) rfl ?_); refine goesL_ (some 9) rfl rfl Try.func96 (by kernel_rfl) rfl #[.slice A0_0 l0_0.length c0_0] rfl ga ?_; (with_reducible refine (impl_FieldOk.calls k _ _ l0_0 true _ ?side1 ?side2 A2.out).mono ?_); (case side1 => exact ck (Kd.C_below HR0_0.out HB.out)); (case side2 => exact HC0_0.out); rintro e w33 ⟨rfl, hb⟩; refine ⟨_, rfl, ?_⟩; replace BK284 := Aside0.mk (bb BK284.out hb); replace HB := Aside0.mk (below_step bel hb); (try clear hb); obtain ⟨hcz34_0, hcz34_1, hcz34_2, hcz34_3, hcz34_4, hcz34_5, hcz34_6, hcz34_7, hcz34_8, hfz34_0, hfz34_1, hfz34_2, hfz34_3, hfz34_4, hfz34_5, hfz34_6, hfz34_7, hfz34_8⟩ := cf9 BK284.out) | (go_at_call 97; (with_reducible refine (impl_RulesOk.calls k a0_1 a0_2 a0_3 _ _ l0_4 a0_5 true _ ?side1 ?side2 A4.out).mono ?_); (case side1 => exact ck (Kd.C_below HR0_4.out HB.out)); (case side2 => exact HC0_4.out); rintro e w35 ⟨rfl, hb⟩; replace BK284 := Aside0.mk (bb BK284.out hb); replace HB := Aside0.mk (below_step bel hb); (try clear hb); (try clear hb2); (try clear hk); (try clear hi); obtain ⟨hcz36_0, hcz36_1, hcz36_2, hcz36_3, hcz36_4, hcz36_5, hcz36_6, hcz36_7, hcz36_8, hfz36_0, hfz36_1, hfz36_2, hfz36_3, hfz36_4, hfz36_5, hfz36_6, hfz36_7, hfz36_8⟩ := cf9 BK284.out) | (go_at_call 98; (with_reducible refine (impl_SeasonOk.calls k (l0_0.length : Int) _ _ l0_6 false _ ?side1 ?side2 A6.out).mono ?_); (case side1 => exact ck (Kd.C_below HR0_6.out HB.out)); (case side2 => exact HC0_6.out); rintro e w37 ⟨rfl, hb⟩; replace BK284 := Aside0.mk (bb BK284.out hb); replace HB := Aside0.mk (below_step bel hb); (try clear hb); (try clear hb2); (try clear hk); (try clear hi)))
        go_ret
        exact ⟨er, bel⟩
    · replace c5 := Bool.eq_false_iff.mpr c5
      subst c5
      have H1 : (some false) = some r := by rw [if_neg (show ¬ (false = true) by decide)] at H; exact H
      clear H
      have H := H1
      clear H1
      obtain rfl := Option.some.inj H
      go_enter Try.func54, Try.ntmps54
      go_wp2_with (first | ((with_reducible refine gate_dst (N := 1) rfl ?_); refine box_event ?hg (N := 1) ?hd (cs := #[.slice A0_0 l0_0.length c0_0, .int .i64 a0_1, .int .i64 a0_2, .int .i64 a0_3, .slice A0_4 l0_4.length c0_4, .bool a0_5, .slice A0_6 l0_6.length c0_6, .slice A0_7 l0_7.length c0_7, .slice A0_8 l0_8.length c0_8]) (t := 37) ?hr ?_; (case hd => rfl); (case hg => rfl); (case hr => first | (go_simp; done) | (go_simp; rfl)); intro gb284 hg w38 hbox hb; have BK284 := Aside0.mk (hbox); have GW284 := Aside0.mk ((bsz hg : w.heap.size ≤ gb284)); have GE284 := Aside0.mk ((bsz hg : w.heap.size ≤ gb284)); replace HB := Aside0.mk (below_step bel hb); clear hb hbox hg; obtain ⟨hcz39_0, hcz39_1, hcz39_2, hcz39_3, hcz39_4, hcz39_5, hcz39_6, hcz39_7, hcz39_8, hfz39_0, hfz39_1, hfz39_2, hfz39_3, hfz39_4, hfz39_5, hfz39_6, hfz39_7, hfz39_8⟩ := cf9 BK284.out) | ((with_reducible refine gate_callee (f := 96) rfl ?_); refine goesL_ (some 9) rfl rfl Try.func96 (by kernel_rfl) rfl #[.slice A0_0 l0_0.length c0_0] rfl ga ?_; (with_reducible refine (impl_FieldOk.calls k _ _ l0_0 true _ ?side1 ?side2 A2.out).mono ?_); (case side1 => exact ck (Kd.C_below HR0_0.out HB.out)); (case side2 => exact HC0_0.out); rintro e w40 ⟨rfl, hb⟩; refine ⟨_, rfl, ?_⟩; replace BK284 := Aside0.mk (bb BK284.out hb); replace HB := Aside0.mk (below_step bel hb); (try clear hb); obtain ⟨hcz41_0, hcz41_1, hcz41_2, hcz41_3, hcz41_4, hcz41_5, hcz41_6, hcz41_7, hcz41_8, hfz41_0, hfz41_1, hfz41_2, hfz41_3, hfz41_4, hfz41_5, hfz41_6, hfz41_7, hfz41_8⟩ := cf9 BK284.out) | (go_at_call 97; (with_reducible refine (impl_RulesOk.calls k a0_1 a0_2 a0_3 _ _ l0_4 a0_5 false _ ?side1 ?side2 A4.out).mono ?_); (case side1 => exact ck (Kd.C_below HR0_4.out HB.out)); (case side2 => exact HC0_4.out); rintro e w42 ⟨rfl, hb⟩; replace BK284 := Aside0.mk (bb BK284.out hb); replace HB := Aside0.mk (below_step bel hb); (try clear hb); (try clear hb2); (try clear hk); (try clear hi)))
      go_ret
      exact ⟨er, bel⟩
  · replace c3 := Bool.eq_false_iff.mpr c3
    subst c3
    have H1 : (some false) = some r := by rw [if_neg (show ¬ (false = true) by decide)] at H; exact H
    clear H
    have H := H1
    clear H1
    obtain rfl := Option.some.inj H
    go_enter Try.func54, Try.ntmps54
    go_wp2_with (first | ((with_reducible refine gate_dst (N := 1) rfl ?_); refine box_event ?hg (N := 1) ?hd (cs := #[.slice A0_0 l0_0.length c0_0, .int .i64 a0_1, .int .i64 a0_2, .int .i64 a0_3, .slice A0_4 l0_4.length c0_4, .bool a0_5, .slice A0_6 l0_6.length c0_6, .slice A0_7 l0_7.length c0_7, .slice A0_8 l0_8.length c0_8]) (t := 37) ?hr ?_; (case hd => rfl); (case hg => rfl); (case hr => first | (go_simp; done) | (go_simp; rfl)); intro gb284 hg w43 hbox hb; have BK284 := Aside0.mk (hbox); have GW284 := Aside0.mk ((bsz hg : w.heap.size ≤ gb284)); have GE284 := Aside0.mk ((bsz hg : w.heap.size ≤ gb284)); replace HB := Aside0.mk (below_step bel hb); clear hb hbox hg; obtain ⟨hcz44_0, hcz44_1, hcz44_2, hcz44_3, hcz44_4, hcz44_5, hcz44_6, hcz44_7, hcz44_8, hfz44_0, hfz44_1, hfz44_2, hfz44_3, hfz44_4, hfz44_5, hfz44_6, hfz44_7, hfz44_8⟩ := cf9 BK284.out) | ((with_reducible refine gate_callee (f := 96) rfl ?_); refine goesL_ (some 9) rfl rfl Try.func96 (by kernel_rfl) rfl #[.slice A0_0 l0_0.length c0_0] rfl ga ?_; (with_reducible refine (impl_FieldOk.calls k _ _ l0_0 false _ ?side1 ?side2 A2.out).mono ?_); (case side1 => exact ck (Kd.C_below HR0_0.out HB.out)); (case side2 => exact HC0_0.out); rintro e w45 ⟨rfl, hb⟩; refine ⟨_, rfl, ?_⟩; replace BK284 := Aside0.mk (bb BK284.out hb); replace HB := Aside0.mk (below_step bel hb); (try clear hb)))
    go_ret
    exact ⟨er, bel⟩

/-! ### impl_plays: function 56 -/
def impl_plays.f (a0_0 : Int) (a0_1 : Int) (a0_2 : Int) (a0_3 : Int) (a0_4 : Int) (a1 : Int) : Option (Bool) := if a0_0 = a1 then (some true) else (some (a0_1 == a1))
set_option maxHeartbeats 8000000 in
set_option maxRecDepth 100000 in
theorem impl_plays.calls (a0_0 : Int) (a0_1 : Int) (a0_2 : Int) (a0_3 : Int) (a0_4 : Int) (a1 : Int) (r : Bool) (w : World) (h : impl_plays.f a0_0 a0_1 a0_2 a0_3 a0_4 a1 = some r) :
    Calls Try.prog 56 #[.agg #[.int .i64 a0_0, .int .i64 a0_1, .int .i64 a0_2, .int .i64 a0_3, .int .i64 a0_4], .int .i64 a1] w fun e w' => e = .returned (.bool r) ∧ Below w.heap.size w w' := by
  have hu71 := Try.underlying71
  have HB := Aside0.mk (Below.refl w.heap.size w)
  have H : (if a0_0 = a1 then (some true) else (some (a0_1 == a1))) = some r := h
  clear h
  by_cases c3 : a0_0 = a1
  · rw [if_pos c3] at H
    have c3b0 : (a0_0 == a1) = true := beq_iff_eq.mpr c3
    have c3b1 : (a0_0 != a1) = false := bne_eq_false_iff_eq.mpr c3
    clear c3
    obtain rfl := Option.some.inj H
    go_enter Try.func56, Try.ntmps56
    go_wp2_with (first | ((with_reducible refine gate_dst (N := 2) rfl ?_); refine box_event ?hg (N := 2) ?hd (cs := #[.int .i64 a0_0, .int .i64 a0_1, .int .i64 a0_2, .int .i64 a0_3, .int .i64 a0_4]) (t := 71) ?hr ?_; (case hd => rfl); (case hg => rfl); (case hr => first | (go_simp; done) | (go_simp; rfl)); intro gb290 hg w4 hbox hb; have BK290 := Aside0.mk (hbox); have GW290 := Aside0.mk ((bsz hg : w.heap.size ≤ gb290)); have GE290 := Aside0.mk ((bsz hg : w.heap.size ≤ gb290)); replace HB := Aside0.mk (below_step bel hb); clear hb hbox hg; obtain ⟨hcz5_0, hcz5_1, hcz5_2, hcz5_3, hcz5_4, hfz5_0, hfz5_1, hfz5_2, hfz5_3, hfz5_4⟩ := cf5 BK290.out))
    go_ret
    exact ⟨er, bel⟩
  · rw [if_neg c3] at H
    have c3b0 : (a0_0 == a1) = false := beq_eq_false_iff_ne.mpr c3
    have c3b1 : (a0_0 != a1) = true := bne_iff_ne.mpr c3
    obtain rfl := Option.some.inj H
    go_enter Try.func56, Try.ntmps56
    go_wp2_with (first | ((with_reducible refine gate_dst (N := 2) rfl ?_); refine box_event ?hg (N := 2) ?hd (cs := #[.int .i64 a0_0, .int .i64 a0_1, .int .i64 a0_2, .int .i64 a0_3, .int .i64 a0_4]) (t := 71) ?hr ?_; (case hd => rfl); (case hg => rfl); (case hr => first | (go_simp; done) | (go_simp; rfl)); intro gb290 hg w6 hbox hb; have BK290 := Aside0.mk (hbox); have GW290 := Aside0.mk ((bsz hg : w.heap.size ≤ gb290)); have GE290 := Aside0.mk ((bsz hg : w.heap.size ≤ gb290)); replace HB := Aside0.mk (below_step bel hb); clear hb hbox hg; obtain ⟨hcz7_0, hcz7_1, hcz7_2, hcz7_3, hcz7_4, hfz7_0, hfz7_1, hfz7_2, hfz7_3, hfz7_4⟩ := cf5 BK290.out))
    go_ret
    exact ⟨er, bel⟩

end Go.Proofs.Ytgalpgakdcfilaa.P
