-- Written by a program of this session (wip/xp.py, over the kit's print) out of the translation: functions, and the walks that show them.
import Derived.Test.YteaemblallbgpaaX0
import Derived.Test.YteaemblallbgpaaX1
import Derived.Test.YteaemblallbgpaaX3
import Derived.Test.YteaemblallbgpaaX6
import Derived.Test.YteaemblallbgpaaX9
import Derived.Test.YteaemblallbgpaaX11
import Derived.Test.YteaemblallbgpaaX22
import Derived.Test.YteaemblallbgpaaX24
namespace Go.Proofs.Yteaemblallbgpaa.X
open Go.RowKit Go.Proofs.YteaemblallbgpaaW.PrintWords Go.Proofs.YteaemblallbgpaaW.PrintLast Go.Proofs.YteaemblallbgpaaW.PrintMore
attribute [local go_sem] max2_int min2_int max_two min_two max_three min_three max_four min_four   -- for this text's walks alone
set_option linter.unusedVariables false
set_option linter.unusedSimpArgs false

/-! ### laws_FnExactIsFlow: function 7 -/
def laws_FnExactIsFlow.f (k : Nat) (a0_0 : Int) (l0_1 : List (S77)) (a1 : Int) (a2 : Int) (l3 : List Int) : Option (Bool) := if (l3.length : Int) > 1048576 then (some true) else ((laws_szNet.f a0_0 l0_1 1048576).bind fun t329 => (if t329 < 0 then (some true) else ((laws_toNet.f k a0_0 l0_1).bind fun bt330 => ((laws_toIntS.f k l3).bind fun t334 => ((spec_IsFlow.f k bt330.1 bt330.2 a1 a2 t334).bind fun t337 => ((laws_toNet.f k a0_0 l0_1).bind fun bt338 => ((laws_toIntS.f k l3).bind fun t343 => ((impl_IsFlow.f k bt338.1 bt338.2 a1 a2 t343).bind fun t346 => (if (t346 != t337) = true then (some false) else ((laws_toNet.f k a0_0 l0_1).bind fun bt347 => ((laws_eqNet.f k bt338.1 bt338.2 bt347.1 bt347.2).bind fun t351 => (if t351 = true then ((laws_toIntS.f k l3).bind fun t352 => ((laws_eqIntS.f k t343 t352).bind fun t355 => (if t355 = true then (some true) else (some false)))) else (some false)))))))))))))
theorem laws_FnExactIsFlow.mono : ∀ a0 a1 a2 a3 a4 k, LeO (laws_FnExactIsFlow.f k a0 a1 a2 a3 a4) (laws_FnExactIsFlow.f (k + 1) a0 a1 a2 a3 a4) := by
  intro a0 a1 a2 a3 a4 k
  unfold laws_FnExactIsFlow.f
  repeat' first
      | (with_reducible exact impl_IsFlow.mono _ _ _ _ _ _)
      | (with_reducible exact laws_eqIntS.mono _ _ _)
      | (with_reducible exact laws_eqNet.mono _ _ _ _ _)
      | (with_reducible exact laws_toIntS.mono _ _)
      | (with_reducible exact laws_toNet.mono _ _ _)
      | (with_reducible exact spec_IsFlow.mono _ _ _ _ _ _)
      | (with_reducible exact LeO.refl _)
      | (with_reducible exact LeO.none _)
      | (with_reducible refine LeO.ite ?_ ?_)
      | (with_reducible refine LeO.bind ?_ (fun _ => ?_))
      | exact impl_IsFlow.mono _ _ _ _ _ _
      | exact laws_eqIntS.mono _ _ _
      | exact laws_eqNet.mono _ _ _ _ _
      | exact laws_toIntS.mono _ _
      | exact laws_toNet.mono _ _ _
      | exact spec_IsFlow.mono _ _ _ _ _ _
      | exact LeO.none _
      | refine LeO.ite ?_ ?_
      | refine LeO.bind ?_ (fun _ => ?_)
set_option maxHeartbeats 8000000 in
set_option maxRecDepth 100000 in
theorem laws_FnExactIsFlow.calls (k : Nat) (a0_0 : Int) (A0_1 : Option Addr) (c0_1 : Nat) (l0_1 : List (S77)) (a1 : Int) (a2 : Int) (A3 : Option Addr) (c3 : Nat) (l3 : List Int) (r : Bool) (w : World) (hr0_1 : Kd.C k77 w A0_1 l0_1.length l0_1) (hc0_1 : l0_1.length ≤ c0_1) (hr3 : Kd.C (Kd.int .i64) w A3 l3.length l3) (hc3 : l3.length ≤ c3) (h : laws_FnExactIsFlow.f k a0_0 l0_1 a1 a2 l3 = some r) :
    Calls Try.prog 7 #[.agg #[.int .i64 a0_0, .slice A0_1 l0_1.length c0_1], .int .i64 a1, .int .i64 a2, .slice A3 l3.length c3] w fun e w' => e = .returned (.bool r) ∧ Below w.heap.size w w' := by
  have hu24 := Try.underlying24
  have hu29 := Try.underlying29
  have HR0_1 := Aside0.mk hr0_1
  have HC0_1 := Aside0.mk hc0_1
  clear hr0_1 hc0_1
  have HR3 := Aside0.mk hr3
  have HC3 := Aside0.mk hc3
  clear hr3 hc3
  have HB := Aside0.mk (Below.refl w.heap.size w)
  have H : (if (l3.length : Int) > 1048576 then (some true) else ((laws_szNet.f a0_0 l0_1 1048576).bind fun t329 => (if t329 < 0 then (some true) else ((laws_toNet.f k a0_0 l0_1).bind fun bt330 => ((laws_toIntS.f k l3).bind fun t334 => ((spec_IsFlow.f k bt330.1 bt330.2 a1 a2 t334).bind fun t337 => ((laws_toNet.f k a0_0 l0_1).bind fun bt338 => ((laws_toIntS.f k l3).bind fun t343 => ((impl_IsFlow.f k bt338.1 bt338.2 a1 a2 t343).bind fun t346 => (if (t346 != t337) = true then (some false) else ((laws_toNet.f k a0_0 l0_1).bind fun bt347 => ((laws_eqNet.f k bt338.1 bt338.2 bt347.1 bt347.2).bind fun t351 => (if t351 = true then ((laws_toIntS.f k l3).bind fun t352 => ((laws_eqIntS.f k t343 t352).bind fun t355 => (if t355 = true then (some true) else (some false)))) else (some false)))))))))))))) = some r := h
  clear h
  by_cases c5 : (l3.length : Int) > 1048576
  · rw [if_pos c5] at H
    have c5b0 : decide (1048576 < (l3.length : Int)) = true := decide_eq_true c5
    have c5b1 : decide (1048576 < l3.length) = true := decide_eq_true (by omega)
    clear c5
    obtain rfl := Option.some.inj H
    go_enter Try.func7, Try.ntmps7
    go_wp2_with (first | ((with_reducible refine gate_dst (N := 4) rfl ?_); refine box_event ?hg (N := 4) ?hd (cs := #[.int .i64 a0_0, .slice A0_1 l0_1.length c0_1]) (t := 24) ?hr ?_; (case hd => rfl); (case hg => rfl); (case hr => first | (go_simp; done) | (go_simp; rfl)); intro gb328 hg w6 hbox hb; have BK328 := Aside0.mk (hbox); have GW328 := Aside0.mk ((bsz hg : w.heap.size ≤ gb328)); have GE328 := Aside0.mk ((bsz hg : w.heap.size ≤ gb328)); replace HB := Aside0.mk (below_step bel hb); clear hb hbox hg))
    go_ret
    exact ⟨er, bel⟩
  · rw [if_neg c5] at H
    have c5b0 : decide (1048576 < (l3.length : Int)) = false := decide_eq_false c5
    have c5b1 : decide (1048576 < l3.length) = false := decide_eq_false (by omega)
    clear c5
    replace H := Option.bind_eq_some_iff.mp H
    obtain ⟨t329, A70, H⟩ := H
    replace H : (if t329 < 0 then (some true) else ((laws_toNet.f k a0_0 l0_1).bind fun bt330 => ((laws_toIntS.f k l3).bind fun t334 => ((spec_IsFlow.f k bt330.1 bt330.2 a1 a2 t334).bind fun t337 => ((laws_toNet.f k a0_0 l0_1).bind fun bt338 => ((laws_toIntS.f k l3).bind fun t343 => ((impl_IsFlow.f k bt338.1 bt338.2 a1 a2 t343).bind fun t346 => (if (t346 != t337) = true then (some false) else ((laws_toNet.f k a0_0 l0_1).bind fun bt347 => ((laws_eqNet.f k bt338.1 bt338.2 bt347.1 bt347.2).bind fun t351 => (if t351 = true then ((laws_toIntS.f k l3).bind fun t352 => ((laws_eqIntS.f k t343 t352).bind fun t355 => (if t355 = true then (some true) else (some false)))) else (some false)))))))))))) = some r := H
    have A7 := Aside0.mk A70
    clear A70
    by_cases c8 : t329 < 0
    · rw [if_pos c8] at H
      have c8b0 : decide (t329 < 0) = true := decide_eq_true c8
      clear c8
      obtain rfl := Option.some.inj H
      go_enter Try.func7, Try.ntmps7
      go_wp2_with (first | ((with_reducible refine gate_dst (N := 4) rfl ?_); refine box_event ?hg (N := 4) ?hd (cs := #[.int .i64 a0_0, .slice A0_1 l0_1.length c0_1]) (t := 24) ?hr ?_; (case hd => rfl); (case hg => rfl); (case hr => first | (go_simp; done) | (go_simp; rfl)); intro gb328 hg w9 hbox hb; have BK328 := Aside0.mk (hbox); have GW328 := Aside0.mk ((bsz hg : w.heap.size ≤ gb328)); have GE328 := Aside0.mk ((bsz hg : w.heap.size ≤ gb328)); replace HB := Aside0.mk (below_step bel hb); clear hb hbox hg; obtain ⟨hcz10_0, hcz10_1, hfz10_0, hfz10_1⟩ := cf2 BK328.out) | ((with_reducible refine gate_callee (f := 11) rfl ?_); refine goesL_ (some 19) rfl rfl Try.func11 (by kernel_rfl) rfl #[.agg #[.int .i64 a0_0, .slice A0_1 l0_1.length c0_1], .int .i64 1048576] rfl ga ?_; (with_reducible refine (laws_szNet.calls a0_0 _ _ l0_1 1048576 t329 _ ?side1 ?side2 A7.out).mono ?_); (case side1 => exact ck (Kd.C_below HR0_1.out HB.out)); (case side2 => exact HC0_1.out); rintro e w11 ⟨rfl, hb⟩; refine ⟨_, rfl, ?_⟩; replace BK328 := Aside0.mk (bb BK328.out hb); replace HB := Aside0.mk (below_step bel hb); (try clear hb)))
      go_ret
      exact ⟨er, bel⟩
    · rw [if_neg c8] at H
      have c8b0 : decide (t329 < 0) = false := decide_eq_false c8
      clear c8
      replace H := Option.bind_eq_some_iff.mp H
      obtain ⟨⟨t330, t331⟩, A120, H⟩ := H
      replace H : ((laws_toIntS.f k l3).bind fun t334 => ((spec_IsFlow.f k t330 t331 a1 a2 t334).bind fun t337 => ((laws_toNet.f k a0_0 l0_1).bind fun bt338 => ((laws_toIntS.f k l3).bind fun t343 => ((impl_IsFlow.f k bt338.1 bt338.2 a1 a2 t343).bind fun t346 => (if (t346 != t337) = true then (some false) else ((laws_toNet.f k a0_0 l0_1).bind fun bt347 => ((laws_eqNet.f k bt338.1 bt338.2 bt347.1 bt347.2).bind fun t351 => (if t351 = true then ((laws_toIntS.f k l3).bind fun t352 => ((laws_eqIntS.f k t343 t352).bind fun t355 => (if t355 = true then (some true) else (some false)))) else (some false)))))))))) = some r := H
      have A12 := Aside0.mk A120
      clear A120
      replace H := Option.bind_eq_some_iff.mp H
      obtain ⟨t334, A130, H⟩ := H
      replace H : ((spec_IsFlow.f k t330 t331 a1 a2 t334).bind fun t337 => ((laws_toNet.f k a0_0 l0_1).bind fun bt338 => ((laws_toIntS.f k l3).bind fun t343 => ((impl_IsFlow.f k bt338.1 bt338.2 a1 a2 t343).bind fun t346 => (if (t346 != t337) = true then (some false) else ((laws_toNet.f k a0_0 l0_1).bind fun bt347 => ((laws_eqNet.f k bt338.1 bt338.2 bt347.1 bt347.2).bind fun t351 => (if t351 = true then ((laws_toIntS.f k l3).bind fun t352 => ((laws_eqIntS.f k t343 t352).bind fun t355 => (if t355 = true then (some true) else (some false)))) else (some false))))))))) = some r := H
      have A13 := Aside0.mk A130
      clear A130
      replace H := Option.bind_eq_some_iff.mp H
      obtain ⟨t337, A140, H⟩ := H
      replace H : ((laws_toNet.f k a0_0 l0_1).bind fun bt338 => ((laws_toIntS.f k l3).bind fun t343 => ((impl_IsFlow.f k bt338.1 bt338.2 a1 a2 t343).bind fun t346 => (if (t346 != t337) = true then (some false) else ((laws_toNet.f k a0_0 l0_1).bind fun bt347 => ((laws_eqNet.f k bt338.1 bt338.2 bt347.1 bt347.2).bind fun t351 => (if t351 = true then ((laws_toIntS.f k l3).bind fun t352 => ((laws_eqIntS.f k t343 t352).bind fun t355 => (if t355 = true then (some true) else (some false)))) else (some false)))))))) = some r := H
      have A14 := Aside0.mk A140
      clear A140
      replace H := Option.bind_eq_some_iff.mp H
      obtain ⟨⟨t338, t339⟩, A150, H⟩ := H
      replace H : ((laws_toIntS.f k l3).bind fun t343 => ((impl_IsFlow.f k t338 t339 a1 a2 t343).bind fun t346 => (if (t346 != t337) = true then (some false) else ((laws_toNet.f k a0_0 l0_1).bind fun bt347 => ((laws_eqNet.f k t338 t339 bt347.1 bt347.2).bind fun t351 => (if t351 = true then ((laws_toIntS.f k l3).bind fun t352 => ((laws_eqIntS.f k t343 t352).bind fun t355 => (if t355 = true then (some true) else (some false)))) else (some false))))))) = some r := H
      have A15 := Aside0.mk A150
      clear A150
      replace H := Option.bind_eq_some_iff.mp H
      obtain ⟨t343, A160, H⟩ := H
      replace H : ((impl_IsFlow.f k t338 t339 a1 a2 t343).bind fun t346 => (if (t346 != t337) = true then (some false) else ((laws_toNet.f k a0_0 l0_1).bind fun bt347 => ((laws_eqNet.f k t338 t339 bt347.1 bt347.2).bind fun t351 => (if t351 = true then ((laws_toIntS.f k l3).bind fun t352 => ((laws_eqIntS.f k t343 t352).bind fun t355 => (if t355 = true then (some true) else (some false)))) else (some false)))))) = some r := H
      have A16 := Aside0.mk A160
      clear A160
      replace H := Option.bind_eq_some_iff.mp H
      obtain ⟨t346, A170, H⟩ := H
      replace H : (if (t346 != t337) = true then (some false) else ((laws_toNet.f k a0_0 l0_1).bind fun bt347 => ((laws_eqNet.f k t338 t339 bt347.1 bt347.2).bind fun t351 => (if t351 = true then ((laws_toIntS.f k l3).bind fun t352 => ((laws_eqIntS.f k t343 t352).bind fun t355 => (if t355 = true then (some true) else (some false)))) else (some false))))) = some r := H
      have A17 := Aside0.mk A170
      clear A170
      by_cases c18 : (t346 != t337) = true
      · rw [if_pos c18] at H
        have c18b0 : (t346 != t337) = true := c18
        (try (have c18b1 : decide (t346 = t337) = false := by simpa using c18))
        (try (have c18b2 : (t346 == t337) = false := by simpa using c18))
        (try (have c18b3 : ¬ (t346 = t337) := by simpa using c18))
        clear c18
        obtain rfl := Option.some.inj H
        go_enter Try.func7, Try.ntmps7
        go_wp2_with (first | ((with_reducible refine gate_dst (N := 4) rfl ?_); refine box_event ?hg (N := 4) ?hd (cs := #[.int .i64 a0_0, .slice A0_1 l0_1.length c0_1]) (t := 24) ?hr ?_; (case hd => rfl); (case hg => rfl); (case hr => first | (go_simp; done) | (go_simp; rfl)); intro gb328 hg w19 hbox hb; have BK328 := Aside0.mk (hbox); have GW328 := Aside0.mk ((bsz hg : w.heap.size ≤ gb328)); have GE328 := Aside0.mk ((bsz hg : w.heap.size ≤ gb328)); replace HB := Aside0.mk (below_step bel hb); clear hb hbox hg; obtain ⟨hcz20_0, hcz20_1, hfz20_0, hfz20_1⟩ := cf2 BK328.out) | ((with_reducible refine gate_callee (f := 11) rfl ?_); refine goesL_ (some 19) rfl rfl Try.func11 (by kernel_rfl) rfl #[.agg #[.int .i64 a0_0, .slice A0_1 l0_1.length c0_1], .int .i64 1048576] rfl ga ?_; (with_reducible refine (laws_szNet.calls a0_0 _ _ l0_1 1048576 t329 _ ?side1 ?side2 A7.out).mono ?_); (case side1 => exact ck (Kd.C_below HR0_1.out HB.out)); (case side2 => exact HC0_1.out); rintro e w21 ⟨rfl, hb⟩; refine ⟨_, rfl, ?_⟩; replace BK328 := Aside0.mk (bb BK328.out hb); replace HB := Aside0.mk (below_step bel hb); (try clear hb); obtain ⟨hcz22_0, hcz22_1, hfz22_0, hfz22_1⟩ := cf2 BK328.out) | ((with_reducible refine gate_callee (f := 13) rfl ?_); refine goesL_ (some 23) rfl rfl Try.func13 (by kernel_rfl) rfl #[.agg #[.int .i64 a0_0, .slice A0_1 l0_1.length c0_1]] rfl ga ?_; (with_reducible refine (laws_toNet.calls k a0_0 _ _ l0_1 t330 t331 _ ?side1 ?side2 A12.out).mono ?_); (case side1 => exact ck (Kd.C_below HR0_1.out HB.out)); (case side2 => exact HC0_1.out); rintro e w23 ⟨v332, rfl, ho0, hb⟩; refine ⟨_, rfl, ?_⟩; have HO333 := Aside0.mk (Kd.R_lower ho0 (below_size bel)); replace BK328 := Aside0.mk (bb BK328.out hb); replace HB := Aside0.mk (below_step bel hb); (try clear hb); (try clear ho0)) | ((with_reducible refine gate_callee (f := 17) rfl ?_); refine goesL_ (some 27) rfl rfl Try.func17 (by kernel_rfl) rfl #[.slice A3 l3.length c3] rfl ga ?_; (with_reducible refine (laws_toIntS.calls k _ _ l3 t334 _ ?side1 ?side2 A13.out).mono ?_); (case side1 => exact ck (Kd.C_below HR3.out HB.out)); (case side2 => exact HC3.out); rintro e w24 ⟨v335, rfl, ho0, hb⟩; refine ⟨_, rfl, ?_⟩; have HO336 := Aside0.mk (Kd.R_lower ho0 (below_size bel)); replace HO333 := Aside0.mk (Kd.R_below (rk HO333.out) hb); replace BK328 := Aside0.mk (bb BK328.out hb); replace HB := Aside0.mk (below_step bel hb); (try clear hb); (try clear ho0); obtain ⟨Ao25, co25, eo25⟩ := Kd.R_slice HO333.out; subst eo25; obtain ⟨Ao26, co26, eo26⟩ := Kd.R_slice HO336.out; subst eo26) | ((with_reducible refine gate_callee (f := 26) rfl ?_); refine goesL_ (some 28) rfl rfl Try.func26 (by kernel_rfl) rfl #[.agg #[.int .i64 t330, .slice Ao25 t331.length co25], .int .i64 a1, .int .i64 a2, .slice Ao26 t334.length co26] rfl ga ?_; (with_reducible refine (spec_IsFlow.calls k t330 _ _ t331 a1 a2 _ _ t334 t337 _ ?side1 ?side2 ?side3 ?side4 A14.out).mono ?_); (case side1 => exact ck (Kd.R_reads' HO333.out).2.2); (case side2 => exact (Kd.R_reads' HO333.out).2.1); (case side3 => exact ck (Kd.R_reads' HO336.out).2.2); (case side4 => exact (Kd.R_reads' HO336.out).2.1); rintro e w27 ⟨rfl, hb⟩; refine ⟨_, rfl, ?_⟩; replace HO333 := Aside0.mk (Kd.R_below (rk HO333.out) hb); replace HO336 := Aside0.mk (Kd.R_below (rk HO336.out) hb); replace BK328 := Aside0.mk (bb BK328.out hb); replace HB := Aside0.mk (below_step bel hb); (try clear hb); obtain ⟨hcz28_0, hcz28_1, hfz28_0, hfz28_1⟩ := cf2 BK328.out) | ((with_reducible refine gate_callee (f := 13) rfl ?_); refine goesL_ (some 30) rfl rfl Try.func13 (by kernel_rfl) rfl #[.agg #[.int .i64 a0_0, .slice A0_1 l0_1.length c0_1]] rfl ga ?_; (with_reducible refine (laws_toNet.calls k a0_0 _ _ l0_1 t338 t339 _ ?side1 ?side2 A15.out).mono ?_); (case side1 => exact ck (Kd.C_below HR0_1.out HB.out)); (case side2 => exact HC0_1.out); rintro e w29 ⟨v340, rfl, ho0, hb⟩; refine ⟨_, rfl, ?_⟩; have HO341 := Aside0.mk (Kd.R_lower (Kd.R_new' ho0 (Kd.R_lt (rk HO333.out))) (below_size bel)); replace HO333 := Aside0.mk (Kd.R_elder' (rk HO333.out) (Kd.R_base ho0) hb); replace HO336 := Aside0.mk (Kd.R_below (rk HO336.out) hb); replace BK328 := Aside0.mk (bb BK328.out hb); replace HB := Aside0.mk (below_step bel hb); (try clear hb); (try clear ho0)) | ((with_reducible refine gate_dst (N := 11) rfl ?_); refine box_event ?hg (N := 11) ?hd (cs := #[.int .i64 0, .slice none 0 0]) (t := 29) ?hr ?_; (case hd => rfl); (case hg => rfl); (case hr => first | (go_simp; done) | (go_simp; rfl)); intro gb342 hg w30 hbox hb; have BK342 := Aside0.mk (hbox); have GW342 := Aside0.mk ((bsz hg : w.heap.size ≤ gb342)); have GE342 := Aside0.mk ((bsz hg : w.heap.size ≤ gb342)); have NB328_342 := Aside0.mk ((nlt hg BK328.out : gb328 ≠ gb342)); have NB342_328 := Aside0.mk ((ngt hg BK328.out : gb342 ≠ gb328)); replace HO333 := Aside0.mk (Kd.R_below (rk HO333.out) hb); replace HO336 := Aside0.mk (Kd.R_below (rk HO336.out) hb); replace HO341 := Aside0.mk (Kd.R_below (rk HO341.out) hb); replace BK328 := Aside0.mk (bb BK328.out hb); replace HB := Aside0.mk (below_step bel hb); clear hb hbox hg; have hnb31 := NB342_328.out; have hnc31 := NB328_342.out; obtain ⟨hcz32_0, hcz32_1, hfz32_0, hfz32_1⟩ := cf2 BK342.out; obtain ⟨Ao33, co33, eo33⟩ := Kd.R_slice HO341.out; subst eo33) | ((with_reducible refine gate_callee (f := 17) rfl ?_); refine goesL_ (some 32) rfl rfl Try.func17 (by kernel_rfl) rfl #[.slice A3 l3.length c3] rfl ga ?_; (with_reducible refine (laws_toIntS.calls k _ _ l3 t343 _ ?side1 ?side2 A16.out).mono ?_); (case side1 => exact Kd.C_below HR3.out bel); (case side2 => exact HC3.out); rintro e w34 ⟨v344, rfl, ho0, hb⟩; refine ⟨_, rfl, ?_⟩; have HO345 := Aside0.mk (Kd.R_lower (Kd.R_new' ho0 (Kd.R_lt (by exact rk (Kd.R_mono (Kd.R_far (p := ⟨gb342, 1, none⟩) (Kd.R_far (p := ⟨gb342, 0, none⟩) (Kd.R_types HO336.out BK342.out (by decide)) (fun _ hk => hk.2) (.int .i64 t338)) (fun _ hk => hk.2) (.slice Ao33 t339.length co33)) (fun _ h_ => h_.1))))) (below_size bel)); replace HO333 := Aside0.mk (Kd.R_below (by exact rk (Kd.R_mono (Kd.R_far (p := ⟨gb342, 1, none⟩) (Kd.R_far (p := ⟨gb342, 0, none⟩) (Kd.R_types HO333.out BK342.out (by decide)) (fun _ hk => hk.2) (.int .i64 t338)) (fun _ hk => hk.2) (.slice Ao33 t339.length co33)) (fun _ h_ => h_.1))) hb); replace HO336 := Aside0.mk (Kd.R_elder' (by exact rk (Kd.R_mono (Kd.R_far (p := ⟨gb342, 1, none⟩) (Kd.R_far (p := ⟨gb342, 0, none⟩) (Kd.R_types HO336.out BK342.out (by decide)) (fun _ hk => hk.2) (.int .i64 t338)) (fun _ hk => hk.2) (.slice Ao33 t339.length co33)) (fun _ h_ => h_.1))) (Kd.R_base ho0) hb); replace HO341 := Aside0.mk (Kd.R_below (by exact rk (Kd.R_mono (Kd.R_far (p := ⟨gb342, 1, none⟩) (Kd.R_far (p := ⟨gb342, 0, none⟩) (Kd.R_types HO341.out BK342.out (by decide)) (fun _ hk => hk.2) (.int .i64 t338)) (fun _ hk => hk.2) (.slice Ao33 t339.length co33)) (fun _ h_ => h_.1))) hb); replace BK328 := Aside0.mk (bb BK328.out hb); replace BK342 := Aside0.mk (blk_below (g := gb342) (o := .cells #[.int .i64 t338, .slice Ao33 t339.length co33] 29 (0, 0)) (by (with_reducible repeat (first | refine blk_drewN ?_ _ | refine blk_drew ?_ | refine blk_alloc ?_ _)); refine blk_put (cs := #[.int .i64 t338, .slice none 0 0]) ?_ 1 _ rfl; (with_reducible repeat (first | refine blk_drewN ?_ _ | refine blk_drew ?_ | refine blk_alloc ?_ _)); refine blk_put (cs := #[.int .i64 0, .slice none 0 0]) ?_ 0 _ rfl; (with_reducible repeat (first | refine blk_drewN ?_ _ | refine blk_drew ?_ | refine blk_alloc ?_ _)); exact BK342.out) hb); replace HB := Aside0.mk (below_step bel hb); (try clear hb); (try clear ho0); obtain ⟨hcz35_0, hcz35_1, hfz35_0, hfz35_1⟩ := cf2 BK342.out; obtain ⟨Ao36, co36, eo36⟩ := Kd.R_slice HO345.out; subst eo36) | ((with_reducible refine gate_callee (f := 27) rfl ?_); refine goesL_ (some 37) rfl rfl Try.func27 (by kernel_rfl) rfl #[.agg #[.int .i64 t338, .slice Ao33 t339.length co33], .int .i64 a1, .int .i64 a2, .slice Ao36 t343.length co36] rfl ga ?_; (with_reducible refine (impl_IsFlow.calls k t338 _ _ t339 a1 a2 _ _ t343 t346 _ ?side1 ?side2 ?side3 ?side4 A17.out).mono ?_); (case side1 => exact ck (Kd.R_reads' HO341.out).2.2); (case side2 => exact (Kd.R_reads' HO341.out).2.1); (case side3 => exact ck (Kd.R_reads' HO345.out).2.2); (case side4 => exact (Kd.R_reads' HO345.out).2.1); rintro e w37 ⟨rfl, hb⟩; refine ⟨_, rfl, ?_⟩; replace HO333 := Aside0.mk (Kd.R_below (rk HO333.out) hb); replace HO336 := Aside0.mk (Kd.R_below (rk HO336.out) hb); replace HO341 := Aside0.mk (Kd.R_below (rk HO341.out) hb); replace HO345 := Aside0.mk (Kd.R_below (rk HO345.out) hb); replace BK328 := Aside0.mk (bb BK328.out hb); replace BK342 := Aside0.mk (bb BK342.out hb); replace HB := Aside0.mk (below_step bel hb); (try clear hb)))
        go_ret
        exact ⟨er, bel⟩
      · rw [if_neg c18] at H
        have c18b0 : (t346 != t337) = false := by simpa using c18
        (try (have c18b1 : decide (t346 = t337) = true := by simpa using c18))
        (try (have c18b2 : (t346 == t337) = true := by simpa using c18))
        clear c18
        replace H := Option.bind_eq_some_iff.mp H
        obtain ⟨⟨t347, t348⟩, A380, H⟩ := H
        replace H : ((laws_eqNet.f k t338 t339 t347 t348).bind fun t351 => (if t351 = true then ((laws_toIntS.f k l3).bind fun t352 => ((laws_eqIntS.f k t343 t352).bind fun t355 => (if t355 = true then (some true) else (some false)))) else (some false))) = some r := H
        have A38 := Aside0.mk A380
        clear A380
        replace H := Option.bind_eq_some_iff.mp H
        obtain ⟨t351, A390, H⟩ := H
        replace H : (if t351 = true then ((laws_toIntS.f k l3).bind fun t352 => ((laws_eqIntS.f k t343 t352).bind fun t355 => (if t355 = true then (some true) else (some false)))) else (some false)) = some r := H
        have A39 := Aside0.mk A390
        clear A390
        by_cases c40 : t351 = true
        · subst c40
          have H1 : ((laws_toIntS.f k l3).bind fun t352 => ((laws_eqIntS.f k t343 t352).bind fun t355 => (if t355 = true then (some true) else (some false)))) = some r := by rw [if_pos rfl] at H; exact H
          clear H
          have H := H1
          clear H1
          replace H := Option.bind_eq_some_iff.mp H
          obtain ⟨t352, A410, H⟩ := H
          replace H : ((laws_eqIntS.f k t343 t352).bind fun t355 => (if t355 = true then (some true) else (some false))) = some r := H
          have A41 := Aside0.mk A410
          clear A410
          replace H := Option.bind_eq_some_iff.mp H
          obtain ⟨t355, A420, H⟩ := H
          replace H : (if t355 = true then (some true) else (some false)) = some r := H
          have A42 := Aside0.mk A420
          clear A420
          by_cases c43 : t355 = true
          · subst c43
            have H1 : (some true) = some r := by rw [if_pos rfl] at H; exact H
            clear H
            have H := H1
            clear H1
            obtain rfl := Option.some.inj H
            go_enter Try.func7, Try.ntmps7
            try go_wp2_with (first | ((with_reducible refine gate_dst (N := 4) rfl ?_); refine box_event ?hg (N := 4) ?hd (cs := #[.int .i64 a0_0, .slice A0_1 l0_1.length c0_1]) (t := 24) ?hr ?_; (case hd => rfl); (case hg => rfl); (case hr => first | (go_simp; done) | (go_simp; rfl)); intro gb328 hg w44 hbox hb; have BK328 := Aside0.mk (hbox); have GW328 := Aside0.mk ((bsz hg : w.heap.size ≤ gb328)); have GE328 := Aside0.mk ((bsz hg : w.heap.size ≤ gb328)); replace HB := Aside0.mk (below_step bel hb); clear hb hbox hg; obtain ⟨hcz45_0, hcz45_1, hfz45_0, hfz45_1⟩ := cf2 BK328.out) | ((with_reducible refine gate_callee (f := 11) rfl ?_); refine goesL_ (some 19) rfl rfl Try.func11 (by kernel_rfl) rfl #[.agg #[.int .i64 a0_0, .slice A0_1 l0_1.length c0_1], .int .i64 1048576] rfl ga ?_; (with_reducible refine (laws_szNet.calls a0_0 _ _ l0_1 1048576 t329 _ ?side1 ?side2 A7.out).mono ?_); (case side1 => exact ck (Kd.C_below HR0_1.out HB.out)); (case side2 => exact HC0_1.out); rintro e w46 ⟨rfl, hb⟩; refine ⟨_, rfl, ?_⟩; replace BK328 := Aside0.mk (bb BK328.out hb); replace HB := Aside0.mk (below_step bel hb); (try clear hb); obtain ⟨hcz47_0, hcz47_1, hfz47_0, hfz47_1⟩ := cf2 BK328.out) | ((with_reducible refine gate_callee (f := 13) rfl ?_); refine goesL_ (some 23) rfl rfl Try.func13 (by kernel_rfl) rfl #[.agg #[.int .i64 a0_0, .slice A0_1 l0_1.length c0_1]] rfl ga ?_; (with_reducible refine (laws_toNet.calls k a0_0 _ _ l0_1 t330 t331 _ ?side1 ?side2 A12.out).mono ?_); (case side1 => exact ck (Kd.C_below HR0_1.out HB.out)); (case side2 => exact HC0_1.out); rintro e w48 ⟨v332, rfl, ho0, hb⟩; refine ⟨_, rfl, ?_⟩; have HO333 := Aside0.mk (Kd.R_lower ho0 (below_size bel)); replace BK328 := Aside0.mk (bb BK328.out hb); replace HB := Aside0.mk (below_step bel hb); (try clear hb); (try clear ho0)) | ((with_reducible refine gate_callee (f := 17) rfl ?_); refine goesL_ (some 27) rfl rfl Try.func17 (by kernel_rfl) rfl #[.slice A3 l3.length c3] rfl ga ?_; (with_reducible refine (laws_toIntS.calls k _ _ l3 t334 _ ?side1 ?side2 A13.out).mono ?_); (case side1 => exact ck (Kd.C_below HR3.out HB.out)); (case side2 => exact HC3.out); rintro e w49 ⟨v335, rfl, ho0, hb⟩; refine ⟨_, rfl, ?_⟩; have HO336 := Aside0.mk (Kd.R_lower ho0 (below_size bel)); replace HO333 := Aside0.mk (Kd.R_below (rk HO333.out) hb); replace BK328 := Aside0.mk (bb BK328.out hb); replace HB := Aside0.mk (below_step bel hb); (try clear hb); (try clear ho0); obtain ⟨Ao50, co50, eo50⟩ := Kd.R_slice HO333.out; subst eo50; obtain ⟨Ao51, co51, eo51⟩ := Kd.R_slice HO336.out; subst eo51) | ((with_reducible refine gate_callee (f := 26) rfl ?_); refine goesL_ (some 28) rfl rfl Try.func26 (by kernel_rfl) rfl #[.agg #[.int .i64 t330, .slice Ao50 t331.length co50], .int .i64 a1, .int .i64 a2, .slice Ao51 t334.length co51] rfl ga ?_; (with_reducible refine (spec_IsFlow.calls k t330 _ _ t331 a1 a2 _ _ t334 t337 _ ?side1 ?side2 ?side3 ?side4 A14.out).mono ?_); (case side1 => exact ck (Kd.R_reads' HO333.out).2.2); (case side2 => exact (Kd.R_reads' HO333.out).2.1); (case side3 => exact ck (Kd.R_reads' HO336.out).2.2); (case side4 => exact (Kd.R_reads' HO336.out).2.1); rintro e w52 ⟨rfl, hb⟩; refine ⟨_, rfl, ?_⟩; replace HO333 := Aside0.mk (Kd.R_below (rk HO333.out) hb); replace HO336 := Aside0.mk (Kd.R_below (rk HO336.out) hb); replace BK328 := Aside0.mk (bb BK328.out hb); replace HB := Aside0.mk (below_step bel hb); (try clear hb); obtain ⟨hcz53_0, hcz53_1, hfz53_0, hfz53_1⟩ := cf2 BK328.out) | ((with_reducible refine gate_callee (f := 13) rfl ?_); refine goesL_ (some 30) rfl rfl Try.func13 (by kernel_rfl) rfl #[.agg #[.int .i64 a0_0, .slice A0_1 l0_1.length c0_1]] rfl ga ?_; (with_reducible refine (laws_toNet.calls k a0_0 _ _ l0_1 t338 t339 _ ?side1 ?side2 A15.out).mono ?_); (case side1 => exact ck (Kd.C_below HR0_1.out HB.out)); (case side2 => exact HC0_1.out); rintro e w54 ⟨v340, rfl, ho0, hb⟩; refine ⟨_, rfl, ?_⟩; have HO341 := Aside0.mk (Kd.R_lower (Kd.R_new' ho0 (Kd.R_lt (rk HO333.out))) (below_size bel)); replace HO333 := Aside0.mk (Kd.R_elder' (rk HO333.out) (Kd.R_base ho0) hb); replace HO336 := Aside0.mk (Kd.R_below (rk HO336.out) hb); replace BK328 := Aside0.mk (bb BK328.out hb); replace HB := Aside0.mk (below_step bel hb); (try clear hb); (try clear ho0)) | ((with_reducible refine gate_dst (N := 11) rfl ?_); refine box_event ?hg (N := 11) ?hd (cs := #[.int .i64 0, .slice none 0 0]) (t := 29) ?hr ?_; (case hd => rfl); (case hg => rfl); (case hr => first | (go_simp; done) | (go_simp; rfl)); intro gb342 hg w55 hbox hb; have BK342 := Aside0.mk (hbox); have GW342 := Aside0.mk ((bsz hg : w.heap.size ≤ gb342)); have GE342 := Aside0.mk ((bsz hg : w.heap.size ≤ gb342)); have NB328_342 := Aside0.mk ((nlt hg BK328.out : gb328 ≠ gb342)); have NB342_328 := Aside0.mk ((ngt hg BK328.out : gb342 ≠ gb328)); replace HO333 := Aside0.mk (Kd.R_below (rk HO333.out) hb); replace HO336 := Aside0.mk (Kd.R_below (rk HO336.out) hb); replace HO341 := Aside0.mk (Kd.R_below (rk HO341.out) hb); replace BK328 := Aside0.mk (bb BK328.out hb); replace HB := Aside0.mk (below_step bel hb); clear hb hbox hg; have hnb56 := NB342_328.out; have hnc56 := NB328_342.out; obtain ⟨hcz57_0, hcz57_1, hfz57_0, hfz57_1⟩ := cf2 BK342.out; obtain ⟨Ao58, co58, eo58⟩ := Kd.R_slice HO341.out; subst eo58) | ((with_reducible refine gate_callee (f := 17) rfl ?_); refine goesL_ (some 32) rfl rfl Try.func17 (by kernel_rfl) rfl #[.slice A3 l3.length c3] rfl ga ?_; (with_reducible refine (laws_toIntS.calls k _ _ l3 t343 _ ?side1 ?side2 A16.out).mono ?_); (case side1 => exact Kd.C_below HR3.out bel); (case side2 => exact HC3.out); rintro e w59 ⟨v344, rfl, ho0, hb⟩; refine ⟨_, rfl, ?_⟩; have HO345 := Aside0.mk (Kd.R_lower (Kd.R_new' ho0 (Kd.R_lt (by exact rk (Kd.R_mono (Kd.R_far (p := ⟨gb342, 1, none⟩) (Kd.R_far (p := ⟨gb342, 0, none⟩) (Kd.R_types HO336.out BK342.out (by decide)) (fun _ hk => hk.2) (.int .i64 t338)) (fun _ hk => hk.2) (.slice Ao58 t339.length co58)) (fun _ h_ => h_.1))))) (below_size bel)); replace HO333 := Aside0.mk (Kd.R_below (by exact rk (Kd.R_mono (Kd.R_far (p := ⟨gb342, 1, none⟩) (Kd.R_far (p := ⟨gb342, 0, none⟩) (Kd.R_types HO333.out BK342.out (by decide)) (fun _ hk => hk.2) (.int .i64 t338)) (fun _ hk => hk.2) (.slice Ao58 t339.length co58)) (fun _ h_ => h_.1))) hb); replace HO336 := Aside0.mk (Kd.R_elder' (by exact rk (Kd.R_mono (Kd.R_far (p := ⟨gb342, 1, none⟩) (Kd.R_far (p := ⟨gb342, 0, none⟩) (Kd.R_types HO336.out BK342.out (by decide)) (fun _ hk => hk.2) (.int .i64 t338)) (fun _ hk => hk.2) (.slice Ao58 t339.length co58)) (fun _ h_ => h_.1))) (Kd.R_base ho0) hb); replace HO341 := Aside0.mk (Kd.R_below (by exact rk (Kd.R_mono (Kd.R_far (p := ⟨gb342, 1, none⟩) (Kd.R_far (p := ⟨gb342, 0, none⟩) (Kd.R_types HO341.out BK342.out (by decide)) (fun _ hk => hk.2) (.int .i64 t338)) (fun _ hk => hk.2) (.slice Ao58 t339.length co58)) (fun _ h_ => h_.1))) hb); replace BK328 := Aside0.mk (bb BK328.out hb); replace BK342 := Aside0.mk (blk_below (g := gb342) (o := .cells #[.int .i64 t338, .slice Ao58 t339.length co58] 29 (0, 0)) (by (with_reducible repeat (first | refine blk_drewN ?_ _ | refine blk_drew ?_ | refine blk_alloc ?_ _)); refine blk_put (cs := #[.int .i64 t338, .slice none 0 0]) ?_ 1 _ rfl; (with_reducible repeat (first | refine blk_drewN ?_ _ | refine blk_drew ?_ | refine blk_alloc ?_ _)); refine blk_put (cs := #[.int .i64 0, .slice none 0 0]) ?_ 0 _ rfl; (with_reducible repeat (first | refine blk_drewN ?_ _ | refine blk_drew ?_ | refine blk_alloc ?_ _)); exact BK342.out) hb); replace HB := Aside0.mk (below_step bel hb); (try clear hb); (try clear ho0); obtain ⟨hcz60_0, hcz60_1, hfz60_0, hfz60_1⟩ := cf2 BK342.out; obtain ⟨Ao61, co61, eo61⟩ := Kd.R_slice HO345.out; subst eo61) | ((with_reducible refine gate_callee (f := 27) rfl ?_); refine goesL_ (some 37) rfl rfl Try.func27 (by kernel_rfl) rfl #[.agg #[.int .i64 t338, .slice Ao58 t339.length co58], .int .i64 a1, .int .i64 a2, .slice Ao61 t343.length co61] rfl ga ?_; (with_reducible refine (impl_IsFlow.calls k t338 _ _ t339 a1 a2 _ _ t343 t346 _ ?side1 ?side2 ?side3 ?side4 A17.out).mono ?_); (case side1 => exact ck (Kd.R_reads' HO341.out).2.2); (case side2 => exact (Kd.R_reads' HO341.out).2.1); (case side3 => exact ck (Kd.R_reads' HO345.out).2.2); (case side4 => exact (Kd.R_reads' HO345.out).2.1); rintro e w62 ⟨rfl, hb⟩; refine ⟨_, rfl, ?_⟩; replace HO333 := Aside0.mk (Kd.R_below (rk HO333.out) hb); replace HO336 := Aside0.mk (Kd.R_below (rk HO336.out) hb); replace HO341 := Aside0.mk (Kd.R_below (rk HO341.out) hb); replace HO345 := Aside0.mk (Kd.R_below (rk HO345.out) hb); replace BK328 := Aside0.mk (bb BK328.out hb); replace BK342 := Aside0.mk (bb BK342.out hb); replace HB := Aside0.mk (below_step bel hb); (try clear hb)))
            replace HO333 := Aside0.mk (Kd.R_drew HO333.out)
            replace HO336 := Aside0.mk (Kd.R_drew HO336.out)
            replace HO341 := Aside0.mk (Kd.R_drew HO341.out)
            replace HO345 := Aside0.mk (Kd.R_drew HO345.out)
            replace BK328 := Aside0.mk (blk_drew BK328.out)
            replace BK342 := Aside0.mk (blk_drew BK342.out)
            replace HB := Aside0.mk (below_drew1 HB.out)
            refine start_ (n := 5) (S := fun w' => w'.cell? ⟨gb342, 0, none⟩ = some (.int .i64 t338) ∧ w'.cell? ⟨gb342, 1, none⟩ = some (.slice Ao58 t339.length co58) ∧ w'.cell? ⟨gb328, 0, none⟩ = some (.int .i64 a0_0) ∧ w'.cell? ⟨gb328, 1, none⟩ = some (.slice A0_1 l0_1.length c0_1)) (ds := []) #[false, false, false, false, false] (by kernel_rfl) rfl rfl ⟨(blk_cell BK342.out 0).trans rfl, (blk_cell BK342.out 1).trans rfl, (blk_cell BK328.out 0).trans rfl, (blk_cell BK328.out 1).trans rfl⟩ (fun hHeld => ?_)
            generalize w62.drew = w63 at HO333 HO336 HO341 HO345 BK328 BK342 HB hHeld ⊢
            refine take_ (i := 0) (N := some 41) (v := ?_) (a' := ?_) #[true, false, false, false, false] rfl rfl (by kernel_rfl) (fun _ _ _ h => h) (Or.inl ⟨by rfl, ?_⟩) hHeld ?_ ?_
            rotate_left
            · rintro w' ⟨s0, s1, s2, s3⟩
              go_simp
              with_reducible rfl
            rotate_left
            · simp only [Act.put, List.setIfInBounds_toArray, List.set_cons_zero, List.set_cons_succ, i64_w, i32_w]
              rfl
            refine take_ (i := 1) (N := some 42) (v := ?_) (a' := ?_) #[true, true, false, false, false] rfl rfl (by kernel_rfl) (fun _ _ _ h => h) (Or.inl ⟨by rfl, ?_⟩) hHeld ?_ ?_
            rotate_left
            · rintro w' ⟨s0, s1, s2, s3⟩
              go_simp
              with_reducible rfl
            rotate_left
            · simp only [Act.put, List.setIfInBounds_toArray, List.set_cons_zero, List.set_cons_succ, i64_w, i32_w]
              rfl
            refine one_ (i := 2) (N := some 43) #[true, true, true, false, false] rfl rfl (by kernel_rfl) (by decide) (fun K hK => ?_)
            refine goes_ Try.func13 (by kernel_rfl) rfl #[.agg #[.int .i64 a0_0, .slice A0_1 l0_1.length c0_1]] (by rfl) rfl rfl ga ?_
            with_reducible refine (laws_toNet.calls k a0_0 _ _ l0_1 t347 t348 _ ?side1 ?side2 A38.out).mono ?_
            (case side1 => exact ck (Kd.C_below HR0_1.out HB.out))
            (case side2 => exact HC0_1.out)
            rintro e w64 ⟨v349, rfl, ho0, hb⟩
            refine ⟨_, rfl, ?_⟩
            have HO350 := Aside0.mk (Kd.R_lower (Kd.R_new' (Kd.R_new' ho0 (Kd.R_lt (rk HO333.out))) (Kd.R_lt (rk HO341.out))) (below_size bel))
            replace HO333 := Aside0.mk (Kd.R_elder' (rk HO333.out) (Kd.R_base ho0) hb)
            replace HO336 := Aside0.mk (Kd.R_below (rk HO336.out) hb)
            replace HO341 := Aside0.mk (Kd.R_elder' (rk HO341.out) (Kd.R_base ho0) hb)
            replace HO345 := Aside0.mk (Kd.R_below (rk HO345.out) hb)
            replace BK328 := Aside0.mk (bb BK328.out hb)
            replace BK342 := Aside0.mk (bb BK342.out hb)
            replace HB := Aside0.mk (below_step bel hb)
            (try clear hb)
            (try clear hb2)
            (try clear hk)
            (try clear hi)
            (try clear ho0)
            obtain ⟨Ao65, co65, eo65⟩ := Kd.R_slice HO350.out
            (first | subst eo65 | (injection eo65 with f1_ f2_ f3_; have f4_ := f1_.symm; have f5_ := f3_.symm; clear f1_ f2_ f3_; subst f4_; subst f5_))
            refine hK.out _ _ ⟨(blk_cell BK342.out 0).trans rfl, (blk_cell BK342.out 1).trans rfl, (blk_cell BK328.out 0).trans rfl, (blk_cell BK328.out 1).trans rfl⟩ (fun hHeld => ?_)
            clear hK K
            refine norm_ (a' := ?_) ?_ ?_
            rotate_left
            · show Act.put _ (some 43) _ = _
              simp only [Act.put, List.setIfInBounds_toArray, List.set_cons_zero, List.set_cons_succ, i64_w, i32_w]
              rfl
            refine one_ (i := 3) (N := some 44) #[true, true, true, true, false] rfl rfl (by kernel_rfl) (by decide) (fun K hK => ?_)
            refine goes_ Try.func15 (by kernel_rfl) rfl #[.agg #[.int .i64 t338, .slice Ao58 t339.length co58], .agg #[.int .i64 t347, .slice Ao65 t348.length co65]] (by rfl) rfl rfl ga ?_
            with_reducible refine (laws_eqNet.calls k t338 _ _ t339 t347 _ _ t348 true _ ?side1 ?side2 ?side3 ?side4 A39.out).mono ?_
            (case side1 => exact ck (Kd.R_reads' HO341.out).2.2)
            (case side2 => exact (Kd.R_reads' HO341.out).2.1)
            (case side3 => exact ck (Kd.R_reads' HO350.out).2.2)
            (case side4 => exact (Kd.R_reads' HO350.out).2.1)
            rintro e w66 ⟨rfl, hb⟩
            refine ⟨_, rfl, ?_⟩
            replace HO333 := Aside0.mk (Kd.R_below (rk HO333.out) hb)
            replace HO336 := Aside0.mk (Kd.R_below (rk HO336.out) hb)
            replace HO341 := Aside0.mk (Kd.R_below (rk HO341.out) hb)
            replace HO345 := Aside0.mk (Kd.R_below (rk HO345.out) hb)
            replace HO350 := Aside0.mk (Kd.R_below (rk HO350.out) hb)
            replace BK328 := Aside0.mk (bb BK328.out hb)
            replace BK342 := Aside0.mk (bb BK342.out hb)
            replace HB := Aside0.mk (below_step bel hb)
            (try clear hb)
            (try clear hb2)
            (try clear hk)
            (try clear hi)
            refine hK.out _ _ ⟨(blk_cell BK342.out 0).trans rfl, (blk_cell BK342.out 1).trans rfl, (blk_cell BK328.out 0).trans rfl, (blk_cell BK328.out 1).trans rfl⟩ (fun hHeld => ?_)
            clear hK K
            refine norm_ (a' := ?_) ?_ ?_
            rotate_left
            · show Act.put _ (some 44) _ = _
              simp only [Act.put, List.setIfInBounds_toArray, List.set_cons_zero, List.set_cons_succ, i64_w, i32_w]
              rfl
            refine pure_ (i := 4) (N := some 45) (v := ?_) (a' := ?_) #[true, true, true, true, true] rfl rfl (by kernel_rfl) (fun _ _ _ h => h) (Or.inl ⟨by rfl, ?_⟩) ?_ ?_
            rotate_left
            · intro w'
              go_simp
              with_reducible rfl
            rotate_left
            · simp only [Act.put, List.setIfInBounds_toArray, List.set_cons_zero, List.set_cons_succ, i64_w, i32_w]
              rfl
            refine done_ (by kernel_rfl) ?_
            try go_wp2_with (first | ((with_reducible refine gate_callee (f := 17) rfl ?_); refine goesL_ (some 48) rfl rfl Try.func17 (by kernel_rfl) rfl #[.slice A3 l3.length c3] rfl ga ?_; (with_reducible refine (laws_toIntS.calls k _ _ l3 t352 _ ?side1 ?side2 A41.out).mono ?_); (case side1 => exact ck (Kd.C_below HR3.out HB.out)); (case side2 => exact HC3.out); rintro e w67 ⟨v353, rfl, ho0, hb⟩; refine ⟨_, rfl, ?_⟩; have HO354 := Aside0.mk (Kd.R_lower (Kd.R_new' (Kd.R_new' ho0 (Kd.R_lt (rk HO336.out))) (Kd.R_lt (rk HO345.out))) (below_size bel)); replace HO333 := Aside0.mk (Kd.R_below (rk HO333.out) hb); replace HO336 := Aside0.mk (Kd.R_elder' (rk HO336.out) (Kd.R_base ho0) hb); replace HO341 := Aside0.mk (Kd.R_below (rk HO341.out) hb); replace HO345 := Aside0.mk (Kd.R_elder' (rk HO345.out) (Kd.R_base ho0) hb); replace HO350 := Aside0.mk (Kd.R_below (rk HO350.out) hb); replace BK328 := Aside0.mk (bb BK328.out hb); replace BK342 := Aside0.mk (bb BK342.out hb); replace HB := Aside0.mk (below_step bel hb); (try clear hb); (try clear ho0); obtain ⟨Ao68, co68, eo68⟩ := Kd.R_slice HO354.out; subst eo68) | ((with_reducible refine gate_callee (f := 19) rfl ?_); refine goesL_ (some 49) rfl rfl Try.func19 (by kernel_rfl) rfl #[.slice Ao61 t343.length co61, .slice Ao68 t352.length co68] rfl ga ?_; (with_reducible refine (laws_eqIntS.calls k _ _ t343 _ _ t352 true _ ?side1 ?side2 ?side3 ?side4 A42.out).mono ?_); (case side1 => exact ck (Kd.R_reads' HO345.out).2.2); (case side2 => exact (Kd.R_reads' HO345.out).2.1); (case side3 => exact ck (Kd.R_reads' HO354.out).2.2); (case side4 => exact (Kd.R_reads' HO354.out).2.1); rintro e w' ⟨rfl, ⟨nd, rfl⟩⟩; refine ⟨_, rfl, ?_⟩))
            go_ret
            exact ⟨er, bel⟩
          · replace c43 := Bool.eq_false_iff.mpr c43
            subst c43
            have H1 : (some false) = some r := by rw [if_neg (show ¬ (false = true) by decide)] at H; exact H
            clear H
            have H := H1
            clear H1
            obtain rfl := Option.some.inj H
            go_enter Try.func7, Try.ntmps7
            try go_wp2_with (first | ((with_reducible refine gate_dst (N := 4) rfl ?_); refine box_event ?hg (N := 4) ?hd (cs := #[.int .i64 a0_0, .slice A0_1 l0_1.length c0_1]) (t := 24) ?hr ?_; (case hd => rfl); (case hg => rfl); (case hr => first | (go_simp; done) | (go_simp; rfl)); intro gb328 hg w69 hbox hb; have BK328 := Aside0.mk (hbox); have GW328 := Aside0.mk ((bsz hg : w.heap.size ≤ gb328)); have GE328 := Aside0.mk ((bsz hg : w.heap.size ≤ gb328)); replace HB := Aside0.mk (below_step bel hb); clear hb hbox hg; obtain ⟨hcz70_0, hcz70_1, hfz70_0, hfz70_1⟩ := cf2 BK328.out) | ((with_reducible refine gate_callee (f := 11) rfl ?_); refine goesL_ (some 19) rfl rfl Try.func11 (by kernel_rfl) rfl #[.agg #[.int .i64 a0_0, .slice A0_1 l0_1.length c0_1], .int .i64 1048576] rfl ga ?_; (with_reducible refine (laws_szNet.calls a0_0 _ _ l0_1 1048576 t329 _ ?side1 ?side2 A7.out).mono ?_); (case side1 => exact ck (Kd.C_below HR0_1.out HB.out)); (case side2 => exact HC0_1.out); rintro e w71 ⟨rfl, hb⟩; refine ⟨_, rfl, ?_⟩; replace BK328 := Aside0.mk (bb BK328.out hb); replace HB := Aside0.mk (below_step bel hb); (try clear hb); obtain ⟨hcz72_0, hcz72_1, hfz72_0, hfz72_1⟩ := cf2 BK328.out) | ((with_reducible refine gate_callee (f := 13) rfl ?_); refine goesL_ (some 23) rfl rfl Try.func13 (by kernel_rfl) rfl #[.agg #[.int .i64 a0_0, .slice A0_1 l0_1.length c0_1]] rfl ga ?_; (with_reducible refine (laws_toNet.calls k a0_0 _ _ l0_1 t330 t331 _ ?side1 ?side2 A12.out).mono ?_); (case side1 => exact ck (Kd.C_below HR0_1.out HB.out)); (case side2 => exact HC0_1.out); rintro e w73 ⟨v332, rfl, ho0, hb⟩; refine ⟨_, rfl, ?_⟩; have HO333 := Aside0.mk (Kd.R_lower ho0 (below_size bel)); replace BK328 := Aside0.mk (bb BK328.out hb); replace HB := Aside0.mk (below_step bel hb); (try clear hb); (try clear ho0)) | ((with_reducible refine gate_callee (f := 17) rfl ?_); refine goesL_ (some 27) rfl rfl Try.func17 (by kernel_rfl) rfl #[.slice A3 l3.length c3] rfl ga ?_; (with_reducible refine (laws_toIntS.calls k _ _ l3 t334 _ ?side1 ?side2 A13.out).mono ?_); (case side1 => exact ck (Kd.C_below HR3.out HB.out)); (case side2 => exact HC3.out); rintro e w74 ⟨v335, rfl, ho0, hb⟩; refine ⟨_, rfl, ?_⟩; have HO336 := Aside0.mk (Kd.R_lower ho0 (below_size bel)); replace HO333 := Aside0.mk (Kd.R_below (rk HO333.out) hb); replace BK328 := Aside0.mk (bb BK328.out hb); replace HB := Aside0.mk (below_step bel hb); (try clear hb); (try clear ho0); obtain ⟨Ao75, co75, eo75⟩ := Kd.R_slice HO333.out; subst eo75; obtain ⟨Ao76, co76, eo76⟩ := Kd.R_slice HO336.out; subst eo76) | ((with_reducible refine gate_callee (f := 26) rfl ?_); refine goesL_ (some 28) rfl rfl Try.func26 (by kernel_rfl) rfl #[.agg #[.int .i64 t330, .slice Ao75 t331.length co75], .int .i64 a1, .int .i64 a2, .slice Ao76 t334.length co76] rfl ga ?_; (with_reducible refine (spec_IsFlow.calls k t330 _ _ t331 a1 a2 _ _ t334 t337 _ ?side1 ?side2 ?side3 ?side4 A14.out).mono ?_); (case side1 => exact ck (Kd.R_reads' HO333.out).2.2); (case side2 => exact (Kd.R_reads' HO333.out).2.1); (case side3 => exact ck (Kd.R_reads' HO336.out).2.2); (case side4 => exact (Kd.R_reads' HO336.out).2.1); rintro e w77 ⟨rfl, hb⟩; refine ⟨_, rfl, ?_⟩; replace HO333 := Aside0.mk (Kd.R_below (rk HO333.out) hb); replace HO336 := Aside0.mk (Kd.R_below (rk HO336.out) hb); replace BK328 := Aside0.mk (bb BK328.out hb); replace HB := Aside0.mk (below_step bel hb); (try clear hb); obtain ⟨hcz78_0, hcz78_1, hfz78_0, hfz78_1⟩ := cf2 BK328.out) | ((with_reducible refine gate_callee (f := 13) rfl ?_); refine goesL_ (some 30) rfl rfl Try.func13 (by kernel_rfl) rfl #[.agg #[.int .i64 a0_0, .slice A0_1 l0_1.length c0_1]] rfl ga ?_; (with_reducible refine (laws_toNet.calls k a0_0 _ _ l0_1 t338 t339 _ ?side1 ?side2 A15.out).mono ?_); (case side1 => exact ck (Kd.C_below HR0_1.out HB.out)); (case side2 => exact HC0_1.out); rintro e w79 ⟨v340, rfl, ho0, hb⟩; refine ⟨_, rfl, ?_⟩; have HO341 := Aside0.mk (Kd.R_lower (Kd.R_new' ho0 (Kd.R_lt (rk HO333.out))) (below_size bel)); replace HO333 := Aside0.mk (Kd.R_elder' (rk HO333.out) (Kd.R_base ho0) hb); replace HO336 := Aside0.mk (Kd.R_below (rk HO336.out) hb); replace BK328 := Aside0.mk (bb BK328.out hb); replace HB := Aside0.mk (below_step bel hb); (try clear hb); (try clear ho0)) | ((with_reducible refine gate_dst (N := 11) rfl ?_); refine box_event ?hg (N := 11) ?hd (cs := #[.int .i64 0, .slice none 0 0]) (t := 29) ?hr ?_; (case hd => rfl); (case hg => rfl); (case hr => first | (go_simp; done) | (go_simp; rfl)); intro gb342 hg w80 hbox hb; have BK342 := Aside0.mk (hbox); have GW342 := Aside0.mk ((bsz hg : w.heap.size ≤ gb342)); have GE342 := Aside0.mk ((bsz hg : w.heap.size ≤ gb342)); have NB328_342 := Aside0.mk ((nlt hg BK328.out : gb328 ≠ gb342)); have NB342_328 := Aside0.mk ((ngt hg BK328.out : gb342 ≠ gb328)); replace HO333 := Aside0.mk (Kd.R_below (rk HO333.out) hb); replace HO336 := Aside0.mk (Kd.R_below (rk HO336.out) hb); replace HO341 := Aside0.mk (Kd.R_below (rk HO341.out) hb); replace BK328 := Aside0.mk (bb BK328.out hb); replace HB := Aside0.mk (below_step bel hb); clear hb hbox hg; have hnb81 := NB342_328.out; have hnc81 := NB328_342.out; obtain ⟨hcz82_0, hcz82_1, hfz82_0, hfz82_1⟩ := cf2 BK342.out; obtain ⟨Ao83, co83, eo83⟩ := Kd.R_slice HO341.out; subst eo83) | ((with_reducible refine gate_callee (f := 17) rfl ?_); refine goesL_ (some 32) rfl rfl Try.func17 (by kernel_rfl) rfl #[.slice A3 l3.length c3] rfl ga ?_; (with_reducible refine (laws_toIntS.calls k _ _ l3 t343 _ ?side1 ?side2 A16.out).mono ?_); (case side1 => exact Kd.C_below HR3.out bel); (case side2 => exact HC3.out); rintro e w84 ⟨v344, rfl, ho0, hb⟩; refine ⟨_, rfl, ?_⟩; have HO345 := Aside0.mk (Kd.R_lower (Kd.R_new' ho0 (Kd.R_lt (by exact rk (Kd.R_mono (Kd.R_far (p := ⟨gb342, 1, none⟩) (Kd.R_far (p := ⟨gb342, 0, none⟩) (Kd.R_types HO336.out BK342.out (by decide)) (fun _ hk => hk.2) (.int .i64 t338)) (fun _ hk => hk.2) (.slice Ao83 t339.length co83)) (fun _ h_ => h_.1))))) (below_size bel)); replace HO333 := Aside0.mk (Kd.R_below (by exact rk (Kd.R_mono (Kd.R_far (p := ⟨gb342, 1, none⟩) (Kd.R_far (p := ⟨gb342, 0, none⟩) (Kd.R_types HO333.out BK342.out (by decide)) (fun _ hk => hk.2) (.int .i64 t338)) (fun _ hk => hk.2) (.slice Ao83 t339.length co83)) (fun _ h_ => h_.1))) hb); replace HO336 := Aside0.mk (Kd.R_elder' (by exact rk (Kd.R_mono (Kd.R_far (p := ⟨gb342, 1, none⟩) (Kd.R_far (p := ⟨gb342, 0, none⟩) (Kd.R_types HO336.out BK342.out (by decide)) (fun _ hk => hk.2) (.int .i64 t338)) (fun _ hk => hk.2) (.slice Ao83 t339.length co83)) (fun _ h_ => h_.1))) (Kd.R_base ho0) hb); replace HO341 := Aside0.mk (Kd.R_below (by exact rk (Kd.R_mono (Kd.R_far (p := ⟨gb342, 1, none⟩) (Kd.R_far (p := ⟨gb342, 0, none⟩) (Kd.R_types HO341.out BK342.out (by decide)) (fun _ hk => hk.2) (.int .i64 t338)) (fun _ hk => hk.2) (.slice Ao83 t339.length co83)) (fun _ h_ => h_.1))) hb); replace BK328 := Aside0.mk (bb BK328.out hb); replace BK342 := Aside0.mk (blk_below (g := gb342) (o := .cells #[.int .i64 t338, .slice Ao83 t339.length co83] 29 (0, 0)) (by (with_reducible repeat (first | refine blk_drewN ?_ _ | refine blk_drew ?_ | refine blk_alloc ?_ _)); refine blk_put (cs := #[.int .i64 t338, .slice none 0 0]) ?_ 1 _ rfl; (with_reducible repeat (first | refine blk_drewN ?_ _ | refine blk_drew ?_ | refine blk_alloc ?_ _)); refine blk_put (cs := #[.int .i64 0, .slice none 0 0]) ?_ 0 _ rfl; (with_reducible repeat (first | refine blk_drewN ?_ _ | refine blk_drew ?_ | refine blk_alloc ?_ _)); exact BK342.out) hb); replace HB := Aside0.mk (below_step bel hb); (try clear hb); (try clear ho0); obtain ⟨hcz85_0, hcz85_1, hfz85_0, hfz85_1⟩ := cf2 BK342.out; obtain ⟨Ao86, co86, eo86⟩ := Kd.R_slice HO345.out; subst eo86) | ((with_reducible refine gate_callee (f := 27) rfl ?_); refine goesL_ (some 37) rfl rfl Try.func27 (by kernel_rfl) rfl #[.agg #[.int .i64 t338, .slice Ao83 t339.length co83], .int .i64 a1, .int .i64 a2, .slice Ao86 t343.length co86] rfl ga ?_; (with_reducible refine (impl_IsFlow.calls k t338 _ _ t339 a1 a2 _ _ t343 t346 _ ?side1 ?side2 ?side3 ?side4 A17.out).mono ?_); (case side1 => exact ck (Kd.R_reads' HO341.out).2.2); (case side2 => exact (Kd.R_reads' HO341.out).2.1); (case side3 => exact ck (Kd.R_reads' HO345.out).2.2); (case side4 => exact (Kd.R_reads' HO345.out).2.1); rintro e w87 ⟨rfl, hb⟩; refine ⟨_, rfl, ?_⟩; replace HO333 := Aside0.mk (Kd.R_below (rk HO333.out) hb); replace HO336 := Aside0.mk (Kd.R_below (rk HO336.out) hb); replace HO341 := Aside0.mk (Kd.R_below (rk HO341.out) hb); replace HO345 := Aside0.mk (Kd.R_below (rk HO345.out) hb); replace BK328 := Aside0.mk (bb BK328.out hb); replace BK342 := Aside0.mk (bb BK342.out hb); replace HB := Aside0.mk (below_step bel hb); (try clear hb)))
            replace HO333 := Aside0.mk (Kd.R_drew HO333.out)
            replace HO336 := Aside0.mk (Kd.R_drew HO336.out)
            replace HO341 := Aside0.mk (Kd.R_drew HO341.out)
            replace HO345 := Aside0.mk (Kd.R_drew HO345.out)
            replace BK328 := Aside0.mk (blk_drew BK328.out)
            replace BK342 := Aside0.mk (blk_drew BK342.out)
            replace HB := Aside0.mk (below_drew1 HB.out)
            refine start_ (n := 5) (S := fun w' => w'.cell? ⟨gb342, 0, none⟩ = some (.int .i64 t338) ∧ w'.cell? ⟨gb342, 1, none⟩ = some (.slice Ao83 t339.length co83) ∧ w'.cell? ⟨gb328, 0, none⟩ = some (.int .i64 a0_0) ∧ w'.cell? ⟨gb328, 1, none⟩ = some (.slice A0_1 l0_1.length c0_1)) (ds := []) #[false, false, false, false, false] (by kernel_rfl) rfl rfl ⟨(blk_cell BK342.out 0).trans rfl, (blk_cell BK342.out 1).trans rfl, (blk_cell BK328.out 0).trans rfl, (blk_cell BK328.out 1).trans rfl⟩ (fun hHeld => ?_)
            generalize w87.drew = w88 at HO333 HO336 HO341 HO345 BK328 BK342 HB hHeld ⊢
            refine take_ (i := 0) (N := some 41) (v := ?_) (a' := ?_) #[true, false, false, false, false] rfl rfl (by kernel_rfl) (fun _ _ _ h => h) (Or.inl ⟨by rfl, ?_⟩) hHeld ?_ ?_
            rotate_left
            · rintro w' ⟨s0, s1, s2, s3⟩
              go_simp
              with_reducible rfl
            rotate_left
            · simp only [Act.put, List.setIfInBounds_toArray, List.set_cons_zero, List.set_cons_succ, i64_w, i32_w]
              rfl
            refine take_ (i := 1) (N := some 42) (v := ?_) (a' := ?_) #[true, true, false, false, false] rfl rfl (by kernel_rfl) (fun _ _ _ h => h) (Or.inl ⟨by rfl, ?_⟩) hHeld ?_ ?_
            rotate_left
            · rintro w' ⟨s0, s1, s2, s3⟩
              go_simp
              with_reducible rfl
            rotate_left
            · simp only [Act.put, List.setIfInBounds_toArray, List.set_cons_zero, List.set_cons_succ, i64_w, i32_w]
              rfl
            refine one_ (i := 2) (N := some 43) #[true, true, true, false, false] rfl rfl (by kernel_rfl) (by decide) (fun K hK => ?_)
            refine goes_ Try.func13 (by kernel_rfl) rfl #[.agg #[.int .i64 a0_0, .slice A0_1 l0_1.length c0_1]] (by rfl) rfl rfl ga ?_
            with_reducible refine (laws_toNet.calls k a0_0 _ _ l0_1 t347 t348 _ ?side1 ?side2 A38.out).mono ?_
            (case side1 => exact ck (Kd.C_below HR0_1.out HB.out))
            (case side2 => exact HC0_1.out)
            rintro e w89 ⟨v349, rfl, ho0, hb⟩
            refine ⟨_, rfl, ?_⟩
            have HO350 := Aside0.mk (Kd.R_lower (Kd.R_new' (Kd.R_new' ho0 (Kd.R_lt (rk HO333.out))) (Kd.R_lt (rk HO341.out))) (below_size bel))
            replace HO333 := Aside0.mk (Kd.R_elder' (rk HO333.out) (Kd.R_base ho0) hb)
            replace HO336 := Aside0.mk (Kd.R_below (rk HO336.out) hb)
            replace HO341 := Aside0.mk (Kd.R_elder' (rk HO341.out) (Kd.R_base ho0) hb)
            replace HO345 := Aside0.mk (Kd.R_below (rk HO345.out) hb)
            replace BK328 := Aside0.mk (bb BK328.out hb)
            replace BK342 := Aside0.mk (bb BK342.out hb)
            replace HB := Aside0.mk (below_step bel hb)
            (try clear hb)
            (try clear hb2)
            (try clear hk)
            (try clear hi)
            (try clear ho0)
            obtain ⟨Ao90, co90, eo90⟩ := Kd.R_slice HO350.out
            (first | subst eo90 | (injection eo90 with f1_ f2_ f3_; have f4_ := f1_.symm; have f5_ := f3_.symm; clear f1_ f2_ f3_; subst f4_; subst f5_))
            refine hK.out _ _ ⟨(blk_cell BK342.out 0).trans rfl, (blk_cell BK342.out 1).trans rfl, (blk_cell BK328.out 0).trans rfl, (blk_cell BK328.out 1).trans rfl⟩ (fun hHeld => ?_)
            clear hK K
            refine norm_ (a' := ?_) ?_ ?_
            rotate_left
            · show Act.put _ (some 43) _ = _
              simp only [Act.put, List.setIfInBounds_toArray, List.set_cons_zero, List.set_cons_succ, i64_w, i32_w]
              rfl
            refine one_ (i := 3) (N := some 44) #[true, true, true, true, false] rfl rfl (by kernel_rfl) (by decide) (fun K hK => ?_)
            refine goes_ Try.func15 (by kernel_rfl) rfl #[.agg #[.int .i64 t338, .slice Ao83 t339.length co83], .agg #[.int .i64 t347, .slice Ao90 t348.length co90]] (by rfl) rfl rfl ga ?_
            with_reducible refine (laws_eqNet.calls k t338 _ _ t339 t347 _ _ t348 true _ ?side1 ?side2 ?side3 ?side4 A39.out).mono ?_
            (case side1 => exact ck (Kd.R_reads' HO341.out).2.2)
            (case side2 => exact (Kd.R_reads' HO341.out).2.1)
            (case side3 => exact ck (Kd.R_reads' HO350.out).2.2)
            (case side4 => exact (Kd.R_reads' HO350.out).2.1)
            rintro e w91 ⟨rfl, hb⟩
            refine ⟨_, rfl, ?_⟩
            replace HO333 := Aside0.mk (Kd.R_below (rk HO333.out) hb)
            replace HO336 := Aside0.mk (Kd.R_below (rk HO336.out) hb)
            replace HO341 := Aside0.mk (Kd.R_below (rk HO341.out) hb)
            replace HO345 := Aside0.mk (Kd.R_below (rk HO345.out) hb)
            replace HO350 := Aside0.mk (Kd.R_below (rk HO350.out) hb)
            replace BK328 := Aside0.mk (bb BK328.out hb)
            replace BK342 := Aside0.mk (bb BK342.out hb)
            replace HB := Aside0.mk (below_step bel hb)
            (try clear hb)
            (try clear hb2)
            (try clear hk)
            (try clear hi)
            refine hK.out _ _ ⟨(blk_cell BK342.out 0).trans rfl, (blk_cell BK342.out 1).trans rfl, (blk_cell BK328.out 0).trans rfl, (blk_cell BK328.out 1).trans rfl⟩ (fun hHeld => ?_)
            clear hK K
            refine norm_ (a' := ?_) ?_ ?_
            rotate_left
            · show Act.put _ (some 44) _ = _
              simp only [Act.put, List.setIfInBounds_toArray, List.set_cons_zero, List.set_cons_succ, i64_w, i32_w]
              rfl
            refine pure_ (i := 4) (N := some 45) (v := ?_) (a' := ?_) #[true, true, true, true, true] rfl rfl (by kernel_rfl) (fun _ _ _ h => h) (Or.inl ⟨by rfl, ?_⟩) ?_ ?_
            rotate_left
            · intro w'
              go_simp
              with_reducible rfl
            rotate_left
            · simp only [Act.put, List.setIfInBounds_toArray, List.set_cons_zero, List.set_cons_succ, i64_w, i32_w]
              rfl
            refine done_ (by kernel_rfl) ?_
            try go_wp2_with (first | ((with_reducible refine gate_callee (f := 17) rfl ?_); refine goesL_ (some 48) rfl rfl Try.func17 (by kernel_rfl) rfl #[.slice A3 l3.length c3] rfl ga ?_; (with_reducible refine (laws_toIntS.calls k _ _ l3 t352 _ ?side1 ?side2 A41.out).mono ?_); (case side1 => exact ck (Kd.C_below HR3.out HB.out)); (case side2 => exact HC3.out); rintro e w92 ⟨v353, rfl, ho0, hb⟩; refine ⟨_, rfl, ?_⟩; have HO354 := Aside0.mk (Kd.R_lower (Kd.R_new' (Kd.R_new' ho0 (Kd.R_lt (rk HO336.out))) (Kd.R_lt (rk HO345.out))) (below_size bel)); replace HO333 := Aside0.mk (Kd.R_below (rk HO333.out) hb); replace HO336 := Aside0.mk (Kd.R_elder' (rk HO336.out) (Kd.R_base ho0) hb); replace HO341 := Aside0.mk (Kd.R_below (rk HO341.out) hb); replace HO345 := Aside0.mk (Kd.R_elder' (rk HO345.out) (Kd.R_base ho0) hb); replace HO350 := Aside0.mk (Kd.R_below (rk HO350.out) hb); replace BK328 := Aside0.mk (bb BK328.out hb); replace BK342 := Aside0.mk (bb BK342.out hb); replace HB := Aside0.mk (below_step bel hb); (try clear hb); (try clear ho0); obtain ⟨Ao93, co93, eo93⟩ := Kd.R_slice HO354.out; subst eo93) | ((with_reducible refine gate_callee (f := 19) rfl ?_); refine goesL_ (some 49) rfl rfl Try.func19 (by kernel_rfl) rfl #[.slice Ao86 t343.length co86, .slice Ao93 t352.length co93] rfl ga ?_; (with_reducible refine (laws_eqIntS.calls k _ _ t343 _ _ t352 false _ ?side1 ?side2 ?side3 ?side4 A42.out).mono ?_); (case side1 => exact ck (Kd.R_reads' HO345.out).2.2); (case side2 => exact (Kd.R_reads' HO345.out).2.1); (case side3 => exact ck (Kd.R_reads' HO354.out).2.2); (case side4 => exact (Kd.R_reads' HO354.out).2.1); rintro e w' ⟨rfl, ⟨nd, rfl⟩⟩; refine ⟨_, rfl, ?_⟩))
            go_ret
            exact ⟨er, bel⟩
        · replace c40 := Bool.eq_false_iff.mpr c40
          subst c40
          have H1 : (some false) = some r := by rw [if_neg (show ¬ (false = true) by decide)] at H; exact H
          clear H
          have H := H1
          clear H1
          obtain rfl := Option.some.inj H
          go_enter Try.func7, Try.ntmps7
          try go_wp2_with (first | ((with_reducible refine gate_dst (N := 4) rfl ?_); refine box_event ?hg (N := 4) ?hd (cs := #[.int .i64 a0_0, .slice A0_1 l0_1.length c0_1]) (t := 24) ?hr ?_; (case hd => rfl); (case hg => rfl); (case hr => first | (go_simp; done) | (go_simp; rfl)); intro gb328 hg w94 hbox hb; have BK328 := Aside0.mk (hbox); have GW328 := Aside0.mk ((bsz hg : w.heap.size ≤ gb328)); have GE328 := Aside0.mk ((bsz hg : w.heap.size ≤ gb328)); replace HB := Aside0.mk (below_step bel hb); clear hb hbox hg; obtain ⟨hcz95_0, hcz95_1, hfz95_0, hfz95_1⟩ := cf2 BK328.out) | ((with_reducible refine gate_callee (f := 11) rfl ?_); refine goesL_ (some 19) rfl rfl Try.func11 (by kernel_rfl) rfl #[.agg #[.int .i64 a0_0, .slice A0_1 l0_1.length c0_1], .int .i64 1048576] rfl ga ?_; (with_reducible refine (laws_szNet.calls a0_0 _ _ l0_1 1048576 t329 _ ?side1 ?side2 A7.out).mono ?_); (case side1 => exact ck (Kd.C_below HR0_1.out HB.out)); (case side2 => exact HC0_1.out); rintro e w96 ⟨rfl, hb⟩; refine ⟨_, rfl, ?_⟩; replace BK328 := Aside0.mk (bb BK328.out hb); replace HB := Aside0.mk (below_step bel hb); (try clear hb); obtain ⟨hcz97_0, hcz97_1, hfz97_0, hfz97_1⟩ := cf2 BK328.out) | ((with_reducible refine gate_callee (f := 13) rfl ?_); refine goesL_ (some 23) rfl rfl Try.func13 (by kernel_rfl) rfl #[.agg #[.int .i64 a0_0, .slice A0_1 l0_1.length c0_1]] rfl ga ?_; (with_reducible refine (laws_toNet.calls k a0_0 _ _ l0_1 t330 t331 _ ?side1 ?side2 A12.out).mono ?_); (case side1 => exact ck (Kd.C_below HR0_1.out HB.out)); (case side2 => exact HC0_1.out); rintro e w98 ⟨v332, rfl, ho0, hb⟩; refine ⟨_, rfl, ?_⟩; have HO333 := Aside0.mk (Kd.R_lower ho0 (below_size bel)); replace BK328 := Aside0.mk (bb BK328.out hb); replace HB := Aside0.mk (below_step bel hb); (try clear hb); (try clear ho0)) | ((with_reducible refine gate_callee (f := 17) rfl ?_); refine goesL_ (some 27) rfl rfl Try.func17 (by kernel_rfl) rfl #[.slice A3 l3.length c3] rfl ga ?_; (with_reducible refine (laws_toIntS.calls k _ _ l3 t334 _ ?side1 ?side2 A13.out).mono ?_); (case side1 => exact ck (Kd.C_below HR3.out HB.out)); (case side2 => exact HC3.out); rintro e w99 ⟨v335, rfl, ho0, hb⟩; refine ⟨_, rfl, ?_⟩; have HO336 := Aside0.mk (Kd.R_lower ho0 (below_size bel)); replace HO333 := Aside0.mk (Kd.R_below (rk HO333.out) hb); replace BK328 := Aside0.mk (bb BK328.out hb); replace HB := Aside0.mk (below_step bel hb); (try clear hb); (try clear ho0); obtain ⟨Ao100, co100, eo100⟩ := Kd.R_slice HO333.out; subst eo100; obtain ⟨Ao101, co101, eo101⟩ := Kd.R_slice HO336.out; subst eo101) | ((with_reducible refine gate_callee (f := 26) rfl ?_); refine goesL_ (some 28) rfl rfl Try.func26 (by kernel_rfl) rfl #[.agg #[.int .i64 t330, .slice Ao100 t331.length co100], .int .i64 a1, .int .i64 a2, .slice Ao101 t334.length co101] rfl ga ?_; (with_reducible refine (spec_IsFlow.calls k t330 _ _ t331 a1 a2 _ _ t334 t337 _ ?side1 ?side2 ?side3 ?side4 A14.out).mono ?_); (case side1 => exact ck (Kd.R_reads' HO333.out).2.2); (case side2 => exact (Kd.R_reads' HO333.out).2.1); (case side3 => exact ck (Kd.R_reads' HO336.out).2.2); (case side4 => exact (Kd.R_reads' HO336.out).2.1); rintro e w102 ⟨rfl, hb⟩; refine ⟨_, rfl, ?_⟩; replace HO333 := Aside0.mk (Kd.R_below (rk HO333.out) hb); replace HO336 := Aside0.mk (Kd.R_below (rk HO336.out) hb); replace BK328 := Aside0.mk (bb BK328.out hb); replace HB := Aside0.mk (below_step bel hb); (try clear hb); obtain ⟨hcz103_0, hcz103_1, hfz103_0, hfz103_1⟩ := cf2 BK328.out) | ((with_reducible refine gate_callee (f := 13) rfl ?_); refine goesL_ (some 30) rfl rfl Try.func13 (by kernel_rfl) rfl #[.agg #[.int .i64 a0_0, .slice A0_1 l0_1.length c0_1]] rfl ga ?_; (with_reducible refine (laws_toNet.calls k a0_0 _ _ l0_1 t338 t339 _ ?side1 ?side2 A15.out).mono ?_); (case side1 => exact ck (Kd.C_below HR0_1.out HB.out)); (case side2 => exact HC0_1.out); rintro e w104 ⟨v340, rfl, ho0, hb⟩; refine ⟨_, rfl, ?_⟩; have HO341 := Aside0.mk (Kd.R_lower (Kd.R_new' ho0 (Kd.R_lt (rk HO333.out))) (below_size bel)); replace HO333 := Aside0.mk (Kd.R_elder' (rk HO333.out) (Kd.R_base ho0) hb); replace HO336 := Aside0.mk (Kd.R_below (rk HO336.out) hb); replace BK328 := Aside0.mk (bb BK328.out hb); replace HB := Aside0.mk (below_step bel hb); (try clear hb); (try clear ho0)) | ((with_reducible refine gate_dst (N := 11) rfl ?_); refine box_event ?hg (N := 11) ?hd (cs := #[.int .i64 0, .slice none 0 0]) (t := 29) ?hr ?_; (case hd => rfl); (case hg => rfl); (case hr => first | (go_simp; done) | (go_simp; rfl)); intro gb342 hg w105 hbox hb; have BK342 := Aside0.mk (hbox); have GW342 := Aside0.mk ((bsz hg : w.heap.size ≤ gb342)); have GE342 := Aside0.mk ((bsz hg : w.heap.size ≤ gb342)); have NB328_342 := Aside0.mk ((nlt hg BK328.out : gb328 ≠ gb342)); have NB342_328 := Aside0.mk ((ngt hg BK328.out : gb342 ≠ gb328)); replace HO333 := Aside0.mk (Kd.R_below (rk HO333.out) hb); replace HO336 := Aside0.mk (Kd.R_below (rk HO336.out) hb); replace HO341 := Aside0.mk (Kd.R_below (rk HO341.out) hb); replace BK328 := Aside0.mk (bb BK328.out hb); replace HB := Aside0.mk (below_step bel hb); clear hb hbox hg; have hnb106 := NB342_328.out; have hnc106 := NB328_342.out; obtain ⟨hcz107_0, hcz107_1, hfz107_0, hfz107_1⟩ := cf2 BK342.out; obtain ⟨Ao108, co108, eo108⟩ := Kd.R_slice HO341.out; subst eo108) | ((with_reducible refine gate_callee (f := 17) rfl ?_); refine goesL_ (some 32) rfl rfl Try.func17 (by kernel_rfl) rfl #[.slice A3 l3.length c3] rfl ga ?_; (with_reducible refine (laws_toIntS.calls k _ _ l3 t343 _ ?side1 ?side2 A16.out).mono ?_); (case side1 => exact Kd.C_below HR3.out bel); (case side2 => exact HC3.out); rintro e w109 ⟨v344, rfl, ho0, hb⟩; refine ⟨_, rfl, ?_⟩; have HO345 := Aside0.mk (Kd.R_lower (Kd.R_new' ho0 (Kd.R_lt (by exact rk (Kd.R_mono (Kd.R_far (p := ⟨gb342, 1, none⟩) (Kd.R_far (p := ⟨gb342, 0, none⟩) (Kd.R_types HO336.out BK342.out (by decide)) (fun _ hk => hk.2) (.int .i64 t338)) (fun _ hk => hk.2) (.slice Ao108 t339.length co108)) (fun _ h_ => h_.1))))) (below_size bel)); replace HO333 := Aside0.mk (Kd.R_below (by exact rk (Kd.R_mono (Kd.R_far (p := ⟨gb342, 1, none⟩) (Kd.R_far (p := ⟨gb342, 0, none⟩) (Kd.R_types HO333.out BK342.out (by decide)) (fun _ hk => hk.2) (.int .i64 t338)) (fun _ hk => hk.2) (.slice Ao108 t339.length co108)) (fun _ h_ => h_.1))) hb); replace HO336 := Aside0.mk (Kd.R_elder' (by exact rk (Kd.R_mono (Kd.R_far (p := ⟨gb342, 1, none⟩) (Kd.R_far (p := ⟨gb342, 0, none⟩) (Kd.R_types HO336.out BK342.out (by decide)) (fun _ hk => hk.2) (.int .i64 t338)) (fun _ hk => hk.2) (.slice Ao108 t339.length co108)) (fun _ h_ => h_.1))) (Kd.R_base ho0) hb); replace HO341 := Aside0.mk (Kd.R_below (by exact rk (Kd.R_mono (Kd.R_far (p := ⟨gb342, 1, none⟩) (Kd.R_far (p := ⟨gb342, 0, none⟩) (Kd.R_types HO341.out BK342.out (by decide)) (fun _ hk => hk.2) (.int .i64 t338)) (fun _ hk => hk.2) (.slice Ao108 t339.length co108)) (fun _ h_ => h_.1))) hb); replace BK328 := Aside0.mk (bb BK328.out hb); replace BK342 := Aside0.mk (blk_below (g := gb342) (o := .cells #[.int .i64 t338, .slice Ao108 t339.length co108] 29 (0, 0)) (by (with_reducible repeat (first | refine blk_drewN ?_ _ | refine blk_drew ?_ | refine blk_alloc ?_ _)); refine blk_put (cs := #[.int .i64 t338, .slice none 0 0]) ?_ 1 _ rfl; (with_reducible repeat (first | refine blk_drewN ?_ _ | refine blk_drew ?_ | refine blk_alloc ?_ _)); refine blk_put (cs := #[.int .i64 0, .slice none 0 0]) ?_ 0 _ rfl; (with_reducible repeat (first | refine blk_drewN ?_ _ | refine blk_drew ?_ | refine blk_alloc ?_ _)); exact BK342.out) hb); replace HB := Aside0.mk (below_step bel hb); (try clear hb); (try clear ho0); obtain ⟨hcz110_0, hcz110_1, hfz110_0, hfz110_1⟩ := cf2 BK342.out; obtain ⟨Ao111, co111, eo111⟩ := Kd.R_slice HO345.out; subst eo111) | ((with_reducible refine gate_callee (f := 27) rfl ?_); refine goesL_ (some 37) rfl rfl Try.func27 (by kernel_rfl) rfl #[.agg #[.int .i64 t338, .slice Ao108 t339.length co108], .int .i64 a1, .int .i64 a2, .slice Ao111 t343.length co111] rfl ga ?_; (with_reducible refine (impl_IsFlow.calls k t338 _ _ t339 a1 a2 _ _ t343 t346 _ ?side1 ?side2 ?side3 ?side4 A17.out).mono ?_); (case side1 => exact ck (Kd.R_reads' HO341.out).2.2); (case side2 => exact (Kd.R_reads' HO341.out).2.1); (case side3 => exact ck (Kd.R_reads' HO345.out).2.2); (case side4 => exact (Kd.R_reads' HO345.out).2.1); rintro e w112 ⟨rfl, hb⟩; refine ⟨_, rfl, ?_⟩; replace HO333 := Aside0.mk (Kd.R_below (rk HO333.out) hb); replace HO336 := Aside0.mk (Kd.R_below (rk HO336.out) hb); replace HO341 := Aside0.mk (Kd.R_below (rk HO341.out) hb); replace HO345 := Aside0.mk (Kd.R_below (rk HO345.out) hb); replace BK328 := Aside0.mk (bb BK328.out hb); replace BK342 := Aside0.mk (bb BK342.out hb); replace HB := Aside0.mk (below_step bel hb); (try clear hb)))
          replace HO333 := Aside0.mk (Kd.R_drew HO333.out)
          replace HO336 := Aside0.mk (Kd.R_drew HO336.out)
          replace HO341 := Aside0.mk (Kd.R_drew HO341.out)
          replace HO345 := Aside0.mk (Kd.R_drew HO345.out)
          replace BK328 := Aside0.mk (blk_drew BK328.out)
          replace BK342 := Aside0.mk (blk_drew BK342.out)
          replace HB := Aside0.mk (below_drew1 HB.out)
          refine start_ (n := 5) (S := fun w' => w'.cell? ⟨gb342, 0, none⟩ = some (.int .i64 t338) ∧ w'.cell? ⟨gb342, 1, none⟩ = some (.slice Ao108 t339.length co108) ∧ w'.cell? ⟨gb328, 0, none⟩ = some (.int .i64 a0_0) ∧ w'.cell? ⟨gb328, 1, none⟩ = some (.slice A0_1 l0_1.length c0_1)) (ds := []) #[false, false, false, false, false] (by kernel_rfl) rfl rfl ⟨(blk_cell BK342.out 0).trans rfl, (blk_cell BK342.out 1).trans rfl, (blk_cell BK328.out 0).trans rfl, (blk_cell BK328.out 1).trans rfl⟩ (fun hHeld => ?_)
          generalize w112.drew = w113 at HO333 HO336 HO341 HO345 BK328 BK342 HB hHeld ⊢
          refine take_ (i := 0) (N := some 41) (v := ?_) (a' := ?_) #[true, false, false, false, false] rfl rfl (by kernel_rfl) (fun _ _ _ h => h) (Or.inl ⟨by rfl, ?_⟩) hHeld ?_ ?_
          rotate_left
          · rintro w' ⟨s0, s1, s2, s3⟩
            go_simp
            with_reducible rfl
          rotate_left
          · simp only [Act.put, List.setIfInBounds_toArray, List.set_cons_zero, List.set_cons_succ, i64_w, i32_w]
            rfl
          refine take_ (i := 1) (N := some 42) (v := ?_) (a' := ?_) #[true, true, false, false, false] rfl rfl (by kernel_rfl) (fun _ _ _ h => h) (Or.inl ⟨by rfl, ?_⟩) hHeld ?_ ?_
          rotate_left
          · rintro w' ⟨s0, s1, s2, s3⟩
            go_simp
            with_reducible rfl
          rotate_left
          · simp only [Act.put, List.setIfInBounds_toArray, List.set_cons_zero, List.set_cons_succ, i64_w, i32_w]
            rfl
          refine one_ (i := 2) (N := some 43) #[true, true, true, false, false] rfl rfl (by kernel_rfl) (by decide) (fun K hK => ?_)
          refine goes_ Try.func13 (by kernel_rfl) rfl #[.agg #[.int .i64 a0_0, .slice A0_1 l0_1.length c0_1]] (by rfl) rfl rfl ga ?_
          with_reducible refine (laws_toNet.calls k a0_0 _ _ l0_1 t347 t348 _ ?side1 ?side2 A38.out).mono ?_
          (case side1 => exact ck (Kd.C_below HR0_1.out HB.out))
          (case side2 => exact HC0_1.out)
          rintro e w114 ⟨v349, rfl, ho0, hb⟩
          refine ⟨_, rfl, ?_⟩
          have HO350 := Aside0.mk (Kd.R_lower (Kd.R_new' (Kd.R_new' ho0 (Kd.R_lt (rk HO333.out))) (Kd.R_lt (rk HO341.out))) (below_size bel))
          replace HO333 := Aside0.mk (Kd.R_elder' (rk HO333.out) (Kd.R_base ho0) hb)
          replace HO336 := Aside0.mk (Kd.R_below (rk HO336.out) hb)
          replace HO341 := Aside0.mk (Kd.R_elder' (rk HO341.out) (Kd.R_base ho0) hb)
          replace HO345 := Aside0.mk (Kd.R_below (rk HO345.out) hb)
          replace BK328 := Aside0.mk (bb BK328.out hb)
          replace BK342 := Aside0.mk (bb BK342.out hb)
          replace HB := Aside0.mk (below_step bel hb)
          (try clear hb)
          (try clear hb2)
          (try clear hk)
          (try clear hi)
          (try clear ho0)
          obtain ⟨Ao115, co115, eo115⟩ := Kd.R_slice HO350.out
          (first | subst eo115 | (injection eo115 with f1_ f2_ f3_; have f4_ := f1_.symm; have f5_ := f3_.symm; clear f1_ f2_ f3_; subst f4_; subst f5_))
          refine hK.out _ _ ⟨(blk_cell BK342.out 0).trans rfl, (blk_cell BK342.out 1).trans rfl, (blk_cell BK328.out 0).trans rfl, (blk_cell BK328.out 1).trans rfl⟩ (fun hHeld => ?_)
          clear hK K
          refine norm_ (a' := ?_) ?_ ?_
          rotate_left
          · show Act.put _ (some 43) _ = _
            simp only [Act.put, List.setIfInBounds_toArray, List.set_cons_zero, List.set_cons_succ, i64_w, i32_w]
            rfl
          refine one_ (i := 3) (N := some 44) #[true, true, true, true, false] rfl rfl (by kernel_rfl) (by decide) (fun K hK => ?_)
          refine goes_ Try.func15 (by kernel_rfl) rfl #[.agg #[.int .i64 t338, .slice Ao108 t339.length co108], .agg #[.int .i64 t347, .slice Ao115 t348.length co115]] (by rfl) rfl rfl ga ?_
          with_reducible refine (laws_eqNet.calls k t338 _ _ t339 t347 _ _ t348 false _ ?side1 ?side2 ?side3 ?side4 A39.out).mono ?_
          (case side1 => exact ck (Kd.R_reads' HO341.out).2.2)
          (case side2 => exact (Kd.R_reads' HO341.out).2.1)
          (case side3 => exact ck (Kd.R_reads' HO350.out).2.2)
          (case side4 => exact (Kd.R_reads' HO350.out).2.1)
          rintro e w116 ⟨rfl, hb⟩
          refine ⟨_, rfl, ?_⟩
          replace HO333 := Aside0.mk (Kd.R_below (rk HO333.out) hb)
          replace HO336 := Aside0.mk (Kd.R_below (rk HO336.out) hb)
          replace HO341 := Aside0.mk (Kd.R_below (rk HO341.out) hb)
          replace HO345 := Aside0.mk (Kd.R_below (rk HO345.out) hb)
          replace HO350 := Aside0.mk (Kd.R_below (rk HO350.out) hb)
          replace BK328 := Aside0.mk (bb BK328.out hb)
          replace BK342 := Aside0.mk (bb BK342.out hb)
          replace HB := Aside0.mk (below_step bel hb)
          (try clear hb)
          (try clear hb2)
          (try clear hk)
          (try clear hi)
          refine hK.out _ _ ⟨(blk_cell BK342.out 0).trans rfl, (blk_cell BK342.out 1).trans rfl, (blk_cell BK328.out 0).trans rfl, (blk_cell BK328.out 1).trans rfl⟩ (fun hHeld => ?_)
          clear hK K
          refine norm_ (a' := ?_) ?_ ?_
          rotate_left
          · show Act.put _ (some 44) _ = _
            simp only [Act.put, List.setIfInBounds_toArray, List.set_cons_zero, List.set_cons_succ, i64_w, i32_w]
            rfl
          refine pure_ (i := 4) (N := some 45) (v := ?_) (a' := ?_) #[true, true, true, true, true] rfl rfl (by kernel_rfl) (fun _ _ _ h => h) (Or.inl ⟨by rfl, ?_⟩) ?_ ?_
          rotate_left
          · intro w'
            go_simp
            with_reducible rfl
          rotate_left
          · simp only [Act.put, List.setIfInBounds_toArray, List.set_cons_zero, List.set_cons_succ, i64_w, i32_w]
            rfl
          refine done_ (by kernel_rfl) ?_
          try go_wp2
          go_ret
          exact ⟨er, bel⟩

end Go.Proofs.Yteaemblallbgpaa.X
