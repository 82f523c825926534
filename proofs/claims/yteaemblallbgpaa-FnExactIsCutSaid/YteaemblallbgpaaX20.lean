-- Written by a program of this session (wip/xp.py, over the kit's print) out of the translation: functions, and the walks that show them.
import Derived.Test.YteaemblallbgpaaX0
import Derived.Test.YteaemblallbgpaaX1
import Derived.Test.YteaemblallbgpaaX3
import Derived.Test.YteaemblallbgpaaX6
import Derived.Test.YteaemblallbgpaaX14
import Derived.Test.YteaemblallbgpaaX16
import Derived.Test.YteaemblallbgpaaX18
import Derived.Test.YteaemblallbgpaaX19
namespace Go.Proofs.Yteaemblallbgpaa.X
open Go.RowKit Go.Proofs.YteaemblallbgpaaW.PrintWords Go.Proofs.YteaemblallbgpaaW.PrintLast Go.Proofs.YteaemblallbgpaaW.PrintMore
attribute [local go_sem] max2_int min2_int max_two min_two max_three min_three max_four min_four   -- for this text's walks alone
set_option linter.unusedVariables false
set_option linter.unusedSimpArgs false

/-! ### laws_FnExactIsCut: function 6 -/
def laws_FnExactIsCut.f (k : Nat) (a0_0 : Int) (l0_1 : List (S77)) (a1 : Int) (a2 : Int) (l3 : List Bool) (a4 : Int) : Option (Bool) := if (l3.length : Int) > 1048576 then (some true) else ((laws_szNet.f a0_0 l0_1 1048576).bind fun t270 => (if t270 < 0 then (some true) else ((laws_toNet.f k a0_0 l0_1).bind fun bt271 => ((laws_toBoolS.f k l3).bind fun t275 => ((spec_IsCut.f k bt271.1 bt271.2 a1 a2 t275 a4).bind fun t278 => ((laws_toNet.f k a0_0 l0_1).bind fun bt279 => ((laws_toBoolS.f k l3).bind fun t284 => ((impl_IsCut.f k bt279.1 bt279.2 a1 a2 t284 a4).bind fun t287 => (if (t287 != t278) = true then (some false) else ((laws_toNet.f k a0_0 l0_1).bind fun bt288 => ((laws_eqNet.f k bt279.1 bt279.2 bt288.1 bt288.2).bind fun t292 => (if t292 = true then ((laws_toBoolS.f k l3).bind fun t293 => ((laws_eqBoolS.f k t284 t293).bind fun t296 => (if t296 = true then (some true) else (some false)))) else (some false)))))))))))))
theorem laws_FnExactIsCut.mono : ∀ a0 a1 a2 a3 a4 a5 k, LeO (laws_FnExactIsCut.f k a0 a1 a2 a3 a4 a5) (laws_FnExactIsCut.f (k + 1) a0 a1 a2 a3 a4 a5) := by
  intro a0 a1 a2 a3 a4 a5 k
  unfold laws_FnExactIsCut.f
  repeat' first
      | (with_reducible exact impl_IsCut.mono _ _ _ _ _ _ _)
      | (with_reducible exact laws_eqBoolS.mono _ _ _)
      | (with_reducible exact laws_eqNet.mono _ _ _ _ _)
      | (with_reducible exact laws_toBoolS.mono _ _)
      | (with_reducible exact laws_toNet.mono _ _ _)
      | (with_reducible exact spec_IsCut.mono _ _ _ _ _ _ _)
      | (with_reducible exact LeO.refl _)
      | (with_reducible exact LeO.none _)
      | (with_reducible refine LeO.ite ?_ ?_)
      | (with_reducible refine LeO.bind ?_ (fun _ => ?_))
      | exact impl_IsCut.mono _ _ _ _ _ _ _
      | exact laws_eqBoolS.mono _ _ _
      | exact laws_eqNet.mono _ _ _ _ _
      | exact laws_toBoolS.mono _ _
      | exact laws_toNet.mono _ _ _
      | exact spec_IsCut.mono _ _ _ _ _ _ _
      | exact LeO.none _
      | refine LeO.ite ?_ ?_
      | refine LeO.bind ?_ (fun _ => ?_)
set_option maxHeartbeats 8000000 in
set_option maxRecDepth 100000 in
theorem laws_FnExactIsCut.calls (k : Nat) (a0_0 : Int) (A0_1 : Option Addr) (c0_1 : Nat) (l0_1 : List (S77)) (a1 : Int) (a2 : Int) (A3 : Option Addr) (c3 : Nat) (l3 : List Bool) (a4 : Int) (r : Bool) (w : World) (hr0_1 : Kd.C k77 w A0_1 l0_1.length l0_1) (hc0_1 : l0_1.length ≤ c0_1) (hr3 : Kd.C Kd.bool w A3 l3.length l3) (hc3 : l3.length ≤ c3) (h : laws_FnExactIsCut.f k a0_0 l0_1 a1 a2 l3 a4 = some r) :
    Calls Try.prog 6 #[.agg #[.int .i64 a0_0, .slice A0_1 l0_1.length c0_1], .int .i64 a1, .int .i64 a2, .slice A3 l3.length c3, .int .i64 a4] w fun e w' => e = .returned (.bool r) ∧ Below w.heap.size w w' := by
  have hu24 := Try.underlying24
  have hu29 := Try.underlying29
  have HR0_1 := Aside0.mk hr0_1
  have HC0_1 := Aside0.mk hc0_1
  clear hr0_1 hc0_1
  have HR3 := Aside0.mk hr3
  have HC3 := Aside0.mk hc3
  clear hr3 hc3
  have HB := Aside0.mk (Below.refl w.heap.size w)
  have H : (if (l3.length : Int) > 1048576 then (some true) else ((laws_szNet.f a0_0 l0_1 1048576).bind fun t270 => (if t270 < 0 then (some true) else ((laws_toNet.f k a0_0 l0_1).bind fun bt271 => ((laws_toBoolS.f k l3).bind fun t275 => ((spec_IsCut.f k bt271.1 bt271.2 a1 a2 t275 a4).bind fun t278 => ((laws_toNet.f k a0_0 l0_1).bind fun bt279 => ((laws_toBoolS.f k l3).bind fun t284 => ((impl_IsCut.f k bt279.1 bt279.2 a1 a2 t284 a4).bind fun t287 => (if (t287 != t278) = true then (some false) else ((laws_toNet.f k a0_0 l0_1).bind fun bt288 => ((laws_eqNet.f k bt279.1 bt279.2 bt288.1 bt288.2).bind fun t292 => (if t292 = true then ((laws_toBoolS.f k l3).bind fun t293 => ((laws_eqBoolS.f k t284 t293).bind fun t296 => (if t296 = true then (some true) else (some false)))) else (some false)))))))))))))) = some r := h
  clear h
  by_cases c6 : (l3.length : Int) > 1048576
  · rw [if_pos c6] at H
    have c6b0 : decide (1048576 < (l3.length : Int)) = true := decide_eq_true c6
    have c6b1 : decide (1048576 < l3.length) = true := decide_eq_true (by omega)
    clear c6
    obtain rfl := Option.some.inj H
    go_enter Try.func6, Try.ntmps6
    go_wp2_with (first | ((with_reducible refine gate_dst (N := 5) rfl ?_); refine box_event ?hg (N := 5) ?hd (cs := #[.int .i64 a0_0, .slice A0_1 l0_1.length c0_1]) (t := 24) ?hr ?_; (case hd => rfl); (case hg => rfl); (case hr => first | (go_simp; done) | (go_simp; rfl)); intro gb269 hg w7 hbox hb; have BK269 := Aside0.mk (hbox); have GW269 := Aside0.mk ((bsz hg : w.heap.size ≤ gb269)); have GE269 := Aside0.mk ((bsz hg : w.heap.size ≤ gb269)); replace HB := Aside0.mk (below_step bel hb); clear hb hbox hg))
    go_ret
    exact ⟨er, bel⟩
  · rw [if_neg c6] at H
    have c6b0 : decide (1048576 < (l3.length : Int)) = false := decide_eq_false c6
    have c6b1 : decide (1048576 < l3.length) = false := decide_eq_false (by omega)
    clear c6
    replace H := Option.bind_eq_some_iff.mp H
    obtain ⟨t270, A80, H⟩ := H
    replace H : (if t270 < 0 then (some true) else ((laws_toNet.f k a0_0 l0_1).bind fun bt271 => ((laws_toBoolS.f k l3).bind fun t275 => ((spec_IsCut.f k bt271.1 bt271.2 a1 a2 t275 a4).bind fun t278 => ((laws_toNet.f k a0_0 l0_1).bind fun bt279 => ((laws_toBoolS.f k l3).bind fun t284 => ((impl_IsCut.f k bt279.1 bt279.2 a1 a2 t284 a4).bind fun t287 => (if (t287 != t278) = true then (some false) else ((laws_toNet.f k a0_0 l0_1).bind fun bt288 => ((laws_eqNet.f k bt279.1 bt279.2 bt288.1 bt288.2).bind fun t292 => (if t292 = true then ((laws_toBoolS.f k l3).bind fun t293 => ((laws_eqBoolS.f k t284 t293).bind fun t296 => (if t296 = true then (some true) else (some false)))) else (some false)))))))))))) = some r := H
    have A8 := Aside0.mk A80
    clear A80
    by_cases c9 : t270 < 0
    · rw [if_pos c9] at H
      have c9b0 : decide (t270 < 0) = true := decide_eq_true c9
      clear c9
      obtain rfl := Option.some.inj H
      go_enter Try.func6, Try.ntmps6
      go_wp2_with (first | ((with_reducible refine gate_dst (N := 5) rfl ?_); refine box_event ?hg (N := 5) ?hd (cs := #[.int .i64 a0_0, .slice A0_1 l0_1.length c0_1]) (t := 24) ?hr ?_; (case hd => rfl); (case hg => rfl); (case hr => first | (go_simp; done) | (go_simp; rfl)); intro gb269 hg w10 hbox hb; have BK269 := Aside0.mk (hbox); have GW269 := Aside0.mk ((bsz hg : w.heap.size ≤ gb269)); have GE269 := Aside0.mk ((bsz hg : w.heap.size ≤ gb269)); replace HB := Aside0.mk (below_step bel hb); clear hb hbox hg; obtain ⟨hcz11_0, hcz11_1, hfz11_0, hfz11_1⟩ := cf2 BK269.out) | ((with_reducible refine gate_callee (f := 11) rfl ?_); refine goesL_ (some 21) rfl rfl Try.func11 (by kernel_rfl) rfl #[.agg #[.int .i64 a0_0, .slice A0_1 l0_1.length c0_1], .int .i64 1048576] rfl ga ?_; (with_reducible refine (laws_szNet.calls a0_0 _ _ l0_1 1048576 t270 _ ?side1 ?side2 A8.out).mono ?_); (case side1 => exact ck (Kd.C_below HR0_1.out HB.out)); (case side2 => exact HC0_1.out); rintro e w12 ⟨rfl, hb⟩; refine ⟨_, rfl, ?_⟩; replace BK269 := Aside0.mk (bb BK269.out hb); replace HB := Aside0.mk (below_step bel hb); (try clear hb)))
      go_ret
      exact ⟨er, bel⟩
    · rw [if_neg c9] at H
      have c9b0 : decide (t270 < 0) = false := decide_eq_false c9
      clear c9
      replace H := Option.bind_eq_some_iff.mp H
      obtain ⟨⟨t271, t272⟩, A130, H⟩ := H
      replace H : ((laws_toBoolS.f k l3).bind fun t275 => ((spec_IsCut.f k t271 t272 a1 a2 t275 a4).bind fun t278 => ((laws_toNet.f k a0_0 l0_1).bind fun bt279 => ((laws_toBoolS.f k l3).bind fun t284 => ((impl_IsCut.f k bt279.1 bt279.2 a1 a2 t284 a4).bind fun t287 => (if (t287 != t278) = true then (some false) else ((laws_toNet.f k a0_0 l0_1).bind fun bt288 => ((laws_eqNet.f k bt279.1 bt279.2 bt288.1 bt288.2).bind fun t292 => (if t292 = true then ((laws_toBoolS.f k l3).bind fun t293 => ((laws_eqBoolS.f k t284 t293).bind fun t296 => (if t296 = true then (some true) else (some false)))) else (some false)))))))))) = some r := H
      have A13 := Aside0.mk A130
      clear A130
      replace H := Option.bind_eq_some_iff.mp H
      obtain ⟨t275, A140, H⟩ := H
      replace H : ((spec_IsCut.f k t271 t272 a1 a2 t275 a4).bind fun t278 => ((laws_toNet.f k a0_0 l0_1).bind fun bt279 => ((laws_toBoolS.f k l3).bind fun t284 => ((impl_IsCut.f k bt279.1 bt279.2 a1 a2 t284 a4).bind fun t287 => (if (t287 != t278) = true then (some false) else ((laws_toNet.f k a0_0 l0_1).bind fun bt288 => ((laws_eqNet.f k bt279.1 bt279.2 bt288.1 bt288.2).bind fun t292 => (if t292 = true then ((laws_toBoolS.f k l3).bind fun t293 => ((laws_eqBoolS.f k t284 t293).bind fun t296 => (if t296 = true then (some true) else (some false)))) else (some false))))))))) = some r := H
      have A14 := Aside0.mk A140
      clear A140
      replace H := Option.bind_eq_some_iff.mp H
      obtain ⟨t278, A150, H⟩ := H
      replace H : ((laws_toNet.f k a0_0 l0_1).bind fun bt279 => ((laws_toBoolS.f k l3).bind fun t284 => ((impl_IsCut.f k bt279.1 bt279.2 a1 a2 t284 a4).bind fun t287 => (if (t287 != t278) = true then (some false) else ((laws_toNet.f k a0_0 l0_1).bind fun bt288 => ((laws_eqNet.f k bt279.1 bt279.2 bt288.1 bt288.2).bind fun t292 => (if t292 = true then ((laws_toBoolS.f k l3).bind fun t293 => ((laws_eqBoolS.f k t284 t293).bind fun t296 => (if t296 = true then (some true) else (some false)))) else (some false)))))))) = some r := H
      have A15 := Aside0.mk A150
      clear A150
      replace H := Option.bind_eq_some_iff.mp H
      obtain ⟨⟨t279, t280⟩, A160, H⟩ := H
      replace H : ((laws_toBoolS.f k l3).bind fun t284 => ((impl_IsCut.f k t279 t280 a1 a2 t284 a4).bind fun t287 => (if (t287 != t278) = true then (some false) else ((laws_toNet.f k a0_0 l0_1).bind fun bt288 => ((laws_eqNet.f k t279 t280 bt288.1 bt288.2).bind fun t292 => (if t292 = true then ((laws_toBoolS.f k l3).bind fun t293 => ((laws_eqBoolS.f k t284 t293).bind fun t296 => (if t296 = true then (some true) else (some false)))) else (some false))))))) = some r := H
      have A16 := Aside0.mk A160
      clear A160
      replace H := Option.bind_eq_some_iff.mp H
      obtain ⟨t284, A170, H⟩ := H
      replace H : ((impl_IsCut.f k t279 t280 a1 a2 t284 a4).bind fun t287 => (if (t287 != t278) = true then (some false) else ((laws_toNet.f k a0_0 l0_1).bind fun bt288 => ((laws_eqNet.f k t279 t280 bt288.1 bt288.2).bind fun t292 => (if t292 = true then ((laws_toBoolS.f k l3).bind fun t293 => ((laws_eqBoolS.f k t284 t293).bind fun t296 => (if t296 = true then (some true) else (some false)))) else (some false)))))) = some r := H
      have A17 := Aside0.mk A170
      clear A170
      replace H := Option.bind_eq_some_iff.mp H
      obtain ⟨t287, A180, H⟩ := H
      replace H : (if (t287 != t278) = true then (some false) else ((laws_toNet.f k a0_0 l0_1).bind fun bt288 => ((laws_eqNet.f k t279 t280 bt288.1 bt288.2).bind fun t292 => (if t292 = true then ((laws_toBoolS.f k l3).bind fun t293 => ((laws_eqBoolS.f k t284 t293).bind fun t296 => (if t296 = true then (some true) else (some false)))) else (some false))))) = some r := H
      have A18 := Aside0.mk A180
      clear A180
      by_cases c19 : (t287 != t278) = true
      · rw [if_pos c19] at H
        have c19b0 : (t287 != t278) = true := c19
        (try (have c19b1 : decide (t287 = t278) = false := by simpa using c19))
        (try (have c19b2 : (t287 == t278) = false := by simpa using c19))
        (try (have c19b3 : ¬ (t287 = t278) := by simpa using c19))
        clear c19
        obtain rfl := Option.some.inj H
        go_enter Try.func6, Try.ntmps6
        go_wp2_with (first | ((with_reducible refine gate_dst (N := 5) rfl ?_); refine box_event ?hg (N := 5) ?hd (cs := #[.int .i64 a0_0, .slice A0_1 l0_1.length c0_1]) (t := 24) ?hr ?_; (case hd => rfl); (case hg => rfl); (case hr => first | (go_simp; done) | (go_simp; rfl)); intro gb269 hg w20 hbox hb; have BK269 := Aside0.mk (hbox); have GW269 := Aside0.mk ((bsz hg : w.heap.size ≤ gb269)); have GE269 := Aside0.mk ((bsz hg : w.heap.size ≤ gb269)); replace HB := Aside0.mk (below_step bel hb); clear hb hbox hg; obtain ⟨hcz21_0, hcz21_1, hfz21_0, hfz21_1⟩ := cf2 BK269.out) | ((with_reducible refine gate_callee (f := 11) rfl ?_); refine goesL_ (some 21) rfl rfl Try.func11 (by kernel_rfl) rfl #[.agg #[.int .i64 a0_0, .slice A0_1 l0_1.length c0_1], .int .i64 1048576] rfl ga ?_; (with_reducible refine (laws_szNet.calls a0_0 _ _ l0_1 1048576 t270 _ ?side1 ?side2 A8.out).mono ?_); (case side1 => exact ck (Kd.C_below HR0_1.out HB.out)); (case side2 => exact HC0_1.out); rintro e w22 ⟨rfl, hb⟩; refine ⟨_, rfl, ?_⟩; replace BK269 := Aside0.mk (bb BK269.out hb); replace HB := Aside0.mk (below_step bel hb); (try clear hb); obtain ⟨hcz23_0, hcz23_1, hfz23_0, hfz23_1⟩ := cf2 BK269.out) | ((with_reducible refine gate_callee (f := 13) rfl ?_); refine goesL_ (some 25) rfl rfl Try.func13 (by kernel_rfl) rfl #[.agg #[.int .i64 a0_0, .slice A0_1 l0_1.length c0_1]] rfl ga ?_; (with_reducible refine (laws_toNet.calls k a0_0 _ _ l0_1 t271 t272 _ ?side1 ?side2 A13.out).mono ?_); (case side1 => exact ck (Kd.C_below HR0_1.out HB.out)); (case side2 => exact HC0_1.out); rintro e w24 ⟨v273, rfl, ho0, hb⟩; refine ⟨_, rfl, ?_⟩; have HO274 := Aside0.mk (Kd.R_lower ho0 (below_size bel)); replace BK269 := Aside0.mk (bb BK269.out hb); replace HB := Aside0.mk (below_step bel hb); (try clear hb); (try clear ho0)) | ((with_reducible refine gate_callee (f := 21) rfl ?_); refine goesL_ (some 29) rfl rfl Try.func21 (by kernel_rfl) rfl #[.slice A3 l3.length c3] rfl ga ?_; (with_reducible refine (laws_toBoolS.calls k _ _ l3 t275 _ ?side1 ?side2 A14.out).mono ?_); (case side1 => exact ck (Kd.C_below HR3.out HB.out)); (case side2 => exact HC3.out); rintro e w25 ⟨v276, rfl, ho0, hb⟩; refine ⟨_, rfl, ?_⟩; have HO277 := Aside0.mk (Kd.R_lower ho0 (below_size bel)); replace HO274 := Aside0.mk (Kd.R_below (rk HO274.out) hb); replace BK269 := Aside0.mk (bb BK269.out hb); replace HB := Aside0.mk (below_step bel hb); (try clear hb); (try clear ho0); obtain ⟨Ao26, co26, eo26⟩ := Kd.R_slice HO274.out; subst eo26; obtain ⟨Ao27, co27, eo27⟩ := Kd.R_slice HO277.out; subst eo27) | ((with_reducible refine gate_callee (f := 24) rfl ?_); refine goesL_ (some 31) rfl rfl Try.func24 (by kernel_rfl) rfl #[.agg #[.int .i64 t271, .slice Ao26 t272.length co26], .int .i64 a1, .int .i64 a2, .slice Ao27 t275.length co27, .int .i64 a4] rfl ga ?_; (with_reducible refine (spec_IsCut.calls k t271 _ _ t272 a1 a2 _ _ t275 a4 t278 _ ?side1 ?side2 ?side3 ?side4 A15.out).mono ?_); (case side1 => exact ck (Kd.R_reads' HO274.out).2.2); (case side2 => exact (Kd.R_reads' HO274.out).2.1); (case side3 => exact ck (Kd.R_reads' HO277.out).2.2); (case side4 => exact (Kd.R_reads' HO277.out).2.1); rintro e w28 ⟨rfl, hb⟩; refine ⟨_, rfl, ?_⟩; replace HO274 := Aside0.mk (Kd.R_below (rk HO274.out) hb); replace HO277 := Aside0.mk (Kd.R_below (rk HO277.out) hb); replace BK269 := Aside0.mk (bb BK269.out hb); replace HB := Aside0.mk (below_step bel hb); (try clear hb); obtain ⟨hcz29_0, hcz29_1, hfz29_0, hfz29_1⟩ := cf2 BK269.out) | ((with_reducible refine gate_callee (f := 13) rfl ?_); refine goesL_ (some 33) rfl rfl Try.func13 (by kernel_rfl) rfl #[.agg #[.int .i64 a0_0, .slice A0_1 l0_1.length c0_1]] rfl ga ?_; (with_reducible refine (laws_toNet.calls k a0_0 _ _ l0_1 t279 t280 _ ?side1 ?side2 A16.out).mono ?_); (case side1 => exact ck (Kd.C_below HR0_1.out HB.out)); (case side2 => exact HC0_1.out); rintro e w30 ⟨v281, rfl, ho0, hb⟩; refine ⟨_, rfl, ?_⟩; have HO282 := Aside0.mk (Kd.R_lower (Kd.R_new' ho0 (Kd.R_lt (rk HO274.out))) (below_size bel)); replace HO274 := Aside0.mk (Kd.R_elder' (rk HO274.out) (Kd.R_base ho0) hb); replace HO277 := Aside0.mk (Kd.R_below (rk HO277.out) hb); replace BK269 := Aside0.mk (bb BK269.out hb); replace HB := Aside0.mk (below_step bel hb); (try clear hb); (try clear ho0)) | ((with_reducible refine gate_dst (N := 13) rfl ?_); refine box_event ?hg (N := 13) ?hd (cs := #[.int .i64 0, .slice none 0 0]) (t := 29) ?hr ?_; (case hd => rfl); (case hg => rfl); (case hr => first | (go_simp; done) | (go_simp; rfl)); intro gb283 hg w31 hbox hb; have BK283 := Aside0.mk (hbox); have GW283 := Aside0.mk ((bsz hg : w.heap.size ≤ gb283)); have GE283 := Aside0.mk ((bsz hg : w.heap.size ≤ gb283)); have NB269_283 := Aside0.mk ((nlt hg BK269.out : gb269 ≠ gb283)); have NB283_269 := Aside0.mk ((ngt hg BK269.out : gb283 ≠ gb269)); replace HO274 := Aside0.mk (Kd.R_below (rk HO274.out) hb); replace HO277 := Aside0.mk (Kd.R_below (rk HO277.out) hb); replace HO282 := Aside0.mk (Kd.R_below (rk HO282.out) hb); replace BK269 := Aside0.mk (bb BK269.out hb); replace HB := Aside0.mk (below_step bel hb); clear hb hbox hg; have hnb32 := NB283_269.out; have hnc32 := NB269_283.out; obtain ⟨hcz33_0, hcz33_1, hfz33_0, hfz33_1⟩ := cf2 BK283.out; obtain ⟨Ao34, co34, eo34⟩ := Kd.R_slice HO282.out; subst eo34) | ((with_reducible refine gate_callee (f := 21) rfl ?_); refine goesL_ (some 35) rfl rfl Try.func21 (by kernel_rfl) rfl #[.slice A3 l3.length c3] rfl ga ?_; (with_reducible refine (laws_toBoolS.calls k _ _ l3 t284 _ ?side1 ?side2 A17.out).mono ?_); (case side1 => exact Kd.C_below HR3.out bel); (case side2 => exact HC3.out); rintro e w35 ⟨v285, rfl, ho0, hb⟩; refine ⟨_, rfl, ?_⟩; have HO286 := Aside0.mk (Kd.R_lower (Kd.R_new' ho0 (Kd.R_lt (by exact rk (Kd.R_mono (Kd.R_far (p := ⟨gb283, 1, none⟩) (Kd.R_far (p := ⟨gb283, 0, none⟩) (Kd.R_types HO277.out BK283.out (by decide)) (fun _ hk => hk.2) (.int .i64 t279)) (fun _ hk => hk.2) (.slice Ao34 t280.length co34)) (fun _ h_ => h_.1))))) (below_size bel)); replace HO274 := Aside0.mk (Kd.R_below (by exact rk (Kd.R_mono (Kd.R_far (p := ⟨gb283, 1, none⟩) (Kd.R_far (p := ⟨gb283, 0, none⟩) (Kd.R_types HO274.out BK283.out (by decide)) (fun _ hk => hk.2) (.int .i64 t279)) (fun _ hk => hk.2) (.slice Ao34 t280.length co34)) (fun _ h_ => h_.1))) hb); replace HO277 := Aside0.mk (Kd.R_elder' (by exact rk (Kd.R_mono (Kd.R_far (p := ⟨gb283, 1, none⟩) (Kd.R_far (p := ⟨gb283, 0, none⟩) (Kd.R_types HO277.out BK283.out (by decide)) (fun _ hk => hk.2) (.int .i64 t279)) (fun _ hk => hk.2) (.slice Ao34 t280.length co34)) (fun _ h_ => h_.1))) (Kd.R_base ho0) hb); replace HO282 := Aside0.mk (Kd.R_below (by exact rk (Kd.R_mono (Kd.R_far (p := ⟨gb283, 1, none⟩) (Kd.R_far (p := ⟨gb283, 0, none⟩) (Kd.R_types HO282.out BK283.out (by decide)) (fun _ hk => hk.2) (.int .i64 t279)) (fun _ hk => hk.2) (.slice Ao34 t280.length co34)) (fun _ h_ => h_.1))) hb); replace BK269 := Aside0.mk (bb BK269.out hb); replace BK283 := Aside0.mk (blk_below (g := gb283) (o := .cells #[.int .i64 t279, .slice Ao34 t280.length co34] 29 (0, 0)) (by (with_reducible repeat (first | refine blk_drewN ?_ _ | refine blk_drew ?_ | refine blk_alloc ?_ _)); refine blk_put (cs := #[.int .i64 t279, .slice none 0 0]) ?_ 1 _ rfl; (with_reducible repeat (first | refine blk_drewN ?_ _ | refine blk_drew ?_ | refine blk_alloc ?_ _)); refine blk_put (cs := #[.int .i64 0, .slice none 0 0]) ?_ 0 _ rfl; (with_reducible repeat (first | refine blk_drewN ?_ _ | refine blk_drew ?_ | refine blk_alloc ?_ _)); exact BK283.out) hb); replace HB := Aside0.mk (below_step bel hb); (try clear hb); (try clear ho0); obtain ⟨hcz36_0, hcz36_1, hfz36_0, hfz36_1⟩ := cf2 BK283.out; obtain ⟨Ao37, co37, eo37⟩ := Kd.R_slice HO286.out; subst eo37) | ((with_reducible refine gate_callee (f := 25) rfl ?_); refine goesL_ (some 41) rfl rfl Try.func25 (by kernel_rfl) rfl #[.agg #[.int .i64 t279, .slice Ao34 t280.length co34], .int .i64 a1, .int .i64 a2, .slice Ao37 t284.length co37, .int .i64 a4] rfl ga ?_; (with_reducible refine (impl_IsCut.calls k t279 _ _ t280 a1 a2 _ _ t284 a4 t287 _ ?side1 ?side2 ?side3 ?side4 A18.out).mono ?_); (case side1 => exact ck (Kd.R_reads' HO282.out).2.2); (case side2 => exact (Kd.R_reads' HO282.out).2.1); (case side3 => exact ck (Kd.R_reads' HO286.out).2.2); (case side4 => exact (Kd.R_reads' HO286.out).2.1); rintro e w38 ⟨rfl, hb⟩; refine ⟨_, rfl, ?_⟩; replace HO274 := Aside0.mk (Kd.R_below (rk HO274.out) hb); replace HO277 := Aside0.mk (Kd.R_below (rk HO277.out) hb); replace HO282 := Aside0.mk (Kd.R_below (rk HO282.out) hb); replace HO286 := Aside0.mk (Kd.R_below (rk HO286.out) hb); replace BK269 := Aside0.mk (bb BK269.out hb); replace BK283 := Aside0.mk (bb BK283.out hb); replace HB := Aside0.mk (below_step bel hb); (try clear hb)))
        go_ret
        exact ⟨er, bel⟩
      · rw [if_neg c19] at H
        have c19b0 : (t287 != t278) = false := by simpa using c19
        (try (have c19b1 : decide (t287 = t278) = true := by simpa using c19))
        (try (have c19b2 : (t287 == t278) = true := by simpa using c19))
        clear c19
        replace H := Option.bind_eq_some_iff.mp H
        obtain ⟨⟨t288, t289⟩, A390, H⟩ := H
        replace H : ((laws_eqNet.f k t279 t280 t288 t289).bind fun t292 => (if t292 = true then ((laws_toBoolS.f k l3).bind fun t293 => ((laws_eqBoolS.f k t284 t293).bind fun t296 => (if t296 = true then (some true) else (some false)))) else (some false))) = some r := H
        have A39 := Aside0.mk A390
        clear A390
        replace H := Option.bind_eq_some_iff.mp H
        obtain ⟨t292, A400, H⟩ := H
        replace H : (if t292 = true then ((laws_toBoolS.f k l3).bind fun t293 => ((laws_eqBoolS.f k t284 t293).bind fun t296 => (if t296 = true then (some true) else (some false)))) else (some false)) = some r := H
        have A40 := Aside0.mk A400
        clear A400
        by_cases c41 : t292 = true
        · subst c41
          have H1 : ((laws_toBoolS.f k l3).bind fun t293 => ((laws_eqBoolS.f k t284 t293).bind fun t296 => (if t296 = true then (some true) else (some false)))) = some r := by rw [if_pos rfl] at H; exact H
          clear H
          have H := H1
          clear H1
          replace H := Option.bind_eq_some_iff.mp H
          obtain ⟨t293, A420, H⟩ := H
          replace H : ((laws_eqBoolS.f k t284 t293).bind fun t296 => (if t296 = true then (some true) else (some false))) = some r := H
          have A42 := Aside0.mk A420
          clear A420
          replace H := Option.bind_eq_some_iff.mp H
          obtain ⟨t296, A430, H⟩ := H
          replace H : (if t296 = true then (some true) else (some false)) = some r := H
          have A43 := Aside0.mk A430
          clear A430
          by_cases c44 : t296 = true
          · subst c44
            have H1 : (some true) = some r := by rw [if_pos rfl] at H; exact H
            clear H
            have H := H1
            clear H1
            obtain rfl := Option.some.inj H
            go_enter Try.func6, Try.ntmps6
            try go_wp2_with (first | ((with_reducible refine gate_dst (N := 5) rfl ?_); refine box_event ?hg (N := 5) ?hd (cs := #[.int .i64 a0_0, .slice A0_1 l0_1.length c0_1]) (t := 24) ?hr ?_; (case hd => rfl); (case hg => rfl); (case hr => first | (go_simp; done) | (go_simp; rfl)); intro gb269 hg w45 hbox hb; have BK269 := Aside0.mk (hbox); have GW269 := Aside0.mk ((bsz hg : w.heap.size ≤ gb269)); have GE269 := Aside0.mk ((bsz hg : w.heap.size ≤ gb269)); replace HB := Aside0.mk (below_step bel hb); clear hb hbox hg; obtain ⟨hcz46_0, hcz46_1, hfz46_0, hfz46_1⟩ := cf2 BK269.out) | ((with_reducible refine gate_callee (f := 11) rfl ?_); refine goesL_ (some 21) rfl rfl Try.func11 (by kernel_rfl) rfl #[.agg #[.int .i64 a0_0, .slice A0_1 l0_1.length c0_1], .int .i64 1048576] rfl ga ?_; (with_reducible refine (laws_szNet.calls a0_0 _ _ l0_1 1048576 t270 _ ?side1 ?side2 A8.out).mono ?_); (case side1 => exact ck (Kd.C_below HR0_1.out HB.out)); (case side2 => exact HC0_1.out); rintro e w47 ⟨rfl, hb⟩; refine ⟨_, rfl, ?_⟩; replace BK269 := Aside0.mk (bb BK269.out hb); replace HB := Aside0.mk (below_step bel hb); (try clear hb); obtain ⟨hcz48_0, hcz48_1, hfz48_0, hfz48_1⟩ := cf2 BK269.out) | ((with_reducible refine gate_callee (f := 13) rfl ?_); refine goesL_ (some 25) rfl rfl Try.func13 (by kernel_rfl) rfl #[.agg #[.int .i64 a0_0, .slice A0_1 l0_1.length c0_1]] rfl ga ?_; (with_reducible refine (laws_toNet.calls k a0_0 _ _ l0_1 t271 t272 _ ?side1 ?side2 A13.out).mono ?_); (case side1 => exact ck (Kd.C_below HR0_1.out HB.out)); (case side2 => exact HC0_1.out); rintro e w49 ⟨v273, rfl, ho0, hb⟩; refine ⟨_, rfl, ?_⟩; have HO274 := Aside0.mk (Kd.R_lower ho0 (below_size bel)); replace BK269 := Aside0.mk (bb BK269.out hb); replace HB := Aside0.mk (below_step bel hb); (try clear hb); (try clear ho0)) | ((with_reducible refine gate_callee (f := 21) rfl ?_); refine goesL_ (some 29) rfl rfl Try.func21 (by kernel_rfl) rfl #[.slice A3 l3.length c3] rfl ga ?_; (with_reducible refine (laws_toBoolS.calls k _ _ l3 t275 _ ?side1 ?side2 A14.out).mono ?_); (case side1 => exact ck (Kd.C_below HR3.out HB.out)); (case side2 => exact HC3.out); rintro e w50 ⟨v276, rfl, ho0, hb⟩; refine ⟨_, rfl, ?_⟩; have HO277 := Aside0.mk (Kd.R_lower ho0 (below_size bel)); replace HO274 := Aside0.mk (Kd.R_below (rk HO274.out) hb); replace BK269 := Aside0.mk (bb BK269.out hb); replace HB := Aside0.mk (below_step bel hb); (try clear hb); (try clear ho0); obtain ⟨Ao51, co51, eo51⟩ := Kd.R_slice HO274.out; subst eo51; obtain ⟨Ao52, co52, eo52⟩ := Kd.R_slice HO277.out; subst eo52) | ((with_reducible refine gate_callee (f := 24) rfl ?_); refine goesL_ (some 31) rfl rfl Try.func24 (by kernel_rfl) rfl #[.agg #[.int .i64 t271, .slice Ao51 t272.length co51], .int .i64 a1, .int .i64 a2, .slice Ao52 t275.length co52, .int .i64 a4] rfl ga ?_; (with_reducible refine (spec_IsCut.calls k t271 _ _ t272 a1 a2 _ _ t275 a4 t278 _ ?side1 ?side2 ?side3 ?side4 A15.out).mono ?_); (case side1 => exact ck (Kd.R_reads' HO274.out).2.2); (case side2 => exact (Kd.R_reads' HO274.out).2.1); (case side3 => exact ck (Kd.R_reads' HO277.out).2.2); (case side4 => exact (Kd.R_reads' HO277.out).2.1); rintro e w53 ⟨rfl, hb⟩; refine ⟨_, rfl, ?_⟩; replace HO274 := Aside0.mk (Kd.R_below (rk HO274.out) hb); replace HO277 := Aside0.mk (Kd.R_below (rk HO277.out) hb); replace BK269 := Aside0.mk (bb BK269.out hb); replace HB := Aside0.mk (below_step bel hb); (try clear hb); obtain ⟨hcz54_0, hcz54_1, hfz54_0, hfz54_1⟩ := cf2 BK269.out) | ((with_reducible refine gate_callee (f := 13) rfl ?_); refine goesL_ (some 33) rfl rfl Try.func13 (by kernel_rfl) rfl #[.agg #[.int .i64 a0_0, .slice A0_1 l0_1.length c0_1]] rfl ga ?_; (with_reducible refine (laws_toNet.calls k a0_0 _ _ l0_1 t279 t280 _ ?side1 ?side2 A16.out).mono ?_); (case side1 => exact ck (Kd.C_below HR0_1.out HB.out)); (case side2 => exact HC0_1.out); rintro e w55 ⟨v281, rfl, ho0, hb⟩; refine ⟨_, rfl, ?_⟩; have HO282 := Aside0.mk (Kd.R_lower (Kd.R_new' ho0 (Kd.R_lt (rk HO274.out))) (below_size bel)); replace HO274 := Aside0.mk (Kd.R_elder' (rk HO274.out) (Kd.R_base ho0) hb); replace HO277 := Aside0.mk (Kd.R_below (rk HO277.out) hb); replace BK269 := Aside0.mk (bb BK269.out hb); replace HB := Aside0.mk (below_step bel hb); (try clear hb); (try clear ho0)) | ((with_reducible refine gate_dst (N := 13) rfl ?_); refine box_event ?hg (N := 13) ?hd (cs := #[.int .i64 0, .slice none 0 0]) (t := 29) ?hr ?_; (case hd => rfl); (case hg => rfl); (case hr => first | (go_simp; done) | (go_simp; rfl)); intro gb283 hg w56 hbox hb; have BK283 := Aside0.mk (hbox); have GW283 := Aside0.mk ((bsz hg : w.heap.size ≤ gb283)); have GE283 := Aside0.mk ((bsz hg : w.heap.size ≤ gb283)); have NB269_283 := Aside0.mk ((nlt hg BK269.out : gb269 ≠ gb283)); have NB283_269 := Aside0.mk ((ngt hg BK269.out : gb283 ≠ gb269)); replace HO274 := Aside0.mk (Kd.R_below (rk HO274.out) hb); replace HO277 := Aside0.mk (Kd.R_below (rk HO277.out) hb); replace HO282 := Aside0.mk (Kd.R_below (rk HO282.out) hb); replace BK269 := Aside0.mk (bb BK269.out hb); replace HB := Aside0.mk (below_step bel hb); clear hb hbox hg; have hnb57 := NB283_269.out; have hnc57 := NB269_283.out; obtain ⟨hcz58_0, hcz58_1, hfz58_0, hfz58_1⟩ := cf2 BK283.out; obtain ⟨Ao59, co59, eo59⟩ := Kd.R_slice HO282.out; subst eo59) | ((with_reducible refine gate_callee (f := 21) rfl ?_); refine goesL_ (some 35) rfl rfl Try.func21 (by kernel_rfl) rfl #[.slice A3 l3.length c3] rfl ga ?_; (with_reducible refine (laws_toBoolS.calls k _ _ l3 t284 _ ?side1 ?side2 A17.out).mono ?_); (case side1 => exact Kd.C_below HR3.out bel); (case side2 => exact HC3.out); rintro e w60 ⟨v285, rfl, ho0, hb⟩; refine ⟨_, rfl, ?_⟩; have HO286 := Aside0.mk (Kd.R_lower (Kd.R_new' ho0 (Kd.R_lt (by exact rk (Kd.R_mono (Kd.R_far (p := ⟨gb283, 1, none⟩) (Kd.R_far (p := ⟨gb283, 0, none⟩) (Kd.R_types HO277.out BK283.out (by decide)) (fun _ hk => hk.2) (.int .i64 t279)) (fun _ hk => hk.2) (.slice Ao59 t280.length co59)) (fun _ h_ => h_.1))))) (below_size bel)); replace HO274 := Aside0.mk (Kd.R_below (by exact rk (Kd.R_mono (Kd.R_far (p := ⟨gb283, 1, none⟩) (Kd.R_far (p := ⟨gb283, 0, none⟩) (Kd.R_types HO274.out BK283.out (by decide)) (fun _ hk => hk.2) (.int .i64 t279)) (fun _ hk => hk.2) (.slice Ao59 t280.length co59)) (fun _ h_ => h_.1))) hb); replace HO277 := Aside0.mk (Kd.R_elder' (by exact rk (Kd.R_mono (Kd.R_far (p := ⟨gb283, 1, none⟩) (Kd.R_far (p := ⟨gb283, 0, none⟩) (Kd.R_types HO277.out BK283.out (by decide)) (fun _ hk => hk.2) (.int .i64 t279)) (fun _ hk => hk.2) (.slice Ao59 t280.length co59)) (fun _ h_ => h_.1))) (Kd.R_base ho0) hb); replace HO282 := Aside0.mk (Kd.R_below (by exact rk (Kd.R_mono (Kd.R_far (p := ⟨gb283, 1, none⟩) (Kd.R_far (p := ⟨gb283, 0, none⟩) (Kd.R_types HO282.out BK283.out (by decide)) (fun _ hk => hk.2) (.int .i64 t279)) (fun _ hk => hk.2) (.slice Ao59 t280.length co59)) (fun _ h_ => h_.1))) hb); replace BK269 := Aside0.mk (bb BK269.out hb); replace BK283 := Aside0.mk (blk_below (g := gb283) (o := .cells #[.int .i64 t279, .slice Ao59 t280.length co59] 29 (0, 0)) (by (with_reducible repeat (first | refine blk_drewN ?_ _ | refine blk_drew ?_ | refine blk_alloc ?_ _)); refine blk_put (cs := #[.int .i64 t279, .slice none 0 0]) ?_ 1 _ rfl; (with_reducible repeat (first | refine blk_drewN ?_ _ | refine blk_drew ?_ | refine blk_alloc ?_ _)); refine blk_put (cs := #[.int .i64 0, .slice none 0 0]) ?_ 0 _ rfl; (with_reducible repeat (first | refine blk_drewN ?_ _ | refine blk_drew ?_ | refine blk_alloc ?_ _)); exact BK283.out) hb); replace HB := Aside0.mk (below_step bel hb); (try clear hb); (try clear ho0); obtain ⟨hcz61_0, hcz61_1, hfz61_0, hfz61_1⟩ := cf2 BK283.out; obtain ⟨Ao62, co62, eo62⟩ := Kd.R_slice HO286.out; subst eo62) | ((with_reducible refine gate_callee (f := 25) rfl ?_); refine goesL_ (some 41) rfl rfl Try.func25 (by kernel_rfl) rfl #[.agg #[.int .i64 t279, .slice Ao59 t280.length co59], .int .i64 a1, .int .i64 a2, .slice Ao62 t284.length co62, .int .i64 a4] rfl ga ?_; (with_reducible refine (impl_IsCut.calls k t279 _ _ t280 a1 a2 _ _ t284 a4 t287 _ ?side1 ?side2 ?side3 ?side4 A18.out).mono ?_); (case side1 => exact ck (Kd.R_reads' HO282.out).2.2); (case side2 => exact (Kd.R_reads' HO282.out).2.1); (case side3 => exact ck (Kd.R_reads' HO286.out).2.2); (case side4 => exact (Kd.R_reads' HO286.out).2.1); rintro e w63 ⟨rfl, hb⟩; refine ⟨_, rfl, ?_⟩; replace HO274 := Aside0.mk (Kd.R_below (rk HO274.out) hb); replace HO277 := Aside0.mk (Kd.R_below (rk HO277.out) hb); replace HO282 := Aside0.mk (Kd.R_below (rk HO282.out) hb); replace HO286 := Aside0.mk (Kd.R_below (rk HO286.out) hb); replace BK269 := Aside0.mk (bb BK269.out hb); replace BK283 := Aside0.mk (bb BK283.out hb); replace HB := Aside0.mk (below_step bel hb); (try clear hb)))
            replace HO274 := Aside0.mk (Kd.R_drew HO274.out)
            replace HO277 := Aside0.mk (Kd.R_drew HO277.out)
            replace HO282 := Aside0.mk (Kd.R_drew HO282.out)
            replace HO286 := Aside0.mk (Kd.R_drew HO286.out)
            replace BK269 := Aside0.mk (blk_drew BK269.out)
            replace BK283 := Aside0.mk (blk_drew BK283.out)
            replace HB := Aside0.mk (below_drew1 HB.out)
            refine start_ (n := 5) (S := fun w' => w'.cell? ⟨gb283, 0, none⟩ = some (.int .i64 t279) ∧ w'.cell? ⟨gb283, 1, none⟩ = some (.slice Ao59 t280.length co59) ∧ w'.cell? ⟨gb269, 0, none⟩ = some (.int .i64 a0_0) ∧ w'.cell? ⟨gb269, 1, none⟩ = some (.slice A0_1 l0_1.length c0_1)) (ds := []) #[false, false, false, false, false] (by kernel_rfl) rfl rfl ⟨(blk_cell BK283.out 0).trans rfl, (blk_cell BK283.out 1).trans rfl, (blk_cell BK269.out 0).trans rfl, (blk_cell BK269.out 1).trans rfl⟩ (fun hHeld => ?_)
            generalize w63.drew = w64 at HO274 HO277 HO282 HO286 BK269 BK283 HB hHeld ⊢
            refine take_ (i := 0) (N := some 45) (v := ?_) (a' := ?_) #[true, false, false, false, false] rfl rfl (by kernel_rfl) (fun _ _ _ h => h) (Or.inl ⟨by rfl, ?_⟩) hHeld ?_ ?_
            rotate_left
            · rintro w' ⟨s0, s1, s2, s3⟩
              go_simp
              with_reducible rfl
            rotate_left
            · simp only [Act.put, List.setIfInBounds_toArray, List.set_cons_zero, List.set_cons_succ, i64_w, i32_w]
              rfl
            refine take_ (i := 1) (N := some 46) (v := ?_) (a' := ?_) #[true, true, false, false, false] rfl rfl (by kernel_rfl) (fun _ _ _ h => h) (Or.inl ⟨by rfl, ?_⟩) hHeld ?_ ?_
            rotate_left
            · rintro w' ⟨s0, s1, s2, s3⟩
              go_simp
              with_reducible rfl
            rotate_left
            · simp only [Act.put, List.setIfInBounds_toArray, List.set_cons_zero, List.set_cons_succ, i64_w, i32_w]
              rfl
            refine one_ (i := 2) (N := some 47) #[true, true, true, false, false] rfl rfl (by kernel_rfl) (by decide) (fun K hK => ?_)
            refine goes_ Try.func13 (by kernel_rfl) rfl #[.agg #[.int .i64 a0_0, .slice A0_1 l0_1.length c0_1]] (by rfl) rfl rfl ga ?_
            with_reducible refine (laws_toNet.calls k a0_0 _ _ l0_1 t288 t289 _ ?side1 ?side2 A39.out).mono ?_
            (case side1 => exact ck (Kd.C_below HR0_1.out HB.out))
            (case side2 => exact HC0_1.out)
            rintro e w65 ⟨v290, rfl, ho0, hb⟩
            refine ⟨_, rfl, ?_⟩
            have HO291 := Aside0.mk (Kd.R_lower (Kd.R_new' (Kd.R_new' ho0 (Kd.R_lt (rk HO274.out))) (Kd.R_lt (rk HO282.out))) (below_size bel))
            replace HO274 := Aside0.mk (Kd.R_elder' (rk HO274.out) (Kd.R_base ho0) hb)
            replace HO277 := Aside0.mk (Kd.R_below (rk HO277.out) hb)
            replace HO282 := Aside0.mk (Kd.R_elder' (rk HO282.out) (Kd.R_base ho0) hb)
            replace HO286 := Aside0.mk (Kd.R_below (rk HO286.out) hb)
            replace BK269 := Aside0.mk (bb BK269.out hb)
            replace BK283 := Aside0.mk (bb BK283.out hb)
            replace HB := Aside0.mk (below_step bel hb)
            (try clear hb)
            (try clear hb2)
            (try clear hk)
            (try clear hi)
            (try clear ho0)
            obtain ⟨Ao66, co66, eo66⟩ := Kd.R_slice HO291.out
            (first | subst eo66 | (injection eo66 with f1_ f2_ f3_; have f4_ := f1_.symm; have f5_ := f3_.symm; clear f1_ f2_ f3_; subst f4_; subst f5_))
            refine hK.out _ _ ⟨(blk_cell BK283.out 0).trans rfl, (blk_cell BK283.out 1).trans rfl, (blk_cell BK269.out 0).trans rfl, (blk_cell BK269.out 1).trans rfl⟩ (fun hHeld => ?_)
            clear hK K
            refine norm_ (a' := ?_) ?_ ?_
            rotate_left
            · show Act.put _ (some 47) _ = _
              simp only [Act.put, List.setIfInBounds_toArray, List.set_cons_zero, List.set_cons_succ, i64_w, i32_w]
              rfl
            refine one_ (i := 3) (N := some 48) #[true, true, true, true, false] rfl rfl (by kernel_rfl) (by decide) (fun K hK => ?_)
            refine goes_ Try.func15 (by kernel_rfl) rfl #[.agg #[.int .i64 t279, .slice Ao59 t280.length co59], .agg #[.int .i64 t288, .slice Ao66 t289.length co66]] (by rfl) rfl rfl ga ?_
            with_reducible refine (laws_eqNet.calls k t279 _ _ t280 t288 _ _ t289 true _ ?side1 ?side2 ?side3 ?side4 A40.out).mono ?_
            (case side1 => exact ck (Kd.R_reads' HO282.out).2.2)
            (case side2 => exact (Kd.R_reads' HO282.out).2.1)
            (case side3 => exact ck (Kd.R_reads' HO291.out).2.2)
            (case side4 => exact (Kd.R_reads' HO291.out).2.1)
            rintro e w67 ⟨rfl, hb⟩
            refine ⟨_, rfl, ?_⟩
            replace HO274 := Aside0.mk (Kd.R_below (rk HO274.out) hb)
            replace HO277 := Aside0.mk (Kd.R_below (rk HO277.out) hb)
            replace HO282 := Aside0.mk (Kd.R_below (rk HO282.out) hb)
            replace HO286 := Aside0.mk (Kd.R_below (rk HO286.out) hb)
            replace HO291 := Aside0.mk (Kd.R_below (rk HO291.out) hb)
            replace BK269 := Aside0.mk (bb BK269.out hb)
            replace BK283 := Aside0.mk (bb BK283.out hb)
            replace HB := Aside0.mk (below_step bel hb)
            (try clear hb)
            (try clear hb2)
            (try clear hk)
            (try clear hi)
            refine hK.out _ _ ⟨(blk_cell BK283.out 0).trans rfl, (blk_cell BK283.out 1).trans rfl, (blk_cell BK269.out 0).trans rfl, (blk_cell BK269.out 1).trans rfl⟩ (fun hHeld => ?_)
            clear hK K
            refine norm_ (a' := ?_) ?_ ?_
            rotate_left
            · show Act.put _ (some 48) _ = _
              simp only [Act.put, List.setIfInBounds_toArray, List.set_cons_zero, List.set_cons_succ, i64_w, i32_w]
              rfl
            refine pure_ (i := 4) (N := some 49) (v := ?_) (a' := ?_) #[true, true, true, true, true] rfl rfl (by kernel_rfl) (fun _ _ _ h => h) (Or.inl ⟨by rfl, ?_⟩) ?_ ?_
            rotate_left
            · intro w'
              go_simp
              with_reducible rfl
            rotate_left
            · simp only [Act.put, List.setIfInBounds_toArray, List.set_cons_zero, List.set_cons_succ, i64_w, i32_w]
              rfl
            refine done_ (by kernel_rfl) ?_
            try go_wp2_with (first | ((with_reducible refine gate_callee (f := 21) rfl ?_); refine goesL_ (some 52) rfl rfl Try.func21 (by kernel_rfl) rfl #[.slice A3 l3.length c3] rfl ga ?_; (with_reducible refine (laws_toBoolS.calls k _ _ l3 t293 _ ?side1 ?side2 A42.out).mono ?_); (case side1 => exact ck (Kd.C_below HR3.out HB.out)); (case side2 => exact HC3.out); rintro e w68 ⟨v294, rfl, ho0, hb⟩; refine ⟨_, rfl, ?_⟩; have HO295 := Aside0.mk (Kd.R_lower (Kd.R_new' (Kd.R_new' ho0 (Kd.R_lt (rk HO277.out))) (Kd.R_lt (rk HO286.out))) (below_size bel)); replace HO274 := Aside0.mk (Kd.R_below (rk HO274.out) hb); replace HO277 := Aside0.mk (Kd.R_elder' (rk HO277.out) (Kd.R_base ho0) hb); replace HO282 := Aside0.mk (Kd.R_below (rk HO282.out) hb); replace HO286 := Aside0.mk (Kd.R_elder' (rk HO286.out) (Kd.R_base ho0) hb); replace HO291 := Aside0.mk (Kd.R_below (rk HO291.out) hb); replace BK269 := Aside0.mk (bb BK269.out hb); replace BK283 := Aside0.mk (bb BK283.out hb); replace HB := Aside0.mk (below_step bel hb); (try clear hb); (try clear ho0); obtain ⟨Ao69, co69, eo69⟩ := Kd.R_slice HO295.out; subst eo69) | ((with_reducible refine gate_callee (f := 23) rfl ?_); refine goesL_ (some 53) rfl rfl Try.func23 (by kernel_rfl) rfl #[.slice Ao62 t284.length co62, .slice Ao69 t293.length co69] rfl ga ?_; (with_reducible refine (laws_eqBoolS.calls k _ _ t284 _ _ t293 true _ ?side1 ?side2 ?side3 ?side4 A43.out).mono ?_); (case side1 => exact ck (Kd.R_reads' HO286.out).2.2); (case side2 => exact (Kd.R_reads' HO286.out).2.1); (case side3 => exact ck (Kd.R_reads' HO295.out).2.2); (case side4 => exact (Kd.R_reads' HO295.out).2.1); rintro e w' ⟨rfl, ⟨nd, rfl⟩⟩; refine ⟨_, rfl, ?_⟩))
            go_ret
            exact ⟨er, bel⟩
          · replace c44 := Bool.eq_false_iff.mpr c44
            subst c44
            have H1 : (some false) = some r := by rw [if_neg (show ¬ (false = true) by decide)] at H; exact H
            clear H
            have H := H1
            clear H1
            obtain rfl := Option.some.inj H
            go_enter Try.func6, Try.ntmps6
            try go_wp2_with (first | ((with_reducible refine gate_dst (N := 5) rfl ?_); refine box_event ?hg (N := 5) ?hd (cs := #[.int .i64 a0_0, .slice A0_1 l0_1.length c0_1]) (t := 24) ?hr ?_; (case hd => rfl); (case hg => rfl); (case hr => first | (go_simp; done) | (go_simp; rfl)); intro gb269 hg w70 hbox hb; have BK269 := Aside0.mk (hbox); have GW269 := Aside0.mk ((bsz hg : w.heap.size ≤ gb269)); have GE269 := Aside0.mk ((bsz hg : w.heap.size ≤ gb269)); replace HB := Aside0.mk (below_step bel hb); clear hb hbox hg; obtain ⟨hcz71_0, hcz71_1, hfz71_0, hfz71_1⟩ := cf2 BK269.out) | ((with_reducible refine gate_callee (f := 11) rfl ?_); refine goesL_ (some 21) rfl rfl Try.func11 (by kernel_rfl) rfl #[.agg #[.int .i64 a0_0, .slice A0_1 l0_1.length c0_1], .int .i64 1048576] rfl ga ?_; (with_reducible refine (laws_szNet.calls a0_0 _ _ l0_1 1048576 t270 _ ?side1 ?side2 A8.out).mono ?_); (case side1 => exact ck (Kd.C_below HR0_1.out HB.out)); (case side2 => exact HC0_1.out); rintro e w72 ⟨rfl, hb⟩; refine ⟨_, rfl, ?_⟩; replace BK269 := Aside0.mk (bb BK269.out hb); replace HB := Aside0.mk (below_step bel hb); (try clear hb); obtain ⟨hcz73_0, hcz73_1, hfz73_0, hfz73_1⟩ := cf2 BK269.out) | ((with_reducible refine gate_callee (f := 13) rfl ?_); refine goesL_ (some 25) rfl rfl Try.func13 (by kernel_rfl) rfl #[.agg #[.int .i64 a0_0, .slice A0_1 l0_1.length c0_1]] rfl ga ?_; (with_reducible refine (laws_toNet.calls k a0_0 _ _ l0_1 t271 t272 _ ?side1 ?side2 A13.out).mono ?_); (case side1 => exact ck (Kd.C_below HR0_1.out HB.out)); (case side2 => exact HC0_1.out); rintro e w74 ⟨v273, rfl, ho0, hb⟩; refine ⟨_, rfl, ?_⟩; have HO274 := Aside0.mk (Kd.R_lower ho0 (below_size bel)); replace BK269 := Aside0.mk (bb BK269.out hb); replace HB := Aside0.mk (below_step bel hb); (try clear hb); (try clear ho0)) | ((with_reducible refine gate_callee (f := 21) rfl ?_); refine goesL_ (some 29) rfl rfl Try.func21 (by kernel_rfl) rfl #[.slice A3 l3.length c3] rfl ga ?_; (with_reducible refine (laws_toBoolS.calls k _ _ l3 t275 _ ?side1 ?side2 A14.out).mono ?_); (case side1 => exact ck (Kd.C_below HR3.out HB.out)); (case side2 => exact HC3.out); rintro e w75 ⟨v276, rfl, ho0, hb⟩; refine ⟨_, rfl, ?_⟩; have HO277 := Aside0.mk (Kd.R_lower ho0 (below_size bel)); replace HO274 := Aside0.mk (Kd.R_below (rk HO274.out) hb); replace BK269 := Aside0.mk (bb BK269.out hb); replace HB := Aside0.mk (below_step bel hb); (try clear hb); (try clear ho0); obtain ⟨Ao76, co76, eo76⟩ := Kd.R_slice HO274.out; subst eo76; obtain ⟨Ao77, co77, eo77⟩ := Kd.R_slice HO277.out; subst eo77) | ((with_reducible refine gate_callee (f := 24) rfl ?_); refine goesL_ (some 31) rfl rfl Try.func24 (by kernel_rfl) rfl #[.agg #[.int .i64 t271, .slice Ao76 t272.length co76], .int .i64 a1, .int .i64 a2, .slice Ao77 t275.length co77, .int .i64 a4] rfl ga ?_; (with_reducible refine (spec_IsCut.calls k t271 _ _ t272 a1 a2 _ _ t275 a4 t278 _ ?side1 ?side2 ?side3 ?side4 A15.out).mono ?_); (case side1 => exact ck (Kd.R_reads' HO274.out).2.2); (case side2 => exact (Kd.R_reads' HO274.out).2.1); (case side3 => exact ck (Kd.R_reads' HO277.out).2.2); (case side4 => exact (Kd.R_reads' HO277.out).2.1); rintro e w78 ⟨rfl, hb⟩; refine ⟨_, rfl, ?_⟩; replace HO274 := Aside0.mk (Kd.R_below (rk HO274.out) hb); replace HO277 := Aside0.mk (Kd.R_below (rk HO277.out) hb); replace BK269 := Aside0.mk (bb BK269.out hb); replace HB := Aside0.mk (below_step bel hb); (try clear hb); obtain ⟨hcz79_0, hcz79_1, hfz79_0, hfz79_1⟩ := cf2 BK269.out) | ((with_reducible refine gate_callee (f := 13) rfl ?_); refine goesL_ (some 33) rfl rfl Try.func13 (by kernel_rfl) rfl #[.agg #[.int .i64 a0_0, .slice A0_1 l0_1.length c0_1]] rfl ga ?_; (with_reducible refine (laws_toNet.calls k a0_0 _ _ l0_1 t279 t280 _ ?side1 ?side2 A16.out).mono ?_); (case side1 => exact ck (Kd.C_below HR0_1.out HB.out)); (case side2 => exact HC0_1.out); rintro e w80 ⟨v281, rfl, ho0, hb⟩; refine ⟨_, rfl, ?_⟩; have HO282 := Aside0.mk (Kd.R_lower (Kd.R_new' ho0 (Kd.R_lt (rk HO274.out))) (below_size bel)); replace HO274 := Aside0.mk (Kd.R_elder' (rk HO274.out) (Kd.R_base ho0) hb); replace HO277 := Aside0.mk (Kd.R_below (rk HO277.out) hb); replace BK269 := Aside0.mk (bb BK269.out hb); replace HB := Aside0.mk (below_step bel hb); (try clear hb); (try clear ho0)) | ((with_reducible refine gate_dst (N := 13) rfl ?_); refine box_event ?hg (N := 13) ?hd (cs := #[.int .i64 0, .slice none 0 0]) (t := 29) ?hr ?_; (case hd => rfl); (case hg => rfl); (case hr => first | (go_simp; done) | (go_simp; rfl)); intro gb283 hg w81 hbox hb; have BK283 := Aside0.mk (hbox); have GW283 := Aside0.mk ((bsz hg : w.heap.size ≤ gb283)); have GE283 := Aside0.mk ((bsz hg : w.heap.size ≤ gb283)); have NB269_283 := Aside0.mk ((nlt hg BK269.out : gb269 ≠ gb283)); have NB283_269 := Aside0.mk ((ngt hg BK269.out : gb283 ≠ gb269)); replace HO274 := Aside0.mk (Kd.R_below (rk HO274.out) hb); replace HO277 := Aside0.mk (Kd.R_below (rk HO277.out) hb); replace HO282 := Aside0.mk (Kd.R_below (rk HO282.out) hb); replace BK269 := Aside0.mk (bb BK269.out hb); replace HB := Aside0.mk (below_step bel hb); clear hb hbox hg; have hnb82 := NB283_269.out; have hnc82 := NB269_283.out; obtain ⟨hcz83_0, hcz83_1, hfz83_0, hfz83_1⟩ := cf2 BK283.out; obtain ⟨Ao84, co84, eo84⟩ := Kd.R_slice HO282.out; subst eo84) | ((with_reducible refine gate_callee (f := 21) rfl ?_); refine goesL_ (some 35) rfl rfl Try.func21 (by kernel_rfl) rfl #[.slice A3 l3.length c3] rfl ga ?_; (with_reducible refine (laws_toBoolS.calls k _ _ l3 t284 _ ?side1 ?side2 A17.out).mono ?_); (case side1 => exact Kd.C_below HR3.out bel); (case side2 => exact HC3.out); rintro e w85 ⟨v285, rfl, ho0, hb⟩; refine ⟨_, rfl, ?_⟩; have HO286 := Aside0.mk (Kd.R_lower (Kd.R_new' ho0 (Kd.R_lt (by exact rk (Kd.R_mono (Kd.R_far (p := ⟨gb283, 1, none⟩) (Kd.R_far (p := ⟨gb283, 0, none⟩) (Kd.R_types HO277.out BK283.out (by decide)) (fun _ hk => hk.2) (.int .i64 t279)) (fun _ hk => hk.2) (.slice Ao84 t280.length co84)) (fun _ h_ => h_.1))))) (below_size bel)); replace HO274 := Aside0.mk (Kd.R_below (by exact rk (Kd.R_mono (Kd.R_far (p := ⟨gb283, 1, none⟩) (Kd.R_far (p := ⟨gb283, 0, none⟩) (Kd.R_types HO274.out BK283.out (by decide)) (fun _ hk => hk.2) (.int .i64 t279)) (fun _ hk => hk.2) (.slice Ao84 t280.length co84)) (fun _ h_ => h_.1))) hb); replace HO277 := Aside0.mk (Kd.R_elder' (by exact rk (Kd.R_mono (Kd.R_far (p := ⟨gb283, 1, none⟩) (Kd.R_far (p := ⟨gb283, 0, none⟩) (Kd.R_types HO277.out BK283.out (by decide)) (fun _ hk => hk.2) (.int .i64 t279)) (fun _ hk => hk.2) (.slice Ao84 t280.length co84)) (fun _ h_ => h_.1))) (Kd.R_base ho0) hb); replace HO282 := Aside0.mk (Kd.R_below (by exact rk (Kd.R_mono (Kd.R_far (p := ⟨gb283, 1, none⟩) (Kd.R_far (p := ⟨gb283, 0, none⟩) (Kd.R_types HO282.out BK283.out (by decide)) (fun _ hk => hk.2) (.int .i64 t279)) (fun _ hk => hk.2) (.slice Ao84 t280.length co84)) (fun _ h_ => h_.1))) hb); replace BK269 := Aside0.mk (bb BK269.out hb); replace BK283 := Aside0.mk (blk_below (g := gb283) (o := .cells #[.int .i64 t279, .slice Ao84 t280.length co84] 29 (0, 0)) (by (with_reducible repeat (first | refine blk_drewN ?_ _ | refine blk_drew ?_ | refine blk_alloc ?_ _)); refine blk_put (cs := #[.int .i64 t279, .slice none 0 0]) ?_ 1 _ rfl; (with_reducible repeat (first | refine blk_drewN ?_ _ | refine blk_drew ?_ | refine blk_alloc ?_ _)); refine blk_put (cs := #[.int .i64 0, .slice none 0 0]) ?_ 0 _ rfl; (with_reducible repeat (first | refine blk_drewN ?_ _ | refine blk_drew ?_ | refine blk_alloc ?_ _)); exact BK283.out) hb); replace HB := Aside0.mk (below_step bel hb); (try clear hb); (try clear ho0); obtain ⟨hcz86_0, hcz86_1, hfz86_0, hfz86_1⟩ := cf2 BK283.out; obtain ⟨Ao87, co87, eo87⟩ := Kd.R_slice HO286.out; subst eo87) | ((with_reducible refine gate_callee (f := 25) rfl ?_); refine goesL_ (some 41) rfl rfl Try.func25 (by kernel_rfl) rfl #[.agg #[.int .i64 t279, .slice Ao84 t280.length co84], .int .i64 a1, .int .i64 a2, .slice Ao87 t284.length co87, .int .i64 a4] rfl ga ?_; (with_reducible refine (impl_IsCut.calls k t279 _ _ t280 a1 a2 _ _ t284 a4 t287 _ ?side1 ?side2 ?side3 ?side4 A18.out).mono ?_); (case side1 => exact ck (Kd.R_reads' HO282.out).2.2); (case side2 => exact (Kd.R_reads' HO282.out).2.1); (case side3 => exact ck (Kd.R_reads' HO286.out).2.2); (case side4 => exact (Kd.R_reads' HO286.out).2.1); rintro e w88 ⟨rfl, hb⟩; refine ⟨_, rfl, ?_⟩; replace HO274 := Aside0.mk (Kd.R_below (rk HO274.out) hb); replace HO277 := Aside0.mk (Kd.R_below (rk HO277.out) hb); replace HO282 := Aside0.mk (Kd.R_below (rk HO282.out) hb); replace HO286 := Aside0.mk (Kd.R_below (rk HO286.out) hb); replace BK269 := Aside0.mk (bb BK269.out hb); replace BK283 := Aside0.mk (bb BK283.out hb); replace HB := Aside0.mk (below_step bel hb); (try clear hb)))
            replace HO274 := Aside0.mk (Kd.R_drew HO274.out)
            replace HO277 := Aside0.mk (Kd.R_drew HO277.out)
            replace HO282 := Aside0.mk (Kd.R_drew HO282.out)
            replace HO286 := Aside0.mk (Kd.R_drew HO286.out)
            replace BK269 := Aside0.mk (blk_drew BK269.out)
            replace BK283 := Aside0.mk (blk_drew BK283.out)
            replace HB := Aside0.mk (below_drew1 HB.out)
            refine start_ (n := 5) (S := fun w' => w'.cell? ⟨gb283, 0, none⟩ = some (.int .i64 t279) ∧ w'.cell? ⟨gb283, 1, none⟩ = some (.slice Ao84 t280.length co84) ∧ w'.cell? ⟨gb269, 0, none⟩ = some (.int .i64 a0_0) ∧ w'.cell? ⟨gb269, 1, none⟩ = some (.slice A0_1 l0_1.length c0_1)) (ds := []) #[false, false, false, false, false] (by kernel_rfl) rfl rfl ⟨(blk_cell BK283.out 0).trans rfl, (blk_cell BK283.out 1).trans rfl, (blk_cell BK269.out 0).trans rfl, (blk_cell BK269.out 1).trans rfl⟩ (fun hHeld => ?_)
            generalize w88.drew = w89 at HO274 HO277 HO282 HO286 BK269 BK283 HB hHeld ⊢
            refine take_ (i := 0) (N := some 45) (v := ?_) (a' := ?_) #[true, false, false, false, false] rfl rfl (by kernel_rfl) (fun _ _ _ h => h) (Or.inl ⟨by rfl, ?_⟩) hHeld ?_ ?_
            rotate_left
            · rintro w' ⟨s0, s1, s2, s3⟩
              go_simp
              with_reducible rfl
            rotate_left
            · simp only [Act.put, List.setIfInBounds_toArray, List.set_cons_zero, List.set_cons_succ, i64_w, i32_w]
              rfl
            refine take_ (i := 1) (N := some 46) (v := ?_) (a' := ?_) #[true, true, false, false, false] rfl rfl (by kernel_rfl) (fun _ _ _ h => h) (Or.inl ⟨by rfl, ?_⟩) hHeld ?_ ?_
            rotate_left
            · rintro w' ⟨s0, s1, s2, s3⟩
              go_simp
              with_reducible rfl
            rotate_left
            · simp only [Act.put, List.setIfInBounds_toArray, List.set_cons_zero, List.set_cons_succ, i64_w, i32_w]
              rfl
            refine one_ (i := 2) (N := some 47) #[true, true, true, false, false] rfl rfl (by kernel_rfl) (by decide) (fun K hK => ?_)
            refine goes_ Try.func13 (by kernel_rfl) rfl #[.agg #[.int .i64 a0_0, .slice A0_1 l0_1.length c0_1]] (by rfl) rfl rfl ga ?_
            with_reducible refine (laws_toNet.calls k a0_0 _ _ l0_1 t288 t289 _ ?side1 ?side2 A39.out).mono ?_
            (case side1 => exact ck (Kd.C_below HR0_1.out HB.out))
            (case side2 => exact HC0_1.out)
            rintro e w90 ⟨v290, rfl, ho0, hb⟩
            refine ⟨_, rfl, ?_⟩
            have HO291 := Aside0.mk (Kd.R_lower (Kd.R_new' (Kd.R_new' ho0 (Kd.R_lt (rk HO274.out))) (Kd.R_lt (rk HO282.out))) (below_size bel))
            replace HO274 := Aside0.mk (Kd.R_elder' (rk HO274.out) (Kd.R_base ho0) hb)
            replace HO277 := Aside0.mk (Kd.R_below (rk HO277.out) hb)
            replace HO282 := Aside0.mk (Kd.R_elder' (rk HO282.out) (Kd.R_base ho0) hb)
            replace HO286 := Aside0.mk (Kd.R_below (rk HO286.out) hb)
            replace BK269 := Aside0.mk (bb BK269.out hb)
            replace BK283 := Aside0.mk (bb BK283.out hb)
            replace HB := Aside0.mk (below_step bel hb)
            (try clear hb)
            (try clear hb2)
            (try clear hk)
            (try clear hi)
            (try clear ho0)
            obtain ⟨Ao91, co91, eo91⟩ := Kd.R_slice HO291.out
            (first | subst eo91 | (injection eo91 with f1_ f2_ f3_; have f4_ := f1_.symm; have f5_ := f3_.symm; clear f1_ f2_ f3_; subst f4_; subst f5_))
            refine hK.out _ _ ⟨(blk_cell BK283.out 0).trans rfl, (blk_cell BK283.out 1).trans rfl, (blk_cell BK269.out 0).trans rfl, (blk_cell BK269.out 1).trans rfl⟩ (fun hHeld => ?_)
            clear hK K
            refine norm_ (a' := ?_) ?_ ?_
            rotate_left
            · show Act.put _ (some 47) _ = _
              simp only [Act.put, List.setIfInBounds_toArray, List.set_cons_zero, List.set_cons_succ, i64_w, i32_w]
              rfl
            refine one_ (i := 3) (N := some 48) #[true, true, true, true, false] rfl rfl (by kernel_rfl) (by decide) (fun K hK => ?_)
            refine goes_ Try.func15 (by kernel_rfl) rfl #[.agg #[.int .i64 t279, .slice Ao84 t280.length co84], .agg #[.int .i64 t288, .slice Ao91 t289.length co91]] (by rfl) rfl rfl ga ?_
            with_reducible refine (laws_eqNet.calls k t279 _ _ t280 t288 _ _ t289 true _ ?side1 ?side2 ?side3 ?side4 A40.out).mono ?_
            (case side1 => exact ck (Kd.R_reads' HO282.out).2.2)
            (case side2 => exact (Kd.R_reads' HO282.out).2.1)
            (case side3 => exact ck (Kd.R_reads' HO291.out).2.2)
            (case side4 => exact (Kd.R_reads' HO291.out).2.1)
            rintro e w92 ⟨rfl, hb⟩
            refine ⟨_, rfl, ?_⟩
            replace HO274 := Aside0.mk (Kd.R_below (rk HO274.out) hb)
            replace HO277 := Aside0.mk (Kd.R_below (rk HO277.out) hb)
            replace HO282 := Aside0.mk (Kd.R_below (rk HO282.out) hb)
            replace HO286 := Aside0.mk (Kd.R_below (rk HO286.out) hb)
            replace HO291 := Aside0.mk (Kd.R_below (rk HO291.out) hb)
            replace BK269 := Aside0.mk (bb BK269.out hb)
            replace BK283 := Aside0.mk (bb BK283.out hb)
            replace HB := Aside0.mk (below_step bel hb)
            (try clear hb)
            (try clear hb2)
            (try clear hk)
            (try clear hi)
            refine hK.out _ _ ⟨(blk_cell BK283.out 0).trans rfl, (blk_cell BK283.out 1).trans rfl, (blk_cell BK269.out 0).trans rfl, (blk_cell BK269.out 1).trans rfl⟩ (fun hHeld => ?_)
            clear hK K
            refine norm_ (a' := ?_) ?_ ?_
            rotate_left
            · show Act.put _ (some 48) _ = _
              simp only [Act.put, List.setIfInBounds_toArray, List.set_cons_zero, List.set_cons_succ, i64_w, i32_w]
              rfl
            refine pure_ (i := 4) (N := some 49) (v := ?_) (a' := ?_) #[true, true, true, true, true] rfl rfl (by kernel_rfl) (fun _ _ _ h => h) (Or.inl ⟨by rfl, ?_⟩) ?_ ?_
            rotate_left
            · intro w'
              go_simp
              with_reducible rfl
            rotate_left
            · simp only [Act.put, List.setIfInBounds_toArray, List.set_cons_zero, List.set_cons_succ, i64_w, i32_w]
              rfl
            refine done_ (by kernel_rfl) ?_
            try go_wp2_with (first | ((with_reducible refine gate_callee (f := 21) rfl ?_); refine goesL_ (some 52) rfl rfl Try.func21 (by kernel_rfl) rfl #[.slice A3 l3.length c3] rfl ga ?_; (with_reducible refine (laws_toBoolS.calls k _ _ l3 t293 _ ?side1 ?side2 A42.out).mono ?_); (case side1 => exact ck (Kd.C_below HR3.out HB.out)); (case side2 => exact HC3.out); rintro e w93 ⟨v294, rfl, ho0, hb⟩; refine ⟨_, rfl, ?_⟩; have HO295 := Aside0.mk (Kd.R_lower (Kd.R_new' (Kd.R_new' ho0 (Kd.R_lt (rk HO277.out))) (Kd.R_lt (rk HO286.out))) (below_size bel)); replace HO274 := Aside0.mk (Kd.R_below (rk HO274.out) hb); replace HO277 := Aside0.mk (Kd.R_elder' (rk HO277.out) (Kd.R_base ho0) hb); replace HO282 := Aside0.mk (Kd.R_below (rk HO282.out) hb); replace HO286 := Aside0.mk (Kd.R_elder' (rk HO286.out) (Kd.R_base ho0) hb); replace HO291 := Aside0.mk (Kd.R_below (rk HO291.out) hb); replace BK269 := Aside0.mk (bb BK269.out hb); replace BK283 := Aside0.mk (bb BK283.out hb); replace HB := Aside0.mk (below_step bel hb); (try clear hb); (try clear ho0); obtain ⟨Ao94, co94, eo94⟩ := Kd.R_slice HO295.out; subst eo94) | ((with_reducible refine gate_callee (f := 23) rfl ?_); refine goesL_ (some 53) rfl rfl Try.func23 (by kernel_rfl) rfl #[.slice Ao87 t284.length co87, .slice Ao94 t293.length co94] rfl ga ?_; (with_reducible refine (laws_eqBoolS.calls k _ _ t284 _ _ t293 false _ ?side1 ?side2 ?side3 ?side4 A43.out).mono ?_); (case side1 => exact ck (Kd.R_reads' HO286.out).2.2); (case side2 => exact (Kd.R_reads' HO286.out).2.1); (case side3 => exact ck (Kd.R_reads' HO295.out).2.2); (case side4 => exact (Kd.R_reads' HO295.out).2.1); rintro e w' ⟨rfl, ⟨nd, rfl⟩⟩; refine ⟨_, rfl, ?_⟩))
            go_ret
            exact ⟨er, bel⟩
        · replace c41 := Bool.eq_false_iff.mpr c41
          subst c41
          have H1 : (some false) = some r := by rw [if_neg (show ¬ (false = true) by decide)] at H; exact H
          clear H
          have H := H1
          clear H1
          obtain rfl := Option.some.inj H
          go_enter Try.func6, Try.ntmps6
          try go_wp2_with (first | ((with_reducible refine gate_dst (N := 5) rfl ?_); refine box_event ?hg (N := 5) ?hd (cs := #[.int .i64 a0_0, .slice A0_1 l0_1.length c0_1]) (t := 24) ?hr ?_; (case hd => rfl); (case hg => rfl); (case hr => first | (go_simp; done) | (go_simp; rfl)); intro gb269 hg w95 hbox hb; have BK269 := Aside0.mk (hbox); have GW269 := Aside0.mk ((bsz hg : w.heap.size ≤ gb269)); have GE269 := Aside0.mk ((bsz hg : w.heap.size ≤ gb269)); replace HB := Aside0.mk (below_step bel hb); clear hb hbox hg; obtain ⟨hcz96_0, hcz96_1, hfz96_0, hfz96_1⟩ := cf2 BK269.out) | ((with_reducible refine gate_callee (f := 11) rfl ?_); refine goesL_ (some 21) rfl rfl Try.func11 (by kernel_rfl) rfl #[.agg #[.int .i64 a0_0, .slice A0_1 l0_1.length c0_1], .int .i64 1048576] rfl ga ?_; (with_reducible refine (laws_szNet.calls a0_0 _ _ l0_1 1048576 t270 _ ?side1 ?side2 A8.out).mono ?_); (case side1 => exact ck (Kd.C_below HR0_1.out HB.out)); (case side2 => exact HC0_1.out); rintro e w97 ⟨rfl, hb⟩; refine ⟨_, rfl, ?_⟩; replace BK269 := Aside0.mk (bb BK269.out hb); replace HB := Aside0.mk (below_step bel hb); (try clear hb); obtain ⟨hcz98_0, hcz98_1, hfz98_0, hfz98_1⟩ := cf2 BK269.out) | ((with_reducible refine gate_callee (f := 13) rfl ?_); refine goesL_ (some 25) rfl rfl Try.func13 (by kernel_rfl) rfl #[.agg #[.int .i64 a0_0, .slice A0_1 l0_1.length c0_1]] rfl ga ?_; (with_reducible refine (laws_toNet.calls k a0_0 _ _ l0_1 t271 t272 _ ?side1 ?side2 A13.out).mono ?_); (case side1 => exact ck (Kd.C_below HR0_1.out HB.out)); (case side2 => exact HC0_1.out); rintro e w99 ⟨v273, rfl, ho0, hb⟩; refine ⟨_, rfl, ?_⟩; have HO274 := Aside0.mk (Kd.R_lower ho0 (below_size bel)); replace BK269 := Aside0.mk (bb BK269.out hb); replace HB := Aside0.mk (below_step bel hb); (try clear hb); (try clear ho0)) | ((with_reducible refine gate_callee (f := 21) rfl ?_); refine goesL_ (some 29) rfl rfl Try.func21 (by kernel_rfl) rfl #[.slice A3 l3.length c3] rfl ga ?_; (with_reducible refine (laws_toBoolS.calls k _ _ l3 t275 _ ?side1 ?side2 A14.out).mono ?_); (case side1 => exact ck (Kd.C_below HR3.out HB.out)); (case side2 => exact HC3.out); rintro e w100 ⟨v276, rfl, ho0, hb⟩; refine ⟨_, rfl, ?_⟩; have HO277 := Aside0.mk (Kd.R_lower ho0 (below_size bel)); replace HO274 := Aside0.mk (Kd.R_below (rk HO274.out) hb); replace BK269 := Aside0.mk (bb BK269.out hb); replace HB := Aside0.mk (below_step bel hb); (try clear hb); (try clear ho0); obtain ⟨Ao101, co101, eo101⟩ := Kd.R_slice HO274.out; subst eo101; obtain ⟨Ao102, co102, eo102⟩ := Kd.R_slice HO277.out; subst eo102) | ((with_reducible refine gate_callee (f := 24) rfl ?_); refine goesL_ (some 31) rfl rfl Try.func24 (by kernel_rfl) rfl #[.agg #[.int .i64 t271, .slice Ao101 t272.length co101], .int .i64 a1, .int .i64 a2, .slice Ao102 t275.length co102, .int .i64 a4] rfl ga ?_; (with_reducible refine (spec_IsCut.calls k t271 _ _ t272 a1 a2 _ _ t275 a4 t278 _ ?side1 ?side2 ?side3 ?side4 A15.out).mono ?_); (case side1 => exact ck (Kd.R_reads' HO274.out).2.2); (case side2 => exact (Kd.R_reads' HO274.out).2.1); (case side3 => exact ck (Kd.R_reads' HO277.out).2.2); (case side4 => exact (Kd.R_reads' HO277.out).2.1); rintro e w103 ⟨rfl, hb⟩; refine ⟨_, rfl, ?_⟩; replace HO274 := Aside0.mk (Kd.R_below (rk HO274.out) hb); replace HO277 := Aside0.mk (Kd.R_below (rk HO277.out) hb); replace BK269 := Aside0.mk (bb BK269.out hb); replace HB := Aside0.mk (below_step bel hb); (try clear hb); obtain ⟨hcz104_0, hcz104_1, hfz104_0, hfz104_1⟩ := cf2 BK269.out) | ((with_reducible refine gate_callee (f := 13) rfl ?_); refine goesL_ (some 33) rfl rfl Try.func13 (by kernel_rfl) rfl #[.agg #[.int .i64 a0_0, .slice A0_1 l0_1.length c0_1]] rfl ga ?_; (with_reducible refine (laws_toNet.calls k a0_0 _ _ l0_1 t279 t280 _ ?side1 ?side2 A16.out).mono ?_); (case side1 => exact ck (Kd.C_below HR0_1.out HB.out)); (case side2 => exact HC0_1.out); rintro e w105 ⟨v281, rfl, ho0, hb⟩; refine ⟨_, rfl, ?_⟩; have HO282 := Aside0.mk (Kd.R_lower (Kd.R_new' ho0 (Kd.R_lt (rk HO274.out))) (below_size bel)); replace HO274 := Aside0.mk (Kd.R_elder' (rk HO274.out) (Kd.R_base ho0) hb); replace HO277 := Aside0.mk (Kd.R_below (rk HO277.out) hb); replace BK269 := Aside0.mk (bb BK269.out hb); replace HB := Aside0.mk (below_step bel hb); (try clear hb); (try clear ho0)) | ((with_reducible refine gate_dst (N := 13) rfl ?_); refine box_event ?hg (N := 13) ?hd (cs := #[.int .i64 0, .slice none 0 0]) (t := 29) ?hr ?_; (case hd => rfl); (case hg => rfl); (case hr => first | (go_simp; done) | (go_simp; rfl)); intro gb283 hg w106 hbox hb; have BK283 := Aside0.mk (hbox); have GW283 := Aside0.mk ((bsz hg : w.heap.size ≤ gb283)); have GE283 := Aside0.mk ((bsz hg : w.heap.size ≤ gb283)); have NB269_283 := Aside0.mk ((nlt hg BK269.out : gb269 ≠ gb283)); have NB283_269 := Aside0.mk ((ngt hg BK269.out : gb283 ≠ gb269)); replace HO274 := Aside0.mk (Kd.R_below (rk HO274.out) hb); replace HO277 := Aside0.mk (Kd.R_below (rk HO277.out) hb); replace HO282 := Aside0.mk (Kd.R_below (rk HO282.out) hb); replace BK269 := Aside0.mk (bb BK269.out hb); replace HB := Aside0.mk (below_step bel hb); clear hb hbox hg; have hnb107 := NB283_269.out; have hnc107 := NB269_283.out; obtain ⟨hcz108_0, hcz108_1, hfz108_0, hfz108_1⟩ := cf2 BK283.out; obtain ⟨Ao109, co109, eo109⟩ := Kd.R_slice HO282.out; subst eo109) | ((with_reducible refine gate_callee (f := 21) rfl ?_); refine goesL_ (some 35) rfl rfl Try.func21 (by kernel_rfl) rfl #[.slice A3 l3.length c3] rfl ga ?_; (with_reducible refine (laws_toBoolS.calls k _ _ l3 t284 _ ?side1 ?side2 A17.out).mono ?_); (case side1 => exact Kd.C_below HR3.out bel); (case side2 => exact HC3.out); rintro e w110 ⟨v285, rfl, ho0, hb⟩; refine ⟨_, rfl, ?_⟩; have HO286 := Aside0.mk (Kd.R_lower (Kd.R_new' ho0 (Kd.R_lt (by exact rk (Kd.R_mono (Kd.R_far (p := ⟨gb283, 1, none⟩) (Kd.R_far (p := ⟨gb283, 0, none⟩) (Kd.R_types HO277.out BK283.out (by decide)) (fun _ hk => hk.2) (.int .i64 t279)) (fun _ hk => hk.2) (.slice Ao109 t280.length co109)) (fun _ h_ => h_.1))))) (below_size bel)); replace HO274 := Aside0.mk (Kd.R_below (by exact rk (Kd.R_mono (Kd.R_far (p := ⟨gb283, 1, none⟩) (Kd.R_far (p := ⟨gb283, 0, none⟩) (Kd.R_types HO274.out BK283.out (by decide)) (fun _ hk => hk.2) (.int .i64 t279)) (fun _ hk => hk.2) (.slice Ao109 t280.length co109)) (fun _ h_ => h_.1))) hb); replace HO277 := Aside0.mk (Kd.R_elder' (by exact rk (Kd.R_mono (Kd.R_far (p := ⟨gb283, 1, none⟩) (Kd.R_far (p := ⟨gb283, 0, none⟩) (Kd.R_types HO277.out BK283.out (by decide)) (fun _ hk => hk.2) (.int .i64 t279)) (fun _ hk => hk.2) (.slice Ao109 t280.length co109)) (fun _ h_ => h_.1))) (Kd.R_base ho0) hb); replace HO282 := Aside0.mk (Kd.R_below (by exact rk (Kd.R_mono (Kd.R_far (p := ⟨gb283, 1, none⟩) (Kd.R_far (p := ⟨gb283, 0, none⟩) (Kd.R_types HO282.out BK283.out (by decide)) (fun _ hk => hk.2) (.int .i64 t279)) (fun _ hk => hk.2) (.slice Ao109 t280.length co109)) (fun _ h_ => h_.1))) hb); replace BK269 := Aside0.mk (bb BK269.out hb); replace BK283 := Aside0.mk (blk_below (g := gb283) (o := .cells #[.int .i64 t279, .slice Ao109 t280.length co109] 29 (0, 0)) (by (with_reducible repeat (first | refine blk_drewN ?_ _ | refine blk_drew ?_ | refine blk_alloc ?_ _)); refine blk_put (cs := #[.int .i64 t279, .slice none 0 0]) ?_ 1 _ rfl; (with_reducible repeat (first | refine blk_drewN ?_ _ | refine blk_drew ?_ | refine blk_alloc ?_ _)); refine blk_put (cs := #[.int .i64 0, .slice none 0 0]) ?_ 0 _ rfl; (with_reducible repeat (first | refine blk_drewN ?_ _ | refine blk_drew ?_ | refine blk_alloc ?_ _)); exact BK283.out) hb); replace HB := Aside0.mk (below_step bel hb); (try clear hb); (try clear ho0); obtain ⟨hcz111_0, hcz111_1, hfz111_0, hfz111_1⟩ := cf2 BK283.out; obtain ⟨Ao112, co112, eo112⟩ := Kd.R_slice HO286.out; subst eo112) | ((with_reducible refine gate_callee (f := 25) rfl ?_); refine goesL_ (some 41) rfl rfl Try.func25 (by kernel_rfl) rfl #[.agg #[.int .i64 t279, .slice Ao109 t280.length co109], .int .i64 a1, .int .i64 a2, .slice Ao112 t284.length co112, .int .i64 a4] rfl ga ?_; (with_reducible refine (impl_IsCut.calls k t279 _ _ t280 a1 a2 _ _ t284 a4 t287 _ ?side1 ?side2 ?side3 ?side4 A18.out).mono ?_); (case side1 => exact ck (Kd.R_reads' HO282.out).2.2); (case side2 => exact (Kd.R_reads' HO282.out).2.1); (case side3 => exact ck (Kd.R_reads' HO286.out).2.2); (case side4 => exact (Kd.R_reads' HO286.out).2.1); rintro e w113 ⟨rfl, hb⟩; refine ⟨_, rfl, ?_⟩; replace HO274 := Aside0.mk (Kd.R_below (rk HO274.out) hb); replace HO277 := Aside0.mk (Kd.R_below (rk HO277.out) hb); replace HO282 := Aside0.mk (Kd.R_below (rk HO282.out) hb); replace HO286 := Aside0.mk (Kd.R_below (rk HO286.out) hb); replace BK269 := Aside0.mk (bb BK269.out hb); replace BK283 := Aside0.mk (bb BK283.out hb); replace HB := Aside0.mk (below_step bel hb); (try clear hb)))
          replace HO274 := Aside0.mk (Kd.R_drew HO274.out)
          replace HO277 := Aside0.mk (Kd.R_drew HO277.out)
          replace HO282 := Aside0.mk (Kd.R_drew HO282.out)
          replace HO286 := Aside0.mk (Kd.R_drew HO286.out)
          replace BK269 := Aside0.mk (blk_drew BK269.out)
          replace BK283 := Aside0.mk (blk_drew BK283.out)
          replace HB := Aside0.mk (below_drew1 HB.out)
          refine start_ (n := 5) (S := fun w' => w'.cell? ⟨gb283, 0, none⟩ = some (.int .i64 t279) ∧ w'.cell? ⟨gb283, 1, none⟩ = some (.slice Ao109 t280.length co109) ∧ w'.cell? ⟨gb269, 0, none⟩ = some (.int .i64 a0_0) ∧ w'.cell? ⟨gb269, 1, none⟩ = some (.slice A0_1 l0_1.length c0_1)) (ds := []) #[false, false, false, false, false] (by kernel_rfl) rfl rfl ⟨(blk_cell BK283.out 0).trans rfl, (blk_cell BK283.out 1).trans rfl, (blk_cell BK269.out 0).trans rfl, (blk_cell BK269.out 1).trans rfl⟩ (fun hHeld => ?_)
          generalize w113.drew = w114 at HO274 HO277 HO282 HO286 BK269 BK283 HB hHeld ⊢
          refine take_ (i := 0) (N := some 45) (v := ?_) (a' := ?_) #[true, false, false, false, false] rfl rfl (by kernel_rfl) (fun _ _ _ h => h) (Or.inl ⟨by rfl, ?_⟩) hHeld ?_ ?_
          rotate_left
          · rintro w' ⟨s0, s1, s2, s3⟩
            go_simp
            with_reducible rfl
          rotate_left
          · simp only [Act.put, List.setIfInBounds_toArray, List.set_cons_zero, List.set_cons_succ, i64_w, i32_w]
            rfl
          refine take_ (i := 1) (N := some 46) (v := ?_) (a' := ?_) #[true, true, false, false, false] rfl rfl (by kernel_rfl) (fun _ _ _ h => h) (Or.inl ⟨by rfl, ?_⟩) hHeld ?_ ?_
          rotate_left
          · rintro w' ⟨s0, s1, s2, s3⟩
            go_simp
            with_reducible rfl
          rotate_left
          · simp only [Act.put, List.setIfInBounds_toArray, List.set_cons_zero, List.set_cons_succ, i64_w, i32_w]
            rfl
          refine one_ (i := 2) (N := some 47) #[true, true, true, false, false] rfl rfl (by kernel_rfl) (by decide) (fun K hK => ?_)
          refine goes_ Try.func13 (by kernel_rfl) rfl #[.agg #[.int .i64 a0_0, .slice A0_1 l0_1.length c0_1]] (by rfl) rfl rfl ga ?_
          with_reducible refine (laws_toNet.calls k a0_0 _ _ l0_1 t288 t289 _ ?side1 ?side2 A39.out).mono ?_
          (case side1 => exact ck (Kd.C_below HR0_1.out HB.out))
          (case side2 => exact HC0_1.out)
          rintro e w115 ⟨v290, rfl, ho0, hb⟩
          refine ⟨_, rfl, ?_⟩
          have HO291 := Aside0.mk (Kd.R_lower (Kd.R_new' (Kd.R_new' ho0 (Kd.R_lt (rk HO274.out))) (Kd.R_lt (rk HO282.out))) (below_size bel))
          replace HO274 := Aside0.mk (Kd.R_elder' (rk HO274.out) (Kd.R_base ho0) hb)
          replace HO277 := Aside0.mk (Kd.R_below (rk HO277.out) hb)
          replace HO282 := Aside0.mk (Kd.R_elder' (rk HO282.out) (Kd.R_base ho0) hb)
          replace HO286 := Aside0.mk (Kd.R_below (rk HO286.out) hb)
          replace BK269 := Aside0.mk (bb BK269.out hb)
          replace BK283 := Aside0.mk (bb BK283.out hb)
          replace HB := Aside0.mk (below_step bel hb)
          (try clear hb)
          (try clear hb2)
          (try clear hk)
          (try clear hi)
          (try clear ho0)
          obtain ⟨Ao116, co116, eo116⟩ := Kd.R_slice HO291.out
          (first | subst eo116 | (injection eo116 with f1_ f2_ f3_; have f4_ := f1_.symm; have f5_ := f3_.symm; clear f1_ f2_ f3_; subst f4_; subst f5_))
          refine hK.out _ _ ⟨(blk_cell BK283.out 0).trans rfl, (blk_cell BK283.out 1).trans rfl, (blk_cell BK269.out 0).trans rfl, (blk_cell BK269.out 1).trans rfl⟩ (fun hHeld => ?_)
          clear hK K
          refine norm_ (a' := ?_) ?_ ?_
          rotate_left
          · show Act.put _ (some 47) _ = _
            simp only [Act.put, List.setIfInBounds_toArray, List.set_cons_zero, List.set_cons_succ, i64_w, i32_w]
            rfl
          refine one_ (i := 3) (N := some 48) #[true, true, true, true, false] rfl rfl (by kernel_rfl) (by decide) (fun K hK => ?_)
          refine goes_ Try.func15 (by kernel_rfl) rfl #[.agg #[.int .i64 t279, .slice Ao109 t280.length co109], .agg #[.int .i64 t288, .slice Ao116 t289.length co116]] (by rfl) rfl rfl ga ?_
          with_reducible refine (laws_eqNet.calls k t279 _ _ t280 t288 _ _ t289 false _ ?side1 ?side2 ?side3 ?side4 A40.out).mono ?_
          (case side1 => exact ck (Kd.R_reads' HO282.out).2.2)
          (case side2 => exact (Kd.R_reads' HO282.out).2.1)
          (case side3 => exact ck (Kd.R_reads' HO291.out).2.2)
          (case side4 => exact (Kd.R_reads' HO291.out).2.1)
          rintro e w117 ⟨rfl, hb⟩
          refine ⟨_, rfl, ?_⟩
          replace HO274 := Aside0.mk (Kd.R_below (rk HO274.out) hb)
          replace HO277 := Aside0.mk (Kd.R_below (rk HO277.out) hb)
          replace HO282 := Aside0.mk (Kd.R_below (rk HO282.out) hb)
          replace HO286 := Aside0.mk (Kd.R_below (rk HO286.out) hb)
          replace HO291 := Aside0.mk (Kd.R_below (rk HO291.out) hb)
          replace BK269 := Aside0.mk (bb BK269.out hb)
          replace BK283 := Aside0.mk (bb BK283.out hb)
          replace HB := Aside0.mk (below_step bel hb)
          (try clear hb)
          (try clear hb2)
          (try clear hk)
          (try clear hi)
          refine hK.out _ _ ⟨(blk_cell BK283.out 0).trans rfl, (blk_cell BK283.out 1).trans rfl, (blk_cell BK269.out 0).trans rfl, (blk_cell BK269.out 1).trans rfl⟩ (fun hHeld => ?_)
          clear hK K
          refine norm_ (a' := ?_) ?_ ?_
          rotate_left
          · show Act.put _ (some 48) _ = _
            simp only [Act.put, List.setIfInBounds_toArray, List.set_cons_zero, List.set_cons_succ, i64_w, i32_w]
            rfl
          refine pure_ (i := 4) (N := some 49) (v := ?_) (a' := ?_) #[true, true, true, true, true] rfl rfl (by kernel_rfl) (fun _ _ _ h => h) (Or.inl ⟨by rfl, ?_⟩) ?_ ?_
          rotate_left
          · intro w'
            go_simp
            with_reducible rfl
          rotate_left
          · simp only [Act.put, List.setIfInBounds_toArray, List.set_cons_zero, List.set_cons_succ, i64_w, i32_w]
            rfl
          refine done_ (by kernel_rfl) ?_
          try go_wp2
          go_ret
          exact ⟨er, bel⟩

end Go.Proofs.Yteaemblallbgpaa.X
