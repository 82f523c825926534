-- Written by a program of this session (wip/xp.py, over the kit's print) out of the translation: functions, and the walks that show them.
import Derived.Test.YteaemblallbgpaaX0
import Derived.Test.YteaemblallbgpaaX1
import Derived.Test.YteaemblallbgpaaX3
import Derived.Test.YteaemblallbgpaaX6
import Derived.Test.YteaemblallbgpaaX13
import Derived.Test.YteaemblallbgpaaX14
import Derived.Test.YteaemblallbgpaaX15
import Derived.Test.YteaemblallbgpaaX16
namespace Go.Proofs.Yteaemblallbgpaa.X
open Go.RowKit Go.Proofs.YteaemblallbgpaaW.PrintWords Go.Proofs.YteaemblallbgpaaW.PrintLast Go.Proofs.YteaemblallbgpaaW.PrintMore
attribute [local go_sem] max2_int min2_int max_two min_two max_three min_three max_four min_four   -- for this text's walks alone
set_option linter.unusedVariables false
set_option linter.unusedSimpArgs false

/-! ### laws_FnExactCutLimit: function 5 -/
def laws_FnExactCutLimit.f (k : Nat) (a0_0 : Int) (l0_1 : List (S77)) (l1 : List Bool) : Option (Bool) := if (l1.length : Int) > 1048576 then (some true) else ((laws_szNet.f a0_0 l0_1 1048576).bind fun t228 => (if t228 < 0 then (some true) else ((laws_toNet.f k a0_0 l0_1).bind fun bt229 => ((laws_toBoolS.f k l1).bind fun t233 => ((spec_CutLimit.f k bt229.1 bt229.2 t233).bind fun t236 => ((laws_toNet.f k a0_0 l0_1).bind fun bt237 => ((laws_toBoolS.f k l1).bind fun t242 => ((impl_CutLimit.f k bt237.1 bt237.2 t242).bind fun t245 => (if t245 = t236 then ((laws_toNet.f k a0_0 l0_1).bind fun bt246 => ((laws_eqNet.f k bt237.1 bt237.2 bt246.1 bt246.2).bind fun t250 => (if t250 = true then ((laws_toBoolS.f k l1).bind fun t251 => ((laws_eqBoolS.f k t242 t251).bind fun t254 => (if t254 = true then (some true) else (some false)))) else (some false)))) else (some false))))))))))
theorem laws_FnExactCutLimit.mono : ∀ a0 a1 a2 k, LeO (laws_FnExactCutLimit.f k a0 a1 a2) (laws_FnExactCutLimit.f (k + 1) a0 a1 a2) := by
  intro a0 a1 a2 k
  unfold laws_FnExactCutLimit.f
  repeat' first
      | (with_reducible exact impl_CutLimit.mono _ _ _ _)
      | (with_reducible exact laws_eqBoolS.mono _ _ _)
      | (with_reducible exact laws_eqNet.mono _ _ _ _ _)
      | (with_reducible exact laws_toBoolS.mono _ _)
      | (with_reducible exact laws_toNet.mono _ _ _)
      | (with_reducible exact spec_CutLimit.mono _ _ _ _)
      | (with_reducible exact LeO.refl _)
      | (with_reducible exact LeO.none _)
      | (with_reducible refine LeO.ite ?_ ?_)
      | (with_reducible refine LeO.bind ?_ (fun _ => ?_))
      | exact impl_CutLimit.mono _ _ _ _
      | exact laws_eqBoolS.mono _ _ _
      | exact laws_eqNet.mono _ _ _ _ _
      | exact laws_toBoolS.mono _ _
      | exact laws_toNet.mono _ _ _
      | exact spec_CutLimit.mono _ _ _ _
      | exact LeO.none _
      | refine LeO.ite ?_ ?_
      | refine LeO.bind ?_ (fun _ => ?_)
set_option maxHeartbeats 8000000 in
set_option maxRecDepth 100000 in
theorem laws_FnExactCutLimit.calls (k : Nat) (a0_0 : Int) (A0_1 : Option Addr) (c0_1 : Nat) (l0_1 : List (S77)) (A1 : Option Addr) (c1 : Nat) (l1 : List Bool) (r : Bool) (w : World) (hr0_1 : Kd.C k77 w A0_1 l0_1.length l0_1) (hc0_1 : l0_1.length ≤ c0_1) (hr1 : Kd.C Kd.bool w A1 l1.length l1) (hc1 : l1.length ≤ c1) (h : laws_FnExactCutLimit.f k a0_0 l0_1 l1 = some r) :
    Calls Try.prog 5 #[.agg #[.int .i64 a0_0, .slice A0_1 l0_1.length c0_1], .slice A1 l1.length c1] w fun e w' => e = .returned (.bool r) ∧ Below w.heap.size w w' := by
  have hu24 := Try.underlying24
  have hu29 := Try.underlying29
  have HR0_1 := Aside0.mk hr0_1
  have HC0_1 := Aside0.mk hc0_1
  clear hr0_1 hc0_1
  have HR1 := Aside0.mk hr1
  have HC1 := Aside0.mk hc1
  clear hr1 hc1
  have HB := Aside0.mk (Below.refl w.heap.size w)
  have H : (if (l1.length : Int) > 1048576 then (some true) else ((laws_szNet.f a0_0 l0_1 1048576).bind fun t228 => (if t228 < 0 then (some true) else ((laws_toNet.f k a0_0 l0_1).bind fun bt229 => ((laws_toBoolS.f k l1).bind fun t233 => ((spec_CutLimit.f k bt229.1 bt229.2 t233).bind fun t236 => ((laws_toNet.f k a0_0 l0_1).bind fun bt237 => ((laws_toBoolS.f k l1).bind fun t242 => ((impl_CutLimit.f k bt237.1 bt237.2 t242).bind fun t245 => (if t245 = t236 then ((laws_toNet.f k a0_0 l0_1).bind fun bt246 => ((laws_eqNet.f k bt237.1 bt237.2 bt246.1 bt246.2).bind fun t250 => (if t250 = true then ((laws_toBoolS.f k l1).bind fun t251 => ((laws_eqBoolS.f k t242 t251).bind fun t254 => (if t254 = true then (some true) else (some false)))) else (some false)))) else (some false))))))))))) = some r := h
  clear h
  by_cases c3 : (l1.length : Int) > 1048576
  · rw [if_pos c3] at H
    have c3b0 : decide (1048576 < (l1.length : Int)) = true := decide_eq_true c3
    have c3b1 : decide (1048576 < l1.length) = true := decide_eq_true (by omega)
    clear c3
    obtain rfl := Option.some.inj H
    go_enter Try.func5, Try.ntmps5
    go_wp2_with (first | ((with_reducible refine gate_dst (N := 2) rfl ?_); refine box_event ?hg (N := 2) ?hd (cs := #[.int .i64 a0_0, .slice A0_1 l0_1.length c0_1]) (t := 24) ?hr ?_; (case hd => rfl); (case hg => rfl); (case hr => first | (go_simp; done) | (go_simp; rfl)); intro gb227 hg w4 hbox hb; have BK227 := Aside0.mk (hbox); have GW227 := Aside0.mk ((bsz hg : w.heap.size ≤ gb227)); have GE227 := Aside0.mk ((bsz hg : w.heap.size ≤ gb227)); replace HB := Aside0.mk (below_step bel hb); clear hb hbox hg))
    go_ret
    exact ⟨er, bel⟩
  · rw [if_neg c3] at H
    have c3b0 : decide (1048576 < (l1.length : Int)) = false := decide_eq_false c3
    have c3b1 : decide (1048576 < l1.length) = false := decide_eq_false (by omega)
    clear c3
    replace H := Option.bind_eq_some_iff.mp H
    obtain ⟨t228, A50, H⟩ := H
    replace H : (if t228 < 0 then (some true) else ((laws_toNet.f k a0_0 l0_1).bind fun bt229 => ((laws_toBoolS.f k l1).bind fun t233 => ((spec_CutLimit.f k bt229.1 bt229.2 t233).bind fun t236 => ((laws_toNet.f k a0_0 l0_1).bind fun bt237 => ((laws_toBoolS.f k l1).bind fun t242 => ((impl_CutLimit.f k bt237.1 bt237.2 t242).bind fun t245 => (if t245 = t236 then ((laws_toNet.f k a0_0 l0_1).bind fun bt246 => ((laws_eqNet.f k bt237.1 bt237.2 bt246.1 bt246.2).bind fun t250 => (if t250 = true then ((laws_toBoolS.f k l1).bind fun t251 => ((laws_eqBoolS.f k t242 t251).bind fun t254 => (if t254 = true then (some true) else (some false)))) else (some false)))) else (some false))))))))) = some r := H
    have A5 := Aside0.mk A50
    clear A50
    by_cases c6 : t228 < 0
    · rw [if_pos c6] at H
      have c6b0 : decide (t228 < 0) = true := decide_eq_true c6
      clear c6
      obtain rfl := Option.some.inj H
      go_enter Try.func5, Try.ntmps5
      go_wp2_with (first | ((with_reducible refine gate_dst (N := 2) rfl ?_); refine box_event ?hg (N := 2) ?hd (cs := #[.int .i64 a0_0, .slice A0_1 l0_1.length c0_1]) (t := 24) ?hr ?_; (case hd => rfl); (case hg => rfl); (case hr => first | (go_simp; done) | (go_simp; rfl)); intro gb227 hg w7 hbox hb; have BK227 := Aside0.mk (hbox); have GW227 := Aside0.mk ((bsz hg : w.heap.size ≤ gb227)); have GE227 := Aside0.mk ((bsz hg : w.heap.size ≤ gb227)); replace HB := Aside0.mk (below_step bel hb); clear hb hbox hg; obtain ⟨hcz8_0, hcz8_1, hfz8_0, hfz8_1⟩ := cf2 BK227.out) | ((with_reducible refine gate_callee (f := 11) rfl ?_); refine goesL_ (some 15) rfl rfl Try.func11 (by kernel_rfl) rfl #[.agg #[.int .i64 a0_0, .slice A0_1 l0_1.length c0_1], .int .i64 1048576] rfl ga ?_; (with_reducible refine (laws_szNet.calls a0_0 _ _ l0_1 1048576 t228 _ ?side1 ?side2 A5.out).mono ?_); (case side1 => exact ck (Kd.C_below HR0_1.out HB.out)); (case side2 => exact HC0_1.out); rintro e w9 ⟨rfl, hb⟩; refine ⟨_, rfl, ?_⟩; replace BK227 := Aside0.mk (bb BK227.out hb); replace HB := Aside0.mk (below_step bel hb); (try clear hb)))
      go_ret
      exact ⟨er, bel⟩
    · rw [if_neg c6] at H
      have c6b0 : decide (t228 < 0) = false := decide_eq_false c6
      clear c6
      replace H := Option.bind_eq_some_iff.mp H
      obtain ⟨⟨t229, t230⟩, A100, H⟩ := H
      replace H : ((laws_toBoolS.f k l1).bind fun t233 => ((spec_CutLimit.f k t229 t230 t233).bind fun t236 => ((laws_toNet.f k a0_0 l0_1).bind fun bt237 => ((laws_toBoolS.f k l1).bind fun t242 => ((impl_CutLimit.f k bt237.1 bt237.2 t242).bind fun t245 => (if t245 = t236 then ((laws_toNet.f k a0_0 l0_1).bind fun bt246 => ((laws_eqNet.f k bt237.1 bt237.2 bt246.1 bt246.2).bind fun t250 => (if t250 = true then ((laws_toBoolS.f k l1).bind fun t251 => ((laws_eqBoolS.f k t242 t251).bind fun t254 => (if t254 = true then (some true) else (some false)))) else (some false)))) else (some false))))))) = some r := H
      have A10 := Aside0.mk A100
      clear A100
      replace H := Option.bind_eq_some_iff.mp H
      obtain ⟨t233, A110, H⟩ := H
      replace H : ((spec_CutLimit.f k t229 t230 t233).bind fun t236 => ((laws_toNet.f k a0_0 l0_1).bind fun bt237 => ((laws_toBoolS.f k l1).bind fun t242 => ((impl_CutLimit.f k bt237.1 bt237.2 t242).bind fun t245 => (if t245 = t236 then ((laws_toNet.f k a0_0 l0_1).bind fun bt246 => ((laws_eqNet.f k bt237.1 bt237.2 bt246.1 bt246.2).bind fun t250 => (if t250 = true then ((laws_toBoolS.f k l1).bind fun t251 => ((laws_eqBoolS.f k t242 t251).bind fun t254 => (if t254 = true then (some true) else (some false)))) else (some false)))) else (some false)))))) = some r := H
      have A11 := Aside0.mk A110
      clear A110
      replace H := Option.bind_eq_some_iff.mp H
      obtain ⟨t236, A120, H⟩ := H
      replace H : ((laws_toNet.f k a0_0 l0_1).bind fun bt237 => ((laws_toBoolS.f k l1).bind fun t242 => ((impl_CutLimit.f k bt237.1 bt237.2 t242).bind fun t245 => (if t245 = t236 then ((laws_toNet.f k a0_0 l0_1).bind fun bt246 => ((laws_eqNet.f k bt237.1 bt237.2 bt246.1 bt246.2).bind fun t250 => (if t250 = true then ((laws_toBoolS.f k l1).bind fun t251 => ((laws_eqBoolS.f k t242 t251).bind fun t254 => (if t254 = true then (some true) else (some false)))) else (some false)))) else (some false))))) = some r := H
      have A12 := Aside0.mk A120
      clear A120
      replace H := Option.bind_eq_some_iff.mp H
      obtain ⟨⟨t237, t238⟩, A130, H⟩ := H
      replace H : ((laws_toBoolS.f k l1).bind fun t242 => ((impl_CutLimit.f k t237 t238 t242).bind fun t245 => (if t245 = t236 then ((laws_toNet.f k a0_0 l0_1).bind fun bt246 => ((laws_eqNet.f k t237 t238 bt246.1 bt246.2).bind fun t250 => (if t250 = true then ((laws_toBoolS.f k l1).bind fun t251 => ((laws_eqBoolS.f k t242 t251).bind fun t254 => (if t254 = true then (some true) else (some false)))) else (some false)))) else (some false)))) = some r := H
      have A13 := Aside0.mk A130
      clear A130
      replace H := Option.bind_eq_some_iff.mp H
      obtain ⟨t242, A140, H⟩ := H
      replace H : ((impl_CutLimit.f k t237 t238 t242).bind fun t245 => (if t245 = t236 then ((laws_toNet.f k a0_0 l0_1).bind fun bt246 => ((laws_eqNet.f k t237 t238 bt246.1 bt246.2).bind fun t250 => (if t250 = true then ((laws_toBoolS.f k l1).bind fun t251 => ((laws_eqBoolS.f k t242 t251).bind fun t254 => (if t254 = true then (some true) else (some false)))) else (some false)))) else (some false))) = some r := H
      have A14 := Aside0.mk A140
      clear A140
      replace H := Option.bind_eq_some_iff.mp H
      obtain ⟨t245, A150, H⟩ := H
      replace H : (if t245 = t236 then ((laws_toNet.f k a0_0 l0_1).bind fun bt246 => ((laws_eqNet.f k t237 t238 bt246.1 bt246.2).bind fun t250 => (if t250 = true then ((laws_toBoolS.f k l1).bind fun t251 => ((laws_eqBoolS.f k t242 t251).bind fun t254 => (if t254 = true then (some true) else (some false)))) else (some false)))) else (some false)) = some r := H
      have A15 := Aside0.mk A150
      clear A150
      by_cases c16 : t245 = t236
      · rw [if_pos c16] at H
        have c16b0 : (t245 == t236) = true := beq_iff_eq.mpr c16
        have c16b1 : (t245 != t236) = false := bne_eq_false_iff_eq.mpr c16
        clear c16
        replace H := Option.bind_eq_some_iff.mp H
        obtain ⟨⟨t246, t247⟩, A170, H⟩ := H
        replace H : ((laws_eqNet.f k t237 t238 t246 t247).bind fun t250 => (if t250 = true then ((laws_toBoolS.f k l1).bind fun t251 => ((laws_eqBoolS.f k t242 t251).bind fun t254 => (if t254 = true then (some true) else (some false)))) else (some false))) = some r := H
        have A17 := Aside0.mk A170
        clear A170
        replace H := Option.bind_eq_some_iff.mp H
        obtain ⟨t250, A180, H⟩ := H
        replace H : (if t250 = true then ((laws_toBoolS.f k l1).bind fun t251 => ((laws_eqBoolS.f k t242 t251).bind fun t254 => (if t254 = true then (some true) else (some false)))) else (some false)) = some r := H
        have A18 := Aside0.mk A180
        clear A180
        by_cases c19 : t250 = true
        · subst c19
          have H1 : ((laws_toBoolS.f k l1).bind fun t251 => ((laws_eqBoolS.f k t242 t251).bind fun t254 => (if t254 = true then (some true) else (some false)))) = some r := by rw [if_pos rfl] at H; exact H
          clear H
          have H := H1
          clear H1
          replace H := Option.bind_eq_some_iff.mp H
          obtain ⟨t251, A200, H⟩ := H
          replace H : ((laws_eqBoolS.f k t242 t251).bind fun t254 => (if t254 = true then (some true) else (some false))) = some r := H
          have A20 := Aside0.mk A200
          clear A200
          replace H := Option.bind_eq_some_iff.mp H
          obtain ⟨t254, A210, H⟩ := H
          replace H : (if t254 = true then (some true) else (some false)) = some r := H
          have A21 := Aside0.mk A210
          clear A210
          by_cases c22 : t254 = true
          · subst c22
            have H1 : (some true) = some r := by rw [if_pos rfl] at H; exact H
            clear H
            have H := H1
            clear H1
            obtain rfl := Option.some.inj H
            go_enter Try.func5, Try.ntmps5
            try go_wp2_with (first | ((with_reducible refine gate_dst (N := 2) rfl ?_); refine box_event ?hg (N := 2) ?hd (cs := #[.int .i64 a0_0, .slice A0_1 l0_1.length c0_1]) (t := 24) ?hr ?_; (case hd => rfl); (case hg => rfl); (case hr => first | (go_simp; done) | (go_simp; rfl)); intro gb227 hg w23 hbox hb; have BK227 := Aside0.mk (hbox); have GW227 := Aside0.mk ((bsz hg : w.heap.size ≤ gb227)); have GE227 := Aside0.mk ((bsz hg : w.heap.size ≤ gb227)); replace HB := Aside0.mk (below_step bel hb); clear hb hbox hg; obtain ⟨hcz24_0, hcz24_1, hfz24_0, hfz24_1⟩ := cf2 BK227.out) | ((with_reducible refine gate_callee (f := 11) rfl ?_); refine goesL_ (some 15) rfl rfl Try.func11 (by kernel_rfl) rfl #[.agg #[.int .i64 a0_0, .slice A0_1 l0_1.length c0_1], .int .i64 1048576] rfl ga ?_; (with_reducible refine (laws_szNet.calls a0_0 _ _ l0_1 1048576 t228 _ ?side1 ?side2 A5.out).mono ?_); (case side1 => exact ck (Kd.C_below HR0_1.out HB.out)); (case side2 => exact HC0_1.out); rintro e w25 ⟨rfl, hb⟩; refine ⟨_, rfl, ?_⟩; replace BK227 := Aside0.mk (bb BK227.out hb); replace HB := Aside0.mk (below_step bel hb); (try clear hb); obtain ⟨hcz26_0, hcz26_1, hfz26_0, hfz26_1⟩ := cf2 BK227.out) | ((with_reducible refine gate_callee (f := 13) rfl ?_); refine goesL_ (some 19) rfl rfl Try.func13 (by kernel_rfl) rfl #[.agg #[.int .i64 a0_0, .slice A0_1 l0_1.length c0_1]] rfl ga ?_; (with_reducible refine (laws_toNet.calls k a0_0 _ _ l0_1 t229 t230 _ ?side1 ?side2 A10.out).mono ?_); (case side1 => exact ck (Kd.C_below HR0_1.out HB.out)); (case side2 => exact HC0_1.out); rintro e w27 ⟨v231, rfl, ho0, hb⟩; refine ⟨_, rfl, ?_⟩; have HO232 := Aside0.mk (Kd.R_lower ho0 (below_size bel)); replace BK227 := Aside0.mk (bb BK227.out hb); replace HB := Aside0.mk (below_step bel hb); (try clear hb); (try clear ho0)) | ((with_reducible refine gate_callee (f := 21) rfl ?_); refine goesL_ (some 21) rfl rfl Try.func21 (by kernel_rfl) rfl #[.slice A1 l1.length c1] rfl ga ?_; (with_reducible refine (laws_toBoolS.calls k _ _ l1 t233 _ ?side1 ?side2 A11.out).mono ?_); (case side1 => exact ck (Kd.C_below HR1.out HB.out)); (case side2 => exact HC1.out); rintro e w28 ⟨v234, rfl, ho0, hb⟩; refine ⟨_, rfl, ?_⟩; have HO235 := Aside0.mk (Kd.R_lower ho0 (below_size bel)); replace HO232 := Aside0.mk (Kd.R_below (rk HO232.out) hb); replace BK227 := Aside0.mk (bb BK227.out hb); replace HB := Aside0.mk (below_step bel hb); (try clear hb); (try clear ho0); obtain ⟨Ao29, co29, eo29⟩ := Kd.R_slice HO232.out; subst eo29; obtain ⟨Ao30, co30, eo30⟩ := Kd.R_slice HO235.out; subst eo30) | ((with_reducible refine gate_callee (f := 20) rfl ?_); refine goesL_ (some 22) rfl rfl Try.func20 (by kernel_rfl) rfl #[.agg #[.int .i64 t229, .slice Ao29 t230.length co29], .slice Ao30 t233.length co30] rfl ga ?_; (with_reducible refine (spec_CutLimit.calls k t229 _ _ t230 _ _ t233 t236 _ ?side1 ?side2 ?side3 ?side4 A12.out).mono ?_); (case side1 => exact ck (Kd.R_reads' HO232.out).2.2); (case side2 => exact (Kd.R_reads' HO232.out).2.1); (case side3 => exact ck (Kd.R_reads' HO235.out).2.2); (case side4 => exact (Kd.R_reads' HO235.out).2.1); rintro e w31 ⟨rfl, hb⟩; refine ⟨_, rfl, ?_⟩; replace HO232 := Aside0.mk (Kd.R_below (rk HO232.out) hb); replace HO235 := Aside0.mk (Kd.R_below (rk HO235.out) hb); replace BK227 := Aside0.mk (bb BK227.out hb); replace HB := Aside0.mk (below_step bel hb); (try clear hb); obtain ⟨hcz32_0, hcz32_1, hfz32_0, hfz32_1⟩ := cf2 BK227.out) | ((with_reducible refine gate_callee (f := 13) rfl ?_); refine goesL_ (some 24) rfl rfl Try.func13 (by kernel_rfl) rfl #[.agg #[.int .i64 a0_0, .slice A0_1 l0_1.length c0_1]] rfl ga ?_; (with_reducible refine (laws_toNet.calls k a0_0 _ _ l0_1 t237 t238 _ ?side1 ?side2 A13.out).mono ?_); (case side1 => exact ck (Kd.C_below HR0_1.out HB.out)); (case side2 => exact HC0_1.out); rintro e w33 ⟨v239, rfl, ho0, hb⟩; refine ⟨_, rfl, ?_⟩; have HO240 := Aside0.mk (Kd.R_lower (Kd.R_new' ho0 (Kd.R_lt (rk HO232.out))) (below_size bel)); replace HO232 := Aside0.mk (Kd.R_elder' (rk HO232.out) (Kd.R_base ho0) hb); replace HO235 := Aside0.mk (Kd.R_below (rk HO235.out) hb); replace BK227 := Aside0.mk (bb BK227.out hb); replace HB := Aside0.mk (below_step bel hb); (try clear hb); (try clear ho0)) | ((with_reducible refine gate_dst (N := 7) rfl ?_); refine box_event ?hg (N := 7) ?hd (cs := #[.int .i64 0, .slice none 0 0]) (t := 29) ?hr ?_; (case hd => rfl); (case hg => rfl); (case hr => first | (go_simp; done) | (go_simp; rfl)); intro gb241 hg w34 hbox hb; have BK241 := Aside0.mk (hbox); have GW241 := Aside0.mk ((bsz hg : w.heap.size ≤ gb241)); have GE241 := Aside0.mk ((bsz hg : w.heap.size ≤ gb241)); have NB227_241 := Aside0.mk ((nlt hg BK227.out : gb227 ≠ gb241)); have NB241_227 := Aside0.mk ((ngt hg BK227.out : gb241 ≠ gb227)); replace HO232 := Aside0.mk (Kd.R_below (rk HO232.out) hb); replace HO235 := Aside0.mk (Kd.R_below (rk HO235.out) hb); replace HO240 := Aside0.mk (Kd.R_below (rk HO240.out) hb); replace BK227 := Aside0.mk (bb BK227.out hb); replace HB := Aside0.mk (below_step bel hb); clear hb hbox hg; have hnb35 := NB241_227.out; have hnc35 := NB227_241.out; obtain ⟨hcz36_0, hcz36_1, hfz36_0, hfz36_1⟩ := cf2 BK241.out; obtain ⟨Ao37, co37, eo37⟩ := Kd.R_slice HO240.out; subst eo37) | ((with_reducible refine gate_callee (f := 21) rfl ?_); refine goesL_ (some 26) rfl rfl Try.func21 (by kernel_rfl) rfl #[.slice A1 l1.length c1] rfl ga ?_; (with_reducible refine (laws_toBoolS.calls k _ _ l1 t242 _ ?side1 ?side2 A14.out).mono ?_); (case side1 => exact Kd.C_below HR1.out bel); (case side2 => exact HC1.out); rintro e w38 ⟨v243, rfl, ho0, hb⟩; refine ⟨_, rfl, ?_⟩; have HO244 := Aside0.mk (Kd.R_lower (Kd.R_new' ho0 (Kd.R_lt (by exact rk (Kd.R_mono (Kd.R_far (p := ⟨gb241, 1, none⟩) (Kd.R_far (p := ⟨gb241, 0, none⟩) (Kd.R_types HO235.out BK241.out (by decide)) (fun _ hk => hk.2) (.int .i64 t237)) (fun _ hk => hk.2) (.slice Ao37 t238.length co37)) (fun _ h_ => h_.1))))) (below_size bel)); replace HO232 := Aside0.mk (Kd.R_below (by exact rk (Kd.R_mono (Kd.R_far (p := ⟨gb241, 1, none⟩) (Kd.R_far (p := ⟨gb241, 0, none⟩) (Kd.R_types HO232.out BK241.out (by decide)) (fun _ hk => hk.2) (.int .i64 t237)) (fun _ hk => hk.2) (.slice Ao37 t238.length co37)) (fun _ h_ => h_.1))) hb); replace HO235 := Aside0.mk (Kd.R_elder' (by exact rk (Kd.R_mono (Kd.R_far (p := ⟨gb241, 1, none⟩) (Kd.R_far (p := ⟨gb241, 0, none⟩) (Kd.R_types HO235.out BK241.out (by decide)) (fun _ hk => hk.2) (.int .i64 t237)) (fun _ hk => hk.2) (.slice Ao37 t238.length co37)) (fun _ h_ => h_.1))) (Kd.R_base ho0) hb); replace HO240 := Aside0.mk (Kd.R_below (by exact rk (Kd.R_mono (Kd.R_far (p := ⟨gb241, 1, none⟩) (Kd.R_far (p := ⟨gb241, 0, none⟩) (Kd.R_types HO240.out BK241.out (by decide)) (fun _ hk => hk.2) (.int .i64 t237)) (fun _ hk => hk.2) (.slice Ao37 t238.length co37)) (fun _ h_ => h_.1))) hb); replace BK227 := Aside0.mk (bb BK227.out hb); replace BK241 := Aside0.mk (blk_below (g := gb241) (o := .cells #[.int .i64 t237, .slice Ao37 t238.length co37] 29 (0, 0)) (by (with_reducible repeat (first | refine blk_drewN ?_ _ | refine blk_drew ?_ | refine blk_alloc ?_ _)); refine blk_put (cs := #[.int .i64 t237, .slice none 0 0]) ?_ 1 _ rfl; (with_reducible repeat (first | refine blk_drewN ?_ _ | refine blk_drew ?_ | refine blk_alloc ?_ _)); refine blk_put (cs := #[.int .i64 0, .slice none 0 0]) ?_ 0 _ rfl; (with_reducible repeat (first | refine blk_drewN ?_ _ | refine blk_drew ?_ | refine blk_alloc ?_ _)); exact BK241.out) hb); replace HB := Aside0.mk (below_step bel hb); (try clear hb); (try clear ho0); obtain ⟨hcz39_0, hcz39_1, hfz39_0, hfz39_1⟩ := cf2 BK241.out; obtain ⟨Ao40, co40, eo40⟩ := Kd.R_slice HO244.out; subst eo40) | ((with_reducible refine gate_callee (f := 22) rfl ?_); refine goesL_ (some 29) rfl rfl Try.func22 (by kernel_rfl) rfl #[.agg #[.int .i64 t237, .slice Ao37 t238.length co37], .slice Ao40 t242.length co40] rfl ga ?_; (with_reducible refine (impl_CutLimit.calls k t237 _ _ t238 _ _ t242 t245 _ ?side1 ?side2 ?side3 ?side4 A15.out).mono ?_); (case side1 => exact ck (Kd.R_reads' HO240.out).2.2); (case side2 => exact (Kd.R_reads' HO240.out).2.1); (case side3 => exact ck (Kd.R_reads' HO244.out).2.2); (case side4 => exact (Kd.R_reads' HO244.out).2.1); rintro e w41 ⟨rfl, hb⟩; refine ⟨_, rfl, ?_⟩; replace HO232 := Aside0.mk (Kd.R_below (rk HO232.out) hb); replace HO235 := Aside0.mk (Kd.R_below (rk HO235.out) hb); replace HO240 := Aside0.mk (Kd.R_below (rk HO240.out) hb); replace HO244 := Aside0.mk (Kd.R_below (rk HO244.out) hb); replace BK227 := Aside0.mk (bb BK227.out hb); replace BK241 := Aside0.mk (bb BK241.out hb); replace HB := Aside0.mk (below_step bel hb); (try clear hb)))
            replace HO232 := Aside0.mk (Kd.R_drew HO232.out)
            replace HO235 := Aside0.mk (Kd.R_drew HO235.out)
            replace HO240 := Aside0.mk (Kd.R_drew HO240.out)
            replace HO244 := Aside0.mk (Kd.R_drew HO244.out)
            replace BK227 := Aside0.mk (blk_drew BK227.out)
            replace BK241 := Aside0.mk (blk_drew BK241.out)
            replace HB := Aside0.mk (below_drew1 HB.out)
            refine start_ (n := 5) (S := fun w' => w'.cell? ⟨gb241, 0, none⟩ = some (.int .i64 t237) ∧ w'.cell? ⟨gb241, 1, none⟩ = some (.slice Ao37 t238.length co37) ∧ w'.cell? ⟨gb227, 0, none⟩ = some (.int .i64 a0_0) ∧ w'.cell? ⟨gb227, 1, none⟩ = some (.slice A0_1 l0_1.length c0_1)) (ds := []) #[false, false, false, false, false] (by kernel_rfl) rfl rfl ⟨(blk_cell BK241.out 0).trans rfl, (blk_cell BK241.out 1).trans rfl, (blk_cell BK227.out 0).trans rfl, (blk_cell BK227.out 1).trans rfl⟩ (fun hHeld => ?_)
            generalize w41.drew = w42 at HO232 HO235 HO240 HO244 BK227 BK241 HB hHeld ⊢
            refine take_ (i := 0) (N := some 33) (v := ?_) (a' := ?_) #[true, false, false, false, false] rfl rfl (by kernel_rfl) (fun _ _ _ h => h) (Or.inl ⟨by rfl, ?_⟩) hHeld ?_ ?_
            rotate_left
            · rintro w' ⟨s0, s1, s2, s3⟩
              go_simp
              with_reducible rfl
            rotate_left
            · simp only [Act.put, List.setIfInBounds_toArray, List.set_cons_zero, List.set_cons_succ, i64_w, i32_w]
              rfl
            refine take_ (i := 1) (N := some 34) (v := ?_) (a' := ?_) #[true, true, false, false, false] rfl rfl (by kernel_rfl) (fun _ _ _ h => h) (Or.inl ⟨by rfl, ?_⟩) hHeld ?_ ?_
            rotate_left
            · rintro w' ⟨s0, s1, s2, s3⟩
              go_simp
              with_reducible rfl
            rotate_left
            · simp only [Act.put, List.setIfInBounds_toArray, List.set_cons_zero, List.set_cons_succ, i64_w, i32_w]
              rfl
            refine one_ (i := 2) (N := some 35) #[true, true, true, false, false] rfl rfl (by kernel_rfl) (by decide) (fun K hK => ?_)
            refine goes_ Try.func13 (by kernel_rfl) rfl #[.agg #[.int .i64 a0_0, .slice A0_1 l0_1.length c0_1]] (by rfl) rfl rfl ga ?_
            with_reducible refine (laws_toNet.calls k a0_0 _ _ l0_1 t246 t247 _ ?side1 ?side2 A17.out).mono ?_
            (case side1 => exact ck (Kd.C_below HR0_1.out HB.out))
            (case side2 => exact HC0_1.out)
            rintro e w43 ⟨v248, rfl, ho0, hb⟩
            refine ⟨_, rfl, ?_⟩
            have HO249 := Aside0.mk (Kd.R_lower (Kd.R_new' (Kd.R_new' ho0 (Kd.R_lt (rk HO232.out))) (Kd.R_lt (rk HO240.out))) (below_size bel))
            replace HO232 := Aside0.mk (Kd.R_elder' (rk HO232.out) (Kd.R_base ho0) hb)
            replace HO235 := Aside0.mk (Kd.R_below (rk HO235.out) hb)
            replace HO240 := Aside0.mk (Kd.R_elder' (rk HO240.out) (Kd.R_base ho0) hb)
            replace HO244 := Aside0.mk (Kd.R_below (rk HO244.out) hb)
            replace BK227 := Aside0.mk (bb BK227.out hb)
            replace BK241 := Aside0.mk (bb BK241.out hb)
            replace HB := Aside0.mk (below_step bel hb)
            (try clear hb)
            (try clear hb2)
            (try clear hk)
            (try clear hi)
            (try clear ho0)
            obtain ⟨Ao44, co44, eo44⟩ := Kd.R_slice HO249.out
            (first | subst eo44 | (injection eo44 with f1_ f2_ f3_; have f4_ := f1_.symm; have f5_ := f3_.symm; clear f1_ f2_ f3_; subst f4_; subst f5_))
            refine hK.out _ _ ⟨(blk_cell BK241.out 0).trans rfl, (blk_cell BK241.out 1).trans rfl, (blk_cell BK227.out 0).trans rfl, (blk_cell BK227.out 1).trans rfl⟩ (fun hHeld => ?_)
            clear hK K
            refine norm_ (a' := ?_) ?_ ?_
            rotate_left
            · show Act.put _ (some 35) _ = _
              simp only [Act.put, List.setIfInBounds_toArray, List.set_cons_zero, List.set_cons_succ, i64_w, i32_w]
              rfl
            refine one_ (i := 3) (N := some 36) #[true, true, true, true, false] rfl rfl (by kernel_rfl) (by decide) (fun K hK => ?_)
            refine goes_ Try.func15 (by kernel_rfl) rfl #[.agg #[.int .i64 t237, .slice Ao37 t238.length co37], .agg #[.int .i64 t246, .slice Ao44 t247.length co44]] (by rfl) rfl rfl ga ?_
            with_reducible refine (laws_eqNet.calls k t237 _ _ t238 t246 _ _ t247 true _ ?side1 ?side2 ?side3 ?side4 A18.out).mono ?_
            (case side1 => exact ck (Kd.R_reads' HO240.out).2.2)
            (case side2 => exact (Kd.R_reads' HO240.out).2.1)
            (case side3 => exact ck (Kd.R_reads' HO249.out).2.2)
            (case side4 => exact (Kd.R_reads' HO249.out).2.1)
            rintro e w45 ⟨rfl, hb⟩
            refine ⟨_, rfl, ?_⟩
            replace HO232 := Aside0.mk (Kd.R_below (rk HO232.out) hb)
            replace HO235 := Aside0.mk (Kd.R_below (rk HO235.out) hb)
            replace HO240 := Aside0.mk (Kd.R_below (rk HO240.out) hb)
            replace HO244 := Aside0.mk (Kd.R_below (rk HO244.out) hb)
            replace HO249 := Aside0.mk (Kd.R_below (rk HO249.out) hb)
            replace BK227 := Aside0.mk (bb BK227.out hb)
            replace BK241 := Aside0.mk (bb BK241.out hb)
            replace HB := Aside0.mk (below_step bel hb)
            (try clear hb)
            (try clear hb2)
            (try clear hk)
            (try clear hi)
            refine hK.out _ _ ⟨(blk_cell BK241.out 0).trans rfl, (blk_cell BK241.out 1).trans rfl, (blk_cell BK227.out 0).trans rfl, (blk_cell BK227.out 1).trans rfl⟩ (fun hHeld => ?_)
            clear hK K
            refine norm_ (a' := ?_) ?_ ?_
            rotate_left
            · show Act.put _ (some 36) _ = _
              simp only [Act.put, List.setIfInBounds_toArray, List.set_cons_zero, List.set_cons_succ, i64_w, i32_w]
              rfl
            refine pure_ (i := 4) (N := some 37) (v := ?_) (a' := ?_) #[true, true, true, true, true] rfl rfl (by kernel_rfl) (fun _ _ _ h => h) (Or.inl ⟨by rfl, ?_⟩) ?_ ?_
            rotate_left
            · intro w'
              go_simp
              with_reducible rfl
            rotate_left
            · simp only [Act.put, List.setIfInBounds_toArray, List.set_cons_zero, List.set_cons_succ, i64_w, i32_w]
              rfl
            refine done_ (by kernel_rfl) ?_
            try go_wp2_with (first | ((with_reducible refine gate_callee (f := 21) rfl ?_); refine goesL_ (some 40) rfl rfl Try.func21 (by kernel_rfl) rfl #[.slice A1 l1.length c1] rfl ga ?_; (with_reducible refine (laws_toBoolS.calls k _ _ l1 t251 _ ?side1 ?side2 A20.out).mono ?_); (case side1 => exact ck (Kd.C_below HR1.out HB.out)); (case side2 => exact HC1.out); rintro e w46 ⟨v252, rfl, ho0, hb⟩; refine ⟨_, rfl, ?_⟩; have HO253 := Aside0.mk (Kd.R_lower (Kd.R_new' (Kd.R_new' ho0 (Kd.R_lt (rk HO235.out))) (Kd.R_lt (rk HO244.out))) (below_size bel)); replace HO232 := Aside0.mk (Kd.R_below (rk HO232.out) hb); replace HO235 := Aside0.mk (Kd.R_elder' (rk HO235.out) (Kd.R_base ho0) hb); replace HO240 := Aside0.mk (Kd.R_below (rk HO240.out) hb); replace HO244 := Aside0.mk (Kd.R_elder' (rk HO244.out) (Kd.R_base ho0) hb); replace HO249 := Aside0.mk (Kd.R_below (rk HO249.out) hb); replace BK227 := Aside0.mk (bb BK227.out hb); replace BK241 := Aside0.mk (bb BK241.out hb); replace HB := Aside0.mk (below_step bel hb); (try clear hb); (try clear ho0); obtain ⟨Ao47, co47, eo47⟩ := Kd.R_slice HO253.out; subst eo47) | ((with_reducible refine gate_callee (f := 23) rfl ?_); refine goesL_ (some 41) rfl rfl Try.func23 (by kernel_rfl) rfl #[.slice Ao40 t242.length co40, .slice Ao47 t251.length co47] rfl ga ?_; (with_reducible refine (laws_eqBoolS.calls k _ _ t242 _ _ t251 true _ ?side1 ?side2 ?side3 ?side4 A21.out).mono ?_); (case side1 => exact ck (Kd.R_reads' HO244.out).2.2); (case side2 => exact (Kd.R_reads' HO244.out).2.1); (case side3 => exact ck (Kd.R_reads' HO253.out).2.2); (case side4 => exact (Kd.R_reads' HO253.out).2.1); rintro e w' ⟨rfl, ⟨nd, rfl⟩⟩; refine ⟨_, rfl, ?_⟩))
            go_ret
            exact ⟨er, bel⟩
          · replace c22 := Bool.eq_false_iff.mpr c22
            subst c22
            have H1 : (some false) = some r := by rw [if_neg (show ¬ (false = true) by decide)] at H; exact H
            clear H
            have H := H1
            clear H1
            obtain rfl := Option.some.inj H
            go_enter Try.func5, Try.ntmps5
            try go_wp2_with (first | ((with_reducible refine gate_dst (N := 2) rfl ?_); refine box_event ?hg (N := 2) ?hd (cs := #[.int .i64 a0_0, .slice A0_1 l0_1.length c0_1]) (t := 24) ?hr ?_; (case hd => rfl); (case hg => rfl); (case hr => first | (go_simp; done) | (go_simp; rfl)); intro gb227 hg w48 hbox hb; have BK227 := Aside0.mk (hbox); have GW227 := Aside0.mk ((bsz hg : w.heap.size ≤ gb227)); have GE227 := Aside0.mk ((bsz hg : w.heap.size ≤ gb227)); replace HB := Aside0.mk (below_step bel hb); clear hb hbox hg; obtain ⟨hcz49_0, hcz49_1, hfz49_0, hfz49_1⟩ := cf2 BK227.out) | ((with_reducible refine gate_callee (f := 11) rfl ?_); refine goesL_ (some 15) rfl rfl Try.func11 (by kernel_rfl) rfl #[.agg #[.int .i64 a0_0, .slice A0_1 l0_1.length c0_1], .int .i64 1048576] rfl ga ?_; (with_reducible refine (laws_szNet.calls a0_0 _ _ l0_1 1048576 t228 _ ?side1 ?side2 A5.out).mono ?_); (case side1 => exact ck (Kd.C_below HR0_1.out HB.out)); (case side2 => exact HC0_1.out); rintro e w50 ⟨rfl, hb⟩; refine ⟨_, rfl, ?_⟩; replace BK227 := Aside0.mk (bb BK227.out hb); replace HB := Aside0.mk (below_step bel hb); (try clear hb); obtain ⟨hcz51_0, hcz51_1, hfz51_0, hfz51_1⟩ := cf2 BK227.out) | ((with_reducible refine gate_callee (f := 13) rfl ?_); refine goesL_ (some 19) rfl rfl Try.func13 (by kernel_rfl) rfl #[.agg #[.int .i64 a0_0, .slice A0_1 l0_1.length c0_1]] rfl ga ?_; (with_reducible refine (laws_toNet.calls k a0_0 _ _ l0_1 t229 t230 _ ?side1 ?side2 A10.out).mono ?_); (case side1 => exact ck (Kd.C_below HR0_1.out HB.out)); (case side2 => exact HC0_1.out); rintro e w52 ⟨v231, rfl, ho0, hb⟩; refine ⟨_, rfl, ?_⟩; have HO232 := Aside0.mk (Kd.R_lower ho0 (below_size bel)); replace BK227 := Aside0.mk (bb BK227.out hb); replace HB := Aside0.mk (below_step bel hb); (try clear hb); (try clear ho0)) | ((with_reducible refine gate_callee (f := 21) rfl ?_); refine goesL_ (some 21) rfl rfl Try.func21 (by kernel_rfl) rfl #[.slice A1 l1.length c1] rfl ga ?_; (with_reducible refine (laws_toBoolS.calls k _ _ l1 t233 _ ?side1 ?side2 A11.out).mono ?_); (case side1 => exact ck (Kd.C_below HR1.out HB.out)); (case side2 => exact HC1.out); rintro e w53 ⟨v234, rfl, ho0, hb⟩; refine ⟨_, rfl, ?_⟩; have HO235 := Aside0.mk (Kd.R_lower ho0 (below_size bel)); replace HO232 := Aside0.mk (Kd.R_below (rk HO232.out) hb); replace BK227 := Aside0.mk (bb BK227.out hb); replace HB := Aside0.mk (below_step bel hb); (try clear hb); (try clear ho0); obtain ⟨Ao54, co54, eo54⟩ := Kd.R_slice HO232.out; subst eo54; obtain ⟨Ao55, co55, eo55⟩ := Kd.R_slice HO235.out; subst eo55) | ((with_reducible refine gate_callee (f := 20) rfl ?_); refine goesL_ (some 22) rfl rfl Try.func20 (by kernel_rfl) rfl #[.agg #[.int .i64 t229, .slice Ao54 t230.length co54], .slice Ao55 t233.length co55] rfl ga ?_; (with_reducible refine (spec_CutLimit.calls k t229 _ _ t230 _ _ t233 t236 _ ?side1 ?side2 ?side3 ?side4 A12.out).mono ?_); (case side1 => exact ck (Kd.R_reads' HO232.out).2.2); (case side2 => exact (Kd.R_reads' HO232.out).2.1); (case side3 => exact ck (Kd.R_reads' HO235.out).2.2); (case side4 => exact (Kd.R_reads' HO235.out).2.1); rintro e w56 ⟨rfl, hb⟩; refine ⟨_, rfl, ?_⟩; replace HO232 := Aside0.mk (Kd.R_below (rk HO232.out) hb); replace HO235 := Aside0.mk (Kd.R_below (rk HO235.out) hb); replace BK227 := Aside0.mk (bb BK227.out hb); replace HB := Aside0.mk (below_step bel hb); (try clear hb); obtain ⟨hcz57_0, hcz57_1, hfz57_0, hfz57_1⟩ := cf2 BK227.out) | ((with_reducible refine gate_callee (f := 13) rfl ?_); refine goesL_ (some 24) rfl rfl Try.func13 (by kernel_rfl) rfl #[.agg #[.int .i64 a0_0, .slice A0_1 l0_1.length c0_1]] rfl ga ?_; (with_reducible refine (laws_toNet.calls k a0_0 _ _ l0_1 t237 t238 _ ?side1 ?side2 A13.out).mono ?_); (case side1 => exact ck (Kd.C_below HR0_1.out HB.out)); (case side2 => exact HC0_1.out); rintro e w58 ⟨v239, rfl, ho0, hb⟩; refine ⟨_, rfl, ?_⟩; have HO240 := Aside0.mk (Kd.R_lower (Kd.R_new' ho0 (Kd.R_lt (rk HO232.out))) (below_size bel)); replace HO232 := Aside0.mk (Kd.R_elder' (rk HO232.out) (Kd.R_base ho0) hb); replace HO235 := Aside0.mk (Kd.R_below (rk HO235.out) hb); replace BK227 := Aside0.mk (bb BK227.out hb); replace HB := Aside0.mk (below_step bel hb); (try clear hb); (try clear ho0)) | ((with_reducible refine gate_dst (N := 7) rfl ?_); refine box_event ?hg (N := 7) ?hd (cs := #[.int .i64 0, .slice none 0 0]) (t := 29) ?hr ?_; (case hd => rfl); (case hg => rfl); (case hr => first | (go_simp; done) | (go_simp; rfl)); intro gb241 hg w59 hbox hb; have BK241 := Aside0.mk (hbox); have GW241 := Aside0.mk ((bsz hg : w.heap.size ≤ gb241)); have GE241 := Aside0.mk ((bsz hg : w.heap.size ≤ gb241)); have NB227_241 := Aside0.mk ((nlt hg BK227.out : gb227 ≠ gb241)); have NB241_227 := Aside0.mk ((ngt hg BK227.out : gb241 ≠ gb227)); replace HO232 := Aside0.mk (Kd.R_below (rk HO232.out) hb); replace HO235 := Aside0.mk (Kd.R_below (rk HO235.out) hb); replace HO240 := Aside0.mk (Kd.R_below (rk HO240.out) hb); replace BK227 := Aside0.mk (bb BK227.out hb); replace HB := Aside0.mk (below_step bel hb); clear hb hbox hg; have hnb60 := NB241_227.out; have hnc60 := NB227_241.out; obtain ⟨hcz61_0, hcz61_1, hfz61_0, hfz61_1⟩ := cf2 BK241.out; obtain ⟨Ao62, co62, eo62⟩ := Kd.R_slice HO240.out; subst eo62) | ((with_reducible refine gate_callee (f := 21) rfl ?_); refine goesL_ (some 26) rfl rfl Try.func21 (by kernel_rfl) rfl #[.slice A1 l1.length c1] rfl ga ?_; (with_reducible refine (laws_toBoolS.calls k _ _ l1 t242 _ ?side1 ?side2 A14.out).mono ?_); (case side1 => exact Kd.C_below HR1.out bel); (case side2 => exact HC1.out); rintro e w63 ⟨v243, rfl, ho0, hb⟩; refine ⟨_, rfl, ?_⟩; have HO244 := Aside0.mk (Kd.R_lower (Kd.R_new' ho0 (Kd.R_lt (by exact rk (Kd.R_mono (Kd.R_far (p := ⟨gb241, 1, none⟩) (Kd.R_far (p := ⟨gb241, 0, none⟩) (Kd.R_types HO235.out BK241.out (by decide)) (fun _ hk => hk.2) (.int .i64 t237)) (fun _ hk => hk.2) (.slice Ao62 t238.length co62)) (fun _ h_ => h_.1))))) (below_size bel)); replace HO232 := Aside0.mk (Kd.R_below (by exact rk (Kd.R_mono (Kd.R_far (p := ⟨gb241, 1, none⟩) (Kd.R_far (p := ⟨gb241, 0, none⟩) (Kd.R_types HO232.out BK241.out (by decide)) (fun _ hk => hk.2) (.int .i64 t237)) (fun _ hk => hk.2) (.slice Ao62 t238.length co62)) (fun _ h_ => h_.1))) hb); replace HO235 := Aside0.mk (Kd.R_elder' (by exact rk (Kd.R_mono (Kd.R_far (p := ⟨gb241, 1, none⟩) (Kd.R_far (p := ⟨gb241, 0, none⟩) (Kd.R_types HO235.out BK241.out (by decide)) (fun _ hk => hk.2) (.int .i64 t237)) (fun _ hk => hk.2) (.slice Ao62 t238.length co62)) (fun _ h_ => h_.1))) (Kd.R_base ho0) hb); replace HO240 := Aside0.mk (Kd.R_below (by exact rk (Kd.R_mono (Kd.R_far (p := ⟨gb241, 1, none⟩) (Kd.R_far (p := ⟨gb241, 0, none⟩) (Kd.R_types HO240.out BK241.out (by decide)) (fun _ hk => hk.2) (.int .i64 t237)) (fun _ hk => hk.2) (.slice Ao62 t238.length co62)) (fun _ h_ => h_.1))) hb); replace BK227 := Aside0.mk (bb BK227.out hb); replace BK241 := Aside0.mk (blk_below (g := gb241) (o := .cells #[.int .i64 t237, .slice Ao62 t238.length co62] 29 (0, 0)) (by (with_reducible repeat (first | refine blk_drewN ?_ _ | refine blk_drew ?_ | refine blk_alloc ?_ _)); refine blk_put (cs := #[.int .i64 t237, .slice none 0 0]) ?_ 1 _ rfl; (with_reducible repeat (first | refine blk_drewN ?_ _ | refine blk_drew ?_ | refine blk_alloc ?_ _)); refine blk_put (cs := #[.int .i64 0, .slice none 0 0]) ?_ 0 _ rfl; (with_reducible repeat (first | refine blk_drewN ?_ _ | refine blk_drew ?_ | refine blk_alloc ?_ _)); exact BK241.out) hb); replace HB := Aside0.mk (below_step bel hb); (try clear hb); (try clear ho0); obtain ⟨hcz64_0, hcz64_1, hfz64_0, hfz64_1⟩ := cf2 BK241.out; obtain ⟨Ao65, co65, eo65⟩ := Kd.R_slice HO244.out; subst eo65) | ((with_reducible refine gate_callee (f := 22) rfl ?_); refine goesL_ (some 29) rfl rfl Try.func22 (by kernel_rfl) rfl #[.agg #[.int .i64 t237, .slice Ao62 t238.length co62], .slice Ao65 t242.length co65] rfl ga ?_; (with_reducible refine (impl_CutLimit.calls k t237 _ _ t238 _ _ t242 t245 _ ?side1 ?side2 ?side3 ?side4 A15.out).mono ?_); (case side1 => exact ck (Kd.R_reads' HO240.out).2.2); (case side2 => exact (Kd.R_reads' HO240.out).2.1); (case side3 => exact ck (Kd.R_reads' HO244.out).2.2); (case side4 => exact (Kd.R_reads' HO244.out).2.1); rintro e w66 ⟨rfl, hb⟩; refine ⟨_, rfl, ?_⟩; replace HO232 := Aside0.mk (Kd.R_below (rk HO232.out) hb); replace HO235 := Aside0.mk (Kd.R_below (rk HO235.out) hb); replace HO240 := Aside0.mk (Kd.R_below (rk HO240.out) hb); replace HO244 := Aside0.mk (Kd.R_below (rk HO244.out) hb); replace BK227 := Aside0.mk (bb BK227.out hb); replace BK241 := Aside0.mk (bb BK241.out hb); replace HB := Aside0.mk (below_step bel hb); (try clear hb)))
            replace HO232 := Aside0.mk (Kd.R_drew HO232.out)
            replace HO235 := Aside0.mk (Kd.R_drew HO235.out)
            replace HO240 := Aside0.mk (Kd.R_drew HO240.out)
            replace HO244 := Aside0.mk (Kd.R_drew HO244.out)
            replace BK227 := Aside0.mk (blk_drew BK227.out)
            replace BK241 := Aside0.mk (blk_drew BK241.out)
            replace HB := Aside0.mk (below_drew1 HB.out)
            refine start_ (n := 5) (S := fun w' => w'.cell? ⟨gb241, 0, none⟩ = some (.int .i64 t237) ∧ w'.cell? ⟨gb241, 1, none⟩ = some (.slice Ao62 t238.length co62) ∧ w'.cell? ⟨gb227, 0, none⟩ = some (.int .i64 a0_0) ∧ w'.cell? ⟨gb227, 1, none⟩ = some (.slice A0_1 l0_1.length c0_1)) (ds := []) #[false, false, false, false, false] (by kernel_rfl) rfl rfl ⟨(blk_cell BK241.out 0).trans rfl, (blk_cell BK241.out 1).trans rfl, (blk_cell BK227.out 0).trans rfl, (blk_cell BK227.out 1).trans rfl⟩ (fun hHeld => ?_)
            generalize w66.drew = w67 at HO232 HO235 HO240 HO244 BK227 BK241 HB hHeld ⊢
            refine take_ (i := 0) (N := some 33) (v := ?_) (a' := ?_) #[true, false, false, false, false] rfl rfl (by kernel_rfl) (fun _ _ _ h => h) (Or.inl ⟨by rfl, ?_⟩) hHeld ?_ ?_
            rotate_left
            · rintro w' ⟨s0, s1, s2, s3⟩
              go_simp
              with_reducible rfl
            rotate_left
            · simp only [Act.put, List.setIfInBounds_toArray, List.set_cons_zero, List.set_cons_succ, i64_w, i32_w]
              rfl
            refine take_ (i := 1) (N := some 34) (v := ?_) (a' := ?_) #[true, true, false, false, false] rfl rfl (by kernel_rfl) (fun _ _ _ h => h) (Or.inl ⟨by rfl, ?_⟩) hHeld ?_ ?_
            rotate_left
            · rintro w' ⟨s0, s1, s2, s3⟩
              go_simp
              with_reducible rfl
            rotate_left
            · simp only [Act.put, List.setIfInBounds_toArray, List.set_cons_zero, List.set_cons_succ, i64_w, i32_w]
              rfl
            refine one_ (i := 2) (N := some 35) #[true, true, true, false, false] rfl rfl (by kernel_rfl) (by decide) (fun K hK => ?_)
            refine goes_ Try.func13 (by kernel_rfl) rfl #[.agg #[.int .i64 a0_0, .slice A0_1 l0_1.length c0_1]] (by rfl) rfl rfl ga ?_
            with_reducible refine (laws_toNet.calls k a0_0 _ _ l0_1 t246 t247 _ ?side1 ?side2 A17.out).mono ?_
            (case side1 => exact ck (Kd.C_below HR0_1.out HB.out))
            (case side2 => exact HC0_1.out)
            rintro e w68 ⟨v248, rfl, ho0, hb⟩
            refine ⟨_, rfl, ?_⟩
            have HO249 := Aside0.mk (Kd.R_lower (Kd.R_new' (Kd.R_new' ho0 (Kd.R_lt (rk HO232.out))) (Kd.R_lt (rk HO240.out))) (below_size bel))
            replace HO232 := Aside0.mk (Kd.R_elder' (rk HO232.out) (Kd.R_base ho0) hb)
            replace HO235 := Aside0.mk (Kd.R_below (rk HO235.out) hb)
            replace HO240 := Aside0.mk (Kd.R_elder' (rk HO240.out) (Kd.R_base ho0) hb)
            replace HO244 := Aside0.mk (Kd.R_below (rk HO244.out) hb)
            replace BK227 := Aside0.mk (bb BK227.out hb)
            replace BK241 := Aside0.mk (bb BK241.out hb)
            replace HB := Aside0.mk (below_step bel hb)
            (try clear hb)
            (try clear hb2)
            (try clear hk)
            (try clear hi)
            (try clear ho0)
            obtain ⟨Ao69, co69, eo69⟩ := Kd.R_slice HO249.out
            (first | subst eo69 | (injection eo69 with f1_ f2_ f3_; have f4_ := f1_.symm; have f5_ := f3_.symm; clear f1_ f2_ f3_; subst f4_; subst f5_))
            refine hK.out _ _ ⟨(blk_cell BK241.out 0).trans rfl, (blk_cell BK241.out 1).trans rfl, (blk_cell BK227.out 0).trans rfl, (blk_cell BK227.out 1).trans rfl⟩ (fun hHeld => ?_)
            clear hK K
            refine norm_ (a' := ?_) ?_ ?_
            rotate_left
            · show Act.put _ (some 35) _ = _
              simp only [Act.put, List.setIfInBounds_toArray, List.set_cons_zero, List.set_cons_succ, i64_w, i32_w]
              rfl
            refine one_ (i := 3) (N := some 36) #[true, true, true, true, false] rfl rfl (by kernel_rfl) (by decide) (fun K hK => ?_)
            refine goes_ Try.func15 (by kernel_rfl) rfl #[.agg #[.int .i64 t237, .slice Ao62 t238.length co62], .agg #[.int .i64 t246, .slice Ao69 t247.length co69]] (by rfl) rfl rfl ga ?_
            with_reducible refine (laws_eqNet.calls k t237 _ _ t238 t246 _ _ t247 true _ ?side1 ?side2 ?side3 ?side4 A18.out).mono ?_
            (case side1 => exact ck (Kd.R_reads' HO240.out).2.2)
            (case side2 => exact (Kd.R_reads' HO240.out).2.1)
            (case side3 => exact ck (Kd.R_reads' HO249.out).2.2)
            (case side4 => exact (Kd.R_reads' HO249.out).2.1)
            rintro e w70 ⟨rfl, hb⟩
            refine ⟨_, rfl, ?_⟩
            replace HO232 := Aside0.mk (Kd.R_below (rk HO232.out) hb)
            replace HO235 := Aside0.mk (Kd.R_below (rk HO235.out) hb)
            replace HO240 := Aside0.mk (Kd.R_below (rk HO240.out) hb)
            replace HO244 := Aside0.mk (Kd.R_below (rk HO244.out) hb)
            replace HO249 := Aside0.mk (Kd.R_below (rk HO249.out) hb)
            replace BK227 := Aside0.mk (bb BK227.out hb)
            replace BK241 := Aside0.mk (bb BK241.out hb)
            replace HB := Aside0.mk (below_step bel hb)
            (try clear hb)
            (try clear hb2)
            (try clear hk)
            (try clear hi)
            refine hK.out _ _ ⟨(blk_cell BK241.out 0).trans rfl, (blk_cell BK241.out 1).trans rfl, (blk_cell BK227.out 0).trans rfl, (blk_cell BK227.out 1).trans rfl⟩ (fun hHeld => ?_)
            clear hK K
            refine norm_ (a' := ?_) ?_ ?_
            rotate_left
            · show Act.put _ (some 36) _ = _
              simp only [Act.put, List.setIfInBounds_toArray, List.set_cons_zero, List.set_cons_succ, i64_w, i32_w]
              rfl
            refine pure_ (i := 4) (N := some 37) (v := ?_) (a' := ?_) #[true, true, true, true, true] rfl rfl (by kernel_rfl) (fun _ _ _ h => h) (Or.inl ⟨by rfl, ?_⟩) ?_ ?_
            rotate_left
            · intro w'
              go_simp
              with_reducible rfl
            rotate_left
            · simp only [Act.put, List.setIfInBounds_toArray, List.set_cons_zero, List.set_cons_succ, i64_w, i32_w]
              rfl
            refine done_ (by kernel_rfl) ?_
            try go_wp2_with (first | ((with_reducible refine gate_callee (f := 21) rfl ?_); refine goesL_ (some 40) rfl rfl Try.func21 (by kernel_rfl) rfl #[.slice A1 l1.length c1] rfl ga ?_; (with_reducible refine (laws_toBoolS.calls k _ _ l1 t251 _ ?side1 ?side2 A20.out).mono ?_); (case side1 => exact ck (Kd.C_below HR1.out HB.out)); (case side2 => exact HC1.out); rintro e w71 ⟨v252, rfl, ho0, hb⟩; refine ⟨_, rfl, ?_⟩; have HO253 := Aside0.mk (Kd.R_lower (Kd.R_new' (Kd.R_new' ho0 (Kd.R_lt (rk HO235.out))) (Kd.R_lt (rk HO244.out))) (below_size bel)); replace HO232 := Aside0.mk (Kd.R_below (rk HO232.out) hb); replace HO235 := Aside0.mk (Kd.R_elder' (rk HO235.out) (Kd.R_base ho0) hb); replace HO240 := Aside0.mk (Kd.R_below (rk HO240.out) hb); replace HO244 := Aside0.mk (Kd.R_elder' (rk HO244.out) (Kd.R_base ho0) hb); replace HO249 := Aside0.mk (Kd.R_below (rk HO249.out) hb); replace BK227 := Aside0.mk (bb BK227.out hb); replace BK241 := Aside0.mk (bb BK241.out hb); replace HB := Aside0.mk (below_step bel hb); (try clear hb); (try clear ho0); obtain ⟨Ao72, co72, eo72⟩ := Kd.R_slice HO253.out; subst eo72) | ((with_reducible refine gate_callee (f := 23) rfl ?_); refine goesL_ (some 41) rfl rfl Try.func23 (by kernel_rfl) rfl #[.slice Ao65 t242.length co65, .slice Ao72 t251.length co72] rfl ga ?_; (with_reducible refine (laws_eqBoolS.calls k _ _ t242 _ _ t251 false _ ?side1 ?side2 ?side3 ?side4 A21.out).mono ?_); (case side1 => exact ck (Kd.R_reads' HO244.out).2.2); (case side2 => exact (Kd.R_reads' HO244.out).2.1); (case side3 => exact ck (Kd.R_reads' HO253.out).2.2); (case side4 => exact (Kd.R_reads' HO253.out).2.1); rintro e w' ⟨rfl, ⟨nd, rfl⟩⟩; refine ⟨_, rfl, ?_⟩))
            go_ret
            exact ⟨er, bel⟩
        · replace c19 := Bool.eq_false_iff.mpr c19
          subst c19
          have H1 : (some false) = some r := by rw [if_neg (show ¬ (false = true) by decide)] at H; exact H
          clear H
          have H := H1
          clear H1
          obtain rfl := Option.some.inj H
          go_enter Try.func5, Try.ntmps5
          try go_wp2_with (first | ((with_reducible refine gate_dst (N := 2) rfl ?_); refine box_event ?hg (N := 2) ?hd (cs := #[.int .i64 a0_0, .slice A0_1 l0_1.length c0_1]) (t := 24) ?hr ?_; (case hd => rfl); (case hg => rfl); (case hr => first | (go_simp; done) | (go_simp; rfl)); intro gb227 hg w73 hbox hb; have BK227 := Aside0.mk (hbox); have GW227 := Aside0.mk ((bsz hg : w.heap.size ≤ gb227)); have GE227 := Aside0.mk ((bsz hg : w.heap.size ≤ gb227)); replace HB := Aside0.mk (below_step bel hb); clear hb hbox hg; obtain ⟨hcz74_0, hcz74_1, hfz74_0, hfz74_1⟩ := cf2 BK227.out) | ((with_reducible refine gate_callee (f := 11) rfl ?_); refine goesL_ (some 15) rfl rfl Try.func11 (by kernel_rfl) rfl #[.agg #[.int .i64 a0_0, .slice A0_1 l0_1.length c0_1], .int .i64 1048576] rfl ga ?_; (with_reducible refine (laws_szNet.calls a0_0 _ _ l0_1 1048576 t228 _ ?side1 ?side2 A5.out).mono ?_); (case side1 => exact ck (Kd.C_below HR0_1.out HB.out)); (case side2 => exact HC0_1.out); rintro e w75 ⟨rfl, hb⟩; refine ⟨_, rfl, ?_⟩; replace BK227 := Aside0.mk (bb BK227.out hb); replace HB := Aside0.mk (below_step bel hb); (try clear hb); obtain ⟨hcz76_0, hcz76_1, hfz76_0, hfz76_1⟩ := cf2 BK227.out) | ((with_reducible refine gate_callee (f := 13) rfl ?_); refine goesL_ (some 19) rfl rfl Try.func13 (by kernel_rfl) rfl #[.agg #[.int .i64 a0_0, .slice A0_1 l0_1.length c0_1]] rfl ga ?_; (with_reducible refine (laws_toNet.calls k a0_0 _ _ l0_1 t229 t230 _ ?side1 ?side2 A10.out).mono ?_); (case side1 => exact ck (Kd.C_below HR0_1.out HB.out)); (case side2 => exact HC0_1.out); rintro e w77 ⟨v231, rfl, ho0, hb⟩; refine ⟨_, rfl, ?_⟩; have HO232 := Aside0.mk (Kd.R_lower ho0 (below_size bel)); replace BK227 := Aside0.mk (bb BK227.out hb); replace HB := Aside0.mk (below_step bel hb); (try clear hb); (try clear ho0)) | ((with_reducible refine gate_callee (f := 21) rfl ?_); refine goesL_ (some 21) rfl rfl Try.func21 (by kernel_rfl) rfl #[.slice A1 l1.length c1] rfl ga ?_; (with_reducible refine (laws_toBoolS.calls k _ _ l1 t233 _ ?side1 ?side2 A11.out).mono ?_); (case side1 => exact ck (Kd.C_below HR1.out HB.out)); (case side2 => exact HC1.out); rintro e w78 ⟨v234, rfl, ho0, hb⟩; refine ⟨_, rfl, ?_⟩; have HO235 := Aside0.mk (Kd.R_lower ho0 (below_size bel)); replace HO232 := Aside0.mk (Kd.R_below (rk HO232.out) hb); replace BK227 := Aside0.mk (bb BK227.out hb); replace HB := Aside0.mk (below_step bel hb); (try clear hb); (try clear ho0); obtain ⟨Ao79, co79, eo79⟩ := Kd.R_slice HO232.out; subst eo79; obtain ⟨Ao80, co80, eo80⟩ := Kd.R_slice HO235.out; subst eo80) | ((with_reducible refine gate_callee (f := 20) rfl ?_); refine goesL_ (some 22) rfl rfl Try.func20 (by kernel_rfl) rfl #[.agg #[.int .i64 t229, .slice Ao79 t230.length co79], .slice Ao80 t233.length co80] rfl ga ?_; (with_reducible refine (spec_CutLimit.calls k t229 _ _ t230 _ _ t233 t236 _ ?side1 ?side2 ?side3 ?side4 A12.out).mono ?_); (case side1 => exact ck (Kd.R_reads' HO232.out).2.2); (case side2 => exact (Kd.R_reads' HO232.out).2.1); (case side3 => exact ck (Kd.R_reads' HO235.out).2.2); (case side4 => exact (Kd.R_reads' HO235.out).2.1); rintro e w81 ⟨rfl, hb⟩; refine ⟨_, rfl, ?_⟩; replace HO232 := Aside0.mk (Kd.R_below (rk HO232.out) hb); replace HO235 := Aside0.mk (Kd.R_below (rk HO235.out) hb); replace BK227 := Aside0.mk (bb BK227.out hb); replace HB := Aside0.mk (below_step bel hb); (try clear hb); obtain ⟨hcz82_0, hcz82_1, hfz82_0, hfz82_1⟩ := cf2 BK227.out) | ((with_reducible refine gate_callee (f := 13) rfl ?_); refine goesL_ (some 24) rfl rfl Try.func13 (by kernel_rfl) rfl #[.agg #[.int .i64 a0_0, .slice A0_1 l0_1.length c0_1]] rfl ga ?_; (with_reducible refine (laws_toNet.calls k a0_0 _ _ l0_1 t237 t238 _ ?side1 ?side2 A13.out).mono ?_); (case side1 => exact ck (Kd.C_below HR0_1.out HB.out)); (case side2 => exact HC0_1.out); rintro e w83 ⟨v239, rfl, ho0, hb⟩; refine ⟨_, rfl, ?_⟩; have HO240 := Aside0.mk (Kd.R_lower (Kd.R_new' ho0 (Kd.R_lt (rk HO232.out))) (below_size bel)); replace HO232 := Aside0.mk (Kd.R_elder' (rk HO232.out) (Kd.R_base ho0) hb); replace HO235 := Aside0.mk (Kd.R_below (rk HO235.out) hb); replace BK227 := Aside0.mk (bb BK227.out hb); replace HB := Aside0.mk (below_step bel hb); (try clear hb); (try clear ho0)) | ((with_reducible refine gate_dst (N := 7) rfl ?_); refine box_event ?hg (N := 7) ?hd (cs := #[.int .i64 0, .slice none 0 0]) (t := 29) ?hr ?_; (case hd => rfl); (case hg => rfl); (case hr => first | (go_simp; done) | (go_simp; rfl)); intro gb241 hg w84 hbox hb; have BK241 := Aside0.mk (hbox); have GW241 := Aside0.mk ((bsz hg : w.heap.size ≤ gb241)); have GE241 := Aside0.mk ((bsz hg : w.heap.size ≤ gb241)); have NB227_241 := Aside0.mk ((nlt hg BK227.out : gb227 ≠ gb241)); have NB241_227 := Aside0.mk ((ngt hg BK227.out : gb241 ≠ gb227)); replace HO232 := Aside0.mk (Kd.R_below (rk HO232.out) hb); replace HO235 := Aside0.mk (Kd.R_below (rk HO235.out) hb); replace HO240 := Aside0.mk (Kd.R_below (rk HO240.out) hb); replace BK227 := Aside0.mk (bb BK227.out hb); replace HB := Aside0.mk (below_step bel hb); clear hb hbox hg; have hnb85 := NB241_227.out; have hnc85 := NB227_241.out; obtain ⟨hcz86_0, hcz86_1, hfz86_0, hfz86_1⟩ := cf2 BK241.out; obtain ⟨Ao87, co87, eo87⟩ := Kd.R_slice HO240.out; subst eo87) | ((with_reducible refine gate_callee (f := 21) rfl ?_); refine goesL_ (some 26) rfl rfl Try.func21 (by kernel_rfl) rfl #[.slice A1 l1.length c1] rfl ga ?_; (with_reducible refine (laws_toBoolS.calls k _ _ l1 t242 _ ?side1 ?side2 A14.out).mono ?_); (case side1 => exact Kd.C_below HR1.out bel); (case side2 => exact HC1.out); rintro e w88 ⟨v243, rfl, ho0, hb⟩; refine ⟨_, rfl, ?_⟩; have HO244 := Aside0.mk (Kd.R_lower (Kd.R_new' ho0 (Kd.R_lt (by exact rk (Kd.R_mono (Kd.R_far (p := ⟨gb241, 1, none⟩) (Kd.R_far (p := ⟨gb241, 0, none⟩) (Kd.R_types HO235.out BK241.out (by decide)) (fun _ hk => hk.2) (.int .i64 t237)) (fun _ hk => hk.2) (.slice Ao87 t238.length co87)) (fun _ h_ => h_.1))))) (below_size bel)); replace HO232 := Aside0.mk (Kd.R_below (by exact rk (Kd.R_mono (Kd.R_far (p := ⟨gb241, 1, none⟩) (Kd.R_far (p := ⟨gb241, 0, none⟩) (Kd.R_types HO232.out BK241.out (by decide)) (fun _ hk => hk.2) (.int .i64 t237)) (fun _ hk => hk.2) (.slice Ao87 t238.length co87)) (fun _ h_ => h_.1))) hb); replace HO235 := Aside0.mk (Kd.R_elder' (by exact rk (Kd.R_mono (Kd.R_far (p := ⟨gb241, 1, none⟩) (Kd.R_far (p := ⟨gb241, 0, none⟩) (Kd.R_types HO235.out BK241.out (by decide)) (fun _ hk => hk.2) (.int .i64 t237)) (fun _ hk => hk.2) (.slice Ao87 t238.length co87)) (fun _ h_ => h_.1))) (Kd.R_base ho0) hb); replace HO240 := Aside0.mk (Kd.R_below (by exact rk (Kd.R_mono (Kd.R_far (p := ⟨gb241, 1, none⟩) (Kd.R_far (p := ⟨gb241, 0, none⟩) (Kd.R_types HO240.out BK241.out (by decide)) (fun _ hk => hk.2) (.int .i64 t237)) (fun _ hk => hk.2) (.slice Ao87 t238.length co87)) (fun _ h_ => h_.1))) hb); replace BK227 := Aside0.mk (bb BK227.out hb); replace BK241 := Aside0.mk (blk_below (g := gb241) (o := .cells #[.int .i64 t237, .slice Ao87 t238.length co87] 29 (0, 0)) (by (with_reducible repeat (first | refine blk_drewN ?_ _ | refine blk_drew ?_ | refine blk_alloc ?_ _)); refine blk_put (cs := #[.int .i64 t237, .slice none 0 0]) ?_ 1 _ rfl; (with_reducible repeat (first | refine blk_drewN ?_ _ | refine blk_drew ?_ | refine blk_alloc ?_ _)); refine blk_put (cs := #[.int .i64 0, .slice none 0 0]) ?_ 0 _ rfl; (with_reducible repeat (first | refine blk_drewN ?_ _ | refine blk_drew ?_ | refine blk_alloc ?_ _)); exact BK241.out) hb); replace HB := Aside0.mk (below_step bel hb); (try clear hb); (try clear ho0); obtain ⟨hcz89_0, hcz89_1, hfz89_0, hfz89_1⟩ := cf2 BK241.out; obtain ⟨Ao90, co90, eo90⟩ := Kd.R_slice HO244.out; subst eo90) | ((with_reducible refine gate_callee (f := 22) rfl ?_); refine goesL_ (some 29) rfl rfl Try.func22 (by kernel_rfl) rfl #[.agg #[.int .i64 t237, .slice Ao87 t238.length co87], .slice Ao90 t242.length co90] rfl ga ?_; (with_reducible refine (impl_CutLimit.calls k t237 _ _ t238 _ _ t242 t245 _ ?side1 ?side2 ?side3 ?side4 A15.out).mono ?_); (case side1 => exact ck (Kd.R_reads' HO240.out).2.2); (case side2 => exact (Kd.R_reads' HO240.out).2.1); (case side3 => exact ck (Kd.R_reads' HO244.out).2.2); (case side4 => exact (Kd.R_reads' HO244.out).2.1); rintro e w91 ⟨rfl, hb⟩; refine ⟨_, rfl, ?_⟩; replace HO232 := Aside0.mk (Kd.R_below (rk HO232.out) hb); replace HO235 := Aside0.mk (Kd.R_below (rk HO235.out) hb); replace HO240 := Aside0.mk (Kd.R_below (rk HO240.out) hb); replace HO244 := Aside0.mk (Kd.R_below (rk HO244.out) hb); replace BK227 := Aside0.mk (bb BK227.out hb); replace BK241 := Aside0.mk (bb BK241.out hb); replace HB := Aside0.mk (below_step bel hb); (try clear hb)))
          replace HO232 := Aside0.mk (Kd.R_drew HO232.out)
          replace HO235 := Aside0.mk (Kd.R_drew HO235.out)
          replace HO240 := Aside0.mk (Kd.R_drew HO240.out)
          replace HO244 := Aside0.mk (Kd.R_drew HO244.out)
          replace BK227 := Aside0.mk (blk_drew BK227.out)
          replace BK241 := Aside0.mk (blk_drew BK241.out)
          replace HB := Aside0.mk (below_drew1 HB.out)
          refine start_ (n := 5) (S := fun w' => w'.cell? ⟨gb241, 0, none⟩ = some (.int .i64 t237) ∧ w'.cell? ⟨gb241, 1, none⟩ = some (.slice Ao87 t238.length co87) ∧ w'.cell? ⟨gb227, 0, none⟩ = some (.int .i64 a0_0) ∧ w'.cell? ⟨gb227, 1, none⟩ = some (.slice A0_1 l0_1.length c0_1)) (ds := []) #[false, false, false, false, false] (by kernel_rfl) rfl rfl ⟨(blk_cell BK241.out 0).trans rfl, (blk_cell BK241.out 1).trans rfl, (blk_cell BK227.out 0).trans rfl, (blk_cell BK227.out 1).trans rfl⟩ (fun hHeld => ?_)
          generalize w91.drew = w92 at HO232 HO235 HO240 HO244 BK227 BK241 HB hHeld ⊢
          refine take_ (i := 0) (N := some 33) (v := ?_) (a' := ?_) #[true, false, false, false, false] rfl rfl (by kernel_rfl) (fun _ _ _ h => h) (Or.inl ⟨by rfl, ?_⟩) hHeld ?_ ?_
          rotate_left
          · rintro w' ⟨s0, s1, s2, s3⟩
            go_simp
            with_reducible rfl
          rotate_left
          · simp only [Act.put, List.setIfInBounds_toArray, List.set_cons_zero, List.set_cons_succ, i64_w, i32_w]
            rfl
          refine take_ (i := 1) (N := some 34) (v := ?_) (a' := ?_) #[true, true, false, false, false] rfl rfl (by kernel_rfl) (fun _ _ _ h => h) (Or.inl ⟨by rfl, ?_⟩) hHeld ?_ ?_
          rotate_left
          · rintro w' ⟨s0, s1, s2, s3⟩
            go_simp
            with_reducible rfl
          rotate_left
          · simp only [Act.put, List.setIfInBounds_toArray, List.set_cons_zero, List.set_cons_succ, i64_w, i32_w]
            rfl
          refine one_ (i := 2) (N := some 35) #[true, true, true, false, false] rfl rfl (by kernel_rfl) (by decide) (fun K hK => ?_)
          refine goes_ Try.func13 (by kernel_rfl) rfl #[.agg #[.int .i64 a0_0, .slice A0_1 l0_1.length c0_1]] (by rfl) rfl rfl ga ?_
          with_reducible refine (laws_toNet.calls k a0_0 _ _ l0_1 t246 t247 _ ?side1 ?side2 A17.out).mono ?_
          (case side1 => exact ck (Kd.C_below HR0_1.out HB.out))
          (case side2 => exact HC0_1.out)
          rintro e w93 ⟨v248, rfl, ho0, hb⟩
          refine ⟨_, rfl, ?_⟩
          have HO249 := Aside0.mk (Kd.R_lower (Kd.R_new' (Kd.R_new' ho0 (Kd.R_lt (rk HO232.out))) (Kd.R_lt (rk HO240.out))) (below_size bel))
          replace HO232 := Aside0.mk (Kd.R_elder' (rk HO232.out) (Kd.R_base ho0) hb)
          replace HO235 := Aside0.mk (Kd.R_below (rk HO235.out) hb)
          replace HO240 := Aside0.mk (Kd.R_elder' (rk HO240.out) (Kd.R_base ho0) hb)
          replace HO244 := Aside0.mk (Kd.R_below (rk HO244.out) hb)
          replace BK227 := Aside0.mk (bb BK227.out hb)
          replace BK241 := Aside0.mk (bb BK241.out hb)
          replace HB := Aside0.mk (below_step bel hb)
          (try clear hb)
          (try clear hb2)
          (try clear hk)
          (try clear hi)
          (try clear ho0)
          obtain ⟨Ao94, co94, eo94⟩ := Kd.R_slice HO249.out
          (first | subst eo94 | (injection eo94 with f1_ f2_ f3_; have f4_ := f1_.symm; have f5_ := f3_.symm; clear f1_ f2_ f3_; subst f4_; subst f5_))
          refine hK.out _ _ ⟨(blk_cell BK241.out 0).trans rfl, (blk_cell BK241.out 1).trans rfl, (blk_cell BK227.out 0).trans rfl, (blk_cell BK227.out 1).trans rfl⟩ (fun hHeld => ?_)
          clear hK K
          refine norm_ (a' := ?_) ?_ ?_
          rotate_left
          · show Act.put _ (some 35) _ = _
            simp only [Act.put, List.setIfInBounds_toArray, List.set_cons_zero, List.set_cons_succ, i64_w, i32_w]
            rfl
          refine one_ (i := 3) (N := some 36) #[true, true, true, true, false] rfl rfl (by kernel_rfl) (by decide) (fun K hK => ?_)
          refine goes_ Try.func15 (by kernel_rfl) rfl #[.agg #[.int .i64 t237, .slice Ao87 t238.length co87], .agg #[.int .i64 t246, .slice Ao94 t247.length co94]] (by rfl) rfl rfl ga ?_
          with_reducible refine (laws_eqNet.calls k t237 _ _ t238 t246 _ _ t247 false _ ?side1 ?side2 ?side3 ?side4 A18.out).mono ?_
          (case side1 => exact ck (Kd.R_reads' HO240.out).2.2)
          (case side2 => exact (Kd.R_reads' HO240.out).2.1)
          (case side3 => exact ck (Kd.R_reads' HO249.out).2.2)
          (case side4 => exact (Kd.R_reads' HO249.out).2.1)
          rintro e w95 ⟨rfl, hb⟩
          refine ⟨_, rfl, ?_⟩
          replace HO232 := Aside0.mk (Kd.R_below (rk HO232.out) hb)
          replace HO235 := Aside0.mk (Kd.R_below (rk HO235.out) hb)
          replace HO240 := Aside0.mk (Kd.R_below (rk HO240.out) hb)
          replace HO244 := Aside0.mk (Kd.R_below (rk HO244.out) hb)
          replace HO249 := Aside0.mk (Kd.R_below (rk HO249.out) hb)
          replace BK227 := Aside0.mk (bb BK227.out hb)
          replace BK241 := Aside0.mk (bb BK241.out hb)
          replace HB := Aside0.mk (below_step bel hb)
          (try clear hb)
          (try clear hb2)
          (try clear hk)
          (try clear hi)
          refine hK.out _ _ ⟨(blk_cell BK241.out 0).trans rfl, (blk_cell BK241.out 1).trans rfl, (blk_cell BK227.out 0).trans rfl, (blk_cell BK227.out 1).trans rfl⟩ (fun hHeld => ?_)
          clear hK K
          refine norm_ (a' := ?_) ?_ ?_
          rotate_left
          · show Act.put _ (some 36) _ = _
            simp only [Act.put, List.setIfInBounds_toArray, List.set_cons_zero, List.set_cons_succ, i64_w, i32_w]
            rfl
          refine pure_ (i := 4) (N := some 37) (v := ?_) (a' := ?_) #[true, true, true, true, true] rfl rfl (by kernel_rfl) (fun _ _ _ h => h) (Or.inl ⟨by rfl, ?_⟩) ?_ ?_
          rotate_left
          · intro w'
            go_simp
            with_reducible rfl
          rotate_left
          · simp only [Act.put, List.setIfInBounds_toArray, List.set_cons_zero, List.set_cons_succ, i64_w, i32_w]
            rfl
          refine done_ (by kernel_rfl) ?_
          try go_wp2
          go_ret
          exact ⟨er, bel⟩
      · rw [if_neg c16] at H
        have c16b0 : (t245 == t236) = false := beq_eq_false_iff_ne.mpr c16
        have c16b1 : (t245 != t236) = true := bne_iff_ne.mpr c16
        obtain rfl := Option.some.inj H
        go_enter Try.func5, Try.ntmps5
        go_wp2_with (first | ((with_reducible refine gate_dst (N := 2) rfl ?_); refine box_event ?hg (N := 2) ?hd (cs := #[.int .i64 a0_0, .slice A0_1 l0_1.length c0_1]) (t := 24) ?hr ?_; (case hd => rfl); (case hg => rfl); (case hr => first | (go_simp; done) | (go_simp; rfl)); intro gb227 hg w96 hbox hb; have BK227 := Aside0.mk (hbox); have GW227 := Aside0.mk ((bsz hg : w.heap.size ≤ gb227)); have GE227 := Aside0.mk ((bsz hg : w.heap.size ≤ gb227)); replace HB := Aside0.mk (below_step bel hb); clear hb hbox hg; obtain ⟨hcz97_0, hcz97_1, hfz97_0, hfz97_1⟩ := cf2 BK227.out) | ((with_reducible refine gate_callee (f := 11) rfl ?_); refine goesL_ (some 15) rfl rfl Try.func11 (by kernel_rfl) rfl #[.agg #[.int .i64 a0_0, .slice A0_1 l0_1.length c0_1], .int .i64 1048576] rfl ga ?_; (with_reducible refine (laws_szNet.calls a0_0 _ _ l0_1 1048576 t228 _ ?side1 ?side2 A5.out).mono ?_); (case side1 => exact ck (Kd.C_below HR0_1.out HB.out)); (case side2 => exact HC0_1.out); rintro e w98 ⟨rfl, hb⟩; refine ⟨_, rfl, ?_⟩; replace BK227 := Aside0.mk (bb BK227.out hb); replace HB := Aside0.mk (below_step bel hb); (try clear hb); obtain ⟨hcz99_0, hcz99_1, hfz99_0, hfz99_1⟩ := cf2 BK227.out) | ((with_reducible refine gate_callee (f := 13) rfl ?_); refine goesL_ (some 19) rfl rfl Try.func13 (by kernel_rfl) rfl #[.agg #[.int .i64 a0_0, .slice A0_1 l0_1.length c0_1]] rfl ga ?_; (with_reducible refine (laws_toNet.calls k a0_0 _ _ l0_1 t229 t230 _ ?side1 ?side2 A10.out).mono ?_); (case side1 => exact ck (Kd.C_below HR0_1.out HB.out)); (case side2 => exact HC0_1.out); rintro e w100 ⟨v231, rfl, ho0, hb⟩; refine ⟨_, rfl, ?_⟩; have HO232 := Aside0.mk (Kd.R_lower ho0 (below_size bel)); replace BK227 := Aside0.mk (bb BK227.out hb); replace HB := Aside0.mk (below_step bel hb); (try clear hb); (try clear ho0)) | ((with_reducible refine gate_callee (f := 21) rfl ?_); refine goesL_ (some 21) rfl rfl Try.func21 (by kernel_rfl) rfl #[.slice A1 l1.length c1] rfl ga ?_; (with_reducible refine (laws_toBoolS.calls k _ _ l1 t233 _ ?side1 ?side2 A11.out).mono ?_); (case side1 => exact ck (Kd.C_below HR1.out HB.out)); (case side2 => exact HC1.out); rintro e w101 ⟨v234, rfl, ho0, hb⟩; refine ⟨_, rfl, ?_⟩; have HO235 := Aside0.mk (Kd.R_lower ho0 (below_size bel)); replace HO232 := Aside0.mk (Kd.R_below (rk HO232.out) hb); replace BK227 := Aside0.mk (bb BK227.out hb); replace HB := Aside0.mk (below_step bel hb); (try clear hb); (try clear ho0); obtain ⟨Ao102, co102, eo102⟩ := Kd.R_slice HO232.out; subst eo102; obtain ⟨Ao103, co103, eo103⟩ := Kd.R_slice HO235.out; subst eo103) | ((with_reducible refine gate_callee (f := 20) rfl ?_); refine goesL_ (some 22) rfl rfl Try.func20 (by kernel_rfl) rfl #[.agg #[.int .i64 t229, .slice Ao102 t230.length co102], .slice Ao103 t233.length co103] rfl ga ?_; (with_reducible refine (spec_CutLimit.calls k t229 _ _ t230 _ _ t233 t236 _ ?side1 ?side2 ?side3 ?side4 A12.out).mono ?_); (case side1 => exact ck (Kd.R_reads' HO232.out).2.2); (case side2 => exact (Kd.R_reads' HO232.out).2.1); (case side3 => exact ck (Kd.R_reads' HO235.out).2.2); (case side4 => exact (Kd.R_reads' HO235.out).2.1); rintro e w104 ⟨rfl, hb⟩; refine ⟨_, rfl, ?_⟩; replace HO232 := Aside0.mk (Kd.R_below (rk HO232.out) hb); replace HO235 := Aside0.mk (Kd.R_below (rk HO235.out) hb); replace BK227 := Aside0.mk (bb BK227.out hb); replace HB := Aside0.mk (below_step bel hb); (try clear hb); obtain ⟨hcz105_0, hcz105_1, hfz105_0, hfz105_1⟩ := cf2 BK227.out) | ((with_reducible refine gate_callee (f := 13) rfl ?_); refine goesL_ (some 24) rfl rfl Try.func13 (by kernel_rfl) rfl #[.agg #[.int .i64 a0_0, .slice A0_1 l0_1.length c0_1]] rfl ga ?_; (with_reducible refine (laws_toNet.calls k a0_0 _ _ l0_1 t237 t238 _ ?side1 ?side2 A13.out).mono ?_); (case side1 => exact ck (Kd.C_below HR0_1.out HB.out)); (case side2 => exact HC0_1.out); rintro e w106 ⟨v239, rfl, ho0, hb⟩; refine ⟨_, rfl, ?_⟩; have HO240 := Aside0.mk (Kd.R_lower (Kd.R_new' ho0 (Kd.R_lt (rk HO232.out))) (below_size bel)); replace HO232 := Aside0.mk (Kd.R_elder' (rk HO232.out) (Kd.R_base ho0) hb); replace HO235 := Aside0.mk (Kd.R_below (rk HO235.out) hb); replace BK227 := Aside0.mk (bb BK227.out hb); replace HB := Aside0.mk (below_step bel hb); (try clear hb); (try clear ho0)) | ((with_reducible refine gate_dst (N := 7) rfl ?_); refine box_event ?hg (N := 7) ?hd (cs := #[.int .i64 0, .slice none 0 0]) (t := 29) ?hr ?_; (case hd => rfl); (case hg => rfl); (case hr => first | (go_simp; done) | (go_simp; rfl)); intro gb241 hg w107 hbox hb; have BK241 := Aside0.mk (hbox); have GW241 := Aside0.mk ((bsz hg : w.heap.size ≤ gb241)); have GE241 := Aside0.mk ((bsz hg : w.heap.size ≤ gb241)); have NB227_241 := Aside0.mk ((nlt hg BK227.out : gb227 ≠ gb241)); have NB241_227 := Aside0.mk ((ngt hg BK227.out : gb241 ≠ gb227)); replace HO232 := Aside0.mk (Kd.R_below (rk HO232.out) hb); replace HO235 := Aside0.mk (Kd.R_below (rk HO235.out) hb); replace HO240 := Aside0.mk (Kd.R_below (rk HO240.out) hb); replace BK227 := Aside0.mk (bb BK227.out hb); replace HB := Aside0.mk (below_step bel hb); clear hb hbox hg; have hnb108 := NB241_227.out; have hnc108 := NB227_241.out; obtain ⟨hcz109_0, hcz109_1, hfz109_0, hfz109_1⟩ := cf2 BK241.out; obtain ⟨Ao110, co110, eo110⟩ := Kd.R_slice HO240.out; subst eo110) | ((with_reducible refine gate_callee (f := 21) rfl ?_); refine goesL_ (some 26) rfl rfl Try.func21 (by kernel_rfl) rfl #[.slice A1 l1.length c1] rfl ga ?_; (with_reducible refine (laws_toBoolS.calls k _ _ l1 t242 _ ?side1 ?side2 A14.out).mono ?_); (case side1 => exact Kd.C_below HR1.out bel); (case side2 => exact HC1.out); rintro e w111 ⟨v243, rfl, ho0, hb⟩; refine ⟨_, rfl, ?_⟩; have HO244 := Aside0.mk (Kd.R_lower (Kd.R_new' ho0 (Kd.R_lt (by exact rk (Kd.R_mono (Kd.R_far (p := ⟨gb241, 1, none⟩) (Kd.R_far (p := ⟨gb241, 0, none⟩) (Kd.R_types HO235.out BK241.out (by decide)) (fun _ hk => hk.2) (.int .i64 t237)) (fun _ hk => hk.2) (.slice Ao110 t238.length co110)) (fun _ h_ => h_.1))))) (below_size bel)); replace HO232 := Aside0.mk (Kd.R_below (by exact rk (Kd.R_mono (Kd.R_far (p := ⟨gb241, 1, none⟩) (Kd.R_far (p := ⟨gb241, 0, none⟩) (Kd.R_types HO232.out BK241.out (by decide)) (fun _ hk => hk.2) (.int .i64 t237)) (fun _ hk => hk.2) (.slice Ao110 t238.length co110)) (fun _ h_ => h_.1))) hb); replace HO235 := Aside0.mk (Kd.R_elder' (by exact rk (Kd.R_mono (Kd.R_far (p := ⟨gb241, 1, none⟩) (Kd.R_far (p := ⟨gb241, 0, none⟩) (Kd.R_types HO235.out BK241.out (by decide)) (fun _ hk => hk.2) (.int .i64 t237)) (fun _ hk => hk.2) (.slice Ao110 t238.length co110)) (fun _ h_ => h_.1))) (Kd.R_base ho0) hb); replace HO240 := Aside0.mk (Kd.R_below (by exact rk (Kd.R_mono (Kd.R_far (p := ⟨gb241, 1, none⟩) (Kd.R_far (p := ⟨gb241, 0, none⟩) (Kd.R_types HO240.out BK241.out (by decide)) (fun _ hk => hk.2) (.int .i64 t237)) (fun _ hk => hk.2) (.slice Ao110 t238.length co110)) (fun _ h_ => h_.1))) hb); replace BK227 := Aside0.mk (bb BK227.out hb); replace BK241 := Aside0.mk (blk_below (g := gb241) (o := .cells #[.int .i64 t237, .slice Ao110 t238.length co110] 29 (0, 0)) (by (with_reducible repeat (first | refine blk_drewN ?_ _ | refine blk_drew ?_ | refine blk_alloc ?_ _)); refine blk_put (cs := #[.int .i64 t237, .slice none 0 0]) ?_ 1 _ rfl; (with_reducible repeat (first | refine blk_drewN ?_ _ | refine blk_drew ?_ | refine blk_alloc ?_ _)); refine blk_put (cs := #[.int .i64 0, .slice none 0 0]) ?_ 0 _ rfl; (with_reducible repeat (first | refine blk_drewN ?_ _ | refine blk_drew ?_ | refine blk_alloc ?_ _)); exact BK241.out) hb); replace HB := Aside0.mk (below_step bel hb); (try clear hb); (try clear ho0); obtain ⟨hcz112_0, hcz112_1, hfz112_0, hfz112_1⟩ := cf2 BK241.out; obtain ⟨Ao113, co113, eo113⟩ := Kd.R_slice HO244.out; subst eo113) | ((with_reducible refine gate_callee (f := 22) rfl ?_); refine goesL_ (some 29) rfl rfl Try.func22 (by kernel_rfl) rfl #[.agg #[.int .i64 t237, .slice Ao110 t238.length co110], .slice Ao113 t242.length co113] rfl ga ?_; (with_reducible refine (impl_CutLimit.calls k t237 _ _ t238 _ _ t242 t245 _ ?side1 ?side2 ?side3 ?side4 A15.out).mono ?_); (case side1 => exact ck (Kd.R_reads' HO240.out).2.2); (case side2 => exact (Kd.R_reads' HO240.out).2.1); (case side3 => exact ck (Kd.R_reads' HO244.out).2.2); (case side4 => exact (Kd.R_reads' HO244.out).2.1); rintro e w114 ⟨rfl, hb⟩; refine ⟨_, rfl, ?_⟩; replace HO232 := Aside0.mk (Kd.R_below (rk HO232.out) hb); replace HO235 := Aside0.mk (Kd.R_below (rk HO235.out) hb); replace HO240 := Aside0.mk (Kd.R_below (rk HO240.out) hb); replace HO244 := Aside0.mk (Kd.R_below (rk HO244.out) hb); replace BK227 := Aside0.mk (bb BK227.out hb); replace BK241 := Aside0.mk (bb BK241.out hb); replace HB := Aside0.mk (below_step bel hb); (try clear hb)))
        go_ret
        exact ⟨er, bel⟩

end Go.Proofs.Yteaemblallbgpaa.X
