-- Written by a program of this session (wip/xp.py, over the kit's print) out of the translation: functions, and the walks that show them.
import Derived.Test.YteaemblallbgpaaX0
import Derived.Test.YteaemblallbgpaaX1
import Derived.Test.YteaemblallbgpaaX3
import Derived.Test.YteaemblallbgpaaX6
import Derived.Test.YteaemblallbgpaaX8
import Derived.Test.YteaemblallbgpaaX9
import Derived.Test.YteaemblallbgpaaX10
import Derived.Test.YteaemblallbgpaaX11
namespace Go.Proofs.Yteaemblallbgpaa.X
open Go.RowKit Go.Proofs.YteaemblallbgpaaW.PrintWords Go.Proofs.YteaemblallbgpaaW.PrintLast Go.Proofs.YteaemblallbgpaaW.PrintMore
attribute [local go_sem] max2_int min2_int max_two min_two max_three min_three max_four min_four   -- for this text's walks alone
set_option linter.unusedVariables false
set_option linter.unusedSimpArgs false

/-! ### laws_FnExactFlowValue: function 4 -/
def laws_FnExactFlowValue.f (k : Nat) (a0_0 : Int) (l0_1 : List (S77)) (a1 : Int) (l2 : List Int) : Option (Bool) := if (l2.length : Int) > 1048576 then (some true) else ((laws_szNet.f a0_0 l0_1 1048576).bind fun t181 => (if t181 < 0 then (some true) else ((laws_toNet.f k a0_0 l0_1).bind fun bt182 => ((laws_toIntS.f k l2).bind fun t186 => ((spec_FlowValue.f k bt182.1 bt182.2 a1 t186).bind fun t189 => ((laws_toNet.f k a0_0 l0_1).bind fun bt190 => ((laws_toIntS.f k l2).bind fun t195 => ((impl_FlowValue.f k bt190.1 bt190.2 a1 t195).bind fun t198 => (if t198 = t189 then ((laws_toNet.f k a0_0 l0_1).bind fun bt199 => ((laws_eqNet.f k bt190.1 bt190.2 bt199.1 bt199.2).bind fun t203 => (if t203 = true then ((laws_toIntS.f k l2).bind fun t204 => ((laws_eqIntS.f k t195 t204).bind fun t207 => (if t207 = true then (some true) else (some false)))) else (some false)))) else (some false))))))))))
theorem laws_FnExactFlowValue.mono : ∀ a0 a1 a2 a3 k, LeO (laws_FnExactFlowValue.f k a0 a1 a2 a3) (laws_FnExactFlowValue.f (k + 1) a0 a1 a2 a3) := by
  intro a0 a1 a2 a3 k
  unfold laws_FnExactFlowValue.f
  repeat' first
      | (with_reducible exact impl_FlowValue.mono _ _ _ _ _)
      | (with_reducible exact laws_eqIntS.mono _ _ _)
      | (with_reducible exact laws_eqNet.mono _ _ _ _ _)
      | (with_reducible exact laws_toIntS.mono _ _)
      | (with_reducible exact laws_toNet.mono _ _ _)
      | (with_reducible exact spec_FlowValue.mono _ _ _ _ _)
      | (with_reducible exact LeO.refl _)
      | (with_reducible exact LeO.none _)
      | (with_reducible refine LeO.ite ?_ ?_)
      | (with_reducible refine LeO.bind ?_ (fun _ => ?_))
      | exact impl_FlowValue.mono _ _ _ _ _
      | exact laws_eqIntS.mono _ _ _
      | exact laws_eqNet.mono _ _ _ _ _
      | exact laws_toIntS.mono _ _
      | exact laws_toNet.mono _ _ _
      | exact spec_FlowValue.mono _ _ _ _ _
      | exact LeO.none _
      | refine LeO.ite ?_ ?_
      | refine LeO.bind ?_ (fun _ => ?_)
set_option maxHeartbeats 8000000 in
set_option maxRecDepth 100000 in
theorem laws_FnExactFlowValue.calls (k : Nat) (a0_0 : Int) (A0_1 : Option Addr) (c0_1 : Nat) (l0_1 : List (S77)) (a1 : Int) (A2 : Option Addr) (c2 : Nat) (l2 : List Int) (r : Bool) (w : World) (hr0_1 : Kd.C k77 w A0_1 l0_1.length l0_1) (hc0_1 : l0_1.length ≤ c0_1) (hr2 : Kd.C (Kd.int .i64) w A2 l2.length l2) (hc2 : l2.length ≤ c2) (h : laws_FnExactFlowValue.f k a0_0 l0_1 a1 l2 = some r) :
    Calls Try.prog 4 #[.agg #[.int .i64 a0_0, .slice A0_1 l0_1.length c0_1], .int .i64 a1, .slice A2 l2.length c2] w fun e w' => e = .returned (.bool r) ∧ Below w.heap.size w w' := by
  have hu24 := Try.underlying24
  have hu29 := Try.underlying29
  have HR0_1 := Aside0.mk hr0_1
  have HC0_1 := Aside0.mk hc0_1
  clear hr0_1 hc0_1
  have HR2 := Aside0.mk hr2
  have HC2 := Aside0.mk hc2
  clear hr2 hc2
  have HB := Aside0.mk (Below.refl w.heap.size w)
  have H : (if (l2.length : Int) > 1048576 then (some true) else ((laws_szNet.f a0_0 l0_1 1048576).bind fun t181 => (if t181 < 0 then (some true) else ((laws_toNet.f k a0_0 l0_1).bind fun bt182 => ((laws_toIntS.f k l2).bind fun t186 => ((spec_FlowValue.f k bt182.1 bt182.2 a1 t186).bind fun t189 => ((laws_toNet.f k a0_0 l0_1).bind fun bt190 => ((laws_toIntS.f k l2).bind fun t195 => ((impl_FlowValue.f k bt190.1 bt190.2 a1 t195).bind fun t198 => (if t198 = t189 then ((laws_toNet.f k a0_0 l0_1).bind fun bt199 => ((laws_eqNet.f k bt190.1 bt190.2 bt199.1 bt199.2).bind fun t203 => (if t203 = true then ((laws_toIntS.f k l2).bind fun t204 => ((laws_eqIntS.f k t195 t204).bind fun t207 => (if t207 = true then (some true) else (some false)))) else (some false)))) else (some false))))))))))) = some r := h
  clear h
  by_cases c4 : (l2.length : Int) > 1048576
  · rw [if_pos c4] at H
    have c4b0 : decide (1048576 < (l2.length : Int)) = true := decide_eq_true c4
    have c4b1 : decide (1048576 < l2.length) = true := decide_eq_true (by omega)
    clear c4
    obtain rfl := Option.some.inj H
    go_enter Try.func4, Try.ntmps4
    go_wp2_with (first | ((with_reducible refine gate_dst (N := 3) rfl ?_); refine box_event ?hg (N := 3) ?hd (cs := #[.int .i64 a0_0, .slice A0_1 l0_1.length c0_1]) (t := 24) ?hr ?_; (case hd => rfl); (case hg => rfl); (case hr => first | (go_simp; done) | (go_simp; rfl)); intro gb180 hg w5 hbox hb; have BK180 := Aside0.mk (hbox); have GW180 := Aside0.mk ((bsz hg : w.heap.size ≤ gb180)); have GE180 := Aside0.mk ((bsz hg : w.heap.size ≤ gb180)); replace HB := Aside0.mk (below_step bel hb); clear hb hbox hg))
    go_ret
    exact ⟨er, bel⟩
  · rw [if_neg c4] at H
    have c4b0 : decide (1048576 < (l2.length : Int)) = false := decide_eq_false c4
    have c4b1 : decide (1048576 < l2.length) = false := decide_eq_false (by omega)
    clear c4
    replace H := Option.bind_eq_some_iff.mp H
    obtain ⟨t181, A60, H⟩ := H
    replace H : (if t181 < 0 then (some true) else ((laws_toNet.f k a0_0 l0_1).bind fun bt182 => ((laws_toIntS.f k l2).bind fun t186 => ((spec_FlowValue.f k bt182.1 bt182.2 a1 t186).bind fun t189 => ((laws_toNet.f k a0_0 l0_1).bind fun bt190 => ((laws_toIntS.f k l2).bind fun t195 => ((impl_FlowValue.f k bt190.1 bt190.2 a1 t195).bind fun t198 => (if t198 = t189 then ((laws_toNet.f k a0_0 l0_1).bind fun bt199 => ((laws_eqNet.f k bt190.1 bt190.2 bt199.1 bt199.2).bind fun t203 => (if t203 = true then ((laws_toIntS.f k l2).bind fun t204 => ((laws_eqIntS.f k t195 t204).bind fun t207 => (if t207 = true then (some true) else (some false)))) else (some false)))) else (some false))))))))) = some r := H
    have A6 := Aside0.mk A60
    clear A60
    by_cases c7 : t181 < 0
    · rw [if_pos c7] at H
      have c7b0 : decide (t181 < 0) = true := decide_eq_true c7
      clear c7
      obtain rfl := Option.some.inj H
      go_enter Try.func4, Try.ntmps4
      go_wp2_with (first | ((with_reducible refine gate_dst (N := 3) rfl ?_); refine box_event ?hg (N := 3) ?hd (cs := #[.int .i64 a0_0, .slice A0_1 l0_1.length c0_1]) (t := 24) ?hr ?_; (case hd => rfl); (case hg => rfl); (case hr => first | (go_simp; done) | (go_simp; rfl)); intro gb180 hg w8 hbox hb; have BK180 := Aside0.mk (hbox); have GW180 := Aside0.mk ((bsz hg : w.heap.size ≤ gb180)); have GE180 := Aside0.mk ((bsz hg : w.heap.size ≤ gb180)); replace HB := Aside0.mk (below_step bel hb); clear hb hbox hg; obtain ⟨hcz9_0, hcz9_1, hfz9_0, hfz9_1⟩ := cf2 BK180.out) | ((with_reducible refine gate_callee (f := 11) rfl ?_); refine goesL_ (some 17) rfl rfl Try.func11 (by kernel_rfl) rfl #[.agg #[.int .i64 a0_0, .slice A0_1 l0_1.length c0_1], .int .i64 1048576] rfl ga ?_; (with_reducible refine (laws_szNet.calls a0_0 _ _ l0_1 1048576 t181 _ ?side1 ?side2 A6.out).mono ?_); (case side1 => exact ck (Kd.C_below HR0_1.out HB.out)); (case side2 => exact HC0_1.out); rintro e w10 ⟨rfl, hb⟩; refine ⟨_, rfl, ?_⟩; replace BK180 := Aside0.mk (bb BK180.out hb); replace HB := Aside0.mk (below_step bel hb); (try clear hb)))
      go_ret
      exact ⟨er, bel⟩
    · rw [if_neg c7] at H
      have c7b0 : decide (t181 < 0) = false := decide_eq_false c7
      clear c7
      replace H := Option.bind_eq_some_iff.mp H
      obtain ⟨⟨t182, t183⟩, A110, H⟩ := H
      replace H : ((laws_toIntS.f k l2).bind fun t186 => ((spec_FlowValue.f k t182 t183 a1 t186).bind fun t189 => ((laws_toNet.f k a0_0 l0_1).bind fun bt190 => ((laws_toIntS.f k l2).bind fun t195 => ((impl_FlowValue.f k bt190.1 bt190.2 a1 t195).bind fun t198 => (if t198 = t189 then ((laws_toNet.f k a0_0 l0_1).bind fun bt199 => ((laws_eqNet.f k bt190.1 bt190.2 bt199.1 bt199.2).bind fun t203 => (if t203 = true then ((laws_toIntS.f k l2).bind fun t204 => ((laws_eqIntS.f k t195 t204).bind fun t207 => (if t207 = true then (some true) else (some false)))) else (some false)))) else (some false))))))) = some r := H
      have A11 := Aside0.mk A110
      clear A110
      replace H := Option.bind_eq_some_iff.mp H
      obtain ⟨t186, A120, H⟩ := H
      replace H : ((spec_FlowValue.f k t182 t183 a1 t186).bind fun t189 => ((laws_toNet.f k a0_0 l0_1).bind fun bt190 => ((laws_toIntS.f k l2).bind fun t195 => ((impl_FlowValue.f k bt190.1 bt190.2 a1 t195).bind fun t198 => (if t198 = t189 then ((laws_toNet.f k a0_0 l0_1).bind fun bt199 => ((laws_eqNet.f k bt190.1 bt190.2 bt199.1 bt199.2).bind fun t203 => (if t203 = true then ((laws_toIntS.f k l2).bind fun t204 => ((laws_eqIntS.f k t195 t204).bind fun t207 => (if t207 = true then (some true) else (some false)))) else (some false)))) else (some false)))))) = some r := H
      have A12 := Aside0.mk A120
      clear A120
      replace H := Option.bind_eq_some_iff.mp H
      obtain ⟨t189, A130, H⟩ := H
      replace H : ((laws_toNet.f k a0_0 l0_1).bind fun bt190 => ((laws_toIntS.f k l2).bind fun t195 => ((impl_FlowValue.f k bt190.1 bt190.2 a1 t195).bind fun t198 => (if t198 = t189 then ((laws_toNet.f k a0_0 l0_1).bind fun bt199 => ((laws_eqNet.f k bt190.1 bt190.2 bt199.1 bt199.2).bind fun t203 => (if t203 = true then ((laws_toIntS.f k l2).bind fun t204 => ((laws_eqIntS.f k t195 t204).bind fun t207 => (if t207 = true then (some true) else (some false)))) else (some false)))) else (some false))))) = some r := H
      have A13 := Aside0.mk A130
      clear A130
      replace H := Option.bind_eq_some_iff.mp H
      obtain ⟨⟨t190, t191⟩, A140, H⟩ := H
      replace H : ((laws_toIntS.f k l2).bind fun t195 => ((impl_FlowValue.f k t190 t191 a1 t195).bind fun t198 => (if t198 = t189 then ((laws_toNet.f k a0_0 l0_1).bind fun bt199 => ((laws_eqNet.f k t190 t191 bt199.1 bt199.2).bind fun t203 => (if t203 = true then ((laws_toIntS.f k l2).bind fun t204 => ((laws_eqIntS.f k t195 t204).bind fun t207 => (if t207 = true then (some true) else (some false)))) else (some false)))) else (some false)))) = some r := H
      have A14 := Aside0.mk A140
      clear A140
      replace H := Option.bind_eq_some_iff.mp H
      obtain ⟨t195, A150, H⟩ := H
      replace H : ((impl_FlowValue.f k t190 t191 a1 t195).bind fun t198 => (if t198 = t189 then ((laws_toNet.f k a0_0 l0_1).bind fun bt199 => ((laws_eqNet.f k t190 t191 bt199.1 bt199.2).bind fun t203 => (if t203 = true then ((laws_toIntS.f k l2).bind fun t204 => ((laws_eqIntS.f k t195 t204).bind fun t207 => (if t207 = true then (some true) else (some false)))) else (some false)))) else (some false))) = some r := H
      have A15 := Aside0.mk A150
      clear A150
      replace H := Option.bind_eq_some_iff.mp H
      obtain ⟨t198, A160, H⟩ := H
      replace H : (if t198 = t189 then ((laws_toNet.f k a0_0 l0_1).bind fun bt199 => ((laws_eqNet.f k t190 t191 bt199.1 bt199.2).bind fun t203 => (if t203 = true then ((laws_toIntS.f k l2).bind fun t204 => ((laws_eqIntS.f k t195 t204).bind fun t207 => (if t207 = true then (some true) else (some false)))) else (some false)))) else (some false)) = some r := H
      have A16 := Aside0.mk A160
      clear A160
      by_cases c17 : t198 = t189
      · rw [if_pos c17] at H
        have c17b0 : (t198 == t189) = true := beq_iff_eq.mpr c17
        have c17b1 : (t198 != t189) = false := bne_eq_false_iff_eq.mpr c17
        clear c17
        replace H := Option.bind_eq_some_iff.mp H
        obtain ⟨⟨t199, t200⟩, A180, H⟩ := H
        replace H : ((laws_eqNet.f k t190 t191 t199 t200).bind fun t203 => (if t203 = true then ((laws_toIntS.f k l2).bind fun t204 => ((laws_eqIntS.f k t195 t204).bind fun t207 => (if t207 = true then (some true) else (some false)))) else (some false))) = some r := H
        have A18 := Aside0.mk A180
        clear A180
        replace H := Option.bind_eq_some_iff.mp H
        obtain ⟨t203, A190, H⟩ := H
        replace H : (if t203 = true then ((laws_toIntS.f k l2).bind fun t204 => ((laws_eqIntS.f k t195 t204).bind fun t207 => (if t207 = true then (some true) else (some false)))) else (some false)) = some r := H
        have A19 := Aside0.mk A190
        clear A190
        by_cases c20 : t203 = true
        · subst c20
          have H1 : ((laws_toIntS.f k l2).bind fun t204 => ((laws_eqIntS.f k t195 t204).bind fun t207 => (if t207 = true then (some true) else (some false)))) = some r := by rw [if_pos rfl] at H; exact H
          clear H
          have H := H1
          clear H1
          replace H := Option.bind_eq_some_iff.mp H
          obtain ⟨t204, A210, H⟩ := H
          replace H : ((laws_eqIntS.f k t195 t204).bind fun t207 => (if t207 = true then (some true) else (some false))) = some r := H
          have A21 := Aside0.mk A210
          clear A210
          replace H := Option.bind_eq_some_iff.mp H
          obtain ⟨t207, A220, H⟩ := H
          replace H : (if t207 = true then (some true) else (some false)) = some r := H
          have A22 := Aside0.mk A220
          clear A220
          by_cases c23 : t207 = true
          · subst c23
            have H1 : (some true) = some r := by rw [if_pos rfl] at H; exact H
            clear H
            have H := H1
            clear H1
            obtain rfl := Option.some.inj H
            go_enter Try.func4, Try.ntmps4
            try go_wp2_with (first | ((with_reducible refine gate_dst (N := 3) rfl ?_); refine box_event ?hg (N := 3) ?hd (cs := #[.int .i64 a0_0, .slice A0_1 l0_1.length c0_1]) (t := 24) ?hr ?_; (case hd => rfl); (case hg => rfl); (case hr => first | (go_simp; done) | (go_simp; rfl)); intro gb180 hg w24 hbox hb; have BK180 := Aside0.mk (hbox); have GW180 := Aside0.mk ((bsz hg : w.heap.size ≤ gb180)); have GE180 := Aside0.mk ((bsz hg : w.heap.size ≤ gb180)); replace HB := Aside0.mk (below_step bel hb); clear hb hbox hg; obtain ⟨hcz25_0, hcz25_1, hfz25_0, hfz25_1⟩ := cf2 BK180.out) | ((with_reducible refine gate_callee (f := 11) rfl ?_); refine goesL_ (some 17) rfl rfl Try.func11 (by kernel_rfl) rfl #[.agg #[.int .i64 a0_0, .slice A0_1 l0_1.length c0_1], .int .i64 1048576] rfl ga ?_; (with_reducible refine (laws_szNet.calls a0_0 _ _ l0_1 1048576 t181 _ ?side1 ?side2 A6.out).mono ?_); (case side1 => exact ck (Kd.C_below HR0_1.out HB.out)); (case side2 => exact HC0_1.out); rintro e w26 ⟨rfl, hb⟩; refine ⟨_, rfl, ?_⟩; replace BK180 := Aside0.mk (bb BK180.out hb); replace HB := Aside0.mk (below_step bel hb); (try clear hb); obtain ⟨hcz27_0, hcz27_1, hfz27_0, hfz27_1⟩ := cf2 BK180.out) | ((with_reducible refine gate_callee (f := 13) rfl ?_); refine goesL_ (some 21) rfl rfl Try.func13 (by kernel_rfl) rfl #[.agg #[.int .i64 a0_0, .slice A0_1 l0_1.length c0_1]] rfl ga ?_; (with_reducible refine (laws_toNet.calls k a0_0 _ _ l0_1 t182 t183 _ ?side1 ?side2 A11.out).mono ?_); (case side1 => exact ck (Kd.C_below HR0_1.out HB.out)); (case side2 => exact HC0_1.out); rintro e w28 ⟨v184, rfl, ho0, hb⟩; refine ⟨_, rfl, ?_⟩; have HO185 := Aside0.mk (Kd.R_lower ho0 (below_size bel)); replace BK180 := Aside0.mk (bb BK180.out hb); replace HB := Aside0.mk (below_step bel hb); (try clear hb); (try clear ho0)) | ((with_reducible refine gate_callee (f := 17) rfl ?_); refine goesL_ (some 24) rfl rfl Try.func17 (by kernel_rfl) rfl #[.slice A2 l2.length c2] rfl ga ?_; (with_reducible refine (laws_toIntS.calls k _ _ l2 t186 _ ?side1 ?side2 A12.out).mono ?_); (case side1 => exact ck (Kd.C_below HR2.out HB.out)); (case side2 => exact HC2.out); rintro e w29 ⟨v187, rfl, ho0, hb⟩; refine ⟨_, rfl, ?_⟩; have HO188 := Aside0.mk (Kd.R_lower ho0 (below_size bel)); replace HO185 := Aside0.mk (Kd.R_below (rk HO185.out) hb); replace BK180 := Aside0.mk (bb BK180.out hb); replace HB := Aside0.mk (below_step bel hb); (try clear hb); (try clear ho0); obtain ⟨Ao30, co30, eo30⟩ := Kd.R_slice HO185.out; subst eo30; obtain ⟨Ao31, co31, eo31⟩ := Kd.R_slice HO188.out; subst eo31) | ((with_reducible refine gate_callee (f := 16) rfl ?_); refine goesL_ (some 25) rfl rfl Try.func16 (by kernel_rfl) rfl #[.agg #[.int .i64 t182, .slice Ao30 t183.length co30], .int .i64 a1, .slice Ao31 t186.length co31] rfl ga ?_; (with_reducible refine (spec_FlowValue.calls k t182 _ _ t183 a1 _ _ t186 t189 _ ?side1 ?side2 ?side3 ?side4 A13.out).mono ?_); (case side1 => exact ck (Kd.R_reads' HO185.out).2.2); (case side2 => exact (Kd.R_reads' HO185.out).2.1); (case side3 => exact ck (Kd.R_reads' HO188.out).2.2); (case side4 => exact (Kd.R_reads' HO188.out).2.1); rintro e w32 ⟨rfl, hb⟩; refine ⟨_, rfl, ?_⟩; replace HO185 := Aside0.mk (Kd.R_below (rk HO185.out) hb); replace HO188 := Aside0.mk (Kd.R_below (rk HO188.out) hb); replace BK180 := Aside0.mk (bb BK180.out hb); replace HB := Aside0.mk (below_step bel hb); (try clear hb); obtain ⟨hcz33_0, hcz33_1, hfz33_0, hfz33_1⟩ := cf2 BK180.out) | ((with_reducible refine gate_callee (f := 13) rfl ?_); refine goesL_ (some 27) rfl rfl Try.func13 (by kernel_rfl) rfl #[.agg #[.int .i64 a0_0, .slice A0_1 l0_1.length c0_1]] rfl ga ?_; (with_reducible refine (laws_toNet.calls k a0_0 _ _ l0_1 t190 t191 _ ?side1 ?side2 A14.out).mono ?_); (case side1 => exact ck (Kd.C_below HR0_1.out HB.out)); (case side2 => exact HC0_1.out); rintro e w34 ⟨v192, rfl, ho0, hb⟩; refine ⟨_, rfl, ?_⟩; have HO193 := Aside0.mk (Kd.R_lower (Kd.R_new' ho0 (Kd.R_lt (rk HO185.out))) (below_size bel)); replace HO185 := Aside0.mk (Kd.R_elder' (rk HO185.out) (Kd.R_base ho0) hb); replace HO188 := Aside0.mk (Kd.R_below (rk HO188.out) hb); replace BK180 := Aside0.mk (bb BK180.out hb); replace HB := Aside0.mk (below_step bel hb); (try clear hb); (try clear ho0)) | ((with_reducible refine gate_dst (N := 9) rfl ?_); refine box_event ?hg (N := 9) ?hd (cs := #[.int .i64 0, .slice none 0 0]) (t := 29) ?hr ?_; (case hd => rfl); (case hg => rfl); (case hr => first | (go_simp; done) | (go_simp; rfl)); intro gb194 hg w35 hbox hb; have BK194 := Aside0.mk (hbox); have GW194 := Aside0.mk ((bsz hg : w.heap.size ≤ gb194)); have GE194 := Aside0.mk ((bsz hg : w.heap.size ≤ gb194)); have NB180_194 := Aside0.mk ((nlt hg BK180.out : gb180 ≠ gb194)); have NB194_180 := Aside0.mk ((ngt hg BK180.out : gb194 ≠ gb180)); replace HO185 := Aside0.mk (Kd.R_below (rk HO185.out) hb); replace HO188 := Aside0.mk (Kd.R_below (rk HO188.out) hb); replace HO193 := Aside0.mk (Kd.R_below (rk HO193.out) hb); replace BK180 := Aside0.mk (bb BK180.out hb); replace HB := Aside0.mk (below_step bel hb); clear hb hbox hg; have hnb36 := NB194_180.out; have hnc36 := NB180_194.out; obtain ⟨hcz37_0, hcz37_1, hfz37_0, hfz37_1⟩ := cf2 BK194.out; obtain ⟨Ao38, co38, eo38⟩ := Kd.R_slice HO193.out; subst eo38) | ((with_reducible refine gate_callee (f := 17) rfl ?_); refine goesL_ (some 29) rfl rfl Try.func17 (by kernel_rfl) rfl #[.slice A2 l2.length c2] rfl ga ?_; (with_reducible refine (laws_toIntS.calls k _ _ l2 t195 _ ?side1 ?side2 A15.out).mono ?_); (case side1 => exact Kd.C_below HR2.out bel); (case side2 => exact HC2.out); rintro e w39 ⟨v196, rfl, ho0, hb⟩; refine ⟨_, rfl, ?_⟩; have HO197 := Aside0.mk (Kd.R_lower (Kd.R_new' ho0 (Kd.R_lt (by exact rk (Kd.R_mono (Kd.R_far (p := ⟨gb194, 1, none⟩) (Kd.R_far (p := ⟨gb194, 0, none⟩) (Kd.R_types HO188.out BK194.out (by decide)) (fun _ hk => hk.2) (.int .i64 t190)) (fun _ hk => hk.2) (.slice Ao38 t191.length co38)) (fun _ h_ => h_.1))))) (below_size bel)); replace HO185 := Aside0.mk (Kd.R_below (by exact rk (Kd.R_mono (Kd.R_far (p := ⟨gb194, 1, none⟩) (Kd.R_far (p := ⟨gb194, 0, none⟩) (Kd.R_types HO185.out BK194.out (by decide)) (fun _ hk => hk.2) (.int .i64 t190)) (fun _ hk => hk.2) (.slice Ao38 t191.length co38)) (fun _ h_ => h_.1))) hb); replace HO188 := Aside0.mk (Kd.R_elder' (by exact rk (Kd.R_mono (Kd.R_far (p := ⟨gb194, 1, none⟩) (Kd.R_far (p := ⟨gb194, 0, none⟩) (Kd.R_types HO188.out BK194.out (by decide)) (fun _ hk => hk.2) (.int .i64 t190)) (fun _ hk => hk.2) (.slice Ao38 t191.length co38)) (fun _ h_ => h_.1))) (Kd.R_base ho0) hb); replace HO193 := Aside0.mk (Kd.R_below (by exact rk (Kd.R_mono (Kd.R_far (p := ⟨gb194, 1, none⟩) (Kd.R_far (p := ⟨gb194, 0, none⟩) (Kd.R_types HO193.out BK194.out (by decide)) (fun _ hk => hk.2) (.int .i64 t190)) (fun _ hk => hk.2) (.slice Ao38 t191.length co38)) (fun _ h_ => h_.1))) hb); replace BK180 := Aside0.mk (bb BK180.out hb); replace BK194 := Aside0.mk (blk_below (g := gb194) (o := .cells #[.int .i64 t190, .slice Ao38 t191.length co38] 29 (0, 0)) (by (with_reducible repeat (first | refine blk_drewN ?_ _ | refine blk_drew ?_ | refine blk_alloc ?_ _)); refine blk_put (cs := #[.int .i64 t190, .slice none 0 0]) ?_ 1 _ rfl; (with_reducible repeat (first | refine blk_drewN ?_ _ | refine blk_drew ?_ | refine blk_alloc ?_ _)); refine blk_put (cs := #[.int .i64 0, .slice none 0 0]) ?_ 0 _ rfl; (with_reducible repeat (first | refine blk_drewN ?_ _ | refine blk_drew ?_ | refine blk_alloc ?_ _)); exact BK194.out) hb); replace HB := Aside0.mk (below_step bel hb); (try clear hb); (try clear ho0); obtain ⟨hcz40_0, hcz40_1, hfz40_0, hfz40_1⟩ := cf2 BK194.out; obtain ⟨Ao41, co41, eo41⟩ := Kd.R_slice HO197.out; subst eo41) | ((with_reducible refine gate_callee (f := 18) rfl ?_); refine goesL_ (some 33) rfl rfl Try.func18 (by kernel_rfl) rfl #[.agg #[.int .i64 t190, .slice Ao38 t191.length co38], .int .i64 a1, .slice Ao41 t195.length co41] rfl ga ?_; (with_reducible refine (impl_FlowValue.calls k t190 _ _ t191 a1 _ _ t195 t198 _ ?side1 ?side2 ?side3 ?side4 A16.out).mono ?_); (case side1 => exact ck (Kd.R_reads' HO193.out).2.2); (case side2 => exact (Kd.R_reads' HO193.out).2.1); (case side3 => exact ck (Kd.R_reads' HO197.out).2.2); (case side4 => exact (Kd.R_reads' HO197.out).2.1); rintro e w42 ⟨rfl, hb⟩; refine ⟨_, rfl, ?_⟩; replace HO185 := Aside0.mk (Kd.R_below (rk HO185.out) hb); replace HO188 := Aside0.mk (Kd.R_below (rk HO188.out) hb); replace HO193 := Aside0.mk (Kd.R_below (rk HO193.out) hb); replace HO197 := Aside0.mk (Kd.R_below (rk HO197.out) hb); replace BK180 := Aside0.mk (bb BK180.out hb); replace BK194 := Aside0.mk (bb BK194.out hb); replace HB := Aside0.mk (below_step bel hb); (try clear hb)))
            replace HO185 := Aside0.mk (Kd.R_drew HO185.out)
            replace HO188 := Aside0.mk (Kd.R_drew HO188.out)
            replace HO193 := Aside0.mk (Kd.R_drew HO193.out)
            replace HO197 := Aside0.mk (Kd.R_drew HO197.out)
            replace BK180 := Aside0.mk (blk_drew BK180.out)
            replace BK194 := Aside0.mk (blk_drew BK194.out)
            replace HB := Aside0.mk (below_drew1 HB.out)
            refine start_ (n := 5) (S := fun w' => w'.cell? ⟨gb194, 0, none⟩ = some (.int .i64 t190) ∧ w'.cell? ⟨gb194, 1, none⟩ = some (.slice Ao38 t191.length co38) ∧ w'.cell? ⟨gb180, 0, none⟩ = some (.int .i64 a0_0) ∧ w'.cell? ⟨gb180, 1, none⟩ = some (.slice A0_1 l0_1.length c0_1)) (ds := []) #[false, false, false, false, false] (by kernel_rfl) rfl rfl ⟨(blk_cell BK194.out 0).trans rfl, (blk_cell BK194.out 1).trans rfl, (blk_cell BK180.out 0).trans rfl, (blk_cell BK180.out 1).trans rfl⟩ (fun hHeld => ?_)
            generalize w42.drew = w43 at HO185 HO188 HO193 HO197 BK180 BK194 HB hHeld ⊢
            refine take_ (i := 0) (N := some 37) (v := ?_) (a' := ?_) #[true, false, false, false, false] rfl rfl (by kernel_rfl) (fun _ _ _ h => h) (Or.inl ⟨by rfl, ?_⟩) hHeld ?_ ?_
            rotate_left
            · rintro w' ⟨s0, s1, s2, s3⟩
              go_simp
              with_reducible rfl
            rotate_left
            · simp only [Act.put, List.setIfInBounds_toArray, List.set_cons_zero, List.set_cons_succ, i64_w, i32_w]
              rfl
            refine take_ (i := 1) (N := some 38) (v := ?_) (a' := ?_) #[true, true, false, false, false] rfl rfl (by kernel_rfl) (fun _ _ _ h => h) (Or.inl ⟨by rfl, ?_⟩) hHeld ?_ ?_
            rotate_left
            · rintro w' ⟨s0, s1, s2, s3⟩
              go_simp
              with_reducible rfl
            rotate_left
            · simp only [Act.put, List.setIfInBounds_toArray, List.set_cons_zero, List.set_cons_succ, i64_w, i32_w]
              rfl
            refine one_ (i := 2) (N := some 39) #[true, true, true, false, false] rfl rfl (by kernel_rfl) (by decide) (fun K hK => ?_)
            refine goes_ Try.func13 (by kernel_rfl) rfl #[.agg #[.int .i64 a0_0, .slice A0_1 l0_1.length c0_1]] (by rfl) rfl rfl ga ?_
            with_reducible refine (laws_toNet.calls k a0_0 _ _ l0_1 t199 t200 _ ?side1 ?side2 A18.out).mono ?_
            (case side1 => exact ck (Kd.C_below HR0_1.out HB.out))
            (case side2 => exact HC0_1.out)
            rintro e w44 ⟨v201, rfl, ho0, hb⟩
            refine ⟨_, rfl, ?_⟩
            have HO202 := Aside0.mk (Kd.R_lower (Kd.R_new' (Kd.R_new' ho0 (Kd.R_lt (rk HO185.out))) (Kd.R_lt (rk HO193.out))) (below_size bel))
            replace HO185 := Aside0.mk (Kd.R_elder' (rk HO185.out) (Kd.R_base ho0) hb)
            replace HO188 := Aside0.mk (Kd.R_below (rk HO188.out) hb)
            replace HO193 := Aside0.mk (Kd.R_elder' (rk HO193.out) (Kd.R_base ho0) hb)
            replace HO197 := Aside0.mk (Kd.R_below (rk HO197.out) hb)
            replace BK180 := Aside0.mk (bb BK180.out hb)
            replace BK194 := Aside0.mk (bb BK194.out hb)
            replace HB := Aside0.mk (below_step bel hb)
            (try clear hb)
            (try clear hb2)
            (try clear hk)
            (try clear hi)
            (try clear ho0)
            obtain ⟨Ao45, co45, eo45⟩ := Kd.R_slice HO202.out
            (first | subst eo45 | (injection eo45 with f1_ f2_ f3_; have f4_ := f1_.symm; have f5_ := f3_.symm; clear f1_ f2_ f3_; subst f4_; subst f5_))
            refine hK.out _ _ ⟨(blk_cell BK194.out 0).trans rfl, (blk_cell BK194.out 1).trans rfl, (blk_cell BK180.out 0).trans rfl, (blk_cell BK180.out 1).trans rfl⟩ (fun hHeld => ?_)
            clear hK K
            refine norm_ (a' := ?_) ?_ ?_
            rotate_left
            · show Act.put _ (some 39) _ = _
              simp only [Act.put, List.setIfInBounds_toArray, List.set_cons_zero, List.set_cons_succ, i64_w, i32_w]
              rfl
            refine one_ (i := 3) (N := some 40) #[true, true, true, true, false] rfl rfl (by kernel_rfl) (by decide) (fun K hK => ?_)
            refine goes_ Try.func15 (by kernel_rfl) rfl #[.agg #[.int .i64 t190, .slice Ao38 t191.length co38], .agg #[.int .i64 t199, .slice Ao45 t200.length co45]] (by rfl) rfl rfl ga ?_
            with_reducible refine (laws_eqNet.calls k t190 _ _ t191 t199 _ _ t200 true _ ?side1 ?side2 ?side3 ?side4 A19.out).mono ?_
            (case side1 => exact ck (Kd.R_reads' HO193.out).2.2)
            (case side2 => exact (Kd.R_reads' HO193.out).2.1)
            (case side3 => exact ck (Kd.R_reads' HO202.out).2.2)
            (case side4 => exact (Kd.R_reads' HO202.out).2.1)
            rintro e w46 ⟨rfl, hb⟩
            refine ⟨_, rfl, ?_⟩
            replace HO185 := Aside0.mk (Kd.R_below (rk HO185.out) hb)
            replace HO188 := Aside0.mk (Kd.R_below (rk HO188.out) hb)
            replace HO193 := Aside0.mk (Kd.R_below (rk HO193.out) hb)
            replace HO197 := Aside0.mk (Kd.R_below (rk HO197.out) hb)
            replace HO202 := Aside0.mk (Kd.R_below (rk HO202.out) hb)
            replace BK180 := Aside0.mk (bb BK180.out hb)
            replace BK194 := Aside0.mk (bb BK194.out hb)
            replace HB := Aside0.mk (below_step bel hb)
            (try clear hb)
            (try clear hb2)
            (try clear hk)
            (try clear hi)
            refine hK.out _ _ ⟨(blk_cell BK194.out 0).trans rfl, (blk_cell BK194.out 1).trans rfl, (blk_cell BK180.out 0).trans rfl, (blk_cell BK180.out 1).trans rfl⟩ (fun hHeld => ?_)
            clear hK K
            refine norm_ (a' := ?_) ?_ ?_
            rotate_left
            · show Act.put _ (some 40) _ = _
              simp only [Act.put, List.setIfInBounds_toArray, List.set_cons_zero, List.set_cons_succ, i64_w, i32_w]
              rfl
            refine pure_ (i := 4) (N := some 41) (v := ?_) (a' := ?_) #[true, true, true, true, true] rfl rfl (by kernel_rfl) (fun _ _ _ h => h) (Or.inl ⟨by rfl, ?_⟩) ?_ ?_
            rotate_left
            · intro w'
              go_simp
              with_reducible rfl
            rotate_left
            · simp only [Act.put, List.setIfInBounds_toArray, List.set_cons_zero, List.set_cons_succ, i64_w, i32_w]
              rfl
            refine done_ (by kernel_rfl) ?_
            try go_wp2_with (first | ((with_reducible refine gate_callee (f := 17) rfl ?_); refine goesL_ (some 44) rfl rfl Try.func17 (by kernel_rfl) rfl #[.slice A2 l2.length c2] rfl ga ?_; (with_reducible refine (laws_toIntS.calls k _ _ l2 t204 _ ?side1 ?side2 A21.out).mono ?_); (case side1 => exact ck (Kd.C_below HR2.out HB.out)); (case side2 => exact HC2.out); rintro e w47 ⟨v205, rfl, ho0, hb⟩; refine ⟨_, rfl, ?_⟩; have HO206 := Aside0.mk (Kd.R_lower (Kd.R_new' (Kd.R_new' ho0 (Kd.R_lt (rk HO188.out))) (Kd.R_lt (rk HO197.out))) (below_size bel)); replace HO185 := Aside0.mk (Kd.R_below (rk HO185.out) hb); replace HO188 := Aside0.mk (Kd.R_elder' (rk HO188.out) (Kd.R_base ho0) hb); replace HO193 := Aside0.mk (Kd.R_below (rk HO193.out) hb); replace HO197 := Aside0.mk (Kd.R_elder' (rk HO197.out) (Kd.R_base ho0) hb); replace HO202 := Aside0.mk (Kd.R_below (rk HO202.out) hb); replace BK180 := Aside0.mk (bb BK180.out hb); replace BK194 := Aside0.mk (bb BK194.out hb); replace HB := Aside0.mk (below_step bel hb); (try clear hb); (try clear ho0); obtain ⟨Ao48, co48, eo48⟩ := Kd.R_slice HO206.out; subst eo48) | ((with_reducible refine gate_callee (f := 19) rfl ?_); refine goesL_ (some 45) rfl rfl Try.func19 (by kernel_rfl) rfl #[.slice Ao41 t195.length co41, .slice Ao48 t204.length co48] rfl ga ?_; (with_reducible refine (laws_eqIntS.calls k _ _ t195 _ _ t204 true _ ?side1 ?side2 ?side3 ?side4 A22.out).mono ?_); (case side1 => exact ck (Kd.R_reads' HO197.out).2.2); (case side2 => exact (Kd.R_reads' HO197.out).2.1); (case side3 => exact ck (Kd.R_reads' HO206.out).2.2); (case side4 => exact (Kd.R_reads' HO206.out).2.1); rintro e w' ⟨rfl, ⟨nd, rfl⟩⟩; refine ⟨_, rfl, ?_⟩))
            go_ret
            exact ⟨er, bel⟩
          · replace c23 := Bool.eq_false_iff.mpr c23
            subst c23
            have H1 : (some false) = some r := by rw [if_neg (show ¬ (false = true) by decide)] at H; exact H
            clear H
            have H := H1
            clear H1
            obtain rfl := Option.some.inj H
            go_enter Try.func4, Try.ntmps4
            try go_wp2_with (first | ((with_reducible refine gate_dst (N := 3) rfl ?_); refine box_event ?hg (N := 3) ?hd (cs := #[.int .i64 a0_0, .slice A0_1 l0_1.length c0_1]) (t := 24) ?hr ?_; (case hd => rfl); (case hg => rfl); (case hr => first | (go_simp; done) | (go_simp; rfl)); intro gb180 hg w49 hbox hb; have BK180 := Aside0.mk (hbox); have GW180 := Aside0.mk ((bsz hg : w.heap.size ≤ gb180)); have GE180 := Aside0.mk ((bsz hg : w.heap.size ≤ gb180)); replace HB := Aside0.mk (below_step bel hb); clear hb hbox hg; obtain ⟨hcz50_0, hcz50_1, hfz50_0, hfz50_1⟩ := cf2 BK180.out) | ((with_reducible refine gate_callee (f := 11) rfl ?_); refine goesL_ (some 17) rfl rfl Try.func11 (by kernel_rfl) rfl #[.agg #[.int .i64 a0_0, .slice A0_1 l0_1.length c0_1], .int .i64 1048576] rfl ga ?_; (with_reducible refine (laws_szNet.calls a0_0 _ _ l0_1 1048576 t181 _ ?side1 ?side2 A6.out).mono ?_); (case side1 => exact ck (Kd.C_below HR0_1.out HB.out)); (case side2 => exact HC0_1.out); rintro e w51 ⟨rfl, hb⟩; refine ⟨_, rfl, ?_⟩; replace BK180 := Aside0.mk (bb BK180.out hb); replace HB := Aside0.mk (below_step bel hb); (try clear hb); obtain ⟨hcz52_0, hcz52_1, hfz52_0, hfz52_1⟩ := cf2 BK180.out) | ((with_reducible refine gate_callee (f := 13) rfl ?_); refine goesL_ (some 21) rfl rfl Try.func13 (by kernel_rfl) rfl #[.agg #[.int .i64 a0_0, .slice A0_1 l0_1.length c0_1]] rfl ga ?_; (with_reducible refine (laws_toNet.calls k a0_0 _ _ l0_1 t182 t183 _ ?side1 ?side2 A11.out).mono ?_); (case side1 => exact ck (Kd.C_below HR0_1.out HB.out)); (case side2 => exact HC0_1.out); rintro e w53 ⟨v184, rfl, ho0, hb⟩; refine ⟨_, rfl, ?_⟩; have HO185 := Aside0.mk (Kd.R_lower ho0 (below_size bel)); replace BK180 := Aside0.mk (bb BK180.out hb); replace HB := Aside0.mk (below_step bel hb); (try clear hb); (try clear ho0)) | ((with_reducible refine gate_callee (f := 17) rfl ?_); refine goesL_ (some 24) rfl rfl Try.func17 (by kernel_rfl) rfl #[.slice A2 l2.length c2] rfl ga ?_; (with_reducible refine (laws_toIntS.calls k _ _ l2 t186 _ ?side1 ?side2 A12.out).mono ?_); (case side1 => exact ck (Kd.C_below HR2.out HB.out)); (case side2 => exact HC2.out); rintro e w54 ⟨v187, rfl, ho0, hb⟩; refine ⟨_, rfl, ?_⟩; have HO188 := Aside0.mk (Kd.R_lower ho0 (below_size bel)); replace HO185 := Aside0.mk (Kd.R_below (rk HO185.out) hb); replace BK180 := Aside0.mk (bb BK180.out hb); replace HB := Aside0.mk (below_step bel hb); (try clear hb); (try clear ho0); obtain ⟨Ao55, co55, eo55⟩ := Kd.R_slice HO185.out; subst eo55; obtain ⟨Ao56, co56, eo56⟩ := Kd.R_slice HO188.out; subst eo56) | ((with_reducible refine gate_callee (f := 16) rfl ?_); refine goesL_ (some 25) rfl rfl Try.func16 (by kernel_rfl) rfl #[.agg #[.int .i64 t182, .slice Ao55 t183.length co55], .int .i64 a1, .slice Ao56 t186.length co56] rfl ga ?_; (with_reducible refine (spec_FlowValue.calls k t182 _ _ t183 a1 _ _ t186 t189 _ ?side1 ?side2 ?side3 ?side4 A13.out).mono ?_); (case side1 => exact ck (Kd.R_reads' HO185.out).2.2); (case side2 => exact (Kd.R_reads' HO185.out).2.1); (case side3 => exact ck (Kd.R_reads' HO188.out).2.2); (case side4 => exact (Kd.R_reads' HO188.out).2.1); rintro e w57 ⟨rfl, hb⟩; refine ⟨_, rfl, ?_⟩; replace HO185 := Aside0.mk (Kd.R_below (rk HO185.out) hb); replace HO188 := Aside0.mk (Kd.R_below (rk HO188.out) hb); replace BK180 := Aside0.mk (bb BK180.out hb); replace HB := Aside0.mk (below_step bel hb); (try clear hb); obtain ⟨hcz58_0, hcz58_1, hfz58_0, hfz58_1⟩ := cf2 BK180.out) | ((with_reducible refine gate_callee (f := 13) rfl ?_); refine goesL_ (some 27) rfl rfl Try.func13 (by kernel_rfl) rfl #[.agg #[.int .i64 a0_0, .slice A0_1 l0_1.length c0_1]] rfl ga ?_; (with_reducible refine (laws_toNet.calls k a0_0 _ _ l0_1 t190 t191 _ ?side1 ?side2 A14.out).mono ?_); (case side1 => exact ck (Kd.C_below HR0_1.out HB.out)); (case side2 => exact HC0_1.out); rintro e w59 ⟨v192, rfl, ho0, hb⟩; refine ⟨_, rfl, ?_⟩; have HO193 := Aside0.mk (Kd.R_lower (Kd.R_new' ho0 (Kd.R_lt (rk HO185.out))) (below_size bel)); replace HO185 := Aside0.mk (Kd.R_elder' (rk HO185.out) (Kd.R_base ho0) hb); replace HO188 := Aside0.mk (Kd.R_below (rk HO188.out) hb); replace BK180 := Aside0.mk (bb BK180.out hb); replace HB := Aside0.mk (below_step bel hb); (try clear hb); (try clear ho0)) | ((with_reducible refine gate_dst (N := 9) rfl ?_); refine box_event ?hg (N := 9) ?hd (cs := #[.int .i64 0, .slice none 0 0]) (t := 29) ?hr ?_; (case hd => rfl); (case hg => rfl); (case hr => first | (go_simp; done) | (go_simp; rfl)); intro gb194 hg w60 hbox hb; have BK194 := Aside0.mk (hbox); have GW194 := Aside0.mk ((bsz hg : w.heap.size ≤ gb194)); have GE194 := Aside0.mk ((bsz hg : w.heap.size ≤ gb194)); have NB180_194 := Aside0.mk ((nlt hg BK180.out : gb180 ≠ gb194)); have NB194_180 := Aside0.mk ((ngt hg BK180.out : gb194 ≠ gb180)); replace HO185 := Aside0.mk (Kd.R_below (rk HO185.out) hb); replace HO188 := Aside0.mk (Kd.R_below (rk HO188.out) hb); replace HO193 := Aside0.mk (Kd.R_below (rk HO193.out) hb); replace BK180 := Aside0.mk (bb BK180.out hb); replace HB := Aside0.mk (below_step bel hb); clear hb hbox hg; have hnb61 := NB194_180.out; have hnc61 := NB180_194.out; obtain ⟨hcz62_0, hcz62_1, hfz62_0, hfz62_1⟩ := cf2 BK194.out; obtain ⟨Ao63, co63, eo63⟩ := Kd.R_slice HO193.out; subst eo63) | ((with_reducible refine gate_callee (f := 17) rfl ?_); refine goesL_ (some 29) rfl rfl Try.func17 (by kernel_rfl) rfl #[.slice A2 l2.length c2] rfl ga ?_; (with_reducible refine (laws_toIntS.calls k _ _ l2 t195 _ ?side1 ?side2 A15.out).mono ?_); (case side1 => exact Kd.C_below HR2.out bel); (case side2 => exact HC2.out); rintro e w64 ⟨v196, rfl, ho0, hb⟩; refine ⟨_, rfl, ?_⟩; have HO197 := Aside0.mk (Kd.R_lower (Kd.R_new' ho0 (Kd.R_lt (by exact rk (Kd.R_mono (Kd.R_far (p := ⟨gb194, 1, none⟩) (Kd.R_far (p := ⟨gb194, 0, none⟩) (Kd.R_types HO188.out BK194.out (by decide)) (fun _ hk => hk.2) (.int .i64 t190)) (fun _ hk => hk.2) (.slice Ao63 t191.length co63)) (fun _ h_ => h_.1))))) (below_size bel)); replace HO185 := Aside0.mk (Kd.R_below (by exact rk (Kd.R_mono (Kd.R_far (p := ⟨gb194, 1, none⟩) (Kd.R_far (p := ⟨gb194, 0, none⟩) (Kd.R_types HO185.out BK194.out (by decide)) (fun _ hk => hk.2) (.int .i64 t190)) (fun _ hk => hk.2) (.slice Ao63 t191.length co63)) (fun _ h_ => h_.1))) hb); replace HO188 := Aside0.mk (Kd.R_elder' (by exact rk (Kd.R_mono (Kd.R_far (p := ⟨gb194, 1, none⟩) (Kd.R_far (p := ⟨gb194, 0, none⟩) (Kd.R_types HO188.out BK194.out (by decide)) (fun _ hk => hk.2) (.int .i64 t190)) (fun _ hk => hk.2) (.slice Ao63 t191.length co63)) (fun _ h_ => h_.1))) (Kd.R_base ho0) hb); replace HO193 := Aside0.mk (Kd.R_below (by exact rk (Kd.R_mono (Kd.R_far (p := ⟨gb194, 1, none⟩) (Kd.R_far (p := ⟨gb194, 0, none⟩) (Kd.R_types HO193.out BK194.out (by decide)) (fun _ hk => hk.2) (.int .i64 t190)) (fun _ hk => hk.2) (.slice Ao63 t191.length co63)) (fun _ h_ => h_.1))) hb); replace BK180 := Aside0.mk (bb BK180.out hb); replace BK194 := Aside0.mk (blk_below (g := gb194) (o := .cells #[.int .i64 t190, .slice Ao63 t191.length co63] 29 (0, 0)) (by (with_reducible repeat (first | refine blk_drewN ?_ _ | refine blk_drew ?_ | refine blk_alloc ?_ _)); refine blk_put (cs := #[.int .i64 t190, .slice none 0 0]) ?_ 1 _ rfl; (with_reducible repeat (first | refine blk_drewN ?_ _ | refine blk_drew ?_ | refine blk_alloc ?_ _)); refine blk_put (cs := #[.int .i64 0, .slice none 0 0]) ?_ 0 _ rfl; (with_reducible repeat (first | refine blk_drewN ?_ _ | refine blk_drew ?_ | refine blk_alloc ?_ _)); exact BK194.out) hb); replace HB := Aside0.mk (below_step bel hb); (try clear hb); (try clear ho0); obtain ⟨hcz65_0, hcz65_1, hfz65_0, hfz65_1⟩ := cf2 BK194.out; obtain ⟨Ao66, co66, eo66⟩ := Kd.R_slice HO197.out; subst eo66) | ((with_reducible refine gate_callee (f := 18) rfl ?_); refine goesL_ (some 33) rfl rfl Try.func18 (by kernel_rfl) rfl #[.agg #[.int .i64 t190, .slice Ao63 t191.length co63], .int .i64 a1, .slice Ao66 t195.length co66] rfl ga ?_; (with_reducible refine (impl_FlowValue.calls k t190 _ _ t191 a1 _ _ t195 t198 _ ?side1 ?side2 ?side3 ?side4 A16.out).mono ?_); (case side1 => exact ck (Kd.R_reads' HO193.out).2.2); (case side2 => exact (Kd.R_reads' HO193.out).2.1); (case side3 => exact ck (Kd.R_reads' HO197.out).2.2); (case side4 => exact (Kd.R_reads' HO197.out).2.1); rintro e w67 ⟨rfl, hb⟩; refine ⟨_, rfl, ?_⟩; replace HO185 := Aside0.mk (Kd.R_below (rk HO185.out) hb); replace HO188 := Aside0.mk (Kd.R_below (rk HO188.out) hb); replace HO193 := Aside0.mk (Kd.R_below (rk HO193.out) hb); replace HO197 := Aside0.mk (Kd.R_below (rk HO197.out) hb); replace BK180 := Aside0.mk (bb BK180.out hb); replace BK194 := Aside0.mk (bb BK194.out hb); replace HB := Aside0.mk (below_step bel hb); (try clear hb)))
            replace HO185 := Aside0.mk (Kd.R_drew HO185.out)
            replace HO188 := Aside0.mk (Kd.R_drew HO188.out)
            replace HO193 := Aside0.mk (Kd.R_drew HO193.out)
            replace HO197 := Aside0.mk (Kd.R_drew HO197.out)
            replace BK180 := Aside0.mk (blk_drew BK180.out)
            replace BK194 := Aside0.mk (blk_drew BK194.out)
            replace HB := Aside0.mk (below_drew1 HB.out)
            refine start_ (n := 5) (S := fun w' => w'.cell? ⟨gb194, 0, none⟩ = some (.int .i64 t190) ∧ w'.cell? ⟨gb194, 1, none⟩ = some (.slice Ao63 t191.length co63) ∧ w'.cell? ⟨gb180, 0, none⟩ = some (.int .i64 a0_0) ∧ w'.cell? ⟨gb180, 1, none⟩ = some (.slice A0_1 l0_1.length c0_1)) (ds := []) #[false, false, false, false, false] (by kernel_rfl) rfl rfl ⟨(blk_cell BK194.out 0).trans rfl, (blk_cell BK194.out 1).trans rfl, (blk_cell BK180.out 0).trans rfl, (blk_cell BK180.out 1).trans rfl⟩ (fun hHeld => ?_)
            generalize w67.drew = w68 at HO185 HO188 HO193 HO197 BK180 BK194 HB hHeld ⊢
            refine take_ (i := 0) (N := some 37) (v := ?_) (a' := ?_) #[true, false, false, false, false] rfl rfl (by kernel_rfl) (fun _ _ _ h => h) (Or.inl ⟨by rfl, ?_⟩) hHeld ?_ ?_
            rotate_left
            · rintro w' ⟨s0, s1, s2, s3⟩
              go_simp
              with_reducible rfl
            rotate_left
            · simp only [Act.put, List.setIfInBounds_toArray, List.set_cons_zero, List.set_cons_succ, i64_w, i32_w]
              rfl
            refine take_ (i := 1) (N := some 38) (v := ?_) (a' := ?_) #[true, true, false, false, false] rfl rfl (by kernel_rfl) (fun _ _ _ h => h) (Or.inl ⟨by rfl, ?_⟩) hHeld ?_ ?_
            rotate_left
            · rintro w' ⟨s0, s1, s2, s3⟩
              go_simp
              with_reducible rfl
            rotate_left
            · simp only [Act.put, List.setIfInBounds_toArray, List.set_cons_zero, List.set_cons_succ, i64_w, i32_w]
              rfl
            refine one_ (i := 2) (N := some 39) #[true, true, true, false, false] rfl rfl (by kernel_rfl) (by decide) (fun K hK => ?_)
            refine goes_ Try.func13 (by kernel_rfl) rfl #[.agg #[.int .i64 a0_0, .slice A0_1 l0_1.length c0_1]] (by rfl) rfl rfl ga ?_
            with_reducible refine (laws_toNet.calls k a0_0 _ _ l0_1 t199 t200 _ ?side1 ?side2 A18.out).mono ?_
            (case side1 => exact ck (Kd.C_below HR0_1.out HB.out))
            (case side2 => exact HC0_1.out)
            rintro e w69 ⟨v201, rfl, ho0, hb⟩
            refine ⟨_, rfl, ?_⟩
            have HO202 := Aside0.mk (Kd.R_lower (Kd.R_new' (Kd.R_new' ho0 (Kd.R_lt (rk HO185.out))) (Kd.R_lt (rk HO193.out))) (below_size bel))
            replace HO185 := Aside0.mk (Kd.R_elder' (rk HO185.out) (Kd.R_base ho0) hb)
            replace HO188 := Aside0.mk (Kd.R_below (rk HO188.out) hb)
            replace HO193 := Aside0.mk (Kd.R_elder' (rk HO193.out) (Kd.R_base ho0) hb)
            replace HO197 := Aside0.mk (Kd.R_below (rk HO197.out) hb)
            replace BK180 := Aside0.mk (bb BK180.out hb)
            replace BK194 := Aside0.mk (bb BK194.out hb)
            replace HB := Aside0.mk (below_step bel hb)
            (try clear hb)
            (try clear hb2)
            (try clear hk)
            (try clear hi)
            (try clear ho0)
            obtain ⟨Ao70, co70, eo70⟩ := Kd.R_slice HO202.out
            (first | subst eo70 | (injection eo70 with f1_ f2_ f3_; have f4_ := f1_.symm; have f5_ := f3_.symm; clear f1_ f2_ f3_; subst f4_; subst f5_))
            refine hK.out _ _ ⟨(blk_cell BK194.out 0).trans rfl, (blk_cell BK194.out 1).trans rfl, (blk_cell BK180.out 0).trans rfl, (blk_cell BK180.out 1).trans rfl⟩ (fun hHeld => ?_)
            clear hK K
            refine norm_ (a' := ?_) ?_ ?_
            rotate_left
            · show Act.put _ (some 39) _ = _
              simp only [Act.put, List.setIfInBounds_toArray, List.set_cons_zero, List.set_cons_succ, i64_w, i32_w]
              rfl
            refine one_ (i := 3) (N := some 40) #[true, true, true, true, false] rfl rfl (by kernel_rfl) (by decide) (fun K hK => ?_)
            refine goes_ Try.func15 (by kernel_rfl) rfl #[.agg #[.int .i64 t190, .slice Ao63 t191.length co63], .agg #[.int .i64 t199, .slice Ao70 t200.length co70]] (by rfl) rfl rfl ga ?_
            with_reducible refine (laws_eqNet.calls k t190 _ _ t191 t199 _ _ t200 true _ ?side1 ?side2 ?side3 ?side4 A19.out).mono ?_
            (case side1 => exact ck (Kd.R_reads' HO193.out).2.2)
            (case side2 => exact (Kd.R_reads' HO193.out).2.1)
            (case side3 => exact ck (Kd.R_reads' HO202.out).2.2)
            (case side4 => exact (Kd.R_reads' HO202.out).2.1)
            rintro e w71 ⟨rfl, hb⟩
            refine ⟨_, rfl, ?_⟩
            replace HO185 := Aside0.mk (Kd.R_below (rk HO185.out) hb)
            replace HO188 := Aside0.mk (Kd.R_below (rk HO188.out) hb)
            replace HO193 := Aside0.mk (Kd.R_below (rk HO193.out) hb)
            replace HO197 := Aside0.mk (Kd.R_below (rk HO197.out) hb)
            replace HO202 := Aside0.mk (Kd.R_below (rk HO202.out) hb)
            replace BK180 := Aside0.mk (bb BK180.out hb)
            replace BK194 := Aside0.mk (bb BK194.out hb)
            replace HB := Aside0.mk (below_step bel hb)
            (try clear hb)
            (try clear hb2)
            (try clear hk)
            (try clear hi)
            refine hK.out _ _ ⟨(blk_cell BK194.out 0).trans rfl, (blk_cell BK194.out 1).trans rfl, (blk_cell BK180.out 0).trans rfl, (blk_cell BK180.out 1).trans rfl⟩ (fun hHeld => ?_)
            clear hK K
            refine norm_ (a' := ?_) ?_ ?_
            rotate_left
            · show Act.put _ (some 40) _ = _
              simp only [Act.put, List.setIfInBounds_toArray, List.set_cons_zero, List.set_cons_succ, i64_w, i32_w]
              rfl
            refine pure_ (i := 4) (N := some 41) (v := ?_) (a' := ?_) #[true, true, true, true, true] rfl rfl (by kernel_rfl) (fun _ _ _ h => h) (Or.inl ⟨by rfl, ?_⟩) ?_ ?_
            rotate_left
            · intro w'
              go_simp
              with_reducible rfl
            rotate_left
            · simp only [Act.put, List.setIfInBounds_toArray, List.set_cons_zero, List.set_cons_succ, i64_w, i32_w]
              rfl
            refine done_ (by kernel_rfl) ?_
            try go_wp2_with (first | ((with_reducible refine gate_callee (f := 17) rfl ?_); refine goesL_ (some 44) rfl rfl Try.func17 (by kernel_rfl) rfl #[.slice A2 l2.length c2] rfl ga ?_; (with_reducible refine (laws_toIntS.calls k _ _ l2 t204 _ ?side1 ?side2 A21.out).mono ?_); (case side1 => exact ck (Kd.C_below HR2.out HB.out)); (case side2 => exact HC2.out); rintro e w72 ⟨v205, rfl, ho0, hb⟩; refine ⟨_, rfl, ?_⟩; have HO206 := Aside0.mk (Kd.R_lower (Kd.R_new' (Kd.R_new' ho0 (Kd.R_lt (rk HO188.out))) (Kd.R_lt (rk HO197.out))) (below_size bel)); replace HO185 := Aside0.mk (Kd.R_below (rk HO185.out) hb); replace HO188 := Aside0.mk (Kd.R_elder' (rk HO188.out) (Kd.R_base ho0) hb); replace HO193 := Aside0.mk (Kd.R_below (rk HO193.out) hb); replace HO197 := Aside0.mk (Kd.R_elder' (rk HO197.out) (Kd.R_base ho0) hb); replace HO202 := Aside0.mk (Kd.R_below (rk HO202.out) hb); replace BK180 := Aside0.mk (bb BK180.out hb); replace BK194 := Aside0.mk (bb BK194.out hb); replace HB := Aside0.mk (below_step bel hb); (try clear hb); (try clear ho0); obtain ⟨Ao73, co73, eo73⟩ := Kd.R_slice HO206.out; subst eo73) | ((with_reducible refine gate_callee (f := 19) rfl ?_); refine goesL_ (some 45) rfl rfl Try.func19 (by kernel_rfl) rfl #[.slice Ao66 t195.length co66, .slice Ao73 t204.length co73] rfl ga ?_; (with_reducible refine (laws_eqIntS.calls k _ _ t195 _ _ t204 false _ ?side1 ?side2 ?side3 ?side4 A22.out).mono ?_); (case side1 => exact ck (Kd.R_reads' HO197.out).2.2); (case side2 => exact (Kd.R_reads' HO197.out).2.1); (case side3 => exact ck (Kd.R_reads' HO206.out).2.2); (case side4 => exact (Kd.R_reads' HO206.out).2.1); rintro e w' ⟨rfl, ⟨nd, rfl⟩⟩; refine ⟨_, rfl, ?_⟩))
            go_ret
            exact ⟨er, bel⟩
        · replace c20 := Bool.eq_false_iff.mpr c20
          subst c20
          have H1 : (some false) = some r := by rw [if_neg (show ¬ (false = true) by decide)] at H; exact H
          clear H
          have H := H1
          clear H1
          obtain rfl := Option.some.inj H
          go_enter Try.func4, Try.ntmps4
          try go_wp2_with (first | ((with_reducible refine gate_dst (N := 3) rfl ?_); refine box_event ?hg (N := 3) ?hd (cs := #[.int .i64 a0_0, .slice A0_1 l0_1.length c0_1]) (t := 24) ?hr ?_; (case hd => rfl); (case hg => rfl); (case hr => first | (go_simp; done) | (go_simp; rfl)); intro gb180 hg w74 hbox hb; have BK180 := Aside0.mk (hbox); have GW180 := Aside0.mk ((bsz hg : w.heap.size ≤ gb180)); have GE180 := Aside0.mk ((bsz hg : w.heap.size ≤ gb180)); replace HB := Aside0.mk (below_step bel hb); clear hb hbox hg; obtain ⟨hcz75_0, hcz75_1, hfz75_0, hfz75_1⟩ := cf2 BK180.out) | ((with_reducible refine gate_callee (f := 11) rfl ?_); refine goesL_ (some 17) rfl rfl Try.func11 (by kernel_rfl) rfl #[.agg #[.int .i64 a0_0, .slice A0_1 l0_1.length c0_1], .int .i64 1048576] rfl ga ?_; (with_reducible refine (laws_szNet.calls a0_0 _ _ l0_1 1048576 t181 _ ?side1 ?side2 A6.out).mono ?_); (case side1 => exact ck (Kd.C_below HR0_1.out HB.out)); (case side2 => exact HC0_1.out); rintro e w76 ⟨rfl, hb⟩; refine ⟨_, rfl, ?_⟩; replace BK180 := Aside0.mk (bb BK180.out hb); replace HB := Aside0.mk (below_step bel hb); (try clear hb); obtain ⟨hcz77_0, hcz77_1, hfz77_0, hfz77_1⟩ := cf2 BK180.out) | ((with_reducible refine gate_callee (f := 13) rfl ?_); refine goesL_ (some 21) rfl rfl Try.func13 (by kernel_rfl) rfl #[.agg #[.int .i64 a0_0, .slice A0_1 l0_1.length c0_1]] rfl ga ?_; (with_reducible refine (laws_toNet.calls k a0_0 _ _ l0_1 t182 t183 _ ?side1 ?side2 A11.out).mono ?_); (case side1 => exact ck (Kd.C_below HR0_1.out HB.out)); (case side2 => exact HC0_1.out); rintro e w78 ⟨v184, rfl, ho0, hb⟩; refine ⟨_, rfl, ?_⟩; have HO185 := Aside0.mk (Kd.R_lower ho0 (below_size bel)); replace BK180 := Aside0.mk (bb BK180.out hb); replace HB := Aside0.mk (below_step bel hb); (try clear hb); (try clear ho0)) | ((with_reducible refine gate_callee (f := 17) rfl ?_); refine goesL_ (some 24) rfl rfl Try.func17 (by kernel_rfl) rfl #[.slice A2 l2.length c2] rfl ga ?_; (with_reducible refine (laws_toIntS.calls k _ _ l2 t186 _ ?side1 ?side2 A12.out).mono ?_); (case side1 => exact ck (Kd.C_below HR2.out HB.out)); (case side2 => exact HC2.out); rintro e w79 ⟨v187, rfl, ho0, hb⟩; refine ⟨_, rfl, ?_⟩; have HO188 := Aside0.mk (Kd.R_lower ho0 (below_size bel)); replace HO185 := Aside0.mk (Kd.R_below (rk HO185.out) hb); replace BK180 := Aside0.mk (bb BK180.out hb); replace HB := Aside0.mk (below_step bel hb); (try clear hb); (try clear ho0); obtain ⟨Ao80, co80, eo80⟩ := Kd.R_slice HO185.out; subst eo80; obtain ⟨Ao81, co81, eo81⟩ := Kd.R_slice HO188.out; subst eo81) | ((with_reducible refine gate_callee (f := 16) rfl ?_); refine goesL_ (some 25) rfl rfl Try.func16 (by kernel_rfl) rfl #[.agg #[.int .i64 t182, .slice Ao80 t183.length co80], .int .i64 a1, .slice Ao81 t186.length co81] rfl ga ?_; (with_reducible refine (spec_FlowValue.calls k t182 _ _ t183 a1 _ _ t186 t189 _ ?side1 ?side2 ?side3 ?side4 A13.out).mono ?_); (case side1 => exact ck (Kd.R_reads' HO185.out).2.2); (case side2 => exact (Kd.R_reads' HO185.out).2.1); (case side3 => exact ck (Kd.R_reads' HO188.out).2.2); (case side4 => exact (Kd.R_reads' HO188.out).2.1); rintro e w82 ⟨rfl, hb⟩; refine ⟨_, rfl, ?_⟩; replace HO185 := Aside0.mk (Kd.R_below (rk HO185.out) hb); replace HO188 := Aside0.mk (Kd.R_below (rk HO188.out) hb); replace BK180 := Aside0.mk (bb BK180.out hb); replace HB := Aside0.mk (below_step bel hb); (try clear hb); obtain ⟨hcz83_0, hcz83_1, hfz83_0, hfz83_1⟩ := cf2 BK180.out) | ((with_reducible refine gate_callee (f := 13) rfl ?_); refine goesL_ (some 27) rfl rfl Try.func13 (by kernel_rfl) rfl #[.agg #[.int .i64 a0_0, .slice A0_1 l0_1.length c0_1]] rfl ga ?_; (with_reducible refine (laws_toNet.calls k a0_0 _ _ l0_1 t190 t191 _ ?side1 ?side2 A14.out).mono ?_); (case side1 => exact ck (Kd.C_below HR0_1.out HB.out)); (case side2 => exact HC0_1.out); rintro e w84 ⟨v192, rfl, ho0, hb⟩; refine ⟨_, rfl, ?_⟩; have HO193 := Aside0.mk (Kd.R_lower (Kd.R_new' ho0 (Kd.R_lt (rk HO185.out))) (below_size bel)); replace HO185 := Aside0.mk (Kd.R_elder' (rk HO185.out) (Kd.R_base ho0) hb); replace HO188 := Aside0.mk (Kd.R_below (rk HO188.out) hb); replace BK180 := Aside0.mk (bb BK180.out hb); replace HB := Aside0.mk (below_step bel hb); (try clear hb); (try clear ho0)) | ((with_reducible refine gate_dst (N := 9) rfl ?_); refine box_event ?hg (N := 9) ?hd (cs := #[.int .i64 0, .slice none 0 0]) (t := 29) ?hr ?_; (case hd => rfl); (case hg => rfl); (case hr => first | (go_simp; done) | (go_simp; rfl)); intro gb194 hg w85 hbox hb; have BK194 := Aside0.mk (hbox); have GW194 := Aside0.mk ((bsz hg : w.heap.size ≤ gb194)); have GE194 := Aside0.mk ((bsz hg : w.heap.size ≤ gb194)); have NB180_194 := Aside0.mk ((nlt hg BK180.out : gb180 ≠ gb194)); have NB194_180 := Aside0.mk ((ngt hg BK180.out : gb194 ≠ gb180)); replace HO185 := Aside0.mk (Kd.R_below (rk HO185.out) hb); replace HO188 := Aside0.mk (Kd.R_below (rk HO188.out) hb); replace HO193 := Aside0.mk (Kd.R_below (rk HO193.out) hb); replace BK180 := Aside0.mk (bb BK180.out hb); replace HB := Aside0.mk (below_step bel hb); clear hb hbox hg; have hnb86 := NB194_180.out; have hnc86 := NB180_194.out; obtain ⟨hcz87_0, hcz87_1, hfz87_0, hfz87_1⟩ := cf2 BK194.out; obtain ⟨Ao88, co88, eo88⟩ := Kd.R_slice HO193.out; subst eo88) | ((with_reducible refine gate_callee (f := 17) rfl ?_); refine goesL_ (some 29) rfl rfl Try.func17 (by kernel_rfl) rfl #[.slice A2 l2.length c2] rfl ga ?_; (with_reducible refine (laws_toIntS.calls k _ _ l2 t195 _ ?side1 ?side2 A15.out).mono ?_); (case side1 => exact Kd.C_below HR2.out bel); (case side2 => exact HC2.out); rintro e w89 ⟨v196, rfl, ho0, hb⟩; refine ⟨_, rfl, ?_⟩; have HO197 := Aside0.mk (Kd.R_lower (Kd.R_new' ho0 (Kd.R_lt (by exact rk (Kd.R_mono (Kd.R_far (p := ⟨gb194, 1, none⟩) (Kd.R_far (p := ⟨gb194, 0, none⟩) (Kd.R_types HO188.out BK194.out (by decide)) (fun _ hk => hk.2) (.int .i64 t190)) (fun _ hk => hk.2) (.slice Ao88 t191.length co88)) (fun _ h_ => h_.1))))) (below_size bel)); replace HO185 := Aside0.mk (Kd.R_below (by exact rk (Kd.R_mono (Kd.R_far (p := ⟨gb194, 1, none⟩) (Kd.R_far (p := ⟨gb194, 0, none⟩) (Kd.R_types HO185.out BK194.out (by decide)) (fun _ hk => hk.2) (.int .i64 t190)) (fun _ hk => hk.2) (.slice Ao88 t191.length co88)) (fun _ h_ => h_.1))) hb); replace HO188 := Aside0.mk (Kd.R_elder' (by exact rk (Kd.R_mono (Kd.R_far (p := ⟨gb194, 1, none⟩) (Kd.R_far (p := ⟨gb194, 0, none⟩) (Kd.R_types HO188.out BK194.out (by decide)) (fun _ hk => hk.2) (.int .i64 t190)) (fun _ hk => hk.2) (.slice Ao88 t191.length co88)) (fun _ h_ => h_.1))) (Kd.R_base ho0) hb); replace HO193 := Aside0.mk (Kd.R_below (by exact rk (Kd.R_mono (Kd.R_far (p := ⟨gb194, 1, none⟩) (Kd.R_far (p := ⟨gb194, 0, none⟩) (Kd.R_types HO193.out BK194.out (by decide)) (fun _ hk => hk.2) (.int .i64 t190)) (fun _ hk => hk.2) (.slice Ao88 t191.length co88)) (fun _ h_ => h_.1))) hb); replace BK180 := Aside0.mk (bb BK180.out hb); replace BK194 := Aside0.mk (blk_below (g := gb194) (o := .cells #[.int .i64 t190, .slice Ao88 t191.length co88] 29 (0, 0)) (by (with_reducible repeat (first | refine blk_drewN ?_ _ | refine blk_drew ?_ | refine blk_alloc ?_ _)); refine blk_put (cs := #[.int .i64 t190, .slice none 0 0]) ?_ 1 _ rfl; (with_reducible repeat (first | refine blk_drewN ?_ _ | refine blk_drew ?_ | refine blk_alloc ?_ _)); refine blk_put (cs := #[.int .i64 0, .slice none 0 0]) ?_ 0 _ rfl; (with_reducible repeat (first | refine blk_drewN ?_ _ | refine blk_drew ?_ | refine blk_alloc ?_ _)); exact BK194.out) hb); replace HB := Aside0.mk (below_step bel hb); (try clear hb); (try clear ho0); obtain ⟨hcz90_0, hcz90_1, hfz90_0, hfz90_1⟩ := cf2 BK194.out; obtain ⟨Ao91, co91, eo91⟩ := Kd.R_slice HO197.out; subst eo91) | ((with_reducible refine gate_callee (f := 18) rfl ?_); refine goesL_ (some 33) rfl rfl Try.func18 (by kernel_rfl) rfl #[.agg #[.int .i64 t190, .slice Ao88 t191.length co88], .int .i64 a1, .slice Ao91 t195.length co91] rfl ga ?_; (with_reducible refine (impl_FlowValue.calls k t190 _ _ t191 a1 _ _ t195 t198 _ ?side1 ?side2 ?side3 ?side4 A16.out).mono ?_); (case side1 => exact ck (Kd.R_reads' HO193.out).2.2); (case side2 => exact (Kd.R_reads' HO193.out).2.1); (case side3 => exact ck (Kd.R_reads' HO197.out).2.2); (case side4 => exact (Kd.R_reads' HO197.out).2.1); rintro e w92 ⟨rfl, hb⟩; refine ⟨_, rfl, ?_⟩; replace HO185 := Aside0.mk (Kd.R_below (rk HO185.out) hb); replace HO188 := Aside0.mk (Kd.R_below (rk HO188.out) hb); replace HO193 := Aside0.mk (Kd.R_below (rk HO193.out) hb); replace HO197 := Aside0.mk (Kd.R_below (rk HO197.out) hb); replace BK180 := Aside0.mk (bb BK180.out hb); replace BK194 := Aside0.mk (bb BK194.out hb); replace HB := Aside0.mk (below_step bel hb); (try clear hb)))
          replace HO185 := Aside0.mk (Kd.R_drew HO185.out)
          replace HO188 := Aside0.mk (Kd.R_drew HO188.out)
          replace HO193 := Aside0.mk (Kd.R_drew HO193.out)
          replace HO197 := Aside0.mk (Kd.R_drew HO197.out)
          replace BK180 := Aside0.mk (blk_drew BK180.out)
          replace BK194 := Aside0.mk (blk_drew BK194.out)
          replace HB := Aside0.mk (below_drew1 HB.out)
          refine start_ (n := 5) (S := fun w' => w'.cell? ⟨gb194, 0, none⟩ = some (.int .i64 t190) ∧ w'.cell? ⟨gb194, 1, none⟩ = some (.slice Ao88 t191.length co88) ∧ w'.cell? ⟨gb180, 0, none⟩ = some (.int .i64 a0_0) ∧ w'.cell? ⟨gb180, 1, none⟩ = some (.slice A0_1 l0_1.length c0_1)) (ds := []) #[false, false, false, false, false] (by kernel_rfl) rfl rfl ⟨(blk_cell BK194.out 0).trans rfl, (blk_cell BK194.out 1).trans rfl, (blk_cell BK180.out 0).trans rfl, (blk_cell BK180.out 1).trans rfl⟩ (fun hHeld => ?_)
          generalize w92.drew = w93 at HO185 HO188 HO193 HO197 BK180 BK194 HB hHeld ⊢
          refine take_ (i := 0) (N := some 37) (v := ?_) (a' := ?_) #[true, false, false, false, false] rfl rfl (by kernel_rfl) (fun _ _ _ h => h) (Or.inl ⟨by rfl, ?_⟩) hHeld ?_ ?_
          rotate_left
          · rintro w' ⟨s0, s1, s2, s3⟩
            go_simp
            with_reducible rfl
          rotate_left
          · simp only [Act.put, List.setIfInBounds_toArray, List.set_cons_zero, List.set_cons_succ, i64_w, i32_w]
            rfl
          refine take_ (i := 1) (N := some 38) (v := ?_) (a' := ?_) #[true, true, false, false, false] rfl rfl (by kernel_rfl) (fun _ _ _ h => h) (Or.inl ⟨by rfl, ?_⟩) hHeld ?_ ?_
          rotate_left
          · rintro w' ⟨s0, s1, s2, s3⟩
            go_simp
            with_reducible rfl
          rotate_left
          · simp only [Act.put, List.setIfInBounds_toArray, List.set_cons_zero, List.set_cons_succ, i64_w, i32_w]
            rfl
          refine one_ (i := 2) (N := some 39) #[true, true, true, false, false] rfl rfl (by kernel_rfl) (by decide) (fun K hK => ?_)
          refine goes_ Try.func13 (by kernel_rfl) rfl #[.agg #[.int .i64 a0_0, .slice A0_1 l0_1.length c0_1]] (by rfl) rfl rfl ga ?_
          with_reducible refine (laws_toNet.calls k a0_0 _ _ l0_1 t199 t200 _ ?side1 ?side2 A18.out).mono ?_
          (case side1 => exact ck (Kd.C_below HR0_1.out HB.out))
          (case side2 => exact HC0_1.out)
          rintro e w94 ⟨v201, rfl, ho0, hb⟩
          refine ⟨_, rfl, ?_⟩
          have HO202 := Aside0.mk (Kd.R_lower (Kd.R_new' (Kd.R_new' ho0 (Kd.R_lt (rk HO185.out))) (Kd.R_lt (rk HO193.out))) (below_size bel))
          replace HO185 := Aside0.mk (Kd.R_elder' (rk HO185.out) (Kd.R_base ho0) hb)
          replace HO188 := Aside0.mk (Kd.R_below (rk HO188.out) hb)
          replace HO193 := Aside0.mk (Kd.R_elder' (rk HO193.out) (Kd.R_base ho0) hb)
          replace HO197 := Aside0.mk (Kd.R_below (rk HO197.out) hb)
          replace BK180 := Aside0.mk (bb BK180.out hb)
          replace BK194 := Aside0.mk (bb BK194.out hb)
          replace HB := Aside0.mk (below_step bel hb)
          (try clear hb)
          (try clear hb2)
          (try clear hk)
          (try clear hi)
          (try clear ho0)
          obtain ⟨Ao95, co95, eo95⟩ := Kd.R_slice HO202.out
          (first | subst eo95 | (injection eo95 with f1_ f2_ f3_; have f4_ := f1_.symm; have f5_ := f3_.symm; clear f1_ f2_ f3_; subst f4_; subst f5_))
          refine hK.out _ _ ⟨(blk_cell BK194.out 0).trans rfl, (blk_cell BK194.out 1).trans rfl, (blk_cell BK180.out 0).trans rfl, (blk_cell BK180.out 1).trans rfl⟩ (fun hHeld => ?_)
          clear hK K
          refine norm_ (a' := ?_) ?_ ?_
          rotate_left
          · show Act.put _ (some 39) _ = _
            simp only [Act.put, List.setIfInBounds_toArray, List.set_cons_zero, List.set_cons_succ, i64_w, i32_w]
            rfl
          refine one_ (i := 3) (N := some 40) #[true, true, true, true, false] rfl rfl (by kernel_rfl) (by decide) (fun K hK => ?_)
          refine goes_ Try.func15 (by kernel_rfl) rfl #[.agg #[.int .i64 t190, .slice Ao88 t191.length co88], .agg #[.int .i64 t199, .slice Ao95 t200.length co95]] (by rfl) rfl rfl ga ?_
          with_reducible refine (laws_eqNet.calls k t190 _ _ t191 t199 _ _ t200 false _ ?side1 ?side2 ?side3 ?side4 A19.out).mono ?_
          (case side1 => exact ck (Kd.R_reads' HO193.out).2.2)
          (case side2 => exact (Kd.R_reads' HO193.out).2.1)
          (case side3 => exact ck (Kd.R_reads' HO202.out).2.2)
          (case side4 => exact (Kd.R_reads' HO202.out).2.1)
          rintro e w96 ⟨rfl, hb⟩
          refine ⟨_, rfl, ?_⟩
          replace HO185 := Aside0.mk (Kd.R_below (rk HO185.out) hb)
          replace HO188 := Aside0.mk (Kd.R_below (rk HO188.out) hb)
          replace HO193 := Aside0.mk (Kd.R_below (rk HO193.out) hb)
          replace HO197 := Aside0.mk (Kd.R_below (rk HO197.out) hb)
          replace HO202 := Aside0.mk (Kd.R_below (rk HO202.out) hb)
          replace BK180 := Aside0.mk (bb BK180.out hb)
          replace BK194 := Aside0.mk (bb BK194.out hb)
          replace HB := Aside0.mk (below_step bel hb)
          (try clear hb)
          (try clear hb2)
          (try clear hk)
          (try clear hi)
          refine hK.out _ _ ⟨(blk_cell BK194.out 0).trans rfl, (blk_cell BK194.out 1).trans rfl, (blk_cell BK180.out 0).trans rfl, (blk_cell BK180.out 1).trans rfl⟩ (fun hHeld => ?_)
          clear hK K
          refine norm_ (a' := ?_) ?_ ?_
          rotate_left
          · show Act.put _ (some 40) _ = _
            simp only [Act.put, List.setIfInBounds_toArray, List.set_cons_zero, List.set_cons_succ, i64_w, i32_w]
            rfl
          refine pure_ (i := 4) (N := some 41) (v := ?_) (a' := ?_) #[true, true, true, true, true] rfl rfl (by kernel_rfl) (fun _ _ _ h => h) (Or.inl ⟨by rfl, ?_⟩) ?_ ?_
          rotate_left
          · intro w'
            go_simp
            with_reducible rfl
          rotate_left
          · simp only [Act.put, List.setIfInBounds_toArray, List.set_cons_zero, List.set_cons_succ, i64_w, i32_w]
            rfl
          refine done_ (by kernel_rfl) ?_
          try go_wp2
          go_ret
          exact ⟨er, bel⟩
      · rw [if_neg c17] at H
        have c17b0 : (t198 == t189) = false := beq_eq_false_iff_ne.mpr c17
        have c17b1 : (t198 != t189) = true := bne_iff_ne.mpr c17
        obtain rfl := Option.some.inj H
        go_enter Try.func4, Try.ntmps4
        go_wp2_with (first | ((with_reducible refine gate_dst (N := 3) rfl ?_); refine box_event ?hg (N := 3) ?hd (cs := #[.int .i64 a0_0, .slice A0_1 l0_1.length c0_1]) (t := 24) ?hr ?_; (case hd => rfl); (case hg => rfl); (case hr => first | (go_simp; done) | (go_simp; rfl)); intro gb180 hg w97 hbox hb; have BK180 := Aside0.mk (hbox); have GW180 := Aside0.mk ((bsz hg : w.heap.size ≤ gb180)); have GE180 := Aside0.mk ((bsz hg : w.heap.size ≤ gb180)); replace HB := Aside0.mk (below_step bel hb); clear hb hbox hg; obtain ⟨hcz98_0, hcz98_1, hfz98_0, hfz98_1⟩ := cf2 BK180.out) | ((with_reducible refine gate_callee (f := 11) rfl ?_); refine goesL_ (some 17) rfl rfl Try.func11 (by kernel_rfl) rfl #[.agg #[.int .i64 a0_0, .slice A0_1 l0_1.length c0_1], .int .i64 1048576] rfl ga ?_; (with_reducible refine (laws_szNet.calls a0_0 _ _ l0_1 1048576 t181 _ ?side1 ?side2 A6.out).mono ?_); (case side1 => exact ck (Kd.C_below HR0_1.out HB.out)); (case side2 => exact HC0_1.out); rintro e w99 ⟨rfl, hb⟩; refine ⟨_, rfl, ?_⟩; replace BK180 := Aside0.mk (bb BK180.out hb); replace HB := Aside0.mk (below_step bel hb); (try clear hb); obtain ⟨hcz100_0, hcz100_1, hfz100_0, hfz100_1⟩ := cf2 BK180.out) | ((with_reducible refine gate_callee (f := 13) rfl ?_); refine goesL_ (some 21) rfl rfl Try.func13 (by kernel_rfl) rfl #[.agg #[.int .i64 a0_0, .slice A0_1 l0_1.length c0_1]] rfl ga ?_; (with_reducible refine (laws_toNet.calls k a0_0 _ _ l0_1 t182 t183 _ ?side1 ?side2 A11.out).mono ?_); (case side1 => exact ck (Kd.C_below HR0_1.out HB.out)); (case side2 => exact HC0_1.out); rintro e w101 ⟨v184, rfl, ho0, hb⟩; refine ⟨_, rfl, ?_⟩; have HO185 := Aside0.mk (Kd.R_lower ho0 (below_size bel)); replace BK180 := Aside0.mk (bb BK180.out hb); replace HB := Aside0.mk (below_step bel hb); (try clear hb); (try clear ho0)) | ((with_reducible refine gate_callee (f := 17) rfl ?_); refine goesL_ (some 24) rfl rfl Try.func17 (by kernel_rfl) rfl #[.slice A2 l2.length c2] rfl ga ?_; (with_reducible refine (laws_toIntS.calls k _ _ l2 t186 _ ?side1 ?side2 A12.out).mono ?_); (case side1 => exact ck (Kd.C_below HR2.out HB.out)); (case side2 => exact HC2.out); rintro e w102 ⟨v187, rfl, ho0, hb⟩; refine ⟨_, rfl, ?_⟩; have HO188 := Aside0.mk (Kd.R_lower ho0 (below_size bel)); replace HO185 := Aside0.mk (Kd.R_below (rk HO185.out) hb); replace BK180 := Aside0.mk (bb BK180.out hb); replace HB := Aside0.mk (below_step bel hb); (try clear hb); (try clear ho0); obtain ⟨Ao103, co103, eo103⟩ := Kd.R_slice HO185.out; subst eo103; obtain ⟨Ao104, co104, eo104⟩ := Kd.R_slice HO188.out; subst eo104) | ((with_reducible refine gate_callee (f := 16) rfl ?_); refine goesL_ (some 25) rfl rfl Try.func16 (by kernel_rfl) rfl #[.agg #[.int .i64 t182, .slice Ao103 t183.length co103], .int .i64 a1, .slice Ao104 t186.length co104] rfl ga ?_; (with_reducible refine (spec_FlowValue.calls k t182 _ _ t183 a1 _ _ t186 t189 _ ?side1 ?side2 ?side3 ?side4 A13.out).mono ?_); (case side1 => exact ck (Kd.R_reads' HO185.out).2.2); (case side2 => exact (Kd.R_reads' HO185.out).2.1); (case side3 => exact ck (Kd.R_reads' HO188.out).2.2); (case side4 => exact (Kd.R_reads' HO188.out).2.1); rintro e w105 ⟨rfl, hb⟩; refine ⟨_, rfl, ?_⟩; replace HO185 := Aside0.mk (Kd.R_below (rk HO185.out) hb); replace HO188 := Aside0.mk (Kd.R_below (rk HO188.out) hb); replace BK180 := Aside0.mk (bb BK180.out hb); replace HB := Aside0.mk (below_step bel hb); (try clear hb); obtain ⟨hcz106_0, hcz106_1, hfz106_0, hfz106_1⟩ := cf2 BK180.out) | ((with_reducible refine gate_callee (f := 13) rfl ?_); refine goesL_ (some 27) rfl rfl Try.func13 (by kernel_rfl) rfl #[.agg #[.int .i64 a0_0, .slice A0_1 l0_1.length c0_1]] rfl ga ?_; (with_reducible refine (laws_toNet.calls k a0_0 _ _ l0_1 t190 t191 _ ?side1 ?side2 A14.out).mono ?_); (case side1 => exact ck (Kd.C_below HR0_1.out HB.out)); (case side2 => exact HC0_1.out); rintro e w107 ⟨v192, rfl, ho0, hb⟩; refine ⟨_, rfl, ?_⟩; have HO193 := Aside0.mk (Kd.R_lower (Kd.R_new' ho0 (Kd.R_lt (rk HO185.out))) (below_size bel)); replace HO185 := Aside0.mk (Kd.R_elder' (rk HO185.out) (Kd.R_base ho0) hb); replace HO188 := Aside0.mk (Kd.R_below (rk HO188.out) hb); replace BK180 := Aside0.mk (bb BK180.out hb); replace HB := Aside0.mk (below_step bel hb); (try clear hb); (try clear ho0)) | ((with_reducible refine gate_dst (N := 9) rfl ?_); refine box_event ?hg (N := 9) ?hd (cs := #[.int .i64 0, .slice none 0 0]) (t := 29) ?hr ?_; (case hd => rfl); (case hg => rfl); (case hr => first | (go_simp; done) | (go_simp; rfl)); intro gb194 hg w108 hbox hb; have BK194 := Aside0.mk (hbox); have GW194 := Aside0.mk ((bsz hg : w.heap.size ≤ gb194)); have GE194 := Aside0.mk ((bsz hg : w.heap.size ≤ gb194)); have NB180_194 := Aside0.mk ((nlt hg BK180.out : gb180 ≠ gb194)); have NB194_180 := Aside0.mk ((ngt hg BK180.out : gb194 ≠ gb180)); replace HO185 := Aside0.mk (Kd.R_below (rk HO185.out) hb); replace HO188 := Aside0.mk (Kd.R_below (rk HO188.out) hb); replace HO193 := Aside0.mk (Kd.R_below (rk HO193.out) hb); replace BK180 := Aside0.mk (bb BK180.out hb); replace HB := Aside0.mk (below_step bel hb); clear hb hbox hg; have hnb109 := NB194_180.out; have hnc109 := NB180_194.out; obtain ⟨hcz110_0, hcz110_1, hfz110_0, hfz110_1⟩ := cf2 BK194.out; obtain ⟨Ao111, co111, eo111⟩ := Kd.R_slice HO193.out; subst eo111) | ((with_reducible refine gate_callee (f := 17) rfl ?_); refine goesL_ (some 29) rfl rfl Try.func17 (by kernel_rfl) rfl #[.slice A2 l2.length c2] rfl ga ?_; (with_reducible refine (laws_toIntS.calls k _ _ l2 t195 _ ?side1 ?side2 A15.out).mono ?_); (case side1 => exact Kd.C_below HR2.out bel); (case side2 => exact HC2.out); rintro e w112 ⟨v196, rfl, ho0, hb⟩; refine ⟨_, rfl, ?_⟩; have HO197 := Aside0.mk (Kd.R_lower (Kd.R_new' ho0 (Kd.R_lt (by exact rk (Kd.R_mono (Kd.R_far (p := ⟨gb194, 1, none⟩) (Kd.R_far (p := ⟨gb194, 0, none⟩) (Kd.R_types HO188.out BK194.out (by decide)) (fun _ hk => hk.2) (.int .i64 t190)) (fun _ hk => hk.2) (.slice Ao111 t191.length co111)) (fun _ h_ => h_.1))))) (below_size bel)); replace HO185 := Aside0.mk (Kd.R_below (by exact rk (Kd.R_mono (Kd.R_far (p := ⟨gb194, 1, none⟩) (Kd.R_far (p := ⟨gb194, 0, none⟩) (Kd.R_types HO185.out BK194.out (by decide)) (fun _ hk => hk.2) (.int .i64 t190)) (fun _ hk => hk.2) (.slice Ao111 t191.length co111)) (fun _ h_ => h_.1))) hb); replace HO188 := Aside0.mk (Kd.R_elder' (by exact rk (Kd.R_mono (Kd.R_far (p := ⟨gb194, 1, none⟩) (Kd.R_far (p := ⟨gb194, 0, none⟩) (Kd.R_types HO188.out BK194.out (by decide)) (fun _ hk => hk.2) (.int .i64 t190)) (fun _ hk => hk.2) (.slice Ao111 t191.length co111)) (fun _ h_ => h_.1))) (Kd.R_base ho0) hb); replace HO193 := Aside0.mk (Kd.R_below (by exact rk (Kd.R_mono (Kd.R_far (p := ⟨gb194, 1, none⟩) (Kd.R_far (p := ⟨gb194, 0, none⟩) (Kd.R_types HO193.out BK194.out (by decide)) (fun _ hk => hk.2) (.int .i64 t190)) (fun _ hk => hk.2) (.slice Ao111 t191.length co111)) (fun _ h_ => h_.1))) hb); replace BK180 := Aside0.mk (bb BK180.out hb); replace BK194 := Aside0.mk (blk_below (g := gb194) (o := .cells #[.int .i64 t190, .slice Ao111 t191.length co111] 29 (0, 0)) (by (with_reducible repeat (first | refine blk_drewN ?_ _ | refine blk_drew ?_ | refine blk_alloc ?_ _)); refine blk_put (cs := #[.int .i64 t190, .slice none 0 0]) ?_ 1 _ rfl; (with_reducible repeat (first | refine blk_drewN ?_ _ | refine blk_drew ?_ | refine blk_alloc ?_ _)); refine blk_put (cs := #[.int .i64 0, .slice none 0 0]) ?_ 0 _ rfl; (with_reducible repeat (first | refine blk_drewN ?_ _ | refine blk_drew ?_ | refine blk_alloc ?_ _)); exact BK194.out) hb); replace HB := Aside0.mk (below_step bel hb); (try clear hb); (try clear ho0); obtain ⟨hcz113_0, hcz113_1, hfz113_0, hfz113_1⟩ := cf2 BK194.out; obtain ⟨Ao114, co114, eo114⟩ := Kd.R_slice HO197.out; subst eo114) | ((with_reducible refine gate_callee (f := 18) rfl ?_); refine goesL_ (some 33) rfl rfl Try.func18 (by kernel_rfl) rfl #[.agg #[.int .i64 t190, .slice Ao111 t191.length co111], .int .i64 a1, .slice Ao114 t195.length co114] rfl ga ?_; (with_reducible refine (impl_FlowValue.calls k t190 _ _ t191 a1 _ _ t195 t198 _ ?side1 ?side2 ?side3 ?side4 A16.out).mono ?_); (case side1 => exact ck (Kd.R_reads' HO193.out).2.2); (case side2 => exact (Kd.R_reads' HO193.out).2.1); (case side3 => exact ck (Kd.R_reads' HO197.out).2.2); (case side4 => exact (Kd.R_reads' HO197.out).2.1); rintro e w115 ⟨rfl, hb⟩; refine ⟨_, rfl, ?_⟩; replace HO185 := Aside0.mk (Kd.R_below (rk HO185.out) hb); replace HO188 := Aside0.mk (Kd.R_below (rk HO188.out) hb); replace HO193 := Aside0.mk (Kd.R_below (rk HO193.out) hb); replace HO197 := Aside0.mk (Kd.R_below (rk HO197.out) hb); replace BK180 := Aside0.mk (bb BK180.out hb); replace BK194 := Aside0.mk (bb BK194.out hb); replace HB := Aside0.mk (below_step bel hb); (try clear hb)))
        go_ret
        exact ⟨er, bel⟩

end Go.Proofs.Yteaemblallbgpaa.X
