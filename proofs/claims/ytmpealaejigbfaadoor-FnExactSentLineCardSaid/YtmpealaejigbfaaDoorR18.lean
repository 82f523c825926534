-- Written by a program of this session (wip/xp.py, over the kit's print) out of the translation: functions, and the walks that show them.
import Derived.Test.YtmpealaejigbfaaDoorR0
import Derived.Test.YtmpealaejigbfaaDoorR3
import Derived.Test.YtmpealaejigbfaaDoorR4
import Derived.Test.YtmpealaejigbfaaDoorR5
import Derived.Test.YtmpealaejigbfaaDoorR9
import Derived.Test.YtmpealaejigbfaaDoorR10
import Derived.Test.YtmpealaejigbfaaDoorR15
import Derived.Test.YtmpealaejigbfaaDoorR16
import Derived.Test.YtmpealaejigbfaaDoorR17
namespace Go.Proofs.YtmpealaejigbfaaDoor.R
open Go.RowKit Go.Proofs.YtmpealaejigbfaaDoorW.PrintWords Go.Proofs.YtmpealaejigbfaaDoorW.PrintLast Go.Proofs.YtmpealaejigbfaaDoorW.PrintMore
attribute [local go_sem] max2_int min2_int max_two min_two max_three min_three max_four min_four   -- for this text's walks alone
set_option linter.unusedVariables false
set_option linter.unusedSimpArgs false

/-! ### laws_FnExactSentLine: function 4 -/
def laws_FnExactSentLine.f (k : Nat) (l0 : List (S48)) (a1_0 : Int) (l1_1 : List Int) : Option (Bool) := (laws_szTeamS.f k l0 1048576).bind fun t274 => (if t274 < 0 then (some true) else ((laws_szSent.f a1_0 l1_1 t274).bind fun t275 => (if t275 < 0 then (some true) else ((laws_toTeamS.f k l0).bind fun t276 => ((laws_toSent.f k a1_0 l1_1).bind fun bt279 => ((spec_SentLine.f k t276 bt279.1 bt279.2).bind fun t283 => ((laws_toTeamS.f k l0).bind fun t284 => ((laws_toSent.f k a1_0 l1_1).bind fun bt287 => ((impl_SentLine.f k t284 bt287.1 bt287.2).bind fun t292 => (if t292.toList = t283.toList then ((laws_toTeamS.f k l0).bind fun t293 => ((laws_eqTeamS.f k t284 t293).bind fun t296 => (if t296 = true then ((laws_toSent.f k a1_0 l1_1).bind fun bt297 => ((laws_eqSent.f k bt287.1 bt287.2 bt297.1 bt297.2).bind fun t301 => (if t301 = true then (some true) else (some false)))) else (some false)))) else (some false)))))))))))
theorem laws_FnExactSentLine.mono : ∀ a0 a1 a2 k, LeO (laws_FnExactSentLine.f k a0 a1 a2) (laws_FnExactSentLine.f (k + 1) a0 a1 a2) := by
  intro a0 a1 a2 k
  unfold laws_FnExactSentLine.f
  repeat' first
      | (with_reducible exact impl_SentLine.mono _ _ _ _)
      | (with_reducible exact laws_eqSent.mono _ _ _ _ _)
      | (with_reducible exact laws_eqTeamS.mono _ _ _)
      | (with_reducible exact laws_szTeamS.mono _ _ _)
      | (with_reducible exact laws_toSent.mono _ _ _)
      | (with_reducible exact laws_toTeamS.mono _ _)
      | (with_reducible exact spec_SentLine.mono _ _ _ _)
      | (with_reducible exact LeO.refl _)
      | (with_reducible exact LeO.none _)
      | (with_reducible refine LeO.ite ?_ ?_)
      | (with_reducible refine LeO.bind ?_ (fun _ => ?_))
      | exact impl_SentLine.mono _ _ _ _
      | exact laws_eqSent.mono _ _ _ _ _
      | exact laws_eqTeamS.mono _ _ _
      | exact laws_szTeamS.mono _ _ _
      | exact laws_toSent.mono _ _ _
      | exact laws_toTeamS.mono _ _
      | exact spec_SentLine.mono _ _ _ _
      | exact LeO.none _
      | refine LeO.ite ?_ ?_
      | refine LeO.bind ?_ (fun _ => ?_)
set_option maxHeartbeats 8000000 in
set_option maxRecDepth 100000 in
theorem laws_FnExactSentLine.calls (k : Nat) (A0 : Option Addr) (c0 : Nat) (l0 : List (S48)) (a1_0 : Int) (A1_1 : Option Addr) (c1_1 : Nat) (l1_1 : List Int) (r : Bool) (w : World) (hT : TabW w) (hr0 : Kd.C k48 w A0 l0.length l0) (hc0 : l0.length ≤ c0) (hr1_1 : Kd.C (Kd.int .i64) w A1_1 l1_1.length l1_1) (hc1_1 : l1_1.length ≤ c1_1) (h : laws_FnExactSentLine.f k l0 a1_0 l1_1 = some r) :
    Calls Tryd.prog 4 #[.slice A0 l0.length c0, .agg #[.int .i64 a1_0, .slice A1_1 l1_1.length c1_1]] w fun e w' => e = .returned (.bool r) ∧ Below w.heap.size w w' := by
  have HT := Aside0.mk hT
  clear hT
  have hu31 := Tryd.underlying31
  have hu37 := Tryd.underlying37
  have HR0 := Aside0.mk hr0
  have HC0 := Aside0.mk hc0
  clear hr0 hc0
  have HR1_1 := Aside0.mk hr1_1
  have HC1_1 := Aside0.mk hc1_1
  clear hr1_1 hc1_1
  have HB := Aside0.mk (Below.refl w.heap.size w)
  have H : ((laws_szTeamS.f k l0 1048576).bind fun t274 => (if t274 < 0 then (some true) else ((laws_szSent.f a1_0 l1_1 t274).bind fun t275 => (if t275 < 0 then (some true) else ((laws_toTeamS.f k l0).bind fun t276 => ((laws_toSent.f k a1_0 l1_1).bind fun bt279 => ((spec_SentLine.f k t276 bt279.1 bt279.2).bind fun t283 => ((laws_toTeamS.f k l0).bind fun t284 => ((laws_toSent.f k a1_0 l1_1).bind fun bt287 => ((impl_SentLine.f k t284 bt287.1 bt287.2).bind fun t292 => (if t292.toList = t283.toList then ((laws_toTeamS.f k l0).bind fun t293 => ((laws_eqTeamS.f k t284 t293).bind fun t296 => (if t296 = true then ((laws_toSent.f k a1_0 l1_1).bind fun bt297 => ((laws_eqSent.f k bt287.1 bt287.2 bt297.1 bt297.2).bind fun t301 => (if t301 = true then (some true) else (some false)))) else (some false)))) else (some false)))))))))))) = some r := h
  clear h
  replace H := Option.bind_eq_some_iff.mp H
  obtain ⟨t274, A30, H⟩ := H
  replace H : (if t274 < 0 then (some true) else ((laws_szSent.f a1_0 l1_1 t274).bind fun t275 => (if t275 < 0 then (some true) else ((laws_toTeamS.f k l0).bind fun t276 => ((laws_toSent.f k a1_0 l1_1).bind fun bt279 => ((spec_SentLine.f k t276 bt279.1 bt279.2).bind fun t283 => ((laws_toTeamS.f k l0).bind fun t284 => ((laws_toSent.f k a1_0 l1_1).bind fun bt287 => ((impl_SentLine.f k t284 bt287.1 bt287.2).bind fun t292 => (if t292.toList = t283.toList then ((laws_toTeamS.f k l0).bind fun t293 => ((laws_eqTeamS.f k t284 t293).bind fun t296 => (if t296 = true then ((laws_toSent.f k a1_0 l1_1).bind fun bt297 => ((laws_eqSent.f k bt287.1 bt287.2 bt297.1 bt297.2).bind fun t301 => (if t301 = true then (some true) else (some false)))) else (some false)))) else (some false))))))))))) = some r := H
  have A3 := Aside0.mk A30
  clear A30
  by_cases c4 : t274 < 0
  · rw [if_pos c4] at H
    have c4b0 : decide (t274 < 0) = true := decide_eq_true c4
    clear c4
    obtain rfl := Option.some.inj H
    go_enter Tryd.func4, Tryd.ntmps4
    go_wp2_with (first | ((with_reducible refine gate_dst (N := 3) rfl ?_); refine box_event ?hg (N := 3) ?hd (cs := #[.int .i64 a1_0, .slice A1_1 l1_1.length c1_1]) (t := 31) ?hr ?_; (case hd => rfl); (case hg => rfl); (case hr => first | (go_simp; done) | (go_simp; rfl)); intro gb273 hg w5 hbox hb; have BK273 := Aside0.mk (hbox); have GW273 := Aside0.mk ((bsz hg : w.heap.size ≤ gb273)); have GE273 := Aside0.mk ((bsz hg : w.heap.size ≤ gb273)); replace HB := Aside0.mk (below_step bel hb); clear hb hbox hg) | ((with_reducible refine gate_callee (f := 8) rfl ?_); refine goesL_ (some 12) rfl rfl Tryd.func8 (by kernel_rfl) rfl #[.slice A0 l0.length c0, .int .i64 1048576] rfl ga ?_; (with_reducible refine (laws_szTeamS.calls k _ _ l0 1048576 t274 _ ?side1 ?side2 A3.out).mono ?_); (case side1 => exact ck (Kd.C_below HR0.out HB.out)); (case side2 => exact HC0.out); rintro e w6 ⟨rfl, hb⟩; refine ⟨_, rfl, ?_⟩; replace BK273 := Aside0.mk (bb BK273.out hb); replace HB := Aside0.mk (below_step bel hb); (try clear hb)))
    go_ret
    exact ⟨er, bel⟩
  · rw [if_neg c4] at H
    have c4b0 : decide (t274 < 0) = false := decide_eq_false c4
    clear c4
    replace H := Option.bind_eq_some_iff.mp H
    obtain ⟨t275, A70, H⟩ := H
    replace H : (if t275 < 0 then (some true) else ((laws_toTeamS.f k l0).bind fun t276 => ((laws_toSent.f k a1_0 l1_1).bind fun bt279 => ((spec_SentLine.f k t276 bt279.1 bt279.2).bind fun t283 => ((laws_toTeamS.f k l0).bind fun t284 => ((laws_toSent.f k a1_0 l1_1).bind fun bt287 => ((impl_SentLine.f k t284 bt287.1 bt287.2).bind fun t292 => (if t292.toList = t283.toList then ((laws_toTeamS.f k l0).bind fun t293 => ((laws_eqTeamS.f k t284 t293).bind fun t296 => (if t296 = true then ((laws_toSent.f k a1_0 l1_1).bind fun bt297 => ((laws_eqSent.f k bt287.1 bt287.2 bt297.1 bt297.2).bind fun t301 => (if t301 = true then (some true) else (some false)))) else (some false)))) else (some false))))))))) = some r := H
    have A7 := Aside0.mk A70
    clear A70
    by_cases c8 : t275 < 0
    · rw [if_pos c8] at H
      have c8b0 : decide (t275 < 0) = true := decide_eq_true c8
      clear c8
      obtain rfl := Option.some.inj H
      go_enter Tryd.func4, Tryd.ntmps4
      go_wp2_with (first | ((with_reducible refine gate_dst (N := 3) rfl ?_); refine box_event ?hg (N := 3) ?hd (cs := #[.int .i64 a1_0, .slice A1_1 l1_1.length c1_1]) (t := 31) ?hr ?_; (case hd => rfl); (case hg => rfl); (case hr => first | (go_simp; done) | (go_simp; rfl)); intro gb273 hg w9 hbox hb; have BK273 := Aside0.mk (hbox); have GW273 := Aside0.mk ((bsz hg : w.heap.size ≤ gb273)); have GE273 := Aside0.mk ((bsz hg : w.heap.size ≤ gb273)); replace HB := Aside0.mk (below_step bel hb); clear hb hbox hg) | ((with_reducible refine gate_callee (f := 8) rfl ?_); refine goesL_ (some 12) rfl rfl Tryd.func8 (by kernel_rfl) rfl #[.slice A0 l0.length c0, .int .i64 1048576] rfl ga ?_; (with_reducible refine (laws_szTeamS.calls k _ _ l0 1048576 t274 _ ?side1 ?side2 A3.out).mono ?_); (case side1 => exact ck (Kd.C_below HR0.out HB.out)); (case side2 => exact HC0.out); rintro e w10 ⟨rfl, hb⟩; refine ⟨_, rfl, ?_⟩; replace BK273 := Aside0.mk (bb BK273.out hb); replace HB := Aside0.mk (below_step bel hb); (try clear hb); obtain ⟨hcz11_0, hcz11_1, hfz11_0, hfz11_1⟩ := cf2 BK273.out) | ((with_reducible refine gate_callee (f := 9) rfl ?_); refine goesL_ (some 17) rfl rfl Tryd.func9 (by kernel_rfl) rfl #[.agg #[.int .i64 a1_0, .slice A1_1 l1_1.length c1_1], .int .i64 t274] rfl ga ?_; (with_reducible refine (laws_szSent.calls a1_0 _ _ l1_1 t274 t275 _ ?side1 ?side2 A7.out).mono ?_); (case side1 => exact ck (Kd.C_below HR1_1.out HB.out)); (case side2 => exact HC1_1.out); rintro e w12 ⟨rfl, hb⟩; refine ⟨_, rfl, ?_⟩; replace BK273 := Aside0.mk (bb BK273.out hb); replace HB := Aside0.mk (below_step bel hb); (try clear hb)))
      go_ret
      exact ⟨er, bel⟩
    · rw [if_neg c8] at H
      have c8b0 : decide (t275 < 0) = false := decide_eq_false c8
      clear c8
      replace H := Option.bind_eq_some_iff.mp H
      obtain ⟨t276, A130, H⟩ := H
      replace H : ((laws_toSent.f k a1_0 l1_1).bind fun bt279 => ((spec_SentLine.f k t276 bt279.1 bt279.2).bind fun t283 => ((laws_toTeamS.f k l0).bind fun t284 => ((laws_toSent.f k a1_0 l1_1).bind fun bt287 => ((impl_SentLine.f k t284 bt287.1 bt287.2).bind fun t292 => (if t292.toList = t283.toList then ((laws_toTeamS.f k l0).bind fun t293 => ((laws_eqTeamS.f k t284 t293).bind fun t296 => (if t296 = true then ((laws_toSent.f k a1_0 l1_1).bind fun bt297 => ((laws_eqSent.f k bt287.1 bt287.2 bt297.1 bt297.2).bind fun t301 => (if t301 = true then (some true) else (some false)))) else (some false)))) else (some false))))))) = some r := H
      have A13 := Aside0.mk A130
      clear A130
      replace H := Option.bind_eq_some_iff.mp H
      obtain ⟨⟨t279, t280⟩, A140, H⟩ := H
      replace H : ((spec_SentLine.f k t276 t279 t280).bind fun t283 => ((laws_toTeamS.f k l0).bind fun t284 => ((laws_toSent.f k a1_0 l1_1).bind fun bt287 => ((impl_SentLine.f k t284 bt287.1 bt287.2).bind fun t292 => (if t292.toList = t283.toList then ((laws_toTeamS.f k l0).bind fun t293 => ((laws_eqTeamS.f k t284 t293).bind fun t296 => (if t296 = true then ((laws_toSent.f k a1_0 l1_1).bind fun bt297 => ((laws_eqSent.f k bt287.1 bt287.2 bt297.1 bt297.2).bind fun t301 => (if t301 = true then (some true) else (some false)))) else (some false)))) else (some false)))))) = some r := H
      have A14 := Aside0.mk A140
      clear A140
      replace H := Option.bind_eq_some_iff.mp H
      obtain ⟨t283, A150, H⟩ := H
      replace H : ((laws_toTeamS.f k l0).bind fun t284 => ((laws_toSent.f k a1_0 l1_1).bind fun bt287 => ((impl_SentLine.f k t284 bt287.1 bt287.2).bind fun t292 => (if t292.toList = t283.toList then ((laws_toTeamS.f k l0).bind fun t293 => ((laws_eqTeamS.f k t284 t293).bind fun t296 => (if t296 = true then ((laws_toSent.f k a1_0 l1_1).bind fun bt297 => ((laws_eqSent.f k bt287.1 bt287.2 bt297.1 bt297.2).bind fun t301 => (if t301 = true then (some true) else (some false)))) else (some false)))) else (some false))))) = some r := H
      have A15 := Aside0.mk A150
      clear A150
      replace H := Option.bind_eq_some_iff.mp H
      obtain ⟨t284, A160, H⟩ := H
      replace H : ((laws_toSent.f k a1_0 l1_1).bind fun bt287 => ((impl_SentLine.f k t284 bt287.1 bt287.2).bind fun t292 => (if t292.toList = t283.toList then ((laws_toTeamS.f k l0).bind fun t293 => ((laws_eqTeamS.f k t284 t293).bind fun t296 => (if t296 = true then ((laws_toSent.f k a1_0 l1_1).bind fun bt297 => ((laws_eqSent.f k bt287.1 bt287.2 bt297.1 bt297.2).bind fun t301 => (if t301 = true then (some true) else (some false)))) else (some false)))) else (some false)))) = some r := H
      have A16 := Aside0.mk A160
      clear A160
      replace H := Option.bind_eq_some_iff.mp H
      obtain ⟨⟨t287, t288⟩, A170, H⟩ := H
      replace H : ((impl_SentLine.f k t284 t287 t288).bind fun t292 => (if t292.toList = t283.toList then ((laws_toTeamS.f k l0).bind fun t293 => ((laws_eqTeamS.f k t284 t293).bind fun t296 => (if t296 = true then ((laws_toSent.f k a1_0 l1_1).bind fun bt297 => ((laws_eqSent.f k t287 t288 bt297.1 bt297.2).bind fun t301 => (if t301 = true then (some true) else (some false)))) else (some false)))) else (some false))) = some r := H
      have A17 := Aside0.mk A170
      clear A170
      replace H := Option.bind_eq_some_iff.mp H
      obtain ⟨t292, A180, H⟩ := H
      replace H : (if t292.toList = t283.toList then ((laws_toTeamS.f k l0).bind fun t293 => ((laws_eqTeamS.f k t284 t293).bind fun t296 => (if t296 = true then ((laws_toSent.f k a1_0 l1_1).bind fun bt297 => ((laws_eqSent.f k t287 t288 bt297.1 bt297.2).bind fun t301 => (if t301 = true then (some true) else (some false)))) else (some false)))) else (some false)) = some r := H
      have A18 := Aside0.mk A180
      clear A180
      by_cases c19 : t292.toList = t283.toList
      · rw [if_pos c19] at H
        have c19b0 : (t292.toList == t283.toList) = true := beq_iff_eq.mpr c19
        have c19b1 : (t292.toList != t283.toList) = false := bne_eq_false_iff_eq.mpr c19
        clear c19
        replace H := Option.bind_eq_some_iff.mp H
        obtain ⟨t293, A200, H⟩ := H
        replace H : ((laws_eqTeamS.f k t284 t293).bind fun t296 => (if t296 = true then ((laws_toSent.f k a1_0 l1_1).bind fun bt297 => ((laws_eqSent.f k t287 t288 bt297.1 bt297.2).bind fun t301 => (if t301 = true then (some true) else (some false)))) else (some false))) = some r := H
        have A20 := Aside0.mk A200
        clear A200
        replace H := Option.bind_eq_some_iff.mp H
        obtain ⟨t296, A210, H⟩ := H
        replace H : (if t296 = true then ((laws_toSent.f k a1_0 l1_1).bind fun bt297 => ((laws_eqSent.f k t287 t288 bt297.1 bt297.2).bind fun t301 => (if t301 = true then (some true) else (some false)))) else (some false)) = some r := H
        have A21 := Aside0.mk A210
        clear A210
        by_cases c22 : t296 = true
        · subst c22
          have H1 : ((laws_toSent.f k a1_0 l1_1).bind fun bt297 => ((laws_eqSent.f k t287 t288 bt297.1 bt297.2).bind fun t301 => (if t301 = true then (some true) else (some false)))) = some r := by rw [if_pos rfl] at H; exact H
          clear H
          have H := H1
          clear H1
          replace H := Option.bind_eq_some_iff.mp H
          obtain ⟨⟨t297, t298⟩, A230, H⟩ := H
          replace H : ((laws_eqSent.f k t287 t288 t297 t298).bind fun t301 => (if t301 = true then (some true) else (some false))) = some r := H
          have A23 := Aside0.mk A230
          clear A230
          replace H := Option.bind_eq_some_iff.mp H
          obtain ⟨t301, A240, H⟩ := H
          replace H : (if t301 = true then (some true) else (some false)) = some r := H
          have A24 := Aside0.mk A240
          clear A240
          by_cases c25 : t301 = true
          · subst c25
            have H1 : (some true) = some r := by rw [if_pos rfl] at H; exact H
            clear H
            have H := H1
            clear H1
            obtain rfl := Option.some.inj H
            go_enter Tryd.func4, Tryd.ntmps4
            try go_wp2_with (first | ((with_reducible refine gate_dst (N := 3) rfl ?_); refine box_event ?hg (N := 3) ?hd (cs := #[.int .i64 a1_0, .slice A1_1 l1_1.length c1_1]) (t := 31) ?hr ?_; (case hd => rfl); (case hg => rfl); (case hr => first | (go_simp; done) | (go_simp; rfl)); intro gb273 hg w26 hbox hb; have BK273 := Aside0.mk (hbox); have GW273 := Aside0.mk ((bsz hg : w.heap.size ≤ gb273)); have GE273 := Aside0.mk ((bsz hg : w.heap.size ≤ gb273)); replace HB := Aside0.mk (below_step bel hb); clear hb hbox hg) | ((with_reducible refine gate_callee (f := 8) rfl ?_); refine goesL_ (some 12) rfl rfl Tryd.func8 (by kernel_rfl) rfl #[.slice A0 l0.length c0, .int .i64 1048576] rfl ga ?_; (with_reducible refine (laws_szTeamS.calls k _ _ l0 1048576 t274 _ ?side1 ?side2 A3.out).mono ?_); (case side1 => exact ck (Kd.C_below HR0.out HB.out)); (case side2 => exact HC0.out); rintro e w27 ⟨rfl, hb⟩; refine ⟨_, rfl, ?_⟩; replace BK273 := Aside0.mk (bb BK273.out hb); replace HB := Aside0.mk (below_step bel hb); (try clear hb); obtain ⟨hcz28_0, hcz28_1, hfz28_0, hfz28_1⟩ := cf2 BK273.out) | ((with_reducible refine gate_callee (f := 9) rfl ?_); refine goesL_ (some 17) rfl rfl Tryd.func9 (by kernel_rfl) rfl #[.agg #[.int .i64 a1_0, .slice A1_1 l1_1.length c1_1], .int .i64 t274] rfl ga ?_; (with_reducible refine (laws_szSent.calls a1_0 _ _ l1_1 t274 t275 _ ?side1 ?side2 A7.out).mono ?_); (case side1 => exact ck (Kd.C_below HR1_1.out HB.out)); (case side2 => exact HC1_1.out); rintro e w29 ⟨rfl, hb⟩; refine ⟨_, rfl, ?_⟩; replace BK273 := Aside0.mk (bb BK273.out hb); replace HB := Aside0.mk (below_step bel hb); (try clear hb)))
            replace BK273 := Aside0.mk (blk_drew BK273.out)
            replace HB := Aside0.mk (below_drew1 HB.out)
            refine start_ (n := 6) (S := fun w' => w'.cell? ⟨gb273, 0, none⟩ = some (.int .i64 a1_0) ∧ w'.cell? ⟨gb273, 1, none⟩ = some (.slice A1_1 l1_1.length c1_1)) (ds := []) #[false, false, false, false, false, false] (by kernel_rfl) rfl rfl ⟨(blk_cell BK273.out 0).trans rfl, (blk_cell BK273.out 1).trans rfl⟩ (fun hHeld => ?_)
            generalize w29.drew = w30 at BK273 HB hHeld ⊢
            refine pure_ (i := 0) (N := some 20) (v := ?_) (a' := ?_) #[true, false, false, false, false, false] rfl rfl (by kernel_rfl) (fun _ _ _ h => h) (Or.inl ⟨by rfl, ?_⟩) ?_ ?_
            rotate_left
            · intro w'
              go_simp
              with_reducible rfl
            rotate_left
            · simp only [Act.put, List.setIfInBounds_toArray, List.set_cons_zero, List.set_cons_succ, i64_w, i32_w]
              rfl
            refine take_ (i := 2) (N := some 22) (v := ?_) (a' := ?_) #[true, false, true, false, false, false] rfl rfl (by kernel_rfl) (fun _ _ _ h => h) (Or.inl ⟨by rfl, ?_⟩) hHeld ?_ ?_
            rotate_left
            · rintro w' ⟨s0, s1⟩
              go_simp
              with_reducible rfl
            rotate_left
            · simp only [Act.put, List.setIfInBounds_toArray, List.set_cons_zero, List.set_cons_succ, i64_w, i32_w]
              rfl
            refine one_ (i := 1) (N := some 21) #[true, true, true, false, false, false] rfl rfl (by kernel_rfl) (by decide) (fun K hK => ?_)
            refine goes_ Tryd.func11 (by kernel_rfl) rfl #[.slice A0 l0.length c0] (by rfl) rfl rfl ga ?_
            with_reducible refine (laws_toTeamS.calls k _ _ l0 t276 _ ?side1 ?side2 A13.out).mono ?_
            (case side1 => exact ck (Kd.C_below HR0.out HB.out))
            (case side2 => exact HC0.out)
            rintro e w31 ⟨v277, rfl, ho0, hb⟩
            refine ⟨_, rfl, ?_⟩
            have HO278 := Aside0.mk (Kd.R_lower ho0 (below_size bel))
            replace BK273 := Aside0.mk (bb BK273.out hb)
            replace HB := Aside0.mk (below_step bel hb)
            (try clear hb)
            (try clear hb2)
            (try clear hk)
            (try clear hi)
            (try clear ho0)
            refine hK.out _ _ ⟨(blk_cell BK273.out 0).trans rfl, (blk_cell BK273.out 1).trans rfl⟩ (fun hHeld => ?_)
            clear hK K
            refine norm_ (a' := ?_) ?_ ?_
            rotate_left
            · show Act.put _ (some 21) _ = _
              simp only [Act.put, List.setIfInBounds_toArray, List.set_cons_zero, List.set_cons_succ, i64_w, i32_w]
              rfl
            refine one_ (i := 3) (N := some 23) #[true, true, true, true, false, false] rfl rfl (by kernel_rfl) (by decide) (fun K hK => ?_)
            refine goes_ Tryd.func12 (by kernel_rfl) rfl #[.agg #[.int .i64 a1_0, .slice A1_1 l1_1.length c1_1]] (by rfl) rfl rfl ga ?_
            with_reducible refine (laws_toSent.calls k a1_0 _ _ l1_1 t279 t280 _ ?side1 ?side2 A14.out).mono ?_
            (case side1 => exact ck (Kd.C_below HR1_1.out HB.out))
            (case side2 => exact HC1_1.out)
            rintro e w32 ⟨v281, rfl, ho0, hb⟩
            refine ⟨_, rfl, ?_⟩
            have HO282 := Aside0.mk (Kd.R_lower ho0 (below_size bel))
            replace HO278 := Aside0.mk (Kd.R_below (rk HO278.out) hb)
            replace BK273 := Aside0.mk (bb BK273.out hb)
            replace HB := Aside0.mk (below_step bel hb)
            (try clear hb)
            (try clear hb2)
            (try clear hk)
            (try clear hi)
            (try clear ho0)
            obtain ⟨Ao33, co33, eo33⟩ := Kd.R_slice HO278.out
            (first | subst eo33 | (injection eo33 with f1_ f2_ f3_; have f4_ := f1_.symm; have f5_ := f3_.symm; clear f1_ f2_ f3_; subst f4_; subst f5_))
            obtain ⟨Ao34, co34, eo34⟩ := Kd.R_slice HO282.out
            (first | subst eo34 | (injection eo34 with f1_ f2_ f3_; have f4_ := f1_.symm; have f5_ := f3_.symm; clear f1_ f2_ f3_; subst f4_; subst f5_))
            refine hK.out _ _ ⟨(blk_cell BK273.out 0).trans rfl, (blk_cell BK273.out 1).trans rfl⟩ (fun hHeld => ?_)
            clear hK K
            refine norm_ (a' := ?_) ?_ ?_
            rotate_left
            · show Act.put _ (some 23) _ = _
              simp only [Act.put, List.setIfInBounds_toArray, List.set_cons_zero, List.set_cons_succ, i64_w, i32_w]
              rfl
            refine one_ (i := 4) (N := some 24) #[true, true, true, true, true, false] rfl rfl (by kernel_rfl) (by decide) (fun K hK => ?_)
            refine goes_ Tryd.func10 (by kernel_rfl) rfl #[.slice Ao33 t276.length co33, .agg #[.int .i64 t279, .slice Ao34 t280.length co34]] (by rfl) rfl rfl ga ?_
            with_reducible refine (spec_SentLine.calls k _ _ t276 t279 _ _ t280 t283 _ ?side1 ?side2 ?side3 ?side4 A15.out).mono ?_
            (case side1 => exact ck (Kd.R_reads' HO278.out).2.2)
            (case side2 => exact (Kd.R_reads' HO278.out).2.1)
            (case side3 => exact ck (Kd.R_reads' HO282.out).2.2)
            (case side4 => exact (Kd.R_reads' HO282.out).2.1)
            rintro e w35 ⟨rfl, hb⟩
            refine ⟨_, rfl, ?_⟩
            replace HO278 := Aside0.mk (Kd.R_below (rk HO278.out) hb)
            replace HO282 := Aside0.mk (Kd.R_below (rk HO282.out) hb)
            replace BK273 := Aside0.mk (bb BK273.out hb)
            replace HB := Aside0.mk (below_step bel hb)
            (try clear hb)
            (try clear hb2)
            (try clear hk)
            (try clear hi)
            refine hK.out _ _ ⟨(blk_cell BK273.out 0).trans rfl, (blk_cell BK273.out 1).trans rfl⟩ (fun hHeld => ?_)
            clear hK K
            refine norm_ (a' := ?_) ?_ ?_
            rotate_left
            · show Act.put _ (some 24) _ = _
              simp only [Act.put, List.setIfInBounds_toArray, List.set_cons_zero, List.set_cons_succ, i64_w, i32_w]
              rfl
            refine pure_ (i := 5) (N := some 6) (v := ?_) (a' := ?_) #[true, true, true, true, true, true] rfl rfl (by kernel_rfl) (fun _ _ _ h => h) (Or.inl ⟨by rfl, ?_⟩) ?_ ?_
            rotate_left
            · intro w'
              go_simp
              with_reducible rfl
            rotate_left
            · simp only [Act.put, List.setIfInBounds_toArray, List.set_cons_zero, List.set_cons_succ, i64_w, i32_w]
              rfl
            refine done_ (by kernel_rfl) ?_
            try go_wp2_with (first | ((with_reducible refine gate_callee (f := 11) rfl ?_); refine goesL_ (some 26) rfl rfl Tryd.func11 (by kernel_rfl) rfl #[.slice A0 l0.length c0] rfl ga ?_; (with_reducible refine (laws_toTeamS.calls k _ _ l0 t284 _ ?side1 ?side2 A16.out).mono ?_); (case side1 => exact ck (Kd.C_below HR0.out HB.out)); (case side2 => exact HC0.out); rintro e w36 ⟨v285, rfl, ho0, hb⟩; refine ⟨_, rfl, ?_⟩; have HO286 := Aside0.mk (Kd.R_lower (Kd.R_new' ho0 (Kd.R_lt (rk HO278.out))) (below_size bel)); replace HO278 := Aside0.mk (Kd.R_elder' (rk HO278.out) (Kd.R_base ho0) hb); replace HO282 := Aside0.mk (Kd.R_below (rk HO282.out) hb); replace BK273 := Aside0.mk (bb BK273.out hb); replace HB := Aside0.mk (below_step bel hb); (try clear hb); (try clear ho0); obtain ⟨hcz37_0, hcz37_1, hfz37_0, hfz37_1⟩ := cf2 BK273.out) | ((with_reducible refine gate_callee (f := 12) rfl ?_); refine goesL_ (some 28) rfl rfl Tryd.func12 (by kernel_rfl) rfl #[.agg #[.int .i64 a1_0, .slice A1_1 l1_1.length c1_1]] rfl ga ?_; (with_reducible refine (laws_toSent.calls k a1_0 _ _ l1_1 t287 t288 _ ?side1 ?side2 A17.out).mono ?_); (case side1 => exact ck (Kd.C_below HR1_1.out HB.out)); (case side2 => exact HC1_1.out); rintro e w38 ⟨v289, rfl, ho0, hb⟩; refine ⟨_, rfl, ?_⟩; have HO290 := Aside0.mk (Kd.R_lower (Kd.R_new' ho0 (Kd.R_lt (rk HO282.out))) (below_size bel)); replace HO278 := Aside0.mk (Kd.R_below (rk HO278.out) hb); replace HO282 := Aside0.mk (Kd.R_elder' (rk HO282.out) (Kd.R_base ho0) hb); replace HO286 := Aside0.mk (Kd.R_below (rk HO286.out) hb); replace BK273 := Aside0.mk (bb BK273.out hb); replace HB := Aside0.mk (below_step bel hb); (try clear hb); (try clear ho0)) | ((with_reducible refine gate_dst (N := 8) rfl ?_); refine box_event ?hg (N := 8) ?hd (cs := #[.int .i64 0, .slice none 0 0]) (t := 37) ?hr ?_; (case hd => rfl); (case hg => rfl); (case hr => first | (go_simp; done) | (go_simp; rfl)); intro gb291 hg w39 hbox hb; have BK291 := Aside0.mk (hbox); have GW291 := Aside0.mk ((bsz hg : w.heap.size ≤ gb291)); have GE291 := Aside0.mk ((bsz hg : w.heap.size ≤ gb291)); have NB273_291 := Aside0.mk ((nlt hg BK273.out : gb273 ≠ gb291)); have NB291_273 := Aside0.mk ((ngt hg BK273.out : gb291 ≠ gb273)); replace HO278 := Aside0.mk (Kd.R_below (rk HO278.out) hb); replace HO282 := Aside0.mk (Kd.R_below (rk HO282.out) hb); replace HO286 := Aside0.mk (Kd.R_below (rk HO286.out) hb); replace HO290 := Aside0.mk (Kd.R_below (rk HO290.out) hb); replace BK273 := Aside0.mk (bb BK273.out hb); replace HB := Aside0.mk (below_step bel hb); clear hb hbox hg; have hnb40 := NB291_273.out; have hnc40 := NB273_291.out; obtain ⟨hcz41_0, hcz41_1, hfz41_0, hfz41_1⟩ := cf2 BK291.out; obtain ⟨Ao42, co42, eo42⟩ := Kd.R_slice HO290.out; subst eo42; obtain ⟨Ao43, co43, eo43⟩ := Kd.R_slice HO286.out; subst eo43) | ((with_reducible refine gate_callee (f := 13) rfl ?_); refine goesL_ (some 31) rfl rfl Tryd.func13 (by kernel_rfl) rfl #[.slice Ao43 t284.length co43, .agg #[.int .i64 t287, .slice Ao42 t288.length co42]] rfl ga ?_; (with_reducible refine (impl_SentLine.calls k _ _ t284 t287 _ _ t288 t292 _ (tabAt HT.out bel) ?side1 ?side2 ?side3 ?side4 A18.out).mono ?_); (case side1 => refine (Kd.R_reads' (e := 52) (base := w.heap.size) (ok := fun k_ => (True ∧ some k_ ≠ (.slice Ao33 t276.length co33 : Value).ownBlock)) (n := t284.length) (c := co43) ?_).2.2; exact (by exact rk (Kd.R_mono (Kd.R_far (p := ⟨gb291, 1, none⟩) (Kd.R_far (p := ⟨gb291, 0, none⟩) (Kd.R_types HO286.out BK291.out (by decide)) (fun _ hk => hk.2) (.int .i64 t287)) (fun _ hk => hk.2) (.slice Ao42 t288.length co42)) (fun _ h_ => h_.1)))); (case side2 => exact (Kd.R_reads' HO286.out).2.1); (case side3 => refine (Kd.R_reads' (e := 3) (base := w.heap.size) (ok := fun k_ => (True ∧ some k_ ≠ (.slice Ao34 t280.length co34 : Value).ownBlock)) (n := t288.length) (c := co42) ?_).2.2; exact (by exact rk (Kd.R_mono (Kd.R_far (p := ⟨gb291, 1, none⟩) (Kd.R_far (p := ⟨gb291, 0, none⟩) (Kd.R_types HO290.out BK291.out (by decide)) (fun _ hk => hk.2) (.int .i64 t287)) (fun _ hk => hk.2) (.slice Ao42 t288.length co42)) (fun _ h_ => h_.1)))); (case side4 => exact (Kd.R_reads' HO290.out).2.1); rintro e w44 ⟨rfl, hb⟩; refine ⟨_, rfl, ?_⟩; replace HO278 := Aside0.mk (Kd.R_below (by exact rk (Kd.R_mono (Kd.R_far (p := ⟨gb291, 1, none⟩) (Kd.R_far (p := ⟨gb291, 0, none⟩) (Kd.R_types HO278.out BK291.out (by decide)) (fun _ hk => hk.2) (.int .i64 t287)) (fun _ hk => hk.2) (.slice Ao42 t288.length co42)) (fun _ h_ => h_.1))) hb); replace HO282 := Aside0.mk (Kd.R_below (by exact rk (Kd.R_mono (Kd.R_far (p := ⟨gb291, 1, none⟩) (Kd.R_far (p := ⟨gb291, 0, none⟩) (Kd.R_types HO282.out BK291.out (by decide)) (fun _ hk => hk.2) (.int .i64 t287)) (fun _ hk => hk.2) (.slice Ao42 t288.length co42)) (fun _ h_ => h_.1))) hb); replace HO286 := Aside0.mk (Kd.R_below (by exact rk (Kd.R_mono (Kd.R_far (p := ⟨gb291, 1, none⟩) (Kd.R_far (p := ⟨gb291, 0, none⟩) (Kd.R_types HO286.out BK291.out (by decide)) (fun _ hk => hk.2) (.int .i64 t287)) (fun _ hk => hk.2) (.slice Ao42 t288.length co42)) (fun _ h_ => h_.1))) hb); replace HO290 := Aside0.mk (Kd.R_below (by exact rk (Kd.R_mono (Kd.R_far (p := ⟨gb291, 1, none⟩) (Kd.R_far (p := ⟨gb291, 0, none⟩) (Kd.R_types HO290.out BK291.out (by decide)) (fun _ hk => hk.2) (.int .i64 t287)) (fun _ hk => hk.2) (.slice Ao42 t288.length co42)) (fun _ h_ => h_.1))) hb); replace BK273 := Aside0.mk (bb BK273.out hb); replace BK291 := Aside0.mk (blk_below (g := gb291) (o := .cells #[.int .i64 t287, .slice Ao42 t288.length co42] 37 (0, 0)) (by (with_reducible repeat (first | refine blk_drewN ?_ _ | refine blk_drew ?_ | refine blk_alloc ?_ _)); refine blk_put (cs := #[.int .i64 t287, .slice none 0 0]) ?_ 1 _ rfl; (with_reducible repeat (first | refine blk_drewN ?_ _ | refine blk_drew ?_ | refine blk_alloc ?_ _)); refine blk_put (cs := #[.int .i64 0, .slice none 0 0]) ?_ 0 _ rfl; (with_reducible repeat (first | refine blk_drewN ?_ _ | refine blk_drew ?_ | refine blk_alloc ?_ _)); exact BK291.out) hb); replace HB := Aside0.mk (below_step bel hb); (try clear hb)) | ((with_reducible refine gate_callee (f := 11) rfl ?_); refine goesL_ (some 37) rfl rfl Tryd.func11 (by kernel_rfl) rfl #[.slice A0 l0.length c0] rfl ga ?_; (with_reducible refine (laws_toTeamS.calls k _ _ l0 t293 _ ?side1 ?side2 A20.out).mono ?_); (case side1 => exact ck (Kd.C_below HR0.out HB.out)); (case side2 => exact HC0.out); rintro e w45 ⟨v294, rfl, ho0, hb⟩; refine ⟨_, rfl, ?_⟩; have HO295 := Aside0.mk (Kd.R_lower (Kd.R_new' (Kd.R_new' ho0 (Kd.R_lt (rk HO278.out))) (Kd.R_lt (rk HO286.out))) (below_size bel)); replace HO278 := Aside0.mk (Kd.R_elder' (rk HO278.out) (Kd.R_base ho0) hb); replace HO282 := Aside0.mk (Kd.R_below (rk HO282.out) hb); replace HO286 := Aside0.mk (Kd.R_elder' (rk HO286.out) (Kd.R_base ho0) hb); replace HO290 := Aside0.mk (Kd.R_below (rk HO290.out) hb); replace BK273 := Aside0.mk (bb BK273.out hb); replace BK291 := Aside0.mk (bb BK291.out hb); replace HB := Aside0.mk (below_step bel hb); (try clear hb); (try clear ho0); obtain ⟨Ao46, co46, eo46⟩ := Kd.R_slice HO295.out; subst eo46) | ((with_reducible refine gate_callee (f := 14) rfl ?_); refine goesL_ (some 38) rfl rfl Tryd.func14 (by kernel_rfl) rfl #[.slice Ao43 t284.length co43, .slice Ao46 t293.length co46] rfl ga ?_; (with_reducible refine (laws_eqTeamS.calls k _ _ t284 _ _ t293 true _ ?side1 ?side2 ?side3 ?side4 A21.out).mono ?_); (case side1 => exact ck (Kd.R_reads' HO286.out).2.2); (case side2 => exact (Kd.R_reads' HO286.out).2.1); (case side3 => exact ck (Kd.R_reads' HO295.out).2.2); (case side4 => exact (Kd.R_reads' HO295.out).2.1); rintro e w47 ⟨rfl, hb⟩; refine ⟨_, rfl, ?_⟩; replace HO278 := Aside0.mk (Kd.R_below (rk HO278.out) hb); replace HO282 := Aside0.mk (Kd.R_below (rk HO282.out) hb); replace HO286 := Aside0.mk (Kd.R_below (rk HO286.out) hb); replace HO290 := Aside0.mk (Kd.R_below (rk HO290.out) hb); replace HO295 := Aside0.mk (Kd.R_below (rk HO295.out) hb); replace BK273 := Aside0.mk (bb BK273.out hb); replace BK291 := Aside0.mk (bb BK291.out hb); replace HB := Aside0.mk (below_step bel hb); (try clear hb)))
            replace HO278 := Aside0.mk (Kd.R_drew HO278.out)
            replace HO282 := Aside0.mk (Kd.R_drew HO282.out)
            replace HO286 := Aside0.mk (Kd.R_drew HO286.out)
            replace HO290 := Aside0.mk (Kd.R_drew HO290.out)
            replace HO295 := Aside0.mk (Kd.R_drew HO295.out)
            replace BK273 := Aside0.mk (blk_drew BK273.out)
            replace BK291 := Aside0.mk (blk_drew BK291.out)
            replace HB := Aside0.mk (below_drew1 HB.out)
            refine start_ (n := 5) (S := fun w' => w'.cell? ⟨gb291, 0, none⟩ = some (.int .i64 t287) ∧ w'.cell? ⟨gb291, 1, none⟩ = some (.slice Ao42 t288.length co42) ∧ w'.cell? ⟨gb273, 0, none⟩ = some (.int .i64 a1_0) ∧ w'.cell? ⟨gb273, 1, none⟩ = some (.slice A1_1 l1_1.length c1_1)) (ds := []) #[false, false, false, false, false] (by kernel_rfl) rfl rfl ⟨(blk_cell BK291.out 0).trans rfl, (blk_cell BK291.out 1).trans rfl, (blk_cell BK273.out 0).trans rfl, (blk_cell BK273.out 1).trans rfl⟩ (fun hHeld => ?_)
            generalize w47.drew = w48 at HO278 HO282 HO286 HO290 HO295 BK273 BK291 HB hHeld ⊢
            refine take_ (i := 0) (N := some 40) (v := ?_) (a' := ?_) #[true, false, false, false, false] rfl rfl (by kernel_rfl) (fun _ _ _ h => h) (Or.inl ⟨by rfl, ?_⟩) hHeld ?_ ?_
            rotate_left
            · rintro w' ⟨s0, s1, s2, s3⟩
              go_simp
              with_reducible rfl
            rotate_left
            · simp only [Act.put, List.setIfInBounds_toArray, List.set_cons_zero, List.set_cons_succ, i64_w, i32_w]
              rfl
            refine take_ (i := 1) (N := some 41) (v := ?_) (a' := ?_) #[true, true, false, false, false] rfl rfl (by kernel_rfl) (fun _ _ _ h => h) (Or.inl ⟨by rfl, ?_⟩) hHeld ?_ ?_
            rotate_left
            · rintro w' ⟨s0, s1, s2, s3⟩
              go_simp
              with_reducible rfl
            rotate_left
            · simp only [Act.put, List.setIfInBounds_toArray, List.set_cons_zero, List.set_cons_succ, i64_w, i32_w]
              rfl
            refine one_ (i := 2) (N := some 42) #[true, true, true, false, false] rfl rfl (by kernel_rfl) (by decide) (fun K hK => ?_)
            refine goes_ Tryd.func12 (by kernel_rfl) rfl #[.agg #[.int .i64 a1_0, .slice A1_1 l1_1.length c1_1]] (by rfl) rfl rfl ga ?_
            with_reducible refine (laws_toSent.calls k a1_0 _ _ l1_1 t297 t298 _ ?side1 ?side2 A23.out).mono ?_
            (case side1 => exact ck (Kd.C_below HR1_1.out HB.out))
            (case side2 => exact HC1_1.out)
            rintro e w49 ⟨v299, rfl, ho0, hb⟩
            refine ⟨_, rfl, ?_⟩
            have HO300 := Aside0.mk (Kd.R_lower (Kd.R_new' (Kd.R_new' ho0 (Kd.R_lt (rk HO282.out))) (Kd.R_lt (rk HO290.out))) (below_size bel))
            replace HO278 := Aside0.mk (Kd.R_below (rk HO278.out) hb)
            replace HO282 := Aside0.mk (Kd.R_elder' (rk HO282.out) (Kd.R_base ho0) hb)
            replace HO286 := Aside0.mk (Kd.R_below (rk HO286.out) hb)
            replace HO290 := Aside0.mk (Kd.R_elder' (rk HO290.out) (Kd.R_base ho0) hb)
            replace HO295 := Aside0.mk (Kd.R_below (rk HO295.out) hb)
            replace BK273 := Aside0.mk (bb BK273.out hb)
            replace BK291 := Aside0.mk (bb BK291.out hb)
            replace HB := Aside0.mk (below_step bel hb)
            (try clear hb)
            (try clear hb2)
            (try clear hk)
            (try clear hi)
            (try clear ho0)
            obtain ⟨Ao50, co50, eo50⟩ := Kd.R_slice HO300.out
            (first | subst eo50 | (injection eo50 with f1_ f2_ f3_; have f4_ := f1_.symm; have f5_ := f3_.symm; clear f1_ f2_ f3_; subst f4_; subst f5_))
            refine hK.out _ _ ⟨(blk_cell BK291.out 0).trans rfl, (blk_cell BK291.out 1).trans rfl, (blk_cell BK273.out 0).trans rfl, (blk_cell BK273.out 1).trans rfl⟩ (fun hHeld => ?_)
            clear hK K
            refine norm_ (a' := ?_) ?_ ?_
            rotate_left
            · show Act.put _ (some 42) _ = _
              simp only [Act.put, List.setIfInBounds_toArray, List.set_cons_zero, List.set_cons_succ, i64_w, i32_w]
              rfl
            refine one_ (i := 3) (N := some 43) #[true, true, true, true, false] rfl rfl (by kernel_rfl) (by decide) (fun K hK => ?_)
            refine goes_ Tryd.func15 (by kernel_rfl) rfl #[.agg #[.int .i64 t287, .slice Ao42 t288.length co42], .agg #[.int .i64 t297, .slice Ao50 t298.length co50]] (by rfl) rfl rfl ga ?_
            with_reducible refine (laws_eqSent.calls k t287 _ _ t288 t297 _ _ t298 true _ ?side1 ?side2 ?side3 ?side4 A24.out).mono ?_
            (case side1 => exact ck (Kd.R_reads' HO290.out).2.2)
            (case side2 => exact (Kd.R_reads' HO290.out).2.1)
            (case side3 => exact ck (Kd.R_reads' HO300.out).2.2)
            (case side4 => exact (Kd.R_reads' HO300.out).2.1)
            rintro e w51 ⟨rfl, hb⟩
            refine ⟨_, rfl, ?_⟩
            replace HO278 := Aside0.mk (Kd.R_below (rk HO278.out) hb)
            replace HO282 := Aside0.mk (Kd.R_below (rk HO282.out) hb)
            replace HO286 := Aside0.mk (Kd.R_below (rk HO286.out) hb)
            replace HO290 := Aside0.mk (Kd.R_below (rk HO290.out) hb)
            replace HO295 := Aside0.mk (Kd.R_below (rk HO295.out) hb)
            replace HO300 := Aside0.mk (Kd.R_below (rk HO300.out) hb)
            replace BK273 := Aside0.mk (bb BK273.out hb)
            replace BK291 := Aside0.mk (bb BK291.out hb)
            replace HB := Aside0.mk (below_step bel hb)
            (try clear hb)
            (try clear hb2)
            (try clear hk)
            (try clear hi)
            refine hK.out _ _ ⟨(blk_cell BK291.out 0).trans rfl, (blk_cell BK291.out 1).trans rfl, (blk_cell BK273.out 0).trans rfl, (blk_cell BK273.out 1).trans rfl⟩ (fun hHeld => ?_)
            clear hK K
            refine norm_ (a' := ?_) ?_ ?_
            rotate_left
            · show Act.put _ (some 43) _ = _
              simp only [Act.put, List.setIfInBounds_toArray, List.set_cons_zero, List.set_cons_succ, i64_w, i32_w]
              rfl
            refine pure_ (i := 4) (N := some 44) (v := ?_) (a' := ?_) #[true, true, true, true, true] rfl rfl (by kernel_rfl) (fun _ _ _ h => h) (Or.inl ⟨by rfl, ?_⟩) ?_ ?_
            rotate_left
            · intro w'
              go_simp
              with_reducible rfl
            rotate_left
            · simp only [Act.put, List.setIfInBounds_toArray, List.set_cons_zero, List.set_cons_succ, i64_w, i32_w]
              rfl
            refine done_ (by kernel_rfl) ?_
            try go_wp2
            go_ret
            exact ⟨er, bel⟩
          · replace c25 := Bool.eq_false_iff.mpr c25
            subst c25
            have H1 : (some false) = some r := by rw [if_neg (show ¬ (false = true) by decide)] at H; exact H
            clear H
            have H := H1
            clear H1
            obtain rfl := Option.some.inj H
            go_enter Tryd.func4, Tryd.ntmps4
            try go_wp2_with (first | ((with_reducible refine gate_dst (N := 3) rfl ?_); refine box_event ?hg (N := 3) ?hd (cs := #[.int .i64 a1_0, .slice A1_1 l1_1.length c1_1]) (t := 31) ?hr ?_; (case hd => rfl); (case hg => rfl); (case hr => first | (go_simp; done) | (go_simp; rfl)); intro gb273 hg w52 hbox hb; have BK273 := Aside0.mk (hbox); have GW273 := Aside0.mk ((bsz hg : w.heap.size ≤ gb273)); have GE273 := Aside0.mk ((bsz hg : w.heap.size ≤ gb273)); replace HB := Aside0.mk (below_step bel hb); clear hb hbox hg) | ((with_reducible refine gate_callee (f := 8) rfl ?_); refine goesL_ (some 12) rfl rfl Tryd.func8 (by kernel_rfl) rfl #[.slice A0 l0.length c0, .int .i64 1048576] rfl ga ?_; (with_reducible refine (laws_szTeamS.calls k _ _ l0 1048576 t274 _ ?side1 ?side2 A3.out).mono ?_); (case side1 => exact ck (Kd.C_below HR0.out HB.out)); (case side2 => exact HC0.out); rintro e w53 ⟨rfl, hb⟩; refine ⟨_, rfl, ?_⟩; replace BK273 := Aside0.mk (bb BK273.out hb); replace HB := Aside0.mk (below_step bel hb); (try clear hb); obtain ⟨hcz54_0, hcz54_1, hfz54_0, hfz54_1⟩ := cf2 BK273.out) | ((with_reducible refine gate_callee (f := 9) rfl ?_); refine goesL_ (some 17) rfl rfl Tryd.func9 (by kernel_rfl) rfl #[.agg #[.int .i64 a1_0, .slice A1_1 l1_1.length c1_1], .int .i64 t274] rfl ga ?_; (with_reducible refine (laws_szSent.calls a1_0 _ _ l1_1 t274 t275 _ ?side1 ?side2 A7.out).mono ?_); (case side1 => exact ck (Kd.C_below HR1_1.out HB.out)); (case side2 => exact HC1_1.out); rintro e w55 ⟨rfl, hb⟩; refine ⟨_, rfl, ?_⟩; replace BK273 := Aside0.mk (bb BK273.out hb); replace HB := Aside0.mk (below_step bel hb); (try clear hb)))
            replace BK273 := Aside0.mk (blk_drew BK273.out)
            replace HB := Aside0.mk (below_drew1 HB.out)
            refine start_ (n := 6) (S := fun w' => w'.cell? ⟨gb273, 0, none⟩ = some (.int .i64 a1_0) ∧ w'.cell? ⟨gb273, 1, none⟩ = some (.slice A1_1 l1_1.length c1_1)) (ds := []) #[false, false, false, false, false, false] (by kernel_rfl) rfl rfl ⟨(blk_cell BK273.out 0).trans rfl, (blk_cell BK273.out 1).trans rfl⟩ (fun hHeld => ?_)
            generalize w55.drew = w56 at BK273 HB hHeld ⊢
            refine pure_ (i := 0) (N := some 20) (v := ?_) (a' := ?_) #[true, false, false, false, false, false] rfl rfl (by kernel_rfl) (fun _ _ _ h => h) (Or.inl ⟨by rfl, ?_⟩) ?_ ?_
            rotate_left
            · intro w'
              go_simp
              with_reducible rfl
            rotate_left
            · simp only [Act.put, List.setIfInBounds_toArray, List.set_cons_zero, List.set_cons_succ, i64_w, i32_w]
              rfl
            refine take_ (i := 2) (N := some 22) (v := ?_) (a' := ?_) #[true, false, true, false, false, false] rfl rfl (by kernel_rfl) (fun _ _ _ h => h) (Or.inl ⟨by rfl, ?_⟩) hHeld ?_ ?_
            rotate_left
            · rintro w' ⟨s0, s1⟩
              go_simp
              with_reducible rfl
            rotate_left
            · simp only [Act.put, List.setIfInBounds_toArray, List.set_cons_zero, List.set_cons_succ, i64_w, i32_w]
              rfl
            refine one_ (i := 1) (N := some 21) #[true, true, true, false, false, false] rfl rfl (by kernel_rfl) (by decide) (fun K hK => ?_)
            refine goes_ Tryd.func11 (by kernel_rfl) rfl #[.slice A0 l0.length c0] (by rfl) rfl rfl ga ?_
            with_reducible refine (laws_toTeamS.calls k _ _ l0 t276 _ ?side1 ?side2 A13.out).mono ?_
            (case side1 => exact ck (Kd.C_below HR0.out HB.out))
            (case side2 => exact HC0.out)
            rintro e w57 ⟨v277, rfl, ho0, hb⟩
            refine ⟨_, rfl, ?_⟩
            have HO278 := Aside0.mk (Kd.R_lower ho0 (below_size bel))
            replace BK273 := Aside0.mk (bb BK273.out hb)
            replace HB := Aside0.mk (below_step bel hb)
            (try clear hb)
            (try clear hb2)
            (try clear hk)
            (try clear hi)
            (try clear ho0)
            refine hK.out _ _ ⟨(blk_cell BK273.out 0).trans rfl, (blk_cell BK273.out 1).trans rfl⟩ (fun hHeld => ?_)
            clear hK K
            refine norm_ (a' := ?_) ?_ ?_
            rotate_left
            · show Act.put _ (some 21) _ = _
              simp only [Act.put, List.setIfInBounds_toArray, List.set_cons_zero, List.set_cons_succ, i64_w, i32_w]
              rfl
            refine one_ (i := 3) (N := some 23) #[true, true, true, true, false, false] rfl rfl (by kernel_rfl) (by decide) (fun K hK => ?_)
            refine goes_ Tryd.func12 (by kernel_rfl) rfl #[.agg #[.int .i64 a1_0, .slice A1_1 l1_1.length c1_1]] (by rfl) rfl rfl ga ?_
            with_reducible refine (laws_toSent.calls k a1_0 _ _ l1_1 t279 t280 _ ?side1 ?side2 A14.out).mono ?_
            (case side1 => exact ck (Kd.C_below HR1_1.out HB.out))
            (case side2 => exact HC1_1.out)
            rintro e w58 ⟨v281, rfl, ho0, hb⟩
            refine ⟨_, rfl, ?_⟩
            have HO282 := Aside0.mk (Kd.R_lower ho0 (below_size bel))
            replace HO278 := Aside0.mk (Kd.R_below (rk HO278.out) hb)
            replace BK273 := Aside0.mk (bb BK273.out hb)
            replace HB := Aside0.mk (below_step bel hb)
            (try clear hb)
            (try clear hb2)
            (try clear hk)
            (try clear hi)
            (try clear ho0)
            obtain ⟨Ao59, co59, eo59⟩ := Kd.R_slice HO278.out
            (first | subst eo59 | (injection eo59 with f1_ f2_ f3_; have f4_ := f1_.symm; have f5_ := f3_.symm; clear f1_ f2_ f3_; subst f4_; subst f5_))
            obtain ⟨Ao60, co60, eo60⟩ := Kd.R_slice HO282.out
            (first | subst eo60 | (injection eo60 with f1_ f2_ f3_; have f4_ := f1_.symm; have f5_ := f3_.symm; clear f1_ f2_ f3_; subst f4_; subst f5_))
            refine hK.out _ _ ⟨(blk_cell BK273.out 0).trans rfl, (blk_cell BK273.out 1).trans rfl⟩ (fun hHeld => ?_)
            clear hK K
            refine norm_ (a' := ?_) ?_ ?_
            rotate_left
            · show Act.put _ (some 23) _ = _
              simp only [Act.put, List.setIfInBounds_toArray, List.set_cons_zero, List.set_cons_succ, i64_w, i32_w]
              rfl
            refine one_ (i := 4) (N := some 24) #[true, true, true, true, true, false] rfl rfl (by kernel_rfl) (by decide) (fun K hK => ?_)
            refine goes_ Tryd.func10 (by kernel_rfl) rfl #[.slice Ao59 t276.length co59, .agg #[.int .i64 t279, .slice Ao60 t280.length co60]] (by rfl) rfl rfl ga ?_
            with_reducible refine (spec_SentLine.calls k _ _ t276 t279 _ _ t280 t283 _ ?side1 ?side2 ?side3 ?side4 A15.out).mono ?_
            (case side1 => exact ck (Kd.R_reads' HO278.out).2.2)
            (case side2 => exact (Kd.R_reads' HO278.out).2.1)
            (case side3 => exact ck (Kd.R_reads' HO282.out).2.2)
            (case side4 => exact (Kd.R_reads' HO282.out).2.1)
            rintro e w61 ⟨rfl, hb⟩
            refine ⟨_, rfl, ?_⟩
            replace HO278 := Aside0.mk (Kd.R_below (rk HO278.out) hb)
            replace HO282 := Aside0.mk (Kd.R_below (rk HO282.out) hb)
            replace BK273 := Aside0.mk (bb BK273.out hb)
            replace HB := Aside0.mk (below_step bel hb)
            (try clear hb)
            (try clear hb2)
            (try clear hk)
            (try clear hi)
            refine hK.out _ _ ⟨(blk_cell BK273.out 0).trans rfl, (blk_cell BK273.out 1).trans rfl⟩ (fun hHeld => ?_)
            clear hK K
            refine norm_ (a' := ?_) ?_ ?_
            rotate_left
            · show Act.put _ (some 24) _ = _
              simp only [Act.put, List.setIfInBounds_toArray, List.set_cons_zero, List.set_cons_succ, i64_w, i32_w]
              rfl
            refine pure_ (i := 5) (N := some 6) (v := ?_) (a' := ?_) #[true, true, true, true, true, true] rfl rfl (by kernel_rfl) (fun _ _ _ h => h) (Or.inl ⟨by rfl, ?_⟩) ?_ ?_
            rotate_left
            · intro w'
              go_simp
              with_reducible rfl
            rotate_left
            · simp only [Act.put, List.setIfInBounds_toArray, List.set_cons_zero, List.set_cons_succ, i64_w, i32_w]
              rfl
            refine done_ (by kernel_rfl) ?_
            try go_wp2_with (first | ((with_reducible refine gate_callee (f := 11) rfl ?_); refine goesL_ (some 26) rfl rfl Tryd.func11 (by kernel_rfl) rfl #[.slice A0 l0.length c0] rfl ga ?_; (with_reducible refine (laws_toTeamS.calls k _ _ l0 t284 _ ?side1 ?side2 A16.out).mono ?_); (case side1 => exact ck (Kd.C_below HR0.out HB.out)); (case side2 => exact HC0.out); rintro e w62 ⟨v285, rfl, ho0, hb⟩; refine ⟨_, rfl, ?_⟩; have HO286 := Aside0.mk (Kd.R_lower (Kd.R_new' ho0 (Kd.R_lt (rk HO278.out))) (below_size bel)); replace HO278 := Aside0.mk (Kd.R_elder' (rk HO278.out) (Kd.R_base ho0) hb); replace HO282 := Aside0.mk (Kd.R_below (rk HO282.out) hb); replace BK273 := Aside0.mk (bb BK273.out hb); replace HB := Aside0.mk (below_step bel hb); (try clear hb); (try clear ho0); obtain ⟨hcz63_0, hcz63_1, hfz63_0, hfz63_1⟩ := cf2 BK273.out) | ((with_reducible refine gate_callee (f := 12) rfl ?_); refine goesL_ (some 28) rfl rfl Tryd.func12 (by kernel_rfl) rfl #[.agg #[.int .i64 a1_0, .slice A1_1 l1_1.length c1_1]] rfl ga ?_; (with_reducible refine (laws_toSent.calls k a1_0 _ _ l1_1 t287 t288 _ ?side1 ?side2 A17.out).mono ?_); (case side1 => exact ck (Kd.C_below HR1_1.out HB.out)); (case side2 => exact HC1_1.out); rintro e w64 ⟨v289, rfl, ho0, hb⟩; refine ⟨_, rfl, ?_⟩; have HO290 := Aside0.mk (Kd.R_lower (Kd.R_new' ho0 (Kd.R_lt (rk HO282.out))) (below_size bel)); replace HO278 := Aside0.mk (Kd.R_below (rk HO278.out) hb); replace HO282 := Aside0.mk (Kd.R_elder' (rk HO282.out) (Kd.R_base ho0) hb); replace HO286 := Aside0.mk (Kd.R_below (rk HO286.out) hb); replace BK273 := Aside0.mk (bb BK273.out hb); replace HB := Aside0.mk (below_step bel hb); (try clear hb); (try clear ho0)) | ((with_reducible refine gate_dst (N := 8) rfl ?_); refine box_event ?hg (N := 8) ?hd (cs := #[.int .i64 0, .slice none 0 0]) (t := 37) ?hr ?_; (case hd => rfl); (case hg => rfl); (case hr => first | (go_simp; done) | (go_simp; rfl)); intro gb291 hg w65 hbox hb; have BK291 := Aside0.mk (hbox); have GW291 := Aside0.mk ((bsz hg : w.heap.size ≤ gb291)); have GE291 := Aside0.mk ((bsz hg : w.heap.size ≤ gb291)); have NB273_291 := Aside0.mk ((nlt hg BK273.out : gb273 ≠ gb291)); have NB291_273 := Aside0.mk ((ngt hg BK273.out : gb291 ≠ gb273)); replace HO278 := Aside0.mk (Kd.R_below (rk HO278.out) hb); replace HO282 := Aside0.mk (Kd.R_below (rk HO282.out) hb); replace HO286 := Aside0.mk (Kd.R_below (rk HO286.out) hb); replace HO290 := Aside0.mk (Kd.R_below (rk HO290.out) hb); replace BK273 := Aside0.mk (bb BK273.out hb); replace HB := Aside0.mk (below_step bel hb); clear hb hbox hg; have hnb66 := NB291_273.out; have hnc66 := NB273_291.out; obtain ⟨hcz67_0, hcz67_1, hfz67_0, hfz67_1⟩ := cf2 BK291.out; obtain ⟨Ao68, co68, eo68⟩ := Kd.R_slice HO290.out; subst eo68; obtain ⟨Ao69, co69, eo69⟩ := Kd.R_slice HO286.out; subst eo69) | ((with_reducible refine gate_callee (f := 13) rfl ?_); refine goesL_ (some 31) rfl rfl Tryd.func13 (by kernel_rfl) rfl #[.slice Ao69 t284.length co69, .agg #[.int .i64 t287, .slice Ao68 t288.length co68]] rfl ga ?_; (with_reducible refine (impl_SentLine.calls k _ _ t284 t287 _ _ t288 t292 _ (tabAt HT.out bel) ?side1 ?side2 ?side3 ?side4 A18.out).mono ?_); (case side1 => refine (Kd.R_reads' (e := 52) (base := w.heap.size) (ok := fun k_ => (True ∧ some k_ ≠ (.slice Ao59 t276.length co59 : Value).ownBlock)) (n := t284.length) (c := co69) ?_).2.2; exact (by exact rk (Kd.R_mono (Kd.R_far (p := ⟨gb291, 1, none⟩) (Kd.R_far (p := ⟨gb291, 0, none⟩) (Kd.R_types HO286.out BK291.out (by decide)) (fun _ hk => hk.2) (.int .i64 t287)) (fun _ hk => hk.2) (.slice Ao68 t288.length co68)) (fun _ h_ => h_.1)))); (case side2 => exact (Kd.R_reads' HO286.out).2.1); (case side3 => refine (Kd.R_reads' (e := 3) (base := w.heap.size) (ok := fun k_ => (True ∧ some k_ ≠ (.slice Ao60 t280.length co60 : Value).ownBlock)) (n := t288.length) (c := co68) ?_).2.2; exact (by exact rk (Kd.R_mono (Kd.R_far (p := ⟨gb291, 1, none⟩) (Kd.R_far (p := ⟨gb291, 0, none⟩) (Kd.R_types HO290.out BK291.out (by decide)) (fun _ hk => hk.2) (.int .i64 t287)) (fun _ hk => hk.2) (.slice Ao68 t288.length co68)) (fun _ h_ => h_.1)))); (case side4 => exact (Kd.R_reads' HO290.out).2.1); rintro e w70 ⟨rfl, hb⟩; refine ⟨_, rfl, ?_⟩; replace HO278 := Aside0.mk (Kd.R_below (by exact rk (Kd.R_mono (Kd.R_far (p := ⟨gb291, 1, none⟩) (Kd.R_far (p := ⟨gb291, 0, none⟩) (Kd.R_types HO278.out BK291.out (by decide)) (fun _ hk => hk.2) (.int .i64 t287)) (fun _ hk => hk.2) (.slice Ao68 t288.length co68)) (fun _ h_ => h_.1))) hb); replace HO282 := Aside0.mk (Kd.R_below (by exact rk (Kd.R_mono (Kd.R_far (p := ⟨gb291, 1, none⟩) (Kd.R_far (p := ⟨gb291, 0, none⟩) (Kd.R_types HO282.out BK291.out (by decide)) (fun _ hk => hk.2) (.int .i64 t287)) (fun _ hk => hk.2) (.slice Ao68 t288.length co68)) (fun _ h_ => h_.1))) hb); replace HO286 := Aside0.mk (Kd.R_below (by exact rk (Kd.R_mono (Kd.R_far (p := ⟨gb291, 1, none⟩) (Kd.R_far (p := ⟨gb291, 0, none⟩) (Kd.R_types HO286.out BK291.out (by decide)) (fun _ hk => hk.2) (.int .i64 t287)) (fun _ hk => hk.2) (.slice Ao68 t288.length co68)) (fun _ h_ => h_.1))) hb); replace HO290 := Aside0.mk (Kd.R_below (by exact rk (Kd.R_mono (Kd.R_far (p := ⟨gb291, 1, none⟩) (Kd.R_far (p := ⟨gb291, 0, none⟩) (Kd.R_types HO290.out BK291.out (by decide)) (fun _ hk => hk.2) (.int .i64 t287)) (fun _ hk => hk.2) (.slice Ao68 t288.length co68)) (fun _ h_ => h_.1))) hb); replace BK273 := Aside0.mk (bb BK273.out hb); replace BK291 := Aside0.mk (blk_below (g := gb291) (o := .cells #[.int .i64 t287, .slice Ao68 t288.length co68] 37 (0, 0)) (by (with_reducible repeat (first | refine blk_drewN ?_ _ | refine blk_drew ?_ | refine blk_alloc ?_ _)); refine blk_put (cs := #[.int .i64 t287, .slice none 0 0]) ?_ 1 _ rfl; (with_reducible repeat (first | refine blk_drewN ?_ _ | refine blk_drew ?_ | refine blk_alloc ?_ _)); refine blk_put (cs := #[.int .i64 0, .slice none 0 0]) ?_ 0 _ rfl; (with_reducible repeat (first | refine blk_drewN ?_ _ | refine blk_drew ?_ | refine blk_alloc ?_ _)); exact BK291.out) hb); replace HB := Aside0.mk (below_step bel hb); (try clear hb)) | ((with_reducible refine gate_callee (f := 11) rfl ?_); refine goesL_ (some 37) rfl rfl Tryd.func11 (by kernel_rfl) rfl #[.slice A0 l0.length c0] rfl ga ?_; (with_reducible refine (laws_toTeamS.calls k _ _ l0 t293 _ ?side1 ?side2 A20.out).mono ?_); (case side1 => exact ck (Kd.C_below HR0.out HB.out)); (case side2 => exact HC0.out); rintro e w71 ⟨v294, rfl, ho0, hb⟩; refine ⟨_, rfl, ?_⟩; have HO295 := Aside0.mk (Kd.R_lower (Kd.R_new' (Kd.R_new' ho0 (Kd.R_lt (rk HO278.out))) (Kd.R_lt (rk HO286.out))) (below_size bel)); replace HO278 := Aside0.mk (Kd.R_elder' (rk HO278.out) (Kd.R_base ho0) hb); replace HO282 := Aside0.mk (Kd.R_below (rk HO282.out) hb); replace HO286 := Aside0.mk (Kd.R_elder' (rk HO286.out) (Kd.R_base ho0) hb); replace HO290 := Aside0.mk (Kd.R_below (rk HO290.out) hb); replace BK273 := Aside0.mk (bb BK273.out hb); replace BK291 := Aside0.mk (bb BK291.out hb); replace HB := Aside0.mk (below_step bel hb); (try clear hb); (try clear ho0); obtain ⟨Ao72, co72, eo72⟩ := Kd.R_slice HO295.out; subst eo72) | ((with_reducible refine gate_callee (f := 14) rfl ?_); refine goesL_ (some 38) rfl rfl Tryd.func14 (by kernel_rfl) rfl #[.slice Ao69 t284.length co69, .slice Ao72 t293.length co72] rfl ga ?_; (with_reducible refine (laws_eqTeamS.calls k _ _ t284 _ _ t293 true _ ?side1 ?side2 ?side3 ?side4 A21.out).mono ?_); (case side1 => exact ck (Kd.R_reads' HO286.out).2.2); (case side2 => exact (Kd.R_reads' HO286.out).2.1); (case side3 => exact ck (Kd.R_reads' HO295.out).2.2); (case side4 => exact (Kd.R_reads' HO295.out).2.1); rintro e w73 ⟨rfl, hb⟩; refine ⟨_, rfl, ?_⟩; replace HO278 := Aside0.mk (Kd.R_below (rk HO278.out) hb); replace HO282 := Aside0.mk (Kd.R_below (rk HO282.out) hb); replace HO286 := Aside0.mk (Kd.R_below (rk HO286.out) hb); replace HO290 := Aside0.mk (Kd.R_below (rk HO290.out) hb); replace HO295 := Aside0.mk (Kd.R_below (rk HO295.out) hb); replace BK273 := Aside0.mk (bb BK273.out hb); replace BK291 := Aside0.mk (bb BK291.out hb); replace HB := Aside0.mk (below_step bel hb); (try clear hb)))
            replace HO278 := Aside0.mk (Kd.R_drew HO278.out)
            replace HO282 := Aside0.mk (Kd.R_drew HO282.out)
            replace HO286 := Aside0.mk (Kd.R_drew HO286.out)
            replace HO290 := Aside0.mk (Kd.R_drew HO290.out)
            replace HO295 := Aside0.mk (Kd.R_drew HO295.out)
            replace BK273 := Aside0.mk (blk_drew BK273.out)
            replace BK291 := Aside0.mk (blk_drew BK291.out)
            replace HB := Aside0.mk (below_drew1 HB.out)
            refine start_ (n := 5) (S := fun w' => w'.cell? ⟨gb291, 0, none⟩ = some (.int .i64 t287) ∧ w'.cell? ⟨gb291, 1, none⟩ = some (.slice Ao68 t288.length co68) ∧ w'.cell? ⟨gb273, 0, none⟩ = some (.int .i64 a1_0) ∧ w'.cell? ⟨gb273, 1, none⟩ = some (.slice A1_1 l1_1.length c1_1)) (ds := []) #[false, false, false, false, false] (by kernel_rfl) rfl rfl ⟨(blk_cell BK291.out 0).trans rfl, (blk_cell BK291.out 1).trans rfl, (blk_cell BK273.out 0).trans rfl, (blk_cell BK273.out 1).trans rfl⟩ (fun hHeld => ?_)
            generalize w73.drew = w74 at HO278 HO282 HO286 HO290 HO295 BK273 BK291 HB hHeld ⊢
            refine take_ (i := 0) (N := some 40) (v := ?_) (a' := ?_) #[true, false, false, false, false] rfl rfl (by kernel_rfl) (fun _ _ _ h => h) (Or.inl ⟨by rfl, ?_⟩) hHeld ?_ ?_
            rotate_left
            · rintro w' ⟨s0, s1, s2, s3⟩
              go_simp
              with_reducible rfl
            rotate_left
            · simp only [Act.put, List.setIfInBounds_toArray, List.set_cons_zero, List.set_cons_succ, i64_w, i32_w]
              rfl
            refine take_ (i := 1) (N := some 41) (v := ?_) (a' := ?_) #[true, true, false, false, false] rfl rfl (by kernel_rfl) (fun _ _ _ h => h) (Or.inl ⟨by rfl, ?_⟩) hHeld ?_ ?_
            rotate_left
            · rintro w' ⟨s0, s1, s2, s3⟩
              go_simp
              with_reducible rfl
            rotate_left
            · simp only [Act.put, List.setIfInBounds_toArray, List.set_cons_zero, List.set_cons_succ, i64_w, i32_w]
              rfl
            refine one_ (i := 2) (N := some 42) #[true, true, true, false, false] rfl rfl (by kernel_rfl) (by decide) (fun K hK => ?_)
            refine goes_ Tryd.func12 (by kernel_rfl) rfl #[.agg #[.int .i64 a1_0, .slice A1_1 l1_1.length c1_1]] (by rfl) rfl rfl ga ?_
            with_reducible refine (laws_toSent.calls k a1_0 _ _ l1_1 t297 t298 _ ?side1 ?side2 A23.out).mono ?_
            (case side1 => exact ck (Kd.C_below HR1_1.out HB.out))
            (case side2 => exact HC1_1.out)
            rintro e w75 ⟨v299, rfl, ho0, hb⟩
            refine ⟨_, rfl, ?_⟩
            have HO300 := Aside0.mk (Kd.R_lower (Kd.R_new' (Kd.R_new' ho0 (Kd.R_lt (rk HO282.out))) (Kd.R_lt (rk HO290.out))) (below_size bel))
            replace HO278 := Aside0.mk (Kd.R_below (rk HO278.out) hb)
            replace HO282 := Aside0.mk (Kd.R_elder' (rk HO282.out) (Kd.R_base ho0) hb)
            replace HO286 := Aside0.mk (Kd.R_below (rk HO286.out) hb)
            replace HO290 := Aside0.mk (Kd.R_elder' (rk HO290.out) (Kd.R_base ho0) hb)
            replace HO295 := Aside0.mk (Kd.R_below (rk HO295.out) hb)
            replace BK273 := Aside0.mk (bb BK273.out hb)
            replace BK291 := Aside0.mk (bb BK291.out hb)
            replace HB := Aside0.mk (below_step bel hb)
            (try clear hb)
            (try clear hb2)
            (try clear hk)
            (try clear hi)
            (try clear ho0)
            obtain ⟨Ao76, co76, eo76⟩ := Kd.R_slice HO300.out
            (first | subst eo76 | (injection eo76 with f1_ f2_ f3_; have f4_ := f1_.symm; have f5_ := f3_.symm; clear f1_ f2_ f3_; subst f4_; subst f5_))
            refine hK.out _ _ ⟨(blk_cell BK291.out 0).trans rfl, (blk_cell BK291.out 1).trans rfl, (blk_cell BK273.out 0).trans rfl, (blk_cell BK273.out 1).trans rfl⟩ (fun hHeld => ?_)
            clear hK K
            refine norm_ (a' := ?_) ?_ ?_
            rotate_left
            · show Act.put _ (some 42) _ = _
              simp only [Act.put, List.setIfInBounds_toArray, List.set_cons_zero, List.set_cons_succ, i64_w, i32_w]
              rfl
            refine one_ (i := 3) (N := some 43) #[true, true, true, true, false] rfl rfl (by kernel_rfl) (by decide) (fun K hK => ?_)
            refine goes_ Tryd.func15 (by kernel_rfl) rfl #[.agg #[.int .i64 t287, .slice Ao68 t288.length co68], .agg #[.int .i64 t297, .slice Ao76 t298.length co76]] (by rfl) rfl rfl ga ?_
            with_reducible refine (laws_eqSent.calls k t287 _ _ t288 t297 _ _ t298 false _ ?side1 ?side2 ?side3 ?side4 A24.out).mono ?_
            (case side1 => exact ck (Kd.R_reads' HO290.out).2.2)
            (case side2 => exact (Kd.R_reads' HO290.out).2.1)
            (case side3 => exact ck (Kd.R_reads' HO300.out).2.2)
            (case side4 => exact (Kd.R_reads' HO300.out).2.1)
            rintro e w77 ⟨rfl, hb⟩
            refine ⟨_, rfl, ?_⟩
            replace HO278 := Aside0.mk (Kd.R_below (rk HO278.out) hb)
            replace HO282 := Aside0.mk (Kd.R_below (rk HO282.out) hb)
            replace HO286 := Aside0.mk (Kd.R_below (rk HO286.out) hb)
            replace HO290 := Aside0.mk (Kd.R_below (rk HO290.out) hb)
            replace HO295 := Aside0.mk (Kd.R_below (rk HO295.out) hb)
            replace HO300 := Aside0.mk (Kd.R_below (rk HO300.out) hb)
            replace BK273 := Aside0.mk (bb BK273.out hb)
            replace BK291 := Aside0.mk (bb BK291.out hb)
            replace HB := Aside0.mk (below_step bel hb)
            (try clear hb)
            (try clear hb2)
            (try clear hk)
            (try clear hi)
            refine hK.out _ _ ⟨(blk_cell BK291.out 0).trans rfl, (blk_cell BK291.out 1).trans rfl, (blk_cell BK273.out 0).trans rfl, (blk_cell BK273.out 1).trans rfl⟩ (fun hHeld => ?_)
            clear hK K
            refine norm_ (a' := ?_) ?_ ?_
            rotate_left
            · show Act.put _ (some 43) _ = _
              simp only [Act.put, List.setIfInBounds_toArray, List.set_cons_zero, List.set_cons_succ, i64_w, i32_w]
              rfl
            refine pure_ (i := 4) (N := some 44) (v := ?_) (a' := ?_) #[true, true, true, true, true] rfl rfl (by kernel_rfl) (fun _ _ _ h => h) (Or.inl ⟨by rfl, ?_⟩) ?_ ?_
            rotate_left
            · intro w'
              go_simp
              with_reducible rfl
            rotate_left
            · simp only [Act.put, List.setIfInBounds_toArray, List.set_cons_zero, List.set_cons_succ, i64_w, i32_w]
              rfl
            refine done_ (by kernel_rfl) ?_
            try go_wp2
            go_ret
            exact ⟨er, bel⟩
        · replace c22 := Bool.eq_false_iff.mpr c22
          subst c22
          have H1 : (some false) = some r := by rw [if_neg (show ¬ (false = true) by decide)] at H; exact H
          clear H
          have H := H1
          clear H1
          obtain rfl := Option.some.inj H
          go_enter Tryd.func4, Tryd.ntmps4
          try go_wp2_with (first | ((with_reducible refine gate_dst (N := 3) rfl ?_); refine box_event ?hg (N := 3) ?hd (cs := #[.int .i64 a1_0, .slice A1_1 l1_1.length c1_1]) (t := 31) ?hr ?_; (case hd => rfl); (case hg => rfl); (case hr => first | (go_simp; done) | (go_simp; rfl)); intro gb273 hg w78 hbox hb; have BK273 := Aside0.mk (hbox); have GW273 := Aside0.mk ((bsz hg : w.heap.size ≤ gb273)); have GE273 := Aside0.mk ((bsz hg : w.heap.size ≤ gb273)); replace HB := Aside0.mk (below_step bel hb); clear hb hbox hg) | ((with_reducible refine gate_callee (f := 8) rfl ?_); refine goesL_ (some 12) rfl rfl Tryd.func8 (by kernel_rfl) rfl #[.slice A0 l0.length c0, .int .i64 1048576] rfl ga ?_; (with_reducible refine (laws_szTeamS.calls k _ _ l0 1048576 t274 _ ?side1 ?side2 A3.out).mono ?_); (case side1 => exact ck (Kd.C_below HR0.out HB.out)); (case side2 => exact HC0.out); rintro e w79 ⟨rfl, hb⟩; refine ⟨_, rfl, ?_⟩; replace BK273 := Aside0.mk (bb BK273.out hb); replace HB := Aside0.mk (below_step bel hb); (try clear hb); obtain ⟨hcz80_0, hcz80_1, hfz80_0, hfz80_1⟩ := cf2 BK273.out) | ((with_reducible refine gate_callee (f := 9) rfl ?_); refine goesL_ (some 17) rfl rfl Tryd.func9 (by kernel_rfl) rfl #[.agg #[.int .i64 a1_0, .slice A1_1 l1_1.length c1_1], .int .i64 t274] rfl ga ?_; (with_reducible refine (laws_szSent.calls a1_0 _ _ l1_1 t274 t275 _ ?side1 ?side2 A7.out).mono ?_); (case side1 => exact ck (Kd.C_below HR1_1.out HB.out)); (case side2 => exact HC1_1.out); rintro e w81 ⟨rfl, hb⟩; refine ⟨_, rfl, ?_⟩; replace BK273 := Aside0.mk (bb BK273.out hb); replace HB := Aside0.mk (below_step bel hb); (try clear hb)))
          replace BK273 := Aside0.mk (blk_drew BK273.out)
          replace HB := Aside0.mk (below_drew1 HB.out)
          refine start_ (n := 6) (S := fun w' => w'.cell? ⟨gb273, 0, none⟩ = some (.int .i64 a1_0) ∧ w'.cell? ⟨gb273, 1, none⟩ = some (.slice A1_1 l1_1.length c1_1)) (ds := []) #[false, false, false, false, false, false] (by kernel_rfl) rfl rfl ⟨(blk_cell BK273.out 0).trans rfl, (blk_cell BK273.out 1).trans rfl⟩ (fun hHeld => ?_)
          generalize w81.drew = w82 at BK273 HB hHeld ⊢
          refine pure_ (i := 0) (N := some 20) (v := ?_) (a' := ?_) #[true, false, false, false, false, false] rfl rfl (by kernel_rfl) (fun _ _ _ h => h) (Or.inl ⟨by rfl, ?_⟩) ?_ ?_
          rotate_left
          · intro w'
            go_simp
            with_reducible rfl
          rotate_left
          · simp only [Act.put, List.setIfInBounds_toArray, List.set_cons_zero, List.set_cons_succ, i64_w, i32_w]
            rfl
          refine take_ (i := 2) (N := some 22) (v := ?_) (a' := ?_) #[true, false, true, false, false, false] rfl rfl (by kernel_rfl) (fun _ _ _ h => h) (Or.inl ⟨by rfl, ?_⟩) hHeld ?_ ?_
          rotate_left
          · rintro w' ⟨s0, s1⟩
            go_simp
            with_reducible rfl
          rotate_left
          · simp only [Act.put, List.setIfInBounds_toArray, List.set_cons_zero, List.set_cons_succ, i64_w, i32_w]
            rfl
          refine one_ (i := 1) (N := some 21) #[true, true, true, false, false, false] rfl rfl (by kernel_rfl) (by decide) (fun K hK => ?_)
          refine goes_ Tryd.func11 (by kernel_rfl) rfl #[.slice A0 l0.length c0] (by rfl) rfl rfl ga ?_
          with_reducible refine (laws_toTeamS.calls k _ _ l0 t276 _ ?side1 ?side2 A13.out).mono ?_
          (case side1 => exact ck (Kd.C_below HR0.out HB.out))
          (case side2 => exact HC0.out)
          rintro e w83 ⟨v277, rfl, ho0, hb⟩
          refine ⟨_, rfl, ?_⟩
          have HO278 := Aside0.mk (Kd.R_lower ho0 (below_size bel))
          replace BK273 := Aside0.mk (bb BK273.out hb)
          replace HB := Aside0.mk (below_step bel hb)
          (try clear hb)
          (try clear hb2)
          (try clear hk)
          (try clear hi)
          (try clear ho0)
          refine hK.out _ _ ⟨(blk_cell BK273.out 0).trans rfl, (blk_cell BK273.out 1).trans rfl⟩ (fun hHeld => ?_)
          clear hK K
          refine norm_ (a' := ?_) ?_ ?_
          rotate_left
          · show Act.put _ (some 21) _ = _
            simp only [Act.put, List.setIfInBounds_toArray, List.set_cons_zero, List.set_cons_succ, i64_w, i32_w]
            rfl
          refine one_ (i := 3) (N := some 23) #[true, true, true, true, false, false] rfl rfl (by kernel_rfl) (by decide) (fun K hK => ?_)
          refine goes_ Tryd.func12 (by kernel_rfl) rfl #[.agg #[.int .i64 a1_0, .slice A1_1 l1_1.length c1_1]] (by rfl) rfl rfl ga ?_
          with_reducible refine (laws_toSent.calls k a1_0 _ _ l1_1 t279 t280 _ ?side1 ?side2 A14.out).mono ?_
          (case side1 => exact ck (Kd.C_below HR1_1.out HB.out))
          (case side2 => exact HC1_1.out)
          rintro e w84 ⟨v281, rfl, ho0, hb⟩
          refine ⟨_, rfl, ?_⟩
          have HO282 := Aside0.mk (Kd.R_lower ho0 (below_size bel))
          replace HO278 := Aside0.mk (Kd.R_below (rk HO278.out) hb)
          replace BK273 := Aside0.mk (bb BK273.out hb)
          replace HB := Aside0.mk (below_step bel hb)
          (try clear hb)
          (try clear hb2)
          (try clear hk)
          (try clear hi)
          (try clear ho0)
          obtain ⟨Ao85, co85, eo85⟩ := Kd.R_slice HO278.out
          (first | subst eo85 | (injection eo85 with f1_ f2_ f3_; have f4_ := f1_.symm; have f5_ := f3_.symm; clear f1_ f2_ f3_; subst f4_; subst f5_))
          obtain ⟨Ao86, co86, eo86⟩ := Kd.R_slice HO282.out
          (first | subst eo86 | (injection eo86 with f1_ f2_ f3_; have f4_ := f1_.symm; have f5_ := f3_.symm; clear f1_ f2_ f3_; subst f4_; subst f5_))
          refine hK.out _ _ ⟨(blk_cell BK273.out 0).trans rfl, (blk_cell BK273.out 1).trans rfl⟩ (fun hHeld => ?_)
          clear hK K
          refine norm_ (a' := ?_) ?_ ?_
          rotate_left
          · show Act.put _ (some 23) _ = _
            simp only [Act.put, List.setIfInBounds_toArray, List.set_cons_zero, List.set_cons_succ, i64_w, i32_w]
            rfl
          refine one_ (i := 4) (N := some 24) #[true, true, true, true, true, false] rfl rfl (by kernel_rfl) (by decide) (fun K hK => ?_)
          refine goes_ Tryd.func10 (by kernel_rfl) rfl #[.slice Ao85 t276.length co85, .agg #[.int .i64 t279, .slice Ao86 t280.length co86]] (by rfl) rfl rfl ga ?_
          with_reducible refine (spec_SentLine.calls k _ _ t276 t279 _ _ t280 t283 _ ?side1 ?side2 ?side3 ?side4 A15.out).mono ?_
          (case side1 => exact ck (Kd.R_reads' HO278.out).2.2)
          (case side2 => exact (Kd.R_reads' HO278.out).2.1)
          (case side3 => exact ck (Kd.R_reads' HO282.out).2.2)
          (case side4 => exact (Kd.R_reads' HO282.out).2.1)
          rintro e w87 ⟨rfl, hb⟩
          refine ⟨_, rfl, ?_⟩
          replace HO278 := Aside0.mk (Kd.R_below (rk HO278.out) hb)
          replace HO282 := Aside0.mk (Kd.R_below (rk HO282.out) hb)
          replace BK273 := Aside0.mk (bb BK273.out hb)
          replace HB := Aside0.mk (below_step bel hb)
          (try clear hb)
          (try clear hb2)
          (try clear hk)
          (try clear hi)
          refine hK.out _ _ ⟨(blk_cell BK273.out 0).trans rfl, (blk_cell BK273.out 1).trans rfl⟩ (fun hHeld => ?_)
          clear hK K
          refine norm_ (a' := ?_) ?_ ?_
          rotate_left
          · show Act.put _ (some 24) _ = _
            simp only [Act.put, List.setIfInBounds_toArray, List.set_cons_zero, List.set_cons_succ, i64_w, i32_w]
            rfl
          refine pure_ (i := 5) (N := some 6) (v := ?_) (a' := ?_) #[true, true, true, true, true, true] rfl rfl (by kernel_rfl) (fun _ _ _ h => h) (Or.inl ⟨by rfl, ?_⟩) ?_ ?_
          rotate_left
          · intro w'
            go_simp
            with_reducible rfl
          rotate_left
          · simp only [Act.put, List.setIfInBounds_toArray, List.set_cons_zero, List.set_cons_succ, i64_w, i32_w]
            rfl
          refine done_ (by kernel_rfl) ?_
          try go_wp2_with (first | ((with_reducible refine gate_callee (f := 11) rfl ?_); refine goesL_ (some 26) rfl rfl Tryd.func11 (by kernel_rfl) rfl #[.slice A0 l0.length c0] rfl ga ?_; (with_reducible refine (laws_toTeamS.calls k _ _ l0 t284 _ ?side1 ?side2 A16.out).mono ?_); (case side1 => exact ck (Kd.C_below HR0.out HB.out)); (case side2 => exact HC0.out); rintro e w88 ⟨v285, rfl, ho0, hb⟩; refine ⟨_, rfl, ?_⟩; have HO286 := Aside0.mk (Kd.R_lower (Kd.R_new' ho0 (Kd.R_lt (rk HO278.out))) (below_size bel)); replace HO278 := Aside0.mk (Kd.R_elder' (rk HO278.out) (Kd.R_base ho0) hb); replace HO282 := Aside0.mk (Kd.R_below (rk HO282.out) hb); replace BK273 := Aside0.mk (bb BK273.out hb); replace HB := Aside0.mk (below_step bel hb); (try clear hb); (try clear ho0); obtain ⟨hcz89_0, hcz89_1, hfz89_0, hfz89_1⟩ := cf2 BK273.out) | ((with_reducible refine gate_callee (f := 12) rfl ?_); refine goesL_ (some 28) rfl rfl Tryd.func12 (by kernel_rfl) rfl #[.agg #[.int .i64 a1_0, .slice A1_1 l1_1.length c1_1]] rfl ga ?_; (with_reducible refine (laws_toSent.calls k a1_0 _ _ l1_1 t287 t288 _ ?side1 ?side2 A17.out).mono ?_); (case side1 => exact ck (Kd.C_below HR1_1.out HB.out)); (case side2 => exact HC1_1.out); rintro e w90 ⟨v289, rfl, ho0, hb⟩; refine ⟨_, rfl, ?_⟩; have HO290 := Aside0.mk (Kd.R_lower (Kd.R_new' ho0 (Kd.R_lt (rk HO282.out))) (below_size bel)); replace HO278 := Aside0.mk (Kd.R_below (rk HO278.out) hb); replace HO282 := Aside0.mk (Kd.R_elder' (rk HO282.out) (Kd.R_base ho0) hb); replace HO286 := Aside0.mk (Kd.R_below (rk HO286.out) hb); replace BK273 := Aside0.mk (bb BK273.out hb); replace HB := Aside0.mk (below_step bel hb); (try clear hb); (try clear ho0)) | ((with_reducible refine gate_dst (N := 8) rfl ?_); refine box_event ?hg (N := 8) ?hd (cs := #[.int .i64 0, .slice none 0 0]) (t := 37) ?hr ?_; (case hd => rfl); (case hg => rfl); (case hr => first | (go_simp; done) | (go_simp; rfl)); intro gb291 hg w91 hbox hb; have BK291 := Aside0.mk (hbox); have GW291 := Aside0.mk ((bsz hg : w.heap.size ≤ gb291)); have GE291 := Aside0.mk ((bsz hg : w.heap.size ≤ gb291)); have NB273_291 := Aside0.mk ((nlt hg BK273.out : gb273 ≠ gb291)); have NB291_273 := Aside0.mk ((ngt hg BK273.out : gb291 ≠ gb273)); replace HO278 := Aside0.mk (Kd.R_below (rk HO278.out) hb); replace HO282 := Aside0.mk (Kd.R_below (rk HO282.out) hb); replace HO286 := Aside0.mk (Kd.R_below (rk HO286.out) hb); replace HO290 := Aside0.mk (Kd.R_below (rk HO290.out) hb); replace BK273 := Aside0.mk (bb BK273.out hb); replace HB := Aside0.mk (below_step bel hb); clear hb hbox hg; have hnb92 := NB291_273.out; have hnc92 := NB273_291.out; obtain ⟨hcz93_0, hcz93_1, hfz93_0, hfz93_1⟩ := cf2 BK291.out; obtain ⟨Ao94, co94, eo94⟩ := Kd.R_slice HO290.out; subst eo94; obtain ⟨Ao95, co95, eo95⟩ := Kd.R_slice HO286.out; subst eo95) | ((with_reducible refine gate_callee (f := 13) rfl ?_); refine goesL_ (some 31) rfl rfl Tryd.func13 (by kernel_rfl) rfl #[.slice Ao95 t284.length co95, .agg #[.int .i64 t287, .slice Ao94 t288.length co94]] rfl ga ?_; (with_reducible refine (impl_SentLine.calls k _ _ t284 t287 _ _ t288 t292 _ (tabAt HT.out bel) ?side1 ?side2 ?side3 ?side4 A18.out).mono ?_); (case side1 => refine (Kd.R_reads' (e := 52) (base := w.heap.size) (ok := fun k_ => (True ∧ some k_ ≠ (.slice Ao85 t276.length co85 : Value).ownBlock)) (n := t284.length) (c := co95) ?_).2.2; exact (by exact rk (Kd.R_mono (Kd.R_far (p := ⟨gb291, 1, none⟩) (Kd.R_far (p := ⟨gb291, 0, none⟩) (Kd.R_types HO286.out BK291.out (by decide)) (fun _ hk => hk.2) (.int .i64 t287)) (fun _ hk => hk.2) (.slice Ao94 t288.length co94)) (fun _ h_ => h_.1)))); (case side2 => exact (Kd.R_reads' HO286.out).2.1); (case side3 => refine (Kd.R_reads' (e := 3) (base := w.heap.size) (ok := fun k_ => (True ∧ some k_ ≠ (.slice Ao86 t280.length co86 : Value).ownBlock)) (n := t288.length) (c := co94) ?_).2.2; exact (by exact rk (Kd.R_mono (Kd.R_far (p := ⟨gb291, 1, none⟩) (Kd.R_far (p := ⟨gb291, 0, none⟩) (Kd.R_types HO290.out BK291.out (by decide)) (fun _ hk => hk.2) (.int .i64 t287)) (fun _ hk => hk.2) (.slice Ao94 t288.length co94)) (fun _ h_ => h_.1)))); (case side4 => exact (Kd.R_reads' HO290.out).2.1); rintro e w96 ⟨rfl, hb⟩; refine ⟨_, rfl, ?_⟩; replace HO278 := Aside0.mk (Kd.R_below (by exact rk (Kd.R_mono (Kd.R_far (p := ⟨gb291, 1, none⟩) (Kd.R_far (p := ⟨gb291, 0, none⟩) (Kd.R_types HO278.out BK291.out (by decide)) (fun _ hk => hk.2) (.int .i64 t287)) (fun _ hk => hk.2) (.slice Ao94 t288.length co94)) (fun _ h_ => h_.1))) hb); replace HO282 := Aside0.mk (Kd.R_below (by exact rk (Kd.R_mono (Kd.R_far (p := ⟨gb291, 1, none⟩) (Kd.R_far (p := ⟨gb291, 0, none⟩) (Kd.R_types HO282.out BK291.out (by decide)) (fun _ hk => hk.2) (.int .i64 t287)) (fun _ hk => hk.2) (.slice Ao94 t288.length co94)) (fun _ h_ => h_.1))) hb); replace HO286 := Aside0.mk (Kd.R_below (by exact rk (Kd.R_mono (Kd.R_far (p := ⟨gb291, 1, none⟩) (Kd.R_far (p := ⟨gb291, 0, none⟩) (Kd.R_types HO286.out BK291.out (by decide)) (fun _ hk => hk.2) (.int .i64 t287)) (fun _ hk => hk.2) (.slice Ao94 t288.length co94)) (fun _ h_ => h_.1))) hb); replace HO290 := Aside0.mk (Kd.R_below (by exact rk (Kd.R_mono (Kd.R_far (p := ⟨gb291, 1, none⟩) (Kd.R_far (p := ⟨gb291, 0, none⟩) (Kd.R_types HO290.out BK291.out (by decide)) (fun _ hk => hk.2) (.int .i64 t287)) (fun _ hk => hk.2) (.slice Ao94 t288.length co94)) (fun _ h_ => h_.1))) hb); replace BK273 := Aside0.mk (bb BK273.out hb); replace BK291 := Aside0.mk (blk_below (g := gb291) (o := .cells #[.int .i64 t287, .slice Ao94 t288.length co94] 37 (0, 0)) (by (with_reducible repeat (first | refine blk_drewN ?_ _ | refine blk_drew ?_ | refine blk_alloc ?_ _)); refine blk_put (cs := #[.int .i64 t287, .slice none 0 0]) ?_ 1 _ rfl; (with_reducible repeat (first | refine blk_drewN ?_ _ | refine blk_drew ?_ | refine blk_alloc ?_ _)); refine blk_put (cs := #[.int .i64 0, .slice none 0 0]) ?_ 0 _ rfl; (with_reducible repeat (first | refine blk_drewN ?_ _ | refine blk_drew ?_ | refine blk_alloc ?_ _)); exact BK291.out) hb); replace HB := Aside0.mk (below_step bel hb); (try clear hb)) | ((with_reducible refine gate_callee (f := 11) rfl ?_); refine goesL_ (some 37) rfl rfl Tryd.func11 (by kernel_rfl) rfl #[.slice A0 l0.length c0] rfl ga ?_; (with_reducible refine (laws_toTeamS.calls k _ _ l0 t293 _ ?side1 ?side2 A20.out).mono ?_); (case side1 => exact ck (Kd.C_below HR0.out HB.out)); (case side2 => exact HC0.out); rintro e w97 ⟨v294, rfl, ho0, hb⟩; refine ⟨_, rfl, ?_⟩; have HO295 := Aside0.mk (Kd.R_lower (Kd.R_new' (Kd.R_new' ho0 (Kd.R_lt (rk HO278.out))) (Kd.R_lt (rk HO286.out))) (below_size bel)); replace HO278 := Aside0.mk (Kd.R_elder' (rk HO278.out) (Kd.R_base ho0) hb); replace HO282 := Aside0.mk (Kd.R_below (rk HO282.out) hb); replace HO286 := Aside0.mk (Kd.R_elder' (rk HO286.out) (Kd.R_base ho0) hb); replace HO290 := Aside0.mk (Kd.R_below (rk HO290.out) hb); replace BK273 := Aside0.mk (bb BK273.out hb); replace BK291 := Aside0.mk (bb BK291.out hb); replace HB := Aside0.mk (below_step bel hb); (try clear hb); (try clear ho0); obtain ⟨Ao98, co98, eo98⟩ := Kd.R_slice HO295.out; subst eo98) | ((with_reducible refine gate_callee (f := 14) rfl ?_); refine goesL_ (some 38) rfl rfl Tryd.func14 (by kernel_rfl) rfl #[.slice Ao95 t284.length co95, .slice Ao98 t293.length co98] rfl ga ?_; (with_reducible refine (laws_eqTeamS.calls k _ _ t284 _ _ t293 false _ ?side1 ?side2 ?side3 ?side4 A21.out).mono ?_); (case side1 => exact ck (Kd.R_reads' HO286.out).2.2); (case side2 => exact (Kd.R_reads' HO286.out).2.1); (case side3 => exact ck (Kd.R_reads' HO295.out).2.2); (case side4 => exact (Kd.R_reads' HO295.out).2.1); rintro e w99 ⟨rfl, hb⟩; refine ⟨_, rfl, ?_⟩; replace HO278 := Aside0.mk (Kd.R_below (rk HO278.out) hb); replace HO282 := Aside0.mk (Kd.R_below (rk HO282.out) hb); replace HO286 := Aside0.mk (Kd.R_below (rk HO286.out) hb); replace HO290 := Aside0.mk (Kd.R_below (rk HO290.out) hb); replace HO295 := Aside0.mk (Kd.R_below (rk HO295.out) hb); replace BK273 := Aside0.mk (bb BK273.out hb); replace BK291 := Aside0.mk (bb BK291.out hb); replace HB := Aside0.mk (below_step bel hb); (try clear hb)))
          go_ret
          exact ⟨er, bel⟩
      · rw [if_neg c19] at H
        have c19b0 : (t292.toList == t283.toList) = false := beq_eq_false_iff_ne.mpr c19
        have c19b1 : (t292.toList != t283.toList) = true := bne_iff_ne.mpr c19
        obtain rfl := Option.some.inj H
        go_enter Tryd.func4, Tryd.ntmps4
        try go_wp2_with (first | ((with_reducible refine gate_dst (N := 3) rfl ?_); refine box_event ?hg (N := 3) ?hd (cs := #[.int .i64 a1_0, .slice A1_1 l1_1.length c1_1]) (t := 31) ?hr ?_; (case hd => rfl); (case hg => rfl); (case hr => first | (go_simp; done) | (go_simp; rfl)); intro gb273 hg w100 hbox hb; have BK273 := Aside0.mk (hbox); have GW273 := Aside0.mk ((bsz hg : w.heap.size ≤ gb273)); have GE273 := Aside0.mk ((bsz hg : w.heap.size ≤ gb273)); replace HB := Aside0.mk (below_step bel hb); clear hb hbox hg) | ((with_reducible refine gate_callee (f := 8) rfl ?_); refine goesL_ (some 12) rfl rfl Tryd.func8 (by kernel_rfl) rfl #[.slice A0 l0.length c0, .int .i64 1048576] rfl ga ?_; (with_reducible refine (laws_szTeamS.calls k _ _ l0 1048576 t274 _ ?side1 ?side2 A3.out).mono ?_); (case side1 => exact ck (Kd.C_below HR0.out HB.out)); (case side2 => exact HC0.out); rintro e w101 ⟨rfl, hb⟩; refine ⟨_, rfl, ?_⟩; replace BK273 := Aside0.mk (bb BK273.out hb); replace HB := Aside0.mk (below_step bel hb); (try clear hb); obtain ⟨hcz102_0, hcz102_1, hfz102_0, hfz102_1⟩ := cf2 BK273.out) | ((with_reducible refine gate_callee (f := 9) rfl ?_); refine goesL_ (some 17) rfl rfl Tryd.func9 (by kernel_rfl) rfl #[.agg #[.int .i64 a1_0, .slice A1_1 l1_1.length c1_1], .int .i64 t274] rfl ga ?_; (with_reducible refine (laws_szSent.calls a1_0 _ _ l1_1 t274 t275 _ ?side1 ?side2 A7.out).mono ?_); (case side1 => exact ck (Kd.C_below HR1_1.out HB.out)); (case side2 => exact HC1_1.out); rintro e w103 ⟨rfl, hb⟩; refine ⟨_, rfl, ?_⟩; replace BK273 := Aside0.mk (bb BK273.out hb); replace HB := Aside0.mk (below_step bel hb); (try clear hb)))
        replace BK273 := Aside0.mk (blk_drew BK273.out)
        replace HB := Aside0.mk (below_drew1 HB.out)
        refine start_ (n := 6) (S := fun w' => w'.cell? ⟨gb273, 0, none⟩ = some (.int .i64 a1_0) ∧ w'.cell? ⟨gb273, 1, none⟩ = some (.slice A1_1 l1_1.length c1_1)) (ds := []) #[false, false, false, false, false, false] (by kernel_rfl) rfl rfl ⟨(blk_cell BK273.out 0).trans rfl, (blk_cell BK273.out 1).trans rfl⟩ (fun hHeld => ?_)
        generalize w103.drew = w104 at BK273 HB hHeld ⊢
        refine pure_ (i := 0) (N := some 20) (v := ?_) (a' := ?_) #[true, false, false, false, false, false] rfl rfl (by kernel_rfl) (fun _ _ _ h => h) (Or.inl ⟨by rfl, ?_⟩) ?_ ?_
        rotate_left
        · intro w'
          go_simp
          with_reducible rfl
        rotate_left
        · simp only [Act.put, List.setIfInBounds_toArray, List.set_cons_zero, List.set_cons_succ, i64_w, i32_w]
          rfl
        refine take_ (i := 2) (N := some 22) (v := ?_) (a' := ?_) #[true, false, true, false, false, false] rfl rfl (by kernel_rfl) (fun _ _ _ h => h) (Or.inl ⟨by rfl, ?_⟩) hHeld ?_ ?_
        rotate_left
        · rintro w' ⟨s0, s1⟩
          go_simp
          with_reducible rfl
        rotate_left
        · simp only [Act.put, List.setIfInBounds_toArray, List.set_cons_zero, List.set_cons_succ, i64_w, i32_w]
          rfl
        refine one_ (i := 1) (N := some 21) #[true, true, true, false, false, false] rfl rfl (by kernel_rfl) (by decide) (fun K hK => ?_)
        refine goes_ Tryd.func11 (by kernel_rfl) rfl #[.slice A0 l0.length c0] (by rfl) rfl rfl ga ?_
        with_reducible refine (laws_toTeamS.calls k _ _ l0 t276 _ ?side1 ?side2 A13.out).mono ?_
        (case side1 => exact ck (Kd.C_below HR0.out HB.out))
        (case side2 => exact HC0.out)
        rintro e w105 ⟨v277, rfl, ho0, hb⟩
        refine ⟨_, rfl, ?_⟩
        have HO278 := Aside0.mk (Kd.R_lower ho0 (below_size bel))
        replace BK273 := Aside0.mk (bb BK273.out hb)
        replace HB := Aside0.mk (below_step bel hb)
        (try clear hb)
        (try clear hb2)
        (try clear hk)
        (try clear hi)
        (try clear ho0)
        refine hK.out _ _ ⟨(blk_cell BK273.out 0).trans rfl, (blk_cell BK273.out 1).trans rfl⟩ (fun hHeld => ?_)
        clear hK K
        refine norm_ (a' := ?_) ?_ ?_
        rotate_left
        · show Act.put _ (some 21) _ = _
          simp only [Act.put, List.setIfInBounds_toArray, List.set_cons_zero, List.set_cons_succ, i64_w, i32_w]
          rfl
        refine one_ (i := 3) (N := some 23) #[true, true, true, true, false, false] rfl rfl (by kernel_rfl) (by decide) (fun K hK => ?_)
        refine goes_ Tryd.func12 (by kernel_rfl) rfl #[.agg #[.int .i64 a1_0, .slice A1_1 l1_1.length c1_1]] (by rfl) rfl rfl ga ?_
        with_reducible refine (laws_toSent.calls k a1_0 _ _ l1_1 t279 t280 _ ?side1 ?side2 A14.out).mono ?_
        (case side1 => exact ck (Kd.C_below HR1_1.out HB.out))
        (case side2 => exact HC1_1.out)
        rintro e w106 ⟨v281, rfl, ho0, hb⟩
        refine ⟨_, rfl, ?_⟩
        have HO282 := Aside0.mk (Kd.R_lower ho0 (below_size bel))
        replace HO278 := Aside0.mk (Kd.R_below (rk HO278.out) hb)
        replace BK273 := Aside0.mk (bb BK273.out hb)
        replace HB := Aside0.mk (below_step bel hb)
        (try clear hb)
        (try clear hb2)
        (try clear hk)
        (try clear hi)
        (try clear ho0)
        obtain ⟨Ao107, co107, eo107⟩ := Kd.R_slice HO278.out
        (first | subst eo107 | (injection eo107 with f1_ f2_ f3_; have f4_ := f1_.symm; have f5_ := f3_.symm; clear f1_ f2_ f3_; subst f4_; subst f5_))
        obtain ⟨Ao108, co108, eo108⟩ := Kd.R_slice HO282.out
        (first | subst eo108 | (injection eo108 with f1_ f2_ f3_; have f4_ := f1_.symm; have f5_ := f3_.symm; clear f1_ f2_ f3_; subst f4_; subst f5_))
        refine hK.out _ _ ⟨(blk_cell BK273.out 0).trans rfl, (blk_cell BK273.out 1).trans rfl⟩ (fun hHeld => ?_)
        clear hK K
        refine norm_ (a' := ?_) ?_ ?_
        rotate_left
        · show Act.put _ (some 23) _ = _
          simp only [Act.put, List.setIfInBounds_toArray, List.set_cons_zero, List.set_cons_succ, i64_w, i32_w]
          rfl
        refine one_ (i := 4) (N := some 24) #[true, true, true, true, true, false] rfl rfl (by kernel_rfl) (by decide) (fun K hK => ?_)
        refine goes_ Tryd.func10 (by kernel_rfl) rfl #[.slice Ao107 t276.length co107, .agg #[.int .i64 t279, .slice Ao108 t280.length co108]] (by rfl) rfl rfl ga ?_
        with_reducible refine (spec_SentLine.calls k _ _ t276 t279 _ _ t280 t283 _ ?side1 ?side2 ?side3 ?side4 A15.out).mono ?_
        (case side1 => exact ck (Kd.R_reads' HO278.out).2.2)
        (case side2 => exact (Kd.R_reads' HO278.out).2.1)
        (case side3 => exact ck (Kd.R_reads' HO282.out).2.2)
        (case side4 => exact (Kd.R_reads' HO282.out).2.1)
        rintro e w109 ⟨rfl, hb⟩
        refine ⟨_, rfl, ?_⟩
        replace HO278 := Aside0.mk (Kd.R_below (rk HO278.out) hb)
        replace HO282 := Aside0.mk (Kd.R_below (rk HO282.out) hb)
        replace BK273 := Aside0.mk (bb BK273.out hb)
        replace HB := Aside0.mk (below_step bel hb)
        (try clear hb)
        (try clear hb2)
        (try clear hk)
        (try clear hi)
        refine hK.out _ _ ⟨(blk_cell BK273.out 0).trans rfl, (blk_cell BK273.out 1).trans rfl⟩ (fun hHeld => ?_)
        clear hK K
        refine norm_ (a' := ?_) ?_ ?_
        rotate_left
        · show Act.put _ (some 24) _ = _
          simp only [Act.put, List.setIfInBounds_toArray, List.set_cons_zero, List.set_cons_succ, i64_w, i32_w]
          rfl
        refine pure_ (i := 5) (N := some 6) (v := ?_) (a' := ?_) #[true, true, true, true, true, true] rfl rfl (by kernel_rfl) (fun _ _ _ h => h) (Or.inl ⟨by rfl, ?_⟩) ?_ ?_
        rotate_left
        · intro w'
          go_simp
          with_reducible rfl
        rotate_left
        · simp only [Act.put, List.setIfInBounds_toArray, List.set_cons_zero, List.set_cons_succ, i64_w, i32_w]
          rfl
        refine done_ (by kernel_rfl) ?_
        try go_wp2_with (first | ((with_reducible refine gate_callee (f := 11) rfl ?_); refine goesL_ (some 26) rfl rfl Tryd.func11 (by kernel_rfl) rfl #[.slice A0 l0.length c0] rfl ga ?_; (with_reducible refine (laws_toTeamS.calls k _ _ l0 t284 _ ?side1 ?side2 A16.out).mono ?_); (case side1 => exact ck (Kd.C_below HR0.out HB.out)); (case side2 => exact HC0.out); rintro e w110 ⟨v285, rfl, ho0, hb⟩; refine ⟨_, rfl, ?_⟩; have HO286 := Aside0.mk (Kd.R_lower (Kd.R_new' ho0 (Kd.R_lt (rk HO278.out))) (below_size bel)); replace HO278 := Aside0.mk (Kd.R_elder' (rk HO278.out) (Kd.R_base ho0) hb); replace HO282 := Aside0.mk (Kd.R_below (rk HO282.out) hb); replace BK273 := Aside0.mk (bb BK273.out hb); replace HB := Aside0.mk (below_step bel hb); (try clear hb); (try clear ho0); obtain ⟨hcz111_0, hcz111_1, hfz111_0, hfz111_1⟩ := cf2 BK273.out) | ((with_reducible refine gate_callee (f := 12) rfl ?_); refine goesL_ (some 28) rfl rfl Tryd.func12 (by kernel_rfl) rfl #[.agg #[.int .i64 a1_0, .slice A1_1 l1_1.length c1_1]] rfl ga ?_; (with_reducible refine (laws_toSent.calls k a1_0 _ _ l1_1 t287 t288 _ ?side1 ?side2 A17.out).mono ?_); (case side1 => exact ck (Kd.C_below HR1_1.out HB.out)); (case side2 => exact HC1_1.out); rintro e w112 ⟨v289, rfl, ho0, hb⟩; refine ⟨_, rfl, ?_⟩; have HO290 := Aside0.mk (Kd.R_lower (Kd.R_new' ho0 (Kd.R_lt (rk HO282.out))) (below_size bel)); replace HO278 := Aside0.mk (Kd.R_below (rk HO278.out) hb); replace HO282 := Aside0.mk (Kd.R_elder' (rk HO282.out) (Kd.R_base ho0) hb); replace HO286 := Aside0.mk (Kd.R_below (rk HO286.out) hb); replace BK273 := Aside0.mk (bb BK273.out hb); replace HB := Aside0.mk (below_step bel hb); (try clear hb); (try clear ho0)) | ((with_reducible refine gate_dst (N := 8) rfl ?_); refine box_event ?hg (N := 8) ?hd (cs := #[.int .i64 0, .slice none 0 0]) (t := 37) ?hr ?_; (case hd => rfl); (case hg => rfl); (case hr => first | (go_simp; done) | (go_simp; rfl)); intro gb291 hg w113 hbox hb; have BK291 := Aside0.mk (hbox); have GW291 := Aside0.mk ((bsz hg : w.heap.size ≤ gb291)); have GE291 := Aside0.mk ((bsz hg : w.heap.size ≤ gb291)); have NB273_291 := Aside0.mk ((nlt hg BK273.out : gb273 ≠ gb291)); have NB291_273 := Aside0.mk ((ngt hg BK273.out : gb291 ≠ gb273)); replace HO278 := Aside0.mk (Kd.R_below (rk HO278.out) hb); replace HO282 := Aside0.mk (Kd.R_below (rk HO282.out) hb); replace HO286 := Aside0.mk (Kd.R_below (rk HO286.out) hb); replace HO290 := Aside0.mk (Kd.R_below (rk HO290.out) hb); replace BK273 := Aside0.mk (bb BK273.out hb); replace HB := Aside0.mk (below_step bel hb); clear hb hbox hg; have hnb114 := NB291_273.out; have hnc114 := NB273_291.out; obtain ⟨hcz115_0, hcz115_1, hfz115_0, hfz115_1⟩ := cf2 BK291.out; obtain ⟨Ao116, co116, eo116⟩ := Kd.R_slice HO290.out; subst eo116; obtain ⟨Ao117, co117, eo117⟩ := Kd.R_slice HO286.out; subst eo117) | ((with_reducible refine gate_callee (f := 13) rfl ?_); refine goesL_ (some 31) rfl rfl Tryd.func13 (by kernel_rfl) rfl #[.slice Ao117 t284.length co117, .agg #[.int .i64 t287, .slice Ao116 t288.length co116]] rfl ga ?_; (with_reducible refine (impl_SentLine.calls k _ _ t284 t287 _ _ t288 t292 _ (tabAt HT.out bel) ?side1 ?side2 ?side3 ?side4 A18.out).mono ?_); (case side1 => refine (Kd.R_reads' (e := 52) (base := w.heap.size) (ok := fun k_ => (True ∧ some k_ ≠ (.slice Ao107 t276.length co107 : Value).ownBlock)) (n := t284.length) (c := co117) ?_).2.2; exact (by exact rk (Kd.R_mono (Kd.R_far (p := ⟨gb291, 1, none⟩) (Kd.R_far (p := ⟨gb291, 0, none⟩) (Kd.R_types HO286.out BK291.out (by decide)) (fun _ hk => hk.2) (.int .i64 t287)) (fun _ hk => hk.2) (.slice Ao116 t288.length co116)) (fun _ h_ => h_.1)))); (case side2 => exact (Kd.R_reads' HO286.out).2.1); (case side3 => refine (Kd.R_reads' (e := 3) (base := w.heap.size) (ok := fun k_ => (True ∧ some k_ ≠ (.slice Ao108 t280.length co108 : Value).ownBlock)) (n := t288.length) (c := co116) ?_).2.2; exact (by exact rk (Kd.R_mono (Kd.R_far (p := ⟨gb291, 1, none⟩) (Kd.R_far (p := ⟨gb291, 0, none⟩) (Kd.R_types HO290.out BK291.out (by decide)) (fun _ hk => hk.2) (.int .i64 t287)) (fun _ hk => hk.2) (.slice Ao116 t288.length co116)) (fun _ h_ => h_.1)))); (case side4 => exact (Kd.R_reads' HO290.out).2.1); rintro e w118 ⟨rfl, hb⟩; refine ⟨_, rfl, ?_⟩; replace HO278 := Aside0.mk (Kd.R_below (by exact rk (Kd.R_mono (Kd.R_far (p := ⟨gb291, 1, none⟩) (Kd.R_far (p := ⟨gb291, 0, none⟩) (Kd.R_types HO278.out BK291.out (by decide)) (fun _ hk => hk.2) (.int .i64 t287)) (fun _ hk => hk.2) (.slice Ao116 t288.length co116)) (fun _ h_ => h_.1))) hb); replace HO282 := Aside0.mk (Kd.R_below (by exact rk (Kd.R_mono (Kd.R_far (p := ⟨gb291, 1, none⟩) (Kd.R_far (p := ⟨gb291, 0, none⟩) (Kd.R_types HO282.out BK291.out (by decide)) (fun _ hk => hk.2) (.int .i64 t287)) (fun _ hk => hk.2) (.slice Ao116 t288.length co116)) (fun _ h_ => h_.1))) hb); replace HO286 := Aside0.mk (Kd.R_below (by exact rk (Kd.R_mono (Kd.R_far (p := ⟨gb291, 1, none⟩) (Kd.R_far (p := ⟨gb291, 0, none⟩) (Kd.R_types HO286.out BK291.out (by decide)) (fun _ hk => hk.2) (.int .i64 t287)) (fun _ hk => hk.2) (.slice Ao116 t288.length co116)) (fun _ h_ => h_.1))) hb); replace HO290 := Aside0.mk (Kd.R_below (by exact rk (Kd.R_mono (Kd.R_far (p := ⟨gb291, 1, none⟩) (Kd.R_far (p := ⟨gb291, 0, none⟩) (Kd.R_types HO290.out BK291.out (by decide)) (fun _ hk => hk.2) (.int .i64 t287)) (fun _ hk => hk.2) (.slice Ao116 t288.length co116)) (fun _ h_ => h_.1))) hb); replace BK273 := Aside0.mk (bb BK273.out hb); replace BK291 := Aside0.mk (blk_below (g := gb291) (o := .cells #[.int .i64 t287, .slice Ao116 t288.length co116] 37 (0, 0)) (by (with_reducible repeat (first | refine blk_drewN ?_ _ | refine blk_drew ?_ | refine blk_alloc ?_ _)); refine blk_put (cs := #[.int .i64 t287, .slice none 0 0]) ?_ 1 _ rfl; (with_reducible repeat (first | refine blk_drewN ?_ _ | refine blk_drew ?_ | refine blk_alloc ?_ _)); refine blk_put (cs := #[.int .i64 0, .slice none 0 0]) ?_ 0 _ rfl; (with_reducible repeat (first | refine blk_drewN ?_ _ | refine blk_drew ?_ | refine blk_alloc ?_ _)); exact BK291.out) hb); replace HB := Aside0.mk (below_step bel hb); (try clear hb)))
        go_ret
        exact ⟨er, bel⟩

end Go.Proofs.YtmpealaejigbfaaDoor.R
