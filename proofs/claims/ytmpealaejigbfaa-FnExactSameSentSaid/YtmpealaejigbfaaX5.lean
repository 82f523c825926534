-- Written by a program of this session (wip/xp.py, over the kit's print) out of the translation: functions, and the walks that show them.
import Derived.Test.YtmpealaejigbfaaX0
import Derived.Test.YtmpealaejigbfaaX1
import Derived.Test.YtmpealaejigbfaaX2
import Derived.Test.YtmpealaejigbfaaX3
import Derived.Test.YtmpealaejigbfaaX4
namespace Go.Proofs.Ytmpealaejigbfaa.X
open Go.RowKit Go.Proofs.YtmpealaejigbfaaW.PrintWords Go.Proofs.YtmpealaejigbfaaW.PrintLast Go.Proofs.YtmpealaejigbfaaW.PrintMore
attribute [local go_sem] max2_int min2_int max_two min_two max_three min_three max_four min_four   -- for this text's walks alone
set_option linter.unusedVariables false
set_option linter.unusedSimpArgs false

/-! ### laws_FnExactSameSent: function 3 -/
def laws_FnExactSameSent.f (k : Nat) (a0_0 : Int) (l0_1 : List Int) (a1_0 : Int) (l1_1 : List Int) : Option (Bool) := (laws_szSent.f a0_0 l0_1 1048576).bind fun t131 => (if t131 < 0 then (some true) else ((laws_szSent.f a1_0 l1_1 t131).bind fun t132 => (if t132 < 0 then (some true) else ((laws_toSent.f k a0_0 l0_1).bind fun bt133 => ((laws_toSent.f k a1_0 l1_1).bind fun bt137 => ((spec_SameSent.f k bt133.1 bt133.2 bt137.1 bt137.2).bind fun t141 => ((laws_toSent.f k a0_0 l0_1).bind fun bt142 => ((laws_toSent.f k a1_0 l1_1).bind fun bt147 => ((impl_SameSent.f k bt142.1 bt142.2 bt147.1 bt147.2).bind fun t152 => (if (t152 != t141) = true then (some false) else ((laws_toSent.f k a0_0 l0_1).bind fun bt153 => ((laws_eqSent.f k bt142.1 bt142.2 bt153.1 bt153.2).bind fun t157 => (if t157 = true then ((laws_toSent.f k a1_0 l1_1).bind fun bt158 => ((laws_eqSent.f k bt147.1 bt147.2 bt158.1 bt158.2).bind fun t162 => (if t162 = true then (some true) else (some false)))) else (some false))))))))))))))
theorem laws_FnExactSameSent.mono : ∀ a0 a1 a2 a3 k, LeO (laws_FnExactSameSent.f k a0 a1 a2 a3) (laws_FnExactSameSent.f (k + 1) a0 a1 a2 a3) := by
  intro a0 a1 a2 a3 k
  unfold laws_FnExactSameSent.f
  repeat' first
      | (with_reducible exact impl_SameSent.mono _ _ _ _ _)
      | (with_reducible exact laws_eqSent.mono _ _ _ _ _)
      | (with_reducible exact laws_toSent.mono _ _ _)
      | (with_reducible exact spec_SameSent.mono _ _ _ _ _)
      | (with_reducible exact LeO.refl _)
      | (with_reducible exact LeO.none _)
      | (with_reducible refine LeO.ite ?_ ?_)
      | (with_reducible refine LeO.bind ?_ (fun _ => ?_))
      | exact impl_SameSent.mono _ _ _ _ _
      | exact laws_eqSent.mono _ _ _ _ _
      | exact laws_toSent.mono _ _ _
      | exact spec_SameSent.mono _ _ _ _ _
      | exact LeO.none _
      | refine LeO.ite ?_ ?_
      | refine LeO.bind ?_ (fun _ => ?_)
set_option maxHeartbeats 8000000 in
set_option maxRecDepth 100000 in
theorem laws_FnExactSameSent.calls (k : Nat) (a0_0 : Int) (A0_1 : Option Addr) (c0_1 : Nat) (l0_1 : List Int) (a1_0 : Int) (A1_1 : Option Addr) (c1_1 : Nat) (l1_1 : List Int) (r : Bool) (w : World) (hr0_1 : Kd.C (Kd.int .i64) w A0_1 l0_1.length l0_1) (hc0_1 : l0_1.length ≤ c0_1) (hr1_1 : Kd.C (Kd.int .i64) w A1_1 l1_1.length l1_1) (hc1_1 : l1_1.length ≤ c1_1) (h : laws_FnExactSameSent.f k a0_0 l0_1 a1_0 l1_1 = some r) :
    Calls Try.prog 3 #[.agg #[.int .i64 a0_0, .slice A0_1 l0_1.length c0_1], .agg #[.int .i64 a1_0, .slice A1_1 l1_1.length c1_1]] w fun e w' => e = .returned (.bool r) ∧ Below w.heap.size w w' := by
  have hu24 := Try.underlying24
  have hu27 := Try.underlying27
  have HR0_1 := Aside0.mk hr0_1
  have HC0_1 := Aside0.mk hc0_1
  clear hr0_1 hc0_1
  have HR1_1 := Aside0.mk hr1_1
  have HC1_1 := Aside0.mk hc1_1
  clear hr1_1 hc1_1
  have HB := Aside0.mk (Below.refl w.heap.size w)
  have H : ((laws_szSent.f a0_0 l0_1 1048576).bind fun t131 => (if t131 < 0 then (some true) else ((laws_szSent.f a1_0 l1_1 t131).bind fun t132 => (if t132 < 0 then (some true) else ((laws_toSent.f k a0_0 l0_1).bind fun bt133 => ((laws_toSent.f k a1_0 l1_1).bind fun bt137 => ((spec_SameSent.f k bt133.1 bt133.2 bt137.1 bt137.2).bind fun t141 => ((laws_toSent.f k a0_0 l0_1).bind fun bt142 => ((laws_toSent.f k a1_0 l1_1).bind fun bt147 => ((impl_SameSent.f k bt142.1 bt142.2 bt147.1 bt147.2).bind fun t152 => (if (t152 != t141) = true then (some false) else ((laws_toSent.f k a0_0 l0_1).bind fun bt153 => ((laws_eqSent.f k bt142.1 bt142.2 bt153.1 bt153.2).bind fun t157 => (if t157 = true then ((laws_toSent.f k a1_0 l1_1).bind fun bt158 => ((laws_eqSent.f k bt147.1 bt147.2 bt158.1 bt158.2).bind fun t162 => (if t162 = true then (some true) else (some false)))) else (some false))))))))))))))) = some r := h
  clear h
  replace H := Option.bind_eq_some_iff.mp H
  obtain ⟨t131, A30, H⟩ := H
  replace H : (if t131 < 0 then (some true) else ((laws_szSent.f a1_0 l1_1 t131).bind fun t132 => (if t132 < 0 then (some true) else ((laws_toSent.f k a0_0 l0_1).bind fun bt133 => ((laws_toSent.f k a1_0 l1_1).bind fun bt137 => ((spec_SameSent.f k bt133.1 bt133.2 bt137.1 bt137.2).bind fun t141 => ((laws_toSent.f k a0_0 l0_1).bind fun bt142 => ((laws_toSent.f k a1_0 l1_1).bind fun bt147 => ((impl_SameSent.f k bt142.1 bt142.2 bt147.1 bt147.2).bind fun t152 => (if (t152 != t141) = true then (some false) else ((laws_toSent.f k a0_0 l0_1).bind fun bt153 => ((laws_eqSent.f k bt142.1 bt142.2 bt153.1 bt153.2).bind fun t157 => (if t157 = true then ((laws_toSent.f k a1_0 l1_1).bind fun bt158 => ((laws_eqSent.f k bt147.1 bt147.2 bt158.1 bt158.2).bind fun t162 => (if t162 = true then (some true) else (some false)))) else (some false)))))))))))))) = some r := H
  have A3 := Aside0.mk A30
  clear A30
  by_cases c4 : t131 < 0
  · rw [if_pos c4] at H
    have c4b0 : decide (t131 < 0) = true := decide_eq_true c4
    clear c4
    obtain rfl := Option.some.inj H
    go_enter Try.func3, Try.ntmps3
    go_wp2_with (first | ((with_reducible refine gate_dst (N := 2) rfl ?_); refine box_event ?hg (N := 2) ?hd (cs := #[.int .i64 a0_0, .slice A0_1 l0_1.length c0_1]) (t := 24) ?hr ?_; (case hd => rfl); (case hg => rfl); (case hr => first | (go_simp; done) | (go_simp; rfl)); intro gb129 hg w5 hbox hb; have BK129 := Aside0.mk (hbox); have GW129 := Aside0.mk ((bsz hg : w.heap.size ≤ gb129)); have GE129 := Aside0.mk ((bsz hg : w.heap.size ≤ gb129)); replace HB := Aside0.mk (below_step bel hb); clear hb hbox hg) | ((with_reducible refine gate_dst (N := 3) rfl ?_); refine box_event ?hg (N := 3) ?hd (cs := #[.int .i64 a1_0, .slice A1_1 l1_1.length c1_1]) (t := 24) ?hr ?_; (case hd => rfl); (case hg => rfl); (case hr => first | (go_simp; done) | (go_simp; rfl)); intro gb130 hg w6 hbox hb; have BK130 := Aside0.mk (hbox); have GW130 := Aside0.mk ((bsz hg : w.heap.size ≤ gb130)); have GE130 := Aside0.mk ((bsz hg : w.heap.size ≤ gb130)); have NB129_130 := Aside0.mk ((nlt hg BK129.out : gb129 ≠ gb130)); have NB130_129 := Aside0.mk ((ngt hg BK129.out : gb130 ≠ gb129)); replace BK129 := Aside0.mk (bb BK129.out hb); replace HB := Aside0.mk (below_step bel hb); clear hb hbox hg; have hnb7 := NB129_130.out; have hnc7 := NB130_129.out; obtain ⟨hcz8_0, hcz8_1, hfz8_0, hfz8_1⟩ := cf2 BK129.out) | ((with_reducible refine gate_callee (f := 8) rfl ?_); refine goesL_ (some 12) rfl rfl Try.func8 (by kernel_rfl) rfl #[.agg #[.int .i64 a0_0, .slice A0_1 l0_1.length c0_1], .int .i64 1048576] rfl ga ?_; (with_reducible refine (laws_szSent.calls a0_0 _ _ l0_1 1048576 t131 _ ?side1 ?side2 A3.out).mono ?_); (case side1 => exact ck (Kd.C_below HR0_1.out HB.out)); (case side2 => exact HC0_1.out); rintro e w9 ⟨rfl, hb⟩; refine ⟨_, rfl, ?_⟩; replace BK129 := Aside0.mk (bb BK129.out hb); replace BK130 := Aside0.mk (bb BK130.out hb); replace HB := Aside0.mk (below_step bel hb); (try clear hb)))
    go_ret
    exact ⟨er, bel⟩
  · rw [if_neg c4] at H
    have c4b0 : decide (t131 < 0) = false := decide_eq_false c4
    clear c4
    replace H := Option.bind_eq_some_iff.mp H
    obtain ⟨t132, A100, H⟩ := H
    replace H : (if t132 < 0 then (some true) else ((laws_toSent.f k a0_0 l0_1).bind fun bt133 => ((laws_toSent.f k a1_0 l1_1).bind fun bt137 => ((spec_SameSent.f k bt133.1 bt133.2 bt137.1 bt137.2).bind fun t141 => ((laws_toSent.f k a0_0 l0_1).bind fun bt142 => ((laws_toSent.f k a1_0 l1_1).bind fun bt147 => ((impl_SameSent.f k bt142.1 bt142.2 bt147.1 bt147.2).bind fun t152 => (if (t152 != t141) = true then (some false) else ((laws_toSent.f k a0_0 l0_1).bind fun bt153 => ((laws_eqSent.f k bt142.1 bt142.2 bt153.1 bt153.2).bind fun t157 => (if t157 = true then ((laws_toSent.f k a1_0 l1_1).bind fun bt158 => ((laws_eqSent.f k bt147.1 bt147.2 bt158.1 bt158.2).bind fun t162 => (if t162 = true then (some true) else (some false)))) else (some false)))))))))))) = some r := H
    have A10 := Aside0.mk A100
    clear A100
    by_cases c11 : t132 < 0
    · rw [if_pos c11] at H
      have c11b0 : decide (t132 < 0) = true := decide_eq_true c11
      clear c11
      obtain rfl := Option.some.inj H
      go_enter Try.func3, Try.ntmps3
      go_wp2_with (first | ((with_reducible refine gate_dst (N := 2) rfl ?_); refine box_event ?hg (N := 2) ?hd (cs := #[.int .i64 a0_0, .slice A0_1 l0_1.length c0_1]) (t := 24) ?hr ?_; (case hd => rfl); (case hg => rfl); (case hr => first | (go_simp; done) | (go_simp; rfl)); intro gb129 hg w12 hbox hb; have BK129 := Aside0.mk (hbox); have GW129 := Aside0.mk ((bsz hg : w.heap.size ≤ gb129)); have GE129 := Aside0.mk ((bsz hg : w.heap.size ≤ gb129)); replace HB := Aside0.mk (below_step bel hb); clear hb hbox hg) | ((with_reducible refine gate_dst (N := 3) rfl ?_); refine box_event ?hg (N := 3) ?hd (cs := #[.int .i64 a1_0, .slice A1_1 l1_1.length c1_1]) (t := 24) ?hr ?_; (case hd => rfl); (case hg => rfl); (case hr => first | (go_simp; done) | (go_simp; rfl)); intro gb130 hg w13 hbox hb; have BK130 := Aside0.mk (hbox); have GW130 := Aside0.mk ((bsz hg : w.heap.size ≤ gb130)); have GE130 := Aside0.mk ((bsz hg : w.heap.size ≤ gb130)); have NB129_130 := Aside0.mk ((nlt hg BK129.out : gb129 ≠ gb130)); have NB130_129 := Aside0.mk ((ngt hg BK129.out : gb130 ≠ gb129)); replace BK129 := Aside0.mk (bb BK129.out hb); replace HB := Aside0.mk (below_step bel hb); clear hb hbox hg; have hnb14 := NB129_130.out; have hnc14 := NB130_129.out; obtain ⟨hcz15_0, hcz15_1, hfz15_0, hfz15_1⟩ := cf2 BK129.out) | ((with_reducible refine gate_callee (f := 8) rfl ?_); refine goesL_ (some 12) rfl rfl Try.func8 (by kernel_rfl) rfl #[.agg #[.int .i64 a0_0, .slice A0_1 l0_1.length c0_1], .int .i64 1048576] rfl ga ?_; (with_reducible refine (laws_szSent.calls a0_0 _ _ l0_1 1048576 t131 _ ?side1 ?side2 A3.out).mono ?_); (case side1 => exact ck (Kd.C_below HR0_1.out HB.out)); (case side2 => exact HC0_1.out); rintro e w16 ⟨rfl, hb⟩; refine ⟨_, rfl, ?_⟩; replace BK129 := Aside0.mk (bb BK129.out hb); replace BK130 := Aside0.mk (bb BK130.out hb); replace HB := Aside0.mk (below_step bel hb); (try clear hb); obtain ⟨hcz17_0, hcz17_1, hfz17_0, hfz17_1⟩ := cf2 BK130.out) | ((with_reducible refine gate_callee (f := 8) rfl ?_); refine goesL_ (some 17) rfl rfl Try.func8 (by kernel_rfl) rfl #[.agg #[.int .i64 a1_0, .slice A1_1 l1_1.length c1_1], .int .i64 t131] rfl ga ?_; (with_reducible refine (laws_szSent.calls a1_0 _ _ l1_1 t131 t132 _ ?side1 ?side2 A10.out).mono ?_); (case side1 => exact ck (Kd.C_below HR1_1.out HB.out)); (case side2 => exact HC1_1.out); rintro e w18 ⟨rfl, hb⟩; refine ⟨_, rfl, ?_⟩; replace BK129 := Aside0.mk (bb BK129.out hb); replace BK130 := Aside0.mk (bb BK130.out hb); replace HB := Aside0.mk (below_step bel hb); (try clear hb)))
      go_ret
      exact ⟨er, bel⟩
    · rw [if_neg c11] at H
      have c11b0 : decide (t132 < 0) = false := decide_eq_false c11
      clear c11
      replace H := Option.bind_eq_some_iff.mp H
      obtain ⟨⟨t133, t134⟩, A190, H⟩ := H
      replace H : ((laws_toSent.f k a1_0 l1_1).bind fun bt137 => ((spec_SameSent.f k t133 t134 bt137.1 bt137.2).bind fun t141 => ((laws_toSent.f k a0_0 l0_1).bind fun bt142 => ((laws_toSent.f k a1_0 l1_1).bind fun bt147 => ((impl_SameSent.f k bt142.1 bt142.2 bt147.1 bt147.2).bind fun t152 => (if (t152 != t141) = true then (some false) else ((laws_toSent.f k a0_0 l0_1).bind fun bt153 => ((laws_eqSent.f k bt142.1 bt142.2 bt153.1 bt153.2).bind fun t157 => (if t157 = true then ((laws_toSent.f k a1_0 l1_1).bind fun bt158 => ((laws_eqSent.f k bt147.1 bt147.2 bt158.1 bt158.2).bind fun t162 => (if t162 = true then (some true) else (some false)))) else (some false)))))))))) = some r := H
      have A19 := Aside0.mk A190
      clear A190
      replace H := Option.bind_eq_some_iff.mp H
      obtain ⟨⟨t137, t138⟩, A200, H⟩ := H
      replace H : ((spec_SameSent.f k t133 t134 t137 t138).bind fun t141 => ((laws_toSent.f k a0_0 l0_1).bind fun bt142 => ((laws_toSent.f k a1_0 l1_1).bind fun bt147 => ((impl_SameSent.f k bt142.1 bt142.2 bt147.1 bt147.2).bind fun t152 => (if (t152 != t141) = true then (some false) else ((laws_toSent.f k a0_0 l0_1).bind fun bt153 => ((laws_eqSent.f k bt142.1 bt142.2 bt153.1 bt153.2).bind fun t157 => (if t157 = true then ((laws_toSent.f k a1_0 l1_1).bind fun bt158 => ((laws_eqSent.f k bt147.1 bt147.2 bt158.1 bt158.2).bind fun t162 => (if t162 = true then (some true) else (some false)))) else (some false))))))))) = some r := H
      have A20 := Aside0.mk A200
      clear A200
      replace H := Option.bind_eq_some_iff.mp H
      obtain ⟨t141, A210, H⟩ := H
      replace H : ((laws_toSent.f k a0_0 l0_1).bind fun bt142 => ((laws_toSent.f k a1_0 l1_1).bind fun bt147 => ((impl_SameSent.f k bt142.1 bt142.2 bt147.1 bt147.2).bind fun t152 => (if (t152 != t141) = true then (some false) else ((laws_toSent.f k a0_0 l0_1).bind fun bt153 => ((laws_eqSent.f k bt142.1 bt142.2 bt153.1 bt153.2).bind fun t157 => (if t157 = true then ((laws_toSent.f k a1_0 l1_1).bind fun bt158 => ((laws_eqSent.f k bt147.1 bt147.2 bt158.1 bt158.2).bind fun t162 => (if t162 = true then (some true) else (some false)))) else (some false)))))))) = some r := H
      have A21 := Aside0.mk A210
      clear A210
      replace H := Option.bind_eq_some_iff.mp H
      obtain ⟨⟨t142, t143⟩, A220, H⟩ := H
      replace H : ((laws_toSent.f k a1_0 l1_1).bind fun bt147 => ((impl_SameSent.f k t142 t143 bt147.1 bt147.2).bind fun t152 => (if (t152 != t141) = true then (some false) else ((laws_toSent.f k a0_0 l0_1).bind fun bt153 => ((laws_eqSent.f k t142 t143 bt153.1 bt153.2).bind fun t157 => (if t157 = true then ((laws_toSent.f k a1_0 l1_1).bind fun bt158 => ((laws_eqSent.f k bt147.1 bt147.2 bt158.1 bt158.2).bind fun t162 => (if t162 = true then (some true) else (some false)))) else (some false))))))) = some r := H
      have A22 := Aside0.mk A220
      clear A220
      replace H := Option.bind_eq_some_iff.mp H
      obtain ⟨⟨t147, t148⟩, A230, H⟩ := H
      replace H : ((impl_SameSent.f k t142 t143 t147 t148).bind fun t152 => (if (t152 != t141) = true then (some false) else ((laws_toSent.f k a0_0 l0_1).bind fun bt153 => ((laws_eqSent.f k t142 t143 bt153.1 bt153.2).bind fun t157 => (if t157 = true then ((laws_toSent.f k a1_0 l1_1).bind fun bt158 => ((laws_eqSent.f k t147 t148 bt158.1 bt158.2).bind fun t162 => (if t162 = true then (some true) else (some false)))) else (some false)))))) = some r := H
      have A23 := Aside0.mk A230
      clear A230
      replace H := Option.bind_eq_some_iff.mp H
      obtain ⟨t152, A240, H⟩ := H
      replace H : (if (t152 != t141) = true then (some false) else ((laws_toSent.f k a0_0 l0_1).bind fun bt153 => ((laws_eqSent.f k t142 t143 bt153.1 bt153.2).bind fun t157 => (if t157 = true then ((laws_toSent.f k a1_0 l1_1).bind fun bt158 => ((laws_eqSent.f k t147 t148 bt158.1 bt158.2).bind fun t162 => (if t162 = true then (some true) else (some false)))) else (some false))))) = some r := H
      have A24 := Aside0.mk A240
      clear A240
      by_cases c25 : (t152 != t141) = true
      · rw [if_pos c25] at H
        have c25b0 : (t152 != t141) = true := c25
        (try (have c25b1 : decide (t152 = t141) = false := by simpa using c25))
        (try (have c25b2 : (t152 == t141) = false := by simpa using c25))
        (try (have c25b3 : ¬ (t152 = t141) := by simpa using c25))
        clear c25
        obtain rfl := Option.some.inj H
        go_enter Try.func3, Try.ntmps3
        try go_wp2_with (first | ((with_reducible refine gate_dst (N := 2) rfl ?_); refine box_event ?hg (N := 2) ?hd (cs := #[.int .i64 a0_0, .slice A0_1 l0_1.length c0_1]) (t := 24) ?hr ?_; (case hd => rfl); (case hg => rfl); (case hr => first | (go_simp; done) | (go_simp; rfl)); intro gb129 hg w26 hbox hb; have BK129 := Aside0.mk (hbox); have GW129 := Aside0.mk ((bsz hg : w.heap.size ≤ gb129)); have GE129 := Aside0.mk ((bsz hg : w.heap.size ≤ gb129)); replace HB := Aside0.mk (below_step bel hb); clear hb hbox hg) | ((with_reducible refine gate_dst (N := 3) rfl ?_); refine box_event ?hg (N := 3) ?hd (cs := #[.int .i64 a1_0, .slice A1_1 l1_1.length c1_1]) (t := 24) ?hr ?_; (case hd => rfl); (case hg => rfl); (case hr => first | (go_simp; done) | (go_simp; rfl)); intro gb130 hg w27 hbox hb; have BK130 := Aside0.mk (hbox); have GW130 := Aside0.mk ((bsz hg : w.heap.size ≤ gb130)); have GE130 := Aside0.mk ((bsz hg : w.heap.size ≤ gb130)); have NB129_130 := Aside0.mk ((nlt hg BK129.out : gb129 ≠ gb130)); have NB130_129 := Aside0.mk ((ngt hg BK129.out : gb130 ≠ gb129)); replace BK129 := Aside0.mk (bb BK129.out hb); replace HB := Aside0.mk (below_step bel hb); clear hb hbox hg; have hnb28 := NB129_130.out; have hnc28 := NB130_129.out; obtain ⟨hcz29_0, hcz29_1, hfz29_0, hfz29_1⟩ := cf2 BK129.out) | ((with_reducible refine gate_callee (f := 8) rfl ?_); refine goesL_ (some 12) rfl rfl Try.func8 (by kernel_rfl) rfl #[.agg #[.int .i64 a0_0, .slice A0_1 l0_1.length c0_1], .int .i64 1048576] rfl ga ?_; (with_reducible refine (laws_szSent.calls a0_0 _ _ l0_1 1048576 t131 _ ?side1 ?side2 A3.out).mono ?_); (case side1 => exact ck (Kd.C_below HR0_1.out HB.out)); (case side2 => exact HC0_1.out); rintro e w30 ⟨rfl, hb⟩; refine ⟨_, rfl, ?_⟩; replace BK129 := Aside0.mk (bb BK129.out hb); replace BK130 := Aside0.mk (bb BK130.out hb); replace HB := Aside0.mk (below_step bel hb); (try clear hb); obtain ⟨hcz31_0, hcz31_1, hfz31_0, hfz31_1⟩ := cf2 BK130.out) | ((with_reducible refine gate_callee (f := 8) rfl ?_); refine goesL_ (some 17) rfl rfl Try.func8 (by kernel_rfl) rfl #[.agg #[.int .i64 a1_0, .slice A1_1 l1_1.length c1_1], .int .i64 t131] rfl ga ?_; (with_reducible refine (laws_szSent.calls a1_0 _ _ l1_1 t131 t132 _ ?side1 ?side2 A10.out).mono ?_); (case side1 => exact ck (Kd.C_below HR1_1.out HB.out)); (case side2 => exact HC1_1.out); rintro e w32 ⟨rfl, hb⟩; refine ⟨_, rfl, ?_⟩; replace BK129 := Aside0.mk (bb BK129.out hb); replace BK130 := Aside0.mk (bb BK130.out hb); replace HB := Aside0.mk (below_step bel hb); (try clear hb)))
        replace BK129 := Aside0.mk (blk_drew BK129.out)
        replace BK130 := Aside0.mk (blk_drew BK130.out)
        replace HB := Aside0.mk (below_drew1 HB.out)
        refine start_ (n := 6) (S := fun w' => w'.cell? ⟨gb129, 0, none⟩ = some (.int .i64 a0_0) ∧ w'.cell? ⟨gb129, 1, none⟩ = some (.slice A0_1 l0_1.length c0_1) ∧ w'.cell? ⟨gb130, 0, none⟩ = some (.int .i64 a1_0) ∧ w'.cell? ⟨gb130, 1, none⟩ = some (.slice A1_1 l1_1.length c1_1)) (ds := []) #[false, false, false, false, false, false] (by kernel_rfl) rfl rfl ⟨(blk_cell BK129.out 0).trans rfl, (blk_cell BK129.out 1).trans rfl, (blk_cell BK130.out 0).trans rfl, (blk_cell BK130.out 1).trans rfl⟩ (fun hHeld => ?_)
        generalize w32.drew = w33 at BK129 BK130 HB hHeld ⊢
        refine take_ (i := 0) (N := some 20) (v := ?_) (a' := ?_) #[true, false, false, false, false, false] rfl rfl (by kernel_rfl) (fun _ _ _ h => h) (Or.inl ⟨by rfl, ?_⟩) hHeld ?_ ?_
        rotate_left
        · rintro w' ⟨s0, s1, s2, s3⟩
          go_simp
          with_reducible rfl
        rotate_left
        · simp only [Act.put, List.setIfInBounds_toArray, List.set_cons_zero, List.set_cons_succ, i64_w, i32_w]
          rfl
        refine take_ (i := 2) (N := some 22) (v := ?_) (a' := ?_) #[true, false, true, false, false, false] rfl rfl (by kernel_rfl) (fun _ _ _ h => h) (Or.inl ⟨by rfl, ?_⟩) hHeld ?_ ?_
        rotate_left
        · rintro w' ⟨s0, s1, s2, s3⟩
          go_simp
          with_reducible rfl
        rotate_left
        · simp only [Act.put, List.setIfInBounds_toArray, List.set_cons_zero, List.set_cons_succ, i64_w, i32_w]
          rfl
        refine one_ (i := 1) (N := some 21) #[true, true, true, false, false, false] rfl rfl (by kernel_rfl) (by decide) (fun K hK => ?_)
        refine goes_ Try.func10 (by kernel_rfl) rfl #[.agg #[.int .i64 a0_0, .slice A0_1 l0_1.length c0_1]] (by rfl) rfl rfl ga ?_
        with_reducible refine (laws_toSent.calls k a0_0 _ _ l0_1 t133 t134 _ ?side1 ?side2 A19.out).mono ?_
        (case side1 => exact ck (Kd.C_below HR0_1.out HB.out))
        (case side2 => exact HC0_1.out)
        rintro e w34 ⟨v135, rfl, ho0, hb⟩
        refine ⟨_, rfl, ?_⟩
        have HO136 := Aside0.mk (Kd.R_lower ho0 (below_size bel))
        replace BK129 := Aside0.mk (bb BK129.out hb)
        replace BK130 := Aside0.mk (bb BK130.out hb)
        replace HB := Aside0.mk (below_step bel hb)
        (try clear hb)
        (try clear hb2)
        (try clear hk)
        (try clear hi)
        (try clear ho0)
        refine hK.out _ _ ⟨(blk_cell BK129.out 0).trans rfl, (blk_cell BK129.out 1).trans rfl, (blk_cell BK130.out 0).trans rfl, (blk_cell BK130.out 1).trans rfl⟩ (fun hHeld => ?_)
        clear hK K
        refine norm_ (a' := ?_) ?_ ?_
        rotate_left
        · show Act.put _ (some 21) _ = _
          simp only [Act.put, List.setIfInBounds_toArray, List.set_cons_zero, List.set_cons_succ, i64_w, i32_w]
          rfl
        refine one_ (i := 3) (N := some 23) #[true, true, true, true, false, false] rfl rfl (by kernel_rfl) (by decide) (fun K hK => ?_)
        refine goes_ Try.func10 (by kernel_rfl) rfl #[.agg #[.int .i64 a1_0, .slice A1_1 l1_1.length c1_1]] (by rfl) rfl rfl ga ?_
        with_reducible refine (laws_toSent.calls k a1_0 _ _ l1_1 t137 t138 _ ?side1 ?side2 A20.out).mono ?_
        (case side1 => exact ck (Kd.C_below HR1_1.out HB.out))
        (case side2 => exact HC1_1.out)
        rintro e w35 ⟨v139, rfl, ho0, hb⟩
        refine ⟨_, rfl, ?_⟩
        have HO140 := Aside0.mk (Kd.R_lower (Kd.R_new' ho0 (Kd.R_lt (rk HO136.out))) (below_size bel))
        replace HO136 := Aside0.mk (Kd.R_elder' (rk HO136.out) (Kd.R_base ho0) hb)
        replace BK129 := Aside0.mk (bb BK129.out hb)
        replace BK130 := Aside0.mk (bb BK130.out hb)
        replace HB := Aside0.mk (below_step bel hb)
        (try clear hb)
        (try clear hb2)
        (try clear hk)
        (try clear hi)
        (try clear ho0)
        obtain ⟨Ao36, co36, eo36⟩ := Kd.R_slice HO136.out
        (first | subst eo36 | (injection eo36 with f1_ f2_ f3_; have f4_ := f1_.symm; have f5_ := f3_.symm; clear f1_ f2_ f3_; subst f4_; subst f5_))
        obtain ⟨Ao37, co37, eo37⟩ := Kd.R_slice HO140.out
        (first | subst eo37 | (injection eo37 with f1_ f2_ f3_; have f4_ := f1_.symm; have f5_ := f3_.symm; clear f1_ f2_ f3_; subst f4_; subst f5_))
        refine hK.out _ _ ⟨(blk_cell BK129.out 0).trans rfl, (blk_cell BK129.out 1).trans rfl, (blk_cell BK130.out 0).trans rfl, (blk_cell BK130.out 1).trans rfl⟩ (fun hHeld => ?_)
        clear hK K
        refine norm_ (a' := ?_) ?_ ?_
        rotate_left
        · show Act.put _ (some 23) _ = _
          simp only [Act.put, List.setIfInBounds_toArray, List.set_cons_zero, List.set_cons_succ, i64_w, i32_w]
          rfl
        refine one_ (i := 4) (N := some 24) #[true, true, true, true, true, false] rfl rfl (by kernel_rfl) (by decide) (fun K hK => ?_)
        refine goes_ Try.func9 (by kernel_rfl) rfl #[.agg #[.int .i64 t133, .slice Ao36 t134.length co36], .agg #[.int .i64 t137, .slice Ao37 t138.length co37]] (by rfl) rfl rfl ga ?_
        with_reducible refine (spec_SameSent.calls k t133 _ _ t134 t137 _ _ t138 t141 _ ?side1 ?side2 ?side3 ?side4 A21.out).mono ?_
        (case side1 => exact ck (Kd.R_reads' HO136.out).2.2)
        (case side2 => exact (Kd.R_reads' HO136.out).2.1)
        (case side3 => exact ck (Kd.R_reads' HO140.out).2.2)
        (case side4 => exact (Kd.R_reads' HO140.out).2.1)
        rintro e w38 ⟨rfl, hb⟩
        refine ⟨_, rfl, ?_⟩
        replace HO136 := Aside0.mk (Kd.R_below (rk HO136.out) hb)
        replace HO140 := Aside0.mk (Kd.R_below (rk HO140.out) hb)
        replace BK129 := Aside0.mk (bb BK129.out hb)
        replace BK130 := Aside0.mk (bb BK130.out hb)
        replace HB := Aside0.mk (below_step bel hb)
        (try clear hb)
        (try clear hb2)
        (try clear hk)
        (try clear hi)
        refine hK.out _ _ ⟨(blk_cell BK129.out 0).trans rfl, (blk_cell BK129.out 1).trans rfl, (blk_cell BK130.out 0).trans rfl, (blk_cell BK130.out 1).trans rfl⟩ (fun hHeld => ?_)
        clear hK K
        refine norm_ (a' := ?_) ?_ ?_
        rotate_left
        · show Act.put _ (some 24) _ = _
          simp only [Act.put, List.setIfInBounds_toArray, List.set_cons_zero, List.set_cons_succ, i64_w, i32_w]
          rfl
        refine pure_ (i := 5) (N := some 6) (v := ?_) (a' := ?_) #[true, true, true, true, true, true] rfl rfl (by kernel_rfl) (fun _ _ _ h => h) (Or.inl ⟨by rfl, ?_⟩) ?_ ?_
        rotate_left
        · intro w'
          go_simp
          with_reducible rfl
        rotate_left
        · simp only [Act.put, List.setIfInBounds_toArray, List.set_cons_zero, List.set_cons_succ, i64_w, i32_w]
          rfl
        refine done_ (by kernel_rfl) ?_
        obtain ⟨hcz39_0, hcz39_1, hfz39_0, hfz39_1⟩ := cf2 BK129.out
        try go_wp2_with (first | ((with_reducible refine gate_callee (f := 10) rfl ?_); refine goesL_ (some 26) rfl rfl Try.func10 (by kernel_rfl) rfl #[.agg #[.int .i64 a0_0, .slice A0_1 l0_1.length c0_1]] rfl ga ?_; (with_reducible refine (laws_toSent.calls k a0_0 _ _ l0_1 t142 t143 _ ?side1 ?side2 A22.out).mono ?_); (case side1 => exact ck (Kd.C_below HR0_1.out HB.out)); (case side2 => exact HC0_1.out); rintro e w40 ⟨v144, rfl, ho0, hb⟩; refine ⟨_, rfl, ?_⟩; have HO145 := Aside0.mk (Kd.R_lower (Kd.R_new' (Kd.R_new' ho0 (Kd.R_lt (rk HO136.out))) (Kd.R_lt (rk HO140.out))) (below_size bel)); replace HO136 := Aside0.mk (Kd.R_elder' (rk HO136.out) (Kd.R_base ho0) hb); replace HO140 := Aside0.mk (Kd.R_elder' (rk HO140.out) (Kd.R_base ho0) hb); replace BK129 := Aside0.mk (bb BK129.out hb); replace BK130 := Aside0.mk (bb BK130.out hb); replace HB := Aside0.mk (below_step bel hb); (try clear hb); (try clear ho0)) | ((with_reducible refine gate_dst (N := 7) rfl ?_); refine box_event ?hg (N := 7) ?hd (cs := #[.int .i64 0, .slice none 0 0]) (t := 27) ?hr ?_; (case hd => rfl); (case hg => rfl); (case hr => first | (go_simp; done) | (go_simp; rfl)); intro gb146 hg w41 hbox hb; have BK146 := Aside0.mk (hbox); have GW146 := Aside0.mk ((bsz hg : w.heap.size ≤ gb146)); have GE146 := Aside0.mk ((bsz hg : w.heap.size ≤ gb146)); have NB129_146 := Aside0.mk ((nlt hg BK129.out : gb129 ≠ gb146)); have NB146_129 := Aside0.mk ((ngt hg BK129.out : gb146 ≠ gb129)); have NB130_146 := Aside0.mk ((nlt hg BK130.out : gb130 ≠ gb146)); have NB146_130 := Aside0.mk ((ngt hg BK130.out : gb146 ≠ gb130)); replace HO136 := Aside0.mk (Kd.R_below (rk HO136.out) hb); replace HO140 := Aside0.mk (Kd.R_below (rk HO140.out) hb); replace HO145 := Aside0.mk (Kd.R_below (rk HO145.out) hb); replace BK129 := Aside0.mk (bb BK129.out hb); replace BK130 := Aside0.mk (bb BK130.out hb); replace HB := Aside0.mk (below_step bel hb); clear hb hbox hg; have hnb42 := NB146_129.out; have hnc42 := NB129_146.out; have hnb43 := NB146_130.out; have hnc43 := NB130_146.out; obtain ⟨hcz44_0, hcz44_1, hfz44_0, hfz44_1⟩ := cf2 BK146.out; obtain ⟨Ao45, co45, eo45⟩ := Kd.R_slice HO145.out; subst eo45; obtain ⟨hcz46_0, hcz46_1, hfz46_0, hfz46_1⟩ := cf2 BK130.out) | ((with_reducible refine gate_callee (f := 10) rfl ?_); refine goesL_ (some 28) rfl rfl Try.func10 (by kernel_rfl) rfl #[.agg #[.int .i64 a1_0, .slice A1_1 l1_1.length c1_1]] rfl ga ?_; (with_reducible refine (laws_toSent.calls k a1_0 _ _ l1_1 t147 t148 _ ?side1 ?side2 A23.out).mono ?_); (case side1 => exact Kd.C_below HR1_1.out bel); (case side2 => exact HC1_1.out); rintro e w47 ⟨v149, rfl, ho0, hb⟩; refine ⟨_, rfl, ?_⟩; have HO150 := Aside0.mk (Kd.R_lower (Kd.R_new' (Kd.R_new' (Kd.R_new' ho0 (Kd.R_lt (by exact rk (Kd.R_mono (Kd.R_far (p := ⟨gb146, 1, none⟩) (Kd.R_far (p := ⟨gb146, 0, none⟩) (Kd.R_types HO136.out BK146.out (by decide)) (fun _ hk => hk.2) (.int .i64 t142)) (fun _ hk => hk.2) (.slice Ao45 t143.length co45)) (fun _ h_ => h_.1))))) (Kd.R_lt (by exact rk (Kd.R_mono (Kd.R_far (p := ⟨gb146, 1, none⟩) (Kd.R_far (p := ⟨gb146, 0, none⟩) (Kd.R_types HO140.out BK146.out (by decide)) (fun _ hk => hk.2) (.int .i64 t142)) (fun _ hk => hk.2) (.slice Ao45 t143.length co45)) (fun _ h_ => h_.1))))) (Kd.R_lt (by exact rk (Kd.R_mono (Kd.R_far (p := ⟨gb146, 1, none⟩) (Kd.R_far (p := ⟨gb146, 0, none⟩) (Kd.R_types HO145.out BK146.out (by decide)) (fun _ hk => hk.2) (.int .i64 t142)) (fun _ hk => hk.2) (.slice Ao45 t143.length co45)) (fun _ h_ => h_.1))))) (below_size bel)); replace HO136 := Aside0.mk (Kd.R_elder' (by exact rk (Kd.R_mono (Kd.R_far (p := ⟨gb146, 1, none⟩) (Kd.R_far (p := ⟨gb146, 0, none⟩) (Kd.R_types HO136.out BK146.out (by decide)) (fun _ hk => hk.2) (.int .i64 t142)) (fun _ hk => hk.2) (.slice Ao45 t143.length co45)) (fun _ h_ => h_.1))) (Kd.R_base ho0) hb); replace HO140 := Aside0.mk (Kd.R_elder' (by exact rk (Kd.R_mono (Kd.R_far (p := ⟨gb146, 1, none⟩) (Kd.R_far (p := ⟨gb146, 0, none⟩) (Kd.R_types HO140.out BK146.out (by decide)) (fun _ hk => hk.2) (.int .i64 t142)) (fun _ hk => hk.2) (.slice Ao45 t143.length co45)) (fun _ h_ => h_.1))) (Kd.R_base ho0) hb); replace HO145 := Aside0.mk (Kd.R_elder' (by exact rk (Kd.R_mono (Kd.R_far (p := ⟨gb146, 1, none⟩) (Kd.R_far (p := ⟨gb146, 0, none⟩) (Kd.R_types HO145.out BK146.out (by decide)) (fun _ hk => hk.2) (.int .i64 t142)) (fun _ hk => hk.2) (.slice Ao45 t143.length co45)) (fun _ h_ => h_.1))) (Kd.R_base ho0) hb); replace BK129 := Aside0.mk (bb BK129.out hb); replace BK130 := Aside0.mk (bb BK130.out hb); replace BK146 := Aside0.mk (blk_below (g := gb146) (o := .cells #[.int .i64 t142, .slice Ao45 t143.length co45] 27 (0, 0)) (by (with_reducible repeat (first | refine blk_drewN ?_ _ | refine blk_drew ?_ | refine blk_alloc ?_ _)); refine blk_put (cs := #[.int .i64 t142, .slice none 0 0]) ?_ 1 _ rfl; (with_reducible repeat (first | refine blk_drewN ?_ _ | refine blk_drew ?_ | refine blk_alloc ?_ _)); refine blk_put (cs := #[.int .i64 0, .slice none 0 0]) ?_ 0 _ rfl; (with_reducible repeat (first | refine blk_drewN ?_ _ | refine blk_drew ?_ | refine blk_alloc ?_ _)); exact BK146.out) hb); replace HB := Aside0.mk (below_step bel hb); (try clear hb); (try clear ho0)) | ((with_reducible refine gate_dst (N := 8) rfl ?_); refine box_event ?hg (N := 8) ?hd (cs := #[.int .i64 0, .slice none 0 0]) (t := 27) ?hr ?_; (case hd => rfl); (case hg => rfl); (case hr => first | (go_simp; done) | (go_simp; rfl)); intro gb151 hg w48 hbox hb; have BK151 := Aside0.mk (hbox); have GW151 := Aside0.mk ((bsz hg : w.heap.size ≤ gb151)); have GE151 := Aside0.mk ((bsz hg : w.heap.size ≤ gb151)); have NB129_151 := Aside0.mk ((nlt hg BK129.out : gb129 ≠ gb151)); have NB151_129 := Aside0.mk ((ngt hg BK129.out : gb151 ≠ gb129)); have NB130_151 := Aside0.mk ((nlt hg BK130.out : gb130 ≠ gb151)); have NB151_130 := Aside0.mk ((ngt hg BK130.out : gb151 ≠ gb130)); have NB146_151 := Aside0.mk ((nlt hg BK146.out : gb146 ≠ gb151)); have NB151_146 := Aside0.mk ((ngt hg BK146.out : gb151 ≠ gb146)); replace HO136 := Aside0.mk (Kd.R_below (rk HO136.out) hb); replace HO140 := Aside0.mk (Kd.R_below (rk HO140.out) hb); replace HO145 := Aside0.mk (Kd.R_below (rk HO145.out) hb); replace HO150 := Aside0.mk (Kd.R_below (rk HO150.out) hb); replace BK129 := Aside0.mk (bb BK129.out hb); replace BK130 := Aside0.mk (bb BK130.out hb); replace BK146 := Aside0.mk (bb BK146.out hb); replace HB := Aside0.mk (below_step bel hb); clear hb hbox hg; have hnb49 := NB151_129.out; have hnc49 := NB129_151.out; have hnb50 := NB151_130.out; have hnc50 := NB130_151.out; have hnb51 := NB151_146.out; have hnc51 := NB146_151.out; obtain ⟨hcz52_0, hcz52_1, hfz52_0, hfz52_1⟩ := cf2 BK151.out; obtain ⟨Ao53, co53, eo53⟩ := Kd.R_slice HO150.out; subst eo53; obtain ⟨hcz54_0, hcz54_1, hfz54_0, hfz54_1⟩ := cf2 BK146.out) | ((with_reducible refine gate_callee (f := 11) rfl ?_); refine goesL_ (some 31) rfl rfl Try.func11 (by kernel_rfl) rfl #[.agg #[.int .i64 t142, .slice Ao45 t143.length co45], .agg #[.int .i64 t147, .slice Ao53 t148.length co53]] rfl ga ?_; (with_reducible refine (impl_SameSent.calls k t142 _ _ t143 t147 _ _ t148 t152 _ ?side1 ?side2 ?side3 ?side4 A24.out).mono ?_); (case side1 => refine (Kd.R_reads' (e := 3) (base := w.heap.size) (ok := fun k_ => (((True ∧ some k_ ≠ (.slice Ao36 t134.length co36 : Value).ownBlock) ∧ some k_ ≠ (.slice Ao37 t138.length co37 : Value).ownBlock) ∧ some k_ ≠ (.slice Ao53 t148.length co53 : Value).ownBlock)) (n := t143.length) (c := co45) ?_).2.2; exact (by exact rk (Kd.R_mono (Kd.R_far (p := ⟨gb151, 1, none⟩) (Kd.R_far (p := ⟨gb151, 0, none⟩) (Kd.R_types HO145.out BK151.out (by decide)) (fun _ hk => hk.2) (.int .i64 t147)) (fun _ hk => hk.2) (.slice Ao53 t148.length co53)) (fun _ h_ => h_.1)))); (case side2 => exact (Kd.R_reads' HO145.out).2.1); (case side3 => refine (Kd.R_reads' (e := 3) (base := w.heap.size) (ok := fun k_ => (((True ∧ some k_ ≠ (.slice Ao36 t134.length co36 : Value).ownBlock) ∧ some k_ ≠ (.slice Ao37 t138.length co37 : Value).ownBlock) ∧ some k_ ≠ (.slice Ao45 t143.length co45 : Value).ownBlock)) (n := t148.length) (c := co53) ?_).2.2; exact (by exact rk (Kd.R_mono (Kd.R_far (p := ⟨gb151, 1, none⟩) (Kd.R_far (p := ⟨gb151, 0, none⟩) (Kd.R_types HO150.out BK151.out (by decide)) (fun _ hk => hk.2) (.int .i64 t147)) (fun _ hk => hk.2) (.slice Ao53 t148.length co53)) (fun _ h_ => h_.1)))); (case side4 => exact (Kd.R_reads' HO150.out).2.1); rintro e w55 ⟨rfl, hb⟩; refine ⟨_, rfl, ?_⟩; replace HO136 := Aside0.mk (Kd.R_below (by exact rk (Kd.R_mono (Kd.R_far (p := ⟨gb151, 1, none⟩) (Kd.R_far (p := ⟨gb151, 0, none⟩) (Kd.R_types HO136.out BK151.out (by decide)) (fun _ hk => hk.2) (.int .i64 t147)) (fun _ hk => hk.2) (.slice Ao53 t148.length co53)) (fun _ h_ => h_.1))) hb); replace HO140 := Aside0.mk (Kd.R_below (by exact rk (Kd.R_mono (Kd.R_far (p := ⟨gb151, 1, none⟩) (Kd.R_far (p := ⟨gb151, 0, none⟩) (Kd.R_types HO140.out BK151.out (by decide)) (fun _ hk => hk.2) (.int .i64 t147)) (fun _ hk => hk.2) (.slice Ao53 t148.length co53)) (fun _ h_ => h_.1))) hb); replace HO145 := Aside0.mk (Kd.R_below (by exact rk (Kd.R_mono (Kd.R_far (p := ⟨gb151, 1, none⟩) (Kd.R_far (p := ⟨gb151, 0, none⟩) (Kd.R_types HO145.out BK151.out (by decide)) (fun _ hk => hk.2) (.int .i64 t147)) (fun _ hk => hk.2) (.slice Ao53 t148.length co53)) (fun _ h_ => h_.1))) hb); replace HO150 := Aside0.mk (Kd.R_below (by exact rk (Kd.R_mono (Kd.R_far (p := ⟨gb151, 1, none⟩) (Kd.R_far (p := ⟨gb151, 0, none⟩) (Kd.R_types HO150.out BK151.out (by decide)) (fun _ hk => hk.2) (.int .i64 t147)) (fun _ hk => hk.2) (.slice Ao53 t148.length co53)) (fun _ h_ => h_.1))) hb); replace BK129 := Aside0.mk (bb BK129.out hb); replace BK130 := Aside0.mk (bb BK130.out hb); replace BK146 := Aside0.mk (bb BK146.out hb); replace BK151 := Aside0.mk (blk_below (g := gb151) (o := .cells #[.int .i64 t147, .slice Ao53 t148.length co53] 27 (0, 0)) (by (with_reducible repeat (first | refine blk_drewN ?_ _ | refine blk_drew ?_ | refine blk_alloc ?_ _)); refine blk_put (cs := #[.int .i64 t147, .slice none 0 0]) ?_ 1 _ rfl; (with_reducible repeat (first | refine blk_drewN ?_ _ | refine blk_drew ?_ | refine blk_alloc ?_ _)); refine blk_put (cs := #[.int .i64 0, .slice none 0 0]) ?_ 0 _ rfl; (with_reducible repeat (first | refine blk_drewN ?_ _ | refine blk_drew ?_ | refine blk_alloc ?_ _)); exact BK151.out) hb); replace HB := Aside0.mk (below_step bel hb); (try clear hb)))
        go_ret
        exact ⟨er, bel⟩
      · rw [if_neg c25] at H
        have c25b0 : (t152 != t141) = false := by simpa using c25
        (try (have c25b1 : decide (t152 = t141) = true := by simpa using c25))
        (try (have c25b2 : (t152 == t141) = true := by simpa using c25))
        clear c25
        replace H := Option.bind_eq_some_iff.mp H
        obtain ⟨⟨t153, t154⟩, A560, H⟩ := H
        replace H : ((laws_eqSent.f k t142 t143 t153 t154).bind fun t157 => (if t157 = true then ((laws_toSent.f k a1_0 l1_1).bind fun bt158 => ((laws_eqSent.f k t147 t148 bt158.1 bt158.2).bind fun t162 => (if t162 = true then (some true) else (some false)))) else (some false))) = some r := H
        have A56 := Aside0.mk A560
        clear A560
        replace H := Option.bind_eq_some_iff.mp H
        obtain ⟨t157, A570, H⟩ := H
        replace H : (if t157 = true then ((laws_toSent.f k a1_0 l1_1).bind fun bt158 => ((laws_eqSent.f k t147 t148 bt158.1 bt158.2).bind fun t162 => (if t162 = true then (some true) else (some false)))) else (some false)) = some r := H
        have A57 := Aside0.mk A570
        clear A570
        by_cases c58 : t157 = true
        · subst c58
          have H1 : ((laws_toSent.f k a1_0 l1_1).bind fun bt158 => ((laws_eqSent.f k t147 t148 bt158.1 bt158.2).bind fun t162 => (if t162 = true then (some true) else (some false)))) = some r := by rw [if_pos rfl] at H; exact H
          clear H
          have H := H1
          clear H1
          replace H := Option.bind_eq_some_iff.mp H
          obtain ⟨⟨t158, t159⟩, A590, H⟩ := H
          replace H : ((laws_eqSent.f k t147 t148 t158 t159).bind fun t162 => (if t162 = true then (some true) else (some false))) = some r := H
          have A59 := Aside0.mk A590
          clear A590
          replace H := Option.bind_eq_some_iff.mp H
          obtain ⟨t162, A600, H⟩ := H
          replace H : (if t162 = true then (some true) else (some false)) = some r := H
          have A60 := Aside0.mk A600
          clear A600
          by_cases c61 : t162 = true
          · subst c61
            have H1 : (some true) = some r := by rw [if_pos rfl] at H; exact H
            clear H
            have H := H1
            clear H1
            obtain rfl := Option.some.inj H
            go_enter Try.func3, Try.ntmps3
            try go_wp2_with (first | ((with_reducible refine gate_dst (N := 2) rfl ?_); refine box_event ?hg (N := 2) ?hd (cs := #[.int .i64 a0_0, .slice A0_1 l0_1.length c0_1]) (t := 24) ?hr ?_; (case hd => rfl); (case hg => rfl); (case hr => first | (go_simp; done) | (go_simp; rfl)); intro gb129 hg w62 hbox hb; have BK129 := Aside0.mk (hbox); have GW129 := Aside0.mk ((bsz hg : w.heap.size ≤ gb129)); have GE129 := Aside0.mk ((bsz hg : w.heap.size ≤ gb129)); replace HB := Aside0.mk (below_step bel hb); clear hb hbox hg) | ((with_reducible refine gate_dst (N := 3) rfl ?_); refine box_event ?hg (N := 3) ?hd (cs := #[.int .i64 a1_0, .slice A1_1 l1_1.length c1_1]) (t := 24) ?hr ?_; (case hd => rfl); (case hg => rfl); (case hr => first | (go_simp; done) | (go_simp; rfl)); intro gb130 hg w63 hbox hb; have BK130 := Aside0.mk (hbox); have GW130 := Aside0.mk ((bsz hg : w.heap.size ≤ gb130)); have GE130 := Aside0.mk ((bsz hg : w.heap.size ≤ gb130)); have NB129_130 := Aside0.mk ((nlt hg BK129.out : gb129 ≠ gb130)); have NB130_129 := Aside0.mk ((ngt hg BK129.out : gb130 ≠ gb129)); replace BK129 := Aside0.mk (bb BK129.out hb); replace HB := Aside0.mk (below_step bel hb); clear hb hbox hg; have hnb64 := NB129_130.out; have hnc64 := NB130_129.out; obtain ⟨hcz65_0, hcz65_1, hfz65_0, hfz65_1⟩ := cf2 BK129.out) | ((with_reducible refine gate_callee (f := 8) rfl ?_); refine goesL_ (some 12) rfl rfl Try.func8 (by kernel_rfl) rfl #[.agg #[.int .i64 a0_0, .slice A0_1 l0_1.length c0_1], .int .i64 1048576] rfl ga ?_; (with_reducible refine (laws_szSent.calls a0_0 _ _ l0_1 1048576 t131 _ ?side1 ?side2 A3.out).mono ?_); (case side1 => exact ck (Kd.C_below HR0_1.out HB.out)); (case side2 => exact HC0_1.out); rintro e w66 ⟨rfl, hb⟩; refine ⟨_, rfl, ?_⟩; replace BK129 := Aside0.mk (bb BK129.out hb); replace BK130 := Aside0.mk (bb BK130.out hb); replace HB := Aside0.mk (below_step bel hb); (try clear hb); obtain ⟨hcz67_0, hcz67_1, hfz67_0, hfz67_1⟩ := cf2 BK130.out) | ((with_reducible refine gate_callee (f := 8) rfl ?_); refine goesL_ (some 17) rfl rfl Try.func8 (by kernel_rfl) rfl #[.agg #[.int .i64 a1_0, .slice A1_1 l1_1.length c1_1], .int .i64 t131] rfl ga ?_; (with_reducible refine (laws_szSent.calls a1_0 _ _ l1_1 t131 t132 _ ?side1 ?side2 A10.out).mono ?_); (case side1 => exact ck (Kd.C_below HR1_1.out HB.out)); (case side2 => exact HC1_1.out); rintro e w68 ⟨rfl, hb⟩; refine ⟨_, rfl, ?_⟩; replace BK129 := Aside0.mk (bb BK129.out hb); replace BK130 := Aside0.mk (bb BK130.out hb); replace HB := Aside0.mk (below_step bel hb); (try clear hb)))
            replace BK129 := Aside0.mk (blk_drew BK129.out)
            replace BK130 := Aside0.mk (blk_drew BK130.out)
            replace HB := Aside0.mk (below_drew1 HB.out)
            refine start_ (n := 6) (S := fun w' => w'.cell? ⟨gb129, 0, none⟩ = some (.int .i64 a0_0) ∧ w'.cell? ⟨gb129, 1, none⟩ = some (.slice A0_1 l0_1.length c0_1) ∧ w'.cell? ⟨gb130, 0, none⟩ = some (.int .i64 a1_0) ∧ w'.cell? ⟨gb130, 1, none⟩ = some (.slice A1_1 l1_1.length c1_1)) (ds := []) #[false, false, false, false, false, false] (by kernel_rfl) rfl rfl ⟨(blk_cell BK129.out 0).trans rfl, (blk_cell BK129.out 1).trans rfl, (blk_cell BK130.out 0).trans rfl, (blk_cell BK130.out 1).trans rfl⟩ (fun hHeld => ?_)
            generalize w68.drew = w69 at BK129 BK130 HB hHeld ⊢
            refine take_ (i := 0) (N := some 20) (v := ?_) (a' := ?_) #[true, false, false, false, false, false] rfl rfl (by kernel_rfl) (fun _ _ _ h => h) (Or.inl ⟨by rfl, ?_⟩) hHeld ?_ ?_
            rotate_left
            · rintro w' ⟨s0, s1, s2, s3⟩
              go_simp
              with_reducible rfl
            rotate_left
            · simp only [Act.put, List.setIfInBounds_toArray, List.set_cons_zero, List.set_cons_succ, i64_w, i32_w]
              rfl
            refine take_ (i := 2) (N := some 22) (v := ?_) (a' := ?_) #[true, false, true, false, false, false] rfl rfl (by kernel_rfl) (fun _ _ _ h => h) (Or.inl ⟨by rfl, ?_⟩) hHeld ?_ ?_
            rotate_left
            · rintro w' ⟨s0, s1, s2, s3⟩
              go_simp
              with_reducible rfl
            rotate_left
            · simp only [Act.put, List.setIfInBounds_toArray, List.set_cons_zero, List.set_cons_succ, i64_w, i32_w]
              rfl
            refine one_ (i := 1) (N := some 21) #[true, true, true, false, false, false] rfl rfl (by kernel_rfl) (by decide) (fun K hK => ?_)
            refine goes_ Try.func10 (by kernel_rfl) rfl #[.agg #[.int .i64 a0_0, .slice A0_1 l0_1.length c0_1]] (by rfl) rfl rfl ga ?_
            with_reducible refine (laws_toSent.calls k a0_0 _ _ l0_1 t133 t134 _ ?side1 ?side2 A19.out).mono ?_
            (case side1 => exact ck (Kd.C_below HR0_1.out HB.out))
            (case side2 => exact HC0_1.out)
            rintro e w70 ⟨v135, rfl, ho0, hb⟩
            refine ⟨_, rfl, ?_⟩
            have HO136 := Aside0.mk (Kd.R_lower ho0 (below_size bel))
            replace BK129 := Aside0.mk (bb BK129.out hb)
            replace BK130 := Aside0.mk (bb BK130.out hb)
            replace HB := Aside0.mk (below_step bel hb)
            (try clear hb)
            (try clear hb2)
            (try clear hk)
            (try clear hi)
            (try clear ho0)
            refine hK.out _ _ ⟨(blk_cell BK129.out 0).trans rfl, (blk_cell BK129.out 1).trans rfl, (blk_cell BK130.out 0).trans rfl, (blk_cell BK130.out 1).trans rfl⟩ (fun hHeld => ?_)
            clear hK K
            refine norm_ (a' := ?_) ?_ ?_
            rotate_left
            · show Act.put _ (some 21) _ = _
              simp only [Act.put, List.setIfInBounds_toArray, List.set_cons_zero, List.set_cons_succ, i64_w, i32_w]
              rfl
            refine one_ (i := 3) (N := some 23) #[true, true, true, true, false, false] rfl rfl (by kernel_rfl) (by decide) (fun K hK => ?_)
            refine goes_ Try.func10 (by kernel_rfl) rfl #[.agg #[.int .i64 a1_0, .slice A1_1 l1_1.length c1_1]] (by rfl) rfl rfl ga ?_
            with_reducible refine (laws_toSent.calls k a1_0 _ _ l1_1 t137 t138 _ ?side1 ?side2 A20.out).mono ?_
            (case side1 => exact ck (Kd.C_below HR1_1.out HB.out))
            (case side2 => exact HC1_1.out)
            rintro e w71 ⟨v139, rfl, ho0, hb⟩
            refine ⟨_, rfl, ?_⟩
            have HO140 := Aside0.mk (Kd.R_lower (Kd.R_new' ho0 (Kd.R_lt (rk HO136.out))) (below_size bel))
            replace HO136 := Aside0.mk (Kd.R_elder' (rk HO136.out) (Kd.R_base ho0) hb)
            replace BK129 := Aside0.mk (bb BK129.out hb)
            replace BK130 := Aside0.mk (bb BK130.out hb)
            replace HB := Aside0.mk (below_step bel hb)
            (try clear hb)
            (try clear hb2)
            (try clear hk)
            (try clear hi)
            (try clear ho0)
            obtain ⟨Ao72, co72, eo72⟩ := Kd.R_slice HO136.out
            (first | subst eo72 | (injection eo72 with f1_ f2_ f3_; have f4_ := f1_.symm; have f5_ := f3_.symm; clear f1_ f2_ f3_; subst f4_; subst f5_))
            obtain ⟨Ao73, co73, eo73⟩ := Kd.R_slice HO140.out
            (first | subst eo73 | (injection eo73 with f1_ f2_ f3_; have f4_ := f1_.symm; have f5_ := f3_.symm; clear f1_ f2_ f3_; subst f4_; subst f5_))
            refine hK.out _ _ ⟨(blk_cell BK129.out 0).trans rfl, (blk_cell BK129.out 1).trans rfl, (blk_cell BK130.out 0).trans rfl, (blk_cell BK130.out 1).trans rfl⟩ (fun hHeld => ?_)
            clear hK K
            refine norm_ (a' := ?_) ?_ ?_
            rotate_left
            · show Act.put _ (some 23) _ = _
              simp only [Act.put, List.setIfInBounds_toArray, List.set_cons_zero, List.set_cons_succ, i64_w, i32_w]
              rfl
            refine one_ (i := 4) (N := some 24) #[true, true, true, true, true, false] rfl rfl (by kernel_rfl) (by decide) (fun K hK => ?_)
            refine goes_ Try.func9 (by kernel_rfl) rfl #[.agg #[.int .i64 t133, .slice Ao72 t134.length co72], .agg #[.int .i64 t137, .slice Ao73 t138.length co73]] (by rfl) rfl rfl ga ?_
            with_reducible refine (spec_SameSent.calls k t133 _ _ t134 t137 _ _ t138 t141 _ ?side1 ?side2 ?side3 ?side4 A21.out).mono ?_
            (case side1 => exact ck (Kd.R_reads' HO136.out).2.2)
            (case side2 => exact (Kd.R_reads' HO136.out).2.1)
            (case side3 => exact ck (Kd.R_reads' HO140.out).2.2)
            (case side4 => exact (Kd.R_reads' HO140.out).2.1)
            rintro e w74 ⟨rfl, hb⟩
            refine ⟨_, rfl, ?_⟩
            replace HO136 := Aside0.mk (Kd.R_below (rk HO136.out) hb)
            replace HO140 := Aside0.mk (Kd.R_below (rk HO140.out) hb)
            replace BK129 := Aside0.mk (bb BK129.out hb)
            replace BK130 := Aside0.mk (bb BK130.out hb)
            replace HB := Aside0.mk (below_step bel hb)
            (try clear hb)
            (try clear hb2)
            (try clear hk)
            (try clear hi)
            refine hK.out _ _ ⟨(blk_cell BK129.out 0).trans rfl, (blk_cell BK129.out 1).trans rfl, (blk_cell BK130.out 0).trans rfl, (blk_cell BK130.out 1).trans rfl⟩ (fun hHeld => ?_)
            clear hK K
            refine norm_ (a' := ?_) ?_ ?_
            rotate_left
            · show Act.put _ (some 24) _ = _
              simp only [Act.put, List.setIfInBounds_toArray, List.set_cons_zero, List.set_cons_succ, i64_w, i32_w]
              rfl
            refine pure_ (i := 5) (N := some 6) (v := ?_) (a' := ?_) #[true, true, true, true, true, true] rfl rfl (by kernel_rfl) (fun _ _ _ h => h) (Or.inl ⟨by rfl, ?_⟩) ?_ ?_
            rotate_left
            · intro w'
              go_simp
              with_reducible rfl
            rotate_left
            · simp only [Act.put, List.setIfInBounds_toArray, List.set_cons_zero, List.set_cons_succ, i64_w, i32_w]
              rfl
            refine done_ (by kernel_rfl) ?_
            obtain ⟨hcz75_0, hcz75_1, hfz75_0, hfz75_1⟩ := cf2 BK129.out
            try go_wp2_with (first | ((with_reducible refine gate_callee (f := 10) rfl ?_); refine goesL_ (some 26) rfl rfl Try.func10 (by kernel_rfl) rfl #[.agg #[.int .i64 a0_0, .slice A0_1 l0_1.length c0_1]] rfl ga ?_; (with_reducible refine (laws_toSent.calls k a0_0 _ _ l0_1 t142 t143 _ ?side1 ?side2 A22.out).mono ?_); (case side1 => exact ck (Kd.C_below HR0_1.out HB.out)); (case side2 => exact HC0_1.out); rintro e w76 ⟨v144, rfl, ho0, hb⟩; refine ⟨_, rfl, ?_⟩; have HO145 := Aside0.mk (Kd.R_lower (Kd.R_new' (Kd.R_new' ho0 (Kd.R_lt (rk HO136.out))) (Kd.R_lt (rk HO140.out))) (below_size bel)); replace HO136 := Aside0.mk (Kd.R_elder' (rk HO136.out) (Kd.R_base ho0) hb); replace HO140 := Aside0.mk (Kd.R_elder' (rk HO140.out) (Kd.R_base ho0) hb); replace BK129 := Aside0.mk (bb BK129.out hb); replace BK130 := Aside0.mk (bb BK130.out hb); replace HB := Aside0.mk (below_step bel hb); (try clear hb); (try clear ho0)) | ((with_reducible refine gate_dst (N := 7) rfl ?_); refine box_event ?hg (N := 7) ?hd (cs := #[.int .i64 0, .slice none 0 0]) (t := 27) ?hr ?_; (case hd => rfl); (case hg => rfl); (case hr => first | (go_simp; done) | (go_simp; rfl)); intro gb146 hg w77 hbox hb; have BK146 := Aside0.mk (hbox); have GW146 := Aside0.mk ((bsz hg : w.heap.size ≤ gb146)); have GE146 := Aside0.mk ((bsz hg : w.heap.size ≤ gb146)); have NB129_146 := Aside0.mk ((nlt hg BK129.out : gb129 ≠ gb146)); have NB146_129 := Aside0.mk ((ngt hg BK129.out : gb146 ≠ gb129)); have NB130_146 := Aside0.mk ((nlt hg BK130.out : gb130 ≠ gb146)); have NB146_130 := Aside0.mk ((ngt hg BK130.out : gb146 ≠ gb130)); replace HO136 := Aside0.mk (Kd.R_below (rk HO136.out) hb); replace HO140 := Aside0.mk (Kd.R_below (rk HO140.out) hb); replace HO145 := Aside0.mk (Kd.R_below (rk HO145.out) hb); replace BK129 := Aside0.mk (bb BK129.out hb); replace BK130 := Aside0.mk (bb BK130.out hb); replace HB := Aside0.mk (below_step bel hb); clear hb hbox hg; have hnb78 := NB146_129.out; have hnc78 := NB129_146.out; have hnb79 := NB146_130.out; have hnc79 := NB130_146.out; obtain ⟨hcz80_0, hcz80_1, hfz80_0, hfz80_1⟩ := cf2 BK146.out; obtain ⟨Ao81, co81, eo81⟩ := Kd.R_slice HO145.out; subst eo81; obtain ⟨hcz82_0, hcz82_1, hfz82_0, hfz82_1⟩ := cf2 BK130.out) | ((with_reducible refine gate_callee (f := 10) rfl ?_); refine goesL_ (some 28) rfl rfl Try.func10 (by kernel_rfl) rfl #[.agg #[.int .i64 a1_0, .slice A1_1 l1_1.length c1_1]] rfl ga ?_; (with_reducible refine (laws_toSent.calls k a1_0 _ _ l1_1 t147 t148 _ ?side1 ?side2 A23.out).mono ?_); (case side1 => exact Kd.C_below HR1_1.out bel); (case side2 => exact HC1_1.out); rintro e w83 ⟨v149, rfl, ho0, hb⟩; refine ⟨_, rfl, ?_⟩; have HO150 := Aside0.mk (Kd.R_lower (Kd.R_new' (Kd.R_new' (Kd.R_new' ho0 (Kd.R_lt (by exact rk (Kd.R_mono (Kd.R_far (p := ⟨gb146, 1, none⟩) (Kd.R_far (p := ⟨gb146, 0, none⟩) (Kd.R_types HO136.out BK146.out (by decide)) (fun _ hk => hk.2) (.int .i64 t142)) (fun _ hk => hk.2) (.slice Ao81 t143.length co81)) (fun _ h_ => h_.1))))) (Kd.R_lt (by exact rk (Kd.R_mono (Kd.R_far (p := ⟨gb146, 1, none⟩) (Kd.R_far (p := ⟨gb146, 0, none⟩) (Kd.R_types HO140.out BK146.out (by decide)) (fun _ hk => hk.2) (.int .i64 t142)) (fun _ hk => hk.2) (.slice Ao81 t143.length co81)) (fun _ h_ => h_.1))))) (Kd.R_lt (by exact rk (Kd.R_mono (Kd.R_far (p := ⟨gb146, 1, none⟩) (Kd.R_far (p := ⟨gb146, 0, none⟩) (Kd.R_types HO145.out BK146.out (by decide)) (fun _ hk => hk.2) (.int .i64 t142)) (fun _ hk => hk.2) (.slice Ao81 t143.length co81)) (fun _ h_ => h_.1))))) (below_size bel)); replace HO136 := Aside0.mk (Kd.R_elder' (by exact rk (Kd.R_mono (Kd.R_far (p := ⟨gb146, 1, none⟩) (Kd.R_far (p := ⟨gb146, 0, none⟩) (Kd.R_types HO136.out BK146.out (by decide)) (fun _ hk => hk.2) (.int .i64 t142)) (fun _ hk => hk.2) (.slice Ao81 t143.length co81)) (fun _ h_ => h_.1))) (Kd.R_base ho0) hb); replace HO140 := Aside0.mk (Kd.R_elder' (by exact rk (Kd.R_mono (Kd.R_far (p := ⟨gb146, 1, none⟩) (Kd.R_far (p := ⟨gb146, 0, none⟩) (Kd.R_types HO140.out BK146.out (by decide)) (fun _ hk => hk.2) (.int .i64 t142)) (fun _ hk => hk.2) (.slice Ao81 t143.length co81)) (fun _ h_ => h_.1))) (Kd.R_base ho0) hb); replace HO145 := Aside0.mk (Kd.R_elder' (by exact rk (Kd.R_mono (Kd.R_far (p := ⟨gb146, 1, none⟩) (Kd.R_far (p := ⟨gb146, 0, none⟩) (Kd.R_types HO145.out BK146.out (by decide)) (fun _ hk => hk.2) (.int .i64 t142)) (fun _ hk => hk.2) (.slice Ao81 t143.length co81)) (fun _ h_ => h_.1))) (Kd.R_base ho0) hb); replace BK129 := Aside0.mk (bb BK129.out hb); replace BK130 := Aside0.mk (bb BK130.out hb); replace BK146 := Aside0.mk (blk_below (g := gb146) (o := .cells #[.int .i64 t142, .slice Ao81 t143.length co81] 27 (0, 0)) (by (with_reducible repeat (first | refine blk_drewN ?_ _ | refine blk_drew ?_ | refine blk_alloc ?_ _)); refine blk_put (cs := #[.int .i64 t142, .slice none 0 0]) ?_ 1 _ rfl; (with_reducible repeat (first | refine blk_drewN ?_ _ | refine blk_drew ?_ | refine blk_alloc ?_ _)); refine blk_put (cs := #[.int .i64 0, .slice none 0 0]) ?_ 0 _ rfl; (with_reducible repeat (first | refine blk_drewN ?_ _ | refine blk_drew ?_ | refine blk_alloc ?_ _)); exact BK146.out) hb); replace HB := Aside0.mk (below_step bel hb); (try clear hb); (try clear ho0)) | ((with_reducible refine gate_dst (N := 8) rfl ?_); refine box_event ?hg (N := 8) ?hd (cs := #[.int .i64 0, .slice none 0 0]) (t := 27) ?hr ?_; (case hd => rfl); (case hg => rfl); (case hr => first | (go_simp; done) | (go_simp; rfl)); intro gb151 hg w84 hbox hb; have BK151 := Aside0.mk (hbox); have GW151 := Aside0.mk ((bsz hg : w.heap.size ≤ gb151)); have GE151 := Aside0.mk ((bsz hg : w.heap.size ≤ gb151)); have NB129_151 := Aside0.mk ((nlt hg BK129.out : gb129 ≠ gb151)); have NB151_129 := Aside0.mk ((ngt hg BK129.out : gb151 ≠ gb129)); have NB130_151 := Aside0.mk ((nlt hg BK130.out : gb130 ≠ gb151)); have NB151_130 := Aside0.mk ((ngt hg BK130.out : gb151 ≠ gb130)); have NB146_151 := Aside0.mk ((nlt hg BK146.out : gb146 ≠ gb151)); have NB151_146 := Aside0.mk ((ngt hg BK146.out : gb151 ≠ gb146)); replace HO136 := Aside0.mk (Kd.R_below (rk HO136.out) hb); replace HO140 := Aside0.mk (Kd.R_below (rk HO140.out) hb); replace HO145 := Aside0.mk (Kd.R_below (rk HO145.out) hb); replace HO150 := Aside0.mk (Kd.R_below (rk HO150.out) hb); replace BK129 := Aside0.mk (bb BK129.out hb); replace BK130 := Aside0.mk (bb BK130.out hb); replace BK146 := Aside0.mk (bb BK146.out hb); replace HB := Aside0.mk (below_step bel hb); clear hb hbox hg; have hnb85 := NB151_129.out; have hnc85 := NB129_151.out; have hnb86 := NB151_130.out; have hnc86 := NB130_151.out; have hnb87 := NB151_146.out; have hnc87 := NB146_151.out; obtain ⟨hcz88_0, hcz88_1, hfz88_0, hfz88_1⟩ := cf2 BK151.out; obtain ⟨Ao89, co89, eo89⟩ := Kd.R_slice HO150.out; subst eo89; obtain ⟨hcz90_0, hcz90_1, hfz90_0, hfz90_1⟩ := cf2 BK146.out) | ((with_reducible refine gate_callee (f := 11) rfl ?_); refine goesL_ (some 31) rfl rfl Try.func11 (by kernel_rfl) rfl #[.agg #[.int .i64 t142, .slice Ao81 t143.length co81], .agg #[.int .i64 t147, .slice Ao89 t148.length co89]] rfl ga ?_; (with_reducible refine (impl_SameSent.calls k t142 _ _ t143 t147 _ _ t148 t152 _ ?side1 ?side2 ?side3 ?side4 A24.out).mono ?_); (case side1 => refine (Kd.R_reads' (e := 3) (base := w.heap.size) (ok := fun k_ => (((True ∧ some k_ ≠ (.slice Ao72 t134.length co72 : Value).ownBlock) ∧ some k_ ≠ (.slice Ao73 t138.length co73 : Value).ownBlock) ∧ some k_ ≠ (.slice Ao89 t148.length co89 : Value).ownBlock)) (n := t143.length) (c := co81) ?_).2.2; exact (by exact rk (Kd.R_mono (Kd.R_far (p := ⟨gb151, 1, none⟩) (Kd.R_far (p := ⟨gb151, 0, none⟩) (Kd.R_types HO145.out BK151.out (by decide)) (fun _ hk => hk.2) (.int .i64 t147)) (fun _ hk => hk.2) (.slice Ao89 t148.length co89)) (fun _ h_ => h_.1)))); (case side2 => exact (Kd.R_reads' HO145.out).2.1); (case side3 => refine (Kd.R_reads' (e := 3) (base := w.heap.size) (ok := fun k_ => (((True ∧ some k_ ≠ (.slice Ao72 t134.length co72 : Value).ownBlock) ∧ some k_ ≠ (.slice Ao73 t138.length co73 : Value).ownBlock) ∧ some k_ ≠ (.slice Ao81 t143.length co81 : Value).ownBlock)) (n := t148.length) (c := co89) ?_).2.2; exact (by exact rk (Kd.R_mono (Kd.R_far (p := ⟨gb151, 1, none⟩) (Kd.R_far (p := ⟨gb151, 0, none⟩) (Kd.R_types HO150.out BK151.out (by decide)) (fun _ hk => hk.2) (.int .i64 t147)) (fun _ hk => hk.2) (.slice Ao89 t148.length co89)) (fun _ h_ => h_.1)))); (case side4 => exact (Kd.R_reads' HO150.out).2.1); rintro e w91 ⟨rfl, hb⟩; refine ⟨_, rfl, ?_⟩; replace HO136 := Aside0.mk (Kd.R_below (by exact rk (Kd.R_mono (Kd.R_far (p := ⟨gb151, 1, none⟩) (Kd.R_far (p := ⟨gb151, 0, none⟩) (Kd.R_types HO136.out BK151.out (by decide)) (fun _ hk => hk.2) (.int .i64 t147)) (fun _ hk => hk.2) (.slice Ao89 t148.length co89)) (fun _ h_ => h_.1))) hb); replace HO140 := Aside0.mk (Kd.R_below (by exact rk (Kd.R_mono (Kd.R_far (p := ⟨gb151, 1, none⟩) (Kd.R_far (p := ⟨gb151, 0, none⟩) (Kd.R_types HO140.out BK151.out (by decide)) (fun _ hk => hk.2) (.int .i64 t147)) (fun _ hk => hk.2) (.slice Ao89 t148.length co89)) (fun _ h_ => h_.1))) hb); replace HO145 := Aside0.mk (Kd.R_below (by exact rk (Kd.R_mono (Kd.R_far (p := ⟨gb151, 1, none⟩) (Kd.R_far (p := ⟨gb151, 0, none⟩) (Kd.R_types HO145.out BK151.out (by decide)) (fun _ hk => hk.2) (.int .i64 t147)) (fun _ hk => hk.2) (.slice Ao89 t148.length co89)) (fun _ h_ => h_.1))) hb); replace HO150 := Aside0.mk (Kd.R_below (by exact rk (Kd.R_mono (Kd.R_far (p := ⟨gb151, 1, none⟩) (Kd.R_far (p := ⟨gb151, 0, none⟩) (Kd.R_types HO150.out BK151.out (by decide)) (fun _ hk => hk.2) (.int .i64 t147)) (fun _ hk => hk.2) (.slice Ao89 t148.length co89)) (fun _ h_ => h_.1))) hb); replace BK129 := Aside0.mk (bb BK129.out hb); replace BK130 := Aside0.mk (bb BK130.out hb); replace BK146 := Aside0.mk (bb BK146.out hb); replace BK151 := Aside0.mk (blk_below (g := gb151) (o := .cells #[.int .i64 t147, .slice Ao89 t148.length co89] 27 (0, 0)) (by (with_reducible repeat (first | refine blk_drewN ?_ _ | refine blk_drew ?_ | refine blk_alloc ?_ _)); refine blk_put (cs := #[.int .i64 t147, .slice none 0 0]) ?_ 1 _ rfl; (with_reducible repeat (first | refine blk_drewN ?_ _ | refine blk_drew ?_ | refine blk_alloc ?_ _)); refine blk_put (cs := #[.int .i64 0, .slice none 0 0]) ?_ 0 _ rfl; (with_reducible repeat (first | refine blk_drewN ?_ _ | refine blk_drew ?_ | refine blk_alloc ?_ _)); exact BK151.out) hb); replace HB := Aside0.mk (below_step bel hb); (try clear hb)))
            replace HO136 := Aside0.mk (Kd.R_drew HO136.out)
            replace HO140 := Aside0.mk (Kd.R_drew HO140.out)
            replace HO145 := Aside0.mk (Kd.R_drew HO145.out)
            replace HO150 := Aside0.mk (Kd.R_drew HO150.out)
            replace BK129 := Aside0.mk (blk_drew BK129.out)
            replace BK130 := Aside0.mk (blk_drew BK130.out)
            replace BK146 := Aside0.mk (blk_drew BK146.out)
            replace BK151 := Aside0.mk (blk_drew BK151.out)
            replace HB := Aside0.mk (below_drew1 HB.out)
            refine start_ (n := 5) (S := fun w' => w'.cell? ⟨gb146, 0, none⟩ = some (.int .i64 t142) ∧ w'.cell? ⟨gb146, 1, none⟩ = some (.slice Ao81 t143.length co81) ∧ w'.cell? ⟨gb129, 0, none⟩ = some (.int .i64 a0_0) ∧ w'.cell? ⟨gb129, 1, none⟩ = some (.slice A0_1 l0_1.length c0_1)) (ds := []) #[false, false, false, false, false] (by kernel_rfl) rfl rfl ⟨(blk_cell BK146.out 0).trans rfl, (blk_cell BK146.out 1).trans rfl, (blk_cell BK129.out 0).trans rfl, (blk_cell BK129.out 1).trans rfl⟩ (fun hHeld => ?_)
            generalize w91.drew = w92 at HO136 HO140 HO145 HO150 BK129 BK130 BK146 BK151 HB hHeld ⊢
            refine take_ (i := 0) (N := some 35) (v := ?_) (a' := ?_) #[true, false, false, false, false] rfl rfl (by kernel_rfl) (fun _ _ _ h => h) (Or.inl ⟨by rfl, ?_⟩) hHeld ?_ ?_
            rotate_left
            · rintro w' ⟨s0, s1, s2, s3⟩
              go_simp
              with_reducible rfl
            rotate_left
            · simp only [Act.put, List.setIfInBounds_toArray, List.set_cons_zero, List.set_cons_succ, i64_w, i32_w]
              rfl
            refine take_ (i := 1) (N := some 36) (v := ?_) (a' := ?_) #[true, true, false, false, false] rfl rfl (by kernel_rfl) (fun _ _ _ h => h) (Or.inl ⟨by rfl, ?_⟩) hHeld ?_ ?_
            rotate_left
            · rintro w' ⟨s0, s1, s2, s3⟩
              go_simp
              with_reducible rfl
            rotate_left
            · simp only [Act.put, List.setIfInBounds_toArray, List.set_cons_zero, List.set_cons_succ, i64_w, i32_w]
              rfl
            refine one_ (i := 2) (N := some 37) #[true, true, true, false, false] rfl rfl (by kernel_rfl) (by decide) (fun K hK => ?_)
            refine goes_ Try.func10 (by kernel_rfl) rfl #[.agg #[.int .i64 a0_0, .slice A0_1 l0_1.length c0_1]] (by rfl) rfl rfl ga ?_
            with_reducible refine (laws_toSent.calls k a0_0 _ _ l0_1 t153 t154 _ ?side1 ?side2 A56.out).mono ?_
            (case side1 => exact ck (Kd.C_below HR0_1.out HB.out))
            (case side2 => exact HC0_1.out)
            rintro e w93 ⟨v155, rfl, ho0, hb⟩
            refine ⟨_, rfl, ?_⟩
            have HO156 := Aside0.mk (Kd.R_lower (Kd.R_new' (Kd.R_new' (Kd.R_new' (Kd.R_new' ho0 (Kd.R_lt (rk HO136.out))) (Kd.R_lt (rk HO140.out))) (Kd.R_lt (rk HO145.out))) (Kd.R_lt (rk HO150.out))) (below_size bel))
            replace HO136 := Aside0.mk (Kd.R_elder' (rk HO136.out) (Kd.R_base ho0) hb)
            replace HO140 := Aside0.mk (Kd.R_elder' (rk HO140.out) (Kd.R_base ho0) hb)
            replace HO145 := Aside0.mk (Kd.R_elder' (rk HO145.out) (Kd.R_base ho0) hb)
            replace HO150 := Aside0.mk (Kd.R_elder' (rk HO150.out) (Kd.R_base ho0) hb)
            replace BK129 := Aside0.mk (bb BK129.out hb)
            replace BK130 := Aside0.mk (bb BK130.out hb)
            replace BK146 := Aside0.mk (bb BK146.out hb)
            replace BK151 := Aside0.mk (bb BK151.out hb)
            replace HB := Aside0.mk (below_step bel hb)
            (try clear hb)
            (try clear hb2)
            (try clear hk)
            (try clear hi)
            (try clear ho0)
            obtain ⟨Ao94, co94, eo94⟩ := Kd.R_slice HO156.out
            (first | subst eo94 | (injection eo94 with f1_ f2_ f3_; have f4_ := f1_.symm; have f5_ := f3_.symm; clear f1_ f2_ f3_; subst f4_; subst f5_))
            refine hK.out _ _ ⟨(blk_cell BK146.out 0).trans rfl, (blk_cell BK146.out 1).trans rfl, (blk_cell BK129.out 0).trans rfl, (blk_cell BK129.out 1).trans rfl⟩ (fun hHeld => ?_)
            clear hK K
            refine norm_ (a' := ?_) ?_ ?_
            rotate_left
            · show Act.put _ (some 37) _ = _
              simp only [Act.put, List.setIfInBounds_toArray, List.set_cons_zero, List.set_cons_succ, i64_w, i32_w]
              rfl
            refine one_ (i := 3) (N := some 38) #[true, true, true, true, false] rfl rfl (by kernel_rfl) (by decide) (fun K hK => ?_)
            refine goes_ Try.func12 (by kernel_rfl) rfl #[.agg #[.int .i64 t142, .slice Ao81 t143.length co81], .agg #[.int .i64 t153, .slice Ao94 t154.length co94]] (by rfl) rfl rfl ga ?_
            with_reducible refine (laws_eqSent.calls k t142 _ _ t143 t153 _ _ t154 true _ ?side1 ?side2 ?side3 ?side4 A57.out).mono ?_
            (case side1 => exact ck (Kd.R_reads' HO145.out).2.2)
            (case side2 => exact (Kd.R_reads' HO145.out).2.1)
            (case side3 => exact ck (Kd.R_reads' HO156.out).2.2)
            (case side4 => exact (Kd.R_reads' HO156.out).2.1)
            rintro e w95 ⟨rfl, hb⟩
            refine ⟨_, rfl, ?_⟩
            replace HO136 := Aside0.mk (Kd.R_below (rk HO136.out) hb)
            replace HO140 := Aside0.mk (Kd.R_below (rk HO140.out) hb)
            replace HO145 := Aside0.mk (Kd.R_below (rk HO145.out) hb)
            replace HO150 := Aside0.mk (Kd.R_below (rk HO150.out) hb)
            replace HO156 := Aside0.mk (Kd.R_below (rk HO156.out) hb)
            replace BK129 := Aside0.mk (bb BK129.out hb)
            replace BK130 := Aside0.mk (bb BK130.out hb)
            replace BK146 := Aside0.mk (bb BK146.out hb)
            replace BK151 := Aside0.mk (bb BK151.out hb)
            replace HB := Aside0.mk (below_step bel hb)
            (try clear hb)
            (try clear hb2)
            (try clear hk)
            (try clear hi)
            refine hK.out _ _ ⟨(blk_cell BK146.out 0).trans rfl, (blk_cell BK146.out 1).trans rfl, (blk_cell BK129.out 0).trans rfl, (blk_cell BK129.out 1).trans rfl⟩ (fun hHeld => ?_)
            clear hK K
            refine norm_ (a' := ?_) ?_ ?_
            rotate_left
            · show Act.put _ (some 38) _ = _
              simp only [Act.put, List.setIfInBounds_toArray, List.set_cons_zero, List.set_cons_succ, i64_w, i32_w]
              rfl
            refine pure_ (i := 4) (N := some 39) (v := ?_) (a' := ?_) #[true, true, true, true, true] rfl rfl (by kernel_rfl) (fun _ _ _ h => h) (Or.inl ⟨by rfl, ?_⟩) ?_ ?_
            rotate_left
            · intro w'
              go_simp
              with_reducible rfl
            rotate_left
            · simp only [Act.put, List.setIfInBounds_toArray, List.set_cons_zero, List.set_cons_succ, i64_w, i32_w]
              rfl
            refine done_ (by kernel_rfl) ?_
            try go_wp2
            replace HO136 := Aside0.mk (Kd.R_drew HO136.out)
            replace HO140 := Aside0.mk (Kd.R_drew HO140.out)
            replace HO145 := Aside0.mk (Kd.R_drew HO145.out)
            replace HO150 := Aside0.mk (Kd.R_drew HO150.out)
            replace HO156 := Aside0.mk (Kd.R_drew HO156.out)
            replace BK129 := Aside0.mk (blk_drew BK129.out)
            replace BK130 := Aside0.mk (blk_drew BK130.out)
            replace BK146 := Aside0.mk (blk_drew BK146.out)
            replace BK151 := Aside0.mk (blk_drew BK151.out)
            replace HB := Aside0.mk (below_drew1 HB.out)
            refine start_ (n := 5) (S := fun w' => w'.cell? ⟨gb151, 0, none⟩ = some (.int .i64 t147) ∧ w'.cell? ⟨gb151, 1, none⟩ = some (.slice Ao89 t148.length co89) ∧ w'.cell? ⟨gb130, 0, none⟩ = some (.int .i64 a1_0) ∧ w'.cell? ⟨gb130, 1, none⟩ = some (.slice A1_1 l1_1.length c1_1)) (ds := []) #[false, false, false, false, false] (by kernel_rfl) rfl rfl ⟨(blk_cell BK151.out 0).trans rfl, (blk_cell BK151.out 1).trans rfl, (blk_cell BK130.out 0).trans rfl, (blk_cell BK130.out 1).trans rfl⟩ (fun hHeld => ?_)
            generalize w95.drew = w96 at HO136 HO140 HO145 HO150 HO156 BK129 BK130 BK146 BK151 HB hHeld ⊢
            refine take_ (i := 0) (N := some 40) (v := ?_) (a' := ?_) #[true, false, false, false, false] rfl rfl (by kernel_rfl) (fun _ _ _ h => h) (Or.inl ⟨by rfl, ?_⟩) hHeld ?_ ?_
            rotate_left
            · rintro w' ⟨s0, s1, s2, s3⟩
              go_simp
              with_reducible rfl
            rotate_left
            · simp only [Act.put, List.setIfInBounds_toArray, List.set_cons_zero, List.set_cons_succ, i64_w, i32_w]
              rfl
            refine take_ (i := 1) (N := some 41) (v := ?_) (a' := ?_) #[true, true, false, false, false] rfl rfl (by kernel_rfl) (fun _ _ _ h => h) (Or.inl ⟨by rfl, ?_⟩) hHeld ?_ ?_
            rotate_left
            · rintro w' ⟨s0, s1, s2, s3⟩
              go_simp
              with_reducible rfl
            rotate_left
            · simp only [Act.put, List.setIfInBounds_toArray, List.set_cons_zero, List.set_cons_succ, i64_w, i32_w]
              rfl
            refine one_ (i := 2) (N := some 42) #[true, true, true, false, false] rfl rfl (by kernel_rfl) (by decide) (fun K hK => ?_)
            refine goes_ Try.func10 (by kernel_rfl) rfl #[.agg #[.int .i64 a1_0, .slice A1_1 l1_1.length c1_1]] (by rfl) rfl rfl ga ?_
            with_reducible refine (laws_toSent.calls k a1_0 _ _ l1_1 t158 t159 _ ?side1 ?side2 A59.out).mono ?_
            (case side1 => exact ck (Kd.C_below HR1_1.out HB.out))
            (case side2 => exact HC1_1.out)
            rintro e w97 ⟨v160, rfl, ho0, hb⟩
            refine ⟨_, rfl, ?_⟩
            have HO161 := Aside0.mk (Kd.R_lower (Kd.R_new' (Kd.R_new' (Kd.R_new' (Kd.R_new' (Kd.R_new' ho0 (Kd.R_lt (rk HO136.out))) (Kd.R_lt (rk HO140.out))) (Kd.R_lt (rk HO145.out))) (Kd.R_lt (rk HO150.out))) (Kd.R_lt (rk HO156.out))) (below_size bel))
            replace HO136 := Aside0.mk (Kd.R_elder' (rk HO136.out) (Kd.R_base ho0) hb)
            replace HO140 := Aside0.mk (Kd.R_elder' (rk HO140.out) (Kd.R_base ho0) hb)
            replace HO145 := Aside0.mk (Kd.R_elder' (rk HO145.out) (Kd.R_base ho0) hb)
            replace HO150 := Aside0.mk (Kd.R_elder' (rk HO150.out) (Kd.R_base ho0) hb)
            replace HO156 := Aside0.mk (Kd.R_elder' (rk HO156.out) (Kd.R_base ho0) hb)
            replace BK129 := Aside0.mk (bb BK129.out hb)
            replace BK130 := Aside0.mk (bb BK130.out hb)
            replace BK146 := Aside0.mk (bb BK146.out hb)
            replace BK151 := Aside0.mk (bb BK151.out hb)
            replace HB := Aside0.mk (below_step bel hb)
            (try clear hb)
            (try clear hb2)
            (try clear hk)
            (try clear hi)
            (try clear ho0)
            obtain ⟨Ao98, co98, eo98⟩ := Kd.R_slice HO161.out
            (first | subst eo98 | (injection eo98 with f1_ f2_ f3_; have f4_ := f1_.symm; have f5_ := f3_.symm; clear f1_ f2_ f3_; subst f4_; subst f5_))
            refine hK.out _ _ ⟨(blk_cell BK151.out 0).trans rfl, (blk_cell BK151.out 1).trans rfl, (blk_cell BK130.out 0).trans rfl, (blk_cell BK130.out 1).trans rfl⟩ (fun hHeld => ?_)
            clear hK K
            refine norm_ (a' := ?_) ?_ ?_
            rotate_left
            · show Act.put _ (some 42) _ = _
              simp only [Act.put, List.setIfInBounds_toArray, List.set_cons_zero, List.set_cons_succ, i64_w, i32_w]
              rfl
            refine one_ (i := 3) (N := some 43) #[true, true, true, true, false] rfl rfl (by kernel_rfl) (by decide) (fun K hK => ?_)
            refine goes_ Try.func12 (by kernel_rfl) rfl #[.agg #[.int .i64 t147, .slice Ao89 t148.length co89], .agg #[.int .i64 t158, .slice Ao98 t159.length co98]] (by rfl) rfl rfl ga ?_
            with_reducible refine (laws_eqSent.calls k t147 _ _ t148 t158 _ _ t159 true _ ?side1 ?side2 ?side3 ?side4 A60.out).mono ?_
            (case side1 => exact ck (Kd.R_reads' HO150.out).2.2)
            (case side2 => exact (Kd.R_reads' HO150.out).2.1)
            (case side3 => exact ck (Kd.R_reads' HO161.out).2.2)
            (case side4 => exact (Kd.R_reads' HO161.out).2.1)
            rintro e w99 ⟨rfl, hb⟩
            refine ⟨_, rfl, ?_⟩
            replace HO136 := Aside0.mk (Kd.R_below (rk HO136.out) hb)
            replace HO140 := Aside0.mk (Kd.R_below (rk HO140.out) hb)
            replace HO145 := Aside0.mk (Kd.R_below (rk HO145.out) hb)
            replace HO150 := Aside0.mk (Kd.R_below (rk HO150.out) hb)
            replace HO156 := Aside0.mk (Kd.R_below (rk HO156.out) hb)
            replace HO161 := Aside0.mk (Kd.R_below (rk HO161.out) hb)
            replace BK129 := Aside0.mk (bb BK129.out hb)
            replace BK130 := Aside0.mk (bb BK130.out hb)
            replace BK146 := Aside0.mk (bb BK146.out hb)
            replace BK151 := Aside0.mk (bb BK151.out hb)
            replace HB := Aside0.mk (below_step bel hb)
            (try clear hb)
            (try clear hb2)
            (try clear hk)
            (try clear hi)
            refine hK.out _ _ ⟨(blk_cell BK151.out 0).trans rfl, (blk_cell BK151.out 1).trans rfl, (blk_cell BK130.out 0).trans rfl, (blk_cell BK130.out 1).trans rfl⟩ (fun hHeld => ?_)
            clear hK K
            refine norm_ (a' := ?_) ?_ ?_
            rotate_left
            · show Act.put _ (some 43) _ = _
              simp only [Act.put, List.setIfInBounds_toArray, List.set_cons_zero, List.set_cons_succ, i64_w, i32_w]
              rfl
            refine pure_ (i := 4) (N := some 44) (v := ?_) (a' := ?_) #[true, true, true, true, true] rfl rfl (by kernel_rfl) (fun _ _ _ h => h) (Or.inl ⟨by rfl, ?_⟩) ?_ ?_
            rotate_left
            · intro w'
              go_simp
              with_reducible rfl
            rotate_left
            · simp only [Act.put, List.setIfInBounds_toArray, List.set_cons_zero, List.set_cons_succ, i64_w, i32_w]
              rfl
            refine done_ (by kernel_rfl) ?_
            try go_wp2
            go_ret
            exact ⟨er, bel⟩
          · replace c61 := Bool.eq_false_iff.mpr c61
            subst c61
            have H1 : (some false) = some r := by rw [if_neg (show ¬ (false = true) by decide)] at H; exact H
            clear H
            have H := H1
            clear H1
            obtain rfl := Option.some.inj H
            go_enter Try.func3, Try.ntmps3
            try go_wp2_with (first | ((with_reducible refine gate_dst (N := 2) rfl ?_); refine box_event ?hg (N := 2) ?hd (cs := #[.int .i64 a0_0, .slice A0_1 l0_1.length c0_1]) (t := 24) ?hr ?_; (case hd => rfl); (case hg => rfl); (case hr => first | (go_simp; done) | (go_simp; rfl)); intro gb129 hg w100 hbox hb; have BK129 := Aside0.mk (hbox); have GW129 := Aside0.mk ((bsz hg : w.heap.size ≤ gb129)); have GE129 := Aside0.mk ((bsz hg : w.heap.size ≤ gb129)); replace HB := Aside0.mk (below_step bel hb); clear hb hbox hg) | ((with_reducible refine gate_dst (N := 3) rfl ?_); refine box_event ?hg (N := 3) ?hd (cs := #[.int .i64 a1_0, .slice A1_1 l1_1.length c1_1]) (t := 24) ?hr ?_; (case hd => rfl); (case hg => rfl); (case hr => first | (go_simp; done) | (go_simp; rfl)); intro gb130 hg w101 hbox hb; have BK130 := Aside0.mk (hbox); have GW130 := Aside0.mk ((bsz hg : w.heap.size ≤ gb130)); have GE130 := Aside0.mk ((bsz hg : w.heap.size ≤ gb130)); have NB129_130 := Aside0.mk ((nlt hg BK129.out : gb129 ≠ gb130)); have NB130_129 := Aside0.mk ((ngt hg BK129.out : gb130 ≠ gb129)); replace BK129 := Aside0.mk (bb BK129.out hb); replace HB := Aside0.mk (below_step bel hb); clear hb hbox hg; have hnb102 := NB129_130.out; have hnc102 := NB130_129.out; obtain ⟨hcz103_0, hcz103_1, hfz103_0, hfz103_1⟩ := cf2 BK129.out) | ((with_reducible refine gate_callee (f := 8) rfl ?_); refine goesL_ (some 12) rfl rfl Try.func8 (by kernel_rfl) rfl #[.agg #[.int .i64 a0_0, .slice A0_1 l0_1.length c0_1], .int .i64 1048576] rfl ga ?_; (with_reducible refine (laws_szSent.calls a0_0 _ _ l0_1 1048576 t131 _ ?side1 ?side2 A3.out).mono ?_); (case side1 => exact ck (Kd.C_below HR0_1.out HB.out)); (case side2 => exact HC0_1.out); rintro e w104 ⟨rfl, hb⟩; refine ⟨_, rfl, ?_⟩; replace BK129 := Aside0.mk (bb BK129.out hb); replace BK130 := Aside0.mk (bb BK130.out hb); replace HB := Aside0.mk (below_step bel hb); (try clear hb); obtain ⟨hcz105_0, hcz105_1, hfz105_0, hfz105_1⟩ := cf2 BK130.out) | ((with_reducible refine gate_callee (f := 8) rfl ?_); refine goesL_ (some 17) rfl rfl Try.func8 (by kernel_rfl) rfl #[.agg #[.int .i64 a1_0, .slice A1_1 l1_1.length c1_1], .int .i64 t131] rfl ga ?_; (with_reducible refine (laws_szSent.calls a1_0 _ _ l1_1 t131 t132 _ ?side1 ?side2 A10.out).mono ?_); (case side1 => exact ck (Kd.C_below HR1_1.out HB.out)); (case side2 => exact HC1_1.out); rintro e w106 ⟨rfl, hb⟩; refine ⟨_, rfl, ?_⟩; replace BK129 := Aside0.mk (bb BK129.out hb); replace BK130 := Aside0.mk (bb BK130.out hb); replace HB := Aside0.mk (below_step bel hb); (try clear hb)))
            replace BK129 := Aside0.mk (blk_drew BK129.out)
            replace BK130 := Aside0.mk (blk_drew BK130.out)
            replace HB := Aside0.mk (below_drew1 HB.out)
            refine start_ (n := 6) (S := fun w' => w'.cell? ⟨gb129, 0, none⟩ = some (.int .i64 a0_0) ∧ w'.cell? ⟨gb129, 1, none⟩ = some (.slice A0_1 l0_1.length c0_1) ∧ w'.cell? ⟨gb130, 0, none⟩ = some (.int .i64 a1_0) ∧ w'.cell? ⟨gb130, 1, none⟩ = some (.slice A1_1 l1_1.length c1_1)) (ds := []) #[false, false, false, false, false, false] (by kernel_rfl) rfl rfl ⟨(blk_cell BK129.out 0).trans rfl, (blk_cell BK129.out 1).trans rfl, (blk_cell BK130.out 0).trans rfl, (blk_cell BK130.out 1).trans rfl⟩ (fun hHeld => ?_)
            generalize w106.drew = w107 at BK129 BK130 HB hHeld ⊢
            refine take_ (i := 0) (N := some 20) (v := ?_) (a' := ?_) #[true, false, false, false, false, false] rfl rfl (by kernel_rfl) (fun _ _ _ h => h) (Or.inl ⟨by rfl, ?_⟩) hHeld ?_ ?_
            rotate_left
            · rintro w' ⟨s0, s1, s2, s3⟩
              go_simp
              with_reducible rfl
            rotate_left
            · simp only [Act.put, List.setIfInBounds_toArray, List.set_cons_zero, List.set_cons_succ, i64_w, i32_w]
              rfl
            refine take_ (i := 2) (N := some 22) (v := ?_) (a' := ?_) #[true, false, true, false, false, false] rfl rfl (by kernel_rfl) (fun _ _ _ h => h) (Or.inl ⟨by rfl, ?_⟩) hHeld ?_ ?_
            rotate_left
            · rintro w' ⟨s0, s1, s2, s3⟩
              go_simp
              with_reducible rfl
            rotate_left
            · simp only [Act.put, List.setIfInBounds_toArray, List.set_cons_zero, List.set_cons_succ, i64_w, i32_w]
              rfl
            refine one_ (i := 1) (N := some 21) #[true, true, true, false, false, false] rfl rfl (by kernel_rfl) (by decide) (fun K hK => ?_)
            refine goes_ Try.func10 (by kernel_rfl) rfl #[.agg #[.int .i64 a0_0, .slice A0_1 l0_1.length c0_1]] (by rfl) rfl rfl ga ?_
            with_reducible refine (laws_toSent.calls k a0_0 _ _ l0_1 t133 t134 _ ?side1 ?side2 A19.out).mono ?_
            (case side1 => exact ck (Kd.C_below HR0_1.out HB.out))
            (case side2 => exact HC0_1.out)
            rintro e w108 ⟨v135, rfl, ho0, hb⟩
            refine ⟨_, rfl, ?_⟩
            have HO136 := Aside0.mk (Kd.R_lower ho0 (below_size bel))
            replace BK129 := Aside0.mk (bb BK129.out hb)
            replace BK130 := Aside0.mk (bb BK130.out hb)
            replace HB := Aside0.mk (below_step bel hb)
            (try clear hb)
            (try clear hb2)
            (try clear hk)
            (try clear hi)
            (try clear ho0)
            refine hK.out _ _ ⟨(blk_cell BK129.out 0).trans rfl, (blk_cell BK129.out 1).trans rfl, (blk_cell BK130.out 0).trans rfl, (blk_cell BK130.out 1).trans rfl⟩ (fun hHeld => ?_)
            clear hK K
            refine norm_ (a' := ?_) ?_ ?_
            rotate_left
            · show Act.put _ (some 21) _ = _
              simp only [Act.put, List.setIfInBounds_toArray, List.set_cons_zero, List.set_cons_succ, i64_w, i32_w]
              rfl
            refine one_ (i := 3) (N := some 23) #[true, true, true, true, false, false] rfl rfl (by kernel_rfl) (by decide) (fun K hK => ?_)
            refine goes_ Try.func10 (by kernel_rfl) rfl #[.agg #[.int .i64 a1_0, .slice A1_1 l1_1.length c1_1]] (by rfl) rfl rfl ga ?_
            with_reducible refine (laws_toSent.calls k a1_0 _ _ l1_1 t137 t138 _ ?side1 ?side2 A20.out).mono ?_
            (case side1 => exact ck (Kd.C_below HR1_1.out HB.out))
            (case side2 => exact HC1_1.out)
            rintro e w109 ⟨v139, rfl, ho0, hb⟩
            refine ⟨_, rfl, ?_⟩
            have HO140 := Aside0.mk (Kd.R_lower (Kd.R_new' ho0 (Kd.R_lt (rk HO136.out))) (below_size bel))
            replace HO136 := Aside0.mk (Kd.R_elder' (rk HO136.out) (Kd.R_base ho0) hb)
            replace BK129 := Aside0.mk (bb BK129.out hb)
            replace BK130 := Aside0.mk (bb BK130.out hb)
            replace HB := Aside0.mk (below_step bel hb)
            (try clear hb)
            (try clear hb2)
            (try clear hk)
            (try clear hi)
            (try clear ho0)
            obtain ⟨Ao110, co110, eo110⟩ := Kd.R_slice HO136.out
            (first | subst eo110 | (injection eo110 with f1_ f2_ f3_; have f4_ := f1_.symm; have f5_ := f3_.symm; clear f1_ f2_ f3_; subst f4_; subst f5_))
            obtain ⟨Ao111, co111, eo111⟩ := Kd.R_slice HO140.out
            (first | subst eo111 | (injection eo111 with f1_ f2_ f3_; have f4_ := f1_.symm; have f5_ := f3_.symm; clear f1_ f2_ f3_; subst f4_; subst f5_))
            refine hK.out _ _ ⟨(blk_cell BK129.out 0).trans rfl, (blk_cell BK129.out 1).trans rfl, (blk_cell BK130.out 0).trans rfl, (blk_cell BK130.out 1).trans rfl⟩ (fun hHeld => ?_)
            clear hK K
            refine norm_ (a' := ?_) ?_ ?_
            rotate_left
            · show Act.put _ (some 23) _ = _
              simp only [Act.put, List.setIfInBounds_toArray, List.set_cons_zero, List.set_cons_succ, i64_w, i32_w]
              rfl
            refine one_ (i := 4) (N := some 24) #[true, true, true, true, true, false] rfl rfl (by kernel_rfl) (by decide) (fun K hK => ?_)
            refine goes_ Try.func9 (by kernel_rfl) rfl #[.agg #[.int .i64 t133, .slice Ao110 t134.length co110], .agg #[.int .i64 t137, .slice Ao111 t138.length co111]] (by rfl) rfl rfl ga ?_
            with_reducible refine (spec_SameSent.calls k t133 _ _ t134 t137 _ _ t138 t141 _ ?side1 ?side2 ?side3 ?side4 A21.out).mono ?_
            (case side1 => exact ck (Kd.R_reads' HO136.out).2.2)
            (case side2 => exact (Kd.R_reads' HO136.out).2.1)
            (case side3 => exact ck (Kd.R_reads' HO140.out).2.2)
            (case side4 => exact (Kd.R_reads' HO140.out).2.1)
            rintro e w112 ⟨rfl, hb⟩
            refine ⟨_, rfl, ?_⟩
            replace HO136 := Aside0.mk (Kd.R_below (rk HO136.out) hb)
            replace HO140 := Aside0.mk (Kd.R_below (rk HO140.out) hb)
            replace BK129 := Aside0.mk (bb BK129.out hb)
            replace BK130 := Aside0.mk (bb BK130.out hb)
            replace HB := Aside0.mk (below_step bel hb)
            (try clear hb)
            (try clear hb2)
            (try clear hk)
            (try clear hi)
            refine hK.out _ _ ⟨(blk_cell BK129.out 0).trans rfl, (blk_cell BK129.out 1).trans rfl, (blk_cell BK130.out 0).trans rfl, (blk_cell BK130.out 1).trans rfl⟩ (fun hHeld => ?_)
            clear hK K
            refine norm_ (a' := ?_) ?_ ?_
            rotate_left
            · show Act.put _ (some 24) _ = _
              simp only [Act.put, List.setIfInBounds_toArray, List.set_cons_zero, List.set_cons_succ, i64_w, i32_w]
              rfl
            refine pure_ (i := 5) (N := some 6) (v := ?_) (a' := ?_) #[true, true, true, true, true, true] rfl rfl (by kernel_rfl) (fun _ _ _ h => h) (Or.inl ⟨by rfl, ?_⟩) ?_ ?_
            rotate_left
            · intro w'
              go_simp
              with_reducible rfl
            rotate_left
            · simp only [Act.put, List.setIfInBounds_toArray, List.set_cons_zero, List.set_cons_succ, i64_w, i32_w]
              rfl
            refine done_ (by kernel_rfl) ?_
            obtain ⟨hcz113_0, hcz113_1, hfz113_0, hfz113_1⟩ := cf2 BK129.out
            try go_wp2_with (first | ((with_reducible refine gate_callee (f := 10) rfl ?_); refine goesL_ (some 26) rfl rfl Try.func10 (by kernel_rfl) rfl #[.agg #[.int .i64 a0_0, .slice A0_1 l0_1.length c0_1]] rfl ga ?_; (with_reducible refine (laws_toSent.calls k a0_0 _ _ l0_1 t142 t143 _ ?side1 ?side2 A22.out).mono ?_); (case side1 => exact ck (Kd.C_below HR0_1.out HB.out)); (case side2 => exact HC0_1.out); rintro e w114 ⟨v144, rfl, ho0, hb⟩; refine ⟨_, rfl, ?_⟩; have HO145 := Aside0.mk (Kd.R_lower (Kd.R_new' (Kd.R_new' ho0 (Kd.R_lt (rk HO136.out))) (Kd.R_lt (rk HO140.out))) (below_size bel)); replace HO136 := Aside0.mk (Kd.R_elder' (rk HO136.out) (Kd.R_base ho0) hb); replace HO140 := Aside0.mk (Kd.R_elder' (rk HO140.out) (Kd.R_base ho0) hb); replace BK129 := Aside0.mk (bb BK129.out hb); replace BK130 := Aside0.mk (bb BK130.out hb); replace HB := Aside0.mk (below_step bel hb); (try clear hb); (try clear ho0)) | ((with_reducible refine gate_dst (N := 7) rfl ?_); refine box_event ?hg (N := 7) ?hd (cs := #[.int .i64 0, .slice none 0 0]) (t := 27) ?hr ?_; (case hd => rfl); (case hg => rfl); (case hr => first | (go_simp; done) | (go_simp; rfl)); intro gb146 hg w115 hbox hb; have BK146 := Aside0.mk (hbox); have GW146 := Aside0.mk ((bsz hg : w.heap.size ≤ gb146)); have GE146 := Aside0.mk ((bsz hg : w.heap.size ≤ gb146)); have NB129_146 := Aside0.mk ((nlt hg BK129.out : gb129 ≠ gb146)); have NB146_129 := Aside0.mk ((ngt hg BK129.out : gb146 ≠ gb129)); have NB130_146 := Aside0.mk ((nlt hg BK130.out : gb130 ≠ gb146)); have NB146_130 := Aside0.mk ((ngt hg BK130.out : gb146 ≠ gb130)); replace HO136 := Aside0.mk (Kd.R_below (rk HO136.out) hb); replace HO140 := Aside0.mk (Kd.R_below (rk HO140.out) hb); replace HO145 := Aside0.mk (Kd.R_below (rk HO145.out) hb); replace BK129 := Aside0.mk (bb BK129.out hb); replace BK130 := Aside0.mk (bb BK130.out hb); replace HB := Aside0.mk (below_step bel hb); clear hb hbox hg; have hnb116 := NB146_129.out; have hnc116 := NB129_146.out; have hnb117 := NB146_130.out; have hnc117 := NB130_146.out; obtain ⟨hcz118_0, hcz118_1, hfz118_0, hfz118_1⟩ := cf2 BK146.out; obtain ⟨Ao119, co119, eo119⟩ := Kd.R_slice HO145.out; subst eo119; obtain ⟨hcz120_0, hcz120_1, hfz120_0, hfz120_1⟩ := cf2 BK130.out) | ((with_reducible refine gate_callee (f := 10) rfl ?_); refine goesL_ (some 28) rfl rfl Try.func10 (by kernel_rfl) rfl #[.agg #[.int .i64 a1_0, .slice A1_1 l1_1.length c1_1]] rfl ga ?_; (with_reducible refine (laws_toSent.calls k a1_0 _ _ l1_1 t147 t148 _ ?side1 ?side2 A23.out).mono ?_); (case side1 => exact Kd.C_below HR1_1.out bel); (case side2 => exact HC1_1.out); rintro e w121 ⟨v149, rfl, ho0, hb⟩; refine ⟨_, rfl, ?_⟩; have HO150 := Aside0.mk (Kd.R_lower (Kd.R_new' (Kd.R_new' (Kd.R_new' ho0 (Kd.R_lt (by exact rk (Kd.R_mono (Kd.R_far (p := ⟨gb146, 1, none⟩) (Kd.R_far (p := ⟨gb146, 0, none⟩) (Kd.R_types HO136.out BK146.out (by decide)) (fun _ hk => hk.2) (.int .i64 t142)) (fun _ hk => hk.2) (.slice Ao119 t143.length co119)) (fun _ h_ => h_.1))))) (Kd.R_lt (by exact rk (Kd.R_mono (Kd.R_far (p := ⟨gb146, 1, none⟩) (Kd.R_far (p := ⟨gb146, 0, none⟩) (Kd.R_types HO140.out BK146.out (by decide)) (fun _ hk => hk.2) (.int .i64 t142)) (fun _ hk => hk.2) (.slice Ao119 t143.length co119)) (fun _ h_ => h_.1))))) (Kd.R_lt (by exact rk (Kd.R_mono (Kd.R_far (p := ⟨gb146, 1, none⟩) (Kd.R_far (p := ⟨gb146, 0, none⟩) (Kd.R_types HO145.out BK146.out (by decide)) (fun _ hk => hk.2) (.int .i64 t142)) (fun _ hk => hk.2) (.slice Ao119 t143.length co119)) (fun _ h_ => h_.1))))) (below_size bel)); replace HO136 := Aside0.mk (Kd.R_elder' (by exact rk (Kd.R_mono (Kd.R_far (p := ⟨gb146, 1, none⟩) (Kd.R_far (p := ⟨gb146, 0, none⟩) (Kd.R_types HO136.out BK146.out (by decide)) (fun _ hk => hk.2) (.int .i64 t142)) (fun _ hk => hk.2) (.slice Ao119 t143.length co119)) (fun _ h_ => h_.1))) (Kd.R_base ho0) hb); replace HO140 := Aside0.mk (Kd.R_elder' (by exact rk (Kd.R_mono (Kd.R_far (p := ⟨gb146, 1, none⟩) (Kd.R_far (p := ⟨gb146, 0, none⟩) (Kd.R_types HO140.out BK146.out (by decide)) (fun _ hk => hk.2) (.int .i64 t142)) (fun _ hk => hk.2) (.slice Ao119 t143.length co119)) (fun _ h_ => h_.1))) (Kd.R_base ho0) hb); replace HO145 := Aside0.mk (Kd.R_elder' (by exact rk (Kd.R_mono (Kd.R_far (p := ⟨gb146, 1, none⟩) (Kd.R_far (p := ⟨gb146, 0, none⟩) (Kd.R_types HO145.out BK146.out (by decide)) (fun _ hk => hk.2) (.int .i64 t142)) (fun _ hk => hk.2) (.slice Ao119 t143.length co119)) (fun _ h_ => h_.1))) (Kd.R_base ho0) hb); replace BK129 := Aside0.mk (bb BK129.out hb); replace BK130 := Aside0.mk (bb BK130.out hb); replace BK146 := Aside0.mk (blk_below (g := gb146) (o := .cells #[.int .i64 t142, .slice Ao119 t143.length co119] 27 (0, 0)) (by (with_reducible repeat (first | refine blk_drewN ?_ _ | refine blk_drew ?_ | refine blk_alloc ?_ _)); refine blk_put (cs := #[.int .i64 t142, .slice none 0 0]) ?_ 1 _ rfl; (with_reducible repeat (first | refine blk_drewN ?_ _ | refine blk_drew ?_ | refine blk_alloc ?_ _)); refine blk_put (cs := #[.int .i64 0, .slice none 0 0]) ?_ 0 _ rfl; (with_reducible repeat (first | refine blk_drewN ?_ _ | refine blk_drew ?_ | refine blk_alloc ?_ _)); exact BK146.out) hb); replace HB := Aside0.mk (below_step bel hb); (try clear hb); (try clear ho0)) | ((with_reducible refine gate_dst (N := 8) rfl ?_); refine box_event ?hg (N := 8) ?hd (cs := #[.int .i64 0, .slice none 0 0]) (t := 27) ?hr ?_; (case hd => rfl); (case hg => rfl); (case hr => first | (go_simp; done) | (go_simp; rfl)); intro gb151 hg w122 hbox hb; have BK151 := Aside0.mk (hbox); have GW151 := Aside0.mk ((bsz hg : w.heap.size ≤ gb151)); have GE151 := Aside0.mk ((bsz hg : w.heap.size ≤ gb151)); have NB129_151 := Aside0.mk ((nlt hg BK129.out : gb129 ≠ gb151)); have NB151_129 := Aside0.mk ((ngt hg BK129.out : gb151 ≠ gb129)); have NB130_151 := Aside0.mk ((nlt hg BK130.out : gb130 ≠ gb151)); have NB151_130 := Aside0.mk ((ngt hg BK130.out : gb151 ≠ gb130)); have NB146_151 := Aside0.mk ((nlt hg BK146.out : gb146 ≠ gb151)); have NB151_146 := Aside0.mk ((ngt hg BK146.out : gb151 ≠ gb146)); replace HO136 := Aside0.mk (Kd.R_below (rk HO136.out) hb); replace HO140 := Aside0.mk (Kd.R_below (rk HO140.out) hb); replace HO145 := Aside0.mk (Kd.R_below (rk HO145.out) hb); replace HO150 := Aside0.mk (Kd.R_below (rk HO150.out) hb); replace BK129 := Aside0.mk (bb BK129.out hb); replace BK130 := Aside0.mk (bb BK130.out hb); replace BK146 := Aside0.mk (bb BK146.out hb); replace HB := Aside0.mk (below_step bel hb); clear hb hbox hg; have hnb123 := NB151_129.out; have hnc123 := NB129_151.out; have hnb124 := NB151_130.out; have hnc124 := NB130_151.out; have hnb125 := NB151_146.out; have hnc125 := NB146_151.out; obtain ⟨hcz126_0, hcz126_1, hfz126_0, hfz126_1⟩ := cf2 BK151.out; obtain ⟨Ao127, co127, eo127⟩ := Kd.R_slice HO150.out; subst eo127; obtain ⟨hcz128_0, hcz128_1, hfz128_0, hfz128_1⟩ := cf2 BK146.out) | ((with_reducible refine gate_callee (f := 11) rfl ?_); refine goesL_ (some 31) rfl rfl Try.func11 (by kernel_rfl) rfl #[.agg #[.int .i64 t142, .slice Ao119 t143.length co119], .agg #[.int .i64 t147, .slice Ao127 t148.length co127]] rfl ga ?_; (with_reducible refine (impl_SameSent.calls k t142 _ _ t143 t147 _ _ t148 t152 _ ?side1 ?side2 ?side3 ?side4 A24.out).mono ?_); (case side1 => refine (Kd.R_reads' (e := 3) (base := w.heap.size) (ok := fun k_ => (((True ∧ some k_ ≠ (.slice Ao110 t134.length co110 : Value).ownBlock) ∧ some k_ ≠ (.slice Ao111 t138.length co111 : Value).ownBlock) ∧ some k_ ≠ (.slice Ao127 t148.length co127 : Value).ownBlock)) (n := t143.length) (c := co119) ?_).2.2; exact (by exact rk (Kd.R_mono (Kd.R_far (p := ⟨gb151, 1, none⟩) (Kd.R_far (p := ⟨gb151, 0, none⟩) (Kd.R_types HO145.out BK151.out (by decide)) (fun _ hk => hk.2) (.int .i64 t147)) (fun _ hk => hk.2) (.slice Ao127 t148.length co127)) (fun _ h_ => h_.1)))); (case side2 => exact (Kd.R_reads' HO145.out).2.1); (case side3 => refine (Kd.R_reads' (e := 3) (base := w.heap.size) (ok := fun k_ => (((True ∧ some k_ ≠ (.slice Ao110 t134.length co110 : Value).ownBlock) ∧ some k_ ≠ (.slice Ao111 t138.length co111 : Value).ownBlock) ∧ some k_ ≠ (.slice Ao119 t143.length co119 : Value).ownBlock)) (n := t148.length) (c := co127) ?_).2.2; exact (by exact rk (Kd.R_mono (Kd.R_far (p := ⟨gb151, 1, none⟩) (Kd.R_far (p := ⟨gb151, 0, none⟩) (Kd.R_types HO150.out BK151.out (by decide)) (fun _ hk => hk.2) (.int .i64 t147)) (fun _ hk => hk.2) (.slice Ao127 t148.length co127)) (fun _ h_ => h_.1)))); (case side4 => exact (Kd.R_reads' HO150.out).2.1); rintro e w129 ⟨rfl, hb⟩; refine ⟨_, rfl, ?_⟩; replace HO136 := Aside0.mk (Kd.R_below (by exact rk (Kd.R_mono (Kd.R_far (p := ⟨gb151, 1, none⟩) (Kd.R_far (p := ⟨gb151, 0, none⟩) (Kd.R_types HO136.out BK151.out (by decide)) (fun _ hk => hk.2) (.int .i64 t147)) (fun _ hk => hk.2) (.slice Ao127 t148.length co127)) (fun _ h_ => h_.1))) hb); replace HO140 := Aside0.mk (Kd.R_below (by exact rk (Kd.R_mono (Kd.R_far (p := ⟨gb151, 1, none⟩) (Kd.R_far (p := ⟨gb151, 0, none⟩) (Kd.R_types HO140.out BK151.out (by decide)) (fun _ hk => hk.2) (.int .i64 t147)) (fun _ hk => hk.2) (.slice Ao127 t148.length co127)) (fun _ h_ => h_.1))) hb); replace HO145 := Aside0.mk (Kd.R_below (by exact rk (Kd.R_mono (Kd.R_far (p := ⟨gb151, 1, none⟩) (Kd.R_far (p := ⟨gb151, 0, none⟩) (Kd.R_types HO145.out BK151.out (by decide)) (fun _ hk => hk.2) (.int .i64 t147)) (fun _ hk => hk.2) (.slice Ao127 t148.length co127)) (fun _ h_ => h_.1))) hb); replace HO150 := Aside0.mk (Kd.R_below (by exact rk (Kd.R_mono (Kd.R_far (p := ⟨gb151, 1, none⟩) (Kd.R_far (p := ⟨gb151, 0, none⟩) (Kd.R_types HO150.out BK151.out (by decide)) (fun _ hk => hk.2) (.int .i64 t147)) (fun _ hk => hk.2) (.slice Ao127 t148.length co127)) (fun _ h_ => h_.1))) hb); replace BK129 := Aside0.mk (bb BK129.out hb); replace BK130 := Aside0.mk (bb BK130.out hb); replace BK146 := Aside0.mk (bb BK146.out hb); replace BK151 := Aside0.mk (blk_below (g := gb151) (o := .cells #[.int .i64 t147, .slice Ao127 t148.length co127] 27 (0, 0)) (by (with_reducible repeat (first | refine blk_drewN ?_ _ | refine blk_drew ?_ | refine blk_alloc ?_ _)); refine blk_put (cs := #[.int .i64 t147, .slice none 0 0]) ?_ 1 _ rfl; (with_reducible repeat (first | refine blk_drewN ?_ _ | refine blk_drew ?_ | refine blk_alloc ?_ _)); refine blk_put (cs := #[.int .i64 0, .slice none 0 0]) ?_ 0 _ rfl; (with_reducible repeat (first | refine blk_drewN ?_ _ | refine blk_drew ?_ | refine blk_alloc ?_ _)); exact BK151.out) hb); replace HB := Aside0.mk (below_step bel hb); (try clear hb)))
            replace HO136 := Aside0.mk (Kd.R_drew HO136.out)
            replace HO140 := Aside0.mk (Kd.R_drew HO140.out)
            replace HO145 := Aside0.mk (Kd.R_drew HO145.out)
            replace HO150 := Aside0.mk (Kd.R_drew HO150.out)
            replace BK129 := Aside0.mk (blk_drew BK129.out)
            replace BK130 := Aside0.mk (blk_drew BK130.out)
            replace BK146 := Aside0.mk (blk_drew BK146.out)
            replace BK151 := Aside0.mk (blk_drew BK151.out)
            replace HB := Aside0.mk (below_drew1 HB.out)
            refine start_ (n := 5) (S := fun w' => w'.cell? ⟨gb146, 0, none⟩ = some (.int .i64 t142) ∧ w'.cell? ⟨gb146, 1, none⟩ = some (.slice Ao119 t143.length co119) ∧ w'.cell? ⟨gb129, 0, none⟩ = some (.int .i64 a0_0) ∧ w'.cell? ⟨gb129, 1, none⟩ = some (.slice A0_1 l0_1.length c0_1)) (ds := []) #[false, false, false, false, false] (by kernel_rfl) rfl rfl ⟨(blk_cell BK146.out 0).trans rfl, (blk_cell BK146.out 1).trans rfl, (blk_cell BK129.out 0).trans rfl, (blk_cell BK129.out 1).trans rfl⟩ (fun hHeld => ?_)
            generalize w129.drew = w130 at HO136 HO140 HO145 HO150 BK129 BK130 BK146 BK151 HB hHeld ⊢
            refine take_ (i := 0) (N := some 35) (v := ?_) (a' := ?_) #[true, false, false, false, false] rfl rfl (by kernel_rfl) (fun _ _ _ h => h) (Or.inl ⟨by rfl, ?_⟩) hHeld ?_ ?_
            rotate_left
            · rintro w' ⟨s0, s1, s2, s3⟩
              go_simp
              with_reducible rfl
            rotate_left
            · simp only [Act.put, List.setIfInBounds_toArray, List.set_cons_zero, List.set_cons_succ, i64_w, i32_w]
              rfl
            refine take_ (i := 1) (N := some 36) (v := ?_) (a' := ?_) #[true, true, false, false, false] rfl rfl (by kernel_rfl) (fun _ _ _ h => h) (Or.inl ⟨by rfl, ?_⟩) hHeld ?_ ?_
            rotate_left
            · rintro w' ⟨s0, s1, s2, s3⟩
              go_simp
              with_reducible rfl
            rotate_left
            · simp only [Act.put, List.setIfInBounds_toArray, List.set_cons_zero, List.set_cons_succ, i64_w, i32_w]
              rfl
            refine one_ (i := 2) (N := some 37) #[true, true, true, false, false] rfl rfl (by kernel_rfl) (by decide) (fun K hK => ?_)
            refine goes_ Try.func10 (by kernel_rfl) rfl #[.agg #[.int .i64 a0_0, .slice A0_1 l0_1.length c0_1]] (by rfl) rfl rfl ga ?_
            with_reducible refine (laws_toSent.calls k a0_0 _ _ l0_1 t153 t154 _ ?side1 ?side2 A56.out).mono ?_
            (case side1 => exact ck (Kd.C_below HR0_1.out HB.out))
            (case side2 => exact HC0_1.out)
            rintro e w131 ⟨v155, rfl, ho0, hb⟩
            refine ⟨_, rfl, ?_⟩
            have HO156 := Aside0.mk (Kd.R_lower (Kd.R_new' (Kd.R_new' (Kd.R_new' (Kd.R_new' ho0 (Kd.R_lt (rk HO136.out))) (Kd.R_lt (rk HO140.out))) (Kd.R_lt (rk HO145.out))) (Kd.R_lt (rk HO150.out))) (below_size bel))
            replace HO136 := Aside0.mk (Kd.R_elder' (rk HO136.out) (Kd.R_base ho0) hb)
            replace HO140 := Aside0.mk (Kd.R_elder' (rk HO140.out) (Kd.R_base ho0) hb)
            replace HO145 := Aside0.mk (Kd.R_elder' (rk HO145.out) (Kd.R_base ho0) hb)
            replace HO150 := Aside0.mk (Kd.R_elder' (rk HO150.out) (Kd.R_base ho0) hb)
            replace BK129 := Aside0.mk (bb BK129.out hb)
            replace BK130 := Aside0.mk (bb BK130.out hb)
            replace BK146 := Aside0.mk (bb BK146.out hb)
            replace BK151 := Aside0.mk (bb BK151.out hb)
            replace HB := Aside0.mk (below_step bel hb)
            (try clear hb)
            (try clear hb2)
            (try clear hk)
            (try clear hi)
            (try clear ho0)
            obtain ⟨Ao132, co132, eo132⟩ := Kd.R_slice HO156.out
            (first | subst eo132 | (injection eo132 with f1_ f2_ f3_; have f4_ := f1_.symm; have f5_ := f3_.symm; clear f1_ f2_ f3_; subst f4_; subst f5_))
            refine hK.out _ _ ⟨(blk_cell BK146.out 0).trans rfl, (blk_cell BK146.out 1).trans rfl, (blk_cell BK129.out 0).trans rfl, (blk_cell BK129.out 1).trans rfl⟩ (fun hHeld => ?_)
            clear hK K
            refine norm_ (a' := ?_) ?_ ?_
            rotate_left
            · show Act.put _ (some 37) _ = _
              simp only [Act.put, List.setIfInBounds_toArray, List.set_cons_zero, List.set_cons_succ, i64_w, i32_w]
              rfl
            refine one_ (i := 3) (N := some 38) #[true, true, true, true, false] rfl rfl (by kernel_rfl) (by decide) (fun K hK => ?_)
            refine goes_ Try.func12 (by kernel_rfl) rfl #[.agg #[.int .i64 t142, .slice Ao119 t143.length co119], .agg #[.int .i64 t153, .slice Ao132 t154.length co132]] (by rfl) rfl rfl ga ?_
            with_reducible refine (laws_eqSent.calls k t142 _ _ t143 t153 _ _ t154 true _ ?side1 ?side2 ?side3 ?side4 A57.out).mono ?_
            (case side1 => exact ck (Kd.R_reads' HO145.out).2.2)
            (case side2 => exact (Kd.R_reads' HO145.out).2.1)
            (case side3 => exact ck (Kd.R_reads' HO156.out).2.2)
            (case side4 => exact (Kd.R_reads' HO156.out).2.1)
            rintro e w133 ⟨rfl, hb⟩
            refine ⟨_, rfl, ?_⟩
            replace HO136 := Aside0.mk (Kd.R_below (rk HO136.out) hb)
            replace HO140 := Aside0.mk (Kd.R_below (rk HO140.out) hb)
            replace HO145 := Aside0.mk (Kd.R_below (rk HO145.out) hb)
            replace HO150 := Aside0.mk (Kd.R_below (rk HO150.out) hb)
            replace HO156 := Aside0.mk (Kd.R_below (rk HO156.out) hb)
            replace BK129 := Aside0.mk (bb BK129.out hb)
            replace BK130 := Aside0.mk (bb BK130.out hb)
            replace BK146 := Aside0.mk (bb BK146.out hb)
            replace BK151 := Aside0.mk (bb BK151.out hb)
            replace HB := Aside0.mk (below_step bel hb)
            (try clear hb)
            (try clear hb2)
            (try clear hk)
            (try clear hi)
            refine hK.out _ _ ⟨(blk_cell BK146.out 0).trans rfl, (blk_cell BK146.out 1).trans rfl, (blk_cell BK129.out 0).trans rfl, (blk_cell BK129.out 1).trans rfl⟩ (fun hHeld => ?_)
            clear hK K
            refine norm_ (a' := ?_) ?_ ?_
            rotate_left
            · show Act.put _ (some 38) _ = _
              simp only [Act.put, List.setIfInBounds_toArray, List.set_cons_zero, List.set_cons_succ, i64_w, i32_w]
              rfl
            refine pure_ (i := 4) (N := some 39) (v := ?_) (a' := ?_) #[true, true, true, true, true] rfl rfl (by kernel_rfl) (fun _ _ _ h => h) (Or.inl ⟨by rfl, ?_⟩) ?_ ?_
            rotate_left
            · intro w'
              go_simp
              with_reducible rfl
            rotate_left
            · simp only [Act.put, List.setIfInBounds_toArray, List.set_cons_zero, List.set_cons_succ, i64_w, i32_w]
              rfl
            refine done_ (by kernel_rfl) ?_
            try go_wp2
            replace HO136 := Aside0.mk (Kd.R_drew HO136.out)
            replace HO140 := Aside0.mk (Kd.R_drew HO140.out)
            replace HO145 := Aside0.mk (Kd.R_drew HO145.out)
            replace HO150 := Aside0.mk (Kd.R_drew HO150.out)
            replace HO156 := Aside0.mk (Kd.R_drew HO156.out)
            replace BK129 := Aside0.mk (blk_drew BK129.out)
            replace BK130 := Aside0.mk (blk_drew BK130.out)
            replace BK146 := Aside0.mk (blk_drew BK146.out)
            replace BK151 := Aside0.mk (blk_drew BK151.out)
            replace HB := Aside0.mk (below_drew1 HB.out)
            refine start_ (n := 5) (S := fun w' => w'.cell? ⟨gb151, 0, none⟩ = some (.int .i64 t147) ∧ w'.cell? ⟨gb151, 1, none⟩ = some (.slice Ao127 t148.length co127) ∧ w'.cell? ⟨gb130, 0, none⟩ = some (.int .i64 a1_0) ∧ w'.cell? ⟨gb130, 1, none⟩ = some (.slice A1_1 l1_1.length c1_1)) (ds := []) #[false, false, false, false, false] (by kernel_rfl) rfl rfl ⟨(blk_cell BK151.out 0).trans rfl, (blk_cell BK151.out 1).trans rfl, (blk_cell BK130.out 0).trans rfl, (blk_cell BK130.out 1).trans rfl⟩ (fun hHeld => ?_)
            generalize w133.drew = w134 at HO136 HO140 HO145 HO150 HO156 BK129 BK130 BK146 BK151 HB hHeld ⊢
            refine take_ (i := 0) (N := some 40) (v := ?_) (a' := ?_) #[true, false, false, false, false] rfl rfl (by kernel_rfl) (fun _ _ _ h => h) (Or.inl ⟨by rfl, ?_⟩) hHeld ?_ ?_
            rotate_left
            · rintro w' ⟨s0, s1, s2, s3⟩
              go_simp
              with_reducible rfl
            rotate_left
            · simp only [Act.put, List.setIfInBounds_toArray, List.set_cons_zero, List.set_cons_succ, i64_w, i32_w]
              rfl
            refine take_ (i := 1) (N := some 41) (v := ?_) (a' := ?_) #[true, true, false, false, false] rfl rfl (by kernel_rfl) (fun _ _ _ h => h) (Or.inl ⟨by rfl, ?_⟩) hHeld ?_ ?_
            rotate_left
            · rintro w' ⟨s0, s1, s2, s3⟩
              go_simp
              with_reducible rfl
            rotate_left
            · simp only [Act.put, List.setIfInBounds_toArray, List.set_cons_zero, List.set_cons_succ, i64_w, i32_w]
              rfl
            refine one_ (i := 2) (N := some 42) #[true, true, true, false, false] rfl rfl (by kernel_rfl) (by decide) (fun K hK => ?_)
            refine goes_ Try.func10 (by kernel_rfl) rfl #[.agg #[.int .i64 a1_0, .slice A1_1 l1_1.length c1_1]] (by rfl) rfl rfl ga ?_
            with_reducible refine (laws_toSent.calls k a1_0 _ _ l1_1 t158 t159 _ ?side1 ?side2 A59.out).mono ?_
            (case side1 => exact ck (Kd.C_below HR1_1.out HB.out))
            (case side2 => exact HC1_1.out)
            rintro e w135 ⟨v160, rfl, ho0, hb⟩
            refine ⟨_, rfl, ?_⟩
            have HO161 := Aside0.mk (Kd.R_lower (Kd.R_new' (Kd.R_new' (Kd.R_new' (Kd.R_new' (Kd.R_new' ho0 (Kd.R_lt (rk HO136.out))) (Kd.R_lt (rk HO140.out))) (Kd.R_lt (rk HO145.out))) (Kd.R_lt (rk HO150.out))) (Kd.R_lt (rk HO156.out))) (below_size bel))
            replace HO136 := Aside0.mk (Kd.R_elder' (rk HO136.out) (Kd.R_base ho0) hb)
            replace HO140 := Aside0.mk (Kd.R_elder' (rk HO140.out) (Kd.R_base ho0) hb)
            replace HO145 := Aside0.mk (Kd.R_elder' (rk HO145.out) (Kd.R_base ho0) hb)
            replace HO150 := Aside0.mk (Kd.R_elder' (rk HO150.out) (Kd.R_base ho0) hb)
            replace HO156 := Aside0.mk (Kd.R_elder' (rk HO156.out) (Kd.R_base ho0) hb)
            replace BK129 := Aside0.mk (bb BK129.out hb)
            replace BK130 := Aside0.mk (bb BK130.out hb)
            replace BK146 := Aside0.mk (bb BK146.out hb)
            replace BK151 := Aside0.mk (bb BK151.out hb)
            replace HB := Aside0.mk (below_step bel hb)
            (try clear hb)
            (try clear hb2)
            (try clear hk)
            (try clear hi)
            (try clear ho0)
            obtain ⟨Ao136, co136, eo136⟩ := Kd.R_slice HO161.out
            (first | subst eo136 | (injection eo136 with f1_ f2_ f3_; have f4_ := f1_.symm; have f5_ := f3_.symm; clear f1_ f2_ f3_; subst f4_; subst f5_))
            refine hK.out _ _ ⟨(blk_cell BK151.out 0).trans rfl, (blk_cell BK151.out 1).trans rfl, (blk_cell BK130.out 0).trans rfl, (blk_cell BK130.out 1).trans rfl⟩ (fun hHeld => ?_)
            clear hK K
            refine norm_ (a' := ?_) ?_ ?_
            rotate_left
            · show Act.put _ (some 42) _ = _
              simp only [Act.put, List.setIfInBounds_toArray, List.set_cons_zero, List.set_cons_succ, i64_w, i32_w]
              rfl
            refine one_ (i := 3) (N := some 43) #[true, true, true, true, false] rfl rfl (by kernel_rfl) (by decide) (fun K hK => ?_)
            refine goes_ Try.func12 (by kernel_rfl) rfl #[.agg #[.int .i64 t147, .slice Ao127 t148.length co127], .agg #[.int .i64 t158, .slice Ao136 t159.length co136]] (by rfl) rfl rfl ga ?_
            with_reducible refine (laws_eqSent.calls k t147 _ _ t148 t158 _ _ t159 false _ ?side1 ?side2 ?side3 ?side4 A60.out).mono ?_
            (case side1 => exact ck (Kd.R_reads' HO150.out).2.2)
            (case side2 => exact (Kd.R_reads' HO150.out).2.1)
            (case side3 => exact ck (Kd.R_reads' HO161.out).2.2)
            (case side4 => exact (Kd.R_reads' HO161.out).2.1)
            rintro e w137 ⟨rfl, hb⟩
            refine ⟨_, rfl, ?_⟩
            replace HO136 := Aside0.mk (Kd.R_below (rk HO136.out) hb)
            replace HO140 := Aside0.mk (Kd.R_below (rk HO140.out) hb)
            replace HO145 := Aside0.mk (Kd.R_below (rk HO145.out) hb)
            replace HO150 := Aside0.mk (Kd.R_below (rk HO150.out) hb)
            replace HO156 := Aside0.mk (Kd.R_below (rk HO156.out) hb)
            replace HO161 := Aside0.mk (Kd.R_below (rk HO161.out) hb)
            replace BK129 := Aside0.mk (bb BK129.out hb)
            replace BK130 := Aside0.mk (bb BK130.out hb)
            replace BK146 := Aside0.mk (bb BK146.out hb)
            replace BK151 := Aside0.mk (bb BK151.out hb)
            replace HB := Aside0.mk (below_step bel hb)
            (try clear hb)
            (try clear hb2)
            (try clear hk)
            (try clear hi)
            refine hK.out _ _ ⟨(blk_cell BK151.out 0).trans rfl, (blk_cell BK151.out 1).trans rfl, (blk_cell BK130.out 0).trans rfl, (blk_cell BK130.out 1).trans rfl⟩ (fun hHeld => ?_)
            clear hK K
            refine norm_ (a' := ?_) ?_ ?_
            rotate_left
            · show Act.put _ (some 43) _ = _
              simp only [Act.put, List.setIfInBounds_toArray, List.set_cons_zero, List.set_cons_succ, i64_w, i32_w]
              rfl
            refine pure_ (i := 4) (N := some 44) (v := ?_) (a' := ?_) #[true, true, true, true, true] rfl rfl (by kernel_rfl) (fun _ _ _ h => h) (Or.inl ⟨by rfl, ?_⟩) ?_ ?_
            rotate_left
            · intro w'
              go_simp
              with_reducible rfl
            rotate_left
            · simp only [Act.put, List.setIfInBounds_toArray, List.set_cons_zero, List.set_cons_succ, i64_w, i32_w]
              rfl
            refine done_ (by kernel_rfl) ?_
            try go_wp2
            go_ret
            exact ⟨er, bel⟩
        · replace c58 := Bool.eq_false_iff.mpr c58
          subst c58
          have H1 : (some false) = some r := by rw [if_neg (show ¬ (false = true) by decide)] at H; exact H
          clear H
          have H := H1
          clear H1
          obtain rfl := Option.some.inj H
          go_enter Try.func3, Try.ntmps3
          try go_wp2_with (first | ((with_reducible refine gate_dst (N := 2) rfl ?_); refine box_event ?hg (N := 2) ?hd (cs := #[.int .i64 a0_0, .slice A0_1 l0_1.length c0_1]) (t := 24) ?hr ?_; (case hd => rfl); (case hg => rfl); (case hr => first | (go_simp; done) | (go_simp; rfl)); intro gb129 hg w138 hbox hb; have BK129 := Aside0.mk (hbox); have GW129 := Aside0.mk ((bsz hg : w.heap.size ≤ gb129)); have GE129 := Aside0.mk ((bsz hg : w.heap.size ≤ gb129)); replace HB := Aside0.mk (below_step bel hb); clear hb hbox hg) | ((with_reducible refine gate_dst (N := 3) rfl ?_); refine box_event ?hg (N := 3) ?hd (cs := #[.int .i64 a1_0, .slice A1_1 l1_1.length c1_1]) (t := 24) ?hr ?_; (case hd => rfl); (case hg => rfl); (case hr => first | (go_simp; done) | (go_simp; rfl)); intro gb130 hg w139 hbox hb; have BK130 := Aside0.mk (hbox); have GW130 := Aside0.mk ((bsz hg : w.heap.size ≤ gb130)); have GE130 := Aside0.mk ((bsz hg : w.heap.size ≤ gb130)); have NB129_130 := Aside0.mk ((nlt hg BK129.out : gb129 ≠ gb130)); have NB130_129 := Aside0.mk ((ngt hg BK129.out : gb130 ≠ gb129)); replace BK129 := Aside0.mk (bb BK129.out hb); replace HB := Aside0.mk (below_step bel hb); clear hb hbox hg; have hnb140 := NB129_130.out; have hnc140 := NB130_129.out; obtain ⟨hcz141_0, hcz141_1, hfz141_0, hfz141_1⟩ := cf2 BK129.out) | ((with_reducible refine gate_callee (f := 8) rfl ?_); refine goesL_ (some 12) rfl rfl Try.func8 (by kernel_rfl) rfl #[.agg #[.int .i64 a0_0, .slice A0_1 l0_1.length c0_1], .int .i64 1048576] rfl ga ?_; (with_reducible refine (laws_szSent.calls a0_0 _ _ l0_1 1048576 t131 _ ?side1 ?side2 A3.out).mono ?_); (case side1 => exact ck (Kd.C_below HR0_1.out HB.out)); (case side2 => exact HC0_1.out); rintro e w142 ⟨rfl, hb⟩; refine ⟨_, rfl, ?_⟩; replace BK129 := Aside0.mk (bb BK129.out hb); replace BK130 := Aside0.mk (bb BK130.out hb); replace HB := Aside0.mk (below_step bel hb); (try clear hb); obtain ⟨hcz143_0, hcz143_1, hfz143_0, hfz143_1⟩ := cf2 BK130.out) | ((with_reducible refine gate_callee (f := 8) rfl ?_); refine goesL_ (some 17) rfl rfl Try.func8 (by kernel_rfl) rfl #[.agg #[.int .i64 a1_0, .slice A1_1 l1_1.length c1_1], .int .i64 t131] rfl ga ?_; (with_reducible refine (laws_szSent.calls a1_0 _ _ l1_1 t131 t132 _ ?side1 ?side2 A10.out).mono ?_); (case side1 => exact ck (Kd.C_below HR1_1.out HB.out)); (case side2 => exact HC1_1.out); rintro e w144 ⟨rfl, hb⟩; refine ⟨_, rfl, ?_⟩; replace BK129 := Aside0.mk (bb BK129.out hb); replace BK130 := Aside0.mk (bb BK130.out hb); replace HB := Aside0.mk (below_step bel hb); (try clear hb)))
          replace BK129 := Aside0.mk (blk_drew BK129.out)
          replace BK130 := Aside0.mk (blk_drew BK130.out)
          replace HB := Aside0.mk (below_drew1 HB.out)
          refine start_ (n := 6) (S := fun w' => w'.cell? ⟨gb129, 0, none⟩ = some (.int .i64 a0_0) ∧ w'.cell? ⟨gb129, 1, none⟩ = some (.slice A0_1 l0_1.length c0_1) ∧ w'.cell? ⟨gb130, 0, none⟩ = some (.int .i64 a1_0) ∧ w'.cell? ⟨gb130, 1, none⟩ = some (.slice A1_1 l1_1.length c1_1)) (ds := []) #[false, false, false, false, false, false] (by kernel_rfl) rfl rfl ⟨(blk_cell BK129.out 0).trans rfl, (blk_cell BK129.out 1).trans rfl, (blk_cell BK130.out 0).trans rfl, (blk_cell BK130.out 1).trans rfl⟩ (fun hHeld => ?_)
          generalize w144.drew = w145 at BK129 BK130 HB hHeld ⊢
          refine take_ (i := 0) (N := some 20) (v := ?_) (a' := ?_) #[true, false, false, false, false, false] rfl rfl (by kernel_rfl) (fun _ _ _ h => h) (Or.inl ⟨by rfl, ?_⟩) hHeld ?_ ?_
          rotate_left
          · rintro w' ⟨s0, s1, s2, s3⟩
            go_simp
            with_reducible rfl
          rotate_left
          · simp only [Act.put, List.setIfInBounds_toArray, List.set_cons_zero, List.set_cons_succ, i64_w, i32_w]
            rfl
          refine take_ (i := 2) (N := some 22) (v := ?_) (a' := ?_) #[true, false, true, false, false, false] rfl rfl (by kernel_rfl) (fun _ _ _ h => h) (Or.inl ⟨by rfl, ?_⟩) hHeld ?_ ?_
          rotate_left
          · rintro w' ⟨s0, s1, s2, s3⟩
            go_simp
            with_reducible rfl
          rotate_left
          · simp only [Act.put, List.setIfInBounds_toArray, List.set_cons_zero, List.set_cons_succ, i64_w, i32_w]
            rfl
          refine one_ (i := 1) (N := some 21) #[true, true, true, false, false, false] rfl rfl (by kernel_rfl) (by decide) (fun K hK => ?_)
          refine goes_ Try.func10 (by kernel_rfl) rfl #[.agg #[.int .i64 a0_0, .slice A0_1 l0_1.length c0_1]] (by rfl) rfl rfl ga ?_
          with_reducible refine (laws_toSent.calls k a0_0 _ _ l0_1 t133 t134 _ ?side1 ?side2 A19.out).mono ?_
          (case side1 => exact ck (Kd.C_below HR0_1.out HB.out))
          (case side2 => exact HC0_1.out)
          rintro e w146 ⟨v135, rfl, ho0, hb⟩
          refine ⟨_, rfl, ?_⟩
          have HO136 := Aside0.mk (Kd.R_lower ho0 (below_size bel))
          replace BK129 := Aside0.mk (bb BK129.out hb)
          replace BK130 := Aside0.mk (bb BK130.out hb)
          replace HB := Aside0.mk (below_step bel hb)
          (try clear hb)
          (try clear hb2)
          (try clear hk)
          (try clear hi)
          (try clear ho0)
          refine hK.out _ _ ⟨(blk_cell BK129.out 0).trans rfl, (blk_cell BK129.out 1).trans rfl, (blk_cell BK130.out 0).trans rfl, (blk_cell BK130.out 1).trans rfl⟩ (fun hHeld => ?_)
          clear hK K
          refine norm_ (a' := ?_) ?_ ?_
          rotate_left
          · show Act.put _ (some 21) _ = _
            simp only [Act.put, List.setIfInBounds_toArray, List.set_cons_zero, List.set_cons_succ, i64_w, i32_w]
            rfl
          refine one_ (i := 3) (N := some 23) #[true, true, true, true, false, false] rfl rfl (by kernel_rfl) (by decide) (fun K hK => ?_)
          refine goes_ Try.func10 (by kernel_rfl) rfl #[.agg #[.int .i64 a1_0, .slice A1_1 l1_1.length c1_1]] (by rfl) rfl rfl ga ?_
          with_reducible refine (laws_toSent.calls k a1_0 _ _ l1_1 t137 t138 _ ?side1 ?side2 A20.out).mono ?_
          (case side1 => exact ck (Kd.C_below HR1_1.out HB.out))
          (case side2 => exact HC1_1.out)
          rintro e w147 ⟨v139, rfl, ho0, hb⟩
          refine ⟨_, rfl, ?_⟩
          have HO140 := Aside0.mk (Kd.R_lower (Kd.R_new' ho0 (Kd.R_lt (rk HO136.out))) (below_size bel))
          replace HO136 := Aside0.mk (Kd.R_elder' (rk HO136.out) (Kd.R_base ho0) hb)
          replace BK129 := Aside0.mk (bb BK129.out hb)
          replace BK130 := Aside0.mk (bb BK130.out hb)
          replace HB := Aside0.mk (below_step bel hb)
          (try clear hb)
          (try clear hb2)
          (try clear hk)
          (try clear hi)
          (try clear ho0)
          obtain ⟨Ao148, co148, eo148⟩ := Kd.R_slice HO136.out
          (first | subst eo148 | (injection eo148 with f1_ f2_ f3_; have f4_ := f1_.symm; have f5_ := f3_.symm; clear f1_ f2_ f3_; subst f4_; subst f5_))
          obtain ⟨Ao149, co149, eo149⟩ := Kd.R_slice HO140.out
          (first | subst eo149 | (injection eo149 with f1_ f2_ f3_; have f4_ := f1_.symm; have f5_ := f3_.symm; clear f1_ f2_ f3_; subst f4_; subst f5_))
          refine hK.out _ _ ⟨(blk_cell BK129.out 0).trans rfl, (blk_cell BK129.out 1).trans rfl, (blk_cell BK130.out 0).trans rfl, (blk_cell BK130.out 1).trans rfl⟩ (fun hHeld => ?_)
          clear hK K
          refine norm_ (a' := ?_) ?_ ?_
          rotate_left
          · show Act.put _ (some 23) _ = _
            simp only [Act.put, List.setIfInBounds_toArray, List.set_cons_zero, List.set_cons_succ, i64_w, i32_w]
            rfl
          refine one_ (i := 4) (N := some 24) #[true, true, true, true, true, false] rfl rfl (by kernel_rfl) (by decide) (fun K hK => ?_)
          refine goes_ Try.func9 (by kernel_rfl) rfl #[.agg #[.int .i64 t133, .slice Ao148 t134.length co148], .agg #[.int .i64 t137, .slice Ao149 t138.length co149]] (by rfl) rfl rfl ga ?_
          with_reducible refine (spec_SameSent.calls k t133 _ _ t134 t137 _ _ t138 t141 _ ?side1 ?side2 ?side3 ?side4 A21.out).mono ?_
          (case side1 => exact ck (Kd.R_reads' HO136.out).2.2)
          (case side2 => exact (Kd.R_reads' HO136.out).2.1)
          (case side3 => exact ck (Kd.R_reads' HO140.out).2.2)
          (case side4 => exact (Kd.R_reads' HO140.out).2.1)
          rintro e w150 ⟨rfl, hb⟩
          refine ⟨_, rfl, ?_⟩
          replace HO136 := Aside0.mk (Kd.R_below (rk HO136.out) hb)
          replace HO140 := Aside0.mk (Kd.R_below (rk HO140.out) hb)
          replace BK129 := Aside0.mk (bb BK129.out hb)
          replace BK130 := Aside0.mk (bb BK130.out hb)
          replace HB := Aside0.mk (below_step bel hb)
          (try clear hb)
          (try clear hb2)
          (try clear hk)
          (try clear hi)
          refine hK.out _ _ ⟨(blk_cell BK129.out 0).trans rfl, (blk_cell BK129.out 1).trans rfl, (blk_cell BK130.out 0).trans rfl, (blk_cell BK130.out 1).trans rfl⟩ (fun hHeld => ?_)
          clear hK K
          refine norm_ (a' := ?_) ?_ ?_
          rotate_left
          · show Act.put _ (some 24) _ = _
            simp only [Act.put, List.setIfInBounds_toArray, List.set_cons_zero, List.set_cons_succ, i64_w, i32_w]
            rfl
          refine pure_ (i := 5) (N := some 6) (v := ?_) (a' := ?_) #[true, true, true, true, true, true] rfl rfl (by kernel_rfl) (fun _ _ _ h => h) (Or.inl ⟨by rfl, ?_⟩) ?_ ?_
          rotate_left
          · intro w'
            go_simp
            with_reducible rfl
          rotate_left
          · simp only [Act.put, List.setIfInBounds_toArray, List.set_cons_zero, List.set_cons_succ, i64_w, i32_w]
            rfl
          refine done_ (by kernel_rfl) ?_
          obtain ⟨hcz151_0, hcz151_1, hfz151_0, hfz151_1⟩ := cf2 BK129.out
          try go_wp2_with (first | ((with_reducible refine gate_callee (f := 10) rfl ?_); refine goesL_ (some 26) rfl rfl Try.func10 (by kernel_rfl) rfl #[.agg #[.int .i64 a0_0, .slice A0_1 l0_1.length c0_1]] rfl ga ?_; (with_reducible refine (laws_toSent.calls k a0_0 _ _ l0_1 t142 t143 _ ?side1 ?side2 A22.out).mono ?_); (case side1 => exact ck (Kd.C_below HR0_1.out HB.out)); (case side2 => exact HC0_1.out); rintro e w152 ⟨v144, rfl, ho0, hb⟩; refine ⟨_, rfl, ?_⟩; have HO145 := Aside0.mk (Kd.R_lower (Kd.R_new' (Kd.R_new' ho0 (Kd.R_lt (rk HO136.out))) (Kd.R_lt (rk HO140.out))) (below_size bel)); replace HO136 := Aside0.mk (Kd.R_elder' (rk HO136.out) (Kd.R_base ho0) hb); replace HO140 := Aside0.mk (Kd.R_elder' (rk HO140.out) (Kd.R_base ho0) hb); replace BK129 := Aside0.mk (bb BK129.out hb); replace BK130 := Aside0.mk (bb BK130.out hb); replace HB := Aside0.mk (below_step bel hb); (try clear hb); (try clear ho0)) | ((with_reducible refine gate_dst (N := 7) rfl ?_); refine box_event ?hg (N := 7) ?hd (cs := #[.int .i64 0, .slice none 0 0]) (t := 27) ?hr ?_; (case hd => rfl); (case hg => rfl); (case hr => first | (go_simp; done) | (go_simp; rfl)); intro gb146 hg w153 hbox hb; have BK146 := Aside0.mk (hbox); have GW146 := Aside0.mk ((bsz hg : w.heap.size ≤ gb146)); have GE146 := Aside0.mk ((bsz hg : w.heap.size ≤ gb146)); have NB129_146 := Aside0.mk ((nlt hg BK129.out : gb129 ≠ gb146)); have NB146_129 := Aside0.mk ((ngt hg BK129.out : gb146 ≠ gb129)); have NB130_146 := Aside0.mk ((nlt hg BK130.out : gb130 ≠ gb146)); have NB146_130 := Aside0.mk ((ngt hg BK130.out : gb146 ≠ gb130)); replace HO136 := Aside0.mk (Kd.R_below (rk HO136.out) hb); replace HO140 := Aside0.mk (Kd.R_below (rk HO140.out) hb); replace HO145 := Aside0.mk (Kd.R_below (rk HO145.out) hb); replace BK129 := Aside0.mk (bb BK129.out hb); replace BK130 := Aside0.mk (bb BK130.out hb); replace HB := Aside0.mk (below_step bel hb); clear hb hbox hg; have hnb154 := NB146_129.out; have hnc154 := NB129_146.out; have hnb155 := NB146_130.out; have hnc155 := NB130_146.out; obtain ⟨hcz156_0, hcz156_1, hfz156_0, hfz156_1⟩ := cf2 BK146.out; obtain ⟨Ao157, co157, eo157⟩ := Kd.R_slice HO145.out; subst eo157; obtain ⟨hcz158_0, hcz158_1, hfz158_0, hfz158_1⟩ := cf2 BK130.out) | ((with_reducible refine gate_callee (f := 10) rfl ?_); refine goesL_ (some 28) rfl rfl Try.func10 (by kernel_rfl) rfl #[.agg #[.int .i64 a1_0, .slice A1_1 l1_1.length c1_1]] rfl ga ?_; (with_reducible refine (laws_toSent.calls k a1_0 _ _ l1_1 t147 t148 _ ?side1 ?side2 A23.out).mono ?_); (case side1 => exact Kd.C_below HR1_1.out bel); (case side2 => exact HC1_1.out); rintro e w159 ⟨v149, rfl, ho0, hb⟩; refine ⟨_, rfl, ?_⟩; have HO150 := Aside0.mk (Kd.R_lower (Kd.R_new' (Kd.R_new' (Kd.R_new' ho0 (Kd.R_lt (by exact rk (Kd.R_mono (Kd.R_far (p := ⟨gb146, 1, none⟩) (Kd.R_far (p := ⟨gb146, 0, none⟩) (Kd.R_types HO136.out BK146.out (by decide)) (fun _ hk => hk.2) (.int .i64 t142)) (fun _ hk => hk.2) (.slice Ao157 t143.length co157)) (fun _ h_ => h_.1))))) (Kd.R_lt (by exact rk (Kd.R_mono (Kd.R_far (p := ⟨gb146, 1, none⟩) (Kd.R_far (p := ⟨gb146, 0, none⟩) (Kd.R_types HO140.out BK146.out (by decide)) (fun _ hk => hk.2) (.int .i64 t142)) (fun _ hk => hk.2) (.slice Ao157 t143.length co157)) (fun _ h_ => h_.1))))) (Kd.R_lt (by exact rk (Kd.R_mono (Kd.R_far (p := ⟨gb146, 1, none⟩) (Kd.R_far (p := ⟨gb146, 0, none⟩) (Kd.R_types HO145.out BK146.out (by decide)) (fun _ hk => hk.2) (.int .i64 t142)) (fun _ hk => hk.2) (.slice Ao157 t143.length co157)) (fun _ h_ => h_.1))))) (below_size bel)); replace HO136 := Aside0.mk (Kd.R_elder' (by exact rk (Kd.R_mono (Kd.R_far (p := ⟨gb146, 1, none⟩) (Kd.R_far (p := ⟨gb146, 0, none⟩) (Kd.R_types HO136.out BK146.out (by decide)) (fun _ hk => hk.2) (.int .i64 t142)) (fun _ hk => hk.2) (.slice Ao157 t143.length co157)) (fun _ h_ => h_.1))) (Kd.R_base ho0) hb); replace HO140 := Aside0.mk (Kd.R_elder' (by exact rk (Kd.R_mono (Kd.R_far (p := ⟨gb146, 1, none⟩) (Kd.R_far (p := ⟨gb146, 0, none⟩) (Kd.R_types HO140.out BK146.out (by decide)) (fun _ hk => hk.2) (.int .i64 t142)) (fun _ hk => hk.2) (.slice Ao157 t143.length co157)) (fun _ h_ => h_.1))) (Kd.R_base ho0) hb); replace HO145 := Aside0.mk (Kd.R_elder' (by exact rk (Kd.R_mono (Kd.R_far (p := ⟨gb146, 1, none⟩) (Kd.R_far (p := ⟨gb146, 0, none⟩) (Kd.R_types HO145.out BK146.out (by decide)) (fun _ hk => hk.2) (.int .i64 t142)) (fun _ hk => hk.2) (.slice Ao157 t143.length co157)) (fun _ h_ => h_.1))) (Kd.R_base ho0) hb); replace BK129 := Aside0.mk (bb BK129.out hb); replace BK130 := Aside0.mk (bb BK130.out hb); replace BK146 := Aside0.mk (blk_below (g := gb146) (o := .cells #[.int .i64 t142, .slice Ao157 t143.length co157] 27 (0, 0)) (by (with_reducible repeat (first | refine blk_drewN ?_ _ | refine blk_drew ?_ | refine blk_alloc ?_ _)); refine blk_put (cs := #[.int .i64 t142, .slice none 0 0]) ?_ 1 _ rfl; (with_reducible repeat (first | refine blk_drewN ?_ _ | refine blk_drew ?_ | refine blk_alloc ?_ _)); refine blk_put (cs := #[.int .i64 0, .slice none 0 0]) ?_ 0 _ rfl; (with_reducible repeat (first | refine blk_drewN ?_ _ | refine blk_drew ?_ | refine blk_alloc ?_ _)); exact BK146.out) hb); replace HB := Aside0.mk (below_step bel hb); (try clear hb); (try clear ho0)) | ((with_reducible refine gate_dst (N := 8) rfl ?_); refine box_event ?hg (N := 8) ?hd (cs := #[.int .i64 0, .slice none 0 0]) (t := 27) ?hr ?_; (case hd => rfl); (case hg => rfl); (case hr => first | (go_simp; done) | (go_simp; rfl)); intro gb151 hg w160 hbox hb; have BK151 := Aside0.mk (hbox); have GW151 := Aside0.mk ((bsz hg : w.heap.size ≤ gb151)); have GE151 := Aside0.mk ((bsz hg : w.heap.size ≤ gb151)); have NB129_151 := Aside0.mk ((nlt hg BK129.out : gb129 ≠ gb151)); have NB151_129 := Aside0.mk ((ngt hg BK129.out : gb151 ≠ gb129)); have NB130_151 := Aside0.mk ((nlt hg BK130.out : gb130 ≠ gb151)); have NB151_130 := Aside0.mk ((ngt hg BK130.out : gb151 ≠ gb130)); have NB146_151 := Aside0.mk ((nlt hg BK146.out : gb146 ≠ gb151)); have NB151_146 := Aside0.mk ((ngt hg BK146.out : gb151 ≠ gb146)); replace HO136 := Aside0.mk (Kd.R_below (rk HO136.out) hb); replace HO140 := Aside0.mk (Kd.R_below (rk HO140.out) hb); replace HO145 := Aside0.mk (Kd.R_below (rk HO145.out) hb); replace HO150 := Aside0.mk (Kd.R_below (rk HO150.out) hb); replace BK129 := Aside0.mk (bb BK129.out hb); replace BK130 := Aside0.mk (bb BK130.out hb); replace BK146 := Aside0.mk (bb BK146.out hb); replace HB := Aside0.mk (below_step bel hb); clear hb hbox hg; have hnb161 := NB151_129.out; have hnc161 := NB129_151.out; have hnb162 := NB151_130.out; have hnc162 := NB130_151.out; have hnb163 := NB151_146.out; have hnc163 := NB146_151.out; obtain ⟨hcz164_0, hcz164_1, hfz164_0, hfz164_1⟩ := cf2 BK151.out; obtain ⟨Ao165, co165, eo165⟩ := Kd.R_slice HO150.out; subst eo165; obtain ⟨hcz166_0, hcz166_1, hfz166_0, hfz166_1⟩ := cf2 BK146.out) | ((with_reducible refine gate_callee (f := 11) rfl ?_); refine goesL_ (some 31) rfl rfl Try.func11 (by kernel_rfl) rfl #[.agg #[.int .i64 t142, .slice Ao157 t143.length co157], .agg #[.int .i64 t147, .slice Ao165 t148.length co165]] rfl ga ?_; (with_reducible refine (impl_SameSent.calls k t142 _ _ t143 t147 _ _ t148 t152 _ ?side1 ?side2 ?side3 ?side4 A24.out).mono ?_); (case side1 => refine (Kd.R_reads' (e := 3) (base := w.heap.size) (ok := fun k_ => (((True ∧ some k_ ≠ (.slice Ao148 t134.length co148 : Value).ownBlock) ∧ some k_ ≠ (.slice Ao149 t138.length co149 : Value).ownBlock) ∧ some k_ ≠ (.slice Ao165 t148.length co165 : Value).ownBlock)) (n := t143.length) (c := co157) ?_).2.2; exact (by exact rk (Kd.R_mono (Kd.R_far (p := ⟨gb151, 1, none⟩) (Kd.R_far (p := ⟨gb151, 0, none⟩) (Kd.R_types HO145.out BK151.out (by decide)) (fun _ hk => hk.2) (.int .i64 t147)) (fun _ hk => hk.2) (.slice Ao165 t148.length co165)) (fun _ h_ => h_.1)))); (case side2 => exact (Kd.R_reads' HO145.out).2.1); (case side3 => refine (Kd.R_reads' (e := 3) (base := w.heap.size) (ok := fun k_ => (((True ∧ some k_ ≠ (.slice Ao148 t134.length co148 : Value).ownBlock) ∧ some k_ ≠ (.slice Ao149 t138.length co149 : Value).ownBlock) ∧ some k_ ≠ (.slice Ao157 t143.length co157 : Value).ownBlock)) (n := t148.length) (c := co165) ?_).2.2; exact (by exact rk (Kd.R_mono (Kd.R_far (p := ⟨gb151, 1, none⟩) (Kd.R_far (p := ⟨gb151, 0, none⟩) (Kd.R_types HO150.out BK151.out (by decide)) (fun _ hk => hk.2) (.int .i64 t147)) (fun _ hk => hk.2) (.slice Ao165 t148.length co165)) (fun _ h_ => h_.1)))); (case side4 => exact (Kd.R_reads' HO150.out).2.1); rintro e w167 ⟨rfl, hb⟩; refine ⟨_, rfl, ?_⟩; replace HO136 := Aside0.mk (Kd.R_below (by exact rk (Kd.R_mono (Kd.R_far (p := ⟨gb151, 1, none⟩) (Kd.R_far (p := ⟨gb151, 0, none⟩) (Kd.R_types HO136.out BK151.out (by decide)) (fun _ hk => hk.2) (.int .i64 t147)) (fun _ hk => hk.2) (.slice Ao165 t148.length co165)) (fun _ h_ => h_.1))) hb); replace HO140 := Aside0.mk (Kd.R_below (by exact rk (Kd.R_mono (Kd.R_far (p := ⟨gb151, 1, none⟩) (Kd.R_far (p := ⟨gb151, 0, none⟩) (Kd.R_types HO140.out BK151.out (by decide)) (fun _ hk => hk.2) (.int .i64 t147)) (fun _ hk => hk.2) (.slice Ao165 t148.length co165)) (fun _ h_ => h_.1))) hb); replace HO145 := Aside0.mk (Kd.R_below (by exact rk (Kd.R_mono (Kd.R_far (p := ⟨gb151, 1, none⟩) (Kd.R_far (p := ⟨gb151, 0, none⟩) (Kd.R_types HO145.out BK151.out (by decide)) (fun _ hk => hk.2) (.int .i64 t147)) (fun _ hk => hk.2) (.slice Ao165 t148.length co165)) (fun _ h_ => h_.1))) hb); replace HO150 := Aside0.mk (Kd.R_below (by exact rk (Kd.R_mono (Kd.R_far (p := ⟨gb151, 1, none⟩) (Kd.R_far (p := ⟨gb151, 0, none⟩) (Kd.R_types HO150.out BK151.out (by decide)) (fun _ hk => hk.2) (.int .i64 t147)) (fun _ hk => hk.2) (.slice Ao165 t148.length co165)) (fun _ h_ => h_.1))) hb); replace BK129 := Aside0.mk (bb BK129.out hb); replace BK130 := Aside0.mk (bb BK130.out hb); replace BK146 := Aside0.mk (bb BK146.out hb); replace BK151 := Aside0.mk (blk_below (g := gb151) (o := .cells #[.int .i64 t147, .slice Ao165 t148.length co165] 27 (0, 0)) (by (with_reducible repeat (first | refine blk_drewN ?_ _ | refine blk_drew ?_ | refine blk_alloc ?_ _)); refine blk_put (cs := #[.int .i64 t147, .slice none 0 0]) ?_ 1 _ rfl; (with_reducible repeat (first | refine blk_drewN ?_ _ | refine blk_drew ?_ | refine blk_alloc ?_ _)); refine blk_put (cs := #[.int .i64 0, .slice none 0 0]) ?_ 0 _ rfl; (with_reducible repeat (first | refine blk_drewN ?_ _ | refine blk_drew ?_ | refine blk_alloc ?_ _)); exact BK151.out) hb); replace HB := Aside0.mk (below_step bel hb); (try clear hb)))
          replace HO136 := Aside0.mk (Kd.R_drew HO136.out)
          replace HO140 := Aside0.mk (Kd.R_drew HO140.out)
          replace HO145 := Aside0.mk (Kd.R_drew HO145.out)
          replace HO150 := Aside0.mk (Kd.R_drew HO150.out)
          replace BK129 := Aside0.mk (blk_drew BK129.out)
          replace BK130 := Aside0.mk (blk_drew BK130.out)
          replace BK146 := Aside0.mk (blk_drew BK146.out)
          replace BK151 := Aside0.mk (blk_drew BK151.out)
          replace HB := Aside0.mk (below_drew1 HB.out)
          refine start_ (n := 5) (S := fun w' => w'.cell? ⟨gb146, 0, none⟩ = some (.int .i64 t142) ∧ w'.cell? ⟨gb146, 1, none⟩ = some (.slice Ao157 t143.length co157) ∧ w'.cell? ⟨gb129, 0, none⟩ = some (.int .i64 a0_0) ∧ w'.cell? ⟨gb129, 1, none⟩ = some (.slice A0_1 l0_1.length c0_1)) (ds := []) #[false, false, false, false, false] (by kernel_rfl) rfl rfl ⟨(blk_cell BK146.out 0).trans rfl, (blk_cell BK146.out 1).trans rfl, (blk_cell BK129.out 0).trans rfl, (blk_cell BK129.out 1).trans rfl⟩ (fun hHeld => ?_)
          generalize w167.drew = w168 at HO136 HO140 HO145 HO150 BK129 BK130 BK146 BK151 HB hHeld ⊢
          refine take_ (i := 0) (N := some 35) (v := ?_) (a' := ?_) #[true, false, false, false, false] rfl rfl (by kernel_rfl) (fun _ _ _ h => h) (Or.inl ⟨by rfl, ?_⟩) hHeld ?_ ?_
          rotate_left
          · rintro w' ⟨s0, s1, s2, s3⟩
            go_simp
            with_reducible rfl
          rotate_left
          · simp only [Act.put, List.setIfInBounds_toArray, List.set_cons_zero, List.set_cons_succ, i64_w, i32_w]
            rfl
          refine take_ (i := 1) (N := some 36) (v := ?_) (a' := ?_) #[true, true, false, false, false] rfl rfl (by kernel_rfl) (fun _ _ _ h => h) (Or.inl ⟨by rfl, ?_⟩) hHeld ?_ ?_
          rotate_left
          · rintro w' ⟨s0, s1, s2, s3⟩
            go_simp
            with_reducible rfl
          rotate_left
          · simp only [Act.put, List.setIfInBounds_toArray, List.set_cons_zero, List.set_cons_succ, i64_w, i32_w]
            rfl
          refine one_ (i := 2) (N := some 37) #[true, true, true, false, false] rfl rfl (by kernel_rfl) (by decide) (fun K hK => ?_)
          refine goes_ Try.func10 (by kernel_rfl) rfl #[.agg #[.int .i64 a0_0, .slice A0_1 l0_1.length c0_1]] (by rfl) rfl rfl ga ?_
          with_reducible refine (laws_toSent.calls k a0_0 _ _ l0_1 t153 t154 _ ?side1 ?side2 A56.out).mono ?_
          (case side1 => exact ck (Kd.C_below HR0_1.out HB.out))
          (case side2 => exact HC0_1.out)
          rintro e w169 ⟨v155, rfl, ho0, hb⟩
          refine ⟨_, rfl, ?_⟩
          have HO156 := Aside0.mk (Kd.R_lower (Kd.R_new' (Kd.R_new' (Kd.R_new' (Kd.R_new' ho0 (Kd.R_lt (rk HO136.out))) (Kd.R_lt (rk HO140.out))) (Kd.R_lt (rk HO145.out))) (Kd.R_lt (rk HO150.out))) (below_size bel))
          replace HO136 := Aside0.mk (Kd.R_elder' (rk HO136.out) (Kd.R_base ho0) hb)
          replace HO140 := Aside0.mk (Kd.R_elder' (rk HO140.out) (Kd.R_base ho0) hb)
          replace HO145 := Aside0.mk (Kd.R_elder' (rk HO145.out) (Kd.R_base ho0) hb)
          replace HO150 := Aside0.mk (Kd.R_elder' (rk HO150.out) (Kd.R_base ho0) hb)
          replace BK129 := Aside0.mk (bb BK129.out hb)
          replace BK130 := Aside0.mk (bb BK130.out hb)
          replace BK146 := Aside0.mk (bb BK146.out hb)
          replace BK151 := Aside0.mk (bb BK151.out hb)
          replace HB := Aside0.mk (below_step bel hb)
          (try clear hb)
          (try clear hb2)
          (try clear hk)
          (try clear hi)
          (try clear ho0)
          obtain ⟨Ao170, co170, eo170⟩ := Kd.R_slice HO156.out
          (first | subst eo170 | (injection eo170 with f1_ f2_ f3_; have f4_ := f1_.symm; have f5_ := f3_.symm; clear f1_ f2_ f3_; subst f4_; subst f5_))
          refine hK.out _ _ ⟨(blk_cell BK146.out 0).trans rfl, (blk_cell BK146.out 1).trans rfl, (blk_cell BK129.out 0).trans rfl, (blk_cell BK129.out 1).trans rfl⟩ (fun hHeld => ?_)
          clear hK K
          refine norm_ (a' := ?_) ?_ ?_
          rotate_left
          · show Act.put _ (some 37) _ = _
            simp only [Act.put, List.setIfInBounds_toArray, List.set_cons_zero, List.set_cons_succ, i64_w, i32_w]
            rfl
          refine one_ (i := 3) (N := some 38) #[true, true, true, true, false] rfl rfl (by kernel_rfl) (by decide) (fun K hK => ?_)
          refine goes_ Try.func12 (by kernel_rfl) rfl #[.agg #[.int .i64 t142, .slice Ao157 t143.length co157], .agg #[.int .i64 t153, .slice Ao170 t154.length co170]] (by rfl) rfl rfl ga ?_
          with_reducible refine (laws_eqSent.calls k t142 _ _ t143 t153 _ _ t154 false _ ?side1 ?side2 ?side3 ?side4 A57.out).mono ?_
          (case side1 => exact ck (Kd.R_reads' HO145.out).2.2)
          (case side2 => exact (Kd.R_reads' HO145.out).2.1)
          (case side3 => exact ck (Kd.R_reads' HO156.out).2.2)
          (case side4 => exact (Kd.R_reads' HO156.out).2.1)
          rintro e w171 ⟨rfl, hb⟩
          refine ⟨_, rfl, ?_⟩
          replace HO136 := Aside0.mk (Kd.R_below (rk HO136.out) hb)
          replace HO140 := Aside0.mk (Kd.R_below (rk HO140.out) hb)
          replace HO145 := Aside0.mk (Kd.R_below (rk HO145.out) hb)
          replace HO150 := Aside0.mk (Kd.R_below (rk HO150.out) hb)
          replace HO156 := Aside0.mk (Kd.R_below (rk HO156.out) hb)
          replace BK129 := Aside0.mk (bb BK129.out hb)
          replace BK130 := Aside0.mk (bb BK130.out hb)
          replace BK146 := Aside0.mk (bb BK146.out hb)
          replace BK151 := Aside0.mk (bb BK151.out hb)
          replace HB := Aside0.mk (below_step bel hb)
          (try clear hb)
          (try clear hb2)
          (try clear hk)
          (try clear hi)
          refine hK.out _ _ ⟨(blk_cell BK146.out 0).trans rfl, (blk_cell BK146.out 1).trans rfl, (blk_cell BK129.out 0).trans rfl, (blk_cell BK129.out 1).trans rfl⟩ (fun hHeld => ?_)
          clear hK K
          refine norm_ (a' := ?_) ?_ ?_
          rotate_left
          · show Act.put _ (some 38) _ = _
            simp only [Act.put, List.setIfInBounds_toArray, List.set_cons_zero, List.set_cons_succ, i64_w, i32_w]
            rfl
          refine pure_ (i := 4) (N := some 39) (v := ?_) (a' := ?_) #[true, true, true, true, true] rfl rfl (by kernel_rfl) (fun _ _ _ h => h) (Or.inl ⟨by rfl, ?_⟩) ?_ ?_
          rotate_left
          · intro w'
            go_simp
            with_reducible rfl
          rotate_left
          · simp only [Act.put, List.setIfInBounds_toArray, List.set_cons_zero, List.set_cons_succ, i64_w, i32_w]
            rfl
          refine done_ (by kernel_rfl) ?_
          try go_wp2
          go_ret
          exact ⟨er, bel⟩

end Go.Proofs.Ytmpealaejigbfaa.X
