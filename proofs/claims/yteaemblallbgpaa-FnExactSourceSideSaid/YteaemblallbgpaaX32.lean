-- Written by a program of this session (wip/xp.py, over the kit's print) out of the translation: functions, and the walks that show them.
import Derived.Test.YteaemblallbgpaaX0
import Derived.Test.YteaemblallbgpaaX1
import Derived.Test.YteaemblallbgpaaX3
import Derived.Test.YteaemblallbgpaaX6
import Derived.Test.YteaemblallbgpaaX9
import Derived.Test.YteaemblallbgpaaX11
import Derived.Test.YteaemblallbgpaaX16
import Derived.Test.YteaemblallbgpaaX27
import Derived.Test.YteaemblallbgpaaX29
import Derived.Test.YteaemblallbgpaaX30
import Derived.Test.YteaemblallbgpaaX31
namespace Go.Proofs.Yteaemblallbgpaa.X
open Go.RowKit Go.Proofs.YteaemblallbgpaaW.PrintWords Go.Proofs.YteaemblallbgpaaW.PrintLast Go.Proofs.YteaemblallbgpaaW.PrintMore
attribute [local go_sem] max2_int min2_int max_two min_two max_three min_three max_four min_four   -- for this text's walks alone
set_option linter.unusedVariables false
set_option linter.unusedSimpArgs false

/-! ### laws_FnExactSourceSide: function 8 (this session's own text: wip/xext.py, law_text) -/
def laws_FnExactSourceSide.f (k : Nat) (a0_0 : Int) (l0_1 : List (S77)) (a1 : Int) (l2 : List Int) : Option Bool := (if (l2.length : Int) > 1048576 then (some true) else ((laws_szNet.f a0_0 l0_1 1048576).bind fun t1 => (if t1 < 0 then (some true) else ((laws_toNet.f k a0_0 l0_1).bind fun b4 => ((laws_toIntS.f k l2).bind fun t12 => ((spec_SourceSide.f k b4.1 b4.2 a1 t12).bind fun t20 => ((laws_toNet.f k a0_0 l0_1).bind fun b7 => ((laws_toIntS.f k l2).bind fun t37 => ((impl_SourceSide.f k b7.1 b7.2 a1 t37).bind fun t45 => ((laws_eqBoolS.f k t45 t20).bind fun t53 => (if t53 = true then ((laws_toNet.f k a0_0 l0_1).bind fun b13 => ((laws_eqNet.f k b7.1 b7.2 b13.1 b13.2).bind fun t64 => (if t64 = true then ((laws_toIntS.f k l2).bind fun t66 => ((laws_eqIntS.f k t37 t66).bind fun t74 => (if t74 = true then ((laws_markNet.f k b7.1 b7.2 1).bind fun b19 => ((laws_markIntS.f k t37 b19.1).bind fun b20 => (if b20.1 < 0 then (some false) else ((laws_eqBoolS.f k t45 t20).bind fun t82 => (if t82 = true then ((laws_markBoolS.f k t45 1).bind fun b24 => ((laws_heldBoolS.f k b24.2 1).bind fun t87 => (if t87 < 0 then (some false) else (if t87 = b24.1 then ((laws_toNet.f k a0_0 l0_1).bind fun b28 => ((laws_toIntS.f k l2).bind fun t98 => ((impl_SourceSide.f k b28.1 b28.2 a1 t98).bind fun t106 => ((laws_eqBoolS.f k t106 t20).bind fun t114 => (if t114 = true then ((laws_heldBoolS.f k b24.2 1).bind fun t116 => (if t116 < 0 then (some false) else (if t116 = b24.1 then (some true) else (some false)))) else (some false)))))) else (some false))))) else (some false)))))) else (some false)))) else (some false)))) else (some false))))))))))))
theorem laws_FnExactSourceSide.mono : ∀ a0 a1 a2 a3 k, LeO (laws_FnExactSourceSide.f k a0 a1 a2 a3) (laws_FnExactSourceSide.f (k + 1) a0 a1 a2 a3) := by
  intro a0 a1 a2 a3 k
  unfold laws_FnExactSourceSide.f
  repeat' first
      | (with_reducible exact laws_toNet.mono _ _ _)
      | (with_reducible exact laws_eqNet.mono _ _ _ _ _)
      | (with_reducible exact laws_toIntS.mono _ _)
      | (with_reducible exact laws_eqIntS.mono _ _ _)
      | (with_reducible exact laws_eqBoolS.mono _ _ _)
      | (with_reducible exact spec_SourceSide.mono _ _ _ _ _)
      | (with_reducible exact impl_SourceSide.mono _ _ _ _ _)
      | (with_reducible exact laws_markNet.mono _ _ _ _)
      | (with_reducible exact laws_markIntS.mono _ _ _)
      | (with_reducible exact laws_markBoolS.mono _ _ _)
      | (with_reducible exact laws_heldBoolS.mono _ _ _)
      | (with_reducible exact LeO.refl _)
      | (with_reducible exact LeO.none _)
      | (with_reducible refine LeO.ite ?_ ?_)
      | (with_reducible refine LeO.bind ?_ (fun _ => ?_))
      | exact laws_toNet.mono _ _ _
      | exact laws_eqNet.mono _ _ _ _ _
      | exact laws_toIntS.mono _ _
      | exact laws_eqIntS.mono _ _ _
      | exact laws_eqBoolS.mono _ _ _
      | exact spec_SourceSide.mono _ _ _ _ _
      | exact impl_SourceSide.mono _ _ _ _ _
      | exact laws_markNet.mono _ _ _ _
      | exact laws_markIntS.mono _ _ _
      | exact laws_markBoolS.mono _ _ _
      | exact laws_heldBoolS.mono _ _ _
      | exact LeO.none _
      | refine LeO.ite ?_ ?_
      | refine LeO.bind ?_ (fun _ => ?_)
set_option maxHeartbeats 16000000 in
set_option maxRecDepth 100000 in
theorem laws_FnExactSourceSide.calls (k : Nat) (a0_0 : Int) (A0_1 : Option Addr) (c0_1 : Nat) (l0_1 : List (S77)) (a1 : Int) (A2 : Option Addr) (c2 : Nat) (l2 : List Int) (r : Bool) (w : World) (hr0_1 : Kd.C k77 w A0_1 l0_1.length l0_1) (hc0_1 : l0_1.length ≤ c0_1) (hr2 : Kd.C (Kd.int .i64) w A2 l2.length l2) (hc2 : l2.length ≤ c2) (h : laws_FnExactSourceSide.f k a0_0 l0_1 a1 l2 = some r) :
    Calls Try.prog 8 #[.agg #[.int .i64 a0_0, .slice A0_1 l0_1.length c0_1], .int .i64 a1, .slice A2 l2.length c2] w fun e w' => e = .returned (.bool r) ∧ Below w.heap.size w w' := by
  have HR0_1 := Aside0.mk hr0_1
  have HC0_1 := Aside0.mk hc0_1
  clear hr0_1 hc0_1
  have HR2 := Aside0.mk hr2
  have HC2 := Aside0.mk hc2
  clear hr2 hc2
  have HB := Aside0.mk (Below.refl w.heap.size w)
  have HM0 := Aside0.mk (Nat.zero_le w.heap.size)
  have H : (if (l2.length : Int) > 1048576 then (some true) else ((laws_szNet.f a0_0 l0_1 1048576).bind fun t1 => (if t1 < 0 then (some true) else ((laws_toNet.f k a0_0 l0_1).bind fun b4 => ((laws_toIntS.f k l2).bind fun t12 => ((spec_SourceSide.f k b4.1 b4.2 a1 t12).bind fun t20 => ((laws_toNet.f k a0_0 l0_1).bind fun b7 => ((laws_toIntS.f k l2).bind fun t37 => ((impl_SourceSide.f k b7.1 b7.2 a1 t37).bind fun t45 => ((laws_eqBoolS.f k t45 t20).bind fun t53 => (if t53 = true then ((laws_toNet.f k a0_0 l0_1).bind fun b13 => ((laws_eqNet.f k b7.1 b7.2 b13.1 b13.2).bind fun t64 => (if t64 = true then ((laws_toIntS.f k l2).bind fun t66 => ((laws_eqIntS.f k t37 t66).bind fun t74 => (if t74 = true then ((laws_markNet.f k b7.1 b7.2 1).bind fun b19 => ((laws_markIntS.f k t37 b19.1).bind fun b20 => (if b20.1 < 0 then (some false) else ((laws_eqBoolS.f k t45 t20).bind fun t82 => (if t82 = true then ((laws_markBoolS.f k t45 1).bind fun b24 => ((laws_heldBoolS.f k b24.2 1).bind fun t87 => (if t87 < 0 then (some false) else (if t87 = b24.1 then ((laws_toNet.f k a0_0 l0_1).bind fun b28 => ((laws_toIntS.f k l2).bind fun t98 => ((impl_SourceSide.f k b28.1 b28.2 a1 t98).bind fun t106 => ((laws_eqBoolS.f k t106 t20).bind fun t114 => (if t114 = true then ((laws_heldBoolS.f k b24.2 1).bind fun t116 => (if t116 < 0 then (some false) else (if t116 = b24.1 then (some true) else (some false)))) else (some false)))))) else (some false))))) else (some false)))))) else (some false)))) else (some false)))) else (some false)))))))))))) = some r := h
  clear h
  by_cases c1_ : (l2.length : Int) > 1048576
  · rw [if_pos c1_] at H
    have c1_b : decide ((l2.length : Int) > 1048576) = true := decide_eq_true c1_
    clear c1_
    have HE := Aside0.mk (Option.some.inj H)
    clear H
    go_enter Try.func8, Try.ntmps8
    go_wp2_with (first | ((with_reducible refine gate_dst (N := 3) rfl ?_); refine box_event ?hg (N := 3) ?hd (cs := #[.int .i64 a0_0, .slice A0_1 l0_1.length c0_1]) (t := 24) ?hr ?_; (case hd => rfl); (case hg => rfl); (case hr => first | (go_simp; done) | (go_simp; rfl)); intro gb3 hg wb3 hbox hb; have BK3 := Aside0.mk hbox; replace HM0 := Aside0.mk (Nat.le_trans HM0.out (below_size hb)); replace HB := Aside0.mk (below_step bel hb); clear hb hbox hg; obtain ⟨hz3_0, hz3_1⟩ := cc2 BK3.out))
    go_ret
    exact ⟨congrArg (fun b_ => Ending.returned (.bool b_)) HE.out, bel⟩
  · rw [if_neg c1_] at H
    have c1_b : decide ((l2.length : Int) > 1048576) = false := decide_eq_false c1_
    clear c1_
    replace H := Option.bind_eq_some_iff.mp H
    obtain ⟨t1, Af20, H⟩ := H
    (try dsimp only at H)
    have Af2 := Aside0.mk Af20
    clear Af20
    by_cases c3_ : t1 < 0
    · rw [if_pos c3_] at H
      have c3_b : decide (t1 < 0) = true := decide_eq_true c3_
      clear c3_
      have HE := Aside0.mk (Option.some.inj H)
      clear H
      go_enter Try.func8, Try.ntmps8
      go_wp2_with (first | ((with_reducible refine gate_dst (N := 3) rfl ?_); refine box_event ?hg (N := 3) ?hd (cs := #[.int .i64 a0_0, .slice A0_1 l0_1.length c0_1]) (t := 24) ?hr ?_; (case hd => rfl); (case hg => rfl); (case hr => first | (go_simp; done) | (go_simp; rfl)); intro gb3 hg wb3 hbox hb; have BK3 := Aside0.mk hbox; replace HM0 := Aside0.mk (Nat.le_trans HM0.out (below_size hb)); replace HB := Aside0.mk (below_step bel hb); clear hb hbox hg; obtain ⟨hz3_0, hz3_1⟩ := cc2 BK3.out) | ((with_reducible refine gate_callee (f := 11) rfl ?_); refine goesL_ (some 21) rfl rfl Try.func11 (by kernel_rfl) rfl #[.agg #[.int .i64 a0_0, .slice A0_1 l0_1.length c0_1], .int .i64 1048576] rfl ga ?_; (with_reducible refine (laws_szNet.calls a0_0 _ _ l0_1 1048576 t1 _ ?side1 ?side2 Af2.out).mono ?_); (case side1 => exact ck (Kd.C_below HR0_1.out HB.out)); (case side2 => exact HC0_1.out); rintro e W2 ⟨rfl, hb⟩; refine ⟨_, rfl, ?_⟩; replace BK3 := Aside0.mk (bb BK3.out hb); clear hz3_0 hz3_1; obtain ⟨hz3_0, hz3_1⟩ := cc2 BK3.out; replace HM0 := Aside0.mk (Nat.le_trans HM0.out (below_size hb)); replace HB := Aside0.mk (below_step bel hb); clear hb))
      go_ret
      exact ⟨congrArg (fun b_ => Ending.returned (.bool b_)) HE.out, bel⟩
    · rw [if_neg c3_] at H
      have c3_b : decide (t1 < 0) = false := decide_eq_false c3_
      clear c3_
      replace H := Option.bind_eq_some_iff.mp H
      obtain ⟨⟨t3, t4⟩, Af110, H⟩ := H
      (try dsimp only at H)
      have Af11 := Aside0.mk Af110
      clear Af110
      replace H := Option.bind_eq_some_iff.mp H
      obtain ⟨t12, Af190, H⟩ := H
      (try dsimp only at H)
      have Af19 := Aside0.mk Af190
      clear Af190
      have HN := Aside0.mk H
      clear H
      go_enter Try.func8, Try.ntmps8
      go_wp2_with (first | ((with_reducible refine gate_dst (N := 3) rfl ?_); refine box_event ?hg (N := 3) ?hd (cs := #[.int .i64 a0_0, .slice A0_1 l0_1.length c0_1]) (t := 24) ?hr ?_; (case hd => rfl); (case hg => rfl); (case hr => first | (go_simp; done) | (go_simp; rfl)); intro gb3 hg wb3 hbox hb; have BK3 := Aside0.mk hbox; replace HM0 := Aside0.mk (Nat.le_trans HM0.out (below_size hb)); replace HB := Aside0.mk (below_step bel hb); clear hb hbox hg; obtain ⟨hz3_0, hz3_1⟩ := cc2 BK3.out) | ((with_reducible refine gate_callee (f := 11) rfl ?_); refine goesL_ (some 21) rfl rfl Try.func11 (by kernel_rfl) rfl #[.agg #[.int .i64 a0_0, .slice A0_1 l0_1.length c0_1], .int .i64 1048576] rfl ga ?_; (with_reducible refine (laws_szNet.calls a0_0 _ _ l0_1 1048576 t1 _ ?side1 ?side2 Af2.out).mono ?_); (case side1 => exact ck (Kd.C_below HR0_1.out HB.out)); (case side2 => exact HC0_1.out); rintro e W2 ⟨rfl, hb⟩; refine ⟨_, rfl, ?_⟩; replace BK3 := Aside0.mk (bb BK3.out hb); clear hz3_0 hz3_1; obtain ⟨hz3_0, hz3_1⟩ := cc2 BK3.out; replace HM0 := Aside0.mk (Nat.le_trans HM0.out (below_size hb)); replace HB := Aside0.mk (below_step bel hb); clear hb) | ((with_reducible refine gate_callee (f := 13) rfl ?_); refine goesL_ (some 25) rfl rfl Try.func13 (by kernel_rfl) rfl #[.agg #[.int .i64 a0_0, .slice A0_1 l0_1.length c0_1]] rfl ga ?_; (with_reducible refine (laws_toNet.calls k a0_0 _ _ l0_1 t3 t4 _ ?side1 ?side2 Af11.out).mono ?_); (case side1 => exact ck (Kd.C_below HR0_1.out HB.out)); (case side2 => exact HC0_1.out); rintro e W4 ⟨v5, rfl, ho0, hb⟩; refine ⟨_, rfl, ?_⟩; obtain ⟨n4, m4, hn_, hm_, hF0⟩ := mk_rowR2 ho0 bel; have ord4 : 0 ≤ n4 := Nat.le_trans HM0.out (Nat.le_of_eq hn_.symm); have nm4 : n4 ≤ m4 := Nat.le_trans (Nat.le_of_eq hn_) (Nat.le_trans (below_size hb) (Nat.le_of_eq hm_.symm)); have HMm4 := Aside0.mk (show m4 ≤ W4.heap.size from Nat.le_of_eq hm_); have hgb3 : gb3 < n4 := (by rw [hn_]; exact blk_lt BK3.out); clear ho0; clear hn_ hm_; replace BK3 := Aside0.mk (bb BK3.out hb); clear hz3_0 hz3_1; obtain ⟨hz3_0, hz3_1⟩ := cc2 BK3.out; replace HB := Aside0.mk (below_step bel hb); clear hb; have HO8 := Aside0.mk hF0; clear hF0; obtain ⟨Ao6, co7, eo_⟩ := Kd.R_slice HO8.out; subst eo_) | ((with_reducible refine gate_callee (f := 17) rfl ?_); refine goesL_ (some 28) rfl rfl Try.func17 (by kernel_rfl) rfl #[.slice A2 l2.length c2] rfl ga ?_; (with_reducible refine (laws_toIntS.calls k _ _ l2 t12 _ ?side1 ?side2 Af19.out).mono ?_); (case side1 => exact ck (Kd.C_below HR2.out HB.out)); (case side2 => exact HC2.out); rintro e W5 ⟨v13, rfl, ho0, hb⟩; refine ⟨_, rfl, ?_⟩; obtain ⟨n5, m5, hn_, hm_, hF0⟩ := mk_rowR2 ho0 bel; have ord5 : m4 ≤ n5 := Nat.le_trans HMm4.out (Nat.le_of_eq hn_.symm); have nm5 : n5 ≤ m5 := Nat.le_trans (Nat.le_of_eq hn_) (Nat.le_trans (below_size hb) (Nat.le_of_eq hm_.symm)); have HMm5 := Aside0.mk (show m5 ≤ W5.heap.size from Nat.le_of_eq hm_); clear ho0; clear hn_ hm_; replace HO8 := Aside0.mk (Kd.R_below (by (with_reducible repeat (first | apply Kd.R_alloc | apply Kd.R_drewN | apply Kd.R_drew)); exact HO8.out) hb); replace BK3 := Aside0.mk (bb BK3.out hb); clear hz3_0 hz3_1; obtain ⟨hz3_0, hz3_1⟩ := cc2 BK3.out; replace HB := Aside0.mk (below_step bel hb); clear hb; have HO16 := Aside0.mk hF0; clear hF0; obtain ⟨Ao14, co15, eo_⟩ := Kd.R_slice HO16.out; subst eo_))
      have H := HN.out
      clear HN
      replace H := Option.bind_eq_some_iff.mp H
      obtain ⟨t20, Af270, H⟩ := H
      (try dsimp only at H)
      have Af27 := Aside0.mk Af270
      clear Af270
      replace H := Option.bind_eq_some_iff.mp H
      obtain ⟨⟨t28, t29⟩, Af360, H⟩ := H
      (try dsimp only at H)
      have Af36 := Aside0.mk Af360
      clear Af360
      have HN := Aside0.mk H
      clear H
      go_wp2_with (first | (go_at_call 28; (with_reducible refine (spec_SourceSide.calls k t3 _ _ t4 a1 _ _ t12 t20 _ ?side1 ?side2 ?side3 ?side4 Af27.out).mono ?_); (case side1 => exact (Kd.R_reads' (by (with_reducible repeat (first | apply Kd.R_alloc | apply Kd.R_drewN | apply Kd.R_drew)); exact HO8.out)).2.2); (case side2 => exact (Kd.R_reads' HO8.out).2.1); (case side3 => exact (Kd.R_reads' (by (with_reducible repeat (first | apply Kd.R_alloc | apply Kd.R_drewN | apply Kd.R_drew)); exact HO16.out)).2.2); (case side4 => exact (Kd.R_reads' HO16.out).2.1); rintro e W6 ⟨v21, rfl, ho0, hb⟩; obtain ⟨n6, m6, hn_, hm_, hF0⟩ := mk_rowR2 ho0 bel; have ord6 : m5 ≤ n6 := Nat.le_trans HMm5.out (Nat.le_of_eq hn_.symm); have nm6 : n6 ≤ m6 := Nat.le_trans (Nat.le_of_eq hn_) (Nat.le_trans (below_size hb) (Nat.le_of_eq hm_.symm)); have HMm6 := Aside0.mk (show m6 ≤ W6.heap.size from Nat.le_of_eq hm_); clear ho0; clear hn_ hm_; replace BK3 := Aside0.mk (bb BK3.out hb); clear hz3_0 hz3_1; obtain ⟨hz3_0, hz3_1⟩ := cc2 BK3.out; replace HB := Aside0.mk (below_step bel hb); clear hb; have HO24 := Aside0.mk hF0; clear hF0; obtain ⟨Ao22, co23, eo_⟩ := Kd.R_slice HO24.out; subst eo_) | ((with_reducible refine gate_callee (f := 13) rfl ?_); refine goesL_ (some 31) rfl rfl Try.func13 (by kernel_rfl) rfl #[.agg #[.int .i64 a0_0, .slice A0_1 l0_1.length c0_1]] rfl ga ?_; (with_reducible refine (laws_toNet.calls k a0_0 _ _ l0_1 t28 t29 _ ?side1 ?side2 Af36.out).mono ?_); (case side1 => exact ck (Kd.C_below HR0_1.out HB.out)); (case side2 => exact HC0_1.out); rintro e W7 ⟨v30, rfl, ho0, hb⟩; refine ⟨_, rfl, ?_⟩; obtain ⟨n7, m7, hn_, hm_, hF0⟩ := mk_rowR2 ho0 bel; have ord7 : m6 ≤ n7 := Nat.le_trans HMm6.out (Nat.le_of_eq hn_.symm); have nm7 : n7 ≤ m7 := Nat.le_trans (Nat.le_of_eq hn_) (Nat.le_trans (below_size hb) (Nat.le_of_eq hm_.symm)); have HMm7 := Aside0.mk (show m7 ≤ W7.heap.size from Nat.le_of_eq hm_); clear ho0; clear hn_ hm_; replace HO24 := Aside0.mk (Kd.R_below (by (with_reducible repeat (first | apply Kd.R_alloc | apply Kd.R_drewN | apply Kd.R_drew)); exact HO24.out) hb); replace BK3 := Aside0.mk (bb BK3.out hb); clear hz3_0 hz3_1; obtain ⟨hz3_0, hz3_1⟩ := cc2 BK3.out; replace HB := Aside0.mk (below_step bel hb); clear hb; have HO33 := Aside0.mk hF0; clear hF0; obtain ⟨Ao31, co32, eo_⟩ := Kd.R_slice HO33.out; subst eo_) | ((with_reducible refine gate_dst (N := 9) rfl ?_); refine box_event ?hg (N := 9) ?hd (cs := #[.int .i64 0, .slice none 0 0]) (t := 29) ?hr ?_; (case hd => rfl); (case hg => rfl); (case hr => first | (go_simp; done) | (go_simp; rfl)); intro gb9 hg wa9 hbox hb; have G9 := Aside0.mk hg; have X9 := Aside0.mk hbox; have B9 := Aside0.mk hb; clear hg hbox hb; obtain ⟨hz9_0, hz9_1, fz9_0, fz9_1⟩ := cf2 X9.out) | ((with_reducible refine gate_store (t := 29) (p := 9) rfl ?_); refine store_event (t := 29) (p := 9) (v := ?vo9_) (w1 := ((wa9.setCell ⟨gb9, 0, none⟩ (.int .i64 t28)).setCell ⟨gb9, 1, none⟩ (.slice Ao31 t29.length co32))) ?hg ?ho ?hn ?hr ?_; (case ho => rfl); (case hg => rfl); (case hn => rfl); (case hr => first | (go_simp; done) | (go_simp; rfl)); intro wb9 hw; have hb := bs2 B9.out (Nat.le_of_eq G9.out.symm) hw; have BK9 := Aside0.mk (pt2 X9.out hw); clear hz9_0 hz9_1 fz9_0 fz9_1 hw; have hgl9 : m7 ≤ gb9 := (by rw [G9.out]; exact HMm7.out); replace HO24 := Aside0.mk (Kd.R_below (by (with_reducible repeat (first | apply Kd.R_alloc | apply Kd.R_drewN | apply Kd.R_drew)); exact HO24.out) hb); replace HO33 := Aside0.mk (Kd.R_below (by (with_reducible repeat (first | apply Kd.R_alloc | apply Kd.R_drewN | apply Kd.R_drew)); exact HO33.out) hb); replace BK3 := Aside0.mk (bb BK3.out hb); clear hz3_0 hz3_1; obtain ⟨hz3_0, hz3_1⟩ := cc2 BK3.out; replace HMm7 := Aside0.mk (Nat.le_trans HMm7.out (below_size hb)); replace HB := Aside0.mk (below_step bel hb); clear hb; obtain ⟨hz9_0, hz9_1⟩ := cc2 BK9.out))
      have H := HN.out
      clear HN
      replace H := Option.bind_eq_some_iff.mp H
      obtain ⟨t37, Af440, H⟩ := H
      (try dsimp only at H)
      have Af44 := Aside0.mk Af440
      clear Af440
      have HN := Aside0.mk H
      clear H
      go_wp2_with (first | (go_at_call 17; (with_reducible refine (laws_toIntS.calls k _ _ l2 t37 _ ?side1 ?side2 Af44.out).mono ?_); (case side1 => exact ck (Kd.C_below HR2.out HB.out)); (case side2 => exact HC2.out); rintro e W9 ⟨v38, rfl, ho0, hb⟩; obtain ⟨n9, m9, hn_, hm_, hF0⟩ := mk_rowR2 ho0 bel; have ord9 : m7 ≤ n9 := Nat.le_trans HMm7.out (Nat.le_of_eq hn_.symm); have nm9 : n9 ≤ m9 := Nat.le_trans (Nat.le_of_eq hn_) (Nat.le_trans (below_size hb) (Nat.le_of_eq hm_.symm)); have HMm9 := Aside0.mk (show m9 ≤ W9.heap.size from Nat.le_of_eq hm_); have hgb9 : gb9 < n9 := (by rw [hn_]; exact blk_lt BK9.out); clear ho0; clear hn_ hm_; replace HO24 := Aside0.mk (Kd.R_below (by (with_reducible repeat (first | apply Kd.R_alloc | apply Kd.R_drewN | apply Kd.R_drew)); exact HO24.out) hb); replace HO33 := Aside0.mk (Kd.R_below (by (with_reducible repeat (first | apply Kd.R_alloc | apply Kd.R_drewN | apply Kd.R_drew)); exact HO33.out) hb); replace BK3 := Aside0.mk (bb BK3.out hb); clear hz3_0 hz3_1; obtain ⟨hz3_0, hz3_1⟩ := cc2 BK3.out; replace BK9 := Aside0.mk (bb BK9.out hb); clear hz9_0 hz9_1; obtain ⟨hz9_0, hz9_1⟩ := cc2 BK9.out; replace HB := Aside0.mk (below_step bel hb); clear hb; have HO41 := Aside0.mk hF0; clear hF0; obtain ⟨Ao39, co40, eo_⟩ := Kd.R_slice HO41.out; subst eo_))
      have H := HN.out
      clear HN
      replace H := Option.bind_eq_some_iff.mp H
      obtain ⟨t45, Af520, H⟩ := H
      (try dsimp only at H)
      have Af52 := Aside0.mk Af520
      clear Af520
      have HN := Aside0.mk H
      clear H
      go_wp2_with (first | (go_at_call 29; (with_reducible refine (impl_SourceSide.calls k t28 _ _ t29 a1 _ _ t37 t45 _ ?side1 ?side2 ?side3 ?side4 Af52.out).mono ?_); (case side1 => exact (Kd.R_reads' (by (with_reducible repeat (first | apply Kd.R_alloc | apply Kd.R_drewN | apply Kd.R_drew)); exact HO33.out)).2.2); (case side2 => exact (Kd.R_reads' HO33.out).2.1); (case side3 => exact (Kd.R_reads' (by (with_reducible repeat (first | apply Kd.R_alloc | apply Kd.R_drewN | apply Kd.R_drew)); exact HO41.out)).2.2); (case side4 => exact (Kd.R_reads' HO41.out).2.1); rintro e W10 ⟨v46, rfl, ho0, hb⟩; obtain ⟨n10, m10, hn_, hm_, hF0⟩ := mk_rowR2 ho0 bel; have ord10 : m9 ≤ n10 := Nat.le_trans HMm9.out (Nat.le_of_eq hn_.symm); have nm10 : n10 ≤ m10 := Nat.le_trans (Nat.le_of_eq hn_) (Nat.le_trans (below_size hb) (Nat.le_of_eq hm_.symm)); have HMm10 := Aside0.mk (show m10 ≤ W10.heap.size from Nat.le_of_eq hm_); clear ho0; clear hn_ hm_; replace HO24 := Aside0.mk (Kd.R_below (by (with_reducible repeat (first | apply Kd.R_alloc | apply Kd.R_drewN | apply Kd.R_drew)); exact HO24.out) hb); replace HO33 := Aside0.mk (Kd.R_below (by (with_reducible repeat (first | apply Kd.R_alloc | apply Kd.R_drewN | apply Kd.R_drew)); exact HO33.out) hb); replace HO41 := Aside0.mk (Kd.R_below (by (with_reducible repeat (first | apply Kd.R_alloc | apply Kd.R_drewN | apply Kd.R_drew)); exact HO41.out) hb); replace BK3 := Aside0.mk (bb BK3.out hb); clear hz3_0 hz3_1; obtain ⟨hz3_0, hz3_1⟩ := cc2 BK3.out; replace BK9 := Aside0.mk (bb BK9.out hb); clear hz9_0 hz9_1; obtain ⟨hz9_0, hz9_1⟩ := cc2 BK9.out; replace HB := Aside0.mk (below_step bel hb); clear hb; have HO49 := Aside0.mk hF0; clear hF0; obtain ⟨Ao47, co48, eo_⟩ := Kd.R_slice HO49.out; subst eo_))
      have H := HN.out
      clear HN
      replace H := Option.bind_eq_some_iff.mp H
      obtain ⟨t53, Af540, H⟩ := H
      (try dsimp only at H)
      have Af54 := Aside0.mk Af540
      clear Af540
      cases t53 with
      | false =>
        replace H : some false = some r := by rw [if_neg (by decide)] at H; exact H
        have HE := Aside0.mk (Option.some.inj H)
        clear H
        go_wp2_with (first | (go_at_call 23; (with_reducible refine (laws_eqBoolS.calls k _ _ t45 _ _ t20 false _ ?side1 ?side2 ?side3 ?side4 Af54.out).mono ?_); (case side1 => exact (Kd.R_reads' (by (with_reducible repeat (first | apply Kd.R_alloc | apply Kd.R_drewN | apply Kd.R_drew)); exact HO49.out)).2.2); (case side2 => exact (Kd.R_reads' HO49.out).2.1); (case side3 => exact (Kd.R_reads' (by (with_reducible repeat (first | apply Kd.R_alloc | apply Kd.R_drewN | apply Kd.R_drew)); exact HO24.out)).2.2); (case side4 => exact (Kd.R_reads' HO24.out).2.1); rintro e w' ⟨rfl, ⟨nd, rfl⟩⟩))
        go_ret
        exact ⟨congrArg (fun b_ => Ending.returned (.bool b_)) HE.out, bel⟩
      | true =>
        rw [if_pos rfl] at H
        have HN := Aside0.mk H
        clear H
        go_wp2_with (first | (go_at_call 23; (with_reducible refine (laws_eqBoolS.calls k _ _ t45 _ _ t20 true _ ?side1 ?side2 ?side3 ?side4 Af54.out).mono ?_); (case side1 => exact (Kd.R_reads' (by (with_reducible repeat (first | apply Kd.R_alloc | apply Kd.R_drewN | apply Kd.R_drew)); exact HO49.out)).2.2); (case side2 => exact (Kd.R_reads' HO49.out).2.1); (case side3 => exact (Kd.R_reads' (by (with_reducible repeat (first | apply Kd.R_alloc | apply Kd.R_drewN | apply Kd.R_drew)); exact HO24.out)).2.2); (case side4 => exact (Kd.R_reads' HO24.out).2.1); rintro e w' ⟨rfl, ⟨nd, rfl⟩⟩))
        have H := HN.out
        clear HN
        replace H := Option.bind_eq_some_iff.mp H
        obtain ⟨⟨t55, t56⟩, Af630, H⟩ := H
        (try dsimp only at H)
        have Af63 := Aside0.mk Af630
        clear Af630
        replace H := Option.bind_eq_some_iff.mp H
        obtain ⟨t64, Af650, H⟩ := H
        (try dsimp only at H)
        have Af65 := Aside0.mk Af650
        clear Af650
        cases t64 with
        | false =>
          replace H : some false = some r := by rw [if_neg (by decide)] at H; exact H
          have HE := Aside0.mk (Option.some.inj H)
          clear H
          go_region_held3 (fun w' => w'.cell? ⟨gb3, 0, none⟩ = some (.int .i64 a0_0) ∧ w'.cell? ⟨gb3, 1, none⟩ = some (.slice A0_1 l0_1.length c0_1) ∧ w'.cell? ⟨gb9, 0, none⟩ = some (.int .i64 t28) ∧ w'.cell? ⟨gb9, 1, none⟩ = some (.slice Ao31 t29.length co32)) (go_keep) (first | (go_at_call 13; (with_reducible refine (laws_toNet.calls k a0_0 _ _ l0_1 t55 t56 _ ?side1 ?side2 Af63.out).mono ?_); (case side1 => exact ck (Kd.C_below HR0_1.out HB.out)); (case side2 => exact HC0_1.out); rintro e W13 ⟨v57, rfl, ho0, hb⟩; skip; obtain ⟨n13, m13, hn_, hm_, hF0⟩ := mk_rowR2 ho0 bel; have ord13 : m10 ≤ n13 := Nat.le_trans HMm10.out (Nat.le_of_eq hn_.symm); have nm13 : n13 ≤ m13 := Nat.le_trans (Nat.le_of_eq hn_) (Nat.le_trans (below_size hb) (Nat.le_of_eq hm_.symm)); have HMm13 := Aside0.mk (show m13 ≤ W13.heap.size from Nat.le_of_eq hm_); clear ho0; clear hn_ hm_; replace HO24 := Aside0.mk (Kd.R_below (by (with_reducible repeat (first | apply Kd.R_alloc | apply Kd.R_drewN | apply Kd.R_drew)); exact HO24.out) hb); replace HO33 := Aside0.mk (Kd.R_below (by (with_reducible repeat (first | apply Kd.R_alloc | apply Kd.R_drewN | apply Kd.R_drew)); exact HO33.out) hb); replace HO41 := Aside0.mk (Kd.R_below (by (with_reducible repeat (first | apply Kd.R_alloc | apply Kd.R_drewN | apply Kd.R_drew)); exact HO41.out) hb); replace HO49 := Aside0.mk (Kd.R_below (by (with_reducible repeat (first | apply Kd.R_alloc | apply Kd.R_drewN | apply Kd.R_drew)); exact HO49.out) hb); replace BK3 := Aside0.mk (bb BK3.out hb); clear hz3_0 hz3_1; obtain ⟨hz3_0, hz3_1⟩ := cc2 BK3.out; replace BK9 := Aside0.mk (bb BK9.out hb); clear hz9_0 hz9_1; obtain ⟨hz9_0, hz9_1⟩ := cc2 BK9.out; replace HB := Aside0.mk (below_step bel hb); clear hb; have HO60 := Aside0.mk hF0; clear hF0; obtain ⟨Ao58, co59, eo_⟩ := Kd.R_slice HO60.out; subst eo_) | (go_at_call 15; (with_reducible refine (laws_eqNet.calls k t28 _ _ t29 t55 _ _ t56 false _ ?side1 ?side2 ?side3 ?side4 Af65.out).mono ?_); (case side1 => exact (Kd.R_reads' (by (with_reducible repeat (first | apply Kd.R_alloc | apply Kd.R_drewN | apply Kd.R_drew)); exact HO33.out)).2.2); (case side2 => exact (Kd.R_reads' HO33.out).2.1); (case side3 => exact (Kd.R_reads' (by (with_reducible repeat (first | apply Kd.R_alloc | apply Kd.R_drewN | apply Kd.R_drew)); exact HO60.out)).2.2); (case side4 => exact (Kd.R_reads' HO60.out).2.1); rintro e W14 ⟨rfl, hb⟩; skip; replace HO24 := Aside0.mk (Kd.R_below (by (with_reducible repeat (first | apply Kd.R_alloc | apply Kd.R_drewN | apply Kd.R_drew)); exact HO24.out) hb); replace HO33 := Aside0.mk (Kd.R_below (by (with_reducible repeat (first | apply Kd.R_alloc | apply Kd.R_drewN | apply Kd.R_drew)); exact HO33.out) hb); replace HO41 := Aside0.mk (Kd.R_below (by (with_reducible repeat (first | apply Kd.R_alloc | apply Kd.R_drewN | apply Kd.R_drew)); exact HO41.out) hb); replace HO49 := Aside0.mk (Kd.R_below (by (with_reducible repeat (first | apply Kd.R_alloc | apply Kd.R_drewN | apply Kd.R_drew)); exact HO49.out) hb); replace BK3 := Aside0.mk (bb BK3.out hb); clear hz3_0 hz3_1; obtain ⟨hz3_0, hz3_1⟩ := cc2 BK3.out; replace BK9 := Aside0.mk (bb BK9.out hb); clear hz9_0 hz9_1; obtain ⟨hz9_0, hz9_1⟩ := cc2 BK9.out; replace HMm13 := Aside0.mk (Nat.le_trans HMm13.out (below_size hb)); replace HB := Aside0.mk (below_step bel hb); clear hb))
          go_wp2
          go_ret
          exact ⟨congrArg (fun b_ => Ending.returned (.bool b_)) HE.out, bel⟩
        | true =>
          rw [if_pos rfl] at H
          replace H := Option.bind_eq_some_iff.mp H
          obtain ⟨t66, Af730, H⟩ := H
          (try dsimp only at H)
          have Af73 := Aside0.mk Af730
          clear Af730
          have HN := Aside0.mk H
          clear H
          go_region_held3 (fun w' => w'.cell? ⟨gb3, 0, none⟩ = some (.int .i64 a0_0) ∧ w'.cell? ⟨gb3, 1, none⟩ = some (.slice A0_1 l0_1.length c0_1) ∧ w'.cell? ⟨gb9, 0, none⟩ = some (.int .i64 t28) ∧ w'.cell? ⟨gb9, 1, none⟩ = some (.slice Ao31 t29.length co32)) (go_keep) (first | (go_at_call 13; (with_reducible refine (laws_toNet.calls k a0_0 _ _ l0_1 t55 t56 _ ?side1 ?side2 Af63.out).mono ?_); (case side1 => exact ck (Kd.C_below HR0_1.out HB.out)); (case side2 => exact HC0_1.out); rintro e W13 ⟨v57, rfl, ho0, hb⟩; skip; obtain ⟨n13, m13, hn_, hm_, hF0⟩ := mk_rowR2 ho0 bel; have ord13 : m10 ≤ n13 := Nat.le_trans HMm10.out (Nat.le_of_eq hn_.symm); have nm13 : n13 ≤ m13 := Nat.le_trans (Nat.le_of_eq hn_) (Nat.le_trans (below_size hb) (Nat.le_of_eq hm_.symm)); have HMm13 := Aside0.mk (show m13 ≤ W13.heap.size from Nat.le_of_eq hm_); clear ho0; clear hn_ hm_; replace HO24 := Aside0.mk (Kd.R_below (by (with_reducible repeat (first | apply Kd.R_alloc | apply Kd.R_drewN | apply Kd.R_drew)); exact HO24.out) hb); replace HO33 := Aside0.mk (Kd.R_below (by (with_reducible repeat (first | apply Kd.R_alloc | apply Kd.R_drewN | apply Kd.R_drew)); exact HO33.out) hb); replace HO41 := Aside0.mk (Kd.R_below (by (with_reducible repeat (first | apply Kd.R_alloc | apply Kd.R_drewN | apply Kd.R_drew)); exact HO41.out) hb); replace HO49 := Aside0.mk (Kd.R_below (by (with_reducible repeat (first | apply Kd.R_alloc | apply Kd.R_drewN | apply Kd.R_drew)); exact HO49.out) hb); replace BK3 := Aside0.mk (bb BK3.out hb); clear hz3_0 hz3_1; obtain ⟨hz3_0, hz3_1⟩ := cc2 BK3.out; replace BK9 := Aside0.mk (bb BK9.out hb); clear hz9_0 hz9_1; obtain ⟨hz9_0, hz9_1⟩ := cc2 BK9.out; replace HB := Aside0.mk (below_step bel hb); clear hb; have HO60 := Aside0.mk hF0; clear hF0; obtain ⟨Ao58, co59, eo_⟩ := Kd.R_slice HO60.out; subst eo_) | (go_at_call 15; (with_reducible refine (laws_eqNet.calls k t28 _ _ t29 t55 _ _ t56 true _ ?side1 ?side2 ?side3 ?side4 Af65.out).mono ?_); (case side1 => exact (Kd.R_reads' (by (with_reducible repeat (first | apply Kd.R_alloc | apply Kd.R_drewN | apply Kd.R_drew)); exact HO33.out)).2.2); (case side2 => exact (Kd.R_reads' HO33.out).2.1); (case side3 => exact (Kd.R_reads' (by (with_reducible repeat (first | apply Kd.R_alloc | apply Kd.R_drewN | apply Kd.R_drew)); exact HO60.out)).2.2); (case side4 => exact (Kd.R_reads' HO60.out).2.1); rintro e W14 ⟨rfl, hb⟩; skip; replace HO24 := Aside0.mk (Kd.R_below (by (with_reducible repeat (first | apply Kd.R_alloc | apply Kd.R_drewN | apply Kd.R_drew)); exact HO24.out) hb); replace HO33 := Aside0.mk (Kd.R_below (by (with_reducible repeat (first | apply Kd.R_alloc | apply Kd.R_drewN | apply Kd.R_drew)); exact HO33.out) hb); replace HO41 := Aside0.mk (Kd.R_below (by (with_reducible repeat (first | apply Kd.R_alloc | apply Kd.R_drewN | apply Kd.R_drew)); exact HO41.out) hb); replace HO49 := Aside0.mk (Kd.R_below (by (with_reducible repeat (first | apply Kd.R_alloc | apply Kd.R_drewN | apply Kd.R_drew)); exact HO49.out) hb); replace BK3 := Aside0.mk (bb BK3.out hb); clear hz3_0 hz3_1; obtain ⟨hz3_0, hz3_1⟩ := cc2 BK3.out; replace BK9 := Aside0.mk (bb BK9.out hb); clear hz9_0 hz9_1; obtain ⟨hz9_0, hz9_1⟩ := cc2 BK9.out; replace HMm13 := Aside0.mk (Nat.le_trans HMm13.out (below_size hb)); replace HB := Aside0.mk (below_step bel hb); clear hb))
          go_wp2_with (first | ((with_reducible refine gate_callee (f := 17) rfl ?_); refine goesL_ (some 49) rfl rfl Try.func17 (by kernel_rfl) rfl #[.slice A2 l2.length c2] rfl ga ?_; (with_reducible refine (laws_toIntS.calls k _ _ l2 t66 _ ?side1 ?side2 Af73.out).mono ?_); (case side1 => exact ck (Kd.C_below HR2.out HB.out)); (case side2 => exact HC2.out); rintro e W16 ⟨v67, rfl, ho0, hb⟩; refine ⟨_, rfl, ?_⟩; obtain ⟨n16, m16, hn_, hm_, hF0⟩ := mk_rowR2 ho0 bel; have ord16 : m13 ≤ n16 := Nat.le_trans HMm13.out (Nat.le_of_eq hn_.symm); have nm16 : n16 ≤ m16 := Nat.le_trans (Nat.le_of_eq hn_) (Nat.le_trans (below_size hb) (Nat.le_of_eq hm_.symm)); have HMm16 := Aside0.mk (show m16 ≤ W16.heap.size from Nat.le_of_eq hm_); clear ho0; clear hn_ hm_; replace HO24 := Aside0.mk (Kd.R_below (by (with_reducible repeat (first | apply Kd.R_alloc | apply Kd.R_drewN | apply Kd.R_drew)); exact HO24.out) hb); replace HO33 := Aside0.mk (Kd.R_below (by (with_reducible repeat (first | apply Kd.R_alloc | apply Kd.R_drewN | apply Kd.R_drew)); exact HO33.out) hb); replace HO41 := Aside0.mk (Kd.R_below (by (with_reducible repeat (first | apply Kd.R_alloc | apply Kd.R_drewN | apply Kd.R_drew)); exact HO41.out) hb); replace HO49 := Aside0.mk (Kd.R_below (by (with_reducible repeat (first | apply Kd.R_alloc | apply Kd.R_drewN | apply Kd.R_drew)); exact HO49.out) hb); replace BK3 := Aside0.mk (bb BK3.out hb); clear hz3_0 hz3_1; obtain ⟨hz3_0, hz3_1⟩ := cc2 BK3.out; replace BK9 := Aside0.mk (bb BK9.out hb); clear hz9_0 hz9_1; obtain ⟨hz9_0, hz9_1⟩ := cc2 BK9.out; replace HB := Aside0.mk (below_step bel hb); clear hb; have HO70 := Aside0.mk hF0; clear hF0; obtain ⟨Ao68, co69, eo_⟩ := Kd.R_slice HO70.out; subst eo_))
          have H := HN.out
          clear HN
          replace H := Option.bind_eq_some_iff.mp H
          obtain ⟨t74, Af750, H⟩ := H
          (try dsimp only at H)
          have Af75 := Aside0.mk Af750
          clear Af750
          cases t74 with
          | false =>
            replace H : some false = some r := by rw [if_neg (by decide)] at H; exact H
            have HE := Aside0.mk (Option.some.inj H)
            clear H
            go_wp2_with (first | (go_at_call 19; (with_reducible refine (laws_eqIntS.calls k _ _ t37 _ _ t66 false _ ?side1 ?side2 ?side3 ?side4 Af75.out).mono ?_); (case side1 => exact (Kd.R_reads' (by (with_reducible repeat (first | apply Kd.R_alloc | apply Kd.R_drewN | apply Kd.R_drew)); exact HO41.out)).2.2); (case side2 => exact (Kd.R_reads' HO41.out).2.1); (case side3 => exact (Kd.R_reads' (by (with_reducible repeat (first | apply Kd.R_alloc | apply Kd.R_drewN | apply Kd.R_drew)); exact HO70.out)).2.2); (case side4 => exact (Kd.R_reads' HO70.out).2.1); rintro e w' ⟨rfl, ⟨nd, rfl⟩⟩))
            go_ret
            exact ⟨congrArg (fun b_ => Ending.returned (.bool b_)) HE.out, bel⟩
          | true =>
            rw [if_pos rfl] at H
            have HN := Aside0.mk H
            clear H
            go_wp2_with (first | (go_at_call 19; (with_reducible refine (laws_eqIntS.calls k _ _ t37 _ _ t66 true _ ?side1 ?side2 ?side3 ?side4 Af75.out).mono ?_); (case side1 => exact (Kd.R_reads' (by (with_reducible repeat (first | apply Kd.R_alloc | apply Kd.R_drewN | apply Kd.R_drew)); exact HO41.out)).2.2); (case side2 => exact (Kd.R_reads' HO41.out).2.1); (case side3 => exact (Kd.R_reads' (by (with_reducible repeat (first | apply Kd.R_alloc | apply Kd.R_drewN | apply Kd.R_drew)); exact HO70.out)).2.2); (case side4 => exact (Kd.R_reads' HO70.out).2.1); rintro e w' ⟨rfl, ⟨nd, rfl⟩⟩))
            have H := HN.out
            clear HN
            replace H := Option.bind_eq_some_iff.mp H
            obtain ⟨⟨t76, t77⟩, Af780, H⟩ := H
            (try dsimp only at H)
            have Af78 := Aside0.mk Af780
            clear Af780
            have HN := Aside0.mk H
            clear H
            go_wp2_with (first | (go_at_call 30; (with_reducible refine (laws_markNet.calls k t28 (fun k_ => n7 ≤ k_ ∧ k_ < m7) _ t29 1 t76 t77 w _ ?sideB ?side1 Af78.out).mono ?_); (case sideB => exact bel); (case side1 => exact (Kd.R_mono (ok := fun k_ => (n7 ≤ k_ ∧ k_ < m7) ∧ True) (by (with_reducible repeat (first | apply Kd.R_alloc | apply Kd.R_drewN | apply Kd.R_drew)); exact HO33.out) (fun _ h_ => h_.1))); rintro e W19 ⟨rfl, hR0, hb, hk⟩; replace HO24 := Aside0.mk (Kd.R_step (by (with_reducible repeat (first | apply Kd.R_alloc | apply Kd.R_drewN | apply Kd.R_drew)); exact HO24.out) (fun k_ ho_ hl_ => hk.2 k_ hl_ (fun hp_ => by have o_ := ho_.1; omega))); replace HO41 := Aside0.mk (Kd.R_step (by (with_reducible repeat (first | apply Kd.R_alloc | apply Kd.R_drewN | apply Kd.R_drew)); exact HO41.out) (fun k_ ho_ hl_ => hk.2 k_ hl_ (fun hp_ => by have o_ := ho_.1; omega))); replace HO49 := Aside0.mk (Kd.R_step (by (with_reducible repeat (first | apply Kd.R_alloc | apply Kd.R_drewN | apply Kd.R_drew)); exact HO49.out) (fun k_ ho_ hl_ => hk.2 k_ hl_ (fun hp_ => by have o_ := ho_.1; omega))); replace BK3 := Aside0.mk (kept_blk BK3.out hk (fun hp_ => by omega)); clear hz3_0 hz3_1; obtain ⟨hz3_0, hz3_1⟩ := cc2 BK3.out; replace BK9 := Aside0.mk (kept_blk BK9.out hk (fun hp_ => by omega)); clear hz9_0 hz9_1; obtain ⟨hz9_0, hz9_1⟩ := cc2 BK9.out; replace HB := Aside0.mk hb; replace HMm16 := Aside0.mk (Nat.le_trans HMm16.out hk.1); clear hb hk))
            have H := HN.out
            clear HN
            replace H := Option.bind_eq_some_iff.mp H
            obtain ⟨⟨t79, t80⟩, Af810, H⟩ := H
            (try dsimp only at H)
            have Af81 := Aside0.mk Af810
            clear Af810
            by_cases c21_ : t79 < 0
            · rw [if_pos c21_] at H
              have c21_b : decide (t79 < 0) = true := decide_eq_true c21_
              clear c21_
              have HE := Aside0.mk (Option.some.inj H)
              clear H
              go_wp2_with (first | (go_at_call 31; (with_reducible refine (laws_markIntS.calls k (fun k_ => n9 ≤ k_ ∧ k_ < m9) _ t37 t76 t79 t80 w _ ?sideB ?side1 Af81.out).mono ?_); (case sideB => exact bel); (case side1 => exact (Kd.R_mono (ok := fun k_ => (n9 ≤ k_ ∧ k_ < m9) ∧ True) (by (with_reducible repeat (first | apply Kd.R_alloc | apply Kd.R_drewN | apply Kd.R_drew)); exact HO41.out) (fun _ h_ => h_.1))); rintro e W20 ⟨rfl, hR0, hb, hk⟩; replace HO24 := Aside0.mk (Kd.R_step (by (with_reducible repeat (first | apply Kd.R_alloc | apply Kd.R_drewN | apply Kd.R_drew)); exact HO24.out) (fun k_ ho_ hl_ => hk.2 k_ hl_ (fun hp_ => by have o_ := ho_.1; omega))); replace HO49 := Aside0.mk (Kd.R_step (by (with_reducible repeat (first | apply Kd.R_alloc | apply Kd.R_drewN | apply Kd.R_drew)); exact HO49.out) (fun k_ ho_ hl_ => hk.2 k_ hl_ (fun hp_ => by have o_ := ho_.1; omega))); replace BK3 := Aside0.mk (kept_blk BK3.out hk (fun hp_ => by omega)); clear hz3_0 hz3_1; obtain ⟨hz3_0, hz3_1⟩ := cc2 BK3.out; replace BK9 := Aside0.mk (kept_blk BK9.out hk (fun hp_ => by omega)); clear hz9_0 hz9_1; obtain ⟨hz9_0, hz9_1⟩ := cc2 BK9.out; replace HB := Aside0.mk hb; replace HMm16 := Aside0.mk (Nat.le_trans HMm16.out hk.1); clear hb hk))
              go_ret
              exact ⟨congrArg (fun b_ => Ending.returned (.bool b_)) HE.out, bel⟩
            · rw [if_neg c21_] at H
              have c21_b : decide (t79 < 0) = false := decide_eq_false c21_
              clear c21_
              have HN := Aside0.mk H
              clear H
              go_wp2_with (first | (go_at_call 31; (with_reducible refine (laws_markIntS.calls k (fun k_ => n9 ≤ k_ ∧ k_ < m9) _ t37 t76 t79 t80 w _ ?sideB ?side1 Af81.out).mono ?_); (case sideB => exact bel); (case side1 => exact (Kd.R_mono (ok := fun k_ => (n9 ≤ k_ ∧ k_ < m9) ∧ True) (by (with_reducible repeat (first | apply Kd.R_alloc | apply Kd.R_drewN | apply Kd.R_drew)); exact HO41.out) (fun _ h_ => h_.1))); rintro e W20 ⟨rfl, hR0, hb, hk⟩; replace HO24 := Aside0.mk (Kd.R_step (by (with_reducible repeat (first | apply Kd.R_alloc | apply Kd.R_drewN | apply Kd.R_drew)); exact HO24.out) (fun k_ ho_ hl_ => hk.2 k_ hl_ (fun hp_ => by have o_ := ho_.1; omega))); replace HO49 := Aside0.mk (Kd.R_step (by (with_reducible repeat (first | apply Kd.R_alloc | apply Kd.R_drewN | apply Kd.R_drew)); exact HO49.out) (fun k_ ho_ hl_ => hk.2 k_ hl_ (fun hp_ => by have o_ := ho_.1; omega))); replace BK3 := Aside0.mk (kept_blk BK3.out hk (fun hp_ => by omega)); clear hz3_0 hz3_1; obtain ⟨hz3_0, hz3_1⟩ := cc2 BK3.out; replace BK9 := Aside0.mk (kept_blk BK9.out hk (fun hp_ => by omega)); clear hz9_0 hz9_1; obtain ⟨hz9_0, hz9_1⟩ := cc2 BK9.out; replace HB := Aside0.mk hb; replace HMm16 := Aside0.mk (Nat.le_trans HMm16.out hk.1); clear hb hk))
              have H := HN.out
              clear HN
              replace H := Option.bind_eq_some_iff.mp H
              obtain ⟨t82, Af830, H⟩ := H
              (try dsimp only at H)
              have Af83 := Aside0.mk Af830
              clear Af830
              cases t82 with
              | false =>
                replace H : some false = some r := by rw [if_neg (by decide)] at H; exact H
                have HE := Aside0.mk (Option.some.inj H)
                clear H
                go_wp2_with (first | (go_at_call 23; (with_reducible refine (laws_eqBoolS.calls k _ _ t45 _ _ t20 false _ ?side1 ?side2 ?side3 ?side4 Af83.out).mono ?_); (case side1 => exact (Kd.R_reads' (by (with_reducible repeat (first | apply Kd.R_alloc | apply Kd.R_drewN | apply Kd.R_drew)); exact HO49.out)).2.2); (case side2 => exact (Kd.R_reads' HO49.out).2.1); (case side3 => exact (Kd.R_reads' (by (with_reducible repeat (first | apply Kd.R_alloc | apply Kd.R_drewN | apply Kd.R_drew)); exact HO24.out)).2.2); (case side4 => exact (Kd.R_reads' HO24.out).2.1); rintro e w' ⟨rfl, ⟨nd, rfl⟩⟩))
                go_ret
                exact ⟨congrArg (fun b_ => Ending.returned (.bool b_)) HE.out, bel⟩
              | true =>
                rw [if_pos rfl] at H
                have HN := Aside0.mk H
                clear H
                go_wp2_with (first | (go_at_call 23; (with_reducible refine (laws_eqBoolS.calls k _ _ t45 _ _ t20 true _ ?side1 ?side2 ?side3 ?side4 Af83.out).mono ?_); (case side1 => exact (Kd.R_reads' (by (with_reducible repeat (first | apply Kd.R_alloc | apply Kd.R_drewN | apply Kd.R_drew)); exact HO49.out)).2.2); (case side2 => exact (Kd.R_reads' HO49.out).2.1); (case side3 => exact (Kd.R_reads' (by (with_reducible repeat (first | apply Kd.R_alloc | apply Kd.R_drewN | apply Kd.R_drew)); exact HO24.out)).2.2); (case side4 => exact (Kd.R_reads' HO24.out).2.1); rintro e w' ⟨rfl, ⟨nd, rfl⟩⟩))
                have H := HN.out
                clear HN
                replace H := Option.bind_eq_some_iff.mp H
                obtain ⟨⟨t84, t85⟩, Af860, H⟩ := H
                (try dsimp only at H)
                have Af86 := Aside0.mk Af860
                clear Af860
                have HN := Aside0.mk H
                clear H
                go_wp2_with (first | (go_at_call 32; (with_reducible refine (laws_markBoolS.calls k (fun k_ => n10 ≤ k_ ∧ k_ < m10) _ t45 1 t84 t85 w _ ?sideB ?side1 Af86.out).mono ?_); (case sideB => exact bel); (case side1 => exact (Kd.R_mono (ok := fun k_ => (n10 ≤ k_ ∧ k_ < m10) ∧ True) (by (with_reducible repeat (first | apply Kd.R_alloc | apply Kd.R_drewN | apply Kd.R_drew)); exact HO49.out) (fun _ h_ => h_.1))); rintro e W24 ⟨rfl, hR0, hb, hk⟩; replace HO24 := Aside0.mk (Kd.R_step (by (with_reducible repeat (first | apply Kd.R_alloc | apply Kd.R_drewN | apply Kd.R_drew)); exact HO24.out) (fun k_ ho_ hl_ => hk.2 k_ hl_ (fun hp_ => by have o_ := ho_.1; omega))); have le_ := (Kd.R_reads' hR0).1; rw [le_] at hR0; rw [le_]; clear le_; replace HO49 := Aside0.mk hR0; replace BK3 := Aside0.mk (kept_blk BK3.out hk (fun hp_ => by omega)); clear hz3_0 hz3_1; obtain ⟨hz3_0, hz3_1⟩ := cc2 BK3.out; replace BK9 := Aside0.mk (kept_blk BK9.out hk (fun hp_ => by omega)); clear hz9_0 hz9_1; obtain ⟨hz9_0, hz9_1⟩ := cc2 BK9.out; replace HB := Aside0.mk hb; replace HMm16 := Aside0.mk (Nat.le_trans HMm16.out hk.1); clear hb hk))
                have H := HN.out
                clear HN
                replace H := Option.bind_eq_some_iff.mp H
                obtain ⟨t87, Af880, H⟩ := H
                (try dsimp only at H)
                have Af88 := Aside0.mk Af880
                clear Af880
                by_cases c26_ : t87 < 0
                · rw [if_pos c26_] at H
                  have c26_b : decide (t87 < 0) = true := decide_eq_true c26_
                  clear c26_
                  have HE := Aside0.mk (Option.some.inj H)
                  clear H
                  go_wp2_with (first | (go_at_call 33; (with_reducible refine (laws_heldBoolS.calls k _ _ t85 1 t87 _ ?side1 ?side2 Af88.out).mono ?_); (case side1 => exact (Kd.R_reads' (by (with_reducible repeat (first | apply Kd.R_alloc | apply Kd.R_drewN | apply Kd.R_drew)); exact HO49.out)).2.2); (case side2 => exact (Kd.R_reads' HO49.out).2.1); rintro e w' ⟨rfl, ⟨nd, rfl⟩⟩))
                  go_ret
                  exact ⟨congrArg (fun b_ => Ending.returned (.bool b_)) HE.out, bel⟩
                · rw [if_neg c26_] at H
                  have c26_b : decide (t87 < 0) = false := decide_eq_false c26_
                  clear c26_
                  by_cases c27_ : t87 = t84
                  rotate_left
                  · rw [if_neg c27_] at H
                    have c27_b : (t87 == t84) = false := beq_eq_false_iff_ne.mpr c27_
                    have c27_d : (t87 != t84) = true := bne_iff_ne.mpr c27_
                    clear c27_
                    have HE := Aside0.mk (Option.some.inj H)
                    clear H
                    go_wp2_with (first | (go_at_call 33; (with_reducible refine (laws_heldBoolS.calls k _ _ t85 1 t87 _ ?side1 ?side2 Af88.out).mono ?_); (case side1 => exact (Kd.R_reads' (by (with_reducible repeat (first | apply Kd.R_alloc | apply Kd.R_drewN | apply Kd.R_drew)); exact HO49.out)).2.2); (case side2 => exact (Kd.R_reads' HO49.out).2.1); rintro e w' ⟨rfl, ⟨nd, rfl⟩⟩))
                    go_ret
                    exact ⟨congrArg (fun b_ => Ending.returned (.bool b_)) HE.out, bel⟩
                  · rw [if_pos c27_] at H
                    have c27_b : (t87 == t84) = true := beq_iff_eq.mpr c27_
                    have c27_d : (t87 != t84) = false := bne_eq_false_iff_eq.mpr c27_
                    clear c27_
                    replace H := Option.bind_eq_some_iff.mp H
                    obtain ⟨⟨t89, t90⟩, Af970, H⟩ := H
                    (try dsimp only at H)
                    have Af97 := Aside0.mk Af970
                    clear Af970
                    replace H := Option.bind_eq_some_iff.mp H
                    obtain ⟨t98, Af1050, H⟩ := H
                    (try dsimp only at H)
                    have Af105 := Aside0.mk Af1050
                    clear Af1050
                    have HN := Aside0.mk H
                    clear H
                    go_wp2_with (first | (go_at_call 33; (with_reducible refine (laws_heldBoolS.calls k _ _ t85 1 t87 _ ?side1 ?side2 Af88.out).mono ?_); (case side1 => exact (Kd.R_reads' (by (with_reducible repeat (first | apply Kd.R_alloc | apply Kd.R_drewN | apply Kd.R_drew)); exact HO49.out)).2.2); (case side2 => exact (Kd.R_reads' HO49.out).2.1); rintro e w' ⟨rfl, ⟨nd, rfl⟩⟩) | ((with_reducible refine gate_callee (f := 13) rfl ?_); refine goesL_ (some 78) rfl rfl Try.func13 (by kernel_rfl) rfl #[.agg #[.int .i64 a0_0, .slice A0_1 l0_1.length c0_1]] rfl ga ?_; (with_reducible refine (laws_toNet.calls k a0_0 _ _ l0_1 t89 t90 _ ?side1 ?side2 Af97.out).mono ?_); (case side1 => exact ck (Kd.C_below HR0_1.out HB.out)); (case side2 => exact HC0_1.out); rintro e W28 ⟨v91, rfl, ho0, hb⟩; refine ⟨_, rfl, ?_⟩; obtain ⟨n28, m28, hn_, hm_, hF0⟩ := mk_rowR2 ho0 bel; have ord28 : m16 ≤ n28 := Nat.le_trans HMm16.out (Nat.le_of_eq hn_.symm); have nm28 : n28 ≤ m28 := Nat.le_trans (Nat.le_of_eq hn_) (Nat.le_trans (below_size hb) (Nat.le_of_eq hm_.symm)); have HMm28 := Aside0.mk (show m28 ≤ W28.heap.size from Nat.le_of_eq hm_); clear ho0; clear hn_ hm_; replace HO24 := Aside0.mk (Kd.R_below (by (with_reducible repeat (first | apply Kd.R_alloc | apply Kd.R_drewN | apply Kd.R_drew)); exact HO24.out) hb); replace HO49 := Aside0.mk (Kd.R_below (by (with_reducible repeat (first | apply Kd.R_alloc | apply Kd.R_drewN | apply Kd.R_drew)); exact HO49.out) hb); replace BK3 := Aside0.mk (bb BK3.out hb); clear hz3_0 hz3_1; obtain ⟨hz3_0, hz3_1⟩ := cc2 BK3.out; replace BK9 := Aside0.mk (bb BK9.out hb); clear hz9_0 hz9_1; obtain ⟨hz9_0, hz9_1⟩ := cc2 BK9.out; replace HB := Aside0.mk (below_step bel hb); clear hb; have HO94 := Aside0.mk hF0; clear hF0; obtain ⟨Ao92, co93, eo_⟩ := Kd.R_slice HO94.out; subst eo_) | ((with_reducible refine gate_callee (f := 17) rfl ?_); refine goesL_ (some 81) rfl rfl Try.func17 (by kernel_rfl) rfl #[.slice A2 l2.length c2] rfl ga ?_; (with_reducible refine (laws_toIntS.calls k _ _ l2 t98 _ ?side1 ?side2 Af105.out).mono ?_); (case side1 => exact ck (Kd.C_below HR2.out HB.out)); (case side2 => exact HC2.out); rintro e W29 ⟨v99, rfl, ho0, hb⟩; refine ⟨_, rfl, ?_⟩; obtain ⟨n29, m29, hn_, hm_, hF0⟩ := mk_rowR2 ho0 bel; have ord29 : m28 ≤ n29 := Nat.le_trans HMm28.out (Nat.le_of_eq hn_.symm); have nm29 : n29 ≤ m29 := Nat.le_trans (Nat.le_of_eq hn_) (Nat.le_trans (below_size hb) (Nat.le_of_eq hm_.symm)); have HMm29 := Aside0.mk (show m29 ≤ W29.heap.size from Nat.le_of_eq hm_); clear ho0; clear hn_ hm_; replace HO24 := Aside0.mk (Kd.R_below (by (with_reducible repeat (first | apply Kd.R_alloc | apply Kd.R_drewN | apply Kd.R_drew)); exact HO24.out) hb); replace HO49 := Aside0.mk (Kd.R_below (by (with_reducible repeat (first | apply Kd.R_alloc | apply Kd.R_drewN | apply Kd.R_drew)); exact HO49.out) hb); replace HO94 := Aside0.mk (Kd.R_below (by (with_reducible repeat (first | apply Kd.R_alloc | apply Kd.R_drewN | apply Kd.R_drew)); exact HO94.out) hb); replace BK3 := Aside0.mk (bb BK3.out hb); clear hz3_0 hz3_1; obtain ⟨hz3_0, hz3_1⟩ := cc2 BK3.out; replace BK9 := Aside0.mk (bb BK9.out hb); clear hz9_0 hz9_1; obtain ⟨hz9_0, hz9_1⟩ := cc2 BK9.out; replace HB := Aside0.mk (below_step bel hb); clear hb; have HO102 := Aside0.mk hF0; clear hF0; obtain ⟨Ao100, co101, eo_⟩ := Kd.R_slice HO102.out; subst eo_))
                    have H := HN.out
                    clear HN
                    replace H := Option.bind_eq_some_iff.mp H
                    obtain ⟨t106, Af1130, H⟩ := H
                    (try dsimp only at H)
                    have Af113 := Aside0.mk Af1130
                    clear Af1130
                    have HN := Aside0.mk H
                    clear H
                    go_wp2_with (first | (go_at_call 29; (with_reducible refine (impl_SourceSide.calls k t89 _ _ t90 a1 _ _ t98 t106 _ ?side1 ?side2 ?side3 ?side4 Af113.out).mono ?_); (case side1 => exact (Kd.R_reads' (by (with_reducible repeat (first | apply Kd.R_alloc | apply Kd.R_drewN | apply Kd.R_drew)); exact HO94.out)).2.2); (case side2 => exact (Kd.R_reads' HO94.out).2.1); (case side3 => exact (Kd.R_reads' (by (with_reducible repeat (first | apply Kd.R_alloc | apply Kd.R_drewN | apply Kd.R_drew)); exact HO102.out)).2.2); (case side4 => exact (Kd.R_reads' HO102.out).2.1); rintro e W30 ⟨v107, rfl, ho0, hb⟩; obtain ⟨n30, m30, hn_, hm_, hF0⟩ := mk_rowR2 ho0 bel; have ord30 : m29 ≤ n30 := Nat.le_trans HMm29.out (Nat.le_of_eq hn_.symm); have nm30 : n30 ≤ m30 := Nat.le_trans (Nat.le_of_eq hn_) (Nat.le_trans (below_size hb) (Nat.le_of_eq hm_.symm)); have HMm30 := Aside0.mk (show m30 ≤ W30.heap.size from Nat.le_of_eq hm_); clear ho0; clear hn_ hm_; replace HO24 := Aside0.mk (Kd.R_below (by (with_reducible repeat (first | apply Kd.R_alloc | apply Kd.R_drewN | apply Kd.R_drew)); exact HO24.out) hb); replace HO49 := Aside0.mk (Kd.R_below (by (with_reducible repeat (first | apply Kd.R_alloc | apply Kd.R_drewN | apply Kd.R_drew)); exact HO49.out) hb); replace BK3 := Aside0.mk (bb BK3.out hb); clear hz3_0 hz3_1; obtain ⟨hz3_0, hz3_1⟩ := cc2 BK3.out; replace BK9 := Aside0.mk (bb BK9.out hb); clear hz9_0 hz9_1; obtain ⟨hz9_0, hz9_1⟩ := cc2 BK9.out; replace HB := Aside0.mk (below_step bel hb); clear hb; have HO110 := Aside0.mk hF0; clear hF0; obtain ⟨Ao108, co109, eo_⟩ := Kd.R_slice HO110.out; subst eo_))
                    have H := HN.out
                    clear HN
                    replace H := Option.bind_eq_some_iff.mp H
                    obtain ⟨t114, Af1150, H⟩ := H
                    (try dsimp only at H)
                    have Af115 := Aside0.mk Af1150
                    clear Af1150
                    cases t114 with
                    | false =>
                      replace H : some false = some r := by rw [if_neg (by decide)] at H; exact H
                      have HE := Aside0.mk (Option.some.inj H)
                      clear H
                      go_wp2_with (first | (go_at_call 23; (with_reducible refine (laws_eqBoolS.calls k _ _ t106 _ _ t20 false _ ?side1 ?side2 ?side3 ?side4 Af115.out).mono ?_); (case side1 => exact (Kd.R_reads' (by (with_reducible repeat (first | apply Kd.R_alloc | apply Kd.R_drewN | apply Kd.R_drew)); exact HO110.out)).2.2); (case side2 => exact (Kd.R_reads' HO110.out).2.1); (case side3 => exact (Kd.R_reads' (by (with_reducible repeat (first | apply Kd.R_alloc | apply Kd.R_drewN | apply Kd.R_drew)); exact HO24.out)).2.2); (case side4 => exact (Kd.R_reads' HO24.out).2.1); rintro e w' ⟨rfl, ⟨nd, rfl⟩⟩))
                      go_ret
                      exact ⟨congrArg (fun b_ => Ending.returned (.bool b_)) HE.out, bel⟩
                    | true =>
                      rw [if_pos rfl] at H
                      have HN := Aside0.mk H
                      clear H
                      go_wp2_with (first | (go_at_call 23; (with_reducible refine (laws_eqBoolS.calls k _ _ t106 _ _ t20 true _ ?side1 ?side2 ?side3 ?side4 Af115.out).mono ?_); (case side1 => exact (Kd.R_reads' (by (with_reducible repeat (first | apply Kd.R_alloc | apply Kd.R_drewN | apply Kd.R_drew)); exact HO110.out)).2.2); (case side2 => exact (Kd.R_reads' HO110.out).2.1); (case side3 => exact (Kd.R_reads' (by (with_reducible repeat (first | apply Kd.R_alloc | apply Kd.R_drewN | apply Kd.R_drew)); exact HO24.out)).2.2); (case side4 => exact (Kd.R_reads' HO24.out).2.1); rintro e w' ⟨rfl, ⟨nd, rfl⟩⟩))
                      have H := HN.out
                      clear HN
                      replace H := Option.bind_eq_some_iff.mp H
                      obtain ⟨t116, Af1170, H⟩ := H
                      (try dsimp only at H)
                      have Af117 := Aside0.mk Af1170
                      clear Af1170
                      by_cases c34_ : t116 < 0
                      · rw [if_pos c34_] at H
                        have c34_b : decide (t116 < 0) = true := decide_eq_true c34_
                        clear c34_
                        have HE := Aside0.mk (Option.some.inj H)
                        clear H
                        go_wp2_with (first | (go_at_call 33; (with_reducible refine (laws_heldBoolS.calls k _ _ t85 1 t116 _ ?side1 ?side2 Af117.out).mono ?_); (case side1 => exact (Kd.R_reads' (by (with_reducible repeat (first | apply Kd.R_alloc | apply Kd.R_drewN | apply Kd.R_drew)); exact HO49.out)).2.2); (case side2 => exact (Kd.R_reads' HO49.out).2.1); rintro e w' ⟨rfl, ⟨nd, rfl⟩⟩))
                        go_ret
                        exact ⟨congrArg (fun b_ => Ending.returned (.bool b_)) HE.out, bel⟩
                      · rw [if_neg c34_] at H
                        have c34_b : decide (t116 < 0) = false := decide_eq_false c34_
                        clear c34_
                        by_cases c35_ : t116 = t84
                        rotate_left
                        · rw [if_neg c35_] at H
                          have c35_b : (t116 == t84) = false := beq_eq_false_iff_ne.mpr c35_
                          have c35_d : (t116 != t84) = true := bne_iff_ne.mpr c35_
                          clear c35_
                          have HE := Aside0.mk (Option.some.inj H)
                          clear H
                          go_wp2_with (first | (go_at_call 33; (with_reducible refine (laws_heldBoolS.calls k _ _ t85 1 t116 _ ?side1 ?side2 Af117.out).mono ?_); (case side1 => exact (Kd.R_reads' (by (with_reducible repeat (first | apply Kd.R_alloc | apply Kd.R_drewN | apply Kd.R_drew)); exact HO49.out)).2.2); (case side2 => exact (Kd.R_reads' HO49.out).2.1); rintro e w' ⟨rfl, ⟨nd, rfl⟩⟩))
                          go_ret
                          exact ⟨congrArg (fun b_ => Ending.returned (.bool b_)) HE.out, bel⟩
                        · rw [if_pos c35_] at H
                          have c35_b : (t116 == t84) = true := beq_iff_eq.mpr c35_
                          have c35_d : (t116 != t84) = false := bne_eq_false_iff_eq.mpr c35_
                          clear c35_
                          have HE := Aside0.mk (Option.some.inj H)
                          clear H
                          go_wp2_with (first | (go_at_call 33; (with_reducible refine (laws_heldBoolS.calls k _ _ t85 1 t116 _ ?side1 ?side2 Af117.out).mono ?_); (case side1 => exact (Kd.R_reads' (by (with_reducible repeat (first | apply Kd.R_alloc | apply Kd.R_drewN | apply Kd.R_drew)); exact HO49.out)).2.2); (case side2 => exact (Kd.R_reads' HO49.out).2.1); rintro e w' ⟨rfl, ⟨nd, rfl⟩⟩))
                          go_ret
                          exact ⟨congrArg (fun b_ => Ending.returned (.bool b_)) HE.out, bel⟩

end Go.Proofs.Yteaemblallbgpaa.X
