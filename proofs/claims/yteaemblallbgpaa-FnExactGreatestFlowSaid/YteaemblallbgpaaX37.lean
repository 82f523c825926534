-- Written by a program of this session (wip/xp.py, over the kit's print) out of the translation: functions, and the walks that show them.
import Derived.Test.YteaemblallbgpaaX0
import Derived.Test.YteaemblallbgpaaX1
import Derived.Test.YteaemblallbgpaaX3
import Derived.Test.YteaemblallbgpaaX6
import Derived.Test.YteaemblallbgpaaX11
import Derived.Test.YteaemblallbgpaaX30
import Derived.Test.YteaemblallbgpaaX34
import Derived.Test.YteaemblallbgpaaX35
import Derived.Test.YteaemblallbgpaaX36
namespace Go.Proofs.Yteaemblallbgpaa.X
open Go.RowKit Go.Proofs.YteaemblallbgpaaW.PrintWords Go.Proofs.YteaemblallbgpaaW.PrintLast Go.Proofs.YteaemblallbgpaaW.PrintMore
attribute [local go_sem] max2_int min2_int max_two min_two max_three min_three max_four min_four   -- for this text's walks alone
set_option linter.unusedVariables false
set_option linter.unusedSimpArgs false

/-! ### laws_FnExactGreatestFlow: function 9 (this session's own text: wip/xext.py, law_text) -/
def laws_FnExactGreatestFlow.f (k : Nat) (a0_0 : Int) (l0_1 : List (S77)) (a1 : Int) (a2 : Int) : Option Bool := ((laws_szNet.f a0_0 l0_1 1048576).bind fun t1 => (if t1 < 0 then (some true) else ((laws_toNet.f k a0_0 l0_1).bind fun b3 => ((spec_GreatestFlow.f k b3.1 b3.2 a1 a2).bind fun b4 => ((laws_toNet.f k a0_0 l0_1).bind fun b5 => ((impl_GreatestFlow.f k b5.1 b5.2 a1 a2).bind fun b7 => ((laws_eqIntS.f k b7.1 b4.1).bind fun t39 => (if t39 = true then (if (b7.2 != b4.2) = true then (some false) else ((laws_toNet.f k a0_0 l0_1).bind fun b11 => ((laws_eqNet.f k b5.1 b5.2 b11.1 b11.2).bind fun t50 => (if t50 = true then ((laws_markNet.f k b5.1 b5.2 1).bind fun b14 => (if b14.1 < 0 then (some false) else ((laws_eqIntS.f k b7.1 b4.1).bind fun t55 => (if t55 = true then (if (b7.2 != b4.2) = true then (some false) else ((laws_markIntS.f k b7.1 1).bind fun b19 => ((laws_heldIntS.f k b19.2 1).bind fun t60 => (if t60 < 0 then (some false) else (if t60 = b19.1 then ((laws_toNet.f k a0_0 l0_1).bind fun b23 => ((impl_GreatestFlow.f k b23.1 b23.2 a1 a2).bind fun b24 => ((laws_eqIntS.f k b24.1 b4.1).bind fun t80 => (if t80 = true then (if (b24.2 != b4.2) = true then (some false) else ((laws_heldIntS.f k b19.2 1).bind fun t82 => (if t82 < 0 then (some false) else (if t82 = b19.1 then (some true) else (some false))))) else (some false))))) else (some false)))))) else (some false))))) else (some false))))) else (some false)))))))))
theorem laws_FnExactGreatestFlow.mono : ∀ a0 a1 a2 a3 k, LeO (laws_FnExactGreatestFlow.f k a0 a1 a2 a3) (laws_FnExactGreatestFlow.f (k + 1) a0 a1 a2 a3) := by
  intro a0 a1 a2 a3 k
  unfold laws_FnExactGreatestFlow.f
  repeat' first
      | (with_reducible exact laws_toNet.mono _ _ _)
      | (with_reducible exact laws_eqNet.mono _ _ _ _ _)
      | (with_reducible exact laws_eqIntS.mono _ _ _)
      | (with_reducible exact laws_markNet.mono _ _ _ _)
      | (with_reducible exact laws_markIntS.mono _ _ _)
      | (with_reducible exact spec_GreatestFlow.mono _ _ _ _ _)
      | (with_reducible exact impl_GreatestFlow.mono _ _ _ _ _)
      | (with_reducible exact laws_heldIntS.mono _ _ _)
      | (with_reducible exact LeO.refl _)
      | (with_reducible exact LeO.none _)
      | (with_reducible refine LeO.ite ?_ ?_)
      | (with_reducible refine LeO.bind ?_ (fun _ => ?_))
      | exact laws_toNet.mono _ _ _
      | exact laws_eqNet.mono _ _ _ _ _
      | exact laws_eqIntS.mono _ _ _
      | exact laws_markNet.mono _ _ _ _
      | exact laws_markIntS.mono _ _ _
      | exact spec_GreatestFlow.mono _ _ _ _ _
      | exact impl_GreatestFlow.mono _ _ _ _ _
      | exact laws_heldIntS.mono _ _ _
      | exact LeO.none _
      | refine LeO.ite ?_ ?_
      | refine LeO.bind ?_ (fun _ => ?_)
set_option maxHeartbeats 16000000 in
set_option maxRecDepth 100000 in
theorem laws_FnExactGreatestFlow.calls (k : Nat) (a0_0 : Int) (A0_1 : Option Addr) (c0_1 : Nat) (l0_1 : List (S77)) (a1 : Int) (a2 : Int) (r : Bool) (w : World) (hr0_1 : Kd.C k77 w A0_1 l0_1.length l0_1) (hc0_1 : l0_1.length ≤ c0_1) (h : laws_FnExactGreatestFlow.f k a0_0 l0_1 a1 a2 = some r) :
    Calls Try.prog 9 #[.agg #[.int .i64 a0_0, .slice A0_1 l0_1.length c0_1], .int .i64 a1, .int .i64 a2] w fun e w' => e = .returned (.bool r) ∧ Below w.heap.size w w' := by
  have HR0_1 := Aside0.mk hr0_1
  have HC0_1 := Aside0.mk hc0_1
  clear hr0_1 hc0_1
  have HB := Aside0.mk (Below.refl w.heap.size w)
  have HM0 := Aside0.mk (Nat.zero_le w.heap.size)
  have H : ((laws_szNet.f a0_0 l0_1 1048576).bind fun t1 => (if t1 < 0 then (some true) else ((laws_toNet.f k a0_0 l0_1).bind fun b3 => ((spec_GreatestFlow.f k b3.1 b3.2 a1 a2).bind fun b4 => ((laws_toNet.f k a0_0 l0_1).bind fun b5 => ((impl_GreatestFlow.f k b5.1 b5.2 a1 a2).bind fun b7 => ((laws_eqIntS.f k b7.1 b4.1).bind fun t39 => (if t39 = true then (if (b7.2 != b4.2) = true then (some false) else ((laws_toNet.f k a0_0 l0_1).bind fun b11 => ((laws_eqNet.f k b5.1 b5.2 b11.1 b11.2).bind fun t50 => (if t50 = true then ((laws_markNet.f k b5.1 b5.2 1).bind fun b14 => (if b14.1 < 0 then (some false) else ((laws_eqIntS.f k b7.1 b4.1).bind fun t55 => (if t55 = true then (if (b7.2 != b4.2) = true then (some false) else ((laws_markIntS.f k b7.1 1).bind fun b19 => ((laws_heldIntS.f k b19.2 1).bind fun t60 => (if t60 < 0 then (some false) else (if t60 = b19.1 then ((laws_toNet.f k a0_0 l0_1).bind fun b23 => ((impl_GreatestFlow.f k b23.1 b23.2 a1 a2).bind fun b24 => ((laws_eqIntS.f k b24.1 b4.1).bind fun t80 => (if t80 = true then (if (b24.2 != b4.2) = true then (some false) else ((laws_heldIntS.f k b19.2 1).bind fun t82 => (if t82 < 0 then (some false) else (if t82 = b19.1 then (some true) else (some false))))) else (some false))))) else (some false)))))) else (some false))))) else (some false))))) else (some false))))))))) = some r := h
  clear h
  replace H := Option.bind_eq_some_iff.mp H
  obtain ⟨t1, Af20, H⟩ := H
  (try dsimp only at H)
  have Af2 := Aside0.mk Af20
  clear Af20
  by_cases c2_ : t1 < 0
  · rw [if_pos c2_] at H
    have c2_b : decide (t1 < 0) = true := decide_eq_true c2_
    clear c2_
    have HE := Aside0.mk (Option.some.inj H)
    clear H
    go_enter Try.func9, Try.ntmps9
    go_wp2_with (first | ((with_reducible refine gate_dst (N := 3) rfl ?_); refine box_event ?hg (N := 3) ?hd (cs := #[.int .i64 a0_0, .slice A0_1 l0_1.length c0_1]) (t := 24) ?hr ?_; (case hd => rfl); (case hg => rfl); (case hr => first | (go_simp; done) | (go_simp; rfl)); intro gb3 hg wb3 hbox hb; have BK3 := Aside0.mk hbox; replace HM0 := Aside0.mk (Nat.le_trans HM0.out (below_size hb)); replace HB := Aside0.mk (below_step bel hb); clear hb hbox hg; obtain ⟨hz3_0, hz3_1⟩ := cc2 BK3.out) | ((with_reducible refine gate_callee (f := 11) rfl ?_); refine goesL_ (some 20) rfl rfl Try.func11 (by kernel_rfl) rfl #[.agg #[.int .i64 a0_0, .slice A0_1 l0_1.length c0_1], .int .i64 1048576] rfl ga ?_; (with_reducible refine (laws_szNet.calls a0_0 _ _ l0_1 1048576 t1 _ ?side1 ?side2 Af2.out).mono ?_); (case side1 => exact ck (Kd.C_below HR0_1.out HB.out)); (case side2 => exact HC0_1.out); rintro e W1 ⟨rfl, hb⟩; refine ⟨_, rfl, ?_⟩; replace BK3 := Aside0.mk (bb BK3.out hb); clear hz3_0 hz3_1; obtain ⟨hz3_0, hz3_1⟩ := cc2 BK3.out; replace HM0 := Aside0.mk (Nat.le_trans HM0.out (below_size hb)); replace HB := Aside0.mk (below_step bel hb); clear hb))
    go_ret
    exact ⟨congrArg (fun b_ => Ending.returned (.bool b_)) HE.out, bel⟩
  · rw [if_neg c2_] at H
    have c2_b : decide (t1 < 0) = false := decide_eq_false c2_
    clear c2_
    replace H := Option.bind_eq_some_iff.mp H
    obtain ⟨⟨t3, t4⟩, Af110, H⟩ := H
    (try dsimp only at H)
    have Af11 := Aside0.mk Af110
    clear Af110
    have HN := Aside0.mk H
    clear H
    go_enter Try.func9, Try.ntmps9
    go_wp2_with (first | ((with_reducible refine gate_dst (N := 3) rfl ?_); refine box_event ?hg (N := 3) ?hd (cs := #[.int .i64 a0_0, .slice A0_1 l0_1.length c0_1]) (t := 24) ?hr ?_; (case hd => rfl); (case hg => rfl); (case hr => first | (go_simp; done) | (go_simp; rfl)); intro gb3 hg wb3 hbox hb; have BK3 := Aside0.mk hbox; replace HM0 := Aside0.mk (Nat.le_trans HM0.out (below_size hb)); replace HB := Aside0.mk (below_step bel hb); clear hb hbox hg; obtain ⟨hz3_0, hz3_1⟩ := cc2 BK3.out) | ((with_reducible refine gate_callee (f := 11) rfl ?_); refine goesL_ (some 20) rfl rfl Try.func11 (by kernel_rfl) rfl #[.agg #[.int .i64 a0_0, .slice A0_1 l0_1.length c0_1], .int .i64 1048576] rfl ga ?_; (with_reducible refine (laws_szNet.calls a0_0 _ _ l0_1 1048576 t1 _ ?side1 ?side2 Af2.out).mono ?_); (case side1 => exact ck (Kd.C_below HR0_1.out HB.out)); (case side2 => exact HC0_1.out); rintro e W1 ⟨rfl, hb⟩; refine ⟨_, rfl, ?_⟩; replace BK3 := Aside0.mk (bb BK3.out hb); clear hz3_0 hz3_1; obtain ⟨hz3_0, hz3_1⟩ := cc2 BK3.out; replace HM0 := Aside0.mk (Nat.le_trans HM0.out (below_size hb)); replace HB := Aside0.mk (below_step bel hb); clear hb) | ((with_reducible refine gate_callee (f := 13) rfl ?_); refine goesL_ (some 25) rfl rfl Try.func13 (by kernel_rfl) rfl #[.agg #[.int .i64 a0_0, .slice A0_1 l0_1.length c0_1]] rfl ga ?_; (with_reducible refine (laws_toNet.calls k a0_0 _ _ l0_1 t3 t4 _ ?side1 ?side2 Af11.out).mono ?_); (case side1 => exact ck (Kd.C_below HR0_1.out HB.out)); (case side2 => exact HC0_1.out); rintro e W3 ⟨v5, rfl, ho0, hb⟩; refine ⟨_, rfl, ?_⟩; obtain ⟨n3, m3, hn_, hm_, hF0⟩ := mk_rowR2 ho0 bel; have ord3 : 0 ≤ n3 := Nat.le_trans HM0.out (Nat.le_of_eq hn_.symm); have nm3 : n3 ≤ m3 := Nat.le_trans (Nat.le_of_eq hn_) (Nat.le_trans (below_size hb) (Nat.le_of_eq hm_.symm)); have HMm3 := Aside0.mk (show m3 ≤ W3.heap.size from Nat.le_of_eq hm_); have hgb3 : gb3 < n3 := (by rw [hn_]; exact blk_lt BK3.out); clear ho0; clear hn_ hm_; replace BK3 := Aside0.mk (bb BK3.out hb); clear hz3_0 hz3_1; obtain ⟨hz3_0, hz3_1⟩ := cc2 BK3.out; replace HB := Aside0.mk (below_step bel hb); clear hb; have HO8 := Aside0.mk hF0; clear hF0; obtain ⟨Ao6, co7, eo_⟩ := Kd.R_slice HO8.out; subst eo_))
    have H := HN.out
    clear HN
    replace H := Option.bind_eq_some_iff.mp H
    obtain ⟨⟨t12, t19⟩, Af200, H⟩ := H
    (try dsimp only at H)
    have Af20 := Aside0.mk Af200
    clear Af200
    replace H := Option.bind_eq_some_iff.mp H
    obtain ⟨⟨t21, t22⟩, Af290, H⟩ := H
    (try dsimp only at H)
    have Af29 := Aside0.mk Af290
    clear Af290
    have HN := Aside0.mk H
    clear H
    go_wp2_with (first | (go_at_call 34; (with_reducible refine (spec_GreatestFlow.calls k t3 _ _ t4 a1 a2 t12 t19 _ ?side1 ?side2 Af20.out).mono ?_); (case side1 => exact (Kd.R_reads' (by (with_reducible repeat (first | apply Kd.R_alloc | apply Kd.R_drewN | apply Kd.R_drew)); exact HO8.out)).2.2); (case side2 => exact (Kd.R_reads' HO8.out).2.1); rintro e W4 ⟨v13, rfl, ho0, hb⟩; obtain ⟨n4, m4, hn_, hm_, hF0⟩ := mk_rowR2 ho0 bel; have ord4 : m3 ≤ n4 := Nat.le_trans HMm3.out (Nat.le_of_eq hn_.symm); have nm4 : n4 ≤ m4 := Nat.le_trans (Nat.le_of_eq hn_) (Nat.le_trans (below_size hb) (Nat.le_of_eq hm_.symm)); have HMm4 := Aside0.mk (show m4 ≤ W4.heap.size from Nat.le_of_eq hm_); clear ho0; clear hn_ hm_; replace BK3 := Aside0.mk (bb BK3.out hb); clear hz3_0 hz3_1; obtain ⟨hz3_0, hz3_1⟩ := cc2 BK3.out; replace HB := Aside0.mk (below_step bel hb); clear hb; have HO16 := Aside0.mk hF0; clear hF0; obtain ⟨Ao14, co15, eo_⟩ := Kd.R_slice HO16.out; subst eo_) | ((with_reducible refine gate_callee (f := 13) rfl ?_); refine goesL_ (some 32) rfl rfl Try.func13 (by kernel_rfl) rfl #[.agg #[.int .i64 a0_0, .slice A0_1 l0_1.length c0_1]] rfl ga ?_; (with_reducible refine (laws_toNet.calls k a0_0 _ _ l0_1 t21 t22 _ ?side1 ?side2 Af29.out).mono ?_); (case side1 => exact ck (Kd.C_below HR0_1.out HB.out)); (case side2 => exact HC0_1.out); rintro e W5 ⟨v23, rfl, ho0, hb⟩; refine ⟨_, rfl, ?_⟩; obtain ⟨n5, m5, hn_, hm_, hF0⟩ := mk_rowR2 ho0 bel; have ord5 : m4 ≤ n5 := Nat.le_trans HMm4.out (Nat.le_of_eq hn_.symm); have nm5 : n5 ≤ m5 := Nat.le_trans (Nat.le_of_eq hn_) (Nat.le_trans (below_size hb) (Nat.le_of_eq hm_.symm)); have HMm5 := Aside0.mk (show m5 ≤ W5.heap.size from Nat.le_of_eq hm_); clear ho0; clear hn_ hm_; replace HO16 := Aside0.mk (Kd.R_below (by (with_reducible repeat (first | apply Kd.R_alloc | apply Kd.R_drewN | apply Kd.R_drew)); exact HO16.out) hb); replace BK3 := Aside0.mk (bb BK3.out hb); clear hz3_0 hz3_1; obtain ⟨hz3_0, hz3_1⟩ := cc2 BK3.out; replace HB := Aside0.mk (below_step bel hb); clear hb; have HO26 := Aside0.mk hF0; clear hF0; obtain ⟨Ao24, co25, eo_⟩ := Kd.R_slice HO26.out; subst eo_) | ((with_reducible refine gate_dst (N := 10) rfl ?_); refine box_event ?hg (N := 10) ?hd (cs := #[.int .i64 0, .slice none 0 0]) (t := 29) ?hr ?_; (case hd => rfl); (case hg => rfl); (case hr => first | (go_simp; done) | (go_simp; rfl)); intro gb10 hg wa10 hbox hb; have G10 := Aside0.mk hg; have X10 := Aside0.mk hbox; have B10 := Aside0.mk hb; clear hg hbox hb; obtain ⟨hz10_0, hz10_1, fz10_0, fz10_1⟩ := cf2 X10.out) | ((with_reducible refine gate_store (t := 29) (p := 10) rfl ?_); refine store_event (t := 29) (p := 10) (v := ?vo10_) (w1 := ((wa10.setCell ⟨gb10, 0, none⟩ (.int .i64 t21)).setCell ⟨gb10, 1, none⟩ (.slice Ao24 t22.length co25))) ?hg ?ho ?hn ?hr ?_; (case ho => rfl); (case hg => rfl); (case hn => rfl); (case hr => first | (go_simp; done) | (go_simp; rfl)); intro wb10 hw; have hb := bs2 B10.out (Nat.le_of_eq G10.out.symm) hw; have BK10 := Aside0.mk (pt2 X10.out hw); clear hz10_0 hz10_1 fz10_0 fz10_1 hw; have hgl10 : m5 ≤ gb10 := (by rw [G10.out]; exact HMm5.out); replace HO16 := Aside0.mk (Kd.R_below (by (with_reducible repeat (first | apply Kd.R_alloc | apply Kd.R_drewN | apply Kd.R_drew)); exact HO16.out) hb); replace HO26 := Aside0.mk (Kd.R_below (by (with_reducible repeat (first | apply Kd.R_alloc | apply Kd.R_drewN | apply Kd.R_drew)); exact HO26.out) hb); replace BK3 := Aside0.mk (bb BK3.out hb); clear hz3_0 hz3_1; obtain ⟨hz3_0, hz3_1⟩ := cc2 BK3.out; replace HMm5 := Aside0.mk (Nat.le_trans HMm5.out (below_size hb)); replace HB := Aside0.mk (below_step bel hb); clear hb; obtain ⟨hz10_0, hz10_1⟩ := cc2 BK10.out))
    have H := HN.out
    clear HN
    replace H := Option.bind_eq_some_iff.mp H
    obtain ⟨⟨t30, t37⟩, Af380, H⟩ := H
    (try dsimp only at H)
    have Af38 := Aside0.mk Af380
    clear Af380
    have HN := Aside0.mk H
    clear H
    go_wp2_with (first | (go_at_call 35; (with_reducible refine (impl_GreatestFlow.calls k t21 _ _ t22 a1 a2 t30 t37 _ ?side1 ?side2 Af38.out).mono ?_); (case side1 => exact (Kd.R_reads' (by (with_reducible repeat (first | apply Kd.R_alloc | apply Kd.R_drewN | apply Kd.R_drew)); exact HO26.out)).2.2); (case side2 => exact (Kd.R_reads' HO26.out).2.1); rintro e W7 ⟨v31, rfl, ho0, hb⟩; obtain ⟨n7, m7, hn_, hm_, hF0⟩ := mk_rowR2 ho0 bel; have ord7 : m5 ≤ n7 := Nat.le_trans HMm5.out (Nat.le_of_eq hn_.symm); have nm7 : n7 ≤ m7 := Nat.le_trans (Nat.le_of_eq hn_) (Nat.le_trans (below_size hb) (Nat.le_of_eq hm_.symm)); have HMm7 := Aside0.mk (show m7 ≤ W7.heap.size from Nat.le_of_eq hm_); have hgb10 : gb10 < n7 := (by rw [hn_]; exact blk_lt BK10.out); clear ho0; clear hn_ hm_; replace HO16 := Aside0.mk (Kd.R_below (by (with_reducible repeat (first | apply Kd.R_alloc | apply Kd.R_drewN | apply Kd.R_drew)); exact HO16.out) hb); replace HO26 := Aside0.mk (Kd.R_below (by (with_reducible repeat (first | apply Kd.R_alloc | apply Kd.R_drewN | apply Kd.R_drew)); exact HO26.out) hb); replace BK3 := Aside0.mk (bb BK3.out hb); clear hz3_0 hz3_1; obtain ⟨hz3_0, hz3_1⟩ := cc2 BK3.out; replace BK10 := Aside0.mk (bb BK10.out hb); clear hz10_0 hz10_1; obtain ⟨hz10_0, hz10_1⟩ := cc2 BK10.out; replace HB := Aside0.mk (below_step bel hb); clear hb; have HO34 := Aside0.mk hF0; clear hF0; obtain ⟨Ao32, co33, eo_⟩ := Kd.R_slice HO34.out; subst eo_))
    have H := HN.out
    clear HN
    replace H := Option.bind_eq_some_iff.mp H
    obtain ⟨t39, Af400, H⟩ := H
    (try dsimp only at H)
    have Af40 := Aside0.mk Af400
    clear Af400
    cases t39 with
    | false =>
      replace H : some false = some r := by rw [if_neg (by decide)] at H; exact H
      have HE := Aside0.mk (Option.some.inj H)
      clear H
      go_wp2_with (first | (go_at_call 19; (with_reducible refine (laws_eqIntS.calls k _ _ t30 _ _ t12 false _ ?side1 ?side2 ?side3 ?side4 Af40.out).mono ?_); (case side1 => exact (Kd.R_reads' (by (with_reducible repeat (first | apply Kd.R_alloc | apply Kd.R_drewN | apply Kd.R_drew)); exact HO34.out)).2.2); (case side2 => exact (Kd.R_reads' HO34.out).2.1); (case side3 => exact (Kd.R_reads' (by (with_reducible repeat (first | apply Kd.R_alloc | apply Kd.R_drewN | apply Kd.R_drew)); exact HO16.out)).2.2); (case side4 => exact (Kd.R_reads' HO16.out).2.1); rintro e w' ⟨rfl, ⟨nd, rfl⟩⟩))
      go_ret
      exact ⟨congrArg (fun b_ => Ending.returned (.bool b_)) HE.out, bel⟩
    | true =>
      rw [if_pos rfl] at H
      by_cases c10_ : (t37 != t19) = true
      · rw [if_pos c10_] at H
        have c10_d := bne_t c10_
        have HE := Aside0.mk (Option.some.inj H)
        clear H
        go_wp2_with (first | (go_at_call 19; (with_reducible refine (laws_eqIntS.calls k _ _ t30 _ _ t12 true _ ?side1 ?side2 ?side3 ?side4 Af40.out).mono ?_); (case side1 => exact (Kd.R_reads' (by (with_reducible repeat (first | apply Kd.R_alloc | apply Kd.R_drewN | apply Kd.R_drew)); exact HO34.out)).2.2); (case side2 => exact (Kd.R_reads' HO34.out).2.1); (case side3 => exact (Kd.R_reads' (by (with_reducible repeat (first | apply Kd.R_alloc | apply Kd.R_drewN | apply Kd.R_drew)); exact HO16.out)).2.2); (case side4 => exact (Kd.R_reads' HO16.out).2.1); rintro e w' ⟨rfl, ⟨nd, rfl⟩⟩))
        go_ret
        exact ⟨congrArg (fun b_ => Ending.returned (.bool b_)) HE.out, bel⟩
      · rw [if_neg c10_] at H
        have c10_d := bne_f c10_
        replace c10_ : (t37 != t19) = false := Bool.eq_false_iff.2 c10_
        have HN := Aside0.mk H
        clear H
        go_wp2_with (first | (go_at_call 19; (with_reducible refine (laws_eqIntS.calls k _ _ t30 _ _ t12 true _ ?side1 ?side2 ?side3 ?side4 Af40.out).mono ?_); (case side1 => exact (Kd.R_reads' (by (with_reducible repeat (first | apply Kd.R_alloc | apply Kd.R_drewN | apply Kd.R_drew)); exact HO34.out)).2.2); (case side2 => exact (Kd.R_reads' HO34.out).2.1); (case side3 => exact (Kd.R_reads' (by (with_reducible repeat (first | apply Kd.R_alloc | apply Kd.R_drewN | apply Kd.R_drew)); exact HO16.out)).2.2); (case side4 => exact (Kd.R_reads' HO16.out).2.1); rintro e w' ⟨rfl, ⟨nd, rfl⟩⟩))
        have H := HN.out
        clear HN
        replace H := Option.bind_eq_some_iff.mp H
        obtain ⟨⟨t41, t42⟩, Af490, H⟩ := H
        (try dsimp only at H)
        have Af49 := Aside0.mk Af490
        clear Af490
        replace H := Option.bind_eq_some_iff.mp H
        obtain ⟨t50, Af510, H⟩ := H
        (try dsimp only at H)
        have Af51 := Aside0.mk Af510
        clear Af510
        cases t50 with
        | false =>
          replace H : some false = some r := by rw [if_neg (by decide)] at H; exact H
          have HE := Aside0.mk (Option.some.inj H)
          clear H
          go_region_held3 (fun w' => w'.cell? ⟨gb3, 0, none⟩ = some (.int .i64 a0_0) ∧ w'.cell? ⟨gb3, 1, none⟩ = some (.slice A0_1 l0_1.length c0_1) ∧ w'.cell? ⟨gb10, 0, none⟩ = some (.int .i64 t21) ∧ w'.cell? ⟨gb10, 1, none⟩ = some (.slice Ao24 t22.length co25)) (go_keep) (first | (go_at_call 13; (with_reducible refine (laws_toNet.calls k a0_0 _ _ l0_1 t41 t42 _ ?side1 ?side2 Af49.out).mono ?_); (case side1 => exact ck (Kd.C_below HR0_1.out HB.out)); (case side2 => exact HC0_1.out); rintro e W11 ⟨v43, rfl, ho0, hb⟩; skip; obtain ⟨n11, m11, hn_, hm_, hF0⟩ := mk_rowR2 ho0 bel; have ord11 : m7 ≤ n11 := Nat.le_trans HMm7.out (Nat.le_of_eq hn_.symm); have nm11 : n11 ≤ m11 := Nat.le_trans (Nat.le_of_eq hn_) (Nat.le_trans (below_size hb) (Nat.le_of_eq hm_.symm)); have HMm11 := Aside0.mk (show m11 ≤ W11.heap.size from Nat.le_of_eq hm_); clear ho0; clear hn_ hm_; replace HO16 := Aside0.mk (Kd.R_below (by (with_reducible repeat (first | apply Kd.R_alloc | apply Kd.R_drewN | apply Kd.R_drew)); exact HO16.out) hb); replace HO26 := Aside0.mk (Kd.R_below (by (with_reducible repeat (first | apply Kd.R_alloc | apply Kd.R_drewN | apply Kd.R_drew)); exact HO26.out) hb); replace HO34 := Aside0.mk (Kd.R_below (by (with_reducible repeat (first | apply Kd.R_alloc | apply Kd.R_drewN | apply Kd.R_drew)); exact HO34.out) hb); replace BK3 := Aside0.mk (bb BK3.out hb); clear hz3_0 hz3_1; obtain ⟨hz3_0, hz3_1⟩ := cc2 BK3.out; replace BK10 := Aside0.mk (bb BK10.out hb); clear hz10_0 hz10_1; obtain ⟨hz10_0, hz10_1⟩ := cc2 BK10.out; replace HB := Aside0.mk (below_step bel hb); clear hb; have HO46 := Aside0.mk hF0; clear hF0; obtain ⟨Ao44, co45, eo_⟩ := Kd.R_slice HO46.out; subst eo_) | (go_at_call 15; (with_reducible refine (laws_eqNet.calls k t21 _ _ t22 t41 _ _ t42 false _ ?side1 ?side2 ?side3 ?side4 Af51.out).mono ?_); (case side1 => exact (Kd.R_reads' (by (with_reducible repeat (first | apply Kd.R_alloc | apply Kd.R_drewN | apply Kd.R_drew)); exact HO26.out)).2.2); (case side2 => exact (Kd.R_reads' HO26.out).2.1); (case side3 => exact (Kd.R_reads' (by (with_reducible repeat (first | apply Kd.R_alloc | apply Kd.R_drewN | apply Kd.R_drew)); exact HO46.out)).2.2); (case side4 => exact (Kd.R_reads' HO46.out).2.1); rintro e W12 ⟨rfl, hb⟩; skip; replace HO16 := Aside0.mk (Kd.R_below (by (with_reducible repeat (first | apply Kd.R_alloc | apply Kd.R_drewN | apply Kd.R_drew)); exact HO16.out) hb); replace HO26 := Aside0.mk (Kd.R_below (by (with_reducible repeat (first | apply Kd.R_alloc | apply Kd.R_drewN | apply Kd.R_drew)); exact HO26.out) hb); replace HO34 := Aside0.mk (Kd.R_below (by (with_reducible repeat (first | apply Kd.R_alloc | apply Kd.R_drewN | apply Kd.R_drew)); exact HO34.out) hb); replace BK3 := Aside0.mk (bb BK3.out hb); clear hz3_0 hz3_1; obtain ⟨hz3_0, hz3_1⟩ := cc2 BK3.out; replace BK10 := Aside0.mk (bb BK10.out hb); clear hz10_0 hz10_1; obtain ⟨hz10_0, hz10_1⟩ := cc2 BK10.out; replace HMm11 := Aside0.mk (Nat.le_trans HMm11.out (below_size hb)); replace HB := Aside0.mk (below_step bel hb); clear hb))
          go_wp2
          go_ret
          exact ⟨congrArg (fun b_ => Ending.returned (.bool b_)) HE.out, bel⟩
        | true =>
          rw [if_pos rfl] at H
          have HN := Aside0.mk H
          clear H
          go_region_held3 (fun w' => w'.cell? ⟨gb3, 0, none⟩ = some (.int .i64 a0_0) ∧ w'.cell? ⟨gb3, 1, none⟩ = some (.slice A0_1 l0_1.length c0_1) ∧ w'.cell? ⟨gb10, 0, none⟩ = some (.int .i64 t21) ∧ w'.cell? ⟨gb10, 1, none⟩ = some (.slice Ao24 t22.length co25)) (go_keep) (first | (go_at_call 13; (with_reducible refine (laws_toNet.calls k a0_0 _ _ l0_1 t41 t42 _ ?side1 ?side2 Af49.out).mono ?_); (case side1 => exact ck (Kd.C_below HR0_1.out HB.out)); (case side2 => exact HC0_1.out); rintro e W11 ⟨v43, rfl, ho0, hb⟩; skip; obtain ⟨n11, m11, hn_, hm_, hF0⟩ := mk_rowR2 ho0 bel; have ord11 : m7 ≤ n11 := Nat.le_trans HMm7.out (Nat.le_of_eq hn_.symm); have nm11 : n11 ≤ m11 := Nat.le_trans (Nat.le_of_eq hn_) (Nat.le_trans (below_size hb) (Nat.le_of_eq hm_.symm)); have HMm11 := Aside0.mk (show m11 ≤ W11.heap.size from Nat.le_of_eq hm_); clear ho0; clear hn_ hm_; replace HO16 := Aside0.mk (Kd.R_below (by (with_reducible repeat (first | apply Kd.R_alloc | apply Kd.R_drewN | apply Kd.R_drew)); exact HO16.out) hb); replace HO26 := Aside0.mk (Kd.R_below (by (with_reducible repeat (first | apply Kd.R_alloc | apply Kd.R_drewN | apply Kd.R_drew)); exact HO26.out) hb); replace HO34 := Aside0.mk (Kd.R_below (by (with_reducible repeat (first | apply Kd.R_alloc | apply Kd.R_drewN | apply Kd.R_drew)); exact HO34.out) hb); replace BK3 := Aside0.mk (bb BK3.out hb); clear hz3_0 hz3_1; obtain ⟨hz3_0, hz3_1⟩ := cc2 BK3.out; replace BK10 := Aside0.mk (bb BK10.out hb); clear hz10_0 hz10_1; obtain ⟨hz10_0, hz10_1⟩ := cc2 BK10.out; replace HB := Aside0.mk (below_step bel hb); clear hb; have HO46 := Aside0.mk hF0; clear hF0; obtain ⟨Ao44, co45, eo_⟩ := Kd.R_slice HO46.out; subst eo_) | (go_at_call 15; (with_reducible refine (laws_eqNet.calls k t21 _ _ t22 t41 _ _ t42 true _ ?side1 ?side2 ?side3 ?side4 Af51.out).mono ?_); (case side1 => exact (Kd.R_reads' (by (with_reducible repeat (first | apply Kd.R_alloc | apply Kd.R_drewN | apply Kd.R_drew)); exact HO26.out)).2.2); (case side2 => exact (Kd.R_reads' HO26.out).2.1); (case side3 => exact (Kd.R_reads' (by (with_reducible repeat (first | apply Kd.R_alloc | apply Kd.R_drewN | apply Kd.R_drew)); exact HO46.out)).2.2); (case side4 => exact (Kd.R_reads' HO46.out).2.1); rintro e W12 ⟨rfl, hb⟩; skip; replace HO16 := Aside0.mk (Kd.R_below (by (with_reducible repeat (first | apply Kd.R_alloc | apply Kd.R_drewN | apply Kd.R_drew)); exact HO16.out) hb); replace HO26 := Aside0.mk (Kd.R_below (by (with_reducible repeat (first | apply Kd.R_alloc | apply Kd.R_drewN | apply Kd.R_drew)); exact HO26.out) hb); replace HO34 := Aside0.mk (Kd.R_below (by (with_reducible repeat (first | apply Kd.R_alloc | apply Kd.R_drewN | apply Kd.R_drew)); exact HO34.out) hb); replace BK3 := Aside0.mk (bb BK3.out hb); clear hz3_0 hz3_1; obtain ⟨hz3_0, hz3_1⟩ := cc2 BK3.out; replace BK10 := Aside0.mk (bb BK10.out hb); clear hz10_0 hz10_1; obtain ⟨hz10_0, hz10_1⟩ := cc2 BK10.out; replace HMm11 := Aside0.mk (Nat.le_trans HMm11.out (below_size hb)); replace HB := Aside0.mk (below_step bel hb); clear hb))
          have H := HN.out
          clear HN
          replace H := Option.bind_eq_some_iff.mp H
          obtain ⟨⟨t52, t53⟩, Af540, H⟩ := H
          (try dsimp only at H)
          have Af54 := Aside0.mk Af540
          clear Af540
          by_cases c15_ : t52 < 0
          · rw [if_pos c15_] at H
            have c15_b : decide (t52 < 0) = true := decide_eq_true c15_
            clear c15_
            have HE := Aside0.mk (Option.some.inj H)
            clear H
            go_wp2_with (first | ((with_reducible refine gate_callee (f := 30) rfl ?_); refine goesL_ (some 56) rfl rfl Try.func30 (by kernel_rfl) rfl #[.agg #[.int .i64 t21, .slice Ao24 t22.length co25], .int .i64 1] rfl ga ?_; (with_reducible refine (laws_markNet.calls k t21 (fun k_ => n5 ≤ k_ ∧ k_ < m5) _ t22 1 t52 t53 w _ ?sideB ?side1 Af54.out).mono ?_); (case sideB => exact bel); (case side1 => exact (Kd.R_mono (ok := fun k_ => (n5 ≤ k_ ∧ k_ < m5) ∧ True) (by (with_reducible repeat (first | apply Kd.R_alloc | apply Kd.R_drewN | apply Kd.R_drew)); exact HO26.out) (fun _ h_ => h_.1))); rintro e W14 ⟨rfl, hR0, hb, hk⟩; refine ⟨_, rfl, ?_⟩; replace HO16 := Aside0.mk (Kd.R_step (by (with_reducible repeat (first | apply Kd.R_alloc | apply Kd.R_drewN | apply Kd.R_drew)); exact HO16.out) (fun k_ ho_ hl_ => hk.2 k_ hl_ (fun hp_ => by have o_ := ho_.1; omega))); replace HO34 := Aside0.mk (Kd.R_step (by (with_reducible repeat (first | apply Kd.R_alloc | apply Kd.R_drewN | apply Kd.R_drew)); exact HO34.out) (fun k_ ho_ hl_ => hk.2 k_ hl_ (fun hp_ => by have o_ := ho_.1; omega))); replace BK3 := Aside0.mk (kept_blk BK3.out hk (fun hp_ => by omega)); clear hz3_0 hz3_1; obtain ⟨hz3_0, hz3_1⟩ := cc2 BK3.out; replace BK10 := Aside0.mk (kept_blk BK10.out hk (fun hp_ => by omega)); clear hz10_0 hz10_1; obtain ⟨hz10_0, hz10_1⟩ := cc2 BK10.out; replace HB := Aside0.mk hb; replace HMm11 := Aside0.mk (Nat.le_trans HMm11.out hk.1); clear hb hk))
            go_ret
            exact ⟨congrArg (fun b_ => Ending.returned (.bool b_)) HE.out, bel⟩
          · rw [if_neg c15_] at H
            have c15_b : decide (t52 < 0) = false := decide_eq_false c15_
            clear c15_
            have HN := Aside0.mk H
            clear H
            go_wp2_with (first | ((with_reducible refine gate_callee (f := 30) rfl ?_); refine goesL_ (some 56) rfl rfl Try.func30 (by kernel_rfl) rfl #[.agg #[.int .i64 t21, .slice Ao24 t22.length co25], .int .i64 1] rfl ga ?_; (with_reducible refine (laws_markNet.calls k t21 (fun k_ => n5 ≤ k_ ∧ k_ < m5) _ t22 1 t52 t53 w _ ?sideB ?side1 Af54.out).mono ?_); (case sideB => exact bel); (case side1 => exact (Kd.R_mono (ok := fun k_ => (n5 ≤ k_ ∧ k_ < m5) ∧ True) (by (with_reducible repeat (first | apply Kd.R_alloc | apply Kd.R_drewN | apply Kd.R_drew)); exact HO26.out) (fun _ h_ => h_.1))); rintro e W14 ⟨rfl, hR0, hb, hk⟩; refine ⟨_, rfl, ?_⟩; replace HO16 := Aside0.mk (Kd.R_step (by (with_reducible repeat (first | apply Kd.R_alloc | apply Kd.R_drewN | apply Kd.R_drew)); exact HO16.out) (fun k_ ho_ hl_ => hk.2 k_ hl_ (fun hp_ => by have o_ := ho_.1; omega))); replace HO34 := Aside0.mk (Kd.R_step (by (with_reducible repeat (first | apply Kd.R_alloc | apply Kd.R_drewN | apply Kd.R_drew)); exact HO34.out) (fun k_ ho_ hl_ => hk.2 k_ hl_ (fun hp_ => by have o_ := ho_.1; omega))); replace BK3 := Aside0.mk (kept_blk BK3.out hk (fun hp_ => by omega)); clear hz3_0 hz3_1; obtain ⟨hz3_0, hz3_1⟩ := cc2 BK3.out; replace BK10 := Aside0.mk (kept_blk BK10.out hk (fun hp_ => by omega)); clear hz10_0 hz10_1; obtain ⟨hz10_0, hz10_1⟩ := cc2 BK10.out; replace HB := Aside0.mk hb; replace HMm11 := Aside0.mk (Nat.le_trans HMm11.out hk.1); clear hb hk))
            have H := HN.out
            clear HN
            replace H := Option.bind_eq_some_iff.mp H
            obtain ⟨t55, Af560, H⟩ := H
            (try dsimp only at H)
            have Af56 := Aside0.mk Af560
            clear Af560
            cases t55 with
            | false =>
              replace H : some false = some r := by rw [if_neg (by decide)] at H; exact H
              have HE := Aside0.mk (Option.some.inj H)
              clear H
              go_wp2_with (first | (go_at_call 19; (with_reducible refine (laws_eqIntS.calls k _ _ t30 _ _ t12 false _ ?side1 ?side2 ?side3 ?side4 Af56.out).mono ?_); (case side1 => exact (Kd.R_reads' (by (with_reducible repeat (first | apply Kd.R_alloc | apply Kd.R_drewN | apply Kd.R_drew)); exact HO34.out)).2.2); (case side2 => exact (Kd.R_reads' HO34.out).2.1); (case side3 => exact (Kd.R_reads' (by (with_reducible repeat (first | apply Kd.R_alloc | apply Kd.R_drewN | apply Kd.R_drew)); exact HO16.out)).2.2); (case side4 => exact (Kd.R_reads' HO16.out).2.1); rintro e w' ⟨rfl, ⟨nd, rfl⟩⟩))
              go_ret
              exact ⟨congrArg (fun b_ => Ending.returned (.bool b_)) HE.out, bel⟩
            | true =>
              rw [if_pos rfl] at H
              rw [if_neg (by rw [c10_]; decide)] at H
              have HN := Aside0.mk H
              clear H
              go_wp2_with (first | (go_at_call 19; (with_reducible refine (laws_eqIntS.calls k _ _ t30 _ _ t12 true _ ?side1 ?side2 ?side3 ?side4 Af56.out).mono ?_); (case side1 => exact (Kd.R_reads' (by (with_reducible repeat (first | apply Kd.R_alloc | apply Kd.R_drewN | apply Kd.R_drew)); exact HO34.out)).2.2); (case side2 => exact (Kd.R_reads' HO34.out).2.1); (case side3 => exact (Kd.R_reads' (by (with_reducible repeat (first | apply Kd.R_alloc | apply Kd.R_drewN | apply Kd.R_drew)); exact HO16.out)).2.2); (case side4 => exact (Kd.R_reads' HO16.out).2.1); rintro e w' ⟨rfl, ⟨nd, rfl⟩⟩))
              have H := HN.out
              clear HN
              replace H := Option.bind_eq_some_iff.mp H
              obtain ⟨⟨t57, t58⟩, Af590, H⟩ := H
              (try dsimp only at H)
              have Af59 := Aside0.mk Af590
              clear Af590
              have HN := Aside0.mk H
              clear H
              go_wp2_with (first | (go_at_call 31; (with_reducible refine (laws_markIntS.calls k (fun k_ => n7 ≤ k_ ∧ k_ < m7) _ t30 1 t57 t58 w _ ?sideB ?side1 Af59.out).mono ?_); (case sideB => exact bel); (case side1 => exact (Kd.R_mono (ok := fun k_ => (n7 ≤ k_ ∧ k_ < m7) ∧ True) (by (with_reducible repeat (first | apply Kd.R_alloc | apply Kd.R_drewN | apply Kd.R_drew)); exact HO34.out) (fun _ h_ => h_.1))); rintro e W19 ⟨rfl, hR0, hb, hk⟩; replace HO16 := Aside0.mk (Kd.R_step (by (with_reducible repeat (first | apply Kd.R_alloc | apply Kd.R_drewN | apply Kd.R_drew)); exact HO16.out) (fun k_ ho_ hl_ => hk.2 k_ hl_ (fun hp_ => by have o_ := ho_.1; omega))); have le_ := (Kd.R_reads' hR0).1; rw [le_] at hR0; rw [le_]; clear le_; replace HO34 := Aside0.mk hR0; replace BK3 := Aside0.mk (kept_blk BK3.out hk (fun hp_ => by omega)); clear hz3_0 hz3_1; obtain ⟨hz3_0, hz3_1⟩ := cc2 BK3.out; replace BK10 := Aside0.mk (kept_blk BK10.out hk (fun hp_ => by omega)); clear hz10_0 hz10_1; obtain ⟨hz10_0, hz10_1⟩ := cc2 BK10.out; replace HB := Aside0.mk hb; replace HMm11 := Aside0.mk (Nat.le_trans HMm11.out hk.1); clear hb hk))
              have H := HN.out
              clear HN
              replace H := Option.bind_eq_some_iff.mp H
              obtain ⟨t60, Af610, H⟩ := H
              (try dsimp only at H)
              have Af61 := Aside0.mk Af610
              clear Af610
              by_cases c21_ : t60 < 0
              · rw [if_pos c21_] at H
                have c21_b : decide (t60 < 0) = true := decide_eq_true c21_
                clear c21_
                have HE := Aside0.mk (Option.some.inj H)
                clear H
                go_wp2_with (first | (go_at_call 36; (with_reducible refine (laws_heldIntS.calls k _ _ t58 1 t60 _ ?side1 ?side2 Af61.out).mono ?_); (case side1 => exact (Kd.R_reads' (by (with_reducible repeat (first | apply Kd.R_alloc | apply Kd.R_drewN | apply Kd.R_drew)); exact HO34.out)).2.2); (case side2 => exact (Kd.R_reads' HO34.out).2.1); rintro e w' ⟨rfl, ⟨nd, rfl⟩⟩))
                go_ret
                exact ⟨congrArg (fun b_ => Ending.returned (.bool b_)) HE.out, bel⟩
              · rw [if_neg c21_] at H
                have c21_b : decide (t60 < 0) = false := decide_eq_false c21_
                clear c21_
                by_cases c22_ : t60 = t57
                rotate_left
                · rw [if_neg c22_] at H
                  have c22_b : (t60 == t57) = false := beq_eq_false_iff_ne.mpr c22_
                  have c22_d : (t60 != t57) = true := bne_iff_ne.mpr c22_
                  clear c22_
                  have HE := Aside0.mk (Option.some.inj H)
                  clear H
                  go_wp2_with (first | (go_at_call 36; (with_reducible refine (laws_heldIntS.calls k _ _ t58 1 t60 _ ?side1 ?side2 Af61.out).mono ?_); (case side1 => exact (Kd.R_reads' (by (with_reducible repeat (first | apply Kd.R_alloc | apply Kd.R_drewN | apply Kd.R_drew)); exact HO34.out)).2.2); (case side2 => exact (Kd.R_reads' HO34.out).2.1); rintro e w' ⟨rfl, ⟨nd, rfl⟩⟩))
                  go_ret
                  exact ⟨congrArg (fun b_ => Ending.returned (.bool b_)) HE.out, bel⟩
                · rw [if_pos c22_] at H
                  have c22_b : (t60 == t57) = true := beq_iff_eq.mpr c22_
                  have c22_d : (t60 != t57) = false := bne_eq_false_iff_eq.mpr c22_
                  clear c22_
                  replace H := Option.bind_eq_some_iff.mp H
                  obtain ⟨⟨t62, t63⟩, Af700, H⟩ := H
                  (try dsimp only at H)
                  have Af70 := Aside0.mk Af700
                  clear Af700
                  have HN := Aside0.mk H
                  clear H
                  go_wp2_with (first | (go_at_call 36; (with_reducible refine (laws_heldIntS.calls k _ _ t58 1 t60 _ ?side1 ?side2 Af61.out).mono ?_); (case side1 => exact (Kd.R_reads' (by (with_reducible repeat (first | apply Kd.R_alloc | apply Kd.R_drewN | apply Kd.R_drew)); exact HO34.out)).2.2); (case side2 => exact (Kd.R_reads' HO34.out).2.1); rintro e w' ⟨rfl, ⟨nd, rfl⟩⟩) | ((with_reducible refine gate_callee (f := 13) rfl ?_); refine goesL_ (some 83) rfl rfl Try.func13 (by kernel_rfl) rfl #[.agg #[.int .i64 a0_0, .slice A0_1 l0_1.length c0_1]] rfl ga ?_; (with_reducible refine (laws_toNet.calls k a0_0 _ _ l0_1 t62 t63 _ ?side1 ?side2 Af70.out).mono ?_); (case side1 => exact ck (Kd.C_below HR0_1.out HB.out)); (case side2 => exact HC0_1.out); rintro e W23 ⟨v64, rfl, ho0, hb⟩; refine ⟨_, rfl, ?_⟩; obtain ⟨n23, m23, hn_, hm_, hF0⟩ := mk_rowR2 ho0 bel; have ord23 : m11 ≤ n23 := Nat.le_trans HMm11.out (Nat.le_of_eq hn_.symm); have nm23 : n23 ≤ m23 := Nat.le_trans (Nat.le_of_eq hn_) (Nat.le_trans (below_size hb) (Nat.le_of_eq hm_.symm)); have HMm23 := Aside0.mk (show m23 ≤ W23.heap.size from Nat.le_of_eq hm_); clear ho0; clear hn_ hm_; replace HO16 := Aside0.mk (Kd.R_below (by (with_reducible repeat (first | apply Kd.R_alloc | apply Kd.R_drewN | apply Kd.R_drew)); exact HO16.out) hb); replace HO34 := Aside0.mk (Kd.R_below (by (with_reducible repeat (first | apply Kd.R_alloc | apply Kd.R_drewN | apply Kd.R_drew)); exact HO34.out) hb); replace BK3 := Aside0.mk (bb BK3.out hb); clear hz3_0 hz3_1; obtain ⟨hz3_0, hz3_1⟩ := cc2 BK3.out; replace BK10 := Aside0.mk (bb BK10.out hb); clear hz10_0 hz10_1; obtain ⟨hz10_0, hz10_1⟩ := cc2 BK10.out; replace HB := Aside0.mk (below_step bel hb); clear hb; have HO67 := Aside0.mk hF0; clear hF0; obtain ⟨Ao65, co66, eo_⟩ := Kd.R_slice HO67.out; subst eo_))
                  have H := HN.out
                  clear HN
                  replace H := Option.bind_eq_some_iff.mp H
                  obtain ⟨⟨t71, t78⟩, Af790, H⟩ := H
                  (try dsimp only at H)
                  have Af79 := Aside0.mk Af790
                  clear Af790
                  have HN := Aside0.mk H
                  clear H
                  go_wp2_with (first | (go_at_call 35; (with_reducible refine (impl_GreatestFlow.calls k t62 _ _ t63 a1 a2 t71 t78 _ ?side1 ?side2 Af79.out).mono ?_); (case side1 => exact (Kd.R_reads' (by (with_reducible repeat (first | apply Kd.R_alloc | apply Kd.R_drewN | apply Kd.R_drew)); exact HO67.out)).2.2); (case side2 => exact (Kd.R_reads' HO67.out).2.1); rintro e W24 ⟨v72, rfl, ho0, hb⟩; obtain ⟨n24, m24, hn_, hm_, hF0⟩ := mk_rowR2 ho0 bel; have ord24 : m23 ≤ n24 := Nat.le_trans HMm23.out (Nat.le_of_eq hn_.symm); have nm24 : n24 ≤ m24 := Nat.le_trans (Nat.le_of_eq hn_) (Nat.le_trans (below_size hb) (Nat.le_of_eq hm_.symm)); have HMm24 := Aside0.mk (show m24 ≤ W24.heap.size from Nat.le_of_eq hm_); clear ho0; clear hn_ hm_; replace HO16 := Aside0.mk (Kd.R_below (by (with_reducible repeat (first | apply Kd.R_alloc | apply Kd.R_drewN | apply Kd.R_drew)); exact HO16.out) hb); replace HO34 := Aside0.mk (Kd.R_below (by (with_reducible repeat (first | apply Kd.R_alloc | apply Kd.R_drewN | apply Kd.R_drew)); exact HO34.out) hb); replace BK3 := Aside0.mk (bb BK3.out hb); clear hz3_0 hz3_1; obtain ⟨hz3_0, hz3_1⟩ := cc2 BK3.out; replace BK10 := Aside0.mk (bb BK10.out hb); clear hz10_0 hz10_1; obtain ⟨hz10_0, hz10_1⟩ := cc2 BK10.out; replace HB := Aside0.mk (below_step bel hb); clear hb; have HO75 := Aside0.mk hF0; clear hF0; obtain ⟨Ao73, co74, eo_⟩ := Kd.R_slice HO75.out; subst eo_))
                  have H := HN.out
                  clear HN
                  replace H := Option.bind_eq_some_iff.mp H
                  obtain ⟨t80, Af810, H⟩ := H
                  (try dsimp only at H)
                  have Af81 := Aside0.mk Af810
                  clear Af810
                  cases t80 with
                  | false =>
                    replace H : some false = some r := by rw [if_neg (by decide)] at H; exact H
                    have HE := Aside0.mk (Option.some.inj H)
                    clear H
                    go_wp2_with (first | (go_at_call 19; (with_reducible refine (laws_eqIntS.calls k _ _ t71 _ _ t12 false _ ?side1 ?side2 ?side3 ?side4 Af81.out).mono ?_); (case side1 => exact (Kd.R_reads' (by (with_reducible repeat (first | apply Kd.R_alloc | apply Kd.R_drewN | apply Kd.R_drew)); exact HO75.out)).2.2); (case side2 => exact (Kd.R_reads' HO75.out).2.1); (case side3 => exact (Kd.R_reads' (by (with_reducible repeat (first | apply Kd.R_alloc | apply Kd.R_drewN | apply Kd.R_drew)); exact HO16.out)).2.2); (case side4 => exact (Kd.R_reads' HO16.out).2.1); rintro e w' ⟨rfl, ⟨nd, rfl⟩⟩))
                    go_ret
                    exact ⟨congrArg (fun b_ => Ending.returned (.bool b_)) HE.out, bel⟩
                  | true =>
                    rw [if_pos rfl] at H
                    by_cases c27_ : (t78 != t19) = true
                    · rw [if_pos c27_] at H
                      have c27_d := bne_t c27_
                      have HE := Aside0.mk (Option.some.inj H)
                      clear H
                      go_wp2_with (first | (go_at_call 19; (with_reducible refine (laws_eqIntS.calls k _ _ t71 _ _ t12 true _ ?side1 ?side2 ?side3 ?side4 Af81.out).mono ?_); (case side1 => exact (Kd.R_reads' (by (with_reducible repeat (first | apply Kd.R_alloc | apply Kd.R_drewN | apply Kd.R_drew)); exact HO75.out)).2.2); (case side2 => exact (Kd.R_reads' HO75.out).2.1); (case side3 => exact (Kd.R_reads' (by (with_reducible repeat (first | apply Kd.R_alloc | apply Kd.R_drewN | apply Kd.R_drew)); exact HO16.out)).2.2); (case side4 => exact (Kd.R_reads' HO16.out).2.1); rintro e w' ⟨rfl, ⟨nd, rfl⟩⟩))
                      go_ret
                      exact ⟨congrArg (fun b_ => Ending.returned (.bool b_)) HE.out, bel⟩
                    · rw [if_neg c27_] at H
                      have c27_d := bne_f c27_
                      replace c27_ : (t78 != t19) = false := Bool.eq_false_iff.2 c27_
                      have HN := Aside0.mk H
                      clear H
                      go_wp2_with (first | (go_at_call 19; (with_reducible refine (laws_eqIntS.calls k _ _ t71 _ _ t12 true _ ?side1 ?side2 ?side3 ?side4 Af81.out).mono ?_); (case side1 => exact (Kd.R_reads' (by (with_reducible repeat (first | apply Kd.R_alloc | apply Kd.R_drewN | apply Kd.R_drew)); exact HO75.out)).2.2); (case side2 => exact (Kd.R_reads' HO75.out).2.1); (case side3 => exact (Kd.R_reads' (by (with_reducible repeat (first | apply Kd.R_alloc | apply Kd.R_drewN | apply Kd.R_drew)); exact HO16.out)).2.2); (case side4 => exact (Kd.R_reads' HO16.out).2.1); rintro e w' ⟨rfl, ⟨nd, rfl⟩⟩))
                      have H := HN.out
                      clear HN
                      replace H := Option.bind_eq_some_iff.mp H
                      obtain ⟨t82, Af830, H⟩ := H
                      (try dsimp only at H)
                      have Af83 := Aside0.mk Af830
                      clear Af830
                      by_cases c29_ : t82 < 0
                      · rw [if_pos c29_] at H
                        have c29_b : decide (t82 < 0) = true := decide_eq_true c29_
                        clear c29_
                        have HE := Aside0.mk (Option.some.inj H)
                        clear H
                        go_wp2_with (first | (go_at_call 36; (with_reducible refine (laws_heldIntS.calls k _ _ t58 1 t82 _ ?side1 ?side2 Af83.out).mono ?_); (case side1 => exact (Kd.R_reads' (by (with_reducible repeat (first | apply Kd.R_alloc | apply Kd.R_drewN | apply Kd.R_drew)); exact HO34.out)).2.2); (case side2 => exact (Kd.R_reads' HO34.out).2.1); rintro e w' ⟨rfl, ⟨nd, rfl⟩⟩))
                        go_ret
                        exact ⟨congrArg (fun b_ => Ending.returned (.bool b_)) HE.out, bel⟩
                      · rw [if_neg c29_] at H
                        have c29_b : decide (t82 < 0) = false := decide_eq_false c29_
                        clear c29_
                        by_cases c30_ : t82 = t57
                        rotate_left
                        · rw [if_neg c30_] at H
                          have c30_b : (t82 == t57) = false := beq_eq_false_iff_ne.mpr c30_
                          have c30_d : (t82 != t57) = true := bne_iff_ne.mpr c30_
                          clear c30_
                          have HE := Aside0.mk (Option.some.inj H)
                          clear H
                          go_wp2_with (first | (go_at_call 36; (with_reducible refine (laws_heldIntS.calls k _ _ t58 1 t82 _ ?side1 ?side2 Af83.out).mono ?_); (case side1 => exact (Kd.R_reads' (by (with_reducible repeat (first | apply Kd.R_alloc | apply Kd.R_drewN | apply Kd.R_drew)); exact HO34.out)).2.2); (case side2 => exact (Kd.R_reads' HO34.out).2.1); rintro e w' ⟨rfl, ⟨nd, rfl⟩⟩))
                          go_ret
                          exact ⟨congrArg (fun b_ => Ending.returned (.bool b_)) HE.out, bel⟩
                        · rw [if_pos c30_] at H
                          have c30_b : (t82 == t57) = true := beq_iff_eq.mpr c30_
                          have c30_d : (t82 != t57) = false := bne_eq_false_iff_eq.mpr c30_
                          clear c30_
                          have HE := Aside0.mk (Option.some.inj H)
                          clear H
                          go_wp2_with (first | (go_at_call 36; (with_reducible refine (laws_heldIntS.calls k _ _ t58 1 t82 _ ?side1 ?side2 Af83.out).mono ?_); (case side1 => exact (Kd.R_reads' (by (with_reducible repeat (first | apply Kd.R_alloc | apply Kd.R_drewN | apply Kd.R_drew)); exact HO34.out)).2.2); (case side2 => exact (Kd.R_reads' HO34.out).2.1); rintro e w' ⟨rfl, ⟨nd, rfl⟩⟩))
                          go_ret
                          exact ⟨congrArg (fun b_ => Ending.returned (.bool b_)) HE.out, bel⟩

end Go.Proofs.Yteaemblallbgpaa.X
