-- Written by a program of this session (wip/xp.py, over the kit's print) out of the translation: functions, and the walks that show them.
import Derived.Test.YtipojkfkcelejaaX0
import Derived.Test.YtipojkfkcelejaaX14
import Derived.Test.YtipojkfkcelejaaX15
import Derived.Test.YtipojkfkcelejaaX17
import Derived.Test.YtipojkfkcelejaaX18
import Derived.Test.YtipojkfkcelejaaX25
import Derived.Test.YtipojkfkcelejaaX26
import Derived.Test.YtipojkfkcelejaaX36
import Derived.Test.YtipojkfkcelejaaX38
namespace Go.Proofs.Ytipojkfkcelejaa.X
open Go.RowKit Go.Proofs.YtipojkfkcelejaaW.PrintWords Go.Proofs.YtipojkfkcelejaaW.PrintLast Go.Proofs.YtipojkfkcelejaaW.PrintMore
attribute [local go_sem] max2_int min2_int max_two min_two max_three min_three max_four min_four   -- for this text's walks alone
set_option linter.unusedVariables false
set_option linter.unusedSimpArgs false

/-! ### laws_FnExactRegattaOrder: function 9 (this session's own text: wip/xext.py, law_text) -/
def laws_FnExactRegattaOrder.f (k : Nat) (a0_0 : Int) (l0_1 : List (List Int)) (a0_2 : Int) : Option Bool := ((laws_szRegatta.f k a0_0 l0_1 a0_2 1048576).bind fun t1 => (if t1 < 0 then (some true) else ((laws_toRegatta.f k a0_0 l0_1 a0_2).bind fun b3 => ((spec_RegattaOrder.f k b3.1 b3.2.1 b3.2.2).bind fun t13 => ((laws_toRegatta.f k a0_0 l0_1 a0_2).bind fun b5 => ((impl_RegattaOrder.f k b5.1 b5.2.1 b5.2.2).bind fun t31 => ((laws_eqIntS.f k t31 t13).bind fun t39 => (if t39 = true then ((laws_toRegatta.f k a0_0 l0_1 a0_2).bind fun b10 => ((laws_eqRegatta.f k b5.1 b5.2.1 b5.2.2 b10.1 b10.2.1 b10.2.2).bind fun t51 => (if t51 = true then ((laws_markRegatta.f k b5.1 b5.2.1 b5.2.2 1).bind fun b13 => (if b13.1 < 0 then (some false) else ((laws_eqIntS.f k t31 t13).bind fun t56 => (if t56 = true then ((laws_markIntS.f k t31 1).bind fun b17 => ((laws_heldIntS.f k b17.2 1).bind fun t61 => (if t61 < 0 then (some false) else (if t61 = b17.1 then ((laws_toRegatta.f k a0_0 l0_1 a0_2).bind fun b21 => ((impl_RegattaOrder.f k b21.1 b21.2.1 b21.2.2).bind fun t73 => ((laws_eqIntS.f k t73 t13).bind fun t81 => (if t81 = true then ((laws_heldIntS.f k b17.2 1).bind fun t83 => (if t83 < 0 then (some false) else (if t83 = b17.1 then (some true) else (some false)))) else (some false))))) else (some false))))) else (some false))))) else (some false)))) else (some false)))))))))
theorem laws_FnExactRegattaOrder.mono : ∀ a0 a1 a2 k, LeO (laws_FnExactRegattaOrder.f k a0 a1 a2) (laws_FnExactRegattaOrder.f (k + 1) a0 a1 a2) := by
  intro a0 a1 a2 k
  unfold laws_FnExactRegattaOrder.f
  repeat' first
      | (with_reducible exact laws_eqIntS.mono _ _ _)
      | (with_reducible exact laws_szRegatta.mono _ _ _ _ _)
      | (with_reducible exact laws_toRegatta.mono _ _ _ _)
      | (with_reducible exact laws_eqRegatta.mono _ _ _ _ _ _ _)
      | (with_reducible exact laws_markRegatta.mono _ _ _ _ _)
      | (with_reducible exact laws_markIntS.mono _ _ _)
      | (with_reducible exact laws_heldIntS.mono _ _ _)
      | (with_reducible exact spec_RegattaOrder.mono _ _ _ _)
      | (with_reducible exact impl_RegattaOrder.mono _ _ _ _)
      | (with_reducible exact LeO.refl _)
      | (with_reducible exact LeO.none _)
      | (with_reducible refine LeO.ite ?_ ?_)
      | (with_reducible refine LeO.bind ?_ (fun _ => ?_))
      | exact laws_eqIntS.mono _ _ _
      | exact laws_szRegatta.mono _ _ _ _ _
      | exact laws_toRegatta.mono _ _ _ _
      | exact laws_eqRegatta.mono _ _ _ _ _ _ _
      | exact laws_markRegatta.mono _ _ _ _ _
      | exact laws_markIntS.mono _ _ _
      | exact laws_heldIntS.mono _ _ _
      | exact spec_RegattaOrder.mono _ _ _ _
      | exact impl_RegattaOrder.mono _ _ _ _
      | exact LeO.none _
      | refine LeO.ite ?_ ?_
      | refine LeO.bind ?_ (fun _ => ?_)
set_option maxHeartbeats 16000000 in
set_option maxRecDepth 100000 in
theorem laws_FnExactRegattaOrder.calls (k : Nat) (a0_0 : Int) (A0_1 : Option Addr) (c0_1 : Nat) (l0_1 : List (List Int)) (a0_2 : Int) (r : Bool) (w : World) (hr0_1 : Kd.C (Kd.slice 3 (Kd.int .i64)) w A0_1 l0_1.length l0_1) (hc0_1 : l0_1.length ≤ c0_1) (h : laws_FnExactRegattaOrder.f k a0_0 l0_1 a0_2 = some r) :
    Calls Try.prog 9 #[.agg #[.int .i64 a0_0, .slice A0_1 l0_1.length c0_1, .int .i64 a0_2]] w fun e w' => e = .returned (.bool r) ∧ Below w.heap.size w w' := by
  have HR0_1 := Aside0.mk hr0_1
  have HC0_1 := Aside0.mk hc0_1
  clear hr0_1 hc0_1
  have HB := Aside0.mk (Below.refl w.heap.size w)
  have HM0 := Aside0.mk (Nat.zero_le w.heap.size)
  have H : ((laws_szRegatta.f k a0_0 l0_1 a0_2 1048576).bind fun t1 => (if t1 < 0 then (some true) else ((laws_toRegatta.f k a0_0 l0_1 a0_2).bind fun b3 => ((spec_RegattaOrder.f k b3.1 b3.2.1 b3.2.2).bind fun t13 => ((laws_toRegatta.f k a0_0 l0_1 a0_2).bind fun b5 => ((impl_RegattaOrder.f k b5.1 b5.2.1 b5.2.2).bind fun t31 => ((laws_eqIntS.f k t31 t13).bind fun t39 => (if t39 = true then ((laws_toRegatta.f k a0_0 l0_1 a0_2).bind fun b10 => ((laws_eqRegatta.f k b5.1 b5.2.1 b5.2.2 b10.1 b10.2.1 b10.2.2).bind fun t51 => (if t51 = true then ((laws_markRegatta.f k b5.1 b5.2.1 b5.2.2 1).bind fun b13 => (if b13.1 < 0 then (some false) else ((laws_eqIntS.f k t31 t13).bind fun t56 => (if t56 = true then ((laws_markIntS.f k t31 1).bind fun b17 => ((laws_heldIntS.f k b17.2 1).bind fun t61 => (if t61 < 0 then (some false) else (if t61 = b17.1 then ((laws_toRegatta.f k a0_0 l0_1 a0_2).bind fun b21 => ((impl_RegattaOrder.f k b21.1 b21.2.1 b21.2.2).bind fun t73 => ((laws_eqIntS.f k t73 t13).bind fun t81 => (if t81 = true then ((laws_heldIntS.f k b17.2 1).bind fun t83 => (if t83 < 0 then (some false) else (if t83 = b17.1 then (some true) else (some false)))) else (some false))))) else (some false))))) else (some false))))) else (some false)))) else (some false))))))))) = some r := h
  clear h
  replace H := Option.bind_eq_some_iff.mp H
  obtain ⟨t1, A20, H⟩ := H
  (try dsimp only at H)
  have A2 := Aside0.mk A20
  clear A20
  by_cases c2_ : t1 < 0
  · rw [if_pos c2_] at H
    have c2_b : decide (t1 < 0) = true := decide_eq_true c2_
    clear c2_
    have HE := Aside0.mk (Option.some.inj H)
    clear H
    go_enter Try.func9, Try.ntmps9
    go_wp2_with (first | ((with_reducible refine gate_dst (N := 1) rfl ?_); refine box_event ?hg (N := 1) ?hd (cs := #[.int .i64 a0_0, .slice A0_1 l0_1.length c0_1, .int .i64 a0_2]) (t := 28) ?hr ?_; (case hd => rfl); (case hg => rfl); (case hr => first | (go_simp; done) | (go_simp; rfl)); intro gb1 hg wb1 hbox hb; have BK1 := Aside0.mk hbox; replace HM0 := Aside0.mk (Nat.le_trans HM0.out (below_size hb)); replace HB := Aside0.mk (below_step bel hb); clear hb hbox hg; obtain ⟨hz1_0, hz1_1, hz1_2⟩ := cc3 BK1.out) | ((with_reducible refine gate_callee (f := 14) rfl ?_); refine goesL_ (some 13) rfl rfl Try.func14 (by kernel_rfl) rfl #[.agg #[.int .i64 a0_0, .slice A0_1 l0_1.length c0_1, .int .i64 a0_2], .int .i64 1048576] rfl ga ?_; (with_reducible refine (laws_szRegatta.calls k a0_0 _ _ l0_1 a0_2 1048576 t1 _ ?side1 ?side2 A2.out).mono ?_); (case side1 => exact ck (Kd.C_below HR0_1.out HB.out)); (case side2 => exact HC0_1.out); rintro e W1 ⟨rfl, hb⟩; refine ⟨_, rfl, ?_⟩; replace BK1 := Aside0.mk (bb BK1.out hb); clear hz1_0 hz1_1 hz1_2; obtain ⟨hz1_0, hz1_1, hz1_2⟩ := cc3 BK1.out; replace HM0 := Aside0.mk (Nat.le_trans HM0.out (below_size hb)); replace HB := Aside0.mk (below_step bel hb); clear hb))
    go_ret
    exact ⟨congrArg (fun b_ => Ending.returned (.bool b_)) HE.out, bel⟩
  · rw [if_neg c2_] at H
    have c2_b : decide (t1 < 0) = false := decide_eq_false c2_
    clear c2_
    replace H := Option.bind_eq_some_iff.mp H
    obtain ⟨⟨t3, t4, t11⟩, A120, H⟩ := H
    (try dsimp only at H)
    have A12 := Aside0.mk A120
    clear A120
    have HN := Aside0.mk H
    clear H
    go_enter Try.func9, Try.ntmps9
    go_wp2_with (first | ((with_reducible refine gate_dst (N := 1) rfl ?_); refine box_event ?hg (N := 1) ?hd (cs := #[.int .i64 a0_0, .slice A0_1 l0_1.length c0_1, .int .i64 a0_2]) (t := 28) ?hr ?_; (case hd => rfl); (case hg => rfl); (case hr => first | (go_simp; done) | (go_simp; rfl)); intro gb1 hg wb1 hbox hb; have BK1 := Aside0.mk hbox; replace HM0 := Aside0.mk (Nat.le_trans HM0.out (below_size hb)); replace HB := Aside0.mk (below_step bel hb); clear hb hbox hg; obtain ⟨hz1_0, hz1_1, hz1_2⟩ := cc3 BK1.out) | ((with_reducible refine gate_callee (f := 14) rfl ?_); refine goesL_ (some 13) rfl rfl Try.func14 (by kernel_rfl) rfl #[.agg #[.int .i64 a0_0, .slice A0_1 l0_1.length c0_1, .int .i64 a0_2], .int .i64 1048576] rfl ga ?_; (with_reducible refine (laws_szRegatta.calls k a0_0 _ _ l0_1 a0_2 1048576 t1 _ ?side1 ?side2 A2.out).mono ?_); (case side1 => exact ck (Kd.C_below HR0_1.out HB.out)); (case side2 => exact HC0_1.out); rintro e W1 ⟨rfl, hb⟩; refine ⟨_, rfl, ?_⟩; replace BK1 := Aside0.mk (bb BK1.out hb); clear hz1_0 hz1_1 hz1_2; obtain ⟨hz1_0, hz1_1, hz1_2⟩ := cc3 BK1.out; replace HM0 := Aside0.mk (Nat.le_trans HM0.out (below_size hb)); replace HB := Aside0.mk (below_step bel hb); clear hb) | ((with_reducible refine gate_callee (f := 16) rfl ?_); refine goesL_ (some 17) rfl rfl Try.func16 (by kernel_rfl) rfl #[.agg #[.int .i64 a0_0, .slice A0_1 l0_1.length c0_1, .int .i64 a0_2]] rfl ga ?_; (with_reducible refine (laws_toRegatta.calls k a0_0 _ _ l0_1 a0_2 t3 t4 t11 _ ?side1 ?side2 A12.out).mono ?_); (case side1 => exact ck (Kd.C_below HR0_1.out HB.out)); (case side2 => exact HC0_1.out); rintro e W3 ⟨v5, rfl, ho0, hb⟩; refine ⟨_, rfl, ?_⟩; obtain ⟨n3, m3, hn_, hm_, hF0⟩ := mk_rowS2 ho0 bel; have ord3 : 0 ≤ n3 := Nat.le_trans HM0.out (Nat.le_of_eq hn_.symm); have nm3 : n3 ≤ m3 := Nat.le_trans (Nat.le_of_eq hn_) (Nat.le_trans (below_size hb) (Nat.le_of_eq hm_.symm)); have HMm3 := Aside0.mk (show m3 ≤ W3.heap.size from Nat.le_of_eq hm_); have hgb1 : gb1 < n3 := (by rw [hn_]; exact blk_lt BK1.out); clear ho0; clear hn_ hm_; replace BK1 := Aside0.mk (bb BK1.out hb); clear hz1_0 hz1_1 hz1_2; obtain ⟨hz1_0, hz1_1, hz1_2⟩ := cc3 BK1.out; replace HB := Aside0.mk (below_step bel hb); clear hb; have HO8 := Aside0.mk hF0; clear hF0; obtain ⟨Ao6, co7, eo_⟩ := Kd.S_slice HO8.out; subst eo_))
    have H := HN.out
    clear HN
    replace H := Option.bind_eq_some_iff.mp H
    obtain ⟨t13, A200, H⟩ := H
    (try dsimp only at H)
    have A20 := Aside0.mk A200
    clear A200
    replace H := Option.bind_eq_some_iff.mp H
    obtain ⟨⟨t21, t22, t29⟩, A300, H⟩ := H
    (try dsimp only at H)
    have A30 := Aside0.mk A300
    clear A300
    have HN := Aside0.mk H
    clear H
    go_wp2_with (first | (go_at_call 30; (with_reducible refine (spec_RegattaOrder.calls k t3 _ _ t4 t11 t13 _ ?side1 ?side2 A20.out).mono ?_); (case side1 => exact (Kd.S_reads' (by (with_reducible repeat (first | apply Kd.S_alloc | apply Kd.S_drewN | apply Kd.S_drew)); exact HO8.out)).2.2); (case side2 => exact (Kd.S_reads' HO8.out).2.1); rintro e W4 ⟨v14, rfl, ho0, hb⟩; obtain ⟨n4, m4, hn_, hm_, hF0⟩ := mk_rowR2 ho0 bel; have ord4 : m3 ≤ n4 := Nat.le_trans HMm3.out (Nat.le_of_eq hn_.symm); have nm4 : n4 ≤ m4 := Nat.le_trans (Nat.le_of_eq hn_) (Nat.le_trans (below_size hb) (Nat.le_of_eq hm_.symm)); have HMm4 := Aside0.mk (show m4 ≤ W4.heap.size from Nat.le_of_eq hm_); clear ho0; clear hn_ hm_; replace BK1 := Aside0.mk (bb BK1.out hb); clear hz1_0 hz1_1 hz1_2; obtain ⟨hz1_0, hz1_1, hz1_2⟩ := cc3 BK1.out; replace HB := Aside0.mk (below_step bel hb); clear hb; have HO17 := Aside0.mk hF0; clear hF0; obtain ⟨Ao15, co16, eo_⟩ := Kd.R_slice HO17.out; subst eo_) | ((with_reducible refine gate_callee (f := 16) rfl ?_); refine goesL_ (some 20) rfl rfl Try.func16 (by kernel_rfl) rfl #[.agg #[.int .i64 a0_0, .slice A0_1 l0_1.length c0_1, .int .i64 a0_2]] rfl ga ?_; (with_reducible refine (laws_toRegatta.calls k a0_0 _ _ l0_1 a0_2 t21 t22 t29 _ ?side1 ?side2 A30.out).mono ?_); (case side1 => exact ck (Kd.C_below HR0_1.out HB.out)); (case side2 => exact HC0_1.out); rintro e W5 ⟨v23, rfl, ho0, hb⟩; refine ⟨_, rfl, ?_⟩; obtain ⟨n5, m5, hn_, hm_, hF0⟩ := mk_rowS2 ho0 bel; have ord5 : m4 ≤ n5 := Nat.le_trans HMm4.out (Nat.le_of_eq hn_.symm); have nm5 : n5 ≤ m5 := Nat.le_trans (Nat.le_of_eq hn_) (Nat.le_trans (below_size hb) (Nat.le_of_eq hm_.symm)); have HMm5 := Aside0.mk (show m5 ≤ W5.heap.size from Nat.le_of_eq hm_); clear ho0; clear hn_ hm_; replace HO17 := Aside0.mk (Kd.R_below (by (with_reducible repeat (first | apply Kd.R_alloc | apply Kd.R_drewN | apply Kd.R_drew)); exact HO17.out) hb); replace BK1 := Aside0.mk (bb BK1.out hb); clear hz1_0 hz1_1 hz1_2; obtain ⟨hz1_0, hz1_1, hz1_2⟩ := cc3 BK1.out; replace HB := Aside0.mk (below_step bel hb); clear hb; have HO26 := Aside0.mk hF0; clear hF0; obtain ⟨Ao24, co25, eo_⟩ := Kd.S_slice HO26.out; subst eo_) | ((with_reducible refine gate_dst (N := 5) rfl ?_); refine box_event ?hg (N := 5) ?hd (cs := #[.int .i64 0, .slice none 0 0, .int .i64 0]) (t := 31) ?hr ?_; (case hd => rfl); (case hg => rfl); (case hr => first | (go_simp; done) | (go_simp; rfl)); intro gb5 hg wa5 hbox hb; have G5 := Aside0.mk hg; have X5 := Aside0.mk hbox; have B5 := Aside0.mk hb; clear hg hbox hb; obtain ⟨hz5_0, hz5_1, hz5_2, fz5_0, fz5_1, fz5_2⟩ := cf3 X5.out) | ((with_reducible refine gate_store (t := 31) (p := 5) rfl ?_); refine store_event (t := 31) (p := 5) (v := ?vo5_) (w1 := (((wa5.setCell ⟨gb5, 0, none⟩ (.int .i64 t21)).setCell ⟨gb5, 1, none⟩ (.slice Ao24 t22.length co25)).setCell ⟨gb5, 2, none⟩ (.int .i64 t29))) ?hg ?ho ?hn ?hr ?_; (case ho => rfl); (case hg => rfl); (case hn => rfl); (case hr => first | (go_simp; done) | (go_simp; rfl)); intro wb5 hw; have hb := bs3 B5.out (Nat.le_of_eq G5.out.symm) hw; have BK5 := Aside0.mk (pt3 X5.out hw); clear hz5_0 hz5_1 hz5_2 fz5_0 fz5_1 fz5_2 hw; have hgl5 : m5 ≤ gb5 := (by rw [G5.out]; exact HMm5.out); replace HO17 := Aside0.mk (Kd.R_below (by (with_reducible repeat (first | apply Kd.R_alloc | apply Kd.R_drewN | apply Kd.R_drew)); exact HO17.out) hb); replace HO26 := Aside0.mk (Kd.S_below (by (with_reducible repeat (first | apply Kd.S_alloc | apply Kd.S_drewN | apply Kd.S_drew)); exact HO26.out) hb); replace BK1 := Aside0.mk (bb BK1.out hb); clear hz1_0 hz1_1 hz1_2; obtain ⟨hz1_0, hz1_1, hz1_2⟩ := cc3 BK1.out; replace HMm5 := Aside0.mk (Nat.le_trans HMm5.out (below_size hb)); replace HB := Aside0.mk (below_step bel hb); clear hb; obtain ⟨hz5_0, hz5_1, hz5_2⟩ := cc3 BK5.out))
    have H := HN.out
    clear HN
    replace H := Option.bind_eq_some_iff.mp H
    obtain ⟨t31, A380, H⟩ := H
    (try dsimp only at H)
    have A38 := Aside0.mk A380
    clear A380
    have HN := Aside0.mk H
    clear H
    go_wp2_with (first | (go_at_call 31; (with_reducible refine (impl_RegattaOrder.calls k t21 _ _ t22 t29 t31 _ ?side1 ?side2 A38.out).mono ?_); (case side1 => exact (Kd.S_reads' (by (with_reducible repeat (first | apply Kd.S_alloc | apply Kd.S_drewN | apply Kd.S_drew)); exact HO26.out)).2.2); (case side2 => exact (Kd.S_reads' HO26.out).2.1); rintro e W7 ⟨v32, rfl, ho0, hb⟩; obtain ⟨n7, m7, hn_, hm_, hF0⟩ := mk_rowR2 ho0 bel; have ord7 : m5 ≤ n7 := Nat.le_trans HMm5.out (Nat.le_of_eq hn_.symm); have nm7 : n7 ≤ m7 := Nat.le_trans (Nat.le_of_eq hn_) (Nat.le_trans (below_size hb) (Nat.le_of_eq hm_.symm)); have HMm7 := Aside0.mk (show m7 ≤ W7.heap.size from Nat.le_of_eq hm_); have hgb5 : gb5 < n7 := (by rw [hn_]; exact blk_lt BK5.out); clear ho0; clear hn_ hm_; replace HO17 := Aside0.mk (Kd.R_below (by (with_reducible repeat (first | apply Kd.R_alloc | apply Kd.R_drewN | apply Kd.R_drew)); exact HO17.out) hb); replace HO26 := Aside0.mk (Kd.S_below (by (with_reducible repeat (first | apply Kd.S_alloc | apply Kd.S_drewN | apply Kd.S_drew)); exact HO26.out) hb); replace BK1 := Aside0.mk (bb BK1.out hb); clear hz1_0 hz1_1 hz1_2; obtain ⟨hz1_0, hz1_1, hz1_2⟩ := cc3 BK1.out; replace BK5 := Aside0.mk (bb BK5.out hb); clear hz5_0 hz5_1 hz5_2; obtain ⟨hz5_0, hz5_1, hz5_2⟩ := cc3 BK5.out; replace HB := Aside0.mk (below_step bel hb); clear hb; have HO35 := Aside0.mk hF0; clear hF0; obtain ⟨Ao33, co34, eo_⟩ := Kd.R_slice HO35.out; subst eo_))
    have H := HN.out
    clear HN
    replace H := Option.bind_eq_some_iff.mp H
    obtain ⟨t39, A400, H⟩ := H
    (try dsimp only at H)
    have A40 := Aside0.mk A400
    clear A400
    cases t39 with
    | false =>
      replace H : some false = some r := by rw [if_neg (by decide)] at H; exact H
      have HE := Aside0.mk (Option.some.inj H)
      clear H
      go_wp2_with (first | (go_at_call 13; (with_reducible refine (laws_eqIntS.calls k _ _ t31 _ _ t13 false _ ?side1 ?side2 ?side3 ?side4 A40.out).mono ?_); (case side1 => exact (Kd.R_reads' (by (with_reducible repeat (first | apply Kd.R_alloc | apply Kd.R_drewN | apply Kd.R_drew)); exact HO35.out)).2.2); (case side2 => exact (Kd.R_reads' HO35.out).2.1); (case side3 => exact (Kd.R_reads' (by (with_reducible repeat (first | apply Kd.R_alloc | apply Kd.R_drewN | apply Kd.R_drew)); exact HO17.out)).2.2); (case side4 => exact (Kd.R_reads' HO17.out).2.1); rintro e w' ⟨rfl, ⟨nd, rfl⟩⟩))
      go_ret
      exact ⟨congrArg (fun b_ => Ending.returned (.bool b_)) HE.out, bel⟩
    | true =>
      rw [if_pos rfl] at H
      have HN := Aside0.mk H
      clear H
      go_wp2_with (first | (go_at_call 13; (with_reducible refine (laws_eqIntS.calls k _ _ t31 _ _ t13 true _ ?side1 ?side2 ?side3 ?side4 A40.out).mono ?_); (case side1 => exact (Kd.R_reads' (by (with_reducible repeat (first | apply Kd.R_alloc | apply Kd.R_drewN | apply Kd.R_drew)); exact HO35.out)).2.2); (case side2 => exact (Kd.R_reads' HO35.out).2.1); (case side3 => exact (Kd.R_reads' (by (with_reducible repeat (first | apply Kd.R_alloc | apply Kd.R_drewN | apply Kd.R_drew)); exact HO17.out)).2.2); (case side4 => exact (Kd.R_reads' HO17.out).2.1); rintro e w' ⟨rfl, ⟨nd, rfl⟩⟩))
      have H := HN.out
      clear HN
      replace H := Option.bind_eq_some_iff.mp H
      obtain ⟨⟨t41, t42, t49⟩, A500, H⟩ := H
      (try dsimp only at H)
      have A50 := Aside0.mk A500
      clear A500
      replace H := Option.bind_eq_some_iff.mp H
      obtain ⟨t51, A520, H⟩ := H
      (try dsimp only at H)
      have A52 := Aside0.mk A520
      clear A520
      cases t51 with
      | false =>
        replace H : some false = some r := by rw [if_neg (by decide)] at H; exact H
        have HE := Aside0.mk (Option.some.inj H)
        clear H
        go_region_held3 (fun w' => w'.cell? ⟨gb1, 0, none⟩ = some (.int .i64 a0_0) ∧ w'.cell? ⟨gb1, 1, none⟩ = some (.slice A0_1 l0_1.length c0_1) ∧ w'.cell? ⟨gb1, 2, none⟩ = some (.int .i64 a0_2) ∧ w'.cell? ⟨gb5, 0, none⟩ = some (.int .i64 t21) ∧ w'.cell? ⟨gb5, 1, none⟩ = some (.slice Ao24 t22.length co25) ∧ w'.cell? ⟨gb5, 2, none⟩ = some (.int .i64 t29)) (go_keep) (first | (go_at_call 16; (with_reducible refine (laws_toRegatta.calls k a0_0 _ _ l0_1 a0_2 t41 t42 t49 _ ?side1 ?side2 A50.out).mono ?_); (case side1 => exact ck (Kd.C_below HR0_1.out HB.out)); (case side2 => exact HC0_1.out); rintro e W10 ⟨v43, rfl, ho0, hb⟩; skip; obtain ⟨n10, m10, hn_, hm_, hF0⟩ := mk_rowS2 ho0 bel; have ord10 : m7 ≤ n10 := Nat.le_trans HMm7.out (Nat.le_of_eq hn_.symm); have nm10 : n10 ≤ m10 := Nat.le_trans (Nat.le_of_eq hn_) (Nat.le_trans (below_size hb) (Nat.le_of_eq hm_.symm)); have HMm10 := Aside0.mk (show m10 ≤ W10.heap.size from Nat.le_of_eq hm_); clear ho0; clear hn_ hm_; replace HO17 := Aside0.mk (Kd.R_below (by (with_reducible repeat (first | apply Kd.R_alloc | apply Kd.R_drewN | apply Kd.R_drew)); exact HO17.out) hb); replace HO26 := Aside0.mk (Kd.S_below (by (with_reducible repeat (first | apply Kd.S_alloc | apply Kd.S_drewN | apply Kd.S_drew)); exact HO26.out) hb); replace HO35 := Aside0.mk (Kd.R_below (by (with_reducible repeat (first | apply Kd.R_alloc | apply Kd.R_drewN | apply Kd.R_drew)); exact HO35.out) hb); replace BK1 := Aside0.mk (bb BK1.out hb); clear hz1_0 hz1_1 hz1_2; obtain ⟨hz1_0, hz1_1, hz1_2⟩ := cc3 BK1.out; replace BK5 := Aside0.mk (bb BK5.out hb); clear hz5_0 hz5_1 hz5_2; obtain ⟨hz5_0, hz5_1, hz5_2⟩ := cc3 BK5.out; replace HB := Aside0.mk (below_step bel hb); clear hb; have HO46 := Aside0.mk hF0; clear hF0; obtain ⟨Ao44, co45, eo_⟩ := Kd.S_slice HO46.out; subst eo_) | (go_at_call 18; (with_reducible refine (laws_eqRegatta.calls k t21 _ _ t22 t29 t41 _ _ t42 t49 false _ ?side1 ?side2 ?side3 ?side4 A52.out).mono ?_); (case side1 => exact (Kd.S_reads' (by (with_reducible repeat (first | apply Kd.S_alloc | apply Kd.S_drewN | apply Kd.S_drew)); exact HO26.out)).2.2); (case side2 => exact (Kd.S_reads' HO26.out).2.1); (case side3 => exact (Kd.S_reads' (by (with_reducible repeat (first | apply Kd.S_alloc | apply Kd.S_drewN | apply Kd.S_drew)); exact HO46.out)).2.2); (case side4 => exact (Kd.S_reads' HO46.out).2.1); rintro e W11 ⟨rfl, hb⟩; skip; replace HO17 := Aside0.mk (Kd.R_below (by (with_reducible repeat (first | apply Kd.R_alloc | apply Kd.R_drewN | apply Kd.R_drew)); exact HO17.out) hb); replace HO26 := Aside0.mk (Kd.S_below (by (with_reducible repeat (first | apply Kd.S_alloc | apply Kd.S_drewN | apply Kd.S_drew)); exact HO26.out) hb); replace HO35 := Aside0.mk (Kd.R_below (by (with_reducible repeat (first | apply Kd.R_alloc | apply Kd.R_drewN | apply Kd.R_drew)); exact HO35.out) hb); replace BK1 := Aside0.mk (bb BK1.out hb); clear hz1_0 hz1_1 hz1_2; obtain ⟨hz1_0, hz1_1, hz1_2⟩ := cc3 BK1.out; replace BK5 := Aside0.mk (bb BK5.out hb); clear hz5_0 hz5_1 hz5_2; obtain ⟨hz5_0, hz5_1, hz5_2⟩ := cc3 BK5.out; replace HMm10 := Aside0.mk (Nat.le_trans HMm10.out (below_size hb)); replace HB := Aside0.mk (below_step bel hb); clear hb))
        go_wp2
        go_ret
        exact ⟨congrArg (fun b_ => Ending.returned (.bool b_)) HE.out, bel⟩
      | true =>
        rw [if_pos rfl] at H
        have HN := Aside0.mk H
        clear H
        go_region_held3 (fun w' => w'.cell? ⟨gb1, 0, none⟩ = some (.int .i64 a0_0) ∧ w'.cell? ⟨gb1, 1, none⟩ = some (.slice A0_1 l0_1.length c0_1) ∧ w'.cell? ⟨gb1, 2, none⟩ = some (.int .i64 a0_2) ∧ w'.cell? ⟨gb5, 0, none⟩ = some (.int .i64 t21) ∧ w'.cell? ⟨gb5, 1, none⟩ = some (.slice Ao24 t22.length co25) ∧ w'.cell? ⟨gb5, 2, none⟩ = some (.int .i64 t29)) (go_keep) (first | (go_at_call 16; (with_reducible refine (laws_toRegatta.calls k a0_0 _ _ l0_1 a0_2 t41 t42 t49 _ ?side1 ?side2 A50.out).mono ?_); (case side1 => exact ck (Kd.C_below HR0_1.out HB.out)); (case side2 => exact HC0_1.out); rintro e W10 ⟨v43, rfl, ho0, hb⟩; skip; obtain ⟨n10, m10, hn_, hm_, hF0⟩ := mk_rowS2 ho0 bel; have ord10 : m7 ≤ n10 := Nat.le_trans HMm7.out (Nat.le_of_eq hn_.symm); have nm10 : n10 ≤ m10 := Nat.le_trans (Nat.le_of_eq hn_) (Nat.le_trans (below_size hb) (Nat.le_of_eq hm_.symm)); have HMm10 := Aside0.mk (show m10 ≤ W10.heap.size from Nat.le_of_eq hm_); clear ho0; clear hn_ hm_; replace HO17 := Aside0.mk (Kd.R_below (by (with_reducible repeat (first | apply Kd.R_alloc | apply Kd.R_drewN | apply Kd.R_drew)); exact HO17.out) hb); replace HO26 := Aside0.mk (Kd.S_below (by (with_reducible repeat (first | apply Kd.S_alloc | apply Kd.S_drewN | apply Kd.S_drew)); exact HO26.out) hb); replace HO35 := Aside0.mk (Kd.R_below (by (with_reducible repeat (first | apply Kd.R_alloc | apply Kd.R_drewN | apply Kd.R_drew)); exact HO35.out) hb); replace BK1 := Aside0.mk (bb BK1.out hb); clear hz1_0 hz1_1 hz1_2; obtain ⟨hz1_0, hz1_1, hz1_2⟩ := cc3 BK1.out; replace BK5 := Aside0.mk (bb BK5.out hb); clear hz5_0 hz5_1 hz5_2; obtain ⟨hz5_0, hz5_1, hz5_2⟩ := cc3 BK5.out; replace HB := Aside0.mk (below_step bel hb); clear hb; have HO46 := Aside0.mk hF0; clear hF0; obtain ⟨Ao44, co45, eo_⟩ := Kd.S_slice HO46.out; subst eo_) | (go_at_call 18; (with_reducible refine (laws_eqRegatta.calls k t21 _ _ t22 t29 t41 _ _ t42 t49 true _ ?side1 ?side2 ?side3 ?side4 A52.out).mono ?_); (case side1 => exact (Kd.S_reads' (by (with_reducible repeat (first | apply Kd.S_alloc | apply Kd.S_drewN | apply Kd.S_drew)); exact HO26.out)).2.2); (case side2 => exact (Kd.S_reads' HO26.out).2.1); (case side3 => exact (Kd.S_reads' (by (with_reducible repeat (first | apply Kd.S_alloc | apply Kd.S_drewN | apply Kd.S_drew)); exact HO46.out)).2.2); (case side4 => exact (Kd.S_reads' HO46.out).2.1); rintro e W11 ⟨rfl, hb⟩; skip; replace HO17 := Aside0.mk (Kd.R_below (by (with_reducible repeat (first | apply Kd.R_alloc | apply Kd.R_drewN | apply Kd.R_drew)); exact HO17.out) hb); replace HO26 := Aside0.mk (Kd.S_below (by (with_reducible repeat (first | apply Kd.S_alloc | apply Kd.S_drewN | apply Kd.S_drew)); exact HO26.out) hb); replace HO35 := Aside0.mk (Kd.R_below (by (with_reducible repeat (first | apply Kd.R_alloc | apply Kd.R_drewN | apply Kd.R_drew)); exact HO35.out) hb); replace BK1 := Aside0.mk (bb BK1.out hb); clear hz1_0 hz1_1 hz1_2; obtain ⟨hz1_0, hz1_1, hz1_2⟩ := cc3 BK1.out; replace BK5 := Aside0.mk (bb BK5.out hb); clear hz5_0 hz5_1 hz5_2; obtain ⟨hz5_0, hz5_1, hz5_2⟩ := cc3 BK5.out; replace HMm10 := Aside0.mk (Nat.le_trans HMm10.out (below_size hb)); replace HB := Aside0.mk (below_step bel hb); clear hb))
        have H := HN.out
        clear HN
        replace H := Option.bind_eq_some_iff.mp H
        obtain ⟨⟨t53, t54⟩, A550, H⟩ := H
        (try dsimp only at H)
        have A55 := Aside0.mk A550
        clear A550
        by_cases c14_ : t53 < 0
        · rw [if_pos c14_] at H
          have c14_b : decide (t53 < 0) = true := decide_eq_true c14_
          clear c14_
          have HE := Aside0.mk (Option.some.inj H)
          clear H
          go_wp2_with (first | ((with_reducible refine gate_callee (f := 23) rfl ?_); refine goesL_ (some 34) rfl rfl Try.func23 (by kernel_rfl) rfl #[.agg #[.int .i64 t21, .slice Ao24 t22.length co25, .int .i64 t29], .int .i64 1] rfl ga ?_; (with_reducible refine (laws_markRegatta.calls k t21 (fun k_ => n5 ≤ k_ ∧ k_ < m5) _ t22 t29 1 t53 t54 w _ ?sideB ?side1 A55.out).mono ?_); (case sideB => exact bel); (case side1 => exact (Kd.S_mono (ok := fun k_ => (n5 ≤ k_ ∧ k_ < m5) ∧ True) (by (with_reducible repeat (first | apply Kd.S_alloc | apply Kd.S_drewN | apply Kd.S_drew)); exact HO26.out) (fun _ h_ => h_.1))); rintro e W13 ⟨rfl, hR0, hb, hk⟩; refine ⟨_, rfl, ?_⟩; replace HO17 := Aside0.mk (Kd.R_step (by (with_reducible repeat (first | apply Kd.R_alloc | apply Kd.R_drewN | apply Kd.R_drew)); exact HO17.out) (fun k_ ho_ hl_ => hk.2 k_ hl_ (fun hp_ => by have o_ := ho_.1; omega))); replace HO35 := Aside0.mk (Kd.R_step (by (with_reducible repeat (first | apply Kd.R_alloc | apply Kd.R_drewN | apply Kd.R_drew)); exact HO35.out) (fun k_ ho_ hl_ => hk.2 k_ hl_ (fun hp_ => by have o_ := ho_.1; omega))); replace BK1 := Aside0.mk (kept_blk BK1.out hk (fun hp_ => by omega)); clear hz1_0 hz1_1 hz1_2; obtain ⟨hz1_0, hz1_1, hz1_2⟩ := cc3 BK1.out; replace BK5 := Aside0.mk (kept_blk BK5.out hk (fun hp_ => by omega)); clear hz5_0 hz5_1 hz5_2; obtain ⟨hz5_0, hz5_1, hz5_2⟩ := cc3 BK5.out; replace HB := Aside0.mk hb; replace HMm10 := Aside0.mk (Nat.le_trans HMm10.out hk.1); clear hb hk))
          go_ret
          exact ⟨congrArg (fun b_ => Ending.returned (.bool b_)) HE.out, bel⟩
        · rw [if_neg c14_] at H
          have c14_b : decide (t53 < 0) = false := decide_eq_false c14_
          clear c14_
          have HN := Aside0.mk H
          clear H
          go_wp2_with (first | ((with_reducible refine gate_callee (f := 23) rfl ?_); refine goesL_ (some 34) rfl rfl Try.func23 (by kernel_rfl) rfl #[.agg #[.int .i64 t21, .slice Ao24 t22.length co25, .int .i64 t29], .int .i64 1] rfl ga ?_; (with_reducible refine (laws_markRegatta.calls k t21 (fun k_ => n5 ≤ k_ ∧ k_ < m5) _ t22 t29 1 t53 t54 w _ ?sideB ?side1 A55.out).mono ?_); (case sideB => exact bel); (case side1 => exact (Kd.S_mono (ok := fun k_ => (n5 ≤ k_ ∧ k_ < m5) ∧ True) (by (with_reducible repeat (first | apply Kd.S_alloc | apply Kd.S_drewN | apply Kd.S_drew)); exact HO26.out) (fun _ h_ => h_.1))); rintro e W13 ⟨rfl, hR0, hb, hk⟩; refine ⟨_, rfl, ?_⟩; replace HO17 := Aside0.mk (Kd.R_step (by (with_reducible repeat (first | apply Kd.R_alloc | apply Kd.R_drewN | apply Kd.R_drew)); exact HO17.out) (fun k_ ho_ hl_ => hk.2 k_ hl_ (fun hp_ => by have o_ := ho_.1; omega))); replace HO35 := Aside0.mk (Kd.R_step (by (with_reducible repeat (first | apply Kd.R_alloc | apply Kd.R_drewN | apply Kd.R_drew)); exact HO35.out) (fun k_ ho_ hl_ => hk.2 k_ hl_ (fun hp_ => by have o_ := ho_.1; omega))); replace BK1 := Aside0.mk (kept_blk BK1.out hk (fun hp_ => by omega)); clear hz1_0 hz1_1 hz1_2; obtain ⟨hz1_0, hz1_1, hz1_2⟩ := cc3 BK1.out; replace BK5 := Aside0.mk (kept_blk BK5.out hk (fun hp_ => by omega)); clear hz5_0 hz5_1 hz5_2; obtain ⟨hz5_0, hz5_1, hz5_2⟩ := cc3 BK5.out; replace HB := Aside0.mk hb; replace HMm10 := Aside0.mk (Nat.le_trans HMm10.out hk.1); clear hb hk))
          have H := HN.out
          clear HN
          replace H := Option.bind_eq_some_iff.mp H
          obtain ⟨t56, A570, H⟩ := H
          (try dsimp only at H)
          have A57 := Aside0.mk A570
          clear A570
          cases t56 with
          | false =>
            replace H : some false = some r := by rw [if_neg (by decide)] at H; exact H
            have HE := Aside0.mk (Option.some.inj H)
            clear H
            go_wp2_with (first | (go_at_call 13; (with_reducible refine (laws_eqIntS.calls k _ _ t31 _ _ t13 false _ ?side1 ?side2 ?side3 ?side4 A57.out).mono ?_); (case side1 => exact (Kd.R_reads' (by (with_reducible repeat (first | apply Kd.R_alloc | apply Kd.R_drewN | apply Kd.R_drew)); exact HO35.out)).2.2); (case side2 => exact (Kd.R_reads' HO35.out).2.1); (case side3 => exact (Kd.R_reads' (by (with_reducible repeat (first | apply Kd.R_alloc | apply Kd.R_drewN | apply Kd.R_drew)); exact HO17.out)).2.2); (case side4 => exact (Kd.R_reads' HO17.out).2.1); rintro e w' ⟨rfl, ⟨nd, rfl⟩⟩))
            go_ret
            exact ⟨congrArg (fun b_ => Ending.returned (.bool b_)) HE.out, bel⟩
          | true =>
            rw [if_pos rfl] at H
            have HN := Aside0.mk H
            clear H
            go_wp2_with (first | (go_at_call 13; (with_reducible refine (laws_eqIntS.calls k _ _ t31 _ _ t13 true _ ?side1 ?side2 ?side3 ?side4 A57.out).mono ?_); (case side1 => exact (Kd.R_reads' (by (with_reducible repeat (first | apply Kd.R_alloc | apply Kd.R_drewN | apply Kd.R_drew)); exact HO35.out)).2.2); (case side2 => exact (Kd.R_reads' HO35.out).2.1); (case side3 => exact (Kd.R_reads' (by (with_reducible repeat (first | apply Kd.R_alloc | apply Kd.R_drewN | apply Kd.R_drew)); exact HO17.out)).2.2); (case side4 => exact (Kd.R_reads' HO17.out).2.1); rintro e w' ⟨rfl, ⟨nd, rfl⟩⟩))
            have H := HN.out
            clear HN
            replace H := Option.bind_eq_some_iff.mp H
            obtain ⟨⟨t58, t59⟩, A600, H⟩ := H
            (try dsimp only at H)
            have A60 := Aside0.mk A600
            clear A600
            have HN := Aside0.mk H
            clear H
            go_wp2_with (first | (go_at_call 24; (with_reducible refine (laws_markIntS.calls k (fun k_ => n7 ≤ k_ ∧ k_ < m7) _ t31 1 t58 t59 w _ ?sideB ?side1 A60.out).mono ?_); (case sideB => exact bel); (case side1 => exact (Kd.R_mono (ok := fun k_ => (n7 ≤ k_ ∧ k_ < m7) ∧ True) (by (with_reducible repeat (first | apply Kd.R_alloc | apply Kd.R_drewN | apply Kd.R_drew)); exact HO35.out) (fun _ h_ => h_.1))); rintro e W17 ⟨rfl, hR0, hb, hk⟩; replace HO17 := Aside0.mk (Kd.R_step (by (with_reducible repeat (first | apply Kd.R_alloc | apply Kd.R_drewN | apply Kd.R_drew)); exact HO17.out) (fun k_ ho_ hl_ => hk.2 k_ hl_ (fun hp_ => by have o_ := ho_.1; omega))); have le_ := (Kd.R_reads' hR0).1; rw [le_] at hR0; rw [le_]; clear le_; replace HO35 := Aside0.mk hR0; replace BK1 := Aside0.mk (kept_blk BK1.out hk (fun hp_ => by omega)); clear hz1_0 hz1_1 hz1_2; obtain ⟨hz1_0, hz1_1, hz1_2⟩ := cc3 BK1.out; replace BK5 := Aside0.mk (kept_blk BK5.out hk (fun hp_ => by omega)); clear hz5_0 hz5_1 hz5_2; obtain ⟨hz5_0, hz5_1, hz5_2⟩ := cc3 BK5.out; replace HB := Aside0.mk hb; replace HMm10 := Aside0.mk (Nat.le_trans HMm10.out hk.1); clear hb hk))
            have H := HN.out
            clear HN
            replace H := Option.bind_eq_some_iff.mp H
            obtain ⟨t61, A620, H⟩ := H
            (try dsimp only at H)
            have A62 := Aside0.mk A620
            clear A620
            by_cases c19_ : t61 < 0
            · rw [if_pos c19_] at H
              have c19_b : decide (t61 < 0) = true := decide_eq_true c19_
              clear c19_
              have HE := Aside0.mk (Option.some.inj H)
              clear H
              go_wp2_with (first | (go_at_call 25; (with_reducible refine (laws_heldIntS.calls k _ _ t59 1 t61 _ ?side1 ?side2 A62.out).mono ?_); (case side1 => exact (Kd.R_reads' (by (with_reducible repeat (first | apply Kd.R_alloc | apply Kd.R_drewN | apply Kd.R_drew)); exact HO35.out)).2.2); (case side2 => exact (Kd.R_reads' HO35.out).2.1); rintro e w' ⟨rfl, ⟨nd, rfl⟩⟩))
              go_ret
              exact ⟨congrArg (fun b_ => Ending.returned (.bool b_)) HE.out, bel⟩
            · rw [if_neg c19_] at H
              have c19_b : decide (t61 < 0) = false := decide_eq_false c19_
              clear c19_
              by_cases c20_ : t61 = t58
              rotate_left
              · rw [if_neg c20_] at H
                have c20_b : (t61 == t58) = false := beq_eq_false_iff_ne.mpr c20_
                have c20_d : (t61 != t58) = true := bne_iff_ne.mpr c20_
                clear c20_
                have HE := Aside0.mk (Option.some.inj H)
                clear H
                go_wp2_with (first | (go_at_call 25; (with_reducible refine (laws_heldIntS.calls k _ _ t59 1 t61 _ ?side1 ?side2 A62.out).mono ?_); (case side1 => exact (Kd.R_reads' (by (with_reducible repeat (first | apply Kd.R_alloc | apply Kd.R_drewN | apply Kd.R_drew)); exact HO35.out)).2.2); (case side2 => exact (Kd.R_reads' HO35.out).2.1); rintro e w' ⟨rfl, ⟨nd, rfl⟩⟩))
                go_ret
                exact ⟨congrArg (fun b_ => Ending.returned (.bool b_)) HE.out, bel⟩
              · rw [if_pos c20_] at H
                have c20_b : (t61 == t58) = true := beq_iff_eq.mpr c20_
                have c20_d : (t61 != t58) = false := bne_eq_false_iff_eq.mpr c20_
                clear c20_
                replace H := Option.bind_eq_some_iff.mp H
                obtain ⟨⟨t63, t64, t71⟩, A720, H⟩ := H
                (try dsimp only at H)
                have A72 := Aside0.mk A720
                clear A720
                have HN := Aside0.mk H
                clear H
                go_wp2_with (first | (go_at_call 25; (with_reducible refine (laws_heldIntS.calls k _ _ t59 1 t61 _ ?side1 ?side2 A62.out).mono ?_); (case side1 => exact (Kd.R_reads' (by (with_reducible repeat (first | apply Kd.R_alloc | apply Kd.R_drewN | apply Kd.R_drew)); exact HO35.out)).2.2); (case side2 => exact (Kd.R_reads' HO35.out).2.1); rintro e w' ⟨rfl, ⟨nd, rfl⟩⟩) | ((with_reducible refine gate_callee (f := 16) rfl ?_); refine goesL_ (some 55) rfl rfl Try.func16 (by kernel_rfl) rfl #[.agg #[.int .i64 a0_0, .slice A0_1 l0_1.length c0_1, .int .i64 a0_2]] rfl ga ?_; (with_reducible refine (laws_toRegatta.calls k a0_0 _ _ l0_1 a0_2 t63 t64 t71 _ ?side1 ?side2 A72.out).mono ?_); (case side1 => exact ck (Kd.C_below HR0_1.out HB.out)); (case side2 => exact HC0_1.out); rintro e W21 ⟨v65, rfl, ho0, hb⟩; refine ⟨_, rfl, ?_⟩; obtain ⟨n21, m21, hn_, hm_, hF0⟩ := mk_rowS2 ho0 bel; have ord21 : m10 ≤ n21 := Nat.le_trans HMm10.out (Nat.le_of_eq hn_.symm); have nm21 : n21 ≤ m21 := Nat.le_trans (Nat.le_of_eq hn_) (Nat.le_trans (below_size hb) (Nat.le_of_eq hm_.symm)); have HMm21 := Aside0.mk (show m21 ≤ W21.heap.size from Nat.le_of_eq hm_); clear ho0; clear hn_ hm_; replace HO17 := Aside0.mk (Kd.R_below (by (with_reducible repeat (first | apply Kd.R_alloc | apply Kd.R_drewN | apply Kd.R_drew)); exact HO17.out) hb); replace HO35 := Aside0.mk (Kd.R_below (by (with_reducible repeat (first | apply Kd.R_alloc | apply Kd.R_drewN | apply Kd.R_drew)); exact HO35.out) hb); replace BK1 := Aside0.mk (bb BK1.out hb); clear hz1_0 hz1_1 hz1_2; obtain ⟨hz1_0, hz1_1, hz1_2⟩ := cc3 BK1.out; replace BK5 := Aside0.mk (bb BK5.out hb); clear hz5_0 hz5_1 hz5_2; obtain ⟨hz5_0, hz5_1, hz5_2⟩ := cc3 BK5.out; replace HB := Aside0.mk (below_step bel hb); clear hb; have HO68 := Aside0.mk hF0; clear hF0; obtain ⟨Ao66, co67, eo_⟩ := Kd.S_slice HO68.out; subst eo_))
                have H := HN.out
                clear HN
                replace H := Option.bind_eq_some_iff.mp H
                obtain ⟨t73, A800, H⟩ := H
                (try dsimp only at H)
                have A80 := Aside0.mk A800
                clear A800
                have HN := Aside0.mk H
                clear H
                go_wp2_with (first | (go_at_call 31; (with_reducible refine (impl_RegattaOrder.calls k t63 _ _ t64 t71 t73 _ ?side1 ?side2 A80.out).mono ?_); (case side1 => exact (Kd.S_reads' (by (with_reducible repeat (first | apply Kd.S_alloc | apply Kd.S_drewN | apply Kd.S_drew)); exact HO68.out)).2.2); (case side2 => exact (Kd.S_reads' HO68.out).2.1); rintro e W22 ⟨v74, rfl, ho0, hb⟩; obtain ⟨n22, m22, hn_, hm_, hF0⟩ := mk_rowR2 ho0 bel; have ord22 : m21 ≤ n22 := Nat.le_trans HMm21.out (Nat.le_of_eq hn_.symm); have nm22 : n22 ≤ m22 := Nat.le_trans (Nat.le_of_eq hn_) (Nat.le_trans (below_size hb) (Nat.le_of_eq hm_.symm)); have HMm22 := Aside0.mk (show m22 ≤ W22.heap.size from Nat.le_of_eq hm_); clear ho0; clear hn_ hm_; replace HO17 := Aside0.mk (Kd.R_below (by (with_reducible repeat (first | apply Kd.R_alloc | apply Kd.R_drewN | apply Kd.R_drew)); exact HO17.out) hb); replace HO35 := Aside0.mk (Kd.R_below (by (with_reducible repeat (first | apply Kd.R_alloc | apply Kd.R_drewN | apply Kd.R_drew)); exact HO35.out) hb); replace BK1 := Aside0.mk (bb BK1.out hb); clear hz1_0 hz1_1 hz1_2; obtain ⟨hz1_0, hz1_1, hz1_2⟩ := cc3 BK1.out; replace BK5 := Aside0.mk (bb BK5.out hb); clear hz5_0 hz5_1 hz5_2; obtain ⟨hz5_0, hz5_1, hz5_2⟩ := cc3 BK5.out; replace HB := Aside0.mk (below_step bel hb); clear hb; have HO77 := Aside0.mk hF0; clear hF0; obtain ⟨Ao75, co76, eo_⟩ := Kd.R_slice HO77.out; subst eo_))
                have H := HN.out
                clear HN
                replace H := Option.bind_eq_some_iff.mp H
                obtain ⟨t81, A820, H⟩ := H
                (try dsimp only at H)
                have A82 := Aside0.mk A820
                clear A820
                cases t81 with
                | false =>
                  replace H : some false = some r := by rw [if_neg (by decide)] at H; exact H
                  have HE := Aside0.mk (Option.some.inj H)
                  clear H
                  go_wp2_with (first | (go_at_call 13; (with_reducible refine (laws_eqIntS.calls k _ _ t73 _ _ t13 false _ ?side1 ?side2 ?side3 ?side4 A82.out).mono ?_); (case side1 => exact (Kd.R_reads' (by (with_reducible repeat (first | apply Kd.R_alloc | apply Kd.R_drewN | apply Kd.R_drew)); exact HO77.out)).2.2); (case side2 => exact (Kd.R_reads' HO77.out).2.1); (case side3 => exact (Kd.R_reads' (by (with_reducible repeat (first | apply Kd.R_alloc | apply Kd.R_drewN | apply Kd.R_drew)); exact HO17.out)).2.2); (case side4 => exact (Kd.R_reads' HO17.out).2.1); rintro e w' ⟨rfl, ⟨nd, rfl⟩⟩))
                  go_ret
                  exact ⟨congrArg (fun b_ => Ending.returned (.bool b_)) HE.out, bel⟩
                | true =>
                  rw [if_pos rfl] at H
                  have HN := Aside0.mk H
                  clear H
                  go_wp2_with (first | (go_at_call 13; (with_reducible refine (laws_eqIntS.calls k _ _ t73 _ _ t13 true _ ?side1 ?side2 ?side3 ?side4 A82.out).mono ?_); (case side1 => exact (Kd.R_reads' (by (with_reducible repeat (first | apply Kd.R_alloc | apply Kd.R_drewN | apply Kd.R_drew)); exact HO77.out)).2.2); (case side2 => exact (Kd.R_reads' HO77.out).2.1); (case side3 => exact (Kd.R_reads' (by (with_reducible repeat (first | apply Kd.R_alloc | apply Kd.R_drewN | apply Kd.R_drew)); exact HO17.out)).2.2); (case side4 => exact (Kd.R_reads' HO17.out).2.1); rintro e w' ⟨rfl, ⟨nd, rfl⟩⟩))
                  have H := HN.out
                  clear HN
                  replace H := Option.bind_eq_some_iff.mp H
                  obtain ⟨t83, A840, H⟩ := H
                  (try dsimp only at H)
                  have A84 := Aside0.mk A840
                  clear A840
                  by_cases c26_ : t83 < 0
                  · rw [if_pos c26_] at H
                    have c26_b : decide (t83 < 0) = true := decide_eq_true c26_
                    clear c26_
                    have HE := Aside0.mk (Option.some.inj H)
                    clear H
                    go_wp2_with (first | (go_at_call 25; (with_reducible refine (laws_heldIntS.calls k _ _ t59 1 t83 _ ?side1 ?side2 A84.out).mono ?_); (case side1 => exact (Kd.R_reads' (by (with_reducible repeat (first | apply Kd.R_alloc | apply Kd.R_drewN | apply Kd.R_drew)); exact HO35.out)).2.2); (case side2 => exact (Kd.R_reads' HO35.out).2.1); rintro e w' ⟨rfl, ⟨nd, rfl⟩⟩))
                    go_ret
                    exact ⟨congrArg (fun b_ => Ending.returned (.bool b_)) HE.out, bel⟩
                  · rw [if_neg c26_] at H
                    have c26_b : decide (t83 < 0) = false := decide_eq_false c26_
                    clear c26_
                    by_cases c27_ : t83 = t58
                    rotate_left
                    · rw [if_neg c27_] at H
                      have c27_b : (t83 == t58) = false := beq_eq_false_iff_ne.mpr c27_
                      have c27_d : (t83 != t58) = true := bne_iff_ne.mpr c27_
                      clear c27_
                      have HE := Aside0.mk (Option.some.inj H)
                      clear H
                      go_wp2_with (first | (go_at_call 25; (with_reducible refine (laws_heldIntS.calls k _ _ t59 1 t83 _ ?side1 ?side2 A84.out).mono ?_); (case side1 => exact (Kd.R_reads' (by (with_reducible repeat (first | apply Kd.R_alloc | apply Kd.R_drewN | apply Kd.R_drew)); exact HO35.out)).2.2); (case side2 => exact (Kd.R_reads' HO35.out).2.1); rintro e w' ⟨rfl, ⟨nd, rfl⟩⟩))
                      go_ret
                      exact ⟨congrArg (fun b_ => Ending.returned (.bool b_)) HE.out, bel⟩
                    · rw [if_pos c27_] at H
                      have c27_b : (t83 == t58) = true := beq_iff_eq.mpr c27_
                      have c27_d : (t83 != t58) = false := bne_eq_false_iff_eq.mpr c27_
                      clear c27_
                      have HE := Aside0.mk (Option.some.inj H)
                      clear H
                      go_wp2_with (first | (go_at_call 25; (with_reducible refine (laws_heldIntS.calls k _ _ t59 1 t83 _ ?side1 ?side2 A84.out).mono ?_); (case side1 => exact (Kd.R_reads' (by (with_reducible repeat (first | apply Kd.R_alloc | apply Kd.R_drewN | apply Kd.R_drew)); exact HO35.out)).2.2); (case side2 => exact (Kd.R_reads' HO35.out).2.1); rintro e w' ⟨rfl, ⟨nd, rfl⟩⟩))
                      go_ret
                      exact ⟨congrArg (fun b_ => Ending.returned (.bool b_)) HE.out, bel⟩

end Go.Proofs.Ytipojkfkcelejaa.X
