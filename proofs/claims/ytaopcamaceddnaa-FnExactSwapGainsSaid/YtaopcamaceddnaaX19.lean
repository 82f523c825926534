-- Written by a program of this session (wip/xp.py, over the kit's print) out of the translation: functions, and the walks that show them.
import Derived.Test.YtaopcamaceddnaaX0
import Derived.Test.YtaopcamaceddnaaX1
import Derived.Test.YtaopcamaceddnaaX3
import Derived.Test.YtaopcamaceddnaaX5
import Derived.Test.YtaopcamaceddnaaX11
import Derived.Test.YtaopcamaceddnaaX12
import Derived.Test.YtaopcamaceddnaaX13
import Derived.Test.YtaopcamaceddnaaX18
namespace Go.Proofs.Ytaopcamaceddnaa.X
open Go.RowKit Go.Proofs.YtaopcamaceddnaaW.PrintWords Go.Proofs.YtaopcamaceddnaaW.PrintLast Go.Proofs.YtaopcamaceddnaaW.PrintMore
attribute [local go_sem] max2_int min2_int max_two min_two max_three min_three max_four min_four   -- for this text's walks alone
set_option linter.unusedVariables false
set_option linter.unusedSimpArgs false

/-! ### laws_FnExactSwapGains: function 11 (this session's own text: wip/xext.py, law_text) -/
def laws_FnExactSwapGains.f (k : Nat) (a0 : Int) (l1 : List (S52)) (a2 : Int) (a3 : Int) : Option Bool := ((laws_szContestS.f k l1 1048576).bind fun t1 => (if t1 < 0 then (some true) else ((laws_toContestS.f k l1).bind fun t3 => ((spec_SwapGains.f k a0 t3 a2 a3).bind fun t11 => ((laws_toContestS.f k l1).bind fun t19 => ((impl_SwapGains.f k a0 t19 a2 a3).bind fun t27 => ((laws_eqIntS.f k t27 t11).bind fun t35 => (if t35 = true then ((laws_toContestS.f k l1).bind fun t37 => ((laws_eqContestS.f k t19 t37).bind fun t45 => (if t45 = true then ((laws_markContestS.f k t19 1).bind fun b11 => (if b11.1 < 0 then (some false) else ((laws_eqIntS.f k t27 t11).bind fun t50 => (if t50 = true then ((laws_markIntS.f k t27 1).bind fun b15 => ((laws_heldIntS.f k b15.2 1).bind fun t55 => (if t55 < 0 then (some false) else (if t55 = b15.1 then ((laws_toContestS.f k l1).bind fun t57 => ((impl_SwapGains.f k a0 t57 a2 a3).bind fun t65 => ((laws_eqIntS.f k t65 t11).bind fun t73 => (if t73 = true then ((laws_heldIntS.f k b15.2 1).bind fun t75 => (if t75 < 0 then (some false) else (if t75 = b15.1 then (some true) else (some false)))) else (some false))))) else (some false))))) else (some false))))) else (some false)))) else (some false)))))))))
theorem laws_FnExactSwapGains.mono : ∀ a0 a1 a2 a3 k, LeO (laws_FnExactSwapGains.f k a0 a1 a2 a3) (laws_FnExactSwapGains.f (k + 1) a0 a1 a2 a3) := by
  intro a0 a1 a2 a3 k
  unfold laws_FnExactSwapGains.f
  repeat' first
      | (with_reducible exact laws_szContestS.mono _ _ _)
      | (with_reducible exact laws_toContestS.mono _ _)
      | (with_reducible exact laws_eqContestS.mono _ _ _)
      | (with_reducible exact impl_SwapGains.mono _ _ _ _ _)
      | (with_reducible exact laws_eqIntS.mono _ _ _)
      | (with_reducible exact laws_markContestS.mono _ _ _)
      | (with_reducible exact laws_markIntS.mono _ _ _)
      | (with_reducible exact laws_heldIntS.mono _ _ _)
      | (with_reducible exact spec_SwapGains.mono _ _ _ _ _)
      | (with_reducible exact LeO.refl _)
      | (with_reducible exact LeO.none _)
      | (with_reducible refine LeO.ite ?_ ?_)
      | (with_reducible refine LeO.bind ?_ (fun _ => ?_))
      | exact laws_szContestS.mono _ _ _
      | exact laws_toContestS.mono _ _
      | exact laws_eqContestS.mono _ _ _
      | exact impl_SwapGains.mono _ _ _ _ _
      | exact laws_eqIntS.mono _ _ _
      | exact laws_markContestS.mono _ _ _
      | exact laws_markIntS.mono _ _ _
      | exact laws_heldIntS.mono _ _ _
      | exact spec_SwapGains.mono _ _ _ _ _
      | exact LeO.none _
      | refine LeO.ite ?_ ?_
      | refine LeO.bind ?_ (fun _ => ?_)
set_option maxHeartbeats 16000000 in
set_option maxRecDepth 100000 in
theorem laws_FnExactSwapGains.calls (k : Nat) (a0 : Int) (A1 : Option Addr) (c1 : Nat) (l1 : List (S52)) (a2 : Int) (a3 : Int) (r : Bool) (w : World) (hr1 : Kd.C k52 w A1 l1.length l1) (hc1 : l1.length ≤ c1) (h : laws_FnExactSwapGains.f k a0 l1 a2 a3 = some r) :
    Calls Try.prog 11 #[.int .i64 a0, .slice A1 l1.length c1, .int .i64 a2, .int .i64 a3] w fun e w' => e = .returned (.bool r) ∧ Below w.heap.size w w' := by
  have HR1 := Aside0.mk hr1
  have HC1 := Aside0.mk hc1
  clear hr1 hc1
  have HB := Aside0.mk (Below.refl w.heap.size w)
  have HM0 := Aside0.mk (Nat.zero_le w.heap.size)
  have H : ((laws_szContestS.f k l1 1048576).bind fun t1 => (if t1 < 0 then (some true) else ((laws_toContestS.f k l1).bind fun t3 => ((spec_SwapGains.f k a0 t3 a2 a3).bind fun t11 => ((laws_toContestS.f k l1).bind fun t19 => ((impl_SwapGains.f k a0 t19 a2 a3).bind fun t27 => ((laws_eqIntS.f k t27 t11).bind fun t35 => (if t35 = true then ((laws_toContestS.f k l1).bind fun t37 => ((laws_eqContestS.f k t19 t37).bind fun t45 => (if t45 = true then ((laws_markContestS.f k t19 1).bind fun b11 => (if b11.1 < 0 then (some false) else ((laws_eqIntS.f k t27 t11).bind fun t50 => (if t50 = true then ((laws_markIntS.f k t27 1).bind fun b15 => ((laws_heldIntS.f k b15.2 1).bind fun t55 => (if t55 < 0 then (some false) else (if t55 = b15.1 then ((laws_toContestS.f k l1).bind fun t57 => ((impl_SwapGains.f k a0 t57 a2 a3).bind fun t65 => ((laws_eqIntS.f k t65 t11).bind fun t73 => (if t73 = true then ((laws_heldIntS.f k b15.2 1).bind fun t75 => (if t75 < 0 then (some false) else (if t75 = b15.1 then (some true) else (some false)))) else (some false))))) else (some false))))) else (some false))))) else (some false)))) else (some false))))))))) = some r := h
  clear h
  replace H := Option.bind_eq_some_iff.mp H
  obtain ⟨t1, Af20, H⟩ := H
  (try dsimp only at H)
  have Af2 := Aside0.mk Af20
  clear Af20
  by_cases c1_ : t1 < 0
  · rw [if_pos c1_] at H
    have c1_b : decide (t1 < 0) = true := decide_eq_true c1_
    clear c1_
    have HE := Aside0.mk (Option.some.inj H)
    clear H
    go_enter Try.func11, Try.ntmps11
    go_wp2_with (first | ((with_reducible refine gate_callee (f := 12) rfl ?_); refine goesL_ (some 19) rfl rfl Try.func12 (by kernel_rfl) rfl #[.slice A1 l1.length c1, .int .i64 1048576] rfl ga ?_; (with_reducible refine (laws_szContestS.calls k _ _ l1 1048576 t1 _ ?side1 ?side2 Af2.out).mono ?_); (case side1 => exact ck (Kd.C_below HR1.out HB.out)); (case side2 => exact HC1.out); rintro e W0 ⟨rfl, hb⟩; refine ⟨_, rfl, ?_⟩; replace HM0 := Aside0.mk (Nat.le_trans HM0.out (below_size hb)); replace HB := Aside0.mk (show Below w.heap.size w _ from below_step bel hb); clear hb))
    go_ret
    exact ⟨congrArg (fun b_ => Ending.returned (.bool b_)) HE.out, bel⟩
  · rw [if_neg c1_] at H
    have c1_b : decide (t1 < 0) = false := decide_eq_false c1_
    clear c1_
    replace H := Option.bind_eq_some_iff.mp H
    obtain ⟨t3, Af100, H⟩ := H
    (try dsimp only at H)
    have Af10 := Aside0.mk Af100
    clear Af100
    have HN := Aside0.mk H
    clear H
    go_enter Try.func11, Try.ntmps11
    go_wp2_with (first | ((with_reducible refine gate_callee (f := 12) rfl ?_); refine goesL_ (some 19) rfl rfl Try.func12 (by kernel_rfl) rfl #[.slice A1 l1.length c1, .int .i64 1048576] rfl ga ?_; (with_reducible refine (laws_szContestS.calls k _ _ l1 1048576 t1 _ ?side1 ?side2 Af2.out).mono ?_); (case side1 => exact ck (Kd.C_below HR1.out HB.out)); (case side2 => exact HC1.out); rintro e W0 ⟨rfl, hb⟩; refine ⟨_, rfl, ?_⟩; replace HM0 := Aside0.mk (Nat.le_trans HM0.out (below_size hb)); replace HB := Aside0.mk (show Below w.heap.size w _ from below_step bel hb); clear hb) | ((with_reducible refine gate_callee (f := 14) rfl ?_); refine goesL_ (some 24) rfl rfl Try.func14 (by kernel_rfl) rfl #[.slice A1 l1.length c1] rfl ga ?_; (with_reducible refine (laws_toContestS.calls k _ _ l1 t3 _ ?side1 ?side2 Af10.out).mono ?_); (case side1 => exact ck (Kd.C_below HR1.out HB.out)); (case side2 => exact HC1.out); rintro e W2 ⟨v4, rfl, ho0, hb⟩; refine ⟨_, rfl, ?_⟩; obtain ⟨n2, m2, hn_, hm_, hF0⟩ := mk_rowS2 ho0 bel; have ord2 : 0 ≤ n2 := Nat.le_trans HM0.out (Nat.le_of_eq hn_.symm); have nm2 : n2 ≤ m2 := Nat.le_trans (Nat.le_of_eq hn_) (Nat.le_trans (below_size hb) (Nat.le_of_eq hm_.symm)); have HMm2 := Aside0.mk (show m2 ≤ W2.heap.size from Nat.le_of_eq hm_); clear ho0; clear hn_ hm_; replace HB := Aside0.mk (show Below w.heap.size w _ from below_step bel hb); clear hb; have HO7 := Aside0.mk hF0; clear hF0; obtain ⟨Ao5, co6, eo_⟩ := Kd.S_slice HO7.out; subst eo_))
    have H := HN.out
    clear HN
    replace H := Option.bind_eq_some_iff.mp H
    obtain ⟨t11, Af180, H⟩ := H
    (try dsimp only at H)
    have Af18 := Aside0.mk Af180
    clear Af180
    have HN := Aside0.mk H
    clear H
    go_wp2_with (first | (go_at_call 37; (with_reducible refine (spec_SwapGains.calls k a0 _ _ t3 a2 a3 t11 _ ?side1 ?side2 Af18.out).mono ?_); (case side1 => exact (Kd.S_reads' (by (with_reducible repeat (first | apply Kd.S_alloc | apply Kd.S_drewN | apply Kd.S_drew)); exact HO7.out)).2.2); (case side2 => exact (Kd.S_reads' HO7.out).2.1); rintro e W3 ⟨v12, rfl, ho0, hb⟩; obtain ⟨n3, m3, hn_, hm_, hF0⟩ := mk_rowR2 ho0 bel; have ord3 : m2 ≤ n3 := Nat.le_trans HMm2.out (Nat.le_of_eq hn_.symm); have nm3 : n3 ≤ m3 := Nat.le_trans (Nat.le_of_eq hn_) (Nat.le_trans (below_size hb) (Nat.le_of_eq hm_.symm)); have HMm3 := Aside0.mk (show m3 ≤ W3.heap.size from Nat.le_of_eq hm_); clear ho0; clear hn_ hm_; replace HB := Aside0.mk (show Below w.heap.size w _ from below_step bel hb); clear hb; have HO15 := Aside0.mk hF0; clear hF0; obtain ⟨Ao13, co14, eo_⟩ := Kd.R_slice HO15.out; subst eo_))
    have H := HN.out
    clear HN
    replace H := Option.bind_eq_some_iff.mp H
    obtain ⟨t19, Af260, H⟩ := H
    (try dsimp only at H)
    have Af26 := Aside0.mk Af260
    clear Af260
    have HN := Aside0.mk H
    clear H
    go_wp2_with (first | (go_at_call 14; (with_reducible refine (laws_toContestS.calls k _ _ l1 t19 _ ?side1 ?side2 Af26.out).mono ?_); (case side1 => exact ck (Kd.C_below HR1.out HB.out)); (case side2 => exact HC1.out); rintro e W4 ⟨v20, rfl, ho0, hb⟩; obtain ⟨n4, m4, hn_, hm_, hF0⟩ := mk_rowS2 ho0 bel; have ord4 : m3 ≤ n4 := Nat.le_trans HMm3.out (Nat.le_of_eq hn_.symm); have nm4 : n4 ≤ m4 := Nat.le_trans (Nat.le_of_eq hn_) (Nat.le_trans (below_size hb) (Nat.le_of_eq hm_.symm)); have HMm4 := Aside0.mk (show m4 ≤ W4.heap.size from Nat.le_of_eq hm_); clear ho0; clear hn_ hm_; replace HO15 := Aside0.mk (Kd.R_below (by (with_reducible repeat (first | apply Kd.R_alloc | apply Kd.R_drewN | apply Kd.R_drew)); exact HO15.out) hb); replace HB := Aside0.mk (show Below w.heap.size w _ from below_step bel hb); clear hb; have HO23 := Aside0.mk hF0; clear hF0; obtain ⟨Ao21, co22, eo_⟩ := Kd.S_slice HO23.out; subst eo_))
    have H := HN.out
    clear HN
    replace H := Option.bind_eq_some_iff.mp H
    obtain ⟨t27, Af340, H⟩ := H
    (try dsimp only at H)
    have Af34 := Aside0.mk Af340
    clear Af340
    have HN := Aside0.mk H
    clear H
    go_wp2_with (first | (go_at_call 24; (with_reducible refine (impl_SwapGains.calls k a0 _ _ t19 a2 a3 t27 _ ?side1 ?side2 Af34.out).mono ?_); (case side1 => exact (Kd.S_reads' (by (with_reducible repeat (first | apply Kd.S_alloc | apply Kd.S_drewN | apply Kd.S_drew)); exact HO23.out)).2.2); (case side2 => exact (Kd.S_reads' HO23.out).2.1); rintro e W5 ⟨v28, rfl, ho0, hb⟩; obtain ⟨n5, m5, hn_, hm_, hF0⟩ := mk_rowR2 ho0 bel; have ord5 : m4 ≤ n5 := Nat.le_trans HMm4.out (Nat.le_of_eq hn_.symm); have nm5 : n5 ≤ m5 := Nat.le_trans (Nat.le_of_eq hn_) (Nat.le_trans (below_size hb) (Nat.le_of_eq hm_.symm)); have HMm5 := Aside0.mk (show m5 ≤ W5.heap.size from Nat.le_of_eq hm_); clear ho0; clear hn_ hm_; replace HO15 := Aside0.mk (Kd.R_below (by (with_reducible repeat (first | apply Kd.R_alloc | apply Kd.R_drewN | apply Kd.R_drew)); exact HO15.out) hb); replace HO23 := Aside0.mk (Kd.S_below (by (with_reducible repeat (first | apply Kd.S_alloc | apply Kd.S_drewN | apply Kd.S_drew)); exact HO23.out) hb); replace HB := Aside0.mk (show Below w.heap.size w _ from below_step bel hb); clear hb; have HO31 := Aside0.mk hF0; clear hF0; obtain ⟨Ao29, co30, eo_⟩ := Kd.R_slice HO31.out; subst eo_))
    have H := HN.out
    clear HN
    replace H := Option.bind_eq_some_iff.mp H
    obtain ⟨t35, Af360, H⟩ := H
    (try dsimp only at H)
    have Af36 := Aside0.mk Af360
    clear Af360
    cases t35 with
    | false =>
      replace H : some false = some r := by rw [if_neg (by decide)] at H; exact H
      have HE := Aside0.mk (Option.some.inj H)
      clear H
      go_wp2_with (first | (go_at_call 28; (with_reducible refine (laws_eqIntS.calls k _ _ t27 _ _ t11 false _ ?side1 ?side2 ?side3 ?side4 Af36.out).mono ?_); (case side1 => exact (Kd.R_reads' (by (with_reducible repeat (first | apply Kd.R_alloc | apply Kd.R_drewN | apply Kd.R_drew)); exact HO31.out)).2.2); (case side2 => exact (Kd.R_reads' HO31.out).2.1); (case side3 => exact (Kd.R_reads' (by (with_reducible repeat (first | apply Kd.R_alloc | apply Kd.R_drewN | apply Kd.R_drew)); exact HO15.out)).2.2); (case side4 => exact (Kd.R_reads' HO15.out).2.1); rintro e w' ⟨rfl, ⟨nd, rfl⟩⟩))
      go_ret
      exact ⟨congrArg (fun b_ => Ending.returned (.bool b_)) HE.out, bel⟩
    | true =>
      rw [if_pos rfl] at H
      replace H := Option.bind_eq_some_iff.mp H
      obtain ⟨t37, Af440, H⟩ := H
      (try dsimp only at H)
      have Af44 := Aside0.mk Af440
      clear Af440
      have HN := Aside0.mk H
      clear H
      go_wp2_with (first | (go_at_call 28; (with_reducible refine (laws_eqIntS.calls k _ _ t27 _ _ t11 true _ ?side1 ?side2 ?side3 ?side4 Af36.out).mono ?_); (case side1 => exact (Kd.R_reads' (by (with_reducible repeat (first | apply Kd.R_alloc | apply Kd.R_drewN | apply Kd.R_drew)); exact HO31.out)).2.2); (case side2 => exact (Kd.R_reads' HO31.out).2.1); (case side3 => exact (Kd.R_reads' (by (with_reducible repeat (first | apply Kd.R_alloc | apply Kd.R_drewN | apply Kd.R_drew)); exact HO15.out)).2.2); (case side4 => exact (Kd.R_reads' HO15.out).2.1); rintro e w' ⟨rfl, ⟨nd, rfl⟩⟩) | ((with_reducible refine gate_callee (f := 14) rfl ?_); refine goesL_ (some 41) rfl rfl Try.func14 (by kernel_rfl) rfl #[.slice A1 l1.length c1] rfl ga ?_; (with_reducible refine (laws_toContestS.calls k _ _ l1 t37 _ ?side1 ?side2 Af44.out).mono ?_); (case side1 => exact ck (Kd.C_below HR1.out HB.out)); (case side2 => exact HC1.out); rintro e W8 ⟨v38, rfl, ho0, hb⟩; refine ⟨_, rfl, ?_⟩; obtain ⟨n8, m8, hn_, hm_, hF0⟩ := mk_rowS2 ho0 bel; have ord8 : m5 ≤ n8 := Nat.le_trans HMm5.out (Nat.le_of_eq hn_.symm); have nm8 : n8 ≤ m8 := Nat.le_trans (Nat.le_of_eq hn_) (Nat.le_trans (below_size hb) (Nat.le_of_eq hm_.symm)); have HMm8 := Aside0.mk (show m8 ≤ W8.heap.size from Nat.le_of_eq hm_); clear ho0; clear hn_ hm_; replace HO15 := Aside0.mk (Kd.R_below (by (with_reducible repeat (first | apply Kd.R_alloc | apply Kd.R_drewN | apply Kd.R_drew)); exact HO15.out) hb); replace HO23 := Aside0.mk (Kd.S_below (by (with_reducible repeat (first | apply Kd.S_alloc | apply Kd.S_drewN | apply Kd.S_drew)); exact HO23.out) hb); replace HO31 := Aside0.mk (Kd.R_below (by (with_reducible repeat (first | apply Kd.R_alloc | apply Kd.R_drewN | apply Kd.R_drew)); exact HO31.out) hb); replace HB := Aside0.mk (show Below w.heap.size w _ from below_step bel hb); clear hb; have HO41 := Aside0.mk hF0; clear hF0; obtain ⟨Ao39, co40, eo_⟩ := Kd.S_slice HO41.out; subst eo_))
      have H := HN.out
      clear HN
      replace H := Option.bind_eq_some_iff.mp H
      obtain ⟨t45, Af460, H⟩ := H
      (try dsimp only at H)
      have Af46 := Aside0.mk Af460
      clear Af460
      cases t45 with
      | false =>
        replace H : some false = some r := by rw [if_neg (by decide)] at H; exact H
        have HE := Aside0.mk (Option.some.inj H)
        clear H
        go_wp2_with (first | (go_at_call 16; (with_reducible refine (laws_eqContestS.calls k _ _ t19 _ _ t37 false _ ?side1 ?side2 ?side3 ?side4 Af46.out).mono ?_); (case side1 => exact (Kd.S_reads' (by (with_reducible repeat (first | apply Kd.S_alloc | apply Kd.S_drewN | apply Kd.S_drew)); exact HO23.out)).2.2); (case side2 => exact (Kd.S_reads' HO23.out).2.1); (case side3 => exact (Kd.S_reads' (by (with_reducible repeat (first | apply Kd.S_alloc | apply Kd.S_drewN | apply Kd.S_drew)); exact HO41.out)).2.2); (case side4 => exact (Kd.S_reads' HO41.out).2.1); rintro e W9 ⟨rfl, hb⟩; replace HO15 := Aside0.mk (Kd.R_below (by (with_reducible repeat (first | apply Kd.R_alloc | apply Kd.R_drewN | apply Kd.R_drew)); exact HO15.out) hb); replace HO23 := Aside0.mk (Kd.S_below (by (with_reducible repeat (first | apply Kd.S_alloc | apply Kd.S_drewN | apply Kd.S_drew)); exact HO23.out) hb); replace HO31 := Aside0.mk (Kd.R_below (by (with_reducible repeat (first | apply Kd.R_alloc | apply Kd.R_drewN | apply Kd.R_drew)); exact HO31.out) hb); replace HMm8 := Aside0.mk (Nat.le_trans HMm8.out (below_size hb)); replace HB := Aside0.mk (show Below w.heap.size w _ from below_step bel hb); clear hb))
        go_ret
        exact ⟨congrArg (fun b_ => Ending.returned (.bool b_)) HE.out, bel⟩
      | true =>
        rw [if_pos rfl] at H
        have HN := Aside0.mk H
        clear H
        go_wp2_with (first | (go_at_call 16; (with_reducible refine (laws_eqContestS.calls k _ _ t19 _ _ t37 true _ ?side1 ?side2 ?side3 ?side4 Af46.out).mono ?_); (case side1 => exact (Kd.S_reads' (by (with_reducible repeat (first | apply Kd.S_alloc | apply Kd.S_drewN | apply Kd.S_drew)); exact HO23.out)).2.2); (case side2 => exact (Kd.S_reads' HO23.out).2.1); (case side3 => exact (Kd.S_reads' (by (with_reducible repeat (first | apply Kd.S_alloc | apply Kd.S_drewN | apply Kd.S_drew)); exact HO41.out)).2.2); (case side4 => exact (Kd.S_reads' HO41.out).2.1); rintro e W9 ⟨rfl, hb⟩; replace HO15 := Aside0.mk (Kd.R_below (by (with_reducible repeat (first | apply Kd.R_alloc | apply Kd.R_drewN | apply Kd.R_drew)); exact HO15.out) hb); replace HO23 := Aside0.mk (Kd.S_below (by (with_reducible repeat (first | apply Kd.S_alloc | apply Kd.S_drewN | apply Kd.S_drew)); exact HO23.out) hb); replace HO31 := Aside0.mk (Kd.R_below (by (with_reducible repeat (first | apply Kd.R_alloc | apply Kd.R_drewN | apply Kd.R_drew)); exact HO31.out) hb); replace HMm8 := Aside0.mk (Nat.le_trans HMm8.out (below_size hb)); replace HB := Aside0.mk (show Below w.heap.size w _ from below_step bel hb); clear hb))
        have H := HN.out
        clear HN
        replace H := Option.bind_eq_some_iff.mp H
        obtain ⟨⟨t47, t48⟩, Af490, H⟩ := H
        (try dsimp only at H)
        have Af49 := Aside0.mk Af490
        clear Af490
        by_cases c12_ : t47 < 0
        · rw [if_pos c12_] at H
          have c12_b : decide (t47 < 0) = true := decide_eq_true c12_
          clear c12_
          have HE := Aside0.mk (Option.some.inj H)
          clear H
          go_wp2_with (first | (go_at_call 29; (with_reducible refine (laws_markContestS.calls k (fun k_ => n4 ≤ k_ ∧ k_ < m4) _ t19 1 t47 t48 w _ ?sideB ?side1 Af49.out).mono ?_); (case sideB => exact bel); (case side1 => exact (Kd.S_mono (ok := fun k_ => (n4 ≤ k_ ∧ k_ < m4) ∧ True) (by (with_reducible repeat (first | apply Kd.S_alloc | apply Kd.S_drewN | apply Kd.S_drew)); exact HO23.out) (fun _ h_ => h_.1))); rintro e W11 ⟨rfl, hR0, hb, hk⟩; replace HO15 := Aside0.mk (Kd.R_step (by (with_reducible repeat (first | apply Kd.R_alloc | apply Kd.R_drewN | apply Kd.R_drew)); exact HO15.out) (fun k_ ho_ hl_ => hk.2 k_ hl_ (fun hp_ => by have o_ := ho_.1; omega))); replace HO31 := Aside0.mk (Kd.R_step (by (with_reducible repeat (first | apply Kd.R_alloc | apply Kd.R_drewN | apply Kd.R_drew)); exact HO31.out) (fun k_ ho_ hl_ => hk.2 k_ hl_ (fun hp_ => by have o_ := ho_.1; omega))); replace HB := Aside0.mk hb; replace HMm8 := Aside0.mk (Nat.le_trans HMm8.out hk.1); clear hb hk))
          go_ret
          exact ⟨congrArg (fun b_ => Ending.returned (.bool b_)) HE.out, bel⟩
        · rw [if_neg c12_] at H
          have c12_b : decide (t47 < 0) = false := decide_eq_false c12_
          clear c12_
          have HN := Aside0.mk H
          clear H
          go_wp2_with (first | (go_at_call 29; (with_reducible refine (laws_markContestS.calls k (fun k_ => n4 ≤ k_ ∧ k_ < m4) _ t19 1 t47 t48 w _ ?sideB ?side1 Af49.out).mono ?_); (case sideB => exact bel); (case side1 => exact (Kd.S_mono (ok := fun k_ => (n4 ≤ k_ ∧ k_ < m4) ∧ True) (by (with_reducible repeat (first | apply Kd.S_alloc | apply Kd.S_drewN | apply Kd.S_drew)); exact HO23.out) (fun _ h_ => h_.1))); rintro e W11 ⟨rfl, hR0, hb, hk⟩; replace HO15 := Aside0.mk (Kd.R_step (by (with_reducible repeat (first | apply Kd.R_alloc | apply Kd.R_drewN | apply Kd.R_drew)); exact HO15.out) (fun k_ ho_ hl_ => hk.2 k_ hl_ (fun hp_ => by have o_ := ho_.1; omega))); replace HO31 := Aside0.mk (Kd.R_step (by (with_reducible repeat (first | apply Kd.R_alloc | apply Kd.R_drewN | apply Kd.R_drew)); exact HO31.out) (fun k_ ho_ hl_ => hk.2 k_ hl_ (fun hp_ => by have o_ := ho_.1; omega))); replace HB := Aside0.mk hb; replace HMm8 := Aside0.mk (Nat.le_trans HMm8.out hk.1); clear hb hk))
          have H := HN.out
          clear HN
          replace H := Option.bind_eq_some_iff.mp H
          obtain ⟨t50, Af510, H⟩ := H
          (try dsimp only at H)
          have Af51 := Aside0.mk Af510
          clear Af510
          cases t50 with
          | false =>
            replace H : some false = some r := by rw [if_neg (by decide)] at H; exact H
            have HE := Aside0.mk (Option.some.inj H)
            clear H
            go_wp2_with (first | (go_at_call 28; (with_reducible refine (laws_eqIntS.calls k _ _ t27 _ _ t11 false _ ?side1 ?side2 ?side3 ?side4 Af51.out).mono ?_); (case side1 => exact (Kd.R_reads' (by (with_reducible repeat (first | apply Kd.R_alloc | apply Kd.R_drewN | apply Kd.R_drew)); exact HO31.out)).2.2); (case side2 => exact (Kd.R_reads' HO31.out).2.1); (case side3 => exact (Kd.R_reads' (by (with_reducible repeat (first | apply Kd.R_alloc | apply Kd.R_drewN | apply Kd.R_drew)); exact HO15.out)).2.2); (case side4 => exact (Kd.R_reads' HO15.out).2.1); rintro e w' ⟨rfl, ⟨nd, rfl⟩⟩))
            go_ret
            exact ⟨congrArg (fun b_ => Ending.returned (.bool b_)) HE.out, bel⟩
          | true =>
            rw [if_pos rfl] at H
            have HN := Aside0.mk H
            clear H
            go_wp2_with (first | (go_at_call 28; (with_reducible refine (laws_eqIntS.calls k _ _ t27 _ _ t11 true _ ?side1 ?side2 ?side3 ?side4 Af51.out).mono ?_); (case side1 => exact (Kd.R_reads' (by (with_reducible repeat (first | apply Kd.R_alloc | apply Kd.R_drewN | apply Kd.R_drew)); exact HO31.out)).2.2); (case side2 => exact (Kd.R_reads' HO31.out).2.1); (case side3 => exact (Kd.R_reads' (by (with_reducible repeat (first | apply Kd.R_alloc | apply Kd.R_drewN | apply Kd.R_drew)); exact HO15.out)).2.2); (case side4 => exact (Kd.R_reads' HO15.out).2.1); rintro e w' ⟨rfl, ⟨nd, rfl⟩⟩))
            have H := HN.out
            clear HN
            replace H := Option.bind_eq_some_iff.mp H
            obtain ⟨⟨t52, t53⟩, Af540, H⟩ := H
            (try dsimp only at H)
            have Af54 := Aside0.mk Af540
            clear Af540
            have HN := Aside0.mk H
            clear H
            go_wp2_with (first | (go_at_call 30; (with_reducible refine (laws_markIntS.calls k (fun k_ => n5 ≤ k_ ∧ k_ < m5) _ t27 1 t52 t53 w _ ?sideB ?side1 Af54.out).mono ?_); (case sideB => exact bel); (case side1 => exact (Kd.R_mono (ok := fun k_ => (n5 ≤ k_ ∧ k_ < m5) ∧ True) (by (with_reducible repeat (first | apply Kd.R_alloc | apply Kd.R_drewN | apply Kd.R_drew)); exact HO31.out) (fun _ h_ => h_.1))); rintro e W15 ⟨rfl, hR0, hb, hk⟩; replace HO15 := Aside0.mk (Kd.R_step (by (with_reducible repeat (first | apply Kd.R_alloc | apply Kd.R_drewN | apply Kd.R_drew)); exact HO15.out) (fun k_ ho_ hl_ => hk.2 k_ hl_ (fun hp_ => by have o_ := ho_.1; omega))); have le_ := (Kd.R_reads' hR0).1; rw [le_] at hR0; rw [le_]; clear le_; replace HO31 := Aside0.mk hR0; replace HB := Aside0.mk hb; replace HMm8 := Aside0.mk (Nat.le_trans HMm8.out hk.1); clear hb hk))
            have H := HN.out
            clear HN
            replace H := Option.bind_eq_some_iff.mp H
            obtain ⟨t55, Af560, H⟩ := H
            (try dsimp only at H)
            have Af56 := Aside0.mk Af560
            clear Af560
            by_cases c17_ : t55 < 0
            · rw [if_pos c17_] at H
              have c17_b : decide (t55 < 0) = true := decide_eq_true c17_
              clear c17_
              have HE := Aside0.mk (Option.some.inj H)
              clear H
              go_wp2_with (first | (go_at_call 31; (with_reducible refine (laws_heldIntS.calls k _ _ t53 1 t55 _ ?side1 ?side2 Af56.out).mono ?_); (case side1 => exact (Kd.R_reads' (by (with_reducible repeat (first | apply Kd.R_alloc | apply Kd.R_drewN | apply Kd.R_drew)); exact HO31.out)).2.2); (case side2 => exact (Kd.R_reads' HO31.out).2.1); rintro e w' ⟨rfl, ⟨nd, rfl⟩⟩))
              go_ret
              exact ⟨congrArg (fun b_ => Ending.returned (.bool b_)) HE.out, bel⟩
            · rw [if_neg c17_] at H
              have c17_b : decide (t55 < 0) = false := decide_eq_false c17_
              clear c17_
              by_cases c18_ : t55 = t52
              rotate_left
              · rw [if_neg c18_] at H
                have c18_b : (t55 == t52) = false := beq_eq_false_iff_ne.mpr c18_
                have c18_d : (t55 != t52) = true := bne_iff_ne.mpr c18_
                clear c18_
                have HE := Aside0.mk (Option.some.inj H)
                clear H
                go_wp2_with (first | (go_at_call 31; (with_reducible refine (laws_heldIntS.calls k _ _ t53 1 t55 _ ?side1 ?side2 Af56.out).mono ?_); (case side1 => exact (Kd.R_reads' (by (with_reducible repeat (first | apply Kd.R_alloc | apply Kd.R_drewN | apply Kd.R_drew)); exact HO31.out)).2.2); (case side2 => exact (Kd.R_reads' HO31.out).2.1); rintro e w' ⟨rfl, ⟨nd, rfl⟩⟩))
                go_ret
                exact ⟨congrArg (fun b_ => Ending.returned (.bool b_)) HE.out, bel⟩
              · rw [if_pos c18_] at H
                have c18_b : (t55 == t52) = true := beq_iff_eq.mpr c18_
                have c18_d : (t55 != t52) = false := bne_eq_false_iff_eq.mpr c18_
                clear c18_
                replace H := Option.bind_eq_some_iff.mp H
                obtain ⟨t57, Af640, H⟩ := H
                (try dsimp only at H)
                have Af64 := Aside0.mk Af640
                clear Af640
                have HN := Aside0.mk H
                clear H
                go_wp2_with (first | (go_at_call 31; (with_reducible refine (laws_heldIntS.calls k _ _ t53 1 t55 _ ?side1 ?side2 Af56.out).mono ?_); (case side1 => exact (Kd.R_reads' (by (with_reducible repeat (first | apply Kd.R_alloc | apply Kd.R_drewN | apply Kd.R_drew)); exact HO31.out)).2.2); (case side2 => exact (Kd.R_reads' HO31.out).2.1); rintro e w' ⟨rfl, ⟨nd, rfl⟩⟩) | ((with_reducible refine gate_callee (f := 14) rfl ?_); refine goesL_ (some 68) rfl rfl Try.func14 (by kernel_rfl) rfl #[.slice A1 l1.length c1] rfl ga ?_; (with_reducible refine (laws_toContestS.calls k _ _ l1 t57 _ ?side1 ?side2 Af64.out).mono ?_); (case side1 => exact ck (Kd.C_below HR1.out HB.out)); (case side2 => exact HC1.out); rintro e W19 ⟨v58, rfl, ho0, hb⟩; refine ⟨_, rfl, ?_⟩; obtain ⟨n19, m19, hn_, hm_, hF0⟩ := mk_rowS2 ho0 bel; have ord19 : m8 ≤ n19 := Nat.le_trans HMm8.out (Nat.le_of_eq hn_.symm); have nm19 : n19 ≤ m19 := Nat.le_trans (Nat.le_of_eq hn_) (Nat.le_trans (below_size hb) (Nat.le_of_eq hm_.symm)); have HMm19 := Aside0.mk (show m19 ≤ W19.heap.size from Nat.le_of_eq hm_); clear ho0; clear hn_ hm_; replace HO15 := Aside0.mk (Kd.R_below (by (with_reducible repeat (first | apply Kd.R_alloc | apply Kd.R_drewN | apply Kd.R_drew)); exact HO15.out) hb); replace HO31 := Aside0.mk (Kd.R_below (by (with_reducible repeat (first | apply Kd.R_alloc | apply Kd.R_drewN | apply Kd.R_drew)); exact HO31.out) hb); replace HB := Aside0.mk (show Below w.heap.size w _ from below_step bel hb); clear hb; have HO61 := Aside0.mk hF0; clear hF0; obtain ⟨Ao59, co60, eo_⟩ := Kd.S_slice HO61.out; subst eo_))
                have H := HN.out
                clear HN
                replace H := Option.bind_eq_some_iff.mp H
                obtain ⟨t65, Af720, H⟩ := H
                (try dsimp only at H)
                have Af72 := Aside0.mk Af720
                clear Af720
                have HN := Aside0.mk H
                clear H
                go_wp2_with (first | (go_at_call 24; (with_reducible refine (impl_SwapGains.calls k a0 _ _ t57 a2 a3 t65 _ ?side1 ?side2 Af72.out).mono ?_); (case side1 => exact (Kd.S_reads' (by (with_reducible repeat (first | apply Kd.S_alloc | apply Kd.S_drewN | apply Kd.S_drew)); exact HO61.out)).2.2); (case side2 => exact (Kd.S_reads' HO61.out).2.1); rintro e W20 ⟨v66, rfl, ho0, hb⟩; obtain ⟨n20, m20, hn_, hm_, hF0⟩ := mk_rowR2 ho0 bel; have ord20 : m19 ≤ n20 := Nat.le_trans HMm19.out (Nat.le_of_eq hn_.symm); have nm20 : n20 ≤ m20 := Nat.le_trans (Nat.le_of_eq hn_) (Nat.le_trans (below_size hb) (Nat.le_of_eq hm_.symm)); have HMm20 := Aside0.mk (show m20 ≤ W20.heap.size from Nat.le_of_eq hm_); clear ho0; clear hn_ hm_; replace HO15 := Aside0.mk (Kd.R_below (by (with_reducible repeat (first | apply Kd.R_alloc | apply Kd.R_drewN | apply Kd.R_drew)); exact HO15.out) hb); replace HO31 := Aside0.mk (Kd.R_below (by (with_reducible repeat (first | apply Kd.R_alloc | apply Kd.R_drewN | apply Kd.R_drew)); exact HO31.out) hb); replace HB := Aside0.mk (show Below w.heap.size w _ from below_step bel hb); clear hb; have HO69 := Aside0.mk hF0; clear hF0; obtain ⟨Ao67, co68, eo_⟩ := Kd.R_slice HO69.out; subst eo_))
                have H := HN.out
                clear HN
                replace H := Option.bind_eq_some_iff.mp H
                obtain ⟨t73, Af740, H⟩ := H
                (try dsimp only at H)
                have Af74 := Aside0.mk Af740
                clear Af740
                cases t73 with
                | false =>
                  replace H : some false = some r := by rw [if_neg (by decide)] at H; exact H
                  have HE := Aside0.mk (Option.some.inj H)
                  clear H
                  go_wp2_with (first | (go_at_call 28; (with_reducible refine (laws_eqIntS.calls k _ _ t65 _ _ t11 false _ ?side1 ?side2 ?side3 ?side4 Af74.out).mono ?_); (case side1 => exact (Kd.R_reads' (by (with_reducible repeat (first | apply Kd.R_alloc | apply Kd.R_drewN | apply Kd.R_drew)); exact HO69.out)).2.2); (case side2 => exact (Kd.R_reads' HO69.out).2.1); (case side3 => exact (Kd.R_reads' (by (with_reducible repeat (first | apply Kd.R_alloc | apply Kd.R_drewN | apply Kd.R_drew)); exact HO15.out)).2.2); (case side4 => exact (Kd.R_reads' HO15.out).2.1); rintro e w' ⟨rfl, ⟨nd, rfl⟩⟩))
                  go_ret
                  exact ⟨congrArg (fun b_ => Ending.returned (.bool b_)) HE.out, bel⟩
                | true =>
                  rw [if_pos rfl] at H
                  have HN := Aside0.mk H
                  clear H
                  go_wp2_with (first | (go_at_call 28; (with_reducible refine (laws_eqIntS.calls k _ _ t65 _ _ t11 true _ ?side1 ?side2 ?side3 ?side4 Af74.out).mono ?_); (case side1 => exact (Kd.R_reads' (by (with_reducible repeat (first | apply Kd.R_alloc | apply Kd.R_drewN | apply Kd.R_drew)); exact HO69.out)).2.2); (case side2 => exact (Kd.R_reads' HO69.out).2.1); (case side3 => exact (Kd.R_reads' (by (with_reducible repeat (first | apply Kd.R_alloc | apply Kd.R_drewN | apply Kd.R_drew)); exact HO15.out)).2.2); (case side4 => exact (Kd.R_reads' HO15.out).2.1); rintro e w' ⟨rfl, ⟨nd, rfl⟩⟩))
                  have H := HN.out
                  clear HN
                  replace H := Option.bind_eq_some_iff.mp H
                  obtain ⟨t75, Af760, H⟩ := H
                  (try dsimp only at H)
                  have Af76 := Aside0.mk Af760
                  clear Af760
                  by_cases c24_ : t75 < 0
                  · rw [if_pos c24_] at H
                    have c24_b : decide (t75 < 0) = true := decide_eq_true c24_
                    clear c24_
                    have HE := Aside0.mk (Option.some.inj H)
                    clear H
                    go_wp2_with (first | (go_at_call 31; (with_reducible refine (laws_heldIntS.calls k _ _ t53 1 t75 _ ?side1 ?side2 Af76.out).mono ?_); (case side1 => exact (Kd.R_reads' (by (with_reducible repeat (first | apply Kd.R_alloc | apply Kd.R_drewN | apply Kd.R_drew)); exact HO31.out)).2.2); (case side2 => exact (Kd.R_reads' HO31.out).2.1); rintro e w' ⟨rfl, ⟨nd, rfl⟩⟩))
                    go_ret
                    exact ⟨congrArg (fun b_ => Ending.returned (.bool b_)) HE.out, bel⟩
                  · rw [if_neg c24_] at H
                    have c24_b : decide (t75 < 0) = false := decide_eq_false c24_
                    clear c24_
                    by_cases c25_ : t75 = t52
                    rotate_left
                    · rw [if_neg c25_] at H
                      have c25_b : (t75 == t52) = false := beq_eq_false_iff_ne.mpr c25_
                      have c25_d : (t75 != t52) = true := bne_iff_ne.mpr c25_
                      clear c25_
                      have HE := Aside0.mk (Option.some.inj H)
                      clear H
                      go_wp2_with (first | (go_at_call 31; (with_reducible refine (laws_heldIntS.calls k _ _ t53 1 t75 _ ?side1 ?side2 Af76.out).mono ?_); (case side1 => exact (Kd.R_reads' (by (with_reducible repeat (first | apply Kd.R_alloc | apply Kd.R_drewN | apply Kd.R_drew)); exact HO31.out)).2.2); (case side2 => exact (Kd.R_reads' HO31.out).2.1); rintro e w' ⟨rfl, ⟨nd, rfl⟩⟩))
                      go_ret
                      exact ⟨congrArg (fun b_ => Ending.returned (.bool b_)) HE.out, bel⟩
                    · rw [if_pos c25_] at H
                      have c25_b : (t75 == t52) = true := beq_iff_eq.mpr c25_
                      have c25_d : (t75 != t52) = false := bne_eq_false_iff_eq.mpr c25_
                      clear c25_
                      have HE := Aside0.mk (Option.some.inj H)
                      clear H
                      go_wp2_with (first | (go_at_call 31; (with_reducible refine (laws_heldIntS.calls k _ _ t53 1 t75 _ ?side1 ?side2 Af76.out).mono ?_); (case side1 => exact (Kd.R_reads' (by (with_reducible repeat (first | apply Kd.R_alloc | apply Kd.R_drewN | apply Kd.R_drew)); exact HO31.out)).2.2); (case side2 => exact (Kd.R_reads' HO31.out).2.1); rintro e w' ⟨rfl, ⟨nd, rfl⟩⟩))
                      go_ret
                      exact ⟨congrArg (fun b_ => Ending.returned (.bool b_)) HE.out, bel⟩

end Go.Proofs.Ytaopcamaceddnaa.X
