-- Written by a program of this session (wip/xp.py, over the kit's print) out of the translation: functions, and the walks that show them.
import Derived.Test.YtpacmpppiphfjaaX0
import Derived.Test.YtpacmpppiphfjaaX11
import Derived.Test.YtpacmpppiphfjaaX13
import Derived.Test.YtpacmpppiphfjaaX15
import Derived.Test.YtpacmpppiphfjaaX32
import Derived.Test.YtpacmpppiphfjaaX33
namespace Go.Proofs.Ytpacmpppiphfjaa.X
open Go.RowKit Go.Proofs.YtpacmpppiphfjaaW.PrintWords Go.Proofs.YtpacmpppiphfjaaW.PrintLast Go.Proofs.YtpacmpppiphfjaaW.PrintMore
attribute [local go_sem] max2_int min2_int max_two min_two max_three min_three max_four min_four   -- for this text's walks alone
set_option linter.unusedVariables false
set_option linter.unusedSimpArgs false

/-! ### laws_FnExactWaysToWin: function 13 -/
def laws_FnExactWaysToWin.f (k : Nat) (a0_0 : Int) (l0_1 : List Int) (a1 : Int) : Option (Bool) := (laws_szCup.f a0_0 l0_1 1048576).bind fun t549 => (if t549 < 0 then (some true) else ((laws_toCup.f k a0_0 l0_1).bind fun bt550 => ((spec_WaysToWin.f k bt550.1 bt550.2 a1).bind fun t554 => ((laws_toCup.f k a0_0 l0_1).bind fun bt555 => ((impl_WaysToWin.f k bt555.1 bt555.2 a1).bind fun t560 => (if t560 = t554 then ((laws_toCup.f k a0_0 l0_1).bind fun bt561 => ((laws_eqCup.f k bt555.1 bt555.2 bt561.1 bt561.2).bind fun t565 => (if t565 = true then (some true) else (some false)))) else (some false)))))))
theorem laws_FnExactWaysToWin.mono : ∀ a0 a1 a2 k, LeO (laws_FnExactWaysToWin.f k a0 a1 a2) (laws_FnExactWaysToWin.f (k + 1) a0 a1 a2) := by
  intro a0 a1 a2 k
  unfold laws_FnExactWaysToWin.f
  repeat' first
      | (with_reducible exact impl_WaysToWin.mono _ _ _ _)
      | (with_reducible exact laws_eqCup.mono _ _ _ _ _)
      | (with_reducible exact laws_toCup.mono _ _ _)
      | (with_reducible exact spec_WaysToWin.mono _ _ _ _)
      | (with_reducible exact LeO.refl _)
      | (with_reducible exact LeO.none _)
      | (with_reducible refine LeO.ite ?_ ?_)
      | (with_reducible refine LeO.bind ?_ (fun _ => ?_))
      | exact impl_WaysToWin.mono _ _ _ _
      | exact laws_eqCup.mono _ _ _ _ _
      | exact laws_toCup.mono _ _ _
      | exact spec_WaysToWin.mono _ _ _ _
      | exact LeO.none _
      | refine LeO.ite ?_ ?_
      | refine LeO.bind ?_ (fun _ => ?_)
set_option maxHeartbeats 8000000 in
set_option maxRecDepth 100000 in
theorem laws_FnExactWaysToWin.calls (k : Nat) (a0_0 : Int) (A0_1 : Option Addr) (c0_1 : Nat) (l0_1 : List Int) (a1 : Int) (r : Bool) (w : World) (hr0_1 : Kd.C (Kd.int .i64) w A0_1 l0_1.length l0_1) (hc0_1 : l0_1.length ≤ c0_1) (h : laws_FnExactWaysToWin.f k a0_0 l0_1 a1 = some r) :
    Calls Try.prog 13 #[.agg #[.int .i64 a0_0, .slice A0_1 l0_1.length c0_1], .int .i64 a1] w fun e w' => e = .returned (.bool r) ∧ Below w.heap.size w w' := by
  have hu32 := Try.underlying32
  have hu36 := Try.underlying36
  have HR0_1 := Aside0.mk hr0_1
  have HC0_1 := Aside0.mk hc0_1
  clear hr0_1 hc0_1
  have HB := Aside0.mk (Below.refl w.heap.size w)
  have H : ((laws_szCup.f a0_0 l0_1 1048576).bind fun t549 => (if t549 < 0 then (some true) else ((laws_toCup.f k a0_0 l0_1).bind fun bt550 => ((spec_WaysToWin.f k bt550.1 bt550.2 a1).bind fun t554 => ((laws_toCup.f k a0_0 l0_1).bind fun bt555 => ((impl_WaysToWin.f k bt555.1 bt555.2 a1).bind fun t560 => (if t560 = t554 then ((laws_toCup.f k a0_0 l0_1).bind fun bt561 => ((laws_eqCup.f k bt555.1 bt555.2 bt561.1 bt561.2).bind fun t565 => (if t565 = true then (some true) else (some false)))) else (some false)))))))) = some r := h
  clear h
  replace H := Option.bind_eq_some_iff.mp H
  obtain ⟨t549, A30, H⟩ := H
  replace H : (if t549 < 0 then (some true) else ((laws_toCup.f k a0_0 l0_1).bind fun bt550 => ((spec_WaysToWin.f k bt550.1 bt550.2 a1).bind fun t554 => ((laws_toCup.f k a0_0 l0_1).bind fun bt555 => ((impl_WaysToWin.f k bt555.1 bt555.2 a1).bind fun t560 => (if t560 = t554 then ((laws_toCup.f k a0_0 l0_1).bind fun bt561 => ((laws_eqCup.f k bt555.1 bt555.2 bt561.1 bt561.2).bind fun t565 => (if t565 = true then (some true) else (some false)))) else (some false))))))) = some r := H
  have A3 := Aside0.mk A30
  clear A30
  by_cases c4 : t549 < 0
  · rw [if_pos c4] at H
    have c4b0 : decide (t549 < 0) = true := decide_eq_true c4
    clear c4
    obtain rfl := Option.some.inj H
    go_enter Try.func13, Try.ntmps13
    go_wp2_with (first | ((with_reducible refine gate_dst (N := 2) rfl ?_); refine box_event ?hg (N := 2) ?hd (cs := #[.int .i64 a0_0, .slice A0_1 l0_1.length c0_1]) (t := 32) ?hr ?_; (case hd => rfl); (case hg => rfl); (case hr => first | (go_simp; done) | (go_simp; rfl)); intro gb548 hg w5 hbox hb; have BK548 := Aside0.mk (hbox); have GW548 := Aside0.mk ((bsz hg : w.heap.size ≤ gb548)); have GE548 := Aside0.mk ((bsz hg : w.heap.size ≤ gb548)); replace HB := Aside0.mk (below_step bel hb); clear hb hbox hg; obtain ⟨hcz6_0, hcz6_1, hfz6_0, hfz6_1⟩ := cf2 BK548.out) | ((with_reducible refine gate_callee (f := 27) rfl ?_); refine goesL_ (some 11) rfl rfl Try.func27 (by kernel_rfl) rfl #[.agg #[.int .i64 a0_0, .slice A0_1 l0_1.length c0_1], .int .i64 1048576] rfl ga ?_; (with_reducible refine (laws_szCup.calls a0_0 _ _ l0_1 1048576 t549 _ ?side1 ?side2 A3.out).mono ?_); (case side1 => exact ck (Kd.C_below HR0_1.out HB.out)); (case side2 => exact HC0_1.out); rintro e w7 ⟨rfl, hb⟩; refine ⟨_, rfl, ?_⟩; replace BK548 := Aside0.mk (bb BK548.out hb); replace HB := Aside0.mk (below_step bel hb); (try clear hb)))
    go_ret
    exact ⟨er, bel⟩
  · rw [if_neg c4] at H
    have c4b0 : decide (t549 < 0) = false := decide_eq_false c4
    clear c4
    replace H := Option.bind_eq_some_iff.mp H
    obtain ⟨⟨t550, t551⟩, A80, H⟩ := H
    replace H : ((spec_WaysToWin.f k t550 t551 a1).bind fun t554 => ((laws_toCup.f k a0_0 l0_1).bind fun bt555 => ((impl_WaysToWin.f k bt555.1 bt555.2 a1).bind fun t560 => (if t560 = t554 then ((laws_toCup.f k a0_0 l0_1).bind fun bt561 => ((laws_eqCup.f k bt555.1 bt555.2 bt561.1 bt561.2).bind fun t565 => (if t565 = true then (some true) else (some false)))) else (some false))))) = some r := H
    have A8 := Aside0.mk A80
    clear A80
    replace H := Option.bind_eq_some_iff.mp H
    obtain ⟨t554, A90, H⟩ := H
    replace H : ((laws_toCup.f k a0_0 l0_1).bind fun bt555 => ((impl_WaysToWin.f k bt555.1 bt555.2 a1).bind fun t560 => (if t560 = t554 then ((laws_toCup.f k a0_0 l0_1).bind fun bt561 => ((laws_eqCup.f k bt555.1 bt555.2 bt561.1 bt561.2).bind fun t565 => (if t565 = true then (some true) else (some false)))) else (some false)))) = some r := H
    have A9 := Aside0.mk A90
    clear A90
    replace H := Option.bind_eq_some_iff.mp H
    obtain ⟨⟨t555, t556⟩, A100, H⟩ := H
    replace H : ((impl_WaysToWin.f k t555 t556 a1).bind fun t560 => (if t560 = t554 then ((laws_toCup.f k a0_0 l0_1).bind fun bt561 => ((laws_eqCup.f k t555 t556 bt561.1 bt561.2).bind fun t565 => (if t565 = true then (some true) else (some false)))) else (some false))) = some r := H
    have A10 := Aside0.mk A100
    clear A100
    replace H := Option.bind_eq_some_iff.mp H
    obtain ⟨t560, A110, H⟩ := H
    replace H : (if t560 = t554 then ((laws_toCup.f k a0_0 l0_1).bind fun bt561 => ((laws_eqCup.f k t555 t556 bt561.1 bt561.2).bind fun t565 => (if t565 = true then (some true) else (some false)))) else (some false)) = some r := H
    have A11 := Aside0.mk A110
    clear A110
    by_cases c12 : t560 = t554
    · rw [if_pos c12] at H
      have c12b0 : (t560 == t554) = true := beq_iff_eq.mpr c12
      have c12b1 : (t560 != t554) = false := bne_eq_false_iff_eq.mpr c12
      clear c12
      replace H := Option.bind_eq_some_iff.mp H
      obtain ⟨⟨t561, t562⟩, A130, H⟩ := H
      replace H : ((laws_eqCup.f k t555 t556 t561 t562).bind fun t565 => (if t565 = true then (some true) else (some false))) = some r := H
      have A13 := Aside0.mk A130
      clear A130
      replace H := Option.bind_eq_some_iff.mp H
      obtain ⟨t565, A140, H⟩ := H
      replace H : (if t565 = true then (some true) else (some false)) = some r := H
      have A14 := Aside0.mk A140
      clear A140
      by_cases c15 : t565 = true
      · subst c15
        have H1 : (some true) = some r := by rw [if_pos rfl] at H; exact H
        clear H
        have H := H1
        clear H1
        obtain rfl := Option.some.inj H
        go_enter Try.func13, Try.ntmps13
        try go_wp2_with (first | ((with_reducible refine gate_dst (N := 2) rfl ?_); refine box_event ?hg (N := 2) ?hd (cs := #[.int .i64 a0_0, .slice A0_1 l0_1.length c0_1]) (t := 32) ?hr ?_; (case hd => rfl); (case hg => rfl); (case hr => first | (go_simp; done) | (go_simp; rfl)); intro gb548 hg w16 hbox hb; have BK548 := Aside0.mk (hbox); have GW548 := Aside0.mk ((bsz hg : w.heap.size ≤ gb548)); have GE548 := Aside0.mk ((bsz hg : w.heap.size ≤ gb548)); replace HB := Aside0.mk (below_step bel hb); clear hb hbox hg; obtain ⟨hcz17_0, hcz17_1, hfz17_0, hfz17_1⟩ := cf2 BK548.out) | ((with_reducible refine gate_callee (f := 27) rfl ?_); refine goesL_ (some 11) rfl rfl Try.func27 (by kernel_rfl) rfl #[.agg #[.int .i64 a0_0, .slice A0_1 l0_1.length c0_1], .int .i64 1048576] rfl ga ?_; (with_reducible refine (laws_szCup.calls a0_0 _ _ l0_1 1048576 t549 _ ?side1 ?side2 A3.out).mono ?_); (case side1 => exact ck (Kd.C_below HR0_1.out HB.out)); (case side2 => exact HC0_1.out); rintro e w18 ⟨rfl, hb⟩; refine ⟨_, rfl, ?_⟩; replace BK548 := Aside0.mk (bb BK548.out hb); replace HB := Aside0.mk (below_step bel hb); (try clear hb); obtain ⟨hcz19_0, hcz19_1, hfz19_0, hfz19_1⟩ := cf2 BK548.out) | ((with_reducible refine gate_callee (f := 29) rfl ?_); refine goesL_ (some 15) rfl rfl Try.func29 (by kernel_rfl) rfl #[.agg #[.int .i64 a0_0, .slice A0_1 l0_1.length c0_1]] rfl ga ?_; (with_reducible refine (laws_toCup.calls k a0_0 _ _ l0_1 t550 t551 _ ?side1 ?side2 A8.out).mono ?_); (case side1 => exact ck (Kd.C_below HR0_1.out HB.out)); (case side2 => exact HC0_1.out); rintro e w20 ⟨v552, rfl, ho0, hb⟩; refine ⟨_, rfl, ?_⟩; have HO553 := Aside0.mk (Kd.R_lower ho0 (below_size bel)); replace BK548 := Aside0.mk (bb BK548.out hb); replace HB := Aside0.mk (below_step bel hb); (try clear hb); (try clear ho0); obtain ⟨Ao21, co21, eo21⟩ := Kd.R_slice HO553.out; subst eo21) | ((with_reducible refine gate_callee (f := 42) rfl ?_); refine goesL_ (some 17) rfl rfl Try.func42 (by kernel_rfl) rfl #[.agg #[.int .i64 t550, .slice Ao21 t551.length co21], .int .i64 a1] rfl ga ?_; (with_reducible refine (spec_WaysToWin.calls k t550 _ _ t551 a1 t554 _ ?side1 ?side2 A9.out).mono ?_); (case side1 => exact ck (Kd.R_reads' HO553.out).2.2); (case side2 => exact (Kd.R_reads' HO553.out).2.1); rintro e w22 ⟨rfl, hb⟩; refine ⟨_, rfl, ?_⟩; replace HO553 := Aside0.mk (Kd.R_below (rk HO553.out) hb); replace BK548 := Aside0.mk (bb BK548.out hb); replace HB := Aside0.mk (below_step bel hb); (try clear hb); obtain ⟨hcz23_0, hcz23_1, hfz23_0, hfz23_1⟩ := cf2 BK548.out) | ((with_reducible refine gate_callee (f := 29) rfl ?_); refine goesL_ (some 19) rfl rfl Try.func29 (by kernel_rfl) rfl #[.agg #[.int .i64 a0_0, .slice A0_1 l0_1.length c0_1]] rfl ga ?_; (with_reducible refine (laws_toCup.calls k a0_0 _ _ l0_1 t555 t556 _ ?side1 ?side2 A10.out).mono ?_); (case side1 => exact ck (Kd.C_below HR0_1.out HB.out)); (case side2 => exact HC0_1.out); rintro e w24 ⟨v557, rfl, ho0, hb⟩; refine ⟨_, rfl, ?_⟩; have HO558 := Aside0.mk (Kd.R_lower (Kd.R_new' ho0 (Kd.R_lt (rk HO553.out))) (below_size bel)); replace HO553 := Aside0.mk (Kd.R_elder' (rk HO553.out) (Kd.R_base ho0) hb); replace BK548 := Aside0.mk (bb BK548.out hb); replace HB := Aside0.mk (below_step bel hb); (try clear hb); (try clear ho0)) | ((with_reducible refine gate_dst (N := 7) rfl ?_); refine box_event ?hg (N := 7) ?hd (cs := #[.int .i64 0, .slice none 0 0]) (t := 36) ?hr ?_; (case hd => rfl); (case hg => rfl); (case hr => first | (go_simp; done) | (go_simp; rfl)); intro gb559 hg w25 hbox hb; have BK559 := Aside0.mk (hbox); have GW559 := Aside0.mk ((bsz hg : w.heap.size ≤ gb559)); have GE559 := Aside0.mk ((bsz hg : w.heap.size ≤ gb559)); have NB548_559 := Aside0.mk ((nlt hg BK548.out : gb548 ≠ gb559)); have NB559_548 := Aside0.mk ((ngt hg BK548.out : gb559 ≠ gb548)); replace HO553 := Aside0.mk (Kd.R_below (rk HO553.out) hb); replace HO558 := Aside0.mk (Kd.R_below (rk HO558.out) hb); replace BK548 := Aside0.mk (bb BK548.out hb); replace HB := Aside0.mk (below_step bel hb); clear hb hbox hg; have hnb26 := NB559_548.out; have hnc26 := NB548_559.out; obtain ⟨hcz27_0, hcz27_1, hfz27_0, hfz27_1⟩ := cf2 BK559.out; obtain ⟨Ao28, co28, eo28⟩ := Kd.R_slice HO558.out; subst eo28) | ((with_reducible refine gate_callee (f := 43) rfl ?_); refine goesL_ (some 22) rfl rfl Try.func43 (by kernel_rfl) rfl #[.agg #[.int .i64 t555, .slice Ao28 t556.length co28], .int .i64 a1] rfl ga ?_; (with_reducible refine (impl_WaysToWin.calls k t555 _ _ t556 a1 t560 _ ?side1 ?side2 A11.out).mono ?_); (case side1 => refine (Kd.R_reads' (e := 3) (base := w.heap.size) (ok := fun k_ => (True ∧ some k_ ≠ (.slice Ao21 t551.length co21 : Value).ownBlock)) (n := t556.length) (c := co28) ?_).2.2; exact (by exact rk (Kd.R_mono (Kd.R_far (p := ⟨gb559, 1, none⟩) (Kd.R_far (p := ⟨gb559, 0, none⟩) (Kd.R_types HO558.out BK559.out (by decide)) (fun _ hk => hk.2) (.int .i64 t555)) (fun _ hk => hk.2) (.slice Ao28 t556.length co28)) (fun _ h_ => h_.1)))); (case side2 => exact (Kd.R_reads' HO558.out).2.1); rintro e w29 ⟨rfl, hb⟩; refine ⟨_, rfl, ?_⟩; replace HO553 := Aside0.mk (Kd.R_below (by exact rk (Kd.R_mono (Kd.R_far (p := ⟨gb559, 1, none⟩) (Kd.R_far (p := ⟨gb559, 0, none⟩) (Kd.R_types HO553.out BK559.out (by decide)) (fun _ hk => hk.2) (.int .i64 t555)) (fun _ hk => hk.2) (.slice Ao28 t556.length co28)) (fun _ h_ => h_.1))) hb); replace HO558 := Aside0.mk (Kd.R_below (by exact rk (Kd.R_mono (Kd.R_far (p := ⟨gb559, 1, none⟩) (Kd.R_far (p := ⟨gb559, 0, none⟩) (Kd.R_types HO558.out BK559.out (by decide)) (fun _ hk => hk.2) (.int .i64 t555)) (fun _ hk => hk.2) (.slice Ao28 t556.length co28)) (fun _ h_ => h_.1))) hb); replace BK548 := Aside0.mk (bb BK548.out hb); replace BK559 := Aside0.mk (blk_below (g := gb559) (o := .cells #[.int .i64 t555, .slice Ao28 t556.length co28] 36 (0, 0)) (by (with_reducible repeat (first | refine blk_drewN ?_ _ | refine blk_drew ?_ | refine blk_alloc ?_ _)); refine blk_put (cs := #[.int .i64 t555, .slice none 0 0]) ?_ 1 _ rfl; (with_reducible repeat (first | refine blk_drewN ?_ _ | refine blk_drew ?_ | refine blk_alloc ?_ _)); refine blk_put (cs := #[.int .i64 0, .slice none 0 0]) ?_ 0 _ rfl; (with_reducible repeat (first | refine blk_drewN ?_ _ | refine blk_drew ?_ | refine blk_alloc ?_ _)); exact BK559.out) hb); replace HB := Aside0.mk (below_step bel hb); (try clear hb)))
        replace HO553 := Aside0.mk (Kd.R_drew HO553.out)
        replace HO558 := Aside0.mk (Kd.R_drew HO558.out)
        replace BK548 := Aside0.mk (blk_drew BK548.out)
        replace BK559 := Aside0.mk (blk_drew BK559.out)
        replace HB := Aside0.mk (below_drew1 HB.out)
        refine start_ (n := 5) (S := fun w' => w'.cell? ⟨gb559, 0, none⟩ = some (.int .i64 t555) ∧ w'.cell? ⟨gb559, 1, none⟩ = some (.slice Ao28 t556.length co28) ∧ w'.cell? ⟨gb548, 0, none⟩ = some (.int .i64 a0_0) ∧ w'.cell? ⟨gb548, 1, none⟩ = some (.slice A0_1 l0_1.length c0_1)) (ds := []) #[false, false, false, false, false] (by kernel_rfl) rfl rfl ⟨(blk_cell BK559.out 0).trans rfl, (blk_cell BK559.out 1).trans rfl, (blk_cell BK548.out 0).trans rfl, (blk_cell BK548.out 1).trans rfl⟩ (fun hHeld => ?_)
        generalize w29.drew = w30 at HO553 HO558 BK548 BK559 HB hHeld ⊢
        refine take_ (i := 0) (N := some 26) (v := ?_) (a' := ?_) #[true, false, false, false, false] rfl rfl (by kernel_rfl) (fun _ _ _ h => h) (Or.inl ⟨by rfl, ?_⟩) hHeld ?_ ?_
        rotate_left
        · rintro w' ⟨s0, s1, s2, s3⟩
          go_simp
          with_reducible rfl
        rotate_left
        · simp only [Act.put, List.setIfInBounds_toArray, List.set_cons_zero, List.set_cons_succ, i64_w, i32_w]
          rfl
        refine take_ (i := 1) (N := some 27) (v := ?_) (a' := ?_) #[true, true, false, false, false] rfl rfl (by kernel_rfl) (fun _ _ _ h => h) (Or.inl ⟨by rfl, ?_⟩) hHeld ?_ ?_
        rotate_left
        · rintro w' ⟨s0, s1, s2, s3⟩
          go_simp
          with_reducible rfl
        rotate_left
        · simp only [Act.put, List.setIfInBounds_toArray, List.set_cons_zero, List.set_cons_succ, i64_w, i32_w]
          rfl
        refine one_ (i := 2) (N := some 28) #[true, true, true, false, false] rfl rfl (by kernel_rfl) (by decide) (fun K hK => ?_)
        refine goes_ Try.func29 (by kernel_rfl) rfl #[.agg #[.int .i64 a0_0, .slice A0_1 l0_1.length c0_1]] (by rfl) rfl rfl ga ?_
        with_reducible refine (laws_toCup.calls k a0_0 _ _ l0_1 t561 t562 _ ?side1 ?side2 A13.out).mono ?_
        (case side1 => exact ck (Kd.C_below HR0_1.out HB.out))
        (case side2 => exact HC0_1.out)
        rintro e w31 ⟨v563, rfl, ho0, hb⟩
        refine ⟨_, rfl, ?_⟩
        have HO564 := Aside0.mk (Kd.R_lower (Kd.R_new' (Kd.R_new' ho0 (Kd.R_lt (rk HO553.out))) (Kd.R_lt (rk HO558.out))) (below_size bel))
        replace HO553 := Aside0.mk (Kd.R_elder' (rk HO553.out) (Kd.R_base ho0) hb)
        replace HO558 := Aside0.mk (Kd.R_elder' (rk HO558.out) (Kd.R_base ho0) hb)
        replace BK548 := Aside0.mk (bb BK548.out hb)
        replace BK559 := Aside0.mk (bb BK559.out hb)
        replace HB := Aside0.mk (below_step bel hb)
        (try clear hb)
        (try clear hb2)
        (try clear hk)
        (try clear hi)
        (try clear ho0)
        obtain ⟨Ao32, co32, eo32⟩ := Kd.R_slice HO564.out
        (first | subst eo32 | (injection eo32 with f1_ f2_ f3_; have f4_ := f1_.symm; have f5_ := f3_.symm; clear f1_ f2_ f3_; subst f4_; subst f5_))
        refine hK.out _ _ ⟨(blk_cell BK559.out 0).trans rfl, (blk_cell BK559.out 1).trans rfl, (blk_cell BK548.out 0).trans rfl, (blk_cell BK548.out 1).trans rfl⟩ (fun hHeld => ?_)
        clear hK K
        refine norm_ (a' := ?_) ?_ ?_
        rotate_left
        · show Act.put _ (some 28) _ = _
          simp only [Act.put, List.setIfInBounds_toArray, List.set_cons_zero, List.set_cons_succ, i64_w, i32_w]
          rfl
        refine one_ (i := 3) (N := some 29) #[true, true, true, true, false] rfl rfl (by kernel_rfl) (by decide) (fun K hK => ?_)
        refine goes_ Try.func31 (by kernel_rfl) rfl #[.agg #[.int .i64 t555, .slice Ao28 t556.length co28], .agg #[.int .i64 t561, .slice Ao32 t562.length co32]] (by rfl) rfl rfl ga ?_
        with_reducible refine (laws_eqCup.calls k t555 _ _ t556 t561 _ _ t562 true _ ?side1 ?side2 ?side3 ?side4 A14.out).mono ?_
        (case side1 => exact ck (Kd.R_reads' HO558.out).2.2)
        (case side2 => exact (Kd.R_reads' HO558.out).2.1)
        (case side3 => exact ck (Kd.R_reads' HO564.out).2.2)
        (case side4 => exact (Kd.R_reads' HO564.out).2.1)
        rintro e w33 ⟨rfl, hb⟩
        refine ⟨_, rfl, ?_⟩
        replace HO553 := Aside0.mk (Kd.R_below (rk HO553.out) hb)
        replace HO558 := Aside0.mk (Kd.R_below (rk HO558.out) hb)
        replace HO564 := Aside0.mk (Kd.R_below (rk HO564.out) hb)
        replace BK548 := Aside0.mk (bb BK548.out hb)
        replace BK559 := Aside0.mk (bb BK559.out hb)
        replace HB := Aside0.mk (below_step bel hb)
        (try clear hb)
        (try clear hb2)
        (try clear hk)
        (try clear hi)
        refine hK.out _ _ ⟨(blk_cell BK559.out 0).trans rfl, (blk_cell BK559.out 1).trans rfl, (blk_cell BK548.out 0).trans rfl, (blk_cell BK548.out 1).trans rfl⟩ (fun hHeld => ?_)
        clear hK K
        refine norm_ (a' := ?_) ?_ ?_
        rotate_left
        · show Act.put _ (some 29) _ = _
          simp only [Act.put, List.setIfInBounds_toArray, List.set_cons_zero, List.set_cons_succ, i64_w, i32_w]
          rfl
        refine pure_ (i := 4) (N := some 30) (v := ?_) (a' := ?_) #[true, true, true, true, true] rfl rfl (by kernel_rfl) (fun _ _ _ h => h) (Or.inl ⟨by rfl, ?_⟩) ?_ ?_
        rotate_left
        · intro w'
          go_simp
          with_reducible rfl
        rotate_left
        · simp only [Act.put, List.setIfInBounds_toArray, List.set_cons_zero, List.set_cons_succ, i64_w, i32_w]
          rfl
        refine done_ (by kernel_rfl) ?_
        try go_wp2
        go_ret
        exact ⟨er, bel⟩
      · replace c15 := Bool.eq_false_iff.mpr c15
        subst c15
        have H1 : (some false) = some r := by rw [if_neg (show ¬ (false = true) by decide)] at H; exact H
        clear H
        have H := H1
        clear H1
        obtain rfl := Option.some.inj H
        go_enter Try.func13, Try.ntmps13
        try go_wp2_with (first | ((with_reducible refine gate_dst (N := 2) rfl ?_); refine box_event ?hg (N := 2) ?hd (cs := #[.int .i64 a0_0, .slice A0_1 l0_1.length c0_1]) (t := 32) ?hr ?_; (case hd => rfl); (case hg => rfl); (case hr => first | (go_simp; done) | (go_simp; rfl)); intro gb548 hg w34 hbox hb; have BK548 := Aside0.mk (hbox); have GW548 := Aside0.mk ((bsz hg : w.heap.size ≤ gb548)); have GE548 := Aside0.mk ((bsz hg : w.heap.size ≤ gb548)); replace HB := Aside0.mk (below_step bel hb); clear hb hbox hg; obtain ⟨hcz35_0, hcz35_1, hfz35_0, hfz35_1⟩ := cf2 BK548.out) | ((with_reducible refine gate_callee (f := 27) rfl ?_); refine goesL_ (some 11) rfl rfl Try.func27 (by kernel_rfl) rfl #[.agg #[.int .i64 a0_0, .slice A0_1 l0_1.length c0_1], .int .i64 1048576] rfl ga ?_; (with_reducible refine (laws_szCup.calls a0_0 _ _ l0_1 1048576 t549 _ ?side1 ?side2 A3.out).mono ?_); (case side1 => exact ck (Kd.C_below HR0_1.out HB.out)); (case side2 => exact HC0_1.out); rintro e w36 ⟨rfl, hb⟩; refine ⟨_, rfl, ?_⟩; replace BK548 := Aside0.mk (bb BK548.out hb); replace HB := Aside0.mk (below_step bel hb); (try clear hb); obtain ⟨hcz37_0, hcz37_1, hfz37_0, hfz37_1⟩ := cf2 BK548.out) | ((with_reducible refine gate_callee (f := 29) rfl ?_); refine goesL_ (some 15) rfl rfl Try.func29 (by kernel_rfl) rfl #[.agg #[.int .i64 a0_0, .slice A0_1 l0_1.length c0_1]] rfl ga ?_; (with_reducible refine (laws_toCup.calls k a0_0 _ _ l0_1 t550 t551 _ ?side1 ?side2 A8.out).mono ?_); (case side1 => exact ck (Kd.C_below HR0_1.out HB.out)); (case side2 => exact HC0_1.out); rintro e w38 ⟨v552, rfl, ho0, hb⟩; refine ⟨_, rfl, ?_⟩; have HO553 := Aside0.mk (Kd.R_lower ho0 (below_size bel)); replace BK548 := Aside0.mk (bb BK548.out hb); replace HB := Aside0.mk (below_step bel hb); (try clear hb); (try clear ho0); obtain ⟨Ao39, co39, eo39⟩ := Kd.R_slice HO553.out; subst eo39) | ((with_reducible refine gate_callee (f := 42) rfl ?_); refine goesL_ (some 17) rfl rfl Try.func42 (by kernel_rfl) rfl #[.agg #[.int .i64 t550, .slice Ao39 t551.length co39], .int .i64 a1] rfl ga ?_; (with_reducible refine (spec_WaysToWin.calls k t550 _ _ t551 a1 t554 _ ?side1 ?side2 A9.out).mono ?_); (case side1 => exact ck (Kd.R_reads' HO553.out).2.2); (case side2 => exact (Kd.R_reads' HO553.out).2.1); rintro e w40 ⟨rfl, hb⟩; refine ⟨_, rfl, ?_⟩; replace HO553 := Aside0.mk (Kd.R_below (rk HO553.out) hb); replace BK548 := Aside0.mk (bb BK548.out hb); replace HB := Aside0.mk (below_step bel hb); (try clear hb); obtain ⟨hcz41_0, hcz41_1, hfz41_0, hfz41_1⟩ := cf2 BK548.out) | ((with_reducible refine gate_callee (f := 29) rfl ?_); refine goesL_ (some 19) rfl rfl Try.func29 (by kernel_rfl) rfl #[.agg #[.int .i64 a0_0, .slice A0_1 l0_1.length c0_1]] rfl ga ?_; (with_reducible refine (laws_toCup.calls k a0_0 _ _ l0_1 t555 t556 _ ?side1 ?side2 A10.out).mono ?_); (case side1 => exact ck (Kd.C_below HR0_1.out HB.out)); (case side2 => exact HC0_1.out); rintro e w42 ⟨v557, rfl, ho0, hb⟩; refine ⟨_, rfl, ?_⟩; have HO558 := Aside0.mk (Kd.R_lower (Kd.R_new' ho0 (Kd.R_lt (rk HO553.out))) (below_size bel)); replace HO553 := Aside0.mk (Kd.R_elder' (rk HO553.out) (Kd.R_base ho0) hb); replace BK548 := Aside0.mk (bb BK548.out hb); replace HB := Aside0.mk (below_step bel hb); (try clear hb); (try clear ho0)) | ((with_reducible refine gate_dst (N := 7) rfl ?_); refine box_event ?hg (N := 7) ?hd (cs := #[.int .i64 0, .slice none 0 0]) (t := 36) ?hr ?_; (case hd => rfl); (case hg => rfl); (case hr => first | (go_simp; done) | (go_simp; rfl)); intro gb559 hg w43 hbox hb; have BK559 := Aside0.mk (hbox); have GW559 := Aside0.mk ((bsz hg : w.heap.size ≤ gb559)); have GE559 := Aside0.mk ((bsz hg : w.heap.size ≤ gb559)); have NB548_559 := Aside0.mk ((nlt hg BK548.out : gb548 ≠ gb559)); have NB559_548 := Aside0.mk ((ngt hg BK548.out : gb559 ≠ gb548)); replace HO553 := Aside0.mk (Kd.R_below (rk HO553.out) hb); replace HO558 := Aside0.mk (Kd.R_below (rk HO558.out) hb); replace BK548 := Aside0.mk (bb BK548.out hb); replace HB := Aside0.mk (below_step bel hb); clear hb hbox hg; have hnb44 := NB559_548.out; have hnc44 := NB548_559.out; obtain ⟨hcz45_0, hcz45_1, hfz45_0, hfz45_1⟩ := cf2 BK559.out; obtain ⟨Ao46, co46, eo46⟩ := Kd.R_slice HO558.out; subst eo46) | ((with_reducible refine gate_callee (f := 43) rfl ?_); refine goesL_ (some 22) rfl rfl Try.func43 (by kernel_rfl) rfl #[.agg #[.int .i64 t555, .slice Ao46 t556.length co46], .int .i64 a1] rfl ga ?_; (with_reducible refine (impl_WaysToWin.calls k t555 _ _ t556 a1 t560 _ ?side1 ?side2 A11.out).mono ?_); (case side1 => refine (Kd.R_reads' (e := 3) (base := w.heap.size) (ok := fun k_ => (True ∧ some k_ ≠ (.slice Ao39 t551.length co39 : Value).ownBlock)) (n := t556.length) (c := co46) ?_).2.2; exact (by exact rk (Kd.R_mono (Kd.R_far (p := ⟨gb559, 1, none⟩) (Kd.R_far (p := ⟨gb559, 0, none⟩) (Kd.R_types HO558.out BK559.out (by decide)) (fun _ hk => hk.2) (.int .i64 t555)) (fun _ hk => hk.2) (.slice Ao46 t556.length co46)) (fun _ h_ => h_.1)))); (case side2 => exact (Kd.R_reads' HO558.out).2.1); rintro e w47 ⟨rfl, hb⟩; refine ⟨_, rfl, ?_⟩; replace HO553 := Aside0.mk (Kd.R_below (by exact rk (Kd.R_mono (Kd.R_far (p := ⟨gb559, 1, none⟩) (Kd.R_far (p := ⟨gb559, 0, none⟩) (Kd.R_types HO553.out BK559.out (by decide)) (fun _ hk => hk.2) (.int .i64 t555)) (fun _ hk => hk.2) (.slice Ao46 t556.length co46)) (fun _ h_ => h_.1))) hb); replace HO558 := Aside0.mk (Kd.R_below (by exact rk (Kd.R_mono (Kd.R_far (p := ⟨gb559, 1, none⟩) (Kd.R_far (p := ⟨gb559, 0, none⟩) (Kd.R_types HO558.out BK559.out (by decide)) (fun _ hk => hk.2) (.int .i64 t555)) (fun _ hk => hk.2) (.slice Ao46 t556.length co46)) (fun _ h_ => h_.1))) hb); replace BK548 := Aside0.mk (bb BK548.out hb); replace BK559 := Aside0.mk (blk_below (g := gb559) (o := .cells #[.int .i64 t555, .slice Ao46 t556.length co46] 36 (0, 0)) (by (with_reducible repeat (first | refine blk_drewN ?_ _ | refine blk_drew ?_ | refine blk_alloc ?_ _)); refine blk_put (cs := #[.int .i64 t555, .slice none 0 0]) ?_ 1 _ rfl; (with_reducible repeat (first | refine blk_drewN ?_ _ | refine blk_drew ?_ | refine blk_alloc ?_ _)); refine blk_put (cs := #[.int .i64 0, .slice none 0 0]) ?_ 0 _ rfl; (with_reducible repeat (first | refine blk_drewN ?_ _ | refine blk_drew ?_ | refine blk_alloc ?_ _)); exact BK559.out) hb); replace HB := Aside0.mk (below_step bel hb); (try clear hb)))
        replace HO553 := Aside0.mk (Kd.R_drew HO553.out)
        replace HO558 := Aside0.mk (Kd.R_drew HO558.out)
        replace BK548 := Aside0.mk (blk_drew BK548.out)
        replace BK559 := Aside0.mk (blk_drew BK559.out)
        replace HB := Aside0.mk (below_drew1 HB.out)
        refine start_ (n := 5) (S := fun w' => w'.cell? ⟨gb559, 0, none⟩ = some (.int .i64 t555) ∧ w'.cell? ⟨gb559, 1, none⟩ = some (.slice Ao46 t556.length co46) ∧ w'.cell? ⟨gb548, 0, none⟩ = some (.int .i64 a0_0) ∧ w'.cell? ⟨gb548, 1, none⟩ = some (.slice A0_1 l0_1.length c0_1)) (ds := []) #[false, false, false, false, false] (by kernel_rfl) rfl rfl ⟨(blk_cell BK559.out 0).trans rfl, (blk_cell BK559.out 1).trans rfl, (blk_cell BK548.out 0).trans rfl, (blk_cell BK548.out 1).trans rfl⟩ (fun hHeld => ?_)
        generalize w47.drew = w48 at HO553 HO558 BK548 BK559 HB hHeld ⊢
        refine take_ (i := 0) (N := some 26) (v := ?_) (a' := ?_) #[true, false, false, false, false] rfl rfl (by kernel_rfl) (fun _ _ _ h => h) (Or.inl ⟨by rfl, ?_⟩) hHeld ?_ ?_
        rotate_left
        · rintro w' ⟨s0, s1, s2, s3⟩
          go_simp
          with_reducible rfl
        rotate_left
        · simp only [Act.put, List.setIfInBounds_toArray, List.set_cons_zero, List.set_cons_succ, i64_w, i32_w]
          rfl
        refine take_ (i := 1) (N := some 27) (v := ?_) (a' := ?_) #[true, true, false, false, false] rfl rfl (by kernel_rfl) (fun _ _ _ h => h) (Or.inl ⟨by rfl, ?_⟩) hHeld ?_ ?_
        rotate_left
        · rintro w' ⟨s0, s1, s2, s3⟩
          go_simp
          with_reducible rfl
        rotate_left
        · simp only [Act.put, List.setIfInBounds_toArray, List.set_cons_zero, List.set_cons_succ, i64_w, i32_w]
          rfl
        refine one_ (i := 2) (N := some 28) #[true, true, true, false, false] rfl rfl (by kernel_rfl) (by decide) (fun K hK => ?_)
        refine goes_ Try.func29 (by kernel_rfl) rfl #[.agg #[.int .i64 a0_0, .slice A0_1 l0_1.length c0_1]] (by rfl) rfl rfl ga ?_
        with_reducible refine (laws_toCup.calls k a0_0 _ _ l0_1 t561 t562 _ ?side1 ?side2 A13.out).mono ?_
        (case side1 => exact ck (Kd.C_below HR0_1.out HB.out))
        (case side2 => exact HC0_1.out)
        rintro e w49 ⟨v563, rfl, ho0, hb⟩
        refine ⟨_, rfl, ?_⟩
        have HO564 := Aside0.mk (Kd.R_lower (Kd.R_new' (Kd.R_new' ho0 (Kd.R_lt (rk HO553.out))) (Kd.R_lt (rk HO558.out))) (below_size bel))
        replace HO553 := Aside0.mk (Kd.R_elder' (rk HO553.out) (Kd.R_base ho0) hb)
        replace HO558 := Aside0.mk (Kd.R_elder' (rk HO558.out) (Kd.R_base ho0) hb)
        replace BK548 := Aside0.mk (bb BK548.out hb)
        replace BK559 := Aside0.mk (bb BK559.out hb)
        replace HB := Aside0.mk (below_step bel hb)
        (try clear hb)
        (try clear hb2)
        (try clear hk)
        (try clear hi)
        (try clear ho0)
        obtain ⟨Ao50, co50, eo50⟩ := Kd.R_slice HO564.out
        (first | subst eo50 | (injection eo50 with f1_ f2_ f3_; have f4_ := f1_.symm; have f5_ := f3_.symm; clear f1_ f2_ f3_; subst f4_; subst f5_))
        refine hK.out _ _ ⟨(blk_cell BK559.out 0).trans rfl, (blk_cell BK559.out 1).trans rfl, (blk_cell BK548.out 0).trans rfl, (blk_cell BK548.out 1).trans rfl⟩ (fun hHeld => ?_)
        clear hK K
        refine norm_ (a' := ?_) ?_ ?_
        rotate_left
        · show Act.put _ (some 28) _ = _
          simp only [Act.put, List.setIfInBounds_toArray, List.set_cons_zero, List.set_cons_succ, i64_w, i32_w]
          rfl
        refine one_ (i := 3) (N := some 29) #[true, true, true, true, false] rfl rfl (by kernel_rfl) (by decide) (fun K hK => ?_)
        refine goes_ Try.func31 (by kernel_rfl) rfl #[.agg #[.int .i64 t555, .slice Ao46 t556.length co46], .agg #[.int .i64 t561, .slice Ao50 t562.length co50]] (by rfl) rfl rfl ga ?_
        with_reducible refine (laws_eqCup.calls k t555 _ _ t556 t561 _ _ t562 false _ ?side1 ?side2 ?side3 ?side4 A14.out).mono ?_
        (case side1 => exact ck (Kd.R_reads' HO558.out).2.2)
        (case side2 => exact (Kd.R_reads' HO558.out).2.1)
        (case side3 => exact ck (Kd.R_reads' HO564.out).2.2)
        (case side4 => exact (Kd.R_reads' HO564.out).2.1)
        rintro e w51 ⟨rfl, hb⟩
        refine ⟨_, rfl, ?_⟩
        replace HO553 := Aside0.mk (Kd.R_below (rk HO553.out) hb)
        replace HO558 := Aside0.mk (Kd.R_below (rk HO558.out) hb)
        replace HO564 := Aside0.mk (Kd.R_below (rk HO564.out) hb)
        replace BK548 := Aside0.mk (bb BK548.out hb)
        replace BK559 := Aside0.mk (bb BK559.out hb)
        replace HB := Aside0.mk (below_step bel hb)
        (try clear hb)
        (try clear hb2)
        (try clear hk)
        (try clear hi)
        refine hK.out _ _ ⟨(blk_cell BK559.out 0).trans rfl, (blk_cell BK559.out 1).trans rfl, (blk_cell BK548.out 0).trans rfl, (blk_cell BK548.out 1).trans rfl⟩ (fun hHeld => ?_)
        clear hK K
        refine norm_ (a' := ?_) ?_ ?_
        rotate_left
        · show Act.put _ (some 29) _ = _
          simp only [Act.put, List.setIfInBounds_toArray, List.set_cons_zero, List.set_cons_succ, i64_w, i32_w]
          rfl
        refine pure_ (i := 4) (N := some 30) (v := ?_) (a' := ?_) #[true, true, true, true, true] rfl rfl (by kernel_rfl) (fun _ _ _ h => h) (Or.inl ⟨by rfl, ?_⟩) ?_ ?_
        rotate_left
        · intro w'
          go_simp
          with_reducible rfl
        rotate_left
        · simp only [Act.put, List.setIfInBounds_toArray, List.set_cons_zero, List.set_cons_succ, i64_w, i32_w]
          rfl
        refine done_ (by kernel_rfl) ?_
        try go_wp2
        go_ret
        exact ⟨er, bel⟩
    · rw [if_neg c12] at H
      have c12b0 : (t560 == t554) = false := beq_eq_false_iff_ne.mpr c12
      have c12b1 : (t560 != t554) = true := bne_iff_ne.mpr c12
      obtain rfl := Option.some.inj H
      go_enter Try.func13, Try.ntmps13
      go_wp2_with (first | ((with_reducible refine gate_dst (N := 2) rfl ?_); refine box_event ?hg (N := 2) ?hd (cs := #[.int .i64 a0_0, .slice A0_1 l0_1.length c0_1]) (t := 32) ?hr ?_; (case hd => rfl); (case hg => rfl); (case hr => first | (go_simp; done) | (go_simp; rfl)); intro gb548 hg w52 hbox hb; have BK548 := Aside0.mk (hbox); have GW548 := Aside0.mk ((bsz hg : w.heap.size ≤ gb548)); have GE548 := Aside0.mk ((bsz hg : w.heap.size ≤ gb548)); replace HB := Aside0.mk (below_step bel hb); clear hb hbox hg; obtain ⟨hcz53_0, hcz53_1, hfz53_0, hfz53_1⟩ := cf2 BK548.out) | ((with_reducible refine gate_callee (f := 27) rfl ?_); refine goesL_ (some 11) rfl rfl Try.func27 (by kernel_rfl) rfl #[.agg #[.int .i64 a0_0, .slice A0_1 l0_1.length c0_1], .int .i64 1048576] rfl ga ?_; (with_reducible refine (laws_szCup.calls a0_0 _ _ l0_1 1048576 t549 _ ?side1 ?side2 A3.out).mono ?_); (case side1 => exact ck (Kd.C_below HR0_1.out HB.out)); (case side2 => exact HC0_1.out); rintro e w54 ⟨rfl, hb⟩; refine ⟨_, rfl, ?_⟩; replace BK548 := Aside0.mk (bb BK548.out hb); replace HB := Aside0.mk (below_step bel hb); (try clear hb); obtain ⟨hcz55_0, hcz55_1, hfz55_0, hfz55_1⟩ := cf2 BK548.out) | ((with_reducible refine gate_callee (f := 29) rfl ?_); refine goesL_ (some 15) rfl rfl Try.func29 (by kernel_rfl) rfl #[.agg #[.int .i64 a0_0, .slice A0_1 l0_1.length c0_1]] rfl ga ?_; (with_reducible refine (laws_toCup.calls k a0_0 _ _ l0_1 t550 t551 _ ?side1 ?side2 A8.out).mono ?_); (case side1 => exact ck (Kd.C_below HR0_1.out HB.out)); (case side2 => exact HC0_1.out); rintro e w56 ⟨v552, rfl, ho0, hb⟩; refine ⟨_, rfl, ?_⟩; have HO553 := Aside0.mk (Kd.R_lower ho0 (below_size bel)); replace BK548 := Aside0.mk (bb BK548.out hb); replace HB := Aside0.mk (below_step bel hb); (try clear hb); (try clear ho0); obtain ⟨Ao57, co57, eo57⟩ := Kd.R_slice HO553.out; subst eo57) | ((with_reducible refine gate_callee (f := 42) rfl ?_); refine goesL_ (some 17) rfl rfl Try.func42 (by kernel_rfl) rfl #[.agg #[.int .i64 t550, .slice Ao57 t551.length co57], .int .i64 a1] rfl ga ?_; (with_reducible refine (spec_WaysToWin.calls k t550 _ _ t551 a1 t554 _ ?side1 ?side2 A9.out).mono ?_); (case side1 => exact ck (Kd.R_reads' HO553.out).2.2); (case side2 => exact (Kd.R_reads' HO553.out).2.1); rintro e w58 ⟨rfl, hb⟩; refine ⟨_, rfl, ?_⟩; replace HO553 := Aside0.mk (Kd.R_below (rk HO553.out) hb); replace BK548 := Aside0.mk (bb BK548.out hb); replace HB := Aside0.mk (below_step bel hb); (try clear hb); obtain ⟨hcz59_0, hcz59_1, hfz59_0, hfz59_1⟩ := cf2 BK548.out) | ((with_reducible refine gate_callee (f := 29) rfl ?_); refine goesL_ (some 19) rfl rfl Try.func29 (by kernel_rfl) rfl #[.agg #[.int .i64 a0_0, .slice A0_1 l0_1.length c0_1]] rfl ga ?_; (with_reducible refine (laws_toCup.calls k a0_0 _ _ l0_1 t555 t556 _ ?side1 ?side2 A10.out).mono ?_); (case side1 => exact ck (Kd.C_below HR0_1.out HB.out)); (case side2 => exact HC0_1.out); rintro e w60 ⟨v557, rfl, ho0, hb⟩; refine ⟨_, rfl, ?_⟩; have HO558 := Aside0.mk (Kd.R_lower (Kd.R_new' ho0 (Kd.R_lt (rk HO553.out))) (below_size bel)); replace HO553 := Aside0.mk (Kd.R_elder' (rk HO553.out) (Kd.R_base ho0) hb); replace BK548 := Aside0.mk (bb BK548.out hb); replace HB := Aside0.mk (below_step bel hb); (try clear hb); (try clear ho0)) | ((with_reducible refine gate_dst (N := 7) rfl ?_); refine box_event ?hg (N := 7) ?hd (cs := #[.int .i64 0, .slice none 0 0]) (t := 36) ?hr ?_; (case hd => rfl); (case hg => rfl); (case hr => first | (go_simp; done) | (go_simp; rfl)); intro gb559 hg w61 hbox hb; have BK559 := Aside0.mk (hbox); have GW559 := Aside0.mk ((bsz hg : w.heap.size ≤ gb559)); have GE559 := Aside0.mk ((bsz hg : w.heap.size ≤ gb559)); have NB548_559 := Aside0.mk ((nlt hg BK548.out : gb548 ≠ gb559)); have NB559_548 := Aside0.mk ((ngt hg BK548.out : gb559 ≠ gb548)); replace HO553 := Aside0.mk (Kd.R_below (rk HO553.out) hb); replace HO558 := Aside0.mk (Kd.R_below (rk HO558.out) hb); replace BK548 := Aside0.mk (bb BK548.out hb); replace HB := Aside0.mk (below_step bel hb); clear hb hbox hg; have hnb62 := NB559_548.out; have hnc62 := NB548_559.out; obtain ⟨hcz63_0, hcz63_1, hfz63_0, hfz63_1⟩ := cf2 BK559.out; obtain ⟨Ao64, co64, eo64⟩ := Kd.R_slice HO558.out; subst eo64) | ((with_reducible refine gate_callee (f := 43) rfl ?_); refine goesL_ (some 22) rfl rfl Try.func43 (by kernel_rfl) rfl #[.agg #[.int .i64 t555, .slice Ao64 t556.length co64], .int .i64 a1] rfl ga ?_; (with_reducible refine (impl_WaysToWin.calls k t555 _ _ t556 a1 t560 _ ?side1 ?side2 A11.out).mono ?_); (case side1 => refine (Kd.R_reads' (e := 3) (base := w.heap.size) (ok := fun k_ => (True ∧ some k_ ≠ (.slice Ao57 t551.length co57 : Value).ownBlock)) (n := t556.length) (c := co64) ?_).2.2; exact (by exact rk (Kd.R_mono (Kd.R_far (p := ⟨gb559, 1, none⟩) (Kd.R_far (p := ⟨gb559, 0, none⟩) (Kd.R_types HO558.out BK559.out (by decide)) (fun _ hk => hk.2) (.int .i64 t555)) (fun _ hk => hk.2) (.slice Ao64 t556.length co64)) (fun _ h_ => h_.1)))); (case side2 => exact (Kd.R_reads' HO558.out).2.1); rintro e w65 ⟨rfl, hb⟩; refine ⟨_, rfl, ?_⟩; replace HO553 := Aside0.mk (Kd.R_below (by exact rk (Kd.R_mono (Kd.R_far (p := ⟨gb559, 1, none⟩) (Kd.R_far (p := ⟨gb559, 0, none⟩) (Kd.R_types HO553.out BK559.out (by decide)) (fun _ hk => hk.2) (.int .i64 t555)) (fun _ hk => hk.2) (.slice Ao64 t556.length co64)) (fun _ h_ => h_.1))) hb); replace HO558 := Aside0.mk (Kd.R_below (by exact rk (Kd.R_mono (Kd.R_far (p := ⟨gb559, 1, none⟩) (Kd.R_far (p := ⟨gb559, 0, none⟩) (Kd.R_types HO558.out BK559.out (by decide)) (fun _ hk => hk.2) (.int .i64 t555)) (fun _ hk => hk.2) (.slice Ao64 t556.length co64)) (fun _ h_ => h_.1))) hb); replace BK548 := Aside0.mk (bb BK548.out hb); replace BK559 := Aside0.mk (blk_below (g := gb559) (o := .cells #[.int .i64 t555, .slice Ao64 t556.length co64] 36 (0, 0)) (by (with_reducible repeat (first | refine blk_drewN ?_ _ | refine blk_drew ?_ | refine blk_alloc ?_ _)); refine blk_put (cs := #[.int .i64 t555, .slice none 0 0]) ?_ 1 _ rfl; (with_reducible repeat (first | refine blk_drewN ?_ _ | refine blk_drew ?_ | refine blk_alloc ?_ _)); refine blk_put (cs := #[.int .i64 0, .slice none 0 0]) ?_ 0 _ rfl; (with_reducible repeat (first | refine blk_drewN ?_ _ | refine blk_drew ?_ | refine blk_alloc ?_ _)); exact BK559.out) hb); replace HB := Aside0.mk (below_step bel hb); (try clear hb)))
      go_ret
      exact ⟨er, bel⟩

end Go.Proofs.Ytpacmpppiphfjaa.X
