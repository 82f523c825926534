-- Written by a program of this session (wip/xp.py, over the kit's print) out of the translation: functions, and the walks that show them.
import Derived.Test.YtpacmpppiphfjaaX0
import Derived.Test.YtpacmpppiphfjaaX11
import Derived.Test.YtpacmpppiphfjaaX13
import Derived.Test.YtpacmpppiphfjaaX15
import Derived.Test.YtpacmpppiphfjaaX20
namespace Go.Proofs.Ytpacmpppiphfjaa.X
open Go.RowKit Go.Proofs.YtpacmpppiphfjaaW.PrintWords Go.Proofs.YtpacmpppiphfjaaW.PrintLast Go.Proofs.YtpacmpppiphfjaaW.PrintMore
attribute [local go_sem] max2_int min2_int max_two min_two max_three min_three max_four min_four   -- for this text's walks alone
set_option linter.unusedVariables false
set_option linter.unusedSimpArgs false

/-! ### laws_FnExactChampionOf: function 10 -/
def laws_FnExactChampionOf.f (k : Nat) (a0_0 : Int) (l0_1 : List Int) : Option (Bool) := (laws_szCup.f a0_0 l0_1 1048576).bind fun t293 => (if t293 < 0 then (some true) else ((laws_toCup.f k a0_0 l0_1).bind fun bt294 => ((spec_ChampionOf.f k bt294.1 bt294.2).bind fun t298 => ((laws_toCup.f k a0_0 l0_1).bind fun bt299 => ((impl_ChampionOf.f k bt299.1 bt299.2).bind fun t304 => (if t304 = t298 then ((laws_toCup.f k a0_0 l0_1).bind fun bt305 => ((laws_eqCup.f k bt299.1 bt299.2 bt305.1 bt305.2).bind fun t309 => (if t309 = true then (some true) else (some false)))) else (some false)))))))
theorem laws_FnExactChampionOf.mono : ∀ a0 a1 k, LeO (laws_FnExactChampionOf.f k a0 a1) (laws_FnExactChampionOf.f (k + 1) a0 a1) := by
  intro a0 a1 k
  unfold laws_FnExactChampionOf.f
  repeat' first
      | (with_reducible exact impl_ChampionOf.mono _ _ _)
      | (with_reducible exact laws_eqCup.mono _ _ _ _ _)
      | (with_reducible exact laws_toCup.mono _ _ _)
      | (with_reducible exact spec_ChampionOf.mono _ _ _)
      | (with_reducible exact LeO.refl _)
      | (with_reducible exact LeO.none _)
      | (with_reducible refine LeO.ite ?_ ?_)
      | (with_reducible refine LeO.bind ?_ (fun _ => ?_))
      | exact impl_ChampionOf.mono _ _ _
      | exact laws_eqCup.mono _ _ _ _ _
      | exact laws_toCup.mono _ _ _
      | exact spec_ChampionOf.mono _ _ _
      | exact LeO.none _
      | refine LeO.ite ?_ ?_
      | refine LeO.bind ?_ (fun _ => ?_)
set_option maxHeartbeats 8000000 in
set_option maxRecDepth 100000 in
theorem laws_FnExactChampionOf.calls (k : Nat) (a0_0 : Int) (A0_1 : Option Addr) (c0_1 : Nat) (l0_1 : List Int) (r : Bool) (w : World) (hr0_1 : Kd.C (Kd.int .i64) w A0_1 l0_1.length l0_1) (hc0_1 : l0_1.length ≤ c0_1) (h : laws_FnExactChampionOf.f k a0_0 l0_1 = some r) :
    Calls Try.prog 10 #[.agg #[.int .i64 a0_0, .slice A0_1 l0_1.length c0_1]] w fun e w' => e = .returned (.bool r) ∧ Below w.heap.size w w' := by
  have hu32 := Try.underlying32
  have hu36 := Try.underlying36
  have HR0_1 := Aside0.mk hr0_1
  have HC0_1 := Aside0.mk hc0_1
  clear hr0_1 hc0_1
  have HB := Aside0.mk (Below.refl w.heap.size w)
  have H : ((laws_szCup.f a0_0 l0_1 1048576).bind fun t293 => (if t293 < 0 then (some true) else ((laws_toCup.f k a0_0 l0_1).bind fun bt294 => ((spec_ChampionOf.f k bt294.1 bt294.2).bind fun t298 => ((laws_toCup.f k a0_0 l0_1).bind fun bt299 => ((impl_ChampionOf.f k bt299.1 bt299.2).bind fun t304 => (if t304 = t298 then ((laws_toCup.f k a0_0 l0_1).bind fun bt305 => ((laws_eqCup.f k bt299.1 bt299.2 bt305.1 bt305.2).bind fun t309 => (if t309 = true then (some true) else (some false)))) else (some false)))))))) = some r := h
  clear h
  replace H := Option.bind_eq_some_iff.mp H
  obtain ⟨t293, A20, H⟩ := H
  replace H : (if t293 < 0 then (some true) else ((laws_toCup.f k a0_0 l0_1).bind fun bt294 => ((spec_ChampionOf.f k bt294.1 bt294.2).bind fun t298 => ((laws_toCup.f k a0_0 l0_1).bind fun bt299 => ((impl_ChampionOf.f k bt299.1 bt299.2).bind fun t304 => (if t304 = t298 then ((laws_toCup.f k a0_0 l0_1).bind fun bt305 => ((laws_eqCup.f k bt299.1 bt299.2 bt305.1 bt305.2).bind fun t309 => (if t309 = true then (some true) else (some false)))) else (some false))))))) = some r := H
  have A2 := Aside0.mk A20
  clear A20
  by_cases c3 : t293 < 0
  · rw [if_pos c3] at H
    have c3b0 : decide (t293 < 0) = true := decide_eq_true c3
    clear c3
    obtain rfl := Option.some.inj H
    go_enter Try.func10, Try.ntmps10
    go_wp2_with (first | ((with_reducible refine gate_dst (N := 1) rfl ?_); refine box_event ?hg (N := 1) ?hd (cs := #[.int .i64 a0_0, .slice A0_1 l0_1.length c0_1]) (t := 32) ?hr ?_; (case hd => rfl); (case hg => rfl); (case hr => first | (go_simp; done) | (go_simp; rfl)); intro gb292 hg w4 hbox hb; have BK292 := Aside0.mk (hbox); have GW292 := Aside0.mk ((bsz hg : w.heap.size ≤ gb292)); have GE292 := Aside0.mk ((bsz hg : w.heap.size ≤ gb292)); replace HB := Aside0.mk (below_step bel hb); clear hb hbox hg; obtain ⟨hcz5_0, hcz5_1, hfz5_0, hfz5_1⟩ := cf2 BK292.out) | ((with_reducible refine gate_callee (f := 27) rfl ?_); refine goesL_ (some 9) rfl rfl Try.func27 (by kernel_rfl) rfl #[.agg #[.int .i64 a0_0, .slice A0_1 l0_1.length c0_1], .int .i64 1048576] rfl ga ?_; (with_reducible refine (laws_szCup.calls a0_0 _ _ l0_1 1048576 t293 _ ?side1 ?side2 A2.out).mono ?_); (case side1 => exact ck (Kd.C_below HR0_1.out HB.out)); (case side2 => exact HC0_1.out); rintro e w6 ⟨rfl, hb⟩; refine ⟨_, rfl, ?_⟩; replace BK292 := Aside0.mk (bb BK292.out hb); replace HB := Aside0.mk (below_step bel hb); (try clear hb)))
    go_ret
    exact ⟨er, bel⟩
  · rw [if_neg c3] at H
    have c3b0 : decide (t293 < 0) = false := decide_eq_false c3
    clear c3
    replace H := Option.bind_eq_some_iff.mp H
    obtain ⟨⟨t294, t295⟩, A70, H⟩ := H
    replace H : ((spec_ChampionOf.f k t294 t295).bind fun t298 => ((laws_toCup.f k a0_0 l0_1).bind fun bt299 => ((impl_ChampionOf.f k bt299.1 bt299.2).bind fun t304 => (if t304 = t298 then ((laws_toCup.f k a0_0 l0_1).bind fun bt305 => ((laws_eqCup.f k bt299.1 bt299.2 bt305.1 bt305.2).bind fun t309 => (if t309 = true then (some true) else (some false)))) else (some false))))) = some r := H
    have A7 := Aside0.mk A70
    clear A70
    replace H := Option.bind_eq_some_iff.mp H
    obtain ⟨t298, A80, H⟩ := H
    replace H : ((laws_toCup.f k a0_0 l0_1).bind fun bt299 => ((impl_ChampionOf.f k bt299.1 bt299.2).bind fun t304 => (if t304 = t298 then ((laws_toCup.f k a0_0 l0_1).bind fun bt305 => ((laws_eqCup.f k bt299.1 bt299.2 bt305.1 bt305.2).bind fun t309 => (if t309 = true then (some true) else (some false)))) else (some false)))) = some r := H
    have A8 := Aside0.mk A80
    clear A80
    replace H := Option.bind_eq_some_iff.mp H
    obtain ⟨⟨t299, t300⟩, A90, H⟩ := H
    replace H : ((impl_ChampionOf.f k t299 t300).bind fun t304 => (if t304 = t298 then ((laws_toCup.f k a0_0 l0_1).bind fun bt305 => ((laws_eqCup.f k t299 t300 bt305.1 bt305.2).bind fun t309 => (if t309 = true then (some true) else (some false)))) else (some false))) = some r := H
    have A9 := Aside0.mk A90
    clear A90
    replace H := Option.bind_eq_some_iff.mp H
    obtain ⟨t304, A100, H⟩ := H
    replace H : (if t304 = t298 then ((laws_toCup.f k a0_0 l0_1).bind fun bt305 => ((laws_eqCup.f k t299 t300 bt305.1 bt305.2).bind fun t309 => (if t309 = true then (some true) else (some false)))) else (some false)) = some r := H
    have A10 := Aside0.mk A100
    clear A100
    by_cases c11 : t304 = t298
    · rw [if_pos c11] at H
      have c11b0 : (t304 == t298) = true := beq_iff_eq.mpr c11
      have c11b1 : (t304 != t298) = false := bne_eq_false_iff_eq.mpr c11
      clear c11
      replace H := Option.bind_eq_some_iff.mp H
      obtain ⟨⟨t305, t306⟩, A120, H⟩ := H
      replace H : ((laws_eqCup.f k t299 t300 t305 t306).bind fun t309 => (if t309 = true then (some true) else (some false))) = some r := H
      have A12 := Aside0.mk A120
      clear A120
      replace H := Option.bind_eq_some_iff.mp H
      obtain ⟨t309, A130, H⟩ := H
      replace H : (if t309 = true then (some true) else (some false)) = some r := H
      have A13 := Aside0.mk A130
      clear A130
      by_cases c14 : t309 = true
      · subst c14
        have H1 : (some true) = some r := by rw [if_pos rfl] at H; exact H
        clear H
        have H := H1
        clear H1
        obtain rfl := Option.some.inj H
        go_enter Try.func10, Try.ntmps10
        try go_wp2_with (first | ((with_reducible refine gate_dst (N := 1) rfl ?_); refine box_event ?hg (N := 1) ?hd (cs := #[.int .i64 a0_0, .slice A0_1 l0_1.length c0_1]) (t := 32) ?hr ?_; (case hd => rfl); (case hg => rfl); (case hr => first | (go_simp; done) | (go_simp; rfl)); intro gb292 hg w15 hbox hb; have BK292 := Aside0.mk (hbox); have GW292 := Aside0.mk ((bsz hg : w.heap.size ≤ gb292)); have GE292 := Aside0.mk ((bsz hg : w.heap.size ≤ gb292)); replace HB := Aside0.mk (below_step bel hb); clear hb hbox hg; obtain ⟨hcz16_0, hcz16_1, hfz16_0, hfz16_1⟩ := cf2 BK292.out) | ((with_reducible refine gate_callee (f := 27) rfl ?_); refine goesL_ (some 9) rfl rfl Try.func27 (by kernel_rfl) rfl #[.agg #[.int .i64 a0_0, .slice A0_1 l0_1.length c0_1], .int .i64 1048576] rfl ga ?_; (with_reducible refine (laws_szCup.calls a0_0 _ _ l0_1 1048576 t293 _ ?side1 ?side2 A2.out).mono ?_); (case side1 => exact ck (Kd.C_below HR0_1.out HB.out)); (case side2 => exact HC0_1.out); rintro e w17 ⟨rfl, hb⟩; refine ⟨_, rfl, ?_⟩; replace BK292 := Aside0.mk (bb BK292.out hb); replace HB := Aside0.mk (below_step bel hb); (try clear hb); obtain ⟨hcz18_0, hcz18_1, hfz18_0, hfz18_1⟩ := cf2 BK292.out) | ((with_reducible refine gate_callee (f := 29) rfl ?_); refine goesL_ (some 13) rfl rfl Try.func29 (by kernel_rfl) rfl #[.agg #[.int .i64 a0_0, .slice A0_1 l0_1.length c0_1]] rfl ga ?_; (with_reducible refine (laws_toCup.calls k a0_0 _ _ l0_1 t294 t295 _ ?side1 ?side2 A7.out).mono ?_); (case side1 => exact ck (Kd.C_below HR0_1.out HB.out)); (case side2 => exact HC0_1.out); rintro e w19 ⟨v296, rfl, ho0, hb⟩; refine ⟨_, rfl, ?_⟩; have HO297 := Aside0.mk (Kd.R_lower ho0 (below_size bel)); replace BK292 := Aside0.mk (bb BK292.out hb); replace HB := Aside0.mk (below_step bel hb); (try clear hb); (try clear ho0); obtain ⟨Ao20, co20, eo20⟩ := Kd.R_slice HO297.out; subst eo20) | ((with_reducible refine gate_callee (f := 34) rfl ?_); refine goesL_ (some 14) rfl rfl Try.func34 (by kernel_rfl) rfl #[.agg #[.int .i64 t294, .slice Ao20 t295.length co20]] rfl ga ?_; (with_reducible refine (spec_ChampionOf.calls k t294 _ _ t295 t298 _ ?side1 ?side2 A8.out).mono ?_); (case side1 => exact ck (Kd.R_reads' HO297.out).2.2); (case side2 => exact (Kd.R_reads' HO297.out).2.1); rintro e w21 ⟨rfl, hb⟩; refine ⟨_, rfl, ?_⟩; replace HO297 := Aside0.mk (Kd.R_below (rk HO297.out) hb); replace BK292 := Aside0.mk (bb BK292.out hb); replace HB := Aside0.mk (below_step bel hb); (try clear hb); obtain ⟨hcz22_0, hcz22_1, hfz22_0, hfz22_1⟩ := cf2 BK292.out) | ((with_reducible refine gate_callee (f := 29) rfl ?_); refine goesL_ (some 16) rfl rfl Try.func29 (by kernel_rfl) rfl #[.agg #[.int .i64 a0_0, .slice A0_1 l0_1.length c0_1]] rfl ga ?_; (with_reducible refine (laws_toCup.calls k a0_0 _ _ l0_1 t299 t300 _ ?side1 ?side2 A9.out).mono ?_); (case side1 => exact ck (Kd.C_below HR0_1.out HB.out)); (case side2 => exact HC0_1.out); rintro e w23 ⟨v301, rfl, ho0, hb⟩; refine ⟨_, rfl, ?_⟩; have HO302 := Aside0.mk (Kd.R_lower (Kd.R_new' ho0 (Kd.R_lt (rk HO297.out))) (below_size bel)); replace HO297 := Aside0.mk (Kd.R_elder' (rk HO297.out) (Kd.R_base ho0) hb); replace BK292 := Aside0.mk (bb BK292.out hb); replace HB := Aside0.mk (below_step bel hb); (try clear hb); (try clear ho0)) | ((with_reducible refine gate_dst (N := 5) rfl ?_); refine box_event ?hg (N := 5) ?hd (cs := #[.int .i64 0, .slice none 0 0]) (t := 36) ?hr ?_; (case hd => rfl); (case hg => rfl); (case hr => first | (go_simp; done) | (go_simp; rfl)); intro gb303 hg w24 hbox hb; have BK303 := Aside0.mk (hbox); have GW303 := Aside0.mk ((bsz hg : w.heap.size ≤ gb303)); have GE303 := Aside0.mk ((bsz hg : w.heap.size ≤ gb303)); have NB292_303 := Aside0.mk ((nlt hg BK292.out : gb292 ≠ gb303)); have NB303_292 := Aside0.mk ((ngt hg BK292.out : gb303 ≠ gb292)); replace HO297 := Aside0.mk (Kd.R_below (rk HO297.out) hb); replace HO302 := Aside0.mk (Kd.R_below (rk HO302.out) hb); replace BK292 := Aside0.mk (bb BK292.out hb); replace HB := Aside0.mk (below_step bel hb); clear hb hbox hg; have hnb25 := NB303_292.out; have hnc25 := NB292_303.out; obtain ⟨hcz26_0, hcz26_1, hfz26_0, hfz26_1⟩ := cf2 BK303.out; obtain ⟨Ao27, co27, eo27⟩ := Kd.R_slice HO302.out; subst eo27) | ((with_reducible refine gate_callee (f := 35) rfl ?_); refine goesL_ (some 18) rfl rfl Try.func35 (by kernel_rfl) rfl #[.agg #[.int .i64 t299, .slice Ao27 t300.length co27]] rfl ga ?_; (with_reducible refine (impl_ChampionOf.calls k t299 _ _ t300 t304 _ ?side1 ?side2 A10.out).mono ?_); (case side1 => refine (Kd.R_reads' (e := 3) (base := w.heap.size) (ok := fun k_ => (True ∧ some k_ ≠ (.slice Ao20 t295.length co20 : Value).ownBlock)) (n := t300.length) (c := co27) ?_).2.2; exact (by exact rk (Kd.R_mono (Kd.R_far (p := ⟨gb303, 1, none⟩) (Kd.R_far (p := ⟨gb303, 0, none⟩) (Kd.R_types HO302.out BK303.out (by decide)) (fun _ hk => hk.2) (.int .i64 t299)) (fun _ hk => hk.2) (.slice Ao27 t300.length co27)) (fun _ h_ => h_.1)))); (case side2 => exact (Kd.R_reads' HO302.out).2.1); rintro e w28 ⟨rfl, hb⟩; refine ⟨_, rfl, ?_⟩; replace HO297 := Aside0.mk (Kd.R_below (by exact rk (Kd.R_mono (Kd.R_far (p := ⟨gb303, 1, none⟩) (Kd.R_far (p := ⟨gb303, 0, none⟩) (Kd.R_types HO297.out BK303.out (by decide)) (fun _ hk => hk.2) (.int .i64 t299)) (fun _ hk => hk.2) (.slice Ao27 t300.length co27)) (fun _ h_ => h_.1))) hb); replace HO302 := Aside0.mk (Kd.R_below (by exact rk (Kd.R_mono (Kd.R_far (p := ⟨gb303, 1, none⟩) (Kd.R_far (p := ⟨gb303, 0, none⟩) (Kd.R_types HO302.out BK303.out (by decide)) (fun _ hk => hk.2) (.int .i64 t299)) (fun _ hk => hk.2) (.slice Ao27 t300.length co27)) (fun _ h_ => h_.1))) hb); replace BK292 := Aside0.mk (bb BK292.out hb); replace BK303 := Aside0.mk (blk_below (g := gb303) (o := .cells #[.int .i64 t299, .slice Ao27 t300.length co27] 36 (0, 0)) (by (with_reducible repeat (first | refine blk_drewN ?_ _ | refine blk_drew ?_ | refine blk_alloc ?_ _)); refine blk_put (cs := #[.int .i64 t299, .slice none 0 0]) ?_ 1 _ rfl; (with_reducible repeat (first | refine blk_drewN ?_ _ | refine blk_drew ?_ | refine blk_alloc ?_ _)); refine blk_put (cs := #[.int .i64 0, .slice none 0 0]) ?_ 0 _ rfl; (with_reducible repeat (first | refine blk_drewN ?_ _ | refine blk_drew ?_ | refine blk_alloc ?_ _)); exact BK303.out) hb); replace HB := Aside0.mk (below_step bel hb); (try clear hb)))
        replace HO297 := Aside0.mk (Kd.R_drew HO297.out)
        replace HO302 := Aside0.mk (Kd.R_drew HO302.out)
        replace BK292 := Aside0.mk (blk_drew BK292.out)
        replace BK303 := Aside0.mk (blk_drew BK303.out)
        replace HB := Aside0.mk (below_drew1 HB.out)
        refine start_ (n := 5) (S := fun w' => w'.cell? ⟨gb303, 0, none⟩ = some (.int .i64 t299) ∧ w'.cell? ⟨gb303, 1, none⟩ = some (.slice Ao27 t300.length co27) ∧ w'.cell? ⟨gb292, 0, none⟩ = some (.int .i64 a0_0) ∧ w'.cell? ⟨gb292, 1, none⟩ = some (.slice A0_1 l0_1.length c0_1)) (ds := []) #[false, false, false, false, false] (by kernel_rfl) rfl rfl ⟨(blk_cell BK303.out 0).trans rfl, (blk_cell BK303.out 1).trans rfl, (blk_cell BK292.out 0).trans rfl, (blk_cell BK292.out 1).trans rfl⟩ (fun hHeld => ?_)
        generalize w28.drew = w29 at HO297 HO302 BK292 BK303 HB hHeld ⊢
        refine take_ (i := 0) (N := some 22) (v := ?_) (a' := ?_) #[true, false, false, false, false] rfl rfl (by kernel_rfl) (fun _ _ _ h => h) (Or.inl ⟨by rfl, ?_⟩) hHeld ?_ ?_
        rotate_left
        · rintro w' ⟨s0, s1, s2, s3⟩
          go_simp
          with_reducible rfl
        rotate_left
        · simp only [Act.put, List.setIfInBounds_toArray, List.set_cons_zero, List.set_cons_succ, i64_w, i32_w]
          rfl
        refine take_ (i := 1) (N := some 23) (v := ?_) (a' := ?_) #[true, true, false, false, false] rfl rfl (by kernel_rfl) (fun _ _ _ h => h) (Or.inl ⟨by rfl, ?_⟩) hHeld ?_ ?_
        rotate_left
        · rintro w' ⟨s0, s1, s2, s3⟩
          go_simp
          with_reducible rfl
        rotate_left
        · simp only [Act.put, List.setIfInBounds_toArray, List.set_cons_zero, List.set_cons_succ, i64_w, i32_w]
          rfl
        refine one_ (i := 2) (N := some 24) #[true, true, true, false, false] rfl rfl (by kernel_rfl) (by decide) (fun K hK => ?_)
        refine goes_ Try.func29 (by kernel_rfl) rfl #[.agg #[.int .i64 a0_0, .slice A0_1 l0_1.length c0_1]] (by rfl) rfl rfl ga ?_
        with_reducible refine (laws_toCup.calls k a0_0 _ _ l0_1 t305 t306 _ ?side1 ?side2 A12.out).mono ?_
        (case side1 => exact ck (Kd.C_below HR0_1.out HB.out))
        (case side2 => exact HC0_1.out)
        rintro e w30 ⟨v307, rfl, ho0, hb⟩
        refine ⟨_, rfl, ?_⟩
        have HO308 := Aside0.mk (Kd.R_lower (Kd.R_new' (Kd.R_new' ho0 (Kd.R_lt (rk HO297.out))) (Kd.R_lt (rk HO302.out))) (below_size bel))
        replace HO297 := Aside0.mk (Kd.R_elder' (rk HO297.out) (Kd.R_base ho0) hb)
        replace HO302 := Aside0.mk (Kd.R_elder' (rk HO302.out) (Kd.R_base ho0) hb)
        replace BK292 := Aside0.mk (bb BK292.out hb)
        replace BK303 := Aside0.mk (bb BK303.out hb)
        replace HB := Aside0.mk (below_step bel hb)
        (try clear hb)
        (try clear hb2)
        (try clear hk)
        (try clear hi)
        (try clear ho0)
        obtain ⟨Ao31, co31, eo31⟩ := Kd.R_slice HO308.out
        (first | subst eo31 | (injection eo31 with f1_ f2_ f3_; have f4_ := f1_.symm; have f5_ := f3_.symm; clear f1_ f2_ f3_; subst f4_; subst f5_))
        refine hK.out _ _ ⟨(blk_cell BK303.out 0).trans rfl, (blk_cell BK303.out 1).trans rfl, (blk_cell BK292.out 0).trans rfl, (blk_cell BK292.out 1).trans rfl⟩ (fun hHeld => ?_)
        clear hK K
        refine norm_ (a' := ?_) ?_ ?_
        rotate_left
        · show Act.put _ (some 24) _ = _
          simp only [Act.put, List.setIfInBounds_toArray, List.set_cons_zero, List.set_cons_succ, i64_w, i32_w]
          rfl
        refine one_ (i := 3) (N := some 25) #[true, true, true, true, false] rfl rfl (by kernel_rfl) (by decide) (fun K hK => ?_)
        refine goes_ Try.func31 (by kernel_rfl) rfl #[.agg #[.int .i64 t299, .slice Ao27 t300.length co27], .agg #[.int .i64 t305, .slice Ao31 t306.length co31]] (by rfl) rfl rfl ga ?_
        with_reducible refine (laws_eqCup.calls k t299 _ _ t300 t305 _ _ t306 true _ ?side1 ?side2 ?side3 ?side4 A13.out).mono ?_
        (case side1 => exact ck (Kd.R_reads' HO302.out).2.2)
        (case side2 => exact (Kd.R_reads' HO302.out).2.1)
        (case side3 => exact ck (Kd.R_reads' HO308.out).2.2)
        (case side4 => exact (Kd.R_reads' HO308.out).2.1)
        rintro e w32 ⟨rfl, hb⟩
        refine ⟨_, rfl, ?_⟩
        replace HO297 := Aside0.mk (Kd.R_below (rk HO297.out) hb)
        replace HO302 := Aside0.mk (Kd.R_below (rk HO302.out) hb)
        replace HO308 := Aside0.mk (Kd.R_below (rk HO308.out) hb)
        replace BK292 := Aside0.mk (bb BK292.out hb)
        replace BK303 := Aside0.mk (bb BK303.out hb)
        replace HB := Aside0.mk (below_step bel hb)
        (try clear hb)
        (try clear hb2)
        (try clear hk)
        (try clear hi)
        refine hK.out _ _ ⟨(blk_cell BK303.out 0).trans rfl, (blk_cell BK303.out 1).trans rfl, (blk_cell BK292.out 0).trans rfl, (blk_cell BK292.out 1).trans rfl⟩ (fun hHeld => ?_)
        clear hK K
        refine norm_ (a' := ?_) ?_ ?_
        rotate_left
        · show Act.put _ (some 25) _ = _
          simp only [Act.put, List.setIfInBounds_toArray, List.set_cons_zero, List.set_cons_succ, i64_w, i32_w]
          rfl
        refine pure_ (i := 4) (N := some 26) (v := ?_) (a' := ?_) #[true, true, true, true, true] rfl rfl (by kernel_rfl) (fun _ _ _ h => h) (Or.inl ⟨by rfl, ?_⟩) ?_ ?_
        rotate_left
        · intro w'
          go_simp
          with_reducible rfl
        rotate_left
        · simp only [Act.put, List.setIfInBounds_toArray, List.set_cons_zero, List.set_cons_succ, i64_w, i32_w]
          rfl
        refine done_ (by kernel_rfl) ?_
        try go_wp2
        go_ret
        exact ⟨er, bel⟩
      · replace c14 := Bool.eq_false_iff.mpr c14
        subst c14
        have H1 : (some false) = some r := by rw [if_neg (show ¬ (false = true) by decide)] at H; exact H
        clear H
        have H := H1
        clear H1
        obtain rfl := Option.some.inj H
        go_enter Try.func10, Try.ntmps10
        try go_wp2_with (first | ((with_reducible refine gate_dst (N := 1) rfl ?_); refine box_event ?hg (N := 1) ?hd (cs := #[.int .i64 a0_0, .slice A0_1 l0_1.length c0_1]) (t := 32) ?hr ?_; (case hd => rfl); (case hg => rfl); (case hr => first | (go_simp; done) | (go_simp; rfl)); intro gb292 hg w33 hbox hb; have BK292 := Aside0.mk (hbox); have GW292 := Aside0.mk ((bsz hg : w.heap.size ≤ gb292)); have GE292 := Aside0.mk ((bsz hg : w.heap.size ≤ gb292)); replace HB := Aside0.mk (below_step bel hb); clear hb hbox hg; obtain ⟨hcz34_0, hcz34_1, hfz34_0, hfz34_1⟩ := cf2 BK292.out) | ((with_reducible refine gate_callee (f := 27) rfl ?_); refine goesL_ (some 9) rfl rfl Try.func27 (by kernel_rfl) rfl #[.agg #[.int .i64 a0_0, .slice A0_1 l0_1.length c0_1], .int .i64 1048576] rfl ga ?_; (with_reducible refine (laws_szCup.calls a0_0 _ _ l0_1 1048576 t293 _ ?side1 ?side2 A2.out).mono ?_); (case side1 => exact ck (Kd.C_below HR0_1.out HB.out)); (case side2 => exact HC0_1.out); rintro e w35 ⟨rfl, hb⟩; refine ⟨_, rfl, ?_⟩; replace BK292 := Aside0.mk (bb BK292.out hb); replace HB := Aside0.mk (below_step bel hb); (try clear hb); obtain ⟨hcz36_0, hcz36_1, hfz36_0, hfz36_1⟩ := cf2 BK292.out) | ((with_reducible refine gate_callee (f := 29) rfl ?_); refine goesL_ (some 13) rfl rfl Try.func29 (by kernel_rfl) rfl #[.agg #[.int .i64 a0_0, .slice A0_1 l0_1.length c0_1]] rfl ga ?_; (with_reducible refine (laws_toCup.calls k a0_0 _ _ l0_1 t294 t295 _ ?side1 ?side2 A7.out).mono ?_); (case side1 => exact ck (Kd.C_below HR0_1.out HB.out)); (case side2 => exact HC0_1.out); rintro e w37 ⟨v296, rfl, ho0, hb⟩; refine ⟨_, rfl, ?_⟩; have HO297 := Aside0.mk (Kd.R_lower ho0 (below_size bel)); replace BK292 := Aside0.mk (bb BK292.out hb); replace HB := Aside0.mk (below_step bel hb); (try clear hb); (try clear ho0); obtain ⟨Ao38, co38, eo38⟩ := Kd.R_slice HO297.out; subst eo38) | ((with_reducible refine gate_callee (f := 34) rfl ?_); refine goesL_ (some 14) rfl rfl Try.func34 (by kernel_rfl) rfl #[.agg #[.int .i64 t294, .slice Ao38 t295.length co38]] rfl ga ?_; (with_reducible refine (spec_ChampionOf.calls k t294 _ _ t295 t298 _ ?side1 ?side2 A8.out).mono ?_); (case side1 => exact ck (Kd.R_reads' HO297.out).2.2); (case side2 => exact (Kd.R_reads' HO297.out).2.1); rintro e w39 ⟨rfl, hb⟩; refine ⟨_, rfl, ?_⟩; replace HO297 := Aside0.mk (Kd.R_below (rk HO297.out) hb); replace BK292 := Aside0.mk (bb BK292.out hb); replace HB := Aside0.mk (below_step bel hb); (try clear hb); obtain ⟨hcz40_0, hcz40_1, hfz40_0, hfz40_1⟩ := cf2 BK292.out) | ((with_reducible refine gate_callee (f := 29) rfl ?_); refine goesL_ (some 16) rfl rfl Try.func29 (by kernel_rfl) rfl #[.agg #[.int .i64 a0_0, .slice A0_1 l0_1.length c0_1]] rfl ga ?_; (with_reducible refine (laws_toCup.calls k a0_0 _ _ l0_1 t299 t300 _ ?side1 ?side2 A9.out).mono ?_); (case side1 => exact ck (Kd.C_below HR0_1.out HB.out)); (case side2 => exact HC0_1.out); rintro e w41 ⟨v301, rfl, ho0, hb⟩; refine ⟨_, rfl, ?_⟩; have HO302 := Aside0.mk (Kd.R_lower (Kd.R_new' ho0 (Kd.R_lt (rk HO297.out))) (below_size bel)); replace HO297 := Aside0.mk (Kd.R_elder' (rk HO297.out) (Kd.R_base ho0) hb); replace BK292 := Aside0.mk (bb BK292.out hb); replace HB := Aside0.mk (below_step bel hb); (try clear hb); (try clear ho0)) | ((with_reducible refine gate_dst (N := 5) rfl ?_); refine box_event ?hg (N := 5) ?hd (cs := #[.int .i64 0, .slice none 0 0]) (t := 36) ?hr ?_; (case hd => rfl); (case hg => rfl); (case hr => first | (go_simp; done) | (go_simp; rfl)); intro gb303 hg w42 hbox hb; have BK303 := Aside0.mk (hbox); have GW303 := Aside0.mk ((bsz hg : w.heap.size ≤ gb303)); have GE303 := Aside0.mk ((bsz hg : w.heap.size ≤ gb303)); have NB292_303 := Aside0.mk ((nlt hg BK292.out : gb292 ≠ gb303)); have NB303_292 := Aside0.mk ((ngt hg BK292.out : gb303 ≠ gb292)); replace HO297 := Aside0.mk (Kd.R_below (rk HO297.out) hb); replace HO302 := Aside0.mk (Kd.R_below (rk HO302.out) hb); replace BK292 := Aside0.mk (bb BK292.out hb); replace HB := Aside0.mk (below_step bel hb); clear hb hbox hg; have hnb43 := NB303_292.out; have hnc43 := NB292_303.out; obtain ⟨hcz44_0, hcz44_1, hfz44_0, hfz44_1⟩ := cf2 BK303.out; obtain ⟨Ao45, co45, eo45⟩ := Kd.R_slice HO302.out; subst eo45) | ((with_reducible refine gate_callee (f := 35) rfl ?_); refine goesL_ (some 18) rfl rfl Try.func35 (by kernel_rfl) rfl #[.agg #[.int .i64 t299, .slice Ao45 t300.length co45]] rfl ga ?_; (with_reducible refine (impl_ChampionOf.calls k t299 _ _ t300 t304 _ ?side1 ?side2 A10.out).mono ?_); (case side1 => refine (Kd.R_reads' (e := 3) (base := w.heap.size) (ok := fun k_ => (True ∧ some k_ ≠ (.slice Ao38 t295.length co38 : Value).ownBlock)) (n := t300.length) (c := co45) ?_).2.2; exact (by exact rk (Kd.R_mono (Kd.R_far (p := ⟨gb303, 1, none⟩) (Kd.R_far (p := ⟨gb303, 0, none⟩) (Kd.R_types HO302.out BK303.out (by decide)) (fun _ hk => hk.2) (.int .i64 t299)) (fun _ hk => hk.2) (.slice Ao45 t300.length co45)) (fun _ h_ => h_.1)))); (case side2 => exact (Kd.R_reads' HO302.out).2.1); rintro e w46 ⟨rfl, hb⟩; refine ⟨_, rfl, ?_⟩; replace HO297 := Aside0.mk (Kd.R_below (by exact rk (Kd.R_mono (Kd.R_far (p := ⟨gb303, 1, none⟩) (Kd.R_far (p := ⟨gb303, 0, none⟩) (Kd.R_types HO297.out BK303.out (by decide)) (fun _ hk => hk.2) (.int .i64 t299)) (fun _ hk => hk.2) (.slice Ao45 t300.length co45)) (fun _ h_ => h_.1))) hb); replace HO302 := Aside0.mk (Kd.R_below (by exact rk (Kd.R_mono (Kd.R_far (p := ⟨gb303, 1, none⟩) (Kd.R_far (p := ⟨gb303, 0, none⟩) (Kd.R_types HO302.out BK303.out (by decide)) (fun _ hk => hk.2) (.int .i64 t299)) (fun _ hk => hk.2) (.slice Ao45 t300.length co45)) (fun _ h_ => h_.1))) hb); replace BK292 := Aside0.mk (bb BK292.out hb); replace BK303 := Aside0.mk (blk_below (g := gb303) (o := .cells #[.int .i64 t299, .slice Ao45 t300.length co45] 36 (0, 0)) (by (with_reducible repeat (first | refine blk_drewN ?_ _ | refine blk_drew ?_ | refine blk_alloc ?_ _)); refine blk_put (cs := #[.int .i64 t299, .slice none 0 0]) ?_ 1 _ rfl; (with_reducible repeat (first | refine blk_drewN ?_ _ | refine blk_drew ?_ | refine blk_alloc ?_ _)); refine blk_put (cs := #[.int .i64 0, .slice none 0 0]) ?_ 0 _ rfl; (with_reducible repeat (first | refine blk_drewN ?_ _ | refine blk_drew ?_ | refine blk_alloc ?_ _)); exact BK303.out) hb); replace HB := Aside0.mk (below_step bel hb); (try clear hb)))
        replace HO297 := Aside0.mk (Kd.R_drew HO297.out)
        replace HO302 := Aside0.mk (Kd.R_drew HO302.out)
        replace BK292 := Aside0.mk (blk_drew BK292.out)
        replace BK303 := Aside0.mk (blk_drew BK303.out)
        replace HB := Aside0.mk (below_drew1 HB.out)
        refine start_ (n := 5) (S := fun w' => w'.cell? ⟨gb303, 0, none⟩ = some (.int .i64 t299) ∧ w'.cell? ⟨gb303, 1, none⟩ = some (.slice Ao45 t300.length co45) ∧ w'.cell? ⟨gb292, 0, none⟩ = some (.int .i64 a0_0) ∧ w'.cell? ⟨gb292, 1, none⟩ = some (.slice A0_1 l0_1.length c0_1)) (ds := []) #[false, false, false, false, false] (by kernel_rfl) rfl rfl ⟨(blk_cell BK303.out 0).trans rfl, (blk_cell BK303.out 1).trans rfl, (blk_cell BK292.out 0).trans rfl, (blk_cell BK292.out 1).trans rfl⟩ (fun hHeld => ?_)
        generalize w46.drew = w47 at HO297 HO302 BK292 BK303 HB hHeld ⊢
        refine take_ (i := 0) (N := some 22) (v := ?_) (a' := ?_) #[true, false, false, false, false] rfl rfl (by kernel_rfl) (fun _ _ _ h => h) (Or.inl ⟨by rfl, ?_⟩) hHeld ?_ ?_
        rotate_left
        · rintro w' ⟨s0, s1, s2, s3⟩
          go_simp
          with_reducible rfl
        rotate_left
        · simp only [Act.put, List.setIfInBounds_toArray, List.set_cons_zero, List.set_cons_succ, i64_w, i32_w]
          rfl
        refine take_ (i := 1) (N := some 23) (v := ?_) (a' := ?_) #[true, true, false, false, false] rfl rfl (by kernel_rfl) (fun _ _ _ h => h) (Or.inl ⟨by rfl, ?_⟩) hHeld ?_ ?_
        rotate_left
        · rintro w' ⟨s0, s1, s2, s3⟩
          go_simp
          with_reducible rfl
        rotate_left
        · simp only [Act.put, List.setIfInBounds_toArray, List.set_cons_zero, List.set_cons_succ, i64_w, i32_w]
          rfl
        refine one_ (i := 2) (N := some 24) #[true, true, true, false, false] rfl rfl (by kernel_rfl) (by decide) (fun K hK => ?_)
        refine goes_ Try.func29 (by kernel_rfl) rfl #[.agg #[.int .i64 a0_0, .slice A0_1 l0_1.length c0_1]] (by rfl) rfl rfl ga ?_
        with_reducible refine (laws_toCup.calls k a0_0 _ _ l0_1 t305 t306 _ ?side1 ?side2 A12.out).mono ?_
        (case side1 => exact ck (Kd.C_below HR0_1.out HB.out))
        (case side2 => exact HC0_1.out)
        rintro e w48 ⟨v307, rfl, ho0, hb⟩
        refine ⟨_, rfl, ?_⟩
        have HO308 := Aside0.mk (Kd.R_lower (Kd.R_new' (Kd.R_new' ho0 (Kd.R_lt (rk HO297.out))) (Kd.R_lt (rk HO302.out))) (below_size bel))
        replace HO297 := Aside0.mk (Kd.R_elder' (rk HO297.out) (Kd.R_base ho0) hb)
        replace HO302 := Aside0.mk (Kd.R_elder' (rk HO302.out) (Kd.R_base ho0) hb)
        replace BK292 := Aside0.mk (bb BK292.out hb)
        replace BK303 := Aside0.mk (bb BK303.out hb)
        replace HB := Aside0.mk (below_step bel hb)
        (try clear hb)
        (try clear hb2)
        (try clear hk)
        (try clear hi)
        (try clear ho0)
        obtain ⟨Ao49, co49, eo49⟩ := Kd.R_slice HO308.out
        (first | subst eo49 | (injection eo49 with f1_ f2_ f3_; have f4_ := f1_.symm; have f5_ := f3_.symm; clear f1_ f2_ f3_; subst f4_; subst f5_))
        refine hK.out _ _ ⟨(blk_cell BK303.out 0).trans rfl, (blk_cell BK303.out 1).trans rfl, (blk_cell BK292.out 0).trans rfl, (blk_cell BK292.out 1).trans rfl⟩ (fun hHeld => ?_)
        clear hK K
        refine norm_ (a' := ?_) ?_ ?_
        rotate_left
        · show Act.put _ (some 24) _ = _
          simp only [Act.put, List.setIfInBounds_toArray, List.set_cons_zero, List.set_cons_succ, i64_w, i32_w]
          rfl
        refine one_ (i := 3) (N := some 25) #[true, true, true, true, false] rfl rfl (by kernel_rfl) (by decide) (fun K hK => ?_)
        refine goes_ Try.func31 (by kernel_rfl) rfl #[.agg #[.int .i64 t299, .slice Ao45 t300.length co45], .agg #[.int .i64 t305, .slice Ao49 t306.length co49]] (by rfl) rfl rfl ga ?_
        with_reducible refine (laws_eqCup.calls k t299 _ _ t300 t305 _ _ t306 false _ ?side1 ?side2 ?side3 ?side4 A13.out).mono ?_
        (case side1 => exact ck (Kd.R_reads' HO302.out).2.2)
        (case side2 => exact (Kd.R_reads' HO302.out).2.1)
        (case side3 => exact ck (Kd.R_reads' HO308.out).2.2)
        (case side4 => exact (Kd.R_reads' HO308.out).2.1)
        rintro e w50 ⟨rfl, hb⟩
        refine ⟨_, rfl, ?_⟩
        replace HO297 := Aside0.mk (Kd.R_below (rk HO297.out) hb)
        replace HO302 := Aside0.mk (Kd.R_below (rk HO302.out) hb)
        replace HO308 := Aside0.mk (Kd.R_below (rk HO308.out) hb)
        replace BK292 := Aside0.mk (bb BK292.out hb)
        replace BK303 := Aside0.mk (bb BK303.out hb)
        replace HB := Aside0.mk (below_step bel hb)
        (try clear hb)
        (try clear hb2)
        (try clear hk)
        (try clear hi)
        refine hK.out _ _ ⟨(blk_cell BK303.out 0).trans rfl, (blk_cell BK303.out 1).trans rfl, (blk_cell BK292.out 0).trans rfl, (blk_cell BK292.out 1).trans rfl⟩ (fun hHeld => ?_)
        clear hK K
        refine norm_ (a' := ?_) ?_ ?_
        rotate_left
        · show Act.put _ (some 25) _ = _
          simp only [Act.put, List.setIfInBounds_toArray, List.set_cons_zero, List.set_cons_succ, i64_w, i32_w]
          rfl
        refine pure_ (i := 4) (N := some 26) (v := ?_) (a' := ?_) #[true, true, true, true, true] rfl rfl (by kernel_rfl) (fun _ _ _ h => h) (Or.inl ⟨by rfl, ?_⟩) ?_ ?_
        rotate_left
        · intro w'
          go_simp
          with_reducible rfl
        rotate_left
        · simp only [Act.put, List.setIfInBounds_toArray, List.set_cons_zero, List.set_cons_succ, i64_w, i32_w]
          rfl
        refine done_ (by kernel_rfl) ?_
        try go_wp2
        go_ret
        exact ⟨er, bel⟩
    · rw [if_neg c11] at H
      have c11b0 : (t304 == t298) = false := beq_eq_false_iff_ne.mpr c11
      have c11b1 : (t304 != t298) = true := bne_iff_ne.mpr c11
      obtain rfl := Option.some.inj H
      go_enter Try.func10, Try.ntmps10
      go_wp2_with (first | ((with_reducible refine gate_dst (N := 1) rfl ?_); refine box_event ?hg (N := 1) ?hd (cs := #[.int .i64 a0_0, .slice A0_1 l0_1.length c0_1]) (t := 32) ?hr ?_; (case hd => rfl); (case hg => rfl); (case hr => first | (go_simp; done) | (go_simp; rfl)); intro gb292 hg w51 hbox hb; have BK292 := Aside0.mk (hbox); have GW292 := Aside0.mk ((bsz hg : w.heap.size ≤ gb292)); have GE292 := Aside0.mk ((bsz hg : w.heap.size ≤ gb292)); replace HB := Aside0.mk (below_step bel hb); clear hb hbox hg; obtain ⟨hcz52_0, hcz52_1, hfz52_0, hfz52_1⟩ := cf2 BK292.out) | ((with_reducible refine gate_callee (f := 27) rfl ?_); refine goesL_ (some 9) rfl rfl Try.func27 (by kernel_rfl) rfl #[.agg #[.int .i64 a0_0, .slice A0_1 l0_1.length c0_1], .int .i64 1048576] rfl ga ?_; (with_reducible refine (laws_szCup.calls a0_0 _ _ l0_1 1048576 t293 _ ?side1 ?side2 A2.out).mono ?_); (case side1 => exact ck (Kd.C_below HR0_1.out HB.out)); (case side2 => exact HC0_1.out); rintro e w53 ⟨rfl, hb⟩; refine ⟨_, rfl, ?_⟩; replace BK292 := Aside0.mk (bb BK292.out hb); replace HB := Aside0.mk (below_step bel hb); (try clear hb); obtain ⟨hcz54_0, hcz54_1, hfz54_0, hfz54_1⟩ := cf2 BK292.out) | ((with_reducible refine gate_callee (f := 29) rfl ?_); refine goesL_ (some 13) rfl rfl Try.func29 (by kernel_rfl) rfl #[.agg #[.int .i64 a0_0, .slice A0_1 l0_1.length c0_1]] rfl ga ?_; (with_reducible refine (laws_toCup.calls k a0_0 _ _ l0_1 t294 t295 _ ?side1 ?side2 A7.out).mono ?_); (case side1 => exact ck (Kd.C_below HR0_1.out HB.out)); (case side2 => exact HC0_1.out); rintro e w55 ⟨v296, rfl, ho0, hb⟩; refine ⟨_, rfl, ?_⟩; have HO297 := Aside0.mk (Kd.R_lower ho0 (below_size bel)); replace BK292 := Aside0.mk (bb BK292.out hb); replace HB := Aside0.mk (below_step bel hb); (try clear hb); (try clear ho0); obtain ⟨Ao56, co56, eo56⟩ := Kd.R_slice HO297.out; subst eo56) | ((with_reducible refine gate_callee (f := 34) rfl ?_); refine goesL_ (some 14) rfl rfl Try.func34 (by kernel_rfl) rfl #[.agg #[.int .i64 t294, .slice Ao56 t295.length co56]] rfl ga ?_; (with_reducible refine (spec_ChampionOf.calls k t294 _ _ t295 t298 _ ?side1 ?side2 A8.out).mono ?_); (case side1 => exact ck (Kd.R_reads' HO297.out).2.2); (case side2 => exact (Kd.R_reads' HO297.out).2.1); rintro e w57 ⟨rfl, hb⟩; refine ⟨_, rfl, ?_⟩; replace HO297 := Aside0.mk (Kd.R_below (rk HO297.out) hb); replace BK292 := Aside0.mk (bb BK292.out hb); replace HB := Aside0.mk (below_step bel hb); (try clear hb); obtain ⟨hcz58_0, hcz58_1, hfz58_0, hfz58_1⟩ := cf2 BK292.out) | ((with_reducible refine gate_callee (f := 29) rfl ?_); refine goesL_ (some 16) rfl rfl Try.func29 (by kernel_rfl) rfl #[.agg #[.int .i64 a0_0, .slice A0_1 l0_1.length c0_1]] rfl ga ?_; (with_reducible refine (laws_toCup.calls k a0_0 _ _ l0_1 t299 t300 _ ?side1 ?side2 A9.out).mono ?_); (case side1 => exact ck (Kd.C_below HR0_1.out HB.out)); (case side2 => exact HC0_1.out); rintro e w59 ⟨v301, rfl, ho0, hb⟩; refine ⟨_, rfl, ?_⟩; have HO302 := Aside0.mk (Kd.R_lower (Kd.R_new' ho0 (Kd.R_lt (rk HO297.out))) (below_size bel)); replace HO297 := Aside0.mk (Kd.R_elder' (rk HO297.out) (Kd.R_base ho0) hb); replace BK292 := Aside0.mk (bb BK292.out hb); replace HB := Aside0.mk (below_step bel hb); (try clear hb); (try clear ho0)) | ((with_reducible refine gate_dst (N := 5) rfl ?_); refine box_event ?hg (N := 5) ?hd (cs := #[.int .i64 0, .slice none 0 0]) (t := 36) ?hr ?_; (case hd => rfl); (case hg => rfl); (case hr => first | (go_simp; done) | (go_simp; rfl)); intro gb303 hg w60 hbox hb; have BK303 := Aside0.mk (hbox); have GW303 := Aside0.mk ((bsz hg : w.heap.size ≤ gb303)); have GE303 := Aside0.mk ((bsz hg : w.heap.size ≤ gb303)); have NB292_303 := Aside0.mk ((nlt hg BK292.out : gb292 ≠ gb303)); have NB303_292 := Aside0.mk ((ngt hg BK292.out : gb303 ≠ gb292)); replace HO297 := Aside0.mk (Kd.R_below (rk HO297.out) hb); replace HO302 := Aside0.mk (Kd.R_below (rk HO302.out) hb); replace BK292 := Aside0.mk (bb BK292.out hb); replace HB := Aside0.mk (below_step bel hb); clear hb hbox hg; have hnb61 := NB303_292.out; have hnc61 := NB292_303.out; obtain ⟨hcz62_0, hcz62_1, hfz62_0, hfz62_1⟩ := cf2 BK303.out; obtain ⟨Ao63, co63, eo63⟩ := Kd.R_slice HO302.out; subst eo63) | ((with_reducible refine gate_callee (f := 35) rfl ?_); refine goesL_ (some 18) rfl rfl Try.func35 (by kernel_rfl) rfl #[.agg #[.int .i64 t299, .slice Ao63 t300.length co63]] rfl ga ?_; (with_reducible refine (impl_ChampionOf.calls k t299 _ _ t300 t304 _ ?side1 ?side2 A10.out).mono ?_); (case side1 => refine (Kd.R_reads' (e := 3) (base := w.heap.size) (ok := fun k_ => (True ∧ some k_ ≠ (.slice Ao56 t295.length co56 : Value).ownBlock)) (n := t300.length) (c := co63) ?_).2.2; exact (by exact rk (Kd.R_mono (Kd.R_far (p := ⟨gb303, 1, none⟩) (Kd.R_far (p := ⟨gb303, 0, none⟩) (Kd.R_types HO302.out BK303.out (by decide)) (fun _ hk => hk.2) (.int .i64 t299)) (fun _ hk => hk.2) (.slice Ao63 t300.length co63)) (fun _ h_ => h_.1)))); (case side2 => exact (Kd.R_reads' HO302.out).2.1); rintro e w64 ⟨rfl, hb⟩; refine ⟨_, rfl, ?_⟩; replace HO297 := Aside0.mk (Kd.R_below (by exact rk (Kd.R_mono (Kd.R_far (p := ⟨gb303, 1, none⟩) (Kd.R_far (p := ⟨gb303, 0, none⟩) (Kd.R_types HO297.out BK303.out (by decide)) (fun _ hk => hk.2) (.int .i64 t299)) (fun _ hk => hk.2) (.slice Ao63 t300.length co63)) (fun _ h_ => h_.1))) hb); replace HO302 := Aside0.mk (Kd.R_below (by exact rk (Kd.R_mono (Kd.R_far (p := ⟨gb303, 1, none⟩) (Kd.R_far (p := ⟨gb303, 0, none⟩) (Kd.R_types HO302.out BK303.out (by decide)) (fun _ hk => hk.2) (.int .i64 t299)) (fun _ hk => hk.2) (.slice Ao63 t300.length co63)) (fun _ h_ => h_.1))) hb); replace BK292 := Aside0.mk (bb BK292.out hb); replace BK303 := Aside0.mk (blk_below (g := gb303) (o := .cells #[.int .i64 t299, .slice Ao63 t300.length co63] 36 (0, 0)) (by (with_reducible repeat (first | refine blk_drewN ?_ _ | refine blk_drew ?_ | refine blk_alloc ?_ _)); refine blk_put (cs := #[.int .i64 t299, .slice none 0 0]) ?_ 1 _ rfl; (with_reducible repeat (first | refine blk_drewN ?_ _ | refine blk_drew ?_ | refine blk_alloc ?_ _)); refine blk_put (cs := #[.int .i64 0, .slice none 0 0]) ?_ 0 _ rfl; (with_reducible repeat (first | refine blk_drewN ?_ _ | refine blk_drew ?_ | refine blk_alloc ?_ _)); exact BK303.out) hb); replace HB := Aside0.mk (below_step bel hb); (try clear hb)))
      go_ret
      exact ⟨er, bel⟩

end Go.Proofs.Ytpacmpppiphfjaa.X
