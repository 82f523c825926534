-- Written by a program of this session (wip/xp.py, over the kit's print) out of the translation: functions, and the walks that show them.
import Derived.Test.YtpacmpppiphfjaaX0
import Derived.Test.YtpacmpppiphfjaaX11
import Derived.Test.YtpacmpppiphfjaaX13
import Derived.Test.YtpacmpppiphfjaaX15
import Derived.Test.YtpacmpppiphfjaaX17
import Derived.Test.YtpacmpppiphfjaaX18
namespace Go.Proofs.Ytpacmpppiphfjaa.X
open Go.RowKit Go.Proofs.YtpacmpppiphfjaaW.PrintWords Go.Proofs.YtpacmpppiphfjaaW.PrintLast Go.Proofs.YtpacmpppiphfjaaW.PrintMore
attribute [local go_sem] max2_int min2_int max_two min_two max_three min_three max_four min_four   -- for this text's walks alone
set_option linter.unusedVariables false
set_option linter.unusedSimpArgs false

/-! ### laws_FnExactCupOk: function 9 -/
def laws_FnExactCupOk.f (k : Nat) (a0_0 : Int) (l0_1 : List Int) : Option (Bool) := (laws_szCup.f a0_0 l0_1 1048576).bind fun t269 => (if t269 < 0 then (some true) else ((laws_toCup.f k a0_0 l0_1).bind fun bt270 => ((spec_CupOk.f k bt270.1 bt270.2).bind fun t274 => ((laws_toCup.f k a0_0 l0_1).bind fun bt275 => ((impl_CupOk.f k bt275.1 bt275.2).bind fun t280 => (if (t280 != t274) = true then (some false) else ((laws_toCup.f k a0_0 l0_1).bind fun bt281 => ((laws_eqCup.f k bt275.1 bt275.2 bt281.1 bt281.2).bind fun t285 => (if t285 = true then (some true) else (some false))))))))))
theorem laws_FnExactCupOk.mono : ∀ a0 a1 k, LeO (laws_FnExactCupOk.f k a0 a1) (laws_FnExactCupOk.f (k + 1) a0 a1) := by
  intro a0 a1 k
  unfold laws_FnExactCupOk.f
  repeat' first
      | (with_reducible exact impl_CupOk.mono _ _ _)
      | (with_reducible exact laws_eqCup.mono _ _ _ _ _)
      | (with_reducible exact laws_toCup.mono _ _ _)
      | (with_reducible exact spec_CupOk.mono _ _ _)
      | (with_reducible exact LeO.refl _)
      | (with_reducible exact LeO.none _)
      | (with_reducible refine LeO.ite ?_ ?_)
      | (with_reducible refine LeO.bind ?_ (fun _ => ?_))
      | exact impl_CupOk.mono _ _ _
      | exact laws_eqCup.mono _ _ _ _ _
      | exact laws_toCup.mono _ _ _
      | exact spec_CupOk.mono _ _ _
      | exact LeO.none _
      | refine LeO.ite ?_ ?_
      | refine LeO.bind ?_ (fun _ => ?_)
set_option maxHeartbeats 8000000 in
set_option maxRecDepth 100000 in
theorem laws_FnExactCupOk.calls (k : Nat) (a0_0 : Int) (A0_1 : Option Addr) (c0_1 : Nat) (l0_1 : List Int) (r : Bool) (w : World) (hr0_1 : Kd.C (Kd.int .i64) w A0_1 l0_1.length l0_1) (hc0_1 : l0_1.length ≤ c0_1) (h : laws_FnExactCupOk.f k a0_0 l0_1 = some r) :
    Calls Try.prog 9 #[.agg #[.int .i64 a0_0, .slice A0_1 l0_1.length c0_1]] w fun e w' => e = .returned (.bool r) ∧ Below w.heap.size w w' := by
  have hu32 := Try.underlying32
  have hu36 := Try.underlying36
  have HR0_1 := Aside0.mk hr0_1
  have HC0_1 := Aside0.mk hc0_1
  clear hr0_1 hc0_1
  have HB := Aside0.mk (Below.refl w.heap.size w)
  have H : ((laws_szCup.f a0_0 l0_1 1048576).bind fun t269 => (if t269 < 0 then (some true) else ((laws_toCup.f k a0_0 l0_1).bind fun bt270 => ((spec_CupOk.f k bt270.1 bt270.2).bind fun t274 => ((laws_toCup.f k a0_0 l0_1).bind fun bt275 => ((impl_CupOk.f k bt275.1 bt275.2).bind fun t280 => (if (t280 != t274) = true then (some false) else ((laws_toCup.f k a0_0 l0_1).bind fun bt281 => ((laws_eqCup.f k bt275.1 bt275.2 bt281.1 bt281.2).bind fun t285 => (if t285 = true then (some true) else (some false))))))))))) = some r := h
  clear h
  replace H := Option.bind_eq_some_iff.mp H
  obtain ⟨t269, A20, H⟩ := H
  replace H : (if t269 < 0 then (some true) else ((laws_toCup.f k a0_0 l0_1).bind fun bt270 => ((spec_CupOk.f k bt270.1 bt270.2).bind fun t274 => ((laws_toCup.f k a0_0 l0_1).bind fun bt275 => ((impl_CupOk.f k bt275.1 bt275.2).bind fun t280 => (if (t280 != t274) = true then (some false) else ((laws_toCup.f k a0_0 l0_1).bind fun bt281 => ((laws_eqCup.f k bt275.1 bt275.2 bt281.1 bt281.2).bind fun t285 => (if t285 = true then (some true) else (some false)))))))))) = some r := H
  have A2 := Aside0.mk A20
  clear A20
  by_cases c3 : t269 < 0
  · rw [if_pos c3] at H
    have c3b0 : decide (t269 < 0) = true := decide_eq_true c3
    clear c3
    obtain rfl := Option.some.inj H
    go_enter Try.func9, Try.ntmps9
    go_wp2_with (first | ((with_reducible refine gate_dst (N := 1) rfl ?_); refine box_event ?hg (N := 1) ?hd (cs := #[.int .i64 a0_0, .slice A0_1 l0_1.length c0_1]) (t := 32) ?hr ?_; (case hd => rfl); (case hg => rfl); (case hr => first | (go_simp; done) | (go_simp; rfl)); intro gb268 hg w4 hbox hb; have BK268 := Aside0.mk (hbox); have GW268 := Aside0.mk ((bsz hg : w.heap.size ≤ gb268)); have GE268 := Aside0.mk ((bsz hg : w.heap.size ≤ gb268)); replace HB := Aside0.mk (below_step bel hb); clear hb hbox hg; obtain ⟨hcz5_0, hcz5_1, hfz5_0, hfz5_1⟩ := cf2 BK268.out) | ((with_reducible refine gate_callee (f := 27) rfl ?_); refine goesL_ (some 9) rfl rfl Try.func27 (by kernel_rfl) rfl #[.agg #[.int .i64 a0_0, .slice A0_1 l0_1.length c0_1], .int .i64 1048576] rfl ga ?_; (with_reducible refine (laws_szCup.calls a0_0 _ _ l0_1 1048576 t269 _ ?side1 ?side2 A2.out).mono ?_); (case side1 => exact ck (Kd.C_below HR0_1.out HB.out)); (case side2 => exact HC0_1.out); rintro e w6 ⟨rfl, hb⟩; refine ⟨_, rfl, ?_⟩; replace BK268 := Aside0.mk (bb BK268.out hb); replace HB := Aside0.mk (below_step bel hb); (try clear hb)))
    go_ret
    exact ⟨er, bel⟩
  · rw [if_neg c3] at H
    have c3b0 : decide (t269 < 0) = false := decide_eq_false c3
    clear c3
    replace H := Option.bind_eq_some_iff.mp H
    obtain ⟨⟨t270, t271⟩, A70, H⟩ := H
    replace H : ((spec_CupOk.f k t270 t271).bind fun t274 => ((laws_toCup.f k a0_0 l0_1).bind fun bt275 => ((impl_CupOk.f k bt275.1 bt275.2).bind fun t280 => (if (t280 != t274) = true then (some false) else ((laws_toCup.f k a0_0 l0_1).bind fun bt281 => ((laws_eqCup.f k bt275.1 bt275.2 bt281.1 bt281.2).bind fun t285 => (if t285 = true then (some true) else (some false)))))))) = some r := H
    have A7 := Aside0.mk A70
    clear A70
    replace H := Option.bind_eq_some_iff.mp H
    obtain ⟨t274, A80, H⟩ := H
    replace H : ((laws_toCup.f k a0_0 l0_1).bind fun bt275 => ((impl_CupOk.f k bt275.1 bt275.2).bind fun t280 => (if (t280 != t274) = true then (some false) else ((laws_toCup.f k a0_0 l0_1).bind fun bt281 => ((laws_eqCup.f k bt275.1 bt275.2 bt281.1 bt281.2).bind fun t285 => (if t285 = true then (some true) else (some false))))))) = some r := H
    have A8 := Aside0.mk A80
    clear A80
    replace H := Option.bind_eq_some_iff.mp H
    obtain ⟨⟨t275, t276⟩, A90, H⟩ := H
    replace H : ((impl_CupOk.f k t275 t276).bind fun t280 => (if (t280 != t274) = true then (some false) else ((laws_toCup.f k a0_0 l0_1).bind fun bt281 => ((laws_eqCup.f k t275 t276 bt281.1 bt281.2).bind fun t285 => (if t285 = true then (some true) else (some false)))))) = some r := H
    have A9 := Aside0.mk A90
    clear A90
    replace H := Option.bind_eq_some_iff.mp H
    obtain ⟨t280, A100, H⟩ := H
    replace H : (if (t280 != t274) = true then (some false) else ((laws_toCup.f k a0_0 l0_1).bind fun bt281 => ((laws_eqCup.f k t275 t276 bt281.1 bt281.2).bind fun t285 => (if t285 = true then (some true) else (some false))))) = some r := H
    have A10 := Aside0.mk A100
    clear A100
    by_cases c11 : (t280 != t274) = true
    · rw [if_pos c11] at H
      have c11b0 : (t280 != t274) = true := c11
      (try (have c11b1 : decide (t280 = t274) = false := by simpa using c11))
      (try (have c11b2 : (t280 == t274) = false := by simpa using c11))
      (try (have c11b3 : ¬ (t280 = t274) := by simpa using c11))
      clear c11
      obtain rfl := Option.some.inj H
      go_enter Try.func9, Try.ntmps9
      go_wp2_with (first | ((with_reducible refine gate_dst (N := 1) rfl ?_); refine box_event ?hg (N := 1) ?hd (cs := #[.int .i64 a0_0, .slice A0_1 l0_1.length c0_1]) (t := 32) ?hr ?_; (case hd => rfl); (case hg => rfl); (case hr => first | (go_simp; done) | (go_simp; rfl)); intro gb268 hg w12 hbox hb; have BK268 := Aside0.mk (hbox); have GW268 := Aside0.mk ((bsz hg : w.heap.size ≤ gb268)); have GE268 := Aside0.mk ((bsz hg : w.heap.size ≤ gb268)); replace HB := Aside0.mk (below_step bel hb); clear hb hbox hg; obtain ⟨hcz13_0, hcz13_1, hfz13_0, hfz13_1⟩ := cf2 BK268.out) | ((with_reducible refine gate_callee (f := 27) rfl ?_); refine goesL_ (some 9) rfl rfl Try.func27 (by kernel_rfl) rfl #[.agg #[.int .i64 a0_0, .slice A0_1 l0_1.length c0_1], .int .i64 1048576] rfl ga ?_; (with_reducible refine (laws_szCup.calls a0_0 _ _ l0_1 1048576 t269 _ ?side1 ?side2 A2.out).mono ?_); (case side1 => exact ck (Kd.C_below HR0_1.out HB.out)); (case side2 => exact HC0_1.out); rintro e w14 ⟨rfl, hb⟩; refine ⟨_, rfl, ?_⟩; replace BK268 := Aside0.mk (bb BK268.out hb); replace HB := Aside0.mk (below_step bel hb); (try clear hb); obtain ⟨hcz15_0, hcz15_1, hfz15_0, hfz15_1⟩ := cf2 BK268.out) | ((with_reducible refine gate_callee (f := 29) rfl ?_); refine goesL_ (some 13) rfl rfl Try.func29 (by kernel_rfl) rfl #[.agg #[.int .i64 a0_0, .slice A0_1 l0_1.length c0_1]] rfl ga ?_; (with_reducible refine (laws_toCup.calls k a0_0 _ _ l0_1 t270 t271 _ ?side1 ?side2 A7.out).mono ?_); (case side1 => exact ck (Kd.C_below HR0_1.out HB.out)); (case side2 => exact HC0_1.out); rintro e w16 ⟨v272, rfl, ho0, hb⟩; refine ⟨_, rfl, ?_⟩; have HO273 := Aside0.mk (Kd.R_lower ho0 (below_size bel)); replace BK268 := Aside0.mk (bb BK268.out hb); replace HB := Aside0.mk (below_step bel hb); (try clear hb); (try clear ho0); obtain ⟨Ao17, co17, eo17⟩ := Kd.R_slice HO273.out; subst eo17) | ((with_reducible refine gate_callee (f := 32) rfl ?_); refine goesL_ (some 14) rfl rfl Try.func32 (by kernel_rfl) rfl #[.agg #[.int .i64 t270, .slice Ao17 t271.length co17]] rfl ga ?_; (with_reducible refine (spec_CupOk.calls k t270 _ _ t271 t274 _ ?side1 ?side2 A8.out).mono ?_); (case side1 => exact ck (Kd.R_reads' HO273.out).2.2); (case side2 => exact (Kd.R_reads' HO273.out).2.1); rintro e w18 ⟨rfl, hb⟩; refine ⟨_, rfl, ?_⟩; replace HO273 := Aside0.mk (Kd.R_below (rk HO273.out) hb); replace BK268 := Aside0.mk (bb BK268.out hb); replace HB := Aside0.mk (below_step bel hb); (try clear hb); obtain ⟨hcz19_0, hcz19_1, hfz19_0, hfz19_1⟩ := cf2 BK268.out) | ((with_reducible refine gate_callee (f := 29) rfl ?_); refine goesL_ (some 16) rfl rfl Try.func29 (by kernel_rfl) rfl #[.agg #[.int .i64 a0_0, .slice A0_1 l0_1.length c0_1]] rfl ga ?_; (with_reducible refine (laws_toCup.calls k a0_0 _ _ l0_1 t275 t276 _ ?side1 ?side2 A9.out).mono ?_); (case side1 => exact ck (Kd.C_below HR0_1.out HB.out)); (case side2 => exact HC0_1.out); rintro e w20 ⟨v277, rfl, ho0, hb⟩; refine ⟨_, rfl, ?_⟩; have HO278 := Aside0.mk (Kd.R_lower (Kd.R_new' ho0 (Kd.R_lt (rk HO273.out))) (below_size bel)); replace HO273 := Aside0.mk (Kd.R_elder' (rk HO273.out) (Kd.R_base ho0) hb); replace BK268 := Aside0.mk (bb BK268.out hb); replace HB := Aside0.mk (below_step bel hb); (try clear hb); (try clear ho0)) | ((with_reducible refine gate_dst (N := 5) rfl ?_); refine box_event ?hg (N := 5) ?hd (cs := #[.int .i64 0, .slice none 0 0]) (t := 36) ?hr ?_; (case hd => rfl); (case hg => rfl); (case hr => first | (go_simp; done) | (go_simp; rfl)); intro gb279 hg w21 hbox hb; have BK279 := Aside0.mk (hbox); have GW279 := Aside0.mk ((bsz hg : w.heap.size ≤ gb279)); have GE279 := Aside0.mk ((bsz hg : w.heap.size ≤ gb279)); have NB268_279 := Aside0.mk ((nlt hg BK268.out : gb268 ≠ gb279)); have NB279_268 := Aside0.mk ((ngt hg BK268.out : gb279 ≠ gb268)); replace HO273 := Aside0.mk (Kd.R_below (rk HO273.out) hb); replace HO278 := Aside0.mk (Kd.R_below (rk HO278.out) hb); replace BK268 := Aside0.mk (bb BK268.out hb); replace HB := Aside0.mk (below_step bel hb); clear hb hbox hg; have hnb22 := NB279_268.out; have hnc22 := NB268_279.out; obtain ⟨hcz23_0, hcz23_1, hfz23_0, hfz23_1⟩ := cf2 BK279.out; obtain ⟨Ao24, co24, eo24⟩ := Kd.R_slice HO278.out; subst eo24) | ((with_reducible refine gate_callee (f := 33) rfl ?_); refine goesL_ (some 18) rfl rfl Try.func33 (by kernel_rfl) rfl #[.agg #[.int .i64 t275, .slice Ao24 t276.length co24]] rfl ga ?_; (with_reducible refine (impl_CupOk.calls k t275 _ _ t276 t280 _ ?side1 ?side2 A10.out).mono ?_); (case side1 => refine (Kd.R_reads' (e := 3) (base := w.heap.size) (ok := fun k_ => (True ∧ some k_ ≠ (.slice Ao17 t271.length co17 : Value).ownBlock)) (n := t276.length) (c := co24) ?_).2.2; exact (by exact rk (Kd.R_mono (Kd.R_far (p := ⟨gb279, 1, none⟩) (Kd.R_far (p := ⟨gb279, 0, none⟩) (Kd.R_types HO278.out BK279.out (by decide)) (fun _ hk => hk.2) (.int .i64 t275)) (fun _ hk => hk.2) (.slice Ao24 t276.length co24)) (fun _ h_ => h_.1)))); (case side2 => exact (Kd.R_reads' HO278.out).2.1); rintro e w25 ⟨rfl, hb⟩; refine ⟨_, rfl, ?_⟩; replace HO273 := Aside0.mk (Kd.R_below (by exact rk (Kd.R_mono (Kd.R_far (p := ⟨gb279, 1, none⟩) (Kd.R_far (p := ⟨gb279, 0, none⟩) (Kd.R_types HO273.out BK279.out (by decide)) (fun _ hk => hk.2) (.int .i64 t275)) (fun _ hk => hk.2) (.slice Ao24 t276.length co24)) (fun _ h_ => h_.1))) hb); replace HO278 := Aside0.mk (Kd.R_below (by exact rk (Kd.R_mono (Kd.R_far (p := ⟨gb279, 1, none⟩) (Kd.R_far (p := ⟨gb279, 0, none⟩) (Kd.R_types HO278.out BK279.out (by decide)) (fun _ hk => hk.2) (.int .i64 t275)) (fun _ hk => hk.2) (.slice Ao24 t276.length co24)) (fun _ h_ => h_.1))) hb); replace BK268 := Aside0.mk (bb BK268.out hb); replace BK279 := Aside0.mk (blk_below (g := gb279) (o := .cells #[.int .i64 t275, .slice Ao24 t276.length co24] 36 (0, 0)) (by (with_reducible repeat (first | refine blk_drewN ?_ _ | refine blk_drew ?_ | refine blk_alloc ?_ _)); refine blk_put (cs := #[.int .i64 t275, .slice none 0 0]) ?_ 1 _ rfl; (with_reducible repeat (first | refine blk_drewN ?_ _ | refine blk_drew ?_ | refine blk_alloc ?_ _)); refine blk_put (cs := #[.int .i64 0, .slice none 0 0]) ?_ 0 _ rfl; (with_reducible repeat (first | refine blk_drewN ?_ _ | refine blk_drew ?_ | refine blk_alloc ?_ _)); exact BK279.out) hb); replace HB := Aside0.mk (below_step bel hb); (try clear hb)))
      go_ret
      exact ⟨er, bel⟩
    · rw [if_neg c11] at H
      have c11b0 : (t280 != t274) = false := by simpa using c11
      (try (have c11b1 : decide (t280 = t274) = true := by simpa using c11))
      (try (have c11b2 : (t280 == t274) = true := by simpa using c11))
      clear c11
      replace H := Option.bind_eq_some_iff.mp H
      obtain ⟨⟨t281, t282⟩, A260, H⟩ := H
      replace H : ((laws_eqCup.f k t275 t276 t281 t282).bind fun t285 => (if t285 = true then (some true) else (some false))) = some r := H
      have A26 := Aside0.mk A260
      clear A260
      replace H := Option.bind_eq_some_iff.mp H
      obtain ⟨t285, A270, H⟩ := H
      replace H : (if t285 = true then (some true) else (some false)) = some r := H
      have A27 := Aside0.mk A270
      clear A270
      by_cases c28 : t285 = true
      · subst c28
        have H1 : (some true) = some r := by rw [if_pos rfl] at H; exact H
        clear H
        have H := H1
        clear H1
        obtain rfl := Option.some.inj H
        go_enter Try.func9, Try.ntmps9
        try go_wp2_with (first | ((with_reducible refine gate_dst (N := 1) rfl ?_); refine box_event ?hg (N := 1) ?hd (cs := #[.int .i64 a0_0, .slice A0_1 l0_1.length c0_1]) (t := 32) ?hr ?_; (case hd => rfl); (case hg => rfl); (case hr => first | (go_simp; done) | (go_simp; rfl)); intro gb268 hg w29 hbox hb; have BK268 := Aside0.mk (hbox); have GW268 := Aside0.mk ((bsz hg : w.heap.size ≤ gb268)); have GE268 := Aside0.mk ((bsz hg : w.heap.size ≤ gb268)); replace HB := Aside0.mk (below_step bel hb); clear hb hbox hg; obtain ⟨hcz30_0, hcz30_1, hfz30_0, hfz30_1⟩ := cf2 BK268.out) | ((with_reducible refine gate_callee (f := 27) rfl ?_); refine goesL_ (some 9) rfl rfl Try.func27 (by kernel_rfl) rfl #[.agg #[.int .i64 a0_0, .slice A0_1 l0_1.length c0_1], .int .i64 1048576] rfl ga ?_; (with_reducible refine (laws_szCup.calls a0_0 _ _ l0_1 1048576 t269 _ ?side1 ?side2 A2.out).mono ?_); (case side1 => exact ck (Kd.C_below HR0_1.out HB.out)); (case side2 => exact HC0_1.out); rintro e w31 ⟨rfl, hb⟩; refine ⟨_, rfl, ?_⟩; replace BK268 := Aside0.mk (bb BK268.out hb); replace HB := Aside0.mk (below_step bel hb); (try clear hb); obtain ⟨hcz32_0, hcz32_1, hfz32_0, hfz32_1⟩ := cf2 BK268.out) | ((with_reducible refine gate_callee (f := 29) rfl ?_); refine goesL_ (some 13) rfl rfl Try.func29 (by kernel_rfl) rfl #[.agg #[.int .i64 a0_0, .slice A0_1 l0_1.length c0_1]] rfl ga ?_; (with_reducible refine (laws_toCup.calls k a0_0 _ _ l0_1 t270 t271 _ ?side1 ?side2 A7.out).mono ?_); (case side1 => exact ck (Kd.C_below HR0_1.out HB.out)); (case side2 => exact HC0_1.out); rintro e w33 ⟨v272, rfl, ho0, hb⟩; refine ⟨_, rfl, ?_⟩; have HO273 := Aside0.mk (Kd.R_lower ho0 (below_size bel)); replace BK268 := Aside0.mk (bb BK268.out hb); replace HB := Aside0.mk (below_step bel hb); (try clear hb); (try clear ho0); obtain ⟨Ao34, co34, eo34⟩ := Kd.R_slice HO273.out; subst eo34) | ((with_reducible refine gate_callee (f := 32) rfl ?_); refine goesL_ (some 14) rfl rfl Try.func32 (by kernel_rfl) rfl #[.agg #[.int .i64 t270, .slice Ao34 t271.length co34]] rfl ga ?_; (with_reducible refine (spec_CupOk.calls k t270 _ _ t271 t274 _ ?side1 ?side2 A8.out).mono ?_); (case side1 => exact ck (Kd.R_reads' HO273.out).2.2); (case side2 => exact (Kd.R_reads' HO273.out).2.1); rintro e w35 ⟨rfl, hb⟩; refine ⟨_, rfl, ?_⟩; replace HO273 := Aside0.mk (Kd.R_below (rk HO273.out) hb); replace BK268 := Aside0.mk (bb BK268.out hb); replace HB := Aside0.mk (below_step bel hb); (try clear hb); obtain ⟨hcz36_0, hcz36_1, hfz36_0, hfz36_1⟩ := cf2 BK268.out) | ((with_reducible refine gate_callee (f := 29) rfl ?_); refine goesL_ (some 16) rfl rfl Try.func29 (by kernel_rfl) rfl #[.agg #[.int .i64 a0_0, .slice A0_1 l0_1.length c0_1]] rfl ga ?_; (with_reducible refine (laws_toCup.calls k a0_0 _ _ l0_1 t275 t276 _ ?side1 ?side2 A9.out).mono ?_); (case side1 => exact ck (Kd.C_below HR0_1.out HB.out)); (case side2 => exact HC0_1.out); rintro e w37 ⟨v277, rfl, ho0, hb⟩; refine ⟨_, rfl, ?_⟩; have HO278 := Aside0.mk (Kd.R_lower (Kd.R_new' ho0 (Kd.R_lt (rk HO273.out))) (below_size bel)); replace HO273 := Aside0.mk (Kd.R_elder' (rk HO273.out) (Kd.R_base ho0) hb); replace BK268 := Aside0.mk (bb BK268.out hb); replace HB := Aside0.mk (below_step bel hb); (try clear hb); (try clear ho0)) | ((with_reducible refine gate_dst (N := 5) rfl ?_); refine box_event ?hg (N := 5) ?hd (cs := #[.int .i64 0, .slice none 0 0]) (t := 36) ?hr ?_; (case hd => rfl); (case hg => rfl); (case hr => first | (go_simp; done) | (go_simp; rfl)); intro gb279 hg w38 hbox hb; have BK279 := Aside0.mk (hbox); have GW279 := Aside0.mk ((bsz hg : w.heap.size ≤ gb279)); have GE279 := Aside0.mk ((bsz hg : w.heap.size ≤ gb279)); have NB268_279 := Aside0.mk ((nlt hg BK268.out : gb268 ≠ gb279)); have NB279_268 := Aside0.mk ((ngt hg BK268.out : gb279 ≠ gb268)); replace HO273 := Aside0.mk (Kd.R_below (rk HO273.out) hb); replace HO278 := Aside0.mk (Kd.R_below (rk HO278.out) hb); replace BK268 := Aside0.mk (bb BK268.out hb); replace HB := Aside0.mk (below_step bel hb); clear hb hbox hg; have hnb39 := NB279_268.out; have hnc39 := NB268_279.out; obtain ⟨hcz40_0, hcz40_1, hfz40_0, hfz40_1⟩ := cf2 BK279.out; obtain ⟨Ao41, co41, eo41⟩ := Kd.R_slice HO278.out; subst eo41) | ((with_reducible refine gate_callee (f := 33) rfl ?_); refine goesL_ (some 18) rfl rfl Try.func33 (by kernel_rfl) rfl #[.agg #[.int .i64 t275, .slice Ao41 t276.length co41]] rfl ga ?_; (with_reducible refine (impl_CupOk.calls k t275 _ _ t276 t280 _ ?side1 ?side2 A10.out).mono ?_); (case side1 => refine (Kd.R_reads' (e := 3) (base := w.heap.size) (ok := fun k_ => (True ∧ some k_ ≠ (.slice Ao34 t271.length co34 : Value).ownBlock)) (n := t276.length) (c := co41) ?_).2.2; exact (by exact rk (Kd.R_mono (Kd.R_far (p := ⟨gb279, 1, none⟩) (Kd.R_far (p := ⟨gb279, 0, none⟩) (Kd.R_types HO278.out BK279.out (by decide)) (fun _ hk => hk.2) (.int .i64 t275)) (fun _ hk => hk.2) (.slice Ao41 t276.length co41)) (fun _ h_ => h_.1)))); (case side2 => exact (Kd.R_reads' HO278.out).2.1); rintro e w42 ⟨rfl, hb⟩; refine ⟨_, rfl, ?_⟩; replace HO273 := Aside0.mk (Kd.R_below (by exact rk (Kd.R_mono (Kd.R_far (p := ⟨gb279, 1, none⟩) (Kd.R_far (p := ⟨gb279, 0, none⟩) (Kd.R_types HO273.out BK279.out (by decide)) (fun _ hk => hk.2) (.int .i64 t275)) (fun _ hk => hk.2) (.slice Ao41 t276.length co41)) (fun _ h_ => h_.1))) hb); replace HO278 := Aside0.mk (Kd.R_below (by exact rk (Kd.R_mono (Kd.R_far (p := ⟨gb279, 1, none⟩) (Kd.R_far (p := ⟨gb279, 0, none⟩) (Kd.R_types HO278.out BK279.out (by decide)) (fun _ hk => hk.2) (.int .i64 t275)) (fun _ hk => hk.2) (.slice Ao41 t276.length co41)) (fun _ h_ => h_.1))) hb); replace BK268 := Aside0.mk (bb BK268.out hb); replace BK279 := Aside0.mk (blk_below (g := gb279) (o := .cells #[.int .i64 t275, .slice Ao41 t276.length co41] 36 (0, 0)) (by (with_reducible repeat (first | refine blk_drewN ?_ _ | refine blk_drew ?_ | refine blk_alloc ?_ _)); refine blk_put (cs := #[.int .i64 t275, .slice none 0 0]) ?_ 1 _ rfl; (with_reducible repeat (first | refine blk_drewN ?_ _ | refine blk_drew ?_ | refine blk_alloc ?_ _)); refine blk_put (cs := #[.int .i64 0, .slice none 0 0]) ?_ 0 _ rfl; (with_reducible repeat (first | refine blk_drewN ?_ _ | refine blk_drew ?_ | refine blk_alloc ?_ _)); exact BK279.out) hb); replace HB := Aside0.mk (below_step bel hb); (try clear hb)))
        replace HO273 := Aside0.mk (Kd.R_drew HO273.out)
        replace HO278 := Aside0.mk (Kd.R_drew HO278.out)
        replace BK268 := Aside0.mk (blk_drew BK268.out)
        replace BK279 := Aside0.mk (blk_drew BK279.out)
        replace HB := Aside0.mk (below_drew1 HB.out)
        refine start_ (n := 5) (S := fun w' => w'.cell? ⟨gb279, 0, none⟩ = some (.int .i64 t275) ∧ w'.cell? ⟨gb279, 1, none⟩ = some (.slice Ao41 t276.length co41) ∧ w'.cell? ⟨gb268, 0, none⟩ = some (.int .i64 a0_0) ∧ w'.cell? ⟨gb268, 1, none⟩ = some (.slice A0_1 l0_1.length c0_1)) (ds := []) #[false, false, false, false, false] (by kernel_rfl) rfl rfl ⟨(blk_cell BK279.out 0).trans rfl, (blk_cell BK279.out 1).trans rfl, (blk_cell BK268.out 0).trans rfl, (blk_cell BK268.out 1).trans rfl⟩ (fun hHeld => ?_)
        generalize w42.drew = w43 at HO273 HO278 BK268 BK279 HB hHeld ⊢
        refine take_ (i := 0) (N := some 22) (v := ?_) (a' := ?_) #[true, false, false, false, false] rfl rfl (by kernel_rfl) (fun _ _ _ h => h) (Or.inl ⟨by rfl, ?_⟩) hHeld ?_ ?_
        rotate_left
        · rintro w' ⟨s0, s1, s2, s3⟩
          go_simp
          with_reducible rfl
        rotate_left
        · simp only [Act.put, List.setIfInBounds_toArray, List.set_cons_zero, List.set_cons_succ, i64_w, i32_w]
          rfl
        refine take_ (i := 1) (N := some 23) (v := ?_) (a' := ?_) #[true, true, false, false, false] rfl rfl (by kernel_rfl) (fun _ _ _ h => h) (Or.inl ⟨by rfl, ?_⟩) hHeld ?_ ?_
        rotate_left
        · rintro w' ⟨s0, s1, s2, s3⟩
          go_simp
          with_reducible rfl
        rotate_left
        · simp only [Act.put, List.setIfInBounds_toArray, List.set_cons_zero, List.set_cons_succ, i64_w, i32_w]
          rfl
        refine one_ (i := 2) (N := some 24) #[true, true, true, false, false] rfl rfl (by kernel_rfl) (by decide) (fun K hK => ?_)
        refine goes_ Try.func29 (by kernel_rfl) rfl #[.agg #[.int .i64 a0_0, .slice A0_1 l0_1.length c0_1]] (by rfl) rfl rfl ga ?_
        with_reducible refine (laws_toCup.calls k a0_0 _ _ l0_1 t281 t282 _ ?side1 ?side2 A26.out).mono ?_
        (case side1 => exact ck (Kd.C_below HR0_1.out HB.out))
        (case side2 => exact HC0_1.out)
        rintro e w44 ⟨v283, rfl, ho0, hb⟩
        refine ⟨_, rfl, ?_⟩
        have HO284 := Aside0.mk (Kd.R_lower (Kd.R_new' (Kd.R_new' ho0 (Kd.R_lt (rk HO273.out))) (Kd.R_lt (rk HO278.out))) (below_size bel))
        replace HO273 := Aside0.mk (Kd.R_elder' (rk HO273.out) (Kd.R_base ho0) hb)
        replace HO278 := Aside0.mk (Kd.R_elder' (rk HO278.out) (Kd.R_base ho0) hb)
        replace BK268 := Aside0.mk (bb BK268.out hb)
        replace BK279 := Aside0.mk (bb BK279.out hb)
        replace HB := Aside0.mk (below_step bel hb)
        (try clear hb)
        (try clear hb2)
        (try clear hk)
        (try clear hi)
        (try clear ho0)
        obtain ⟨Ao45, co45, eo45⟩ := Kd.R_slice HO284.out
        (first | subst eo45 | (injection eo45 with f1_ f2_ f3_; have f4_ := f1_.symm; have f5_ := f3_.symm; clear f1_ f2_ f3_; subst f4_; subst f5_))
        refine hK.out _ _ ⟨(blk_cell BK279.out 0).trans rfl, (blk_cell BK279.out 1).trans rfl, (blk_cell BK268.out 0).trans rfl, (blk_cell BK268.out 1).trans rfl⟩ (fun hHeld => ?_)
        clear hK K
        refine norm_ (a' := ?_) ?_ ?_
        rotate_left
        · show Act.put _ (some 24) _ = _
          simp only [Act.put, List.setIfInBounds_toArray, List.set_cons_zero, List.set_cons_succ, i64_w, i32_w]
          rfl
        refine one_ (i := 3) (N := some 25) #[true, true, true, true, false] rfl rfl (by kernel_rfl) (by decide) (fun K hK => ?_)
        refine goes_ Try.func31 (by kernel_rfl) rfl #[.agg #[.int .i64 t275, .slice Ao41 t276.length co41], .agg #[.int .i64 t281, .slice Ao45 t282.length co45]] (by rfl) rfl rfl ga ?_
        with_reducible refine (laws_eqCup.calls k t275 _ _ t276 t281 _ _ t282 true _ ?side1 ?side2 ?side3 ?side4 A27.out).mono ?_
        (case side1 => exact ck (Kd.R_reads' HO278.out).2.2)
        (case side2 => exact (Kd.R_reads' HO278.out).2.1)
        (case side3 => exact ck (Kd.R_reads' HO284.out).2.2)
        (case side4 => exact (Kd.R_reads' HO284.out).2.1)
        rintro e w46 ⟨rfl, hb⟩
        refine ⟨_, rfl, ?_⟩
        replace HO273 := Aside0.mk (Kd.R_below (rk HO273.out) hb)
        replace HO278 := Aside0.mk (Kd.R_below (rk HO278.out) hb)
        replace HO284 := Aside0.mk (Kd.R_below (rk HO284.out) hb)
        replace BK268 := Aside0.mk (bb BK268.out hb)
        replace BK279 := Aside0.mk (bb BK279.out hb)
        replace HB := Aside0.mk (below_step bel hb)
        (try clear hb)
        (try clear hb2)
        (try clear hk)
        (try clear hi)
        refine hK.out _ _ ⟨(blk_cell BK279.out 0).trans rfl, (blk_cell BK279.out 1).trans rfl, (blk_cell BK268.out 0).trans rfl, (blk_cell BK268.out 1).trans rfl⟩ (fun hHeld => ?_)
        clear hK K
        refine norm_ (a' := ?_) ?_ ?_
        rotate_left
        · show Act.put _ (some 25) _ = _
          simp only [Act.put, List.setIfInBounds_toArray, List.set_cons_zero, List.set_cons_succ, i64_w, i32_w]
          rfl
        refine pure_ (i := 4) (N := some 26) (v := ?_) (a' := ?_) #[true, true, true, true, true] rfl rfl (by kernel_rfl) (fun _ _ _ h => h) (Or.inl ⟨by rfl, ?_⟩) ?_ ?_
        rotate_left
        · intro w'
          go_simp
          with_reducible rfl
        rotate_left
        · simp only [Act.put, List.setIfInBounds_toArray, List.set_cons_zero, List.set_cons_succ, i64_w, i32_w]
          rfl
        refine done_ (by kernel_rfl) ?_
        try go_wp2
        go_ret
        exact ⟨er, bel⟩
      · replace c28 := Bool.eq_false_iff.mpr c28
        subst c28
        have H1 : (some false) = some r := by rw [if_neg (show ¬ (false = true) by decide)] at H; exact H
        clear H
        have H := H1
        clear H1
        obtain rfl := Option.some.inj H
        go_enter Try.func9, Try.ntmps9
        try go_wp2_with (first | ((with_reducible refine gate_dst (N := 1) rfl ?_); refine box_event ?hg (N := 1) ?hd (cs := #[.int .i64 a0_0, .slice A0_1 l0_1.length c0_1]) (t := 32) ?hr ?_; (case hd => rfl); (case hg => rfl); (case hr => first | (go_simp; done) | (go_simp; rfl)); intro gb268 hg w47 hbox hb; have BK268 := Aside0.mk (hbox); have GW268 := Aside0.mk ((bsz hg : w.heap.size ≤ gb268)); have GE268 := Aside0.mk ((bsz hg : w.heap.size ≤ gb268)); replace HB := Aside0.mk (below_step bel hb); clear hb hbox hg; obtain ⟨hcz48_0, hcz48_1, hfz48_0, hfz48_1⟩ := cf2 BK268.out) | ((with_reducible refine gate_callee (f := 27) rfl ?_); refine goesL_ (some 9) rfl rfl Try.func27 (by kernel_rfl) rfl #[.agg #[.int .i64 a0_0, .slice A0_1 l0_1.length c0_1], .int .i64 1048576] rfl ga ?_; (with_reducible refine (laws_szCup.calls a0_0 _ _ l0_1 1048576 t269 _ ?side1 ?side2 A2.out).mono ?_); (case side1 => exact ck (Kd.C_below HR0_1.out HB.out)); (case side2 => exact HC0_1.out); rintro e w49 ⟨rfl, hb⟩; refine ⟨_, rfl, ?_⟩; replace BK268 := Aside0.mk (bb BK268.out hb); replace HB := Aside0.mk (below_step bel hb); (try clear hb); obtain ⟨hcz50_0, hcz50_1, hfz50_0, hfz50_1⟩ := cf2 BK268.out) | ((with_reducible refine gate_callee (f := 29) rfl ?_); refine goesL_ (some 13) rfl rfl Try.func29 (by kernel_rfl) rfl #[.agg #[.int .i64 a0_0, .slice A0_1 l0_1.length c0_1]] rfl ga ?_; (with_reducible refine (laws_toCup.calls k a0_0 _ _ l0_1 t270 t271 _ ?side1 ?side2 A7.out).mono ?_); (case side1 => exact ck (Kd.C_below HR0_1.out HB.out)); (case side2 => exact HC0_1.out); rintro e w51 ⟨v272, rfl, ho0, hb⟩; refine ⟨_, rfl, ?_⟩; have HO273 := Aside0.mk (Kd.R_lower ho0 (below_size bel)); replace BK268 := Aside0.mk (bb BK268.out hb); replace HB := Aside0.mk (below_step bel hb); (try clear hb); (try clear ho0); obtain ⟨Ao52, co52, eo52⟩ := Kd.R_slice HO273.out; subst eo52) | ((with_reducible refine gate_callee (f := 32) rfl ?_); refine goesL_ (some 14) rfl rfl Try.func32 (by kernel_rfl) rfl #[.agg #[.int .i64 t270, .slice Ao52 t271.length co52]] rfl ga ?_; (with_reducible refine (spec_CupOk.calls k t270 _ _ t271 t274 _ ?side1 ?side2 A8.out).mono ?_); (case side1 => exact ck (Kd.R_reads' HO273.out).2.2); (case side2 => exact (Kd.R_reads' HO273.out).2.1); rintro e w53 ⟨rfl, hb⟩; refine ⟨_, rfl, ?_⟩; replace HO273 := Aside0.mk (Kd.R_below (rk HO273.out) hb); replace BK268 := Aside0.mk (bb BK268.out hb); replace HB := Aside0.mk (below_step bel hb); (try clear hb); obtain ⟨hcz54_0, hcz54_1, hfz54_0, hfz54_1⟩ := cf2 BK268.out) | ((with_reducible refine gate_callee (f := 29) rfl ?_); refine goesL_ (some 16) rfl rfl Try.func29 (by kernel_rfl) rfl #[.agg #[.int .i64 a0_0, .slice A0_1 l0_1.length c0_1]] rfl ga ?_; (with_reducible refine (laws_toCup.calls k a0_0 _ _ l0_1 t275 t276 _ ?side1 ?side2 A9.out).mono ?_); (case side1 => exact ck (Kd.C_below HR0_1.out HB.out)); (case side2 => exact HC0_1.out); rintro e w55 ⟨v277, rfl, ho0, hb⟩; refine ⟨_, rfl, ?_⟩; have HO278 := Aside0.mk (Kd.R_lower (Kd.R_new' ho0 (Kd.R_lt (rk HO273.out))) (below_size bel)); replace HO273 := Aside0.mk (Kd.R_elder' (rk HO273.out) (Kd.R_base ho0) hb); replace BK268 := Aside0.mk (bb BK268.out hb); replace HB := Aside0.mk (below_step bel hb); (try clear hb); (try clear ho0)) | ((with_reducible refine gate_dst (N := 5) rfl ?_); refine box_event ?hg (N := 5) ?hd (cs := #[.int .i64 0, .slice none 0 0]) (t := 36) ?hr ?_; (case hd => rfl); (case hg => rfl); (case hr => first | (go_simp; done) | (go_simp; rfl)); intro gb279 hg w56 hbox hb; have BK279 := Aside0.mk (hbox); have GW279 := Aside0.mk ((bsz hg : w.heap.size ≤ gb279)); have GE279 := Aside0.mk ((bsz hg : w.heap.size ≤ gb279)); have NB268_279 := Aside0.mk ((nlt hg BK268.out : gb268 ≠ gb279)); have NB279_268 := Aside0.mk ((ngt hg BK268.out : gb279 ≠ gb268)); replace HO273 := Aside0.mk (Kd.R_below (rk HO273.out) hb); replace HO278 := Aside0.mk (Kd.R_below (rk HO278.out) hb); replace BK268 := Aside0.mk (bb BK268.out hb); replace HB := Aside0.mk (below_step bel hb); clear hb hbox hg; have hnb57 := NB279_268.out; have hnc57 := NB268_279.out; obtain ⟨hcz58_0, hcz58_1, hfz58_0, hfz58_1⟩ := cf2 BK279.out; obtain ⟨Ao59, co59, eo59⟩ := Kd.R_slice HO278.out; subst eo59) | ((with_reducible refine gate_callee (f := 33) rfl ?_); refine goesL_ (some 18) rfl rfl Try.func33 (by kernel_rfl) rfl #[.agg #[.int .i64 t275, .slice Ao59 t276.length co59]] rfl ga ?_; (with_reducible refine (impl_CupOk.calls k t275 _ _ t276 t280 _ ?side1 ?side2 A10.out).mono ?_); (case side1 => refine (Kd.R_reads' (e := 3) (base := w.heap.size) (ok := fun k_ => (True ∧ some k_ ≠ (.slice Ao52 t271.length co52 : Value).ownBlock)) (n := t276.length) (c := co59) ?_).2.2; exact (by exact rk (Kd.R_mono (Kd.R_far (p := ⟨gb279, 1, none⟩) (Kd.R_far (p := ⟨gb279, 0, none⟩) (Kd.R_types HO278.out BK279.out (by decide)) (fun _ hk => hk.2) (.int .i64 t275)) (fun _ hk => hk.2) (.slice Ao59 t276.length co59)) (fun _ h_ => h_.1)))); (case side2 => exact (Kd.R_reads' HO278.out).2.1); rintro e w60 ⟨rfl, hb⟩; refine ⟨_, rfl, ?_⟩; replace HO273 := Aside0.mk (Kd.R_below (by exact rk (Kd.R_mono (Kd.R_far (p := ⟨gb279, 1, none⟩) (Kd.R_far (p := ⟨gb279, 0, none⟩) (Kd.R_types HO273.out BK279.out (by decide)) (fun _ hk => hk.2) (.int .i64 t275)) (fun _ hk => hk.2) (.slice Ao59 t276.length co59)) (fun _ h_ => h_.1))) hb); replace HO278 := Aside0.mk (Kd.R_below (by exact rk (Kd.R_mono (Kd.R_far (p := ⟨gb279, 1, none⟩) (Kd.R_far (p := ⟨gb279, 0, none⟩) (Kd.R_types HO278.out BK279.out (by decide)) (fun _ hk => hk.2) (.int .i64 t275)) (fun _ hk => hk.2) (.slice Ao59 t276.length co59)) (fun _ h_ => h_.1))) hb); replace BK268 := Aside0.mk (bb BK268.out hb); replace BK279 := Aside0.mk (blk_below (g := gb279) (o := .cells #[.int .i64 t275, .slice Ao59 t276.length co59] 36 (0, 0)) (by (with_reducible repeat (first | refine blk_drewN ?_ _ | refine blk_drew ?_ | refine blk_alloc ?_ _)); refine blk_put (cs := #[.int .i64 t275, .slice none 0 0]) ?_ 1 _ rfl; (with_reducible repeat (first | refine blk_drewN ?_ _ | refine blk_drew ?_ | refine blk_alloc ?_ _)); refine blk_put (cs := #[.int .i64 0, .slice none 0 0]) ?_ 0 _ rfl; (with_reducible repeat (first | refine blk_drewN ?_ _ | refine blk_drew ?_ | refine blk_alloc ?_ _)); exact BK279.out) hb); replace HB := Aside0.mk (below_step bel hb); (try clear hb)))
        replace HO273 := Aside0.mk (Kd.R_drew HO273.out)
        replace HO278 := Aside0.mk (Kd.R_drew HO278.out)
        replace BK268 := Aside0.mk (blk_drew BK268.out)
        replace BK279 := Aside0.mk (blk_drew BK279.out)
        replace HB := Aside0.mk (below_drew1 HB.out)
        refine start_ (n := 5) (S := fun w' => w'.cell? ⟨gb279, 0, none⟩ = some (.int .i64 t275) ∧ w'.cell? ⟨gb279, 1, none⟩ = some (.slice Ao59 t276.length co59) ∧ w'.cell? ⟨gb268, 0, none⟩ = some (.int .i64 a0_0) ∧ w'.cell? ⟨gb268, 1, none⟩ = some (.slice A0_1 l0_1.length c0_1)) (ds := []) #[false, false, false, false, false] (by kernel_rfl) rfl rfl ⟨(blk_cell BK279.out 0).trans rfl, (blk_cell BK279.out 1).trans rfl, (blk_cell BK268.out 0).trans rfl, (blk_cell BK268.out 1).trans rfl⟩ (fun hHeld => ?_)
        generalize w60.drew = w61 at HO273 HO278 BK268 BK279 HB hHeld ⊢
        refine take_ (i := 0) (N := some 22) (v := ?_) (a' := ?_) #[true, false, false, false, false] rfl rfl (by kernel_rfl) (fun _ _ _ h => h) (Or.inl ⟨by rfl, ?_⟩) hHeld ?_ ?_
        rotate_left
        · rintro w' ⟨s0, s1, s2, s3⟩
          go_simp
          with_reducible rfl
        rotate_left
        · simp only [Act.put, List.setIfInBounds_toArray, List.set_cons_zero, List.set_cons_succ, i64_w, i32_w]
          rfl
        refine take_ (i := 1) (N := some 23) (v := ?_) (a' := ?_) #[true, true, false, false, false] rfl rfl (by kernel_rfl) (fun _ _ _ h => h) (Or.inl ⟨by rfl, ?_⟩) hHeld ?_ ?_
        rotate_left
        · rintro w' ⟨s0, s1, s2, s3⟩
          go_simp
          with_reducible rfl
        rotate_left
        · simp only [Act.put, List.setIfInBounds_toArray, List.set_cons_zero, List.set_cons_succ, i64_w, i32_w]
          rfl
        refine one_ (i := 2) (N := some 24) #[true, true, true, false, false] rfl rfl (by kernel_rfl) (by decide) (fun K hK => ?_)
        refine goes_ Try.func29 (by kernel_rfl) rfl #[.agg #[.int .i64 a0_0, .slice A0_1 l0_1.length c0_1]] (by rfl) rfl rfl ga ?_
        with_reducible refine (laws_toCup.calls k a0_0 _ _ l0_1 t281 t282 _ ?side1 ?side2 A26.out).mono ?_
        (case side1 => exact ck (Kd.C_below HR0_1.out HB.out))
        (case side2 => exact HC0_1.out)
        rintro e w62 ⟨v283, rfl, ho0, hb⟩
        refine ⟨_, rfl, ?_⟩
        have HO284 := Aside0.mk (Kd.R_lower (Kd.R_new' (Kd.R_new' ho0 (Kd.R_lt (rk HO273.out))) (Kd.R_lt (rk HO278.out))) (below_size bel))
        replace HO273 := Aside0.mk (Kd.R_elder' (rk HO273.out) (Kd.R_base ho0) hb)
        replace HO278 := Aside0.mk (Kd.R_elder' (rk HO278.out) (Kd.R_base ho0) hb)
        replace BK268 := Aside0.mk (bb BK268.out hb)
        replace BK279 := Aside0.mk (bb BK279.out hb)
        replace HB := Aside0.mk (below_step bel hb)
        (try clear hb)
        (try clear hb2)
        (try clear hk)
        (try clear hi)
        (try clear ho0)
        obtain ⟨Ao63, co63, eo63⟩ := Kd.R_slice HO284.out
        (first | subst eo63 | (injection eo63 with f1_ f2_ f3_; have f4_ := f1_.symm; have f5_ := f3_.symm; clear f1_ f2_ f3_; subst f4_; subst f5_))
        refine hK.out _ _ ⟨(blk_cell BK279.out 0).trans rfl, (blk_cell BK279.out 1).trans rfl, (blk_cell BK268.out 0).trans rfl, (blk_cell BK268.out 1).trans rfl⟩ (fun hHeld => ?_)
        clear hK K
        refine norm_ (a' := ?_) ?_ ?_
        rotate_left
        · show Act.put _ (some 24) _ = _
          simp only [Act.put, List.setIfInBounds_toArray, List.set_cons_zero, List.set_cons_succ, i64_w, i32_w]
          rfl
        refine one_ (i := 3) (N := some 25) #[true, true, true, true, false] rfl rfl (by kernel_rfl) (by decide) (fun K hK => ?_)
        refine goes_ Try.func31 (by kernel_rfl) rfl #[.agg #[.int .i64 t275, .slice Ao59 t276.length co59], .agg #[.int .i64 t281, .slice Ao63 t282.length co63]] (by rfl) rfl rfl ga ?_
        with_reducible refine (laws_eqCup.calls k t275 _ _ t276 t281 _ _ t282 false _ ?side1 ?side2 ?side3 ?side4 A27.out).mono ?_
        (case side1 => exact ck (Kd.R_reads' HO278.out).2.2)
        (case side2 => exact (Kd.R_reads' HO278.out).2.1)
        (case side3 => exact ck (Kd.R_reads' HO284.out).2.2)
        (case side4 => exact (Kd.R_reads' HO284.out).2.1)
        rintro e w64 ⟨rfl, hb⟩
        refine ⟨_, rfl, ?_⟩
        replace HO273 := Aside0.mk (Kd.R_below (rk HO273.out) hb)
        replace HO278 := Aside0.mk (Kd.R_below (rk HO278.out) hb)
        replace HO284 := Aside0.mk (Kd.R_below (rk HO284.out) hb)
        replace BK268 := Aside0.mk (bb BK268.out hb)
        replace BK279 := Aside0.mk (bb BK279.out hb)
        replace HB := Aside0.mk (below_step bel hb)
        (try clear hb)
        (try clear hb2)
        (try clear hk)
        (try clear hi)
        refine hK.out _ _ ⟨(blk_cell BK279.out 0).trans rfl, (blk_cell BK279.out 1).trans rfl, (blk_cell BK268.out 0).trans rfl, (blk_cell BK268.out 1).trans rfl⟩ (fun hHeld => ?_)
        clear hK K
        refine norm_ (a' := ?_) ?_ ?_
        rotate_left
        · show Act.put _ (some 25) _ = _
          simp only [Act.put, List.setIfInBounds_toArray, List.set_cons_zero, List.set_cons_succ, i64_w, i32_w]
          rfl
        refine pure_ (i := 4) (N := some 26) (v := ?_) (a' := ?_) #[true, true, true, true, true] rfl rfl (by kernel_rfl) (fun _ _ _ h => h) (Or.inl ⟨by rfl, ?_⟩) ?_ ?_
        rotate_left
        · intro w'
          go_simp
          with_reducible rfl
        rotate_left
        · simp only [Act.put, List.setIfInBounds_toArray, List.set_cons_zero, List.set_cons_succ, i64_w, i32_w]
          rfl
        refine done_ (by kernel_rfl) ?_
        try go_wp2
        go_ret
        exact ⟨er, bel⟩

end Go.Proofs.Ytpacmpppiphfjaa.X
