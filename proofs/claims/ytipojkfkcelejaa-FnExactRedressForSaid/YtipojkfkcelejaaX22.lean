-- Written by a program of this session (wip/xp.py, over the kit's print) out of the translation: functions, and the walks that show them.
import Derived.Test.YtipojkfkcelejaaX0
import Derived.Test.YtipojkfkcelejaaX15
import Derived.Test.YtipojkfkcelejaaX17
import Derived.Test.YtipojkfkcelejaaX18
import Derived.Test.YtipojkfkcelejaaX20
import Derived.Test.YtipojkfkcelejaaX21
namespace Go.Proofs.Ytipojkfkcelejaa.X
open Go.RowKit Go.Proofs.YtipojkfkcelejaaW.PrintWords Go.Proofs.YtipojkfkcelejaaW.PrintLast Go.Proofs.YtipojkfkcelejaaW.PrintMore
attribute [local go_sem] max2_int min2_int max_two min_two max_three min_three max_four min_four   -- for this text's walks alone
set_option linter.unusedVariables false
set_option linter.unusedSimpArgs false

/-! ### laws_FnExactRedressFor: function 5 -/
def laws_FnExactRedressFor.f (k : Nat) (a0_0 : Int) (l0_1 : List (List Int)) (a0_2 : Int) (a1 : Int) (a2 : Int) : Option (Bool) := (laws_szRegatta.f k a0_0 l0_1 a0_2 1048576).bind fun t341 => (if t341 < 0 then (some true) else ((laws_toRegatta.f k a0_0 l0_1 a0_2).bind fun bt342 => ((spec_RedressFor.f k bt342.1 bt342.2.1 bt342.2.2 a1 a2).bind fun t347 => ((laws_toRegatta.f k a0_0 l0_1 a0_2).bind fun bt348 => ((impl_RedressFor.f k bt348.1 bt348.2.1 bt348.2.2 a1 a2).bind fun t354 => (if t354 = t347 then ((laws_toRegatta.f k a0_0 l0_1 a0_2).bind fun bt355 => ((laws_eqRegatta.f k bt348.1 bt348.2.1 bt348.2.2 bt355.1 bt355.2.1 bt355.2.2).bind fun t360 => (if t360 = true then (some true) else (some false)))) else (some false)))))))
theorem laws_FnExactRedressFor.mono : ∀ a0 a1 a2 a3 a4 k, LeO (laws_FnExactRedressFor.f k a0 a1 a2 a3 a4) (laws_FnExactRedressFor.f (k + 1) a0 a1 a2 a3 a4) := by
  intro a0 a1 a2 a3 a4 k
  unfold laws_FnExactRedressFor.f
  repeat' first
      | (with_reducible exact impl_RedressFor.mono _ _ _ _ _ _)
      | (with_reducible exact laws_eqRegatta.mono _ _ _ _ _ _ _)
      | (with_reducible exact laws_szRegatta.mono _ _ _ _ _)
      | (with_reducible exact laws_toRegatta.mono _ _ _ _)
      | (with_reducible exact spec_RedressFor.mono _ _ _ _ _ _)
      | (with_reducible exact LeO.refl _)
      | (with_reducible exact LeO.none _)
      | (with_reducible refine LeO.ite ?_ ?_)
      | (with_reducible refine LeO.bind ?_ (fun _ => ?_))
      | exact impl_RedressFor.mono _ _ _ _ _ _
      | exact laws_eqRegatta.mono _ _ _ _ _ _ _
      | exact laws_szRegatta.mono _ _ _ _ _
      | exact laws_toRegatta.mono _ _ _ _
      | exact spec_RedressFor.mono _ _ _ _ _ _
      | exact LeO.none _
      | refine LeO.ite ?_ ?_
      | refine LeO.bind ?_ (fun _ => ?_)
set_option maxHeartbeats 8000000 in
set_option maxRecDepth 100000 in
theorem laws_FnExactRedressFor.calls (k : Nat) (a0_0 : Int) (A0_1 : Option Addr) (c0_1 : Nat) (l0_1 : List (List Int)) (a0_2 : Int) (a1 : Int) (a2 : Int) (r : Bool) (w : World) (hr0_1 : Kd.C (Kd.slice 3 (Kd.int .i64)) w A0_1 l0_1.length l0_1) (hc0_1 : l0_1.length ≤ c0_1) (h : laws_FnExactRedressFor.f k a0_0 l0_1 a0_2 a1 a2 = some r) :
    Calls Try.prog 5 #[.agg #[.int .i64 a0_0, .slice A0_1 l0_1.length c0_1, .int .i64 a0_2], .int .i64 a1, .int .i64 a2] w fun e w' => e = .returned (.bool r) ∧ Below w.heap.size w w' := by
  have hu28 := Try.underlying28
  have hu31 := Try.underlying31
  have HR0_1 := Aside0.mk hr0_1
  have HC0_1 := Aside0.mk hc0_1
  clear hr0_1 hc0_1
  have HB := Aside0.mk (Below.refl w.heap.size w)
  have H : ((laws_szRegatta.f k a0_0 l0_1 a0_2 1048576).bind fun t341 => (if t341 < 0 then (some true) else ((laws_toRegatta.f k a0_0 l0_1 a0_2).bind fun bt342 => ((spec_RedressFor.f k bt342.1 bt342.2.1 bt342.2.2 a1 a2).bind fun t347 => ((laws_toRegatta.f k a0_0 l0_1 a0_2).bind fun bt348 => ((impl_RedressFor.f k bt348.1 bt348.2.1 bt348.2.2 a1 a2).bind fun t354 => (if t354 = t347 then ((laws_toRegatta.f k a0_0 l0_1 a0_2).bind fun bt355 => ((laws_eqRegatta.f k bt348.1 bt348.2.1 bt348.2.2 bt355.1 bt355.2.1 bt355.2.2).bind fun t360 => (if t360 = true then (some true) else (some false)))) else (some false)))))))) = some r := h
  clear h
  replace H := Option.bind_eq_some_iff.mp H
  obtain ⟨t341, A40, H⟩ := H
  replace H : (if t341 < 0 then (some true) else ((laws_toRegatta.f k a0_0 l0_1 a0_2).bind fun bt342 => ((spec_RedressFor.f k bt342.1 bt342.2.1 bt342.2.2 a1 a2).bind fun t347 => ((laws_toRegatta.f k a0_0 l0_1 a0_2).bind fun bt348 => ((impl_RedressFor.f k bt348.1 bt348.2.1 bt348.2.2 a1 a2).bind fun t354 => (if t354 = t347 then ((laws_toRegatta.f k a0_0 l0_1 a0_2).bind fun bt355 => ((laws_eqRegatta.f k bt348.1 bt348.2.1 bt348.2.2 bt355.1 bt355.2.1 bt355.2.2).bind fun t360 => (if t360 = true then (some true) else (some false)))) else (some false))))))) = some r := H
  have A4 := Aside0.mk A40
  clear A40
  by_cases c5 : t341 < 0
  · rw [if_pos c5] at H
    have c5b0 : decide (t341 < 0) = true := decide_eq_true c5
    clear c5
    obtain rfl := Option.some.inj H
    go_enter Try.func5, Try.ntmps5
    go_wp2_with (first | ((with_reducible refine gate_dst (N := 3) rfl ?_); refine box_event ?hg (N := 3) ?hd (cs := #[.int .i64 a0_0, .slice A0_1 l0_1.length c0_1, .int .i64 a0_2]) (t := 28) ?hr ?_; (case hd => rfl); (case hg => rfl); (case hr => first | (go_simp; done) | (go_simp; rfl)); intro gb340 hg w6 hbox hb; have BK340 := Aside0.mk (hbox); have GW340 := Aside0.mk ((bsz hg : w.heap.size ≤ gb340)); have GE340 := Aside0.mk ((bsz hg : w.heap.size ≤ gb340)); replace HB := Aside0.mk (below_step bel hb); clear hb hbox hg; obtain ⟨hcz7_0, hcz7_1, hcz7_2, hfz7_0, hfz7_1, hfz7_2⟩ := cf3 BK340.out) | ((with_reducible refine gate_callee (f := 14) rfl ?_); refine goesL_ (some 13) rfl rfl Try.func14 (by kernel_rfl) rfl #[.agg #[.int .i64 a0_0, .slice A0_1 l0_1.length c0_1, .int .i64 a0_2], .int .i64 1048576] rfl ga ?_; (with_reducible refine (laws_szRegatta.calls k a0_0 _ _ l0_1 a0_2 1048576 t341 _ ?side1 ?side2 A4.out).mono ?_); (case side1 => exact ck (Kd.C_below HR0_1.out HB.out)); (case side2 => exact HC0_1.out); rintro e w8 ⟨rfl, hb⟩; refine ⟨_, rfl, ?_⟩; replace BK340 := Aside0.mk (bb BK340.out hb); replace HB := Aside0.mk (below_step bel hb); (try clear hb)))
    go_ret
    exact ⟨er, bel⟩
  · rw [if_neg c5] at H
    have c5b0 : decide (t341 < 0) = false := decide_eq_false c5
    clear c5
    replace H := Option.bind_eq_some_iff.mp H
    obtain ⟨⟨t342, t343, t346⟩, A90, H⟩ := H
    replace H : ((spec_RedressFor.f k t342 t343 t346 a1 a2).bind fun t347 => ((laws_toRegatta.f k a0_0 l0_1 a0_2).bind fun bt348 => ((impl_RedressFor.f k bt348.1 bt348.2.1 bt348.2.2 a1 a2).bind fun t354 => (if t354 = t347 then ((laws_toRegatta.f k a0_0 l0_1 a0_2).bind fun bt355 => ((laws_eqRegatta.f k bt348.1 bt348.2.1 bt348.2.2 bt355.1 bt355.2.1 bt355.2.2).bind fun t360 => (if t360 = true then (some true) else (some false)))) else (some false))))) = some r := H
    have A9 := Aside0.mk A90
    clear A90
    replace H := Option.bind_eq_some_iff.mp H
    obtain ⟨t347, A100, H⟩ := H
    replace H : ((laws_toRegatta.f k a0_0 l0_1 a0_2).bind fun bt348 => ((impl_RedressFor.f k bt348.1 bt348.2.1 bt348.2.2 a1 a2).bind fun t354 => (if t354 = t347 then ((laws_toRegatta.f k a0_0 l0_1 a0_2).bind fun bt355 => ((laws_eqRegatta.f k bt348.1 bt348.2.1 bt348.2.2 bt355.1 bt355.2.1 bt355.2.2).bind fun t360 => (if t360 = true then (some true) else (some false)))) else (some false)))) = some r := H
    have A10 := Aside0.mk A100
    clear A100
    replace H := Option.bind_eq_some_iff.mp H
    obtain ⟨⟨t348, t349, t352⟩, A110, H⟩ := H
    replace H : ((impl_RedressFor.f k t348 t349 t352 a1 a2).bind fun t354 => (if t354 = t347 then ((laws_toRegatta.f k a0_0 l0_1 a0_2).bind fun bt355 => ((laws_eqRegatta.f k t348 t349 t352 bt355.1 bt355.2.1 bt355.2.2).bind fun t360 => (if t360 = true then (some true) else (some false)))) else (some false))) = some r := H
    have A11 := Aside0.mk A110
    clear A110
    replace H := Option.bind_eq_some_iff.mp H
    obtain ⟨t354, A120, H⟩ := H
    replace H : (if t354 = t347 then ((laws_toRegatta.f k a0_0 l0_1 a0_2).bind fun bt355 => ((laws_eqRegatta.f k t348 t349 t352 bt355.1 bt355.2.1 bt355.2.2).bind fun t360 => (if t360 = true then (some true) else (some false)))) else (some false)) = some r := H
    have A12 := Aside0.mk A120
    clear A120
    by_cases c13 : t354 = t347
    · rw [if_pos c13] at H
      have c13b0 : (t354 == t347) = true := beq_iff_eq.mpr c13
      have c13b1 : (t354 != t347) = false := bne_eq_false_iff_eq.mpr c13
      clear c13
      replace H := Option.bind_eq_some_iff.mp H
      obtain ⟨⟨t355, t356, t359⟩, A140, H⟩ := H
      replace H : ((laws_eqRegatta.f k t348 t349 t352 t355 t356 t359).bind fun t360 => (if t360 = true then (some true) else (some false))) = some r := H
      have A14 := Aside0.mk A140
      clear A140
      replace H := Option.bind_eq_some_iff.mp H
      obtain ⟨t360, A150, H⟩ := H
      replace H : (if t360 = true then (some true) else (some false)) = some r := H
      have A15 := Aside0.mk A150
      clear A150
      by_cases c16 : t360 = true
      · subst c16
        have H1 : (some true) = some r := by rw [if_pos rfl] at H; exact H
        clear H
        have H := H1
        clear H1
        obtain rfl := Option.some.inj H
        go_enter Try.func5, Try.ntmps5
        try go_wp2_with (first | ((with_reducible refine gate_dst (N := 3) rfl ?_); refine box_event ?hg (N := 3) ?hd (cs := #[.int .i64 a0_0, .slice A0_1 l0_1.length c0_1, .int .i64 a0_2]) (t := 28) ?hr ?_; (case hd => rfl); (case hg => rfl); (case hr => first | (go_simp; done) | (go_simp; rfl)); intro gb340 hg w17 hbox hb; have BK340 := Aside0.mk (hbox); have GW340 := Aside0.mk ((bsz hg : w.heap.size ≤ gb340)); have GE340 := Aside0.mk ((bsz hg : w.heap.size ≤ gb340)); replace HB := Aside0.mk (below_step bel hb); clear hb hbox hg; obtain ⟨hcz18_0, hcz18_1, hcz18_2, hfz18_0, hfz18_1, hfz18_2⟩ := cf3 BK340.out) | ((with_reducible refine gate_callee (f := 14) rfl ?_); refine goesL_ (some 13) rfl rfl Try.func14 (by kernel_rfl) rfl #[.agg #[.int .i64 a0_0, .slice A0_1 l0_1.length c0_1, .int .i64 a0_2], .int .i64 1048576] rfl ga ?_; (with_reducible refine (laws_szRegatta.calls k a0_0 _ _ l0_1 a0_2 1048576 t341 _ ?side1 ?side2 A4.out).mono ?_); (case side1 => exact ck (Kd.C_below HR0_1.out HB.out)); (case side2 => exact HC0_1.out); rintro e w19 ⟨rfl, hb⟩; refine ⟨_, rfl, ?_⟩; replace BK340 := Aside0.mk (bb BK340.out hb); replace HB := Aside0.mk (below_step bel hb); (try clear hb); obtain ⟨hcz20_0, hcz20_1, hcz20_2, hfz20_0, hfz20_1, hfz20_2⟩ := cf3 BK340.out) | ((with_reducible refine gate_callee (f := 16) rfl ?_); refine goesL_ (some 17) rfl rfl Try.func16 (by kernel_rfl) rfl #[.agg #[.int .i64 a0_0, .slice A0_1 l0_1.length c0_1, .int .i64 a0_2]] rfl ga ?_; (with_reducible refine (laws_toRegatta.calls k a0_0 _ _ l0_1 a0_2 t342 t343 t346 _ ?side1 ?side2 A9.out).mono ?_); (case side1 => exact ck (Kd.C_below HR0_1.out HB.out)); (case side2 => exact HC0_1.out); rintro e w21 ⟨v344, rfl, ho0, hb⟩; refine ⟨_, rfl, ?_⟩; have HO345 := Aside0.mk (Kd.S_lower ho0 (below_size bel)); replace BK340 := Aside0.mk (bb BK340.out hb); replace HB := Aside0.mk (below_step bel hb); (try clear hb); (try clear ho0); obtain ⟨Ao22, co22, eo22⟩ := Kd.S_slice HO345.out; subst eo22) | ((with_reducible refine gate_callee (f := 19) rfl ?_); refine goesL_ (some 20) rfl rfl Try.func19 (by kernel_rfl) rfl #[.agg #[.int .i64 t342, .slice Ao22 t343.length co22, .int .i64 t346], .int .i64 a1, .int .i64 a2] rfl ga ?_; (with_reducible refine (spec_RedressFor.calls k t342 _ _ t343 t346 a1 a2 t347 _ ?side1 ?side2 A10.out).mono ?_); (case side1 => repeat (first | exact (Kd.S_reads' HO345.out).2.2 | (with_reducible refine Kd.C_alloc ?_ _) | (with_reducible refine Kd.C_drewN ?_ _) | (with_reducible refine Kd.C_drew ?_))); (case side2 => exact (Kd.S_reads' HO345.out).2.1); rintro e w23 ⟨rfl, hb⟩; refine ⟨_, rfl, ?_⟩; replace HO345 := Aside0.mk (Kd.S_below (by (with_reducible repeat (first | apply Kd.S_alloc | apply Kd.S_drewN | apply Kd.S_drew)); exact HO345.out) hb); replace BK340 := Aside0.mk (bb BK340.out hb); replace HB := Aside0.mk (below_step bel hb); (try clear hb); obtain ⟨hcz24_0, hcz24_1, hcz24_2, hfz24_0, hfz24_1, hfz24_2⟩ := cf3 BK340.out) | ((with_reducible refine gate_callee (f := 16) rfl ?_); refine goesL_ (some 22) rfl rfl Try.func16 (by kernel_rfl) rfl #[.agg #[.int .i64 a0_0, .slice A0_1 l0_1.length c0_1, .int .i64 a0_2]] rfl ga ?_; (with_reducible refine (laws_toRegatta.calls k a0_0 _ _ l0_1 a0_2 t348 t349 t352 _ ?side1 ?side2 A11.out).mono ?_); (case side1 => exact ck (Kd.C_below HR0_1.out HB.out)); (case side2 => exact HC0_1.out); rintro e w25 ⟨v350, rfl, ho0, hb⟩; refine ⟨_, rfl, ?_⟩; have HO351 := Aside0.mk (Kd.S_lower (Kd.S_new' ho0 (Kd.S_lt (by (with_reducible repeat (first | apply Kd.S_alloc | apply Kd.S_drewN | apply Kd.S_drew)); exact HO345.out))) (below_size bel)); replace HO345 := Aside0.mk (Kd.S_elder' (by (with_reducible repeat (first | apply Kd.S_alloc | apply Kd.S_drewN | apply Kd.S_drew)); exact HO345.out) (Kd.S_base ho0) hb); replace BK340 := Aside0.mk (bb BK340.out hb); replace HB := Aside0.mk (below_step bel hb); (try clear hb); (try clear ho0)) | ((with_reducible refine gate_dst (N := 9) rfl ?_); refine box_event ?hg (N := 9) ?hd (cs := #[.int .i64 0, .slice none 0 0, .int .i64 0]) (t := 31) ?hr ?_; (case hd => rfl); (case hg => rfl); (case hr => first | (go_simp; done) | (go_simp; rfl)); intro gb353 hg w26 hbox hb; have BK353 := Aside0.mk (hbox); have GW353 := Aside0.mk ((bsz hg : w.heap.size ≤ gb353)); have GE353 := Aside0.mk ((bsz hg : w.heap.size ≤ gb353)); have NB340_353 := Aside0.mk ((nlt hg BK340.out : gb340 ≠ gb353)); have NB353_340 := Aside0.mk ((ngt hg BK340.out : gb353 ≠ gb340)); replace HO345 := Aside0.mk (Kd.S_below (by (with_reducible repeat (first | apply Kd.S_alloc | apply Kd.S_drewN | apply Kd.S_drew)); exact HO345.out) hb); replace HO351 := Aside0.mk (Kd.S_below (by (with_reducible repeat (first | apply Kd.S_alloc | apply Kd.S_drewN | apply Kd.S_drew)); exact HO351.out) hb); replace BK340 := Aside0.mk (bb BK340.out hb); replace HB := Aside0.mk (below_step bel hb); clear hb hbox hg; have hnb27 := NB353_340.out; have hnc27 := NB340_353.out; obtain ⟨hcz28_0, hcz28_1, hcz28_2, hfz28_0, hfz28_1, hfz28_2⟩ := cf3 BK353.out; obtain ⟨Ao29, co29, eo29⟩ := Kd.S_slice HO351.out; subst eo29) | ((with_reducible refine gate_callee (f := 20) rfl ?_); refine goesL_ (some 26) rfl rfl Try.func20 (by kernel_rfl) rfl #[.agg #[.int .i64 t348, .slice Ao29 t349.length co29, .int .i64 t352], .int .i64 a1, .int .i64 a2] rfl ga ?_; (with_reducible refine (impl_RedressFor.calls k t348 _ _ t349 t352 a1 a2 t354 _ ?side1 ?side2 A12.out).mono ?_); (case side1 => refine (Kd.S_reads' (e := 22) (base := w.heap.size) (ok := fun k_ => (True ∧ some k_ ≠ (.slice Ao22 t343.length co22 : Value).ownBlock)) (n := t349.length) (c := co29) ?_).2.2; exact (by (with_reducible repeat (first | apply Kd.S_alloc | apply Kd.S_drewN | apply Kd.S_drew)); exact (Kd.S_mono (Kd.S_far (p := ⟨gb353, 2, none⟩) (Kd.S_far (p := ⟨gb353, 1, none⟩) (Kd.S_far (p := ⟨gb353, 0, none⟩) (Kd.S_types HO351.out BK353.out (by decide)) (fun _ hk => hk.2) (.int .i64 t348)) (fun _ hk => hk.2) (.slice Ao29 t349.length co29)) (fun _ hk => hk.2) (.int .i64 t352)) (fun _ h_ => h_.1)))); (case side2 => exact (Kd.S_reads' HO351.out).2.1); rintro e w30 ⟨rfl, hb⟩; refine ⟨_, rfl, ?_⟩; replace HO345 := Aside0.mk (Kd.S_below (by (with_reducible repeat (first | apply Kd.S_alloc | apply Kd.S_drewN | apply Kd.S_drew)); exact (Kd.S_mono (Kd.S_far (p := ⟨gb353, 2, none⟩) (Kd.S_far (p := ⟨gb353, 1, none⟩) (Kd.S_far (p := ⟨gb353, 0, none⟩) (Kd.S_types HO345.out BK353.out (by decide)) (fun _ hk => hk.2) (.int .i64 t348)) (fun _ hk => hk.2) (.slice Ao29 t349.length co29)) (fun _ hk => hk.2) (.int .i64 t352)) (fun _ h_ => h_.1))) hb); replace HO351 := Aside0.mk (Kd.S_below (by (with_reducible repeat (first | apply Kd.S_alloc | apply Kd.S_drewN | apply Kd.S_drew)); exact (Kd.S_mono (Kd.S_far (p := ⟨gb353, 2, none⟩) (Kd.S_far (p := ⟨gb353, 1, none⟩) (Kd.S_far (p := ⟨gb353, 0, none⟩) (Kd.S_types HO351.out BK353.out (by decide)) (fun _ hk => hk.2) (.int .i64 t348)) (fun _ hk => hk.2) (.slice Ao29 t349.length co29)) (fun _ hk => hk.2) (.int .i64 t352)) (fun _ h_ => h_.1))) hb); replace BK340 := Aside0.mk (bb BK340.out hb); replace BK353 := Aside0.mk (blk_below (g := gb353) (o := .cells #[.int .i64 t348, .slice Ao29 t349.length co29, .int .i64 t352] 31 (0, 0)) (by (with_reducible repeat (first | refine blk_drewN ?_ _ | refine blk_drew ?_ | refine blk_alloc ?_ _)); refine blk_put (cs := #[.int .i64 t348, .slice Ao29 t349.length co29, .int .i64 0]) ?_ 2 _ rfl; (with_reducible repeat (first | refine blk_drewN ?_ _ | refine blk_drew ?_ | refine blk_alloc ?_ _)); refine blk_put (cs := #[.int .i64 t348, .slice none 0 0, .int .i64 0]) ?_ 1 _ rfl; (with_reducible repeat (first | refine blk_drewN ?_ _ | refine blk_drew ?_ | refine blk_alloc ?_ _)); refine blk_put (cs := #[.int .i64 0, .slice none 0 0, .int .i64 0]) ?_ 0 _ rfl; (with_reducible repeat (first | refine blk_drewN ?_ _ | refine blk_drew ?_ | refine blk_alloc ?_ _)); exact BK353.out) hb); replace HB := Aside0.mk (below_step bel hb); (try clear hb)))
        replace HO345 := Aside0.mk (Kd.S_drew HO345.out)
        replace HO351 := Aside0.mk (Kd.S_drew HO351.out)
        replace BK340 := Aside0.mk (blk_drew BK340.out)
        replace BK353 := Aside0.mk (blk_drew BK353.out)
        replace HB := Aside0.mk (below_drew1 HB.out)
        refine start_ (n := 5) (S := fun w' => w'.cell? ⟨gb353, 0, none⟩ = some (.int .i64 t348) ∧ w'.cell? ⟨gb353, 1, none⟩ = some (.slice Ao29 t349.length co29) ∧ w'.cell? ⟨gb353, 2, none⟩ = some (.int .i64 t352) ∧ w'.cell? ⟨gb340, 0, none⟩ = some (.int .i64 a0_0) ∧ w'.cell? ⟨gb340, 1, none⟩ = some (.slice A0_1 l0_1.length c0_1) ∧ w'.cell? ⟨gb340, 2, none⟩ = some (.int .i64 a0_2)) (ds := []) #[false, false, false, false, false] (by kernel_rfl) rfl rfl ⟨(blk_cell BK353.out 0).trans rfl, (blk_cell BK353.out 1).trans rfl, (blk_cell BK353.out 2).trans rfl, (blk_cell BK340.out 0).trans rfl, (blk_cell BK340.out 1).trans rfl, (blk_cell BK340.out 2).trans rfl⟩ (fun hHeld => ?_)
        generalize w30.drew = w31 at HO345 HO351 BK340 BK353 HB hHeld ⊢
        refine take_ (i := 0) (N := some 30) (v := ?_) (a' := ?_) #[true, false, false, false, false] rfl rfl (by kernel_rfl) (fun _ _ _ h => h) (Or.inl ⟨by rfl, ?_⟩) hHeld ?_ ?_
        rotate_left
        · rintro w' ⟨s0, s1, s2, s3, s4, s5⟩
          go_simp
          with_reducible rfl
        rotate_left
        · simp only [Act.put, List.setIfInBounds_toArray, List.set_cons_zero, List.set_cons_succ, i64_w, i32_w]
          rfl
        refine take_ (i := 1) (N := some 31) (v := ?_) (a' := ?_) #[true, true, false, false, false] rfl rfl (by kernel_rfl) (fun _ _ _ h => h) (Or.inl ⟨by rfl, ?_⟩) hHeld ?_ ?_
        rotate_left
        · rintro w' ⟨s0, s1, s2, s3, s4, s5⟩
          go_simp
          with_reducible rfl
        rotate_left
        · simp only [Act.put, List.setIfInBounds_toArray, List.set_cons_zero, List.set_cons_succ, i64_w, i32_w]
          rfl
        refine one_ (i := 2) (N := some 32) #[true, true, true, false, false] rfl rfl (by kernel_rfl) (by decide) (fun K hK => ?_)
        refine goes_ Try.func16 (by kernel_rfl) rfl #[.agg #[.int .i64 a0_0, .slice A0_1 l0_1.length c0_1, .int .i64 a0_2]] (by rfl) rfl rfl ga ?_
        with_reducible refine (laws_toRegatta.calls k a0_0 _ _ l0_1 a0_2 t355 t356 t359 _ ?side1 ?side2 A14.out).mono ?_
        (case side1 => exact ck (Kd.C_below HR0_1.out HB.out))
        (case side2 => exact HC0_1.out)
        rintro e w32 ⟨v357, rfl, ho0, hb⟩
        refine ⟨_, rfl, ?_⟩
        have HO358 := Aside0.mk (Kd.S_lower (Kd.S_new' (Kd.S_new' ho0 (Kd.S_lt (by (with_reducible repeat (first | apply Kd.S_alloc | apply Kd.S_drewN | apply Kd.S_drew)); exact HO345.out))) (Kd.S_lt (by (with_reducible repeat (first | apply Kd.S_alloc | apply Kd.S_drewN | apply Kd.S_drew)); exact HO351.out))) (below_size bel))
        replace HO345 := Aside0.mk (Kd.S_elder' (by (with_reducible repeat (first | apply Kd.S_alloc | apply Kd.S_drewN | apply Kd.S_drew)); exact HO345.out) (Kd.S_base ho0) hb)
        replace HO351 := Aside0.mk (Kd.S_elder' (by (with_reducible repeat (first | apply Kd.S_alloc | apply Kd.S_drewN | apply Kd.S_drew)); exact HO351.out) (Kd.S_base ho0) hb)
        replace BK340 := Aside0.mk (bb BK340.out hb)
        replace BK353 := Aside0.mk (bb BK353.out hb)
        replace HB := Aside0.mk (below_step bel hb)
        (try clear hb)
        (try clear hb2)
        (try clear hk)
        (try clear hi)
        (try clear ho0)
        obtain ⟨Ao33, co33, eo33⟩ := Kd.S_slice HO358.out
        (first | subst eo33 | (injection eo33 with f1_ f2_ f3_; have f4_ := f1_.symm; have f5_ := f3_.symm; clear f1_ f2_ f3_; subst f4_; subst f5_))
        refine hK.out _ _ ⟨(blk_cell BK353.out 0).trans rfl, (blk_cell BK353.out 1).trans rfl, (blk_cell BK353.out 2).trans rfl, (blk_cell BK340.out 0).trans rfl, (blk_cell BK340.out 1).trans rfl, (blk_cell BK340.out 2).trans rfl⟩ (fun hHeld => ?_)
        clear hK K
        refine norm_ (a' := ?_) ?_ ?_
        rotate_left
        · show Act.put _ (some 32) _ = _
          simp only [Act.put, List.setIfInBounds_toArray, List.set_cons_zero, List.set_cons_succ, i64_w, i32_w]
          rfl
        refine one_ (i := 3) (N := some 33) #[true, true, true, true, false] rfl rfl (by kernel_rfl) (by decide) (fun K hK => ?_)
        refine goes_ Try.func18 (by kernel_rfl) rfl #[.agg #[.int .i64 t348, .slice Ao29 t349.length co29, .int .i64 t352], .agg #[.int .i64 t355, .slice Ao33 t356.length co33, .int .i64 t359]] (by rfl) rfl rfl ga ?_
        with_reducible refine (laws_eqRegatta.calls k t348 _ _ t349 t352 t355 _ _ t356 t359 true _ ?side1 ?side2 ?side3 ?side4 A15.out).mono ?_
        (case side1 => repeat (first | exact (Kd.S_reads' HO351.out).2.2 | (with_reducible refine Kd.C_alloc ?_ _) | (with_reducible refine Kd.C_drewN ?_ _) | (with_reducible refine Kd.C_drew ?_)))
        (case side2 => exact (Kd.S_reads' HO351.out).2.1)
        (case side3 => repeat (first | exact (Kd.S_reads' HO358.out).2.2 | (with_reducible refine Kd.C_alloc ?_ _) | (with_reducible refine Kd.C_drewN ?_ _) | (with_reducible refine Kd.C_drew ?_)))
        (case side4 => exact (Kd.S_reads' HO358.out).2.1)
        rintro e w34 ⟨rfl, hb⟩
        refine ⟨_, rfl, ?_⟩
        replace HO345 := Aside0.mk (Kd.S_below (by (with_reducible repeat (first | apply Kd.S_alloc | apply Kd.S_drewN | apply Kd.S_drew)); exact HO345.out) hb)
        replace HO351 := Aside0.mk (Kd.S_below (by (with_reducible repeat (first | apply Kd.S_alloc | apply Kd.S_drewN | apply Kd.S_drew)); exact HO351.out) hb)
        replace HO358 := Aside0.mk (Kd.S_below (by (with_reducible repeat (first | apply Kd.S_alloc | apply Kd.S_drewN | apply Kd.S_drew)); exact HO358.out) hb)
        replace BK340 := Aside0.mk (bb BK340.out hb)
        replace BK353 := Aside0.mk (bb BK353.out hb)
        replace HB := Aside0.mk (below_step bel hb)
        (try clear hb)
        (try clear hb2)
        (try clear hk)
        (try clear hi)
        refine hK.out _ _ ⟨(blk_cell BK353.out 0).trans rfl, (blk_cell BK353.out 1).trans rfl, (blk_cell BK353.out 2).trans rfl, (blk_cell BK340.out 0).trans rfl, (blk_cell BK340.out 1).trans rfl, (blk_cell BK340.out 2).trans rfl⟩ (fun hHeld => ?_)
        clear hK K
        refine norm_ (a' := ?_) ?_ ?_
        rotate_left
        · show Act.put _ (some 33) _ = _
          simp only [Act.put, List.setIfInBounds_toArray, List.set_cons_zero, List.set_cons_succ, i64_w, i32_w]
          rfl
        refine pure_ (i := 4) (N := some 34) (v := ?_) (a' := ?_) #[true, true, true, true, true] rfl rfl (by kernel_rfl) (fun _ _ _ h => h) (Or.inl ⟨by rfl, ?_⟩) ?_ ?_
        rotate_left
        · intro w'
          go_simp
          with_reducible rfl
        rotate_left
        · simp only [Act.put, List.setIfInBounds_toArray, List.set_cons_zero, List.set_cons_succ, i64_w, i32_w]
          rfl
        refine done_ (by kernel_rfl) ?_
        try go_wp2
        go_ret
        exact ⟨er, bel⟩
      · replace c16 := Bool.eq_false_iff.mpr c16
        subst c16
        have H1 : (some false) = some r := by rw [if_neg (show ¬ (false = true) by decide)] at H; exact H
        clear H
        have H := H1
        clear H1
        obtain rfl := Option.some.inj H
        go_enter Try.func5, Try.ntmps5
        try go_wp2_with (first | ((with_reducible refine gate_dst (N := 3) rfl ?_); refine box_event ?hg (N := 3) ?hd (cs := #[.int .i64 a0_0, .slice A0_1 l0_1.length c0_1, .int .i64 a0_2]) (t := 28) ?hr ?_; (case hd => rfl); (case hg => rfl); (case hr => first | (go_simp; done) | (go_simp; rfl)); intro gb340 hg w35 hbox hb; have BK340 := Aside0.mk (hbox); have GW340 := Aside0.mk ((bsz hg : w.heap.size ≤ gb340)); have GE340 := Aside0.mk ((bsz hg : w.heap.size ≤ gb340)); replace HB := Aside0.mk (below_step bel hb); clear hb hbox hg; obtain ⟨hcz36_0, hcz36_1, hcz36_2, hfz36_0, hfz36_1, hfz36_2⟩ := cf3 BK340.out) | ((with_reducible refine gate_callee (f := 14) rfl ?_); refine goesL_ (some 13) rfl rfl Try.func14 (by kernel_rfl) rfl #[.agg #[.int .i64 a0_0, .slice A0_1 l0_1.length c0_1, .int .i64 a0_2], .int .i64 1048576] rfl ga ?_; (with_reducible refine (laws_szRegatta.calls k a0_0 _ _ l0_1 a0_2 1048576 t341 _ ?side1 ?side2 A4.out).mono ?_); (case side1 => exact ck (Kd.C_below HR0_1.out HB.out)); (case side2 => exact HC0_1.out); rintro e w37 ⟨rfl, hb⟩; refine ⟨_, rfl, ?_⟩; replace BK340 := Aside0.mk (bb BK340.out hb); replace HB := Aside0.mk (below_step bel hb); (try clear hb); obtain ⟨hcz38_0, hcz38_1, hcz38_2, hfz38_0, hfz38_1, hfz38_2⟩ := cf3 BK340.out) | ((with_reducible refine gate_callee (f := 16) rfl ?_); refine goesL_ (some 17) rfl rfl Try.func16 (by kernel_rfl) rfl #[.agg #[.int .i64 a0_0, .slice A0_1 l0_1.length c0_1, .int .i64 a0_2]] rfl ga ?_; (with_reducible refine (laws_toRegatta.calls k a0_0 _ _ l0_1 a0_2 t342 t343 t346 _ ?side1 ?side2 A9.out).mono ?_); (case side1 => exact ck (Kd.C_below HR0_1.out HB.out)); (case side2 => exact HC0_1.out); rintro e w39 ⟨v344, rfl, ho0, hb⟩; refine ⟨_, rfl, ?_⟩; have HO345 := Aside0.mk (Kd.S_lower ho0 (below_size bel)); replace BK340 := Aside0.mk (bb BK340.out hb); replace HB := Aside0.mk (below_step bel hb); (try clear hb); (try clear ho0); obtain ⟨Ao40, co40, eo40⟩ := Kd.S_slice HO345.out; subst eo40) | ((with_reducible refine gate_callee (f := 19) rfl ?_); refine goesL_ (some 20) rfl rfl Try.func19 (by kernel_rfl) rfl #[.agg #[.int .i64 t342, .slice Ao40 t343.length co40, .int .i64 t346], .int .i64 a1, .int .i64 a2] rfl ga ?_; (with_reducible refine (spec_RedressFor.calls k t342 _ _ t343 t346 a1 a2 t347 _ ?side1 ?side2 A10.out).mono ?_); (case side1 => repeat (first | exact (Kd.S_reads' HO345.out).2.2 | (with_reducible refine Kd.C_alloc ?_ _) | (with_reducible refine Kd.C_drewN ?_ _) | (with_reducible refine Kd.C_drew ?_))); (case side2 => exact (Kd.S_reads' HO345.out).2.1); rintro e w41 ⟨rfl, hb⟩; refine ⟨_, rfl, ?_⟩; replace HO345 := Aside0.mk (Kd.S_below (by (with_reducible repeat (first | apply Kd.S_alloc | apply Kd.S_drewN | apply Kd.S_drew)); exact HO345.out) hb); replace BK340 := Aside0.mk (bb BK340.out hb); replace HB := Aside0.mk (below_step bel hb); (try clear hb); obtain ⟨hcz42_0, hcz42_1, hcz42_2, hfz42_0, hfz42_1, hfz42_2⟩ := cf3 BK340.out) | ((with_reducible refine gate_callee (f := 16) rfl ?_); refine goesL_ (some 22) rfl rfl Try.func16 (by kernel_rfl) rfl #[.agg #[.int .i64 a0_0, .slice A0_1 l0_1.length c0_1, .int .i64 a0_2]] rfl ga ?_; (with_reducible refine (laws_toRegatta.calls k a0_0 _ _ l0_1 a0_2 t348 t349 t352 _ ?side1 ?side2 A11.out).mono ?_); (case side1 => exact ck (Kd.C_below HR0_1.out HB.out)); (case side2 => exact HC0_1.out); rintro e w43 ⟨v350, rfl, ho0, hb⟩; refine ⟨_, rfl, ?_⟩; have HO351 := Aside0.mk (Kd.S_lower (Kd.S_new' ho0 (Kd.S_lt (by (with_reducible repeat (first | apply Kd.S_alloc | apply Kd.S_drewN | apply Kd.S_drew)); exact HO345.out))) (below_size bel)); replace HO345 := Aside0.mk (Kd.S_elder' (by (with_reducible repeat (first | apply Kd.S_alloc | apply Kd.S_drewN | apply Kd.S_drew)); exact HO345.out) (Kd.S_base ho0) hb); replace BK340 := Aside0.mk (bb BK340.out hb); replace HB := Aside0.mk (below_step bel hb); (try clear hb); (try clear ho0)) | ((with_reducible refine gate_dst (N := 9) rfl ?_); refine box_event ?hg (N := 9) ?hd (cs := #[.int .i64 0, .slice none 0 0, .int .i64 0]) (t := 31) ?hr ?_; (case hd => rfl); (case hg => rfl); (case hr => first | (go_simp; done) | (go_simp; rfl)); intro gb353 hg w44 hbox hb; have BK353 := Aside0.mk (hbox); have GW353 := Aside0.mk ((bsz hg : w.heap.size ≤ gb353)); have GE353 := Aside0.mk ((bsz hg : w.heap.size ≤ gb353)); have NB340_353 := Aside0.mk ((nlt hg BK340.out : gb340 ≠ gb353)); have NB353_340 := Aside0.mk ((ngt hg BK340.out : gb353 ≠ gb340)); replace HO345 := Aside0.mk (Kd.S_below (by (with_reducible repeat (first | apply Kd.S_alloc | apply Kd.S_drewN | apply Kd.S_drew)); exact HO345.out) hb); replace HO351 := Aside0.mk (Kd.S_below (by (with_reducible repeat (first | apply Kd.S_alloc | apply Kd.S_drewN | apply Kd.S_drew)); exact HO351.out) hb); replace BK340 := Aside0.mk (bb BK340.out hb); replace HB := Aside0.mk (below_step bel hb); clear hb hbox hg; have hnb45 := NB353_340.out; have hnc45 := NB340_353.out; obtain ⟨hcz46_0, hcz46_1, hcz46_2, hfz46_0, hfz46_1, hfz46_2⟩ := cf3 BK353.out; obtain ⟨Ao47, co47, eo47⟩ := Kd.S_slice HO351.out; subst eo47) | ((with_reducible refine gate_callee (f := 20) rfl ?_); refine goesL_ (some 26) rfl rfl Try.func20 (by kernel_rfl) rfl #[.agg #[.int .i64 t348, .slice Ao47 t349.length co47, .int .i64 t352], .int .i64 a1, .int .i64 a2] rfl ga ?_; (with_reducible refine (impl_RedressFor.calls k t348 _ _ t349 t352 a1 a2 t354 _ ?side1 ?side2 A12.out).mono ?_); (case side1 => refine (Kd.S_reads' (e := 22) (base := w.heap.size) (ok := fun k_ => (True ∧ some k_ ≠ (.slice Ao40 t343.length co40 : Value).ownBlock)) (n := t349.length) (c := co47) ?_).2.2; exact (by (with_reducible repeat (first | apply Kd.S_alloc | apply Kd.S_drewN | apply Kd.S_drew)); exact (Kd.S_mono (Kd.S_far (p := ⟨gb353, 2, none⟩) (Kd.S_far (p := ⟨gb353, 1, none⟩) (Kd.S_far (p := ⟨gb353, 0, none⟩) (Kd.S_types HO351.out BK353.out (by decide)) (fun _ hk => hk.2) (.int .i64 t348)) (fun _ hk => hk.2) (.slice Ao47 t349.length co47)) (fun _ hk => hk.2) (.int .i64 t352)) (fun _ h_ => h_.1)))); (case side2 => exact (Kd.S_reads' HO351.out).2.1); rintro e w48 ⟨rfl, hb⟩; refine ⟨_, rfl, ?_⟩; replace HO345 := Aside0.mk (Kd.S_below (by (with_reducible repeat (first | apply Kd.S_alloc | apply Kd.S_drewN | apply Kd.S_drew)); exact (Kd.S_mono (Kd.S_far (p := ⟨gb353, 2, none⟩) (Kd.S_far (p := ⟨gb353, 1, none⟩) (Kd.S_far (p := ⟨gb353, 0, none⟩) (Kd.S_types HO345.out BK353.out (by decide)) (fun _ hk => hk.2) (.int .i64 t348)) (fun _ hk => hk.2) (.slice Ao47 t349.length co47)) (fun _ hk => hk.2) (.int .i64 t352)) (fun _ h_ => h_.1))) hb); replace HO351 := Aside0.mk (Kd.S_below (by (with_reducible repeat (first | apply Kd.S_alloc | apply Kd.S_drewN | apply Kd.S_drew)); exact (Kd.S_mono (Kd.S_far (p := ⟨gb353, 2, none⟩) (Kd.S_far (p := ⟨gb353, 1, none⟩) (Kd.S_far (p := ⟨gb353, 0, none⟩) (Kd.S_types HO351.out BK353.out (by decide)) (fun _ hk => hk.2) (.int .i64 t348)) (fun _ hk => hk.2) (.slice Ao47 t349.length co47)) (fun _ hk => hk.2) (.int .i64 t352)) (fun _ h_ => h_.1))) hb); replace BK340 := Aside0.mk (bb BK340.out hb); replace BK353 := Aside0.mk (blk_below (g := gb353) (o := .cells #[.int .i64 t348, .slice Ao47 t349.length co47, .int .i64 t352] 31 (0, 0)) (by (with_reducible repeat (first | refine blk_drewN ?_ _ | refine blk_drew ?_ | refine blk_alloc ?_ _)); refine blk_put (cs := #[.int .i64 t348, .slice Ao47 t349.length co47, .int .i64 0]) ?_ 2 _ rfl; (with_reducible repeat (first | refine blk_drewN ?_ _ | refine blk_drew ?_ | refine blk_alloc ?_ _)); refine blk_put (cs := #[.int .i64 t348, .slice none 0 0, .int .i64 0]) ?_ 1 _ rfl; (with_reducible repeat (first | refine blk_drewN ?_ _ | refine blk_drew ?_ | refine blk_alloc ?_ _)); refine blk_put (cs := #[.int .i64 0, .slice none 0 0, .int .i64 0]) ?_ 0 _ rfl; (with_reducible repeat (first | refine blk_drewN ?_ _ | refine blk_drew ?_ | refine blk_alloc ?_ _)); exact BK353.out) hb); replace HB := Aside0.mk (below_step bel hb); (try clear hb)))
        replace HO345 := Aside0.mk (Kd.S_drew HO345.out)
        replace HO351 := Aside0.mk (Kd.S_drew HO351.out)
        replace BK340 := Aside0.mk (blk_drew BK340.out)
        replace BK353 := Aside0.mk (blk_drew BK353.out)
        replace HB := Aside0.mk (below_drew1 HB.out)
        refine start_ (n := 5) (S := fun w' => w'.cell? ⟨gb353, 0, none⟩ = some (.int .i64 t348) ∧ w'.cell? ⟨gb353, 1, none⟩ = some (.slice Ao47 t349.length co47) ∧ w'.cell? ⟨gb353, 2, none⟩ = some (.int .i64 t352) ∧ w'.cell? ⟨gb340, 0, none⟩ = some (.int .i64 a0_0) ∧ w'.cell? ⟨gb340, 1, none⟩ = some (.slice A0_1 l0_1.length c0_1) ∧ w'.cell? ⟨gb340, 2, none⟩ = some (.int .i64 a0_2)) (ds := []) #[false, false, false, false, false] (by kernel_rfl) rfl rfl ⟨(blk_cell BK353.out 0).trans rfl, (blk_cell BK353.out 1).trans rfl, (blk_cell BK353.out 2).trans rfl, (blk_cell BK340.out 0).trans rfl, (blk_cell BK340.out 1).trans rfl, (blk_cell BK340.out 2).trans rfl⟩ (fun hHeld => ?_)
        generalize w48.drew = w49 at HO345 HO351 BK340 BK353 HB hHeld ⊢
        refine take_ (i := 0) (N := some 30) (v := ?_) (a' := ?_) #[true, false, false, false, false] rfl rfl (by kernel_rfl) (fun _ _ _ h => h) (Or.inl ⟨by rfl, ?_⟩) hHeld ?_ ?_
        rotate_left
        · rintro w' ⟨s0, s1, s2, s3, s4, s5⟩
          go_simp
          with_reducible rfl
        rotate_left
        · simp only [Act.put, List.setIfInBounds_toArray, List.set_cons_zero, List.set_cons_succ, i64_w, i32_w]
          rfl
        refine take_ (i := 1) (N := some 31) (v := ?_) (a' := ?_) #[true, true, false, false, false] rfl rfl (by kernel_rfl) (fun _ _ _ h => h) (Or.inl ⟨by rfl, ?_⟩) hHeld ?_ ?_
        rotate_left
        · rintro w' ⟨s0, s1, s2, s3, s4, s5⟩
          go_simp
          with_reducible rfl
        rotate_left
        · simp only [Act.put, List.setIfInBounds_toArray, List.set_cons_zero, List.set_cons_succ, i64_w, i32_w]
          rfl
        refine one_ (i := 2) (N := some 32) #[true, true, true, false, false] rfl rfl (by kernel_rfl) (by decide) (fun K hK => ?_)
        refine goes_ Try.func16 (by kernel_rfl) rfl #[.agg #[.int .i64 a0_0, .slice A0_1 l0_1.length c0_1, .int .i64 a0_2]] (by rfl) rfl rfl ga ?_
        with_reducible refine (laws_toRegatta.calls k a0_0 _ _ l0_1 a0_2 t355 t356 t359 _ ?side1 ?side2 A14.out).mono ?_
        (case side1 => exact ck (Kd.C_below HR0_1.out HB.out))
        (case side2 => exact HC0_1.out)
        rintro e w50 ⟨v357, rfl, ho0, hb⟩
        refine ⟨_, rfl, ?_⟩
        have HO358 := Aside0.mk (Kd.S_lower (Kd.S_new' (Kd.S_new' ho0 (Kd.S_lt (by (with_reducible repeat (first | apply Kd.S_alloc | apply Kd.S_drewN | apply Kd.S_drew)); exact HO345.out))) (Kd.S_lt (by (with_reducible repeat (first | apply Kd.S_alloc | apply Kd.S_drewN | apply Kd.S_drew)); exact HO351.out))) (below_size bel))
        replace HO345 := Aside0.mk (Kd.S_elder' (by (with_reducible repeat (first | apply Kd.S_alloc | apply Kd.S_drewN | apply Kd.S_drew)); exact HO345.out) (Kd.S_base ho0) hb)
        replace HO351 := Aside0.mk (Kd.S_elder' (by (with_reducible repeat (first | apply Kd.S_alloc | apply Kd.S_drewN | apply Kd.S_drew)); exact HO351.out) (Kd.S_base ho0) hb)
        replace BK340 := Aside0.mk (bb BK340.out hb)
        replace BK353 := Aside0.mk (bb BK353.out hb)
        replace HB := Aside0.mk (below_step bel hb)
        (try clear hb)
        (try clear hb2)
        (try clear hk)
        (try clear hi)
        (try clear ho0)
        obtain ⟨Ao51, co51, eo51⟩ := Kd.S_slice HO358.out
        (first | subst eo51 | (injection eo51 with f1_ f2_ f3_; have f4_ := f1_.symm; have f5_ := f3_.symm; clear f1_ f2_ f3_; subst f4_; subst f5_))
        refine hK.out _ _ ⟨(blk_cell BK353.out 0).trans rfl, (blk_cell BK353.out 1).trans rfl, (blk_cell BK353.out 2).trans rfl, (blk_cell BK340.out 0).trans rfl, (blk_cell BK340.out 1).trans rfl, (blk_cell BK340.out 2).trans rfl⟩ (fun hHeld => ?_)
        clear hK K
        refine norm_ (a' := ?_) ?_ ?_
        rotate_left
        · show Act.put _ (some 32) _ = _
          simp only [Act.put, List.setIfInBounds_toArray, List.set_cons_zero, List.set_cons_succ, i64_w, i32_w]
          rfl
        refine one_ (i := 3) (N := some 33) #[true, true, true, true, false] rfl rfl (by kernel_rfl) (by decide) (fun K hK => ?_)
        refine goes_ Try.func18 (by kernel_rfl) rfl #[.agg #[.int .i64 t348, .slice Ao47 t349.length co47, .int .i64 t352], .agg #[.int .i64 t355, .slice Ao51 t356.length co51, .int .i64 t359]] (by rfl) rfl rfl ga ?_
        with_reducible refine (laws_eqRegatta.calls k t348 _ _ t349 t352 t355 _ _ t356 t359 false _ ?side1 ?side2 ?side3 ?side4 A15.out).mono ?_
        (case side1 => repeat (first | exact (Kd.S_reads' HO351.out).2.2 | (with_reducible refine Kd.C_alloc ?_ _) | (with_reducible refine Kd.C_drewN ?_ _) | (with_reducible refine Kd.C_drew ?_)))
        (case side2 => exact (Kd.S_reads' HO351.out).2.1)
        (case side3 => repeat (first | exact (Kd.S_reads' HO358.out).2.2 | (with_reducible refine Kd.C_alloc ?_ _) | (with_reducible refine Kd.C_drewN ?_ _) | (with_reducible refine Kd.C_drew ?_)))
        (case side4 => exact (Kd.S_reads' HO358.out).2.1)
        rintro e w52 ⟨rfl, hb⟩
        refine ⟨_, rfl, ?_⟩
        replace HO345 := Aside0.mk (Kd.S_below (by (with_reducible repeat (first | apply Kd.S_alloc | apply Kd.S_drewN | apply Kd.S_drew)); exact HO345.out) hb)
        replace HO351 := Aside0.mk (Kd.S_below (by (with_reducible repeat (first | apply Kd.S_alloc | apply Kd.S_drewN | apply Kd.S_drew)); exact HO351.out) hb)
        replace HO358 := Aside0.mk (Kd.S_below (by (with_reducible repeat (first | apply Kd.S_alloc | apply Kd.S_drewN | apply Kd.S_drew)); exact HO358.out) hb)
        replace BK340 := Aside0.mk (bb BK340.out hb)
        replace BK353 := Aside0.mk (bb BK353.out hb)
        replace HB := Aside0.mk (below_step bel hb)
        (try clear hb)
        (try clear hb2)
        (try clear hk)
        (try clear hi)
        refine hK.out _ _ ⟨(blk_cell BK353.out 0).trans rfl, (blk_cell BK353.out 1).trans rfl, (blk_cell BK353.out 2).trans rfl, (blk_cell BK340.out 0).trans rfl, (blk_cell BK340.out 1).trans rfl, (blk_cell BK340.out 2).trans rfl⟩ (fun hHeld => ?_)
        clear hK K
        refine norm_ (a' := ?_) ?_ ?_
        rotate_left
        · show Act.put _ (some 33) _ = _
          simp only [Act.put, List.setIfInBounds_toArray, List.set_cons_zero, List.set_cons_succ, i64_w, i32_w]
          rfl
        refine pure_ (i := 4) (N := some 34) (v := ?_) (a' := ?_) #[true, true, true, true, true] rfl rfl (by kernel_rfl) (fun _ _ _ h => h) (Or.inl ⟨by rfl, ?_⟩) ?_ ?_
        rotate_left
        · intro w'
          go_simp
          with_reducible rfl
        rotate_left
        · simp only [Act.put, List.setIfInBounds_toArray, List.set_cons_zero, List.set_cons_succ, i64_w, i32_w]
          rfl
        refine done_ (by kernel_rfl) ?_
        try go_wp2
        go_ret
        exact ⟨er, bel⟩
    · rw [if_neg c13] at H
      have c13b0 : (t354 == t347) = false := beq_eq_false_iff_ne.mpr c13
      have c13b1 : (t354 != t347) = true := bne_iff_ne.mpr c13
      obtain rfl := Option.some.inj H
      go_enter Try.func5, Try.ntmps5
      go_wp2_with (first | ((with_reducible refine gate_dst (N := 3) rfl ?_); refine box_event ?hg (N := 3) ?hd (cs := #[.int .i64 a0_0, .slice A0_1 l0_1.length c0_1, .int .i64 a0_2]) (t := 28) ?hr ?_; (case hd => rfl); (case hg => rfl); (case hr => first | (go_simp; done) | (go_simp; rfl)); intro gb340 hg w53 hbox hb; have BK340 := Aside0.mk (hbox); have GW340 := Aside0.mk ((bsz hg : w.heap.size ≤ gb340)); have GE340 := Aside0.mk ((bsz hg : w.heap.size ≤ gb340)); replace HB := Aside0.mk (below_step bel hb); clear hb hbox hg; obtain ⟨hcz54_0, hcz54_1, hcz54_2, hfz54_0, hfz54_1, hfz54_2⟩ := cf3 BK340.out) | ((with_reducible refine gate_callee (f := 14) rfl ?_); refine goesL_ (some 13) rfl rfl Try.func14 (by kernel_rfl) rfl #[.agg #[.int .i64 a0_0, .slice A0_1 l0_1.length c0_1, .int .i64 a0_2], .int .i64 1048576] rfl ga ?_; (with_reducible refine (laws_szRegatta.calls k a0_0 _ _ l0_1 a0_2 1048576 t341 _ ?side1 ?side2 A4.out).mono ?_); (case side1 => exact ck (Kd.C_below HR0_1.out HB.out)); (case side2 => exact HC0_1.out); rintro e w55 ⟨rfl, hb⟩; refine ⟨_, rfl, ?_⟩; replace BK340 := Aside0.mk (bb BK340.out hb); replace HB := Aside0.mk (below_step bel hb); (try clear hb); obtain ⟨hcz56_0, hcz56_1, hcz56_2, hfz56_0, hfz56_1, hfz56_2⟩ := cf3 BK340.out) | ((with_reducible refine gate_callee (f := 16) rfl ?_); refine goesL_ (some 17) rfl rfl Try.func16 (by kernel_rfl) rfl #[.agg #[.int .i64 a0_0, .slice A0_1 l0_1.length c0_1, .int .i64 a0_2]] rfl ga ?_; (with_reducible refine (laws_toRegatta.calls k a0_0 _ _ l0_1 a0_2 t342 t343 t346 _ ?side1 ?side2 A9.out).mono ?_); (case side1 => exact ck (Kd.C_below HR0_1.out HB.out)); (case side2 => exact HC0_1.out); rintro e w57 ⟨v344, rfl, ho0, hb⟩; refine ⟨_, rfl, ?_⟩; have HO345 := Aside0.mk (Kd.S_lower ho0 (below_size bel)); replace BK340 := Aside0.mk (bb BK340.out hb); replace HB := Aside0.mk (below_step bel hb); (try clear hb); (try clear ho0); obtain ⟨Ao58, co58, eo58⟩ := Kd.S_slice HO345.out; subst eo58) | ((with_reducible refine gate_callee (f := 19) rfl ?_); refine goesL_ (some 20) rfl rfl Try.func19 (by kernel_rfl) rfl #[.agg #[.int .i64 t342, .slice Ao58 t343.length co58, .int .i64 t346], .int .i64 a1, .int .i64 a2] rfl ga ?_; (with_reducible refine (spec_RedressFor.calls k t342 _ _ t343 t346 a1 a2 t347 _ ?side1 ?side2 A10.out).mono ?_); (case side1 => repeat (first | exact (Kd.S_reads' HO345.out).2.2 | (with_reducible refine Kd.C_alloc ?_ _) | (with_reducible refine Kd.C_drewN ?_ _) | (with_reducible refine Kd.C_drew ?_))); (case side2 => exact (Kd.S_reads' HO345.out).2.1); rintro e w59 ⟨rfl, hb⟩; refine ⟨_, rfl, ?_⟩; replace HO345 := Aside0.mk (Kd.S_below (by (with_reducible repeat (first | apply Kd.S_alloc | apply Kd.S_drewN | apply Kd.S_drew)); exact HO345.out) hb); replace BK340 := Aside0.mk (bb BK340.out hb); replace HB := Aside0.mk (below_step bel hb); (try clear hb); obtain ⟨hcz60_0, hcz60_1, hcz60_2, hfz60_0, hfz60_1, hfz60_2⟩ := cf3 BK340.out) | ((with_reducible refine gate_callee (f := 16) rfl ?_); refine goesL_ (some 22) rfl rfl Try.func16 (by kernel_rfl) rfl #[.agg #[.int .i64 a0_0, .slice A0_1 l0_1.length c0_1, .int .i64 a0_2]] rfl ga ?_; (with_reducible refine (laws_toRegatta.calls k a0_0 _ _ l0_1 a0_2 t348 t349 t352 _ ?side1 ?side2 A11.out).mono ?_); (case side1 => exact ck (Kd.C_below HR0_1.out HB.out)); (case side2 => exact HC0_1.out); rintro e w61 ⟨v350, rfl, ho0, hb⟩; refine ⟨_, rfl, ?_⟩; have HO351 := Aside0.mk (Kd.S_lower (Kd.S_new' ho0 (Kd.S_lt (by (with_reducible repeat (first | apply Kd.S_alloc | apply Kd.S_drewN | apply Kd.S_drew)); exact HO345.out))) (below_size bel)); replace HO345 := Aside0.mk (Kd.S_elder' (by (with_reducible repeat (first | apply Kd.S_alloc | apply Kd.S_drewN | apply Kd.S_drew)); exact HO345.out) (Kd.S_base ho0) hb); replace BK340 := Aside0.mk (bb BK340.out hb); replace HB := Aside0.mk (below_step bel hb); (try clear hb); (try clear ho0)) | ((with_reducible refine gate_dst (N := 9) rfl ?_); refine box_event ?hg (N := 9) ?hd (cs := #[.int .i64 0, .slice none 0 0, .int .i64 0]) (t := 31) ?hr ?_; (case hd => rfl); (case hg => rfl); (case hr => first | (go_simp; done) | (go_simp; rfl)); intro gb353 hg w62 hbox hb; have BK353 := Aside0.mk (hbox); have GW353 := Aside0.mk ((bsz hg : w.heap.size ≤ gb353)); have GE353 := Aside0.mk ((bsz hg : w.heap.size ≤ gb353)); have NB340_353 := Aside0.mk ((nlt hg BK340.out : gb340 ≠ gb353)); have NB353_340 := Aside0.mk ((ngt hg BK340.out : gb353 ≠ gb340)); replace HO345 := Aside0.mk (Kd.S_below (by (with_reducible repeat (first | apply Kd.S_alloc | apply Kd.S_drewN | apply Kd.S_drew)); exact HO345.out) hb); replace HO351 := Aside0.mk (Kd.S_below (by (with_reducible repeat (first | apply Kd.S_alloc | apply Kd.S_drewN | apply Kd.S_drew)); exact HO351.out) hb); replace BK340 := Aside0.mk (bb BK340.out hb); replace HB := Aside0.mk (below_step bel hb); clear hb hbox hg; have hnb63 := NB353_340.out; have hnc63 := NB340_353.out; obtain ⟨hcz64_0, hcz64_1, hcz64_2, hfz64_0, hfz64_1, hfz64_2⟩ := cf3 BK353.out; obtain ⟨Ao65, co65, eo65⟩ := Kd.S_slice HO351.out; subst eo65) | ((with_reducible refine gate_callee (f := 20) rfl ?_); refine goesL_ (some 26) rfl rfl Try.func20 (by kernel_rfl) rfl #[.agg #[.int .i64 t348, .slice Ao65 t349.length co65, .int .i64 t352], .int .i64 a1, .int .i64 a2] rfl ga ?_; (with_reducible refine (impl_RedressFor.calls k t348 _ _ t349 t352 a1 a2 t354 _ ?side1 ?side2 A12.out).mono ?_); (case side1 => refine (Kd.S_reads' (e := 22) (base := w.heap.size) (ok := fun k_ => (True ∧ some k_ ≠ (.slice Ao58 t343.length co58 : Value).ownBlock)) (n := t349.length) (c := co65) ?_).2.2; exact (by (with_reducible repeat (first | apply Kd.S_alloc | apply Kd.S_drewN | apply Kd.S_drew)); exact (Kd.S_mono (Kd.S_far (p := ⟨gb353, 2, none⟩) (Kd.S_far (p := ⟨gb353, 1, none⟩) (Kd.S_far (p := ⟨gb353, 0, none⟩) (Kd.S_types HO351.out BK353.out (by decide)) (fun _ hk => hk.2) (.int .i64 t348)) (fun _ hk => hk.2) (.slice Ao65 t349.length co65)) (fun _ hk => hk.2) (.int .i64 t352)) (fun _ h_ => h_.1)))); (case side2 => exact (Kd.S_reads' HO351.out).2.1); rintro e w66 ⟨rfl, hb⟩; refine ⟨_, rfl, ?_⟩; replace HO345 := Aside0.mk (Kd.S_below (by (with_reducible repeat (first | apply Kd.S_alloc | apply Kd.S_drewN | apply Kd.S_drew)); exact (Kd.S_mono (Kd.S_far (p := ⟨gb353, 2, none⟩) (Kd.S_far (p := ⟨gb353, 1, none⟩) (Kd.S_far (p := ⟨gb353, 0, none⟩) (Kd.S_types HO345.out BK353.out (by decide)) (fun _ hk => hk.2) (.int .i64 t348)) (fun _ hk => hk.2) (.slice Ao65 t349.length co65)) (fun _ hk => hk.2) (.int .i64 t352)) (fun _ h_ => h_.1))) hb); replace HO351 := Aside0.mk (Kd.S_below (by (with_reducible repeat (first | apply Kd.S_alloc | apply Kd.S_drewN | apply Kd.S_drew)); exact (Kd.S_mono (Kd.S_far (p := ⟨gb353, 2, none⟩) (Kd.S_far (p := ⟨gb353, 1, none⟩) (Kd.S_far (p := ⟨gb353, 0, none⟩) (Kd.S_types HO351.out BK353.out (by decide)) (fun _ hk => hk.2) (.int .i64 t348)) (fun _ hk => hk.2) (.slice Ao65 t349.length co65)) (fun _ hk => hk.2) (.int .i64 t352)) (fun _ h_ => h_.1))) hb); replace BK340 := Aside0.mk (bb BK340.out hb); replace BK353 := Aside0.mk (blk_below (g := gb353) (o := .cells #[.int .i64 t348, .slice Ao65 t349.length co65, .int .i64 t352] 31 (0, 0)) (by (with_reducible repeat (first | refine blk_drewN ?_ _ | refine blk_drew ?_ | refine blk_alloc ?_ _)); refine blk_put (cs := #[.int .i64 t348, .slice Ao65 t349.length co65, .int .i64 0]) ?_ 2 _ rfl; (with_reducible repeat (first | refine blk_drewN ?_ _ | refine blk_drew ?_ | refine blk_alloc ?_ _)); refine blk_put (cs := #[.int .i64 t348, .slice none 0 0, .int .i64 0]) ?_ 1 _ rfl; (with_reducible repeat (first | refine blk_drewN ?_ _ | refine blk_drew ?_ | refine blk_alloc ?_ _)); refine blk_put (cs := #[.int .i64 0, .slice none 0 0, .int .i64 0]) ?_ 0 _ rfl; (with_reducible repeat (first | refine blk_drewN ?_ _ | refine blk_drew ?_ | refine blk_alloc ?_ _)); exact BK353.out) hb); replace HB := Aside0.mk (below_step bel hb); (try clear hb)))
      go_ret
      exact ⟨er, bel⟩

end Go.Proofs.Ytipojkfkcelejaa.X
