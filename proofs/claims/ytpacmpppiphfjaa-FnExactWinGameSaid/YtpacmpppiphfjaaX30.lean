-- Written by a program of this session (wip/xp.py, over the kit's print) out of the translation: functions, and the walks that show them.
import Derived.Test.YtpacmpppiphfjaaX0
import Derived.Test.YtpacmpppiphfjaaX11
import Derived.Test.YtpacmpppiphfjaaX13
import Derived.Test.YtpacmpppiphfjaaX15
import Derived.Test.YtpacmpppiphfjaaX25
import Derived.Test.YtpacmpppiphfjaaX28
import Derived.Test.YtpacmpppiphfjaaX29
namespace Go.Proofs.Ytpacmpppiphfjaa.X
open Go.RowKit Go.Proofs.YtpacmpppiphfjaaW.PrintWords Go.Proofs.YtpacmpppiphfjaaW.PrintLast Go.Proofs.YtpacmpppiphfjaaW.PrintMore
attribute [local go_sem] max2_int min2_int max_two min_two max_three min_three max_four min_four   -- for this text's walks alone
set_option linter.unusedVariables false
set_option linter.unusedSimpArgs false

/-! ### laws_FnExactWinGame: function 12 -/
mutual
def laws_FnExactWinGame.j0 : Nat → Int → Bool → Bool → Bool → Int → List Int → Int → List Int → Int → List Int → Int → List Int → Option (Bool)
  | 0, _, _, _, _, _, _, _, _, _, _, _, _ => none
  | k + 1, x1, x7, x10, x44, x454000, x454001, x465000, x465001, x470000, x470001, x476000, x476001 => if x44 = true then (some false) else ((laws_toCup.f k x454000 x454001).bind fun bt477 => ((laws_eqCup.f k x470000 x470001 bt477.1 bt477.2).bind fun t481 => (if t481 = true then ((laws_markCup.f k x470000 x470001 1).bind fun bt482 => (if bt482.1 < 0 then (laws_FnExactWinGame.j1 k x1 x7 true x454000 x454001 x465000 x465001 x476000 x476001) else ((laws_eqCup.f k x476000 x476001 x465000 x465001).bind fun t484 => (if t484 = true then (laws_FnExactWinGame.j1 k x1 x7 (x10 != x7) x454000 x454001 x465000 x465001 x476000 x476001) else (laws_FnExactWinGame.j1 k x1 x7 true x454000 x454001 x465000 x465001 x476000 x476001))))) else (some false))))
def laws_FnExactWinGame.j1 : Nat → Int → Bool → Bool → Int → List Int → Int → List Int → Int → List Int → Option (Bool)
  | 0, _, _, _, _, _, _, _, _, _ => none
  | k + 1, x1, x7, x65, x454000, x454001, x465000, x465001, x476000, x476001 => if x65 = true then (some false) else ((laws_markCup.f k x476000 x476001 1).bind fun bt485 => ((laws_heldCup.f k x476000 bt485.2 1).bind fun t487 => (if t487 < 0 then (some false) else (if t487 = bt485.1 then ((laws_toCup.f k x454000 x454001).bind fun bt488 => ((impl_WinGame.f k bt488.1 bt488.2 x1).bind fun bt492 => ((laws_eqCup.f k bt492.1 bt492.2.1 x465000 x465001).bind fun t498 => (if t498 = true then (laws_FnExactWinGame.j2 k bt485.1 (bt492.2.2 != x7) x476000 bt485.2) else (laws_FnExactWinGame.j2 k bt485.1 true x476000 bt485.2))))) else (some false)))))
def laws_FnExactWinGame.j2 : Nat → Int → Bool → Int → List Int → Option (Bool)
  | 0, _, _, _, _ => none
  | k + 1, x12, x92, x476000, x476001 => if x92 = true then (some false) else ((laws_heldCup.f k x476000 x476001 1).bind fun t499 => (if t499 < 0 then (some false) else (if t499 = x12 then (some true) else (some false))))
end
def laws_FnExactWinGame.f (k : Nat) (a0_0 : Int) (l0_1 : List Int) (a1 : Int) : Option (Bool) := (laws_szCup.f a0_0 l0_1 1048576).bind fun t454 => (if t454 < 0 then (some true) else ((laws_toCup.f k a0_0 l0_1).bind fun bt455 => ((spec_WinGame.f k bt455.1 bt455.2 a1).bind fun bt459 => ((laws_toCup.f k a0_0 l0_1).bind fun bt465 => ((impl_WinGame.f k bt465.1 bt465.2 a1).bind fun bt470 => ((laws_eqCup.f k bt470.1 bt470.2.1 bt459.1 bt459.2.1).bind fun t476 => (if t476 = true then (laws_FnExactWinGame.j0 k a1 bt459.2.2 bt470.2.2 (bt470.2.2 != bt459.2.2) a0_0 l0_1 bt459.1 bt459.2.1 bt465.1 bt465.2 bt470.1 bt470.2.1) else (laws_FnExactWinGame.j0 k a1 bt459.2.2 bt470.2.2 true a0_0 l0_1 bt459.1 bt459.2.1 bt465.1 bt465.2 bt470.1 bt470.2.1))))))))
theorem laws_FnExactWinGame.mono_l : ∀ k, (∀ y0 y1 y2 y3 y4 y5 y6 y7 y8 y9 y10 y11, LeO (laws_FnExactWinGame.j0 k y0 y1 y2 y3 y4 y5 y6 y7 y8 y9 y10 y11) (laws_FnExactWinGame.j0 (k + 1) y0 y1 y2 y3 y4 y5 y6 y7 y8 y9 y10 y11)) ∧ (∀ y0 y1 y2 y3 y4 y5 y6 y7 y8, LeO (laws_FnExactWinGame.j1 k y0 y1 y2 y3 y4 y5 y6 y7 y8) (laws_FnExactWinGame.j1 (k + 1) y0 y1 y2 y3 y4 y5 y6 y7 y8)) ∧ (∀ y0 y1 y2 y3, LeO (laws_FnExactWinGame.j2 k y0 y1 y2 y3) (laws_FnExactWinGame.j2 (k + 1) y0 y1 y2 y3))
  | 0 => ⟨fun _ _ _ _ _ _ _ _ _ _ _ _ r h => by simp [laws_FnExactWinGame.j0] at h, fun _ _ _ _ _ _ _ _ _ r h => by simp [laws_FnExactWinGame.j1] at h, fun _ _ _ _ r h => by simp [laws_FnExactWinGame.j2] at h⟩
  | k + 1 => by
    obtain ⟨ih0, ih1, ih2⟩ := laws_FnExactWinGame.mono_l k
    refine ⟨?_, ?_, ?_⟩
    · intro y0 y1 y2 y3 y4 y5 y6 y7 y8 y9 y10 y11
      unfold laws_FnExactWinGame.j0
      repeat' first
      | (with_reducible exact ih0 _ _ _ _ _ _ _ _ _ _ _ _)
      | (with_reducible exact ih1 _ _ _ _ _ _ _ _ _)
      | (with_reducible exact ih2 _ _ _ _)
      | (with_reducible exact impl_WinGame.mono _ _ _ _)
      | (with_reducible exact laws_eqCup.mono _ _ _ _ _)
      | (with_reducible exact laws_heldCup.mono _ _ _ _)
      | (with_reducible exact laws_markCup.mono _ _ _ _)
      | (with_reducible exact laws_toCup.mono _ _ _)
      | (with_reducible exact spec_WinGame.mono _ _ _ _)
      | (with_reducible exact LeO.refl _)
      | (with_reducible exact LeO.none _)
      | (with_reducible refine LeO.ite ?_ ?_)
      | (with_reducible refine LeO.bind ?_ (fun _ => ?_))
      | exact ih0 _ _ _ _ _ _ _ _ _ _ _ _
      | exact ih1 _ _ _ _ _ _ _ _ _
      | exact ih2 _ _ _ _
      | exact impl_WinGame.mono _ _ _ _
      | exact laws_eqCup.mono _ _ _ _ _
      | exact laws_heldCup.mono _ _ _ _
      | exact laws_markCup.mono _ _ _ _
      | exact laws_toCup.mono _ _ _
      | exact spec_WinGame.mono _ _ _ _
      | exact LeO.none _
      | refine LeO.ite ?_ ?_
      | refine LeO.bind ?_ (fun _ => ?_)
    · intro y0 y1 y2 y3 y4 y5 y6 y7 y8
      unfold laws_FnExactWinGame.j1
      repeat' first
      | (with_reducible exact ih0 _ _ _ _ _ _ _ _ _ _ _ _)
      | (with_reducible exact ih1 _ _ _ _ _ _ _ _ _)
      | (with_reducible exact ih2 _ _ _ _)
      | (with_reducible exact impl_WinGame.mono _ _ _ _)
      | (with_reducible exact laws_eqCup.mono _ _ _ _ _)
      | (with_reducible exact laws_heldCup.mono _ _ _ _)
      | (with_reducible exact laws_markCup.mono _ _ _ _)
      | (with_reducible exact laws_toCup.mono _ _ _)
      | (with_reducible exact spec_WinGame.mono _ _ _ _)
      | (with_reducible exact LeO.refl _)
      | (with_reducible exact LeO.none _)
      | (with_reducible refine LeO.ite ?_ ?_)
      | (with_reducible refine LeO.bind ?_ (fun _ => ?_))
      | exact ih0 _ _ _ _ _ _ _ _ _ _ _ _
      | exact ih1 _ _ _ _ _ _ _ _ _
      | exact ih2 _ _ _ _
      | exact impl_WinGame.mono _ _ _ _
      | exact laws_eqCup.mono _ _ _ _ _
      | exact laws_heldCup.mono _ _ _ _
      | exact laws_markCup.mono _ _ _ _
      | exact laws_toCup.mono _ _ _
      | exact spec_WinGame.mono _ _ _ _
      | exact LeO.none _
      | refine LeO.ite ?_ ?_
      | refine LeO.bind ?_ (fun _ => ?_)
    · intro y0 y1 y2 y3
      unfold laws_FnExactWinGame.j2
      repeat' first
      | (with_reducible exact ih0 _ _ _ _ _ _ _ _ _ _ _ _)
      | (with_reducible exact ih1 _ _ _ _ _ _ _ _ _)
      | (with_reducible exact ih2 _ _ _ _)
      | (with_reducible exact impl_WinGame.mono _ _ _ _)
      | (with_reducible exact laws_eqCup.mono _ _ _ _ _)
      | (with_reducible exact laws_heldCup.mono _ _ _ _)
      | (with_reducible exact laws_markCup.mono _ _ _ _)
      | (with_reducible exact laws_toCup.mono _ _ _)
      | (with_reducible exact spec_WinGame.mono _ _ _ _)
      | (with_reducible exact LeO.refl _)
      | (with_reducible exact LeO.none _)
      | (with_reducible refine LeO.ite ?_ ?_)
      | (with_reducible refine LeO.bind ?_ (fun _ => ?_))
      | exact ih0 _ _ _ _ _ _ _ _ _ _ _ _
      | exact ih1 _ _ _ _ _ _ _ _ _
      | exact ih2 _ _ _ _
      | exact impl_WinGame.mono _ _ _ _
      | exact laws_eqCup.mono _ _ _ _ _
      | exact laws_heldCup.mono _ _ _ _
      | exact laws_markCup.mono _ _ _ _
      | exact laws_toCup.mono _ _ _
      | exact spec_WinGame.mono _ _ _ _
      | exact LeO.none _
      | refine LeO.ite ?_ ?_
      | refine LeO.bind ?_ (fun _ => ?_)
theorem laws_FnExactWinGame.mono : ∀ a0 a1 a2 k, LeO (laws_FnExactWinGame.f k a0 a1 a2) (laws_FnExactWinGame.f (k + 1) a0 a1 a2) := by
  intro a0 a1 a2 k
  obtain ⟨ih0, ih1, ih2⟩ := laws_FnExactWinGame.mono_l k
  unfold laws_FnExactWinGame.f
  repeat' first
      | (with_reducible exact ih0 _ _ _ _ _ _ _ _ _ _ _ _)
      | (with_reducible exact ih1 _ _ _ _ _ _ _ _ _)
      | (with_reducible exact ih2 _ _ _ _)
      | (with_reducible exact impl_WinGame.mono _ _ _ _)
      | (with_reducible exact laws_eqCup.mono _ _ _ _ _)
      | (with_reducible exact laws_heldCup.mono _ _ _ _)
      | (with_reducible exact laws_markCup.mono _ _ _ _)
      | (with_reducible exact laws_toCup.mono _ _ _)
      | (with_reducible exact spec_WinGame.mono _ _ _ _)
      | (with_reducible exact LeO.refl _)
      | (with_reducible exact LeO.none _)
      | (with_reducible refine LeO.ite ?_ ?_)
      | (with_reducible refine LeO.bind ?_ (fun _ => ?_))
      | exact ih0 _ _ _ _ _ _ _ _ _ _ _ _
      | exact ih1 _ _ _ _ _ _ _ _ _
      | exact ih2 _ _ _ _
      | exact impl_WinGame.mono _ _ _ _
      | exact laws_eqCup.mono _ _ _ _ _
      | exact laws_heldCup.mono _ _ _ _
      | exact laws_markCup.mono _ _ _ _
      | exact laws_toCup.mono _ _ _
      | exact spec_WinGame.mono _ _ _ _
      | exact LeO.none _
      | refine LeO.ite ?_ ?_
      | refine LeO.bind ?_ (fun _ => ?_)
set_option maxHeartbeats 8000000 in
set_option maxRecDepth 100000 in
theorem laws_FnExactWinGame.calls (k : Nat) (a0_0 : Int) (A0_1 : Option Addr) (c0_1 : Nat) (l0_1 : List Int) (a1 : Int) (r : Bool) (w : World) (hr0_1 : Kd.C (Kd.int .i64) w A0_1 l0_1.length l0_1) (hc0_1 : l0_1.length ≤ c0_1) (h : laws_FnExactWinGame.f k a0_0 l0_1 a1 = some r) :
    Calls Try.prog 12 #[.agg #[.int .i64 a0_0, .slice A0_1 l0_1.length c0_1], .int .i64 a1] w fun e w' => e = .returned (.bool r) ∧ Below w.heap.size w w' := by
  have hu32 := Try.underlying32
  have hu36 := Try.underlying36
  have HR0_1 := Aside0.mk hr0_1
  have HC0_1 := Aside0.mk hc0_1
  clear hr0_1 hc0_1
  have HB := Aside0.mk (Below.refl w.heap.size w)
  have H : ((laws_szCup.f a0_0 l0_1 1048576).bind fun t454 => (if t454 < 0 then (some true) else ((laws_toCup.f k a0_0 l0_1).bind fun bt455 => ((spec_WinGame.f k bt455.1 bt455.2 a1).bind fun bt459 => ((laws_toCup.f k a0_0 l0_1).bind fun bt465 => ((impl_WinGame.f k bt465.1 bt465.2 a1).bind fun bt470 => ((laws_eqCup.f k bt470.1 bt470.2.1 bt459.1 bt459.2.1).bind fun t476 => (if t476 = true then (laws_FnExactWinGame.j0 k a1 bt459.2.2 bt470.2.2 (bt470.2.2 != bt459.2.2) a0_0 l0_1 bt459.1 bt459.2.1 bt465.1 bt465.2 bt470.1 bt470.2.1) else (laws_FnExactWinGame.j0 k a1 bt459.2.2 bt470.2.2 true a0_0 l0_1 bt459.1 bt459.2.1 bt465.1 bt465.2 bt470.1 bt470.2.1))))))))) = some r := h
  clear h
  replace H := Option.bind_eq_some_iff.mp H
  obtain ⟨t454, A30, H⟩ := H
  replace H : (if t454 < 0 then (some true) else ((laws_toCup.f k a0_0 l0_1).bind fun bt455 => ((spec_WinGame.f k bt455.1 bt455.2 a1).bind fun bt459 => ((laws_toCup.f k a0_0 l0_1).bind fun bt465 => ((impl_WinGame.f k bt465.1 bt465.2 a1).bind fun bt470 => ((laws_eqCup.f k bt470.1 bt470.2.1 bt459.1 bt459.2.1).bind fun t476 => (if t476 = true then (laws_FnExactWinGame.j0 k a1 bt459.2.2 bt470.2.2 (bt470.2.2 != bt459.2.2) a0_0 l0_1 bt459.1 bt459.2.1 bt465.1 bt465.2 bt470.1 bt470.2.1) else (laws_FnExactWinGame.j0 k a1 bt459.2.2 bt470.2.2 true a0_0 l0_1 bt459.1 bt459.2.1 bt465.1 bt465.2 bt470.1 bt470.2.1)))))))) = some r := H
  have A3 := Aside0.mk A30
  clear A30
  by_cases c4 : t454 < 0
  · rw [if_pos c4] at H
    have c4b0 : decide (t454 < 0) = true := decide_eq_true c4
    clear c4
    obtain rfl := Option.some.inj H
    go_enter Try.func12, Try.ntmps12
    go_wp2_with (first | ((with_reducible refine gate_dst (N := 2) rfl ?_); refine box_event ?hg (N := 2) ?hd (cs := #[.int .i64 a0_0, .slice A0_1 l0_1.length c0_1]) (t := 32) ?hr ?_; (case hd => rfl); (case hg => rfl); (case hr => first | (go_simp; done) | (go_simp; rfl)); intro gb453 hg w5 hbox hb; have BK453 := Aside0.mk (hbox); have GW453 := Aside0.mk ((bsz hg : w.heap.size ≤ gb453)); have GE453 := Aside0.mk ((bsz hg : w.heap.size ≤ gb453)); replace HB := Aside0.mk (below_step bel hb); clear hb hbox hg; obtain ⟨hcz6_0, hcz6_1, hfz6_0, hfz6_1⟩ := cf2 BK453.out) | ((with_reducible refine gate_callee (f := 27) rfl ?_); refine goesL_ (some 18) rfl rfl Try.func27 (by kernel_rfl) rfl #[.agg #[.int .i64 a0_0, .slice A0_1 l0_1.length c0_1], .int .i64 1048576] rfl ga ?_; (with_reducible refine (laws_szCup.calls a0_0 _ _ l0_1 1048576 t454 _ ?side1 ?side2 A3.out).mono ?_); (case side1 => exact ck (Kd.C_below HR0_1.out HB.out)); (case side2 => exact HC0_1.out); rintro e w7 ⟨rfl, hb⟩; refine ⟨_, rfl, ?_⟩; replace BK453 := Aside0.mk (bb BK453.out hb); replace HB := Aside0.mk (below_step bel hb); (try clear hb)))
    go_ret
    exact ⟨er, bel⟩
  · rw [if_neg c4] at H
    have c4b0 : decide (t454 < 0) = false := decide_eq_false c4
    clear c4
    replace H := Option.bind_eq_some_iff.mp H
    obtain ⟨⟨t455, t456⟩, A80, H⟩ := H
    replace H : ((spec_WinGame.f k t455 t456 a1).bind fun bt459 => ((laws_toCup.f k a0_0 l0_1).bind fun bt465 => ((impl_WinGame.f k bt465.1 bt465.2 a1).bind fun bt470 => ((laws_eqCup.f k bt470.1 bt470.2.1 bt459.1 bt459.2.1).bind fun t476 => (if t476 = true then (laws_FnExactWinGame.j0 k a1 bt459.2.2 bt470.2.2 (bt470.2.2 != bt459.2.2) a0_0 l0_1 bt459.1 bt459.2.1 bt465.1 bt465.2 bt470.1 bt470.2.1) else (laws_FnExactWinGame.j0 k a1 bt459.2.2 bt470.2.2 true a0_0 l0_1 bt459.1 bt459.2.1 bt465.1 bt465.2 bt470.1 bt470.2.1)))))) = some r := H
    have A8 := Aside0.mk A80
    clear A80
    replace H := Option.bind_eq_some_iff.mp H
    obtain ⟨⟨t459, t460, t463⟩, A90, H⟩ := H
    replace H : ((laws_toCup.f k a0_0 l0_1).bind fun bt465 => ((impl_WinGame.f k bt465.1 bt465.2 a1).bind fun bt470 => ((laws_eqCup.f k bt470.1 bt470.2.1 t459 t460).bind fun t476 => (if t476 = true then (laws_FnExactWinGame.j0 k a1 t463 bt470.2.2 (bt470.2.2 != t463) a0_0 l0_1 t459 t460 bt465.1 bt465.2 bt470.1 bt470.2.1) else (laws_FnExactWinGame.j0 k a1 t463 bt470.2.2 true a0_0 l0_1 t459 t460 bt465.1 bt465.2 bt470.1 bt470.2.1))))) = some r := H
    have A9 := Aside0.mk A90
    clear A90
    replace H := Option.bind_eq_some_iff.mp H
    obtain ⟨⟨t465, t466⟩, A100, H⟩ := H
    replace H : ((impl_WinGame.f k t465 t466 a1).bind fun bt470 => ((laws_eqCup.f k bt470.1 bt470.2.1 t459 t460).bind fun t476 => (if t476 = true then (laws_FnExactWinGame.j0 k a1 t463 bt470.2.2 (bt470.2.2 != t463) a0_0 l0_1 t459 t460 t465 t466 bt470.1 bt470.2.1) else (laws_FnExactWinGame.j0 k a1 t463 bt470.2.2 true a0_0 l0_1 t459 t460 t465 t466 bt470.1 bt470.2.1)))) = some r := H
    have A10 := Aside0.mk A100
    clear A100
    replace H := Option.bind_eq_some_iff.mp H
    obtain ⟨⟨t470, t471, t474⟩, A110, H⟩ := H
    replace H : ((laws_eqCup.f k t470 t471 t459 t460).bind fun t476 => (if t476 = true then (laws_FnExactWinGame.j0 k a1 t463 t474 (t474 != t463) a0_0 l0_1 t459 t460 t465 t466 t470 t471) else (laws_FnExactWinGame.j0 k a1 t463 t474 true a0_0 l0_1 t459 t460 t465 t466 t470 t471))) = some r := H
    have A11 := Aside0.mk A110
    clear A110
    have HC12 := Aside0.mk H
    clear H
    go_enter Try.func12, Try.ntmps12
    go_upto_region 8 with (first | ((with_reducible refine gate_dst (N := 2) rfl ?_); refine box_event ?hg (N := 2) ?hd (cs := #[.int .i64 a0_0, .slice A0_1 l0_1.length c0_1]) (t := 32) ?hr ?_; (case hd => rfl); (case hg => rfl); (case hr => first | (go_simp; done) | (go_simp; rfl)); intro gb453 hg w13 hbox hb; have BK453 := Aside0.mk (hbox); have GW453 := Aside0.mk ((bsz hg : w.heap.size ≤ gb453)); have GE453 := Aside0.mk ((bsz hg : w.heap.size ≤ gb453)); replace HB := Aside0.mk (below_step bel hb); clear hb hbox hg; obtain ⟨hcz14_0, hcz14_1, hfz14_0, hfz14_1⟩ := cf2 BK453.out) | ((with_reducible refine gate_callee (f := 27) rfl ?_); refine goesL_ (some 18) rfl rfl Try.func27 (by kernel_rfl) rfl #[.agg #[.int .i64 a0_0, .slice A0_1 l0_1.length c0_1], .int .i64 1048576] rfl ga ?_; (with_reducible refine (laws_szCup.calls a0_0 _ _ l0_1 1048576 t454 _ ?side1 ?side2 A3.out).mono ?_); (case side1 => exact ck (Kd.C_below HR0_1.out HB.out)); (case side2 => exact HC0_1.out); rintro e w15 ⟨rfl, hb⟩; refine ⟨_, rfl, ?_⟩; replace BK453 := Aside0.mk (bb BK453.out hb); replace HB := Aside0.mk (below_step bel hb); (try clear hb); obtain ⟨hcz16_0, hcz16_1, hfz16_0, hfz16_1⟩ := cf2 BK453.out) | ((with_reducible refine gate_callee (f := 29) rfl ?_); refine goesL_ (some 23) rfl rfl Try.func29 (by kernel_rfl) rfl #[.agg #[.int .i64 a0_0, .slice A0_1 l0_1.length c0_1]] rfl ga ?_; (with_reducible refine (laws_toCup.calls k a0_0 _ _ l0_1 t455 t456 _ ?side1 ?side2 A8.out).mono ?_); (case side1 => exact ck (Kd.C_below HR0_1.out HB.out)); (case side2 => exact HC0_1.out); rintro e w17 ⟨v457, rfl, ho0, hb⟩; refine ⟨_, rfl, ?_⟩; have HO458 := Aside0.mk (Kd.R_lower ho0 (below_size bel)); replace BK453 := Aside0.mk (bb BK453.out hb); replace HB := Aside0.mk (below_step bel hb); (try clear hb); (try clear ho0); obtain ⟨Ao18, co18, eo18⟩ := Kd.R_slice HO458.out; subst eo18) | ((with_reducible refine gate_callee (f := 39) rfl ?_); refine goesL_ (some 25) rfl rfl Try.func39 (by kernel_rfl) rfl #[.agg #[.int .i64 t455, .slice Ao18 t456.length co18], .int .i64 a1] rfl ga ?_; (with_reducible refine (spec_WinGame.calls k t455 _ _ t456 a1 t459 t460 t463 _ ?side1 ?side2 A9.out).mono ?_); (case side1 => exact ck (Kd.R_reads' HO458.out).2.2); (case side2 => exact (Kd.R_reads' HO458.out).2.1); rintro e w19 ⟨v461, rfl, ho0, hb⟩; refine ⟨_, rfl, ?_⟩; have HO462 := Aside0.mk (Kd.R_lower (Kd.R_new' ho0 (Kd.R_lt (rk HO458.out))) (below_size bel)); replace HO458 := Aside0.mk (Kd.R_elder' (rk HO458.out) (Kd.R_base ho0) hb); replace BK453 := Aside0.mk (bb BK453.out hb); replace HB := Aside0.mk (below_step bel hb); (try clear hb); (try clear ho0)) | ((with_reducible refine gate_dst (N := 6) rfl ?_); refine box_event ?hg (N := 6) ?hd (cs := #[.int .i64 0, .slice none 0 0]) (t := 36) ?hr ?_; (case hd => rfl); (case hg => rfl); (case hr => first | (go_simp; done) | (go_simp; rfl)); intro gb464 hg w20 hbox hb; have BK464 := Aside0.mk (hbox); have GW464 := Aside0.mk ((bsz hg : w.heap.size ≤ gb464)); have GE464 := Aside0.mk ((bsz hg : w.heap.size ≤ gb464)); have NB453_464 := Aside0.mk ((nlt hg BK453.out : gb453 ≠ gb464)); have NB464_453 := Aside0.mk ((ngt hg BK453.out : gb464 ≠ gb453)); replace HO458 := Aside0.mk (Kd.R_below (rk HO458.out) hb); replace HO462 := Aside0.mk (Kd.R_below (rk HO462.out) hb); replace BK453 := Aside0.mk (bb BK453.out hb); replace HB := Aside0.mk (below_step bel hb); clear hb hbox hg; have hnb21 := NB464_453.out; have hnc21 := NB453_464.out; obtain ⟨hcz22_0, hcz22_1, hfz22_0, hfz22_1⟩ := cf2 BK464.out; obtain ⟨Ao23, co23, eo23⟩ := Kd.R_slice HO462.out; subst eo23; obtain ⟨hcz24_0, hcz24_1, hfz24_0, hfz24_1⟩ := cf2 BK453.out) | ((with_reducible refine gate_callee (f := 29) rfl ?_); refine goesL_ (some 29) rfl rfl Try.func29 (by kernel_rfl) rfl #[.agg #[.int .i64 a0_0, .slice A0_1 l0_1.length c0_1]] rfl ga ?_; (with_reducible refine (laws_toCup.calls k a0_0 _ _ l0_1 t465 t466 _ ?side1 ?side2 A10.out).mono ?_); (case side1 => exact Kd.C_below HR0_1.out bel); (case side2 => exact HC0_1.out); rintro e w25 ⟨v467, rfl, ho0, hb⟩; refine ⟨_, rfl, ?_⟩; have HO468 := Aside0.mk (Kd.R_lower (Kd.R_new' (Kd.R_new' ho0 (Kd.R_lt (by exact rk (Kd.R_mono (Kd.R_far (p := ⟨gb464, 1, none⟩) (Kd.R_far (p := ⟨gb464, 0, none⟩) (Kd.R_types HO458.out BK464.out (by decide)) (fun _ hk => hk.2) (.int .i64 t459)) (fun _ hk => hk.2) (.slice Ao23 t460.length co23)) (fun _ h_ => h_.1))))) (Kd.R_lt (by exact rk (Kd.R_mono (Kd.R_far (p := ⟨gb464, 1, none⟩) (Kd.R_far (p := ⟨gb464, 0, none⟩) (Kd.R_types HO462.out BK464.out (by decide)) (fun _ hk => hk.2) (.int .i64 t459)) (fun _ hk => hk.2) (.slice Ao23 t460.length co23)) (fun _ h_ => h_.1))))) (below_size bel)); replace HO458 := Aside0.mk (Kd.R_elder' (by exact rk (Kd.R_mono (Kd.R_far (p := ⟨gb464, 1, none⟩) (Kd.R_far (p := ⟨gb464, 0, none⟩) (Kd.R_types HO458.out BK464.out (by decide)) (fun _ hk => hk.2) (.int .i64 t459)) (fun _ hk => hk.2) (.slice Ao23 t460.length co23)) (fun _ h_ => h_.1))) (Kd.R_base ho0) hb); replace HO462 := Aside0.mk (Kd.R_elder' (by exact rk (Kd.R_mono (Kd.R_far (p := ⟨gb464, 1, none⟩) (Kd.R_far (p := ⟨gb464, 0, none⟩) (Kd.R_types HO462.out BK464.out (by decide)) (fun _ hk => hk.2) (.int .i64 t459)) (fun _ hk => hk.2) (.slice Ao23 t460.length co23)) (fun _ h_ => h_.1))) (Kd.R_base ho0) hb); replace BK453 := Aside0.mk (bb BK453.out hb); replace BK464 := Aside0.mk (blk_below (g := gb464) (o := .cells #[.int .i64 t459, .slice Ao23 t460.length co23] 36 (0, 0)) (by (with_reducible repeat (first | refine blk_drewN ?_ _ | refine blk_drew ?_ | refine blk_alloc ?_ _)); refine blk_put (cs := #[.int .i64 t459, .slice none 0 0]) ?_ 1 _ rfl; (with_reducible repeat (first | refine blk_drewN ?_ _ | refine blk_drew ?_ | refine blk_alloc ?_ _)); refine blk_put (cs := #[.int .i64 0, .slice none 0 0]) ?_ 0 _ rfl; (with_reducible repeat (first | refine blk_drewN ?_ _ | refine blk_drew ?_ | refine blk_alloc ?_ _)); exact BK464.out) hb); replace HB := Aside0.mk (below_step bel hb); (try clear hb); (try clear ho0)) | ((with_reducible refine gate_dst (N := 8) rfl ?_); refine box_event ?hg (N := 8) ?hd (cs := #[.int .i64 0, .slice none 0 0]) (t := 36) ?hr ?_; (case hd => rfl); (case hg => rfl); (case hr => first | (go_simp; done) | (go_simp; rfl)); intro gb469 hg w26 hbox hb; have BK469 := Aside0.mk (hbox); have GW469 := Aside0.mk ((bsz hg : w.heap.size ≤ gb469)); have GE469 := Aside0.mk ((bsz hg : w.heap.size ≤ gb469)); have NB453_469 := Aside0.mk ((nlt hg BK453.out : gb453 ≠ gb469)); have NB469_453 := Aside0.mk ((ngt hg BK453.out : gb469 ≠ gb453)); have NB464_469 := Aside0.mk ((nlt hg BK464.out : gb464 ≠ gb469)); have NB469_464 := Aside0.mk ((ngt hg BK464.out : gb469 ≠ gb464)); replace HO458 := Aside0.mk (Kd.R_below (rk HO458.out) hb); replace HO462 := Aside0.mk (Kd.R_below (rk HO462.out) hb); replace HO468 := Aside0.mk (Kd.R_below (rk HO468.out) hb); replace BK453 := Aside0.mk (bb BK453.out hb); replace BK464 := Aside0.mk (bb BK464.out hb); replace HB := Aside0.mk (below_step bel hb); clear hb hbox hg; have hnb27 := NB469_453.out; have hnc27 := NB453_469.out; have hnb28 := NB469_464.out; have hnc28 := NB464_469.out; obtain ⟨hcz29_0, hcz29_1, hfz29_0, hfz29_1⟩ := cf2 BK469.out; obtain ⟨Ao30, co30, eo30⟩ := Kd.R_slice HO468.out; subst eo30) | ((with_reducible refine gate_callee (f := 37) rfl ?_); refine goesL_ (some 33) rfl rfl Try.func37 (by kernel_rfl) rfl #[.agg #[.int .i64 t465, .slice Ao30 t466.length co30], .int .i64 a1] rfl ga ?_; (with_reducible refine (impl_WinGame.calls k t465 _ _ t466 a1 t470 t471 t474 _ ?side1 ?side2 A11.out).mono ?_); (case side1 => refine (Kd.R_reads' (e := 3) (base := w.heap.size) (ok := fun k_ => ((True ∧ some k_ ≠ (.slice Ao18 t456.length co18 : Value).ownBlock) ∧ some k_ ≠ (.slice Ao23 t460.length co23 : Value).ownBlock)) (n := t466.length) (c := co30) ?_).2.2; exact (by exact rk (Kd.R_mono (Kd.R_far (p := ⟨gb469, 1, none⟩) (Kd.R_far (p := ⟨gb469, 0, none⟩) (Kd.R_types HO468.out BK469.out (by decide)) (fun _ hk => hk.2) (.int .i64 t465)) (fun _ hk => hk.2) (.slice Ao30 t466.length co30)) (fun _ h_ => h_.1)))); (case side2 => exact (Kd.R_reads' HO468.out).2.1); rintro e w31 ⟨v472, rfl, ho0, hb⟩; refine ⟨_, rfl, ?_⟩; have HO473 := Aside0.mk (Kd.R_lower (Kd.R_new' (Kd.R_new' (Kd.R_new' ho0 (Kd.R_lt (by exact rk (Kd.R_mono (Kd.R_far (p := ⟨gb469, 1, none⟩) (Kd.R_far (p := ⟨gb469, 0, none⟩) (Kd.R_types HO458.out BK469.out (by decide)) (fun _ hk => hk.2) (.int .i64 t465)) (fun _ hk => hk.2) (.slice Ao30 t466.length co30)) (fun _ h_ => h_.1))))) (Kd.R_lt (by exact rk (Kd.R_mono (Kd.R_far (p := ⟨gb469, 1, none⟩) (Kd.R_far (p := ⟨gb469, 0, none⟩) (Kd.R_types HO462.out BK469.out (by decide)) (fun _ hk => hk.2) (.int .i64 t465)) (fun _ hk => hk.2) (.slice Ao30 t466.length co30)) (fun _ h_ => h_.1))))) (Kd.R_lt (by exact rk (Kd.R_mono (Kd.R_far (p := ⟨gb469, 1, none⟩) (Kd.R_far (p := ⟨gb469, 0, none⟩) (Kd.R_types HO468.out BK469.out (by decide)) (fun _ hk => hk.2) (.int .i64 t465)) (fun _ hk => hk.2) (.slice Ao30 t466.length co30)) (fun _ h_ => h_.1))))) (below_size bel)); replace HO458 := Aside0.mk (Kd.R_elder' (by exact rk (Kd.R_mono (Kd.R_far (p := ⟨gb469, 1, none⟩) (Kd.R_far (p := ⟨gb469, 0, none⟩) (Kd.R_types HO458.out BK469.out (by decide)) (fun _ hk => hk.2) (.int .i64 t465)) (fun _ hk => hk.2) (.slice Ao30 t466.length co30)) (fun _ h_ => h_.1))) (Kd.R_base ho0) hb); replace HO462 := Aside0.mk (Kd.R_elder' (by exact rk (Kd.R_mono (Kd.R_far (p := ⟨gb469, 1, none⟩) (Kd.R_far (p := ⟨gb469, 0, none⟩) (Kd.R_types HO462.out BK469.out (by decide)) (fun _ hk => hk.2) (.int .i64 t465)) (fun _ hk => hk.2) (.slice Ao30 t466.length co30)) (fun _ h_ => h_.1))) (Kd.R_base ho0) hb); replace HO468 := Aside0.mk (Kd.R_elder' (by exact rk (Kd.R_mono (Kd.R_far (p := ⟨gb469, 1, none⟩) (Kd.R_far (p := ⟨gb469, 0, none⟩) (Kd.R_types HO468.out BK469.out (by decide)) (fun _ hk => hk.2) (.int .i64 t465)) (fun _ hk => hk.2) (.slice Ao30 t466.length co30)) (fun _ h_ => h_.1))) (Kd.R_base ho0) hb); replace BK453 := Aside0.mk (bb BK453.out hb); replace BK464 := Aside0.mk (bb BK464.out hb); replace BK469 := Aside0.mk (blk_below (g := gb469) (o := .cells #[.int .i64 t465, .slice Ao30 t466.length co30] 36 (0, 0)) (by (with_reducible repeat (first | refine blk_drewN ?_ _ | refine blk_drew ?_ | refine blk_alloc ?_ _)); refine blk_put (cs := #[.int .i64 t465, .slice none 0 0]) ?_ 1 _ rfl; (with_reducible repeat (first | refine blk_drewN ?_ _ | refine blk_drew ?_ | refine blk_alloc ?_ _)); refine blk_put (cs := #[.int .i64 0, .slice none 0 0]) ?_ 0 _ rfl; (with_reducible repeat (first | refine blk_drewN ?_ _ | refine blk_drew ?_ | refine blk_alloc ?_ _)); exact BK469.out) hb); replace HB := Aside0.mk (below_step bel hb); (try clear hb); (try clear ho0)) | ((with_reducible refine gate_dst (N := 9) rfl ?_); refine box_event ?hg (N := 9) ?hd (cs := #[.int .i64 0, .slice none 0 0]) (t := 36) ?hr ?_; (case hd => rfl); (case hg => rfl); (case hr => first | (go_simp; done) | (go_simp; rfl)); intro gb475 hg w32 hbox hb; have BK475 := Aside0.mk (hbox); have GW475 := Aside0.mk ((bsz hg : w.heap.size ≤ gb475)); have GE475 := Aside0.mk ((bsz hg : w.heap.size ≤ gb475)); have NB453_475 := Aside0.mk ((nlt hg BK453.out : gb453 ≠ gb475)); have NB475_453 := Aside0.mk ((ngt hg BK453.out : gb475 ≠ gb453)); have NB464_475 := Aside0.mk ((nlt hg BK464.out : gb464 ≠ gb475)); have NB475_464 := Aside0.mk ((ngt hg BK464.out : gb475 ≠ gb464)); have NB469_475 := Aside0.mk ((nlt hg BK469.out : gb469 ≠ gb475)); have NB475_469 := Aside0.mk ((ngt hg BK469.out : gb475 ≠ gb469)); replace HO458 := Aside0.mk (Kd.R_below (rk HO458.out) hb); replace HO462 := Aside0.mk (Kd.R_below (rk HO462.out) hb); replace HO468 := Aside0.mk (Kd.R_below (rk HO468.out) hb); replace HO473 := Aside0.mk (Kd.R_below (rk HO473.out) hb); replace BK453 := Aside0.mk (bb BK453.out hb); replace BK464 := Aside0.mk (bb BK464.out hb); replace BK469 := Aside0.mk (bb BK469.out hb); replace HB := Aside0.mk (below_step bel hb); clear hb hbox hg; have hnb33 := NB475_453.out; have hnc33 := NB453_475.out; have hnb34 := NB475_464.out; have hnc34 := NB464_475.out; have hnb35 := NB475_469.out; have hnc35 := NB469_475.out; obtain ⟨hcz36_0, hcz36_1, hfz36_0, hfz36_1⟩ := cf2 BK475.out; obtain ⟨Ao37, co37, eo37⟩ := Kd.R_slice HO473.out; subst eo37))
    (try simp only [Act.put, List.setIfInBounds_toArray, List.set_cons_zero, List.set_cons_succ])
    go_cut [44] (fun v44 wc => ∃ (kq : Nat) (x44_11 : Bool), v44 = .bool x44_11 ∧ Aside0 (laws_FnExactWinGame.j0 kq a1 t463 t474 x44_11 a0_0 l0_1 t459 t460 t465 t466 t470 t471 = some r) ∧ Aside0 (kq ≤ k) ∧ Aside0 (Kd.R (Kd.int .i64) 3 wc w.heap.size (fun k_ => some k_ ≠ ((.slice Ao30 t466.length co30) : Value).ownBlock ∧ some k_ ≠ ((.slice Ao37 t471.length co37) : Value).ownBlock) (.slice Ao23 t460.length co23) t460) ∧ Aside0 (Kd.R (Kd.int .i64) 3 wc w.heap.size (fun k_ => some k_ ≠ ((.slice Ao23 t460.length co23) : Value).ownBlock ∧ some k_ ≠ ((.slice Ao37 t471.length co37) : Value).ownBlock) (.slice Ao30 t466.length co30) t466) ∧ Aside0 (Kd.R (Kd.int .i64) 3 wc w.heap.size (fun k_ => some k_ ≠ ((.slice Ao23 t460.length co23) : Value).ownBlock ∧ some k_ ≠ ((.slice Ao30 t466.length co30) : Value).ownBlock) (.slice Ao37 t471.length co37) t471) ∧ Aside0 (wc.heap[gb453]? = some (.cells #[.int .i64 a0_0, (.slice A0_1 l0_1.length c0_1)] 32 (0, 0))) ∧ Aside0 (wc.heap[gb464]? = some (.cells #[.int .i64 t459, (.slice Ao23 t460.length co23)] 36 (0, 0))) ∧ Aside0 (wc.heap[gb469]? = some (.cells #[.int .i64 t465, (.slice Ao30 t466.length co30)] 36 (0, 0))) ∧ Aside0 (wc.heap[gb475]? = some (.cells #[.int .i64 t470, (.slice Ao37 t471.length co37)] 36 (0, 0))) ∧ Aside0 (Below w.heap.size w wc))
    case first =>
      have H := HC12.out
      clear HC12
      replace H := Option.bind_eq_some_iff.mp H
      obtain ⟨t476, A380, H⟩ := H
      replace H : (if t476 = true then (laws_FnExactWinGame.j0 k a1 t463 t474 (t474 != t463) a0_0 l0_1 t459 t460 t465 t466 t470 t471) else (laws_FnExactWinGame.j0 k a1 t463 t474 true a0_0 l0_1 t459 t460 t465 t466 t470 t471)) = some r := H
      have A38 := Aside0.mk A380
      clear A380
      by_cases c39 : t476 = true
      · subst c39
        have H1 : (laws_FnExactWinGame.j0 k a1 t463 t474 (t474 != t463) a0_0 l0_1 t459 t460 t465 t466 t470 t471) = some r := by rw [if_pos rfl] at H; exact H
        clear H
        have H := H1
        clear H1
        have H' := Aside0.mk H
        clear H
        have hnb40 := NB475_453.out
        have hnc40 := NB453_475.out
        have hnb41 := NB475_464.out
        have hnc41 := NB464_475.out
        have hnb42 := NB475_469.out
        have hnc42 := NB469_475.out
        obtain ⟨hcz43_0, hcz43_1, hfz43_0, hfz43_1⟩ := cf2 BK475.out
        have hnb44 := NB464_453.out
        have hnc44 := NB453_464.out
        have hnb45 := NB464_469.out
        have hnc45 := NB469_464.out
        obtain ⟨hcz46_0, hcz46_1, hfz46_0, hfz46_1⟩ := cf2 BK464.out
        go_wp2_with (first | ((with_reducible refine gate_callee (f := 31) rfl ?_); refine goesL_ (some 38) rfl rfl Try.func31 (by kernel_rfl) rfl #[.agg #[.int .i64 t470, .slice Ao37 t471.length co37], .agg #[.int .i64 t459, .slice Ao23 t460.length co23]] rfl ga ?_; (with_reducible refine (laws_eqCup.calls k t470 _ _ t471 t459 _ _ t460 true _ ?side1 ?side2 ?side3 ?side4 A38.out).mono ?_); (case side1 => refine (Kd.R_reads' (e := 3) (base := w.heap.size) (ok := fun k_ => (((True ∧ some k_ ≠ (.slice Ao18 t456.length co18 : Value).ownBlock) ∧ some k_ ≠ (.slice Ao23 t460.length co23 : Value).ownBlock) ∧ some k_ ≠ (.slice Ao30 t466.length co30 : Value).ownBlock)) (n := t471.length) (c := co37) ?_).2.2; exact (by exact rk (Kd.R_mono (Kd.R_far (p := ⟨gb475, 1, none⟩) (Kd.R_far (p := ⟨gb475, 0, none⟩) (Kd.R_types HO473.out BK475.out (by decide)) (fun _ hk => hk.2) (.int .i64 t470)) (fun _ hk => hk.2) (.slice Ao37 t471.length co37)) (fun _ h_ => h_.1)))); (case side2 => exact (Kd.R_reads' HO473.out).2.1); (case side3 => refine (Kd.R_reads' (e := 3) (base := w.heap.size) (ok := fun k_ => (((True ∧ some k_ ≠ (.slice Ao18 t456.length co18 : Value).ownBlock) ∧ some k_ ≠ (.slice Ao30 t466.length co30 : Value).ownBlock) ∧ some k_ ≠ (.slice Ao37 t471.length co37 : Value).ownBlock)) (n := t460.length) (c := co23) ?_).2.2; exact (by exact rk (Kd.R_mono (Kd.R_far (p := ⟨gb475, 1, none⟩) (Kd.R_far (p := ⟨gb475, 0, none⟩) (Kd.R_types HO462.out BK475.out (by decide)) (fun _ hk => hk.2) (.int .i64 t470)) (fun _ hk => hk.2) (.slice Ao37 t471.length co37)) (fun _ h_ => h_.1)))); (case side4 => exact (Kd.R_reads' HO462.out).2.1); rintro e w47 ⟨rfl, hb⟩; refine ⟨_, rfl, ?_⟩; replace HO458 := Aside0.mk (Kd.R_below (by exact rk (Kd.R_mono (Kd.R_far (p := ⟨gb475, 1, none⟩) (Kd.R_far (p := ⟨gb475, 0, none⟩) (Kd.R_types HO458.out BK475.out (by decide)) (fun _ hk => hk.2) (.int .i64 t470)) (fun _ hk => hk.2) (.slice Ao37 t471.length co37)) (fun _ h_ => h_.1))) hb); replace HO462 := Aside0.mk (Kd.R_below (by exact rk (Kd.R_mono (Kd.R_far (p := ⟨gb475, 1, none⟩) (Kd.R_far (p := ⟨gb475, 0, none⟩) (Kd.R_types HO462.out BK475.out (by decide)) (fun _ hk => hk.2) (.int .i64 t470)) (fun _ hk => hk.2) (.slice Ao37 t471.length co37)) (fun _ h_ => h_.1))) hb); replace HO468 := Aside0.mk (Kd.R_below (by exact rk (Kd.R_mono (Kd.R_far (p := ⟨gb475, 1, none⟩) (Kd.R_far (p := ⟨gb475, 0, none⟩) (Kd.R_types HO468.out BK475.out (by decide)) (fun _ hk => hk.2) (.int .i64 t470)) (fun _ hk => hk.2) (.slice Ao37 t471.length co37)) (fun _ h_ => h_.1))) hb); replace HO473 := Aside0.mk (Kd.R_below (by exact rk (Kd.R_mono (Kd.R_far (p := ⟨gb475, 1, none⟩) (Kd.R_far (p := ⟨gb475, 0, none⟩) (Kd.R_types HO473.out BK475.out (by decide)) (fun _ hk => hk.2) (.int .i64 t470)) (fun _ hk => hk.2) (.slice Ao37 t471.length co37)) (fun _ h_ => h_.1))) hb); replace BK453 := Aside0.mk (bb BK453.out hb); replace BK464 := Aside0.mk (bb BK464.out hb); replace BK469 := Aside0.mk (bb BK469.out hb); replace BK475 := Aside0.mk (blk_below (g := gb475) (o := .cells #[.int .i64 t470, .slice Ao37 t471.length co37] 36 (0, 0)) (by (with_reducible repeat (first | refine blk_drewN ?_ _ | refine blk_drew ?_ | refine blk_alloc ?_ _)); refine blk_put (cs := #[.int .i64 t470, .slice none 0 0]) ?_ 1 _ rfl; (with_reducible repeat (first | refine blk_drewN ?_ _ | refine blk_drew ?_ | refine blk_alloc ?_ _)); refine blk_put (cs := #[.int .i64 0, .slice none 0 0]) ?_ 0 _ rfl; (with_reducible repeat (first | refine blk_drewN ?_ _ | refine blk_drew ?_ | refine blk_alloc ?_ _)); exact BK475.out) hb); replace HB := Aside0.mk (below_step bel hb); (try clear hb)))
        go_meet
        case rel => exact ⟨_, ((t474 != t463)), (es), H', ⟨by first | omega | exact Nat.le_refl _⟩, ⟨by (with_reducible repeat (first | apply Kd.R_alloc | apply Kd.R_drewN | apply Kd.R_drew)); exact Kd.R_mono HO462.out (fun _ hk => ⟨hk.1.2, hk.2⟩)⟩, ⟨by (with_reducible repeat (first | apply Kd.R_alloc | apply Kd.R_drewN | apply Kd.R_drew)); exact Kd.R_mono HO468.out (fun _ hk => ⟨hk.1.2, hk.2⟩)⟩, ⟨by (with_reducible repeat (first | apply Kd.R_alloc | apply Kd.R_drewN | apply Kd.R_drew)); exact Kd.R_mono HO473.out (fun _ hk => ⟨hk.1.2, hk.2⟩)⟩, ⟨bk BK453.out⟩, ⟨bk BK464.out⟩, ⟨bk BK469.out⟩, ⟨bk BK475.out⟩, ⟨bel⟩⟩
      · replace c39 := Bool.eq_false_iff.mpr c39
        subst c39
        have H1 : (laws_FnExactWinGame.j0 k a1 t463 t474 true a0_0 l0_1 t459 t460 t465 t466 t470 t471) = some r := by rw [if_neg (show ¬ (false = true) by decide)] at H; exact H
        clear H
        have H := H1
        clear H1
        have H' := Aside0.mk H
        clear H
        have hnb48 := NB475_453.out
        have hnc48 := NB453_475.out
        have hnb49 := NB475_464.out
        have hnc49 := NB464_475.out
        have hnb50 := NB475_469.out
        have hnc50 := NB469_475.out
        obtain ⟨hcz51_0, hcz51_1, hfz51_0, hfz51_1⟩ := cf2 BK475.out
        have hnb52 := NB464_453.out
        have hnc52 := NB453_464.out
        have hnb53 := NB464_469.out
        have hnc53 := NB469_464.out
        obtain ⟨hcz54_0, hcz54_1, hfz54_0, hfz54_1⟩ := cf2 BK464.out
        go_wp2_with (first | ((with_reducible refine gate_callee (f := 31) rfl ?_); refine goesL_ (some 38) rfl rfl Try.func31 (by kernel_rfl) rfl #[.agg #[.int .i64 t470, .slice Ao37 t471.length co37], .agg #[.int .i64 t459, .slice Ao23 t460.length co23]] rfl ga ?_; (with_reducible refine (laws_eqCup.calls k t470 _ _ t471 t459 _ _ t460 false _ ?side1 ?side2 ?side3 ?side4 A38.out).mono ?_); (case side1 => refine (Kd.R_reads' (e := 3) (base := w.heap.size) (ok := fun k_ => (((True ∧ some k_ ≠ (.slice Ao18 t456.length co18 : Value).ownBlock) ∧ some k_ ≠ (.slice Ao23 t460.length co23 : Value).ownBlock) ∧ some k_ ≠ (.slice Ao30 t466.length co30 : Value).ownBlock)) (n := t471.length) (c := co37) ?_).2.2; exact (by exact rk (Kd.R_mono (Kd.R_far (p := ⟨gb475, 1, none⟩) (Kd.R_far (p := ⟨gb475, 0, none⟩) (Kd.R_types HO473.out BK475.out (by decide)) (fun _ hk => hk.2) (.int .i64 t470)) (fun _ hk => hk.2) (.slice Ao37 t471.length co37)) (fun _ h_ => h_.1)))); (case side2 => exact (Kd.R_reads' HO473.out).2.1); (case side3 => refine (Kd.R_reads' (e := 3) (base := w.heap.size) (ok := fun k_ => (((True ∧ some k_ ≠ (.slice Ao18 t456.length co18 : Value).ownBlock) ∧ some k_ ≠ (.slice Ao30 t466.length co30 : Value).ownBlock) ∧ some k_ ≠ (.slice Ao37 t471.length co37 : Value).ownBlock)) (n := t460.length) (c := co23) ?_).2.2; exact (by exact rk (Kd.R_mono (Kd.R_far (p := ⟨gb475, 1, none⟩) (Kd.R_far (p := ⟨gb475, 0, none⟩) (Kd.R_types HO462.out BK475.out (by decide)) (fun _ hk => hk.2) (.int .i64 t470)) (fun _ hk => hk.2) (.slice Ao37 t471.length co37)) (fun _ h_ => h_.1)))); (case side4 => exact (Kd.R_reads' HO462.out).2.1); rintro e w55 ⟨rfl, hb⟩; refine ⟨_, rfl, ?_⟩; replace HO458 := Aside0.mk (Kd.R_below (by exact rk (Kd.R_mono (Kd.R_far (p := ⟨gb475, 1, none⟩) (Kd.R_far (p := ⟨gb475, 0, none⟩) (Kd.R_types HO458.out BK475.out (by decide)) (fun _ hk => hk.2) (.int .i64 t470)) (fun _ hk => hk.2) (.slice Ao37 t471.length co37)) (fun _ h_ => h_.1))) hb); replace HO462 := Aside0.mk (Kd.R_below (by exact rk (Kd.R_mono (Kd.R_far (p := ⟨gb475, 1, none⟩) (Kd.R_far (p := ⟨gb475, 0, none⟩) (Kd.R_types HO462.out BK475.out (by decide)) (fun _ hk => hk.2) (.int .i64 t470)) (fun _ hk => hk.2) (.slice Ao37 t471.length co37)) (fun _ h_ => h_.1))) hb); replace HO468 := Aside0.mk (Kd.R_below (by exact rk (Kd.R_mono (Kd.R_far (p := ⟨gb475, 1, none⟩) (Kd.R_far (p := ⟨gb475, 0, none⟩) (Kd.R_types HO468.out BK475.out (by decide)) (fun _ hk => hk.2) (.int .i64 t470)) (fun _ hk => hk.2) (.slice Ao37 t471.length co37)) (fun _ h_ => h_.1))) hb); replace HO473 := Aside0.mk (Kd.R_below (by exact rk (Kd.R_mono (Kd.R_far (p := ⟨gb475, 1, none⟩) (Kd.R_far (p := ⟨gb475, 0, none⟩) (Kd.R_types HO473.out BK475.out (by decide)) (fun _ hk => hk.2) (.int .i64 t470)) (fun _ hk => hk.2) (.slice Ao37 t471.length co37)) (fun _ h_ => h_.1))) hb); replace BK453 := Aside0.mk (bb BK453.out hb); replace BK464 := Aside0.mk (bb BK464.out hb); replace BK469 := Aside0.mk (bb BK469.out hb); replace BK475 := Aside0.mk (blk_below (g := gb475) (o := .cells #[.int .i64 t470, .slice Ao37 t471.length co37] 36 (0, 0)) (by (with_reducible repeat (first | refine blk_drewN ?_ _ | refine blk_drew ?_ | refine blk_alloc ?_ _)); refine blk_put (cs := #[.int .i64 t470, .slice none 0 0]) ?_ 1 _ rfl; (with_reducible repeat (first | refine blk_drewN ?_ _ | refine blk_drew ?_ | refine blk_alloc ?_ _)); refine blk_put (cs := #[.int .i64 0, .slice none 0 0]) ?_ 0 _ rfl; (with_reducible repeat (first | refine blk_drewN ?_ _ | refine blk_drew ?_ | refine blk_alloc ?_ _)); exact BK475.out) hb); replace HB := Aside0.mk (below_step bel hb); (try clear hb)))
        go_meet
        case rel => exact ⟨_, (true), (es), H', ⟨by first | omega | exact Nat.le_refl _⟩, ⟨by (with_reducible repeat (first | apply Kd.R_alloc | apply Kd.R_drewN | apply Kd.R_drew)); exact Kd.R_mono HO462.out (fun _ hk => ⟨hk.1.2, hk.2⟩)⟩, ⟨by (with_reducible repeat (first | apply Kd.R_alloc | apply Kd.R_drewN | apply Kd.R_drew)); exact Kd.R_mono HO468.out (fun _ hk => ⟨hk.1.2, hk.2⟩)⟩, ⟨by (with_reducible repeat (first | apply Kd.R_alloc | apply Kd.R_drewN | apply Kd.R_drew)); exact Kd.R_mono HO473.out (fun _ hk => ⟨hk.1.2, hk.2⟩)⟩, ⟨bk BK453.out⟩, ⟨bk BK464.out⟩, ⟨bk BK469.out⟩, ⟨bk BK475.out⟩, ⟨bel⟩⟩
    case rest =>
      clear HC12
      try clear c1; try clear c2; try clear p2; try clear c3; try clear c4; try clear c4b0; try clear c5; try clear c12; try clear c21; try clear c27; try clear c28; try clear c29; try clear c31; try clear c33; try clear c34; try clear c35; try clear c37; try clear c39; try clear c40; try clear c41; try clear c42; try clear c44; try clear c45; try clear c48; try clear c49; try clear c50; try clear c52; try clear c53; try clear hcz14_0; try clear hcz14_1; try clear hcz16_0; try clear hcz16_1; try clear hcz22_0; try clear hcz22_1; try clear hcz24_0; try clear hcz24_1; try clear hcz29_0; try clear hcz29_1; try clear hcz36_0; try clear hcz36_1; try clear hcz43_0; try clear hcz43_1; try clear hcz46_0; try clear hcz46_1; try clear hcz51_0; try clear hcz51_1; try clear hcz54_0; try clear hcz54_1; try clear hcz6_0; try clear hcz6_1; try clear hfz14_0; try clear hfz14_1; try clear hfz16_0; try clear hfz16_1; try clear hfz22_0; try clear hfz22_1; try clear hfz24_0; try clear hfz24_1; try clear hfz29_0; try clear hfz29_1; try clear hfz36_0; try clear hfz36_1; try clear hfz43_0; try clear hfz43_1; try clear hfz46_0; try clear hfz46_1; try clear hfz51_0; try clear hfz51_1; try clear hfz54_0; try clear hfz54_1; try clear hfz6_0; try clear hfz6_1
      obtain ⟨kq, x44_11, rfl, HA, HJ11, HO_465001, HO_470001, HO_476001, BK453, BK464, BK469, BK475, HB⟩ := hcut
      cases kq with
      | zero => exact absurd HA.out (by simp [laws_FnExactWinGame.j0])
      | succ kj11 =>
        have H := HA.out
        clear HA
        simp only [laws_FnExactWinGame.j0] at H
        by_cases c56 : x44_11 = true
        · subst c56
          have H1 : (some false) = some r := by rw [if_pos rfl] at H; exact H
          clear H
          have H := H1
          clear H1
          obtain rfl := Option.some.inj H
          go_wp2
          go_ret
          exact ⟨er, bel⟩
        · replace c56 := Bool.eq_false_iff.mpr c56
          subst c56
          have H1 : ((laws_toCup.f kj11 a0_0 l0_1).bind fun bt477 => ((laws_eqCup.f kj11 t465 t466 bt477.1 bt477.2).bind fun t481 => (if t481 = true then ((laws_markCup.f kj11 t465 t466 1).bind fun bt482 => (if bt482.1 < 0 then (laws_FnExactWinGame.j1 kj11 a1 t463 true a0_0 l0_1 t459 t460 t470 t471) else ((laws_eqCup.f kj11 t470 t471 t459 t460).bind fun t484 => (if t484 = true then (laws_FnExactWinGame.j1 kj11 a1 t463 (t474 != t463) a0_0 l0_1 t459 t460 t470 t471) else (laws_FnExactWinGame.j1 kj11 a1 t463 true a0_0 l0_1 t459 t460 t470 t471))))) else (some false)))) = some r := by rw [if_neg (show ¬ (false = true) by decide)] at H; exact H
          clear H
          have H := H1
          clear H1
          replace H := Option.bind_eq_some_iff.mp H
          obtain ⟨⟨t477, t478⟩, A570, H⟩ := H
          replace H : ((laws_eqCup.f kj11 t465 t466 t477 t478).bind fun t481 => (if t481 = true then ((laws_markCup.f kj11 t465 t466 1).bind fun bt482 => (if bt482.1 < 0 then (laws_FnExactWinGame.j1 kj11 a1 t463 true a0_0 l0_1 t459 t460 t470 t471) else ((laws_eqCup.f kj11 t470 t471 t459 t460).bind fun t484 => (if t484 = true then (laws_FnExactWinGame.j1 kj11 a1 t463 (t474 != t463) a0_0 l0_1 t459 t460 t470 t471) else (laws_FnExactWinGame.j1 kj11 a1 t463 true a0_0 l0_1 t459 t460 t470 t471))))) else (some false))) = some r := H
          have A57 := Aside0.mk A570
          clear A570
          replace H := Option.bind_eq_some_iff.mp H
          obtain ⟨t481, A580, H⟩ := H
          replace H : (if t481 = true then ((laws_markCup.f kj11 t465 t466 1).bind fun bt482 => (if bt482.1 < 0 then (laws_FnExactWinGame.j1 kj11 a1 t463 true a0_0 l0_1 t459 t460 t470 t471) else ((laws_eqCup.f kj11 t470 t471 t459 t460).bind fun t484 => (if t484 = true then (laws_FnExactWinGame.j1 kj11 a1 t463 (t474 != t463) a0_0 l0_1 t459 t460 t470 t471) else (laws_FnExactWinGame.j1 kj11 a1 t463 true a0_0 l0_1 t459 t460 t470 t471))))) else (some false)) = some r := H
          have A58 := Aside0.mk A580
          clear A580
          by_cases c59 : t481 = true
          · subst c59
            have H1 : ((laws_markCup.f kj11 t465 t466 1).bind fun bt482 => (if bt482.1 < 0 then (laws_FnExactWinGame.j1 kj11 a1 t463 true a0_0 l0_1 t459 t460 t470 t471) else ((laws_eqCup.f kj11 t470 t471 t459 t460).bind fun t484 => (if t484 = true then (laws_FnExactWinGame.j1 kj11 a1 t463 (t474 != t463) a0_0 l0_1 t459 t460 t470 t471) else (laws_FnExactWinGame.j1 kj11 a1 t463 true a0_0 l0_1 t459 t460 t470 t471))))) = some r := by rw [if_pos rfl] at H; exact H
            clear H
            have H := H1
            clear H1
            replace H := Option.bind_eq_some_iff.mp H
            obtain ⟨⟨t482, t483⟩, A600, H⟩ := H
            replace H : (if t482 < 0 then (laws_FnExactWinGame.j1 kj11 a1 t463 true a0_0 l0_1 t459 t460 t470 t471) else ((laws_eqCup.f kj11 t470 t471 t459 t460).bind fun t484 => (if t484 = true then (laws_FnExactWinGame.j1 kj11 a1 t463 (t474 != t463) a0_0 l0_1 t459 t460 t470 t471) else (laws_FnExactWinGame.j1 kj11 a1 t463 true a0_0 l0_1 t459 t460 t470 t471)))) = some r := H
            have A60 := Aside0.mk A600
            clear A600
            have HC61 := Aside0.mk H
            clear H
            try go_wp2
            replace HO_465001 := Aside0.mk (Kd.R_drew HO_465001.out)
            replace HO_470001 := Aside0.mk (Kd.R_drew HO_470001.out)
            replace HO_476001 := Aside0.mk (Kd.R_drew HO_476001.out)
            replace BK453 := Aside0.mk (blk_drew BK453.out)
            replace BK464 := Aside0.mk (blk_drew BK464.out)
            replace BK469 := Aside0.mk (blk_drew BK469.out)
            replace BK475 := Aside0.mk (blk_drew BK475.out)
            replace HB := Aside0.mk (below_drew1 HB.out)
            refine start_ (n := 5) (S := fun w' => w'.cell? ⟨gb469, 0, none⟩ = some (.int .i64 t465) ∧ w'.cell? ⟨gb469, 1, none⟩ = some (.slice Ao30 t466.length co30) ∧ w'.cell? ⟨gb453, 0, none⟩ = some (.int .i64 a0_0) ∧ w'.cell? ⟨gb453, 1, none⟩ = some (.slice A0_1 l0_1.length c0_1)) (ds := []) #[false, false, false, false, false] (by kernel_rfl) rfl rfl ⟨(blk_cell BK469.out 0).trans rfl, (blk_cell BK469.out 1).trans rfl, (blk_cell BK453.out 0).trans rfl, (blk_cell BK453.out 1).trans rfl⟩ (fun hHeld => ?_)
            generalize wc.drew = w62 at HO_465001 HO_470001 HO_476001 BK453 BK464 BK469 BK475 HB hHeld ⊢
            refine take_ (i := 0) (N := some 45) (v := ?_) (a' := ?_) #[true, false, false, false, false] rfl rfl (by kernel_rfl) (fun _ _ _ h => h) (Or.inl ⟨by rfl, ?_⟩) hHeld ?_ ?_
            rotate_left
            · rintro w' ⟨s0, s1, s2, s3⟩
              go_simp
              with_reducible rfl
            rotate_left
            · simp only [Act.put, List.setIfInBounds_toArray, List.set_cons_zero, List.set_cons_succ, i64_w, i32_w]
              rfl
            refine take_ (i := 1) (N := some 46) (v := ?_) (a' := ?_) #[true, true, false, false, false] rfl rfl (by kernel_rfl) (fun _ _ _ h => h) (Or.inl ⟨by rfl, ?_⟩) hHeld ?_ ?_
            rotate_left
            · rintro w' ⟨s0, s1, s2, s3⟩
              go_simp
              with_reducible rfl
            rotate_left
            · simp only [Act.put, List.setIfInBounds_toArray, List.set_cons_zero, List.set_cons_succ, i64_w, i32_w]
              rfl
            refine one_ (i := 2) (N := some 47) #[true, true, true, false, false] rfl rfl (by kernel_rfl) (by decide) (fun K hK => ?_)
            refine goes_ Try.func29 (by kernel_rfl) rfl #[.agg #[.int .i64 a0_0, .slice A0_1 l0_1.length c0_1]] (by rfl) rfl rfl ga ?_
            with_reducible refine (laws_toCup.calls kj11 a0_0 _ _ l0_1 t477 t478 _ ?side1 ?side2 A57.out).mono ?_
            (case side1 => exact ck (Kd.C_below HR0_1.out HB.out))
            (case side2 => exact HC0_1.out)
            rintro e w63 ⟨v479, rfl, ho0, hb⟩
            refine ⟨_, rfl, ?_⟩
            have HO480 := Aside0.mk (Kd.R_lower (Kd.R_new' (Kd.R_new' (Kd.R_new' ho0 (Kd.R_lt (rk HO_465001.out))) (Kd.R_lt (rk HO_470001.out))) (Kd.R_lt (rk HO_476001.out))) (below_size bel))
            replace HO_465001 := Aside0.mk (Kd.R_elder' (rk HO_465001.out) (Kd.R_base ho0) hb)
            replace HO_470001 := Aside0.mk (Kd.R_elder' (rk HO_470001.out) (Kd.R_base ho0) hb)
            replace HO_476001 := Aside0.mk (Kd.R_elder' (rk HO_476001.out) (Kd.R_base ho0) hb)
            replace BK453 := Aside0.mk (bb BK453.out hb)
            replace BK464 := Aside0.mk (bb BK464.out hb)
            replace BK469 := Aside0.mk (bb BK469.out hb)
            replace BK475 := Aside0.mk (bb BK475.out hb)
            replace HB := Aside0.mk (below_step bel hb)
            (try clear hb)
            (try clear hb2)
            (try clear hk)
            (try clear hi)
            (try clear ho0)
            obtain ⟨Ao64, co64, eo64⟩ := Kd.R_slice HO480.out
            (first | subst eo64 | (injection eo64 with f1_ f2_ f3_; have f4_ := f1_.symm; have f5_ := f3_.symm; clear f1_ f2_ f3_; subst f4_; subst f5_))
            refine hK.out _ _ ⟨(blk_cell BK469.out 0).trans rfl, (blk_cell BK469.out 1).trans rfl, (blk_cell BK453.out 0).trans rfl, (blk_cell BK453.out 1).trans rfl⟩ (fun hHeld => ?_)
            clear hK K
            refine norm_ (a' := ?_) ?_ ?_
            rotate_left
            · show Act.put _ (some 47) _ = _
              simp only [Act.put, List.setIfInBounds_toArray, List.set_cons_zero, List.set_cons_succ, i64_w, i32_w]
              rfl
            refine one_ (i := 3) (N := some 48) #[true, true, true, true, false] rfl rfl (by kernel_rfl) (by decide) (fun K hK => ?_)
            refine goes_ Try.func31 (by kernel_rfl) rfl #[.agg #[.int .i64 t465, .slice Ao30 t466.length co30], .agg #[.int .i64 t477, .slice Ao64 t478.length co64]] (by rfl) rfl rfl ga ?_
            with_reducible refine (laws_eqCup.calls kj11 t465 _ _ t466 t477 _ _ t478 true _ ?side1 ?side2 ?side3 ?side4 A58.out).mono ?_
            (case side1 => exact ck (Kd.R_reads' HO_470001.out).2.2)
            (case side2 => exact (Kd.R_reads' HO_470001.out).2.1)
            (case side3 => exact ck (Kd.R_reads' HO480.out).2.2)
            (case side4 => exact (Kd.R_reads' HO480.out).2.1)
            rintro e w65 ⟨rfl, hb⟩
            refine ⟨_, rfl, ?_⟩
            replace HO_465001 := Aside0.mk (Kd.R_below (rk HO_465001.out) hb)
            replace HO_470001 := Aside0.mk (Kd.R_below (rk HO_470001.out) hb)
            replace HO_476001 := Aside0.mk (Kd.R_below (rk HO_476001.out) hb)
            replace HO480 := Aside0.mk (Kd.R_below (rk HO480.out) hb)
            replace BK453 := Aside0.mk (bb BK453.out hb)
            replace BK464 := Aside0.mk (bb BK464.out hb)
            replace BK469 := Aside0.mk (bb BK469.out hb)
            replace BK475 := Aside0.mk (bb BK475.out hb)
            replace HB := Aside0.mk (below_step bel hb)
            (try clear hb)
            (try clear hb2)
            (try clear hk)
            (try clear hi)
            refine hK.out _ _ ⟨(blk_cell BK469.out 0).trans rfl, (blk_cell BK469.out 1).trans rfl, (blk_cell BK453.out 0).trans rfl, (blk_cell BK453.out 1).trans rfl⟩ (fun hHeld => ?_)
            clear hK K
            refine norm_ (a' := ?_) ?_ ?_
            rotate_left
            · show Act.put _ (some 48) _ = _
              simp only [Act.put, List.setIfInBounds_toArray, List.set_cons_zero, List.set_cons_succ, i64_w, i32_w]
              rfl
            refine pure_ (i := 4) (N := some 49) (v := ?_) (a' := ?_) #[true, true, true, true, true] rfl rfl (by kernel_rfl) (fun _ _ _ h => h) (Or.inl ⟨by rfl, ?_⟩) ?_ ?_
            rotate_left
            · intro w'
              go_simp
              with_reducible rfl
            rotate_left
            · simp only [Act.put, List.setIfInBounds_toArray, List.set_cons_zero, List.set_cons_succ, i64_w, i32_w]
              rfl
            refine done_ (by kernel_rfl) ?_
            have hnb66 := NB469_453.out
            have hnc66 := NB453_469.out
            have hnb67 := NB469_464.out
            have hnc67 := NB464_469.out
            have hnb68 := NB469_475.out
            have hnc68 := NB475_469.out
            obtain ⟨hcz69_0, hcz69_1, hfz69_0, hfz69_1⟩ := cf2 BK469.out
            go_upto_region 14 with (first | ((with_reducible refine gate_callee (f := 40) rfl ?_); refine goesL_ (some 52) rfl rfl Try.func40 (by kernel_rfl) rfl #[.agg #[.int .i64 t465, .slice Ao30 t466.length co30], .int .i64 1] rfl ga ?_; (with_reducible refine (laws_markCup.calls kj11 t465 (fun k_ => some k_ = (.slice Ao30 t466.length co30 : Value).ownBlock) (.slice Ao30 t466.length co30) t466 1 t482 t483 w _ ?side1 ?side2 A60.out).mono ?_); (case side1 => exact bel); (case side2 => exact Kd.R_tight rfl HO_470001.out); rintro e w70 ⟨rfl, hy0, hb, hkp⟩; refine ⟨_, rfl, ?_⟩; have n0_ := Aside0.mk (Kd.R_mono (ok' := fun k_ => some k_ ≠ (.slice Ao30 t466.length co30 : Value).ownBlock ∧ some k_ ≠ (.slice Ao37 t471.length co37 : Value).ownBlock ∧ some k_ ≠ (.slice Ao64 t478.length co64 : Value).ownBlock) (Kd.R_keptB (HO_465001.out) hkp (fun k_ hk_ hs_ => (hk_.1.1) hs_)) (fun k_ hk_ => ⟨hk_.1.1.1, hk_.1.1.2, hk_.1.2⟩)); have n1_ := Aside0.mk (Kd.R_reok rfl hy0 (fun k_ e_ => HO_470001.out.1 k_ e_)); have n2_ := Aside0.mk (Kd.R_mono (ok' := fun k_ => some k_ ≠ (.slice Ao23 t460.length co23 : Value).ownBlock ∧ some k_ ≠ (.slice Ao30 t466.length co30 : Value).ownBlock ∧ some k_ ≠ (.slice Ao64 t478.length co64 : Value).ownBlock) (Kd.R_keptB (HO_476001.out) hkp (fun k_ hk_ hs_ => (hk_.1.2) hs_)) (fun k_ hk_ => ⟨hk_.1.1.1, hk_.1.1.2, hk_.1.2⟩)); have n3_ := Aside0.mk (blk_kept (bk BK453.out) hkp (fun hs_ => (fun e_ => (Kd.R_ne HO_470001.out BK453.out (by decide)) e_) hs_)); have n4_ := Aside0.mk (blk_kept (bk BK464.out) hkp (fun hs_ => (fun e_ => (Kd.R_ne HO_470001.out BK464.out (by decide)) e_) hs_)); have n5_ := Aside0.mk (blk_kept (bk BK469.out) hkp (fun hs_ => (fun e_ => (Kd.R_ne HO_470001.out BK469.out (by decide)) e_) hs_)); have n6_ := Aside0.mk (blk_kept (bk BK475.out) hkp (fun hs_ => (fun e_ => (Kd.R_ne HO_470001.out BK475.out (by decide)) e_) hs_)); have n7_ := Aside0.mk (Kd.R_mono (ok' := fun k_ => some k_ ≠ (.slice Ao23 t460.length co23 : Value).ownBlock ∧ some k_ ≠ (.slice Ao30 t466.length co30 : Value).ownBlock ∧ some k_ ≠ (.slice Ao37 t471.length co37 : Value).ownBlock) (Kd.R_keptB (HO480.out) hkp (fun k_ hk_ hs_ => (hk_.1.2) hs_)) (fun k_ hk_ => ⟨hk_.1.1.1.2, hk_.1.1.2, hk_.1.2⟩)); have n8_ := Aside0.mk (hb); clear HO_465001; clear HO_470001; clear HO_476001; clear BK453; clear BK464; clear BK469; clear BK475; clear HO480; clear HB; have HO_465001 := n0_; have HO_470001 := n1_; have HO_476001 := n2_; have BK453 := n3_; have BK464 := n4_; have BK469 := n5_; have BK475 := n6_; have HO480 := n7_; have HB := n8_; clear n0_ n1_ n2_ n3_ n4_ n5_ n6_ n7_ n8_; (try clear hb); (try clear hkp); (try clear hy0)))
            (try simp only [Act.put, List.setIfInBounds_toArray, List.set_cons_zero, List.set_cons_succ])
            go_cut [65] (fun v65 wc => ∃ (kq : Nat) (x65_60 : Bool), v65 = .bool x65_60 ∧ Aside0 (laws_FnExactWinGame.j1 kq a1 t463 x65_60 a0_0 l0_1 t459 t460 t470 t471 = some r) ∧ Aside0 (kq ≤ kj11) ∧ Aside0 (Kd.R (Kd.int .i64) 3 wc w.heap.size (fun k_ => some k_ ≠ ((.slice Ao30 t466.length co30) : Value).ownBlock ∧ some k_ ≠ ((.slice Ao37 t471.length co37) : Value).ownBlock) (.slice Ao23 t460.length co23) t460) ∧ Aside0 (Kd.R (Kd.int .i64) 3 wc w.heap.size (fun k_ => some k_ ≠ ((.slice Ao23 t460.length co23) : Value).ownBlock ∧ some k_ ≠ ((.slice Ao37 t471.length co37) : Value).ownBlock) (.slice Ao30 t466.length co30) t483) ∧ Aside0 (Kd.R (Kd.int .i64) 3 wc w.heap.size (fun k_ => some k_ ≠ ((.slice Ao23 t460.length co23) : Value).ownBlock ∧ some k_ ≠ ((.slice Ao30 t466.length co30) : Value).ownBlock) (.slice Ao37 t471.length co37) t471) ∧ Aside0 (wc.heap[gb453]? = some (.cells #[.int .i64 a0_0, (.slice A0_1 l0_1.length c0_1)] 32 (0, 0))) ∧ Aside0 (wc.heap[gb464]? = some (.cells #[.int .i64 t459, (.slice Ao23 t460.length co23)] 36 (0, 0))) ∧ Aside0 (wc.heap[gb469]? = some (.cells #[.int .i64 t465, (.slice Ao30 t466.length co30)] 36 (0, 0))) ∧ Aside0 (wc.heap[gb475]? = some (.cells #[.int .i64 t470, (.slice Ao37 t471.length co37)] 36 (0, 0))) ∧ Aside0 (Below w.heap.size w wc))
            case first =>
              have H := HC61.out
              clear HC61
              by_cases c71 : t482 < 0
              · rw [if_pos c71] at H
                have c71b0 : decide (t482 < 0) = true := decide_eq_true c71
                clear c71
                (first | rw [c71b0] | (simp only [i64_w, i32_w]; rw [c71b0]) | skip)
                have H' := Aside0.mk H
                clear H
                go_wp2
                go_meet
                case rel => exact ⟨_, (true), (es), H', ⟨by have := HJ11.out; first | omega | exact Nat.le_refl _⟩, ⟨by (with_reducible repeat (first | apply Kd.R_alloc | apply Kd.R_drewN | apply Kd.R_drew)); exact Kd.R_mono HO_465001.out (fun _ hk => ⟨hk.1, hk.2.1⟩)⟩, ⟨by (with_reducible repeat (first | apply Kd.R_alloc | apply Kd.R_drewN | apply Kd.R_drew)); exact Kd.R_mono HO_470001.out (fun _ hk => ⟨hk.1.1, hk.1.2⟩)⟩, ⟨by (with_reducible repeat (first | apply Kd.R_alloc | apply Kd.R_drewN | apply Kd.R_drew)); exact Kd.R_mono HO_476001.out (fun _ hk => ⟨hk.1, hk.2.1⟩)⟩, ⟨bk BK453.out⟩, ⟨bk BK464.out⟩, ⟨bk BK469.out⟩, ⟨bk BK475.out⟩, ⟨bel⟩⟩
              · rw [if_neg c71] at H
                have c71b0 : decide (t482 < 0) = false := decide_eq_false c71
                clear c71
                (first | rw [c71b0] | (simp only [i64_w, i32_w]; rw [c71b0]) | skip)
                replace H := Option.bind_eq_some_iff.mp H
                obtain ⟨t484, A720, H⟩ := H
                replace H : (if t484 = true then (laws_FnExactWinGame.j1 kj11 a1 t463 (t474 != t463) a0_0 l0_1 t459 t460 t470 t471) else (laws_FnExactWinGame.j1 kj11 a1 t463 true a0_0 l0_1 t459 t460 t470 t471)) = some r := H
                have A72 := Aside0.mk A720
                clear A720
                by_cases c73 : t484 = true
                · subst c73
                  have H1 : (laws_FnExactWinGame.j1 kj11 a1 t463 (t474 != t463) a0_0 l0_1 t459 t460 t470 t471) = some r := by rw [if_pos rfl] at H; exact H
                  clear H
                  have H := H1
                  clear H1
                  have H' := Aside0.mk H
                  clear H
                  have hnb74 := NB475_453.out
                  have hnc74 := NB453_475.out
                  have hnb75 := NB475_464.out
                  have hnc75 := NB464_475.out
                  have hnb76 := NB475_469.out
                  have hnc76 := NB469_475.out
                  obtain ⟨hcz77_0, hcz77_1, hfz77_0, hfz77_1⟩ := cf2 BK475.out
                  have hnb78 := NB464_453.out
                  have hnc78 := NB453_464.out
                  have hnb79 := NB464_469.out
                  have hnc79 := NB469_464.out
                  obtain ⟨hcz80_0, hcz80_1, hfz80_0, hfz80_1⟩ := cf2 BK464.out
                  go_wp2_with (first | (go_at_call 31; (with_reducible refine (laws_eqCup.calls kj11 t470 _ _ t471 t459 _ _ t460 true _ ?side1 ?side2 ?side3 ?side4 A72.out).mono ?_); (case side1 => exact ck (Kd.R_reads' HO_476001.out).2.2); (case side2 => exact (Kd.R_reads' HO_476001.out).2.1); (case side3 => exact ck (Kd.R_reads' HO_465001.out).2.2); (case side4 => exact (Kd.R_reads' HO_465001.out).2.1); rintro e w81 ⟨rfl, hb⟩; replace HO_465001 := Aside0.mk (Kd.R_below (rk HO_465001.out) hb); replace HO_470001 := Aside0.mk (Kd.R_below (rk HO_470001.out) hb); replace HO_476001 := Aside0.mk (Kd.R_below (rk HO_476001.out) hb); replace HO480 := Aside0.mk (Kd.R_below (rk HO480.out) hb); replace BK453 := Aside0.mk (bb BK453.out hb); replace BK464 := Aside0.mk (bb BK464.out hb); replace BK469 := Aside0.mk (bb BK469.out hb); replace BK475 := Aside0.mk (bb BK475.out hb); replace HB := Aside0.mk (below_step bel hb); (try clear hb); (try clear hb2); (try clear hk); (try clear hi)))
                  go_meet
                  case rel => exact ⟨_, ((t474 != t463)), (es), H', ⟨by have := HJ11.out; first | omega | exact Nat.le_refl _⟩, ⟨by (with_reducible repeat (first | apply Kd.R_alloc | apply Kd.R_drewN | apply Kd.R_drew)); exact Kd.R_mono HO_465001.out (fun _ hk => ⟨hk.1, hk.2.1⟩)⟩, ⟨by (with_reducible repeat (first | apply Kd.R_alloc | apply Kd.R_drewN | apply Kd.R_drew)); exact Kd.R_mono HO_470001.out (fun _ hk => ⟨hk.1.1, hk.1.2⟩)⟩, ⟨by (with_reducible repeat (first | apply Kd.R_alloc | apply Kd.R_drewN | apply Kd.R_drew)); exact Kd.R_mono HO_476001.out (fun _ hk => ⟨hk.1, hk.2.1⟩)⟩, ⟨bk BK453.out⟩, ⟨bk BK464.out⟩, ⟨bk BK469.out⟩, ⟨bk BK475.out⟩, ⟨bel⟩⟩
                · replace c73 := Bool.eq_false_iff.mpr c73
                  subst c73
                  have H1 : (laws_FnExactWinGame.j1 kj11 a1 t463 true a0_0 l0_1 t459 t460 t470 t471) = some r := by rw [if_neg (show ¬ (false = true) by decide)] at H; exact H
                  clear H
                  have H := H1
                  clear H1
                  have H' := Aside0.mk H
                  clear H
                  have hnb82 := NB475_453.out
                  have hnc82 := NB453_475.out
                  have hnb83 := NB475_464.out
                  have hnc83 := NB464_475.out
                  have hnb84 := NB475_469.out
                  have hnc84 := NB469_475.out
                  obtain ⟨hcz85_0, hcz85_1, hfz85_0, hfz85_1⟩ := cf2 BK475.out
                  have hnb86 := NB464_453.out
                  have hnc86 := NB453_464.out
                  have hnb87 := NB464_469.out
                  have hnc87 := NB469_464.out
                  obtain ⟨hcz88_0, hcz88_1, hfz88_0, hfz88_1⟩ := cf2 BK464.out
                  go_wp2_with (first | (go_at_call 31; (with_reducible refine (laws_eqCup.calls kj11 t470 _ _ t471 t459 _ _ t460 false _ ?side1 ?side2 ?side3 ?side4 A72.out).mono ?_); (case side1 => exact ck (Kd.R_reads' HO_476001.out).2.2); (case side2 => exact (Kd.R_reads' HO_476001.out).2.1); (case side3 => exact ck (Kd.R_reads' HO_465001.out).2.2); (case side4 => exact (Kd.R_reads' HO_465001.out).2.1); rintro e w89 ⟨rfl, hb⟩; replace HO_465001 := Aside0.mk (Kd.R_below (rk HO_465001.out) hb); replace HO_470001 := Aside0.mk (Kd.R_below (rk HO_470001.out) hb); replace HO_476001 := Aside0.mk (Kd.R_below (rk HO_476001.out) hb); replace HO480 := Aside0.mk (Kd.R_below (rk HO480.out) hb); replace BK453 := Aside0.mk (bb BK453.out hb); replace BK464 := Aside0.mk (bb BK464.out hb); replace BK469 := Aside0.mk (bb BK469.out hb); replace BK475 := Aside0.mk (bb BK475.out hb); replace HB := Aside0.mk (below_step bel hb); (try clear hb); (try clear hb2); (try clear hk); (try clear hi)))
                  go_meet
                  case rel => exact ⟨_, (true), (es), H', ⟨by have := HJ11.out; first | omega | exact Nat.le_refl _⟩, ⟨by (with_reducible repeat (first | apply Kd.R_alloc | apply Kd.R_drewN | apply Kd.R_drew)); exact Kd.R_mono HO_465001.out (fun _ hk => ⟨hk.1, hk.2.1⟩)⟩, ⟨by (with_reducible repeat (first | apply Kd.R_alloc | apply Kd.R_drewN | apply Kd.R_drew)); exact Kd.R_mono HO_470001.out (fun _ hk => ⟨hk.1.1, hk.1.2⟩)⟩, ⟨by (with_reducible repeat (first | apply Kd.R_alloc | apply Kd.R_drewN | apply Kd.R_drew)); exact Kd.R_mono HO_476001.out (fun _ hk => ⟨hk.1, hk.2.1⟩)⟩, ⟨bk BK453.out⟩, ⟨bk BK464.out⟩, ⟨bk BK469.out⟩, ⟨bk BK475.out⟩, ⟨bel⟩⟩
            case rest =>
              clear HC61
              try clear c1; try clear c2; try clear p2; try clear c3; try clear c4; try clear c4b0; try clear c5; try clear c6; try clear c7; try clear c8; try clear c12; try clear c21; try clear c27; try clear c28; try clear c29; try clear c31; try clear c33; try clear c34; try clear c35; try clear c37; try clear c39; try clear c40; try clear c41; try clear c42; try clear c44; try clear c45; try clear c48; try clear c49; try clear c50; try clear c52; try clear c53; try clear c56; try clear c59; try clear c66; try clear c67; try clear c68; try clear c71; try clear c71b0; try clear c73; try clear c74; try clear c75; try clear c76; try clear c78; try clear c79; try clear c82; try clear c83; try clear c84; try clear c86; try clear c87; try clear hcz14_0; try clear hcz14_1; try clear hcz16_0; try clear hcz16_1; try clear hcz22_0; try clear hcz22_1; try clear hcz24_0; try clear hcz24_1; try clear hcz29_0; try clear hcz29_1; try clear hcz36_0; try clear hcz36_1; try clear hcz43_0; try clear hcz43_1; try clear hcz46_0; try clear hcz46_1; try clear hcz51_0; try clear hcz51_1; try clear hcz54_0; try clear hcz54_1; try clear hcz69_0; try clear hcz69_1; try clear hcz6_0; try clear hcz6_1; try clear hcz77_0; try clear hcz77_1; try clear hcz80_0; try clear hcz80_1; try clear hcz85_0; try clear hcz85_1; try clear hcz88_0; try clear hcz88_1; try clear hfz14_0; try clear hfz14_1; try clear hfz16_0; try clear hfz16_1; try clear hfz22_0; try clear hfz22_1; try clear hfz24_0; try clear hfz24_1; try clear hfz29_0; try clear hfz29_1; try clear hfz36_0; try clear hfz36_1; try clear hfz43_0; try clear hfz43_1; try clear hfz46_0; try clear hfz46_1; try clear hfz51_0; try clear hfz51_1; try clear hfz54_0; try clear hfz54_1; try clear hfz69_0; try clear hfz69_1; try clear hfz6_0; try clear hfz6_1; try clear hfz77_0; try clear hfz77_1; try clear hfz80_0; try clear hfz80_1; try clear hfz85_0; try clear hfz85_1; try clear hfz88_0; try clear hfz88_1; try clear p2
              obtain ⟨kq, x65_60, rfl, HA, HJ60, HO_465001, HO_470001, HO_476001, BK453, BK464, BK469, BK475, HB⟩ := hcut
              have hl470001_60 := (Kd.R_reads' HO_470001.out).1
              rw [hl470001_60] at HO_470001
              (try simp only [hl470001_60])
              (try simp only [hl470001_60] at BK453)
              (try simp only [hl470001_60] at BK464)
              (try simp only [hl470001_60] at BK469)
              (try simp only [hl470001_60] at BK475)
              (try simp only [hl470001_60] at HO_465001)
              (try simp only [hl470001_60] at HO_476001)
              cases kq with
              | zero => exact absurd HA.out (by simp [laws_FnExactWinGame.j1])
              | succ kj60 =>
                have H := HA.out
                clear HA
                simp only [laws_FnExactWinGame.j1] at H
                by_cases c90 : x65_60 = true
                · subst c90
                  have H1 : (some false) = some r := by rw [if_pos rfl] at H; exact H
                  clear H
                  have H := H1
                  clear H1
                  obtain rfl := Option.some.inj H
                  go_wp2
                  go_ret
                  exact ⟨er, bel⟩
                · replace c90 := Bool.eq_false_iff.mpr c90
                  subst c90
                  have H1 : ((laws_markCup.f kj60 t470 t471 1).bind fun bt485 => ((laws_heldCup.f kj60 t470 bt485.2 1).bind fun t487 => (if t487 < 0 then (some false) else (if t487 = bt485.1 then ((laws_toCup.f kj60 a0_0 l0_1).bind fun bt488 => ((impl_WinGame.f kj60 bt488.1 bt488.2 a1).bind fun bt492 => ((laws_eqCup.f kj60 bt492.1 bt492.2.1 t459 t460).bind fun t498 => (if t498 = true then (laws_FnExactWinGame.j2 kj60 bt485.1 (bt492.2.2 != t463) t470 bt485.2) else (laws_FnExactWinGame.j2 kj60 bt485.1 true t470 bt485.2))))) else (some false))))) = some r := by rw [if_neg (show ¬ (false = true) by decide)] at H; exact H
                  clear H
                  have H := H1
                  clear H1
                  replace H := Option.bind_eq_some_iff.mp H
                  obtain ⟨⟨t485, t486⟩, A910, H⟩ := H
                  replace H : ((laws_heldCup.f kj60 t470 t486 1).bind fun t487 => (if t487 < 0 then (some false) else (if t487 = t485 then ((laws_toCup.f kj60 a0_0 l0_1).bind fun bt488 => ((impl_WinGame.f kj60 bt488.1 bt488.2 a1).bind fun bt492 => ((laws_eqCup.f kj60 bt492.1 bt492.2.1 t459 t460).bind fun t498 => (if t498 = true then (laws_FnExactWinGame.j2 kj60 t485 (bt492.2.2 != t463) t470 t486) else (laws_FnExactWinGame.j2 kj60 t485 true t470 t486))))) else (some false)))) = some r := H
                  have A91 := Aside0.mk A910
                  clear A910
                  replace H := Option.bind_eq_some_iff.mp H
                  obtain ⟨t487, A920, H⟩ := H
                  replace H : (if t487 < 0 then (some false) else (if t487 = t485 then ((laws_toCup.f kj60 a0_0 l0_1).bind fun bt488 => ((impl_WinGame.f kj60 bt488.1 bt488.2 a1).bind fun bt492 => ((laws_eqCup.f kj60 bt492.1 bt492.2.1 t459 t460).bind fun t498 => (if t498 = true then (laws_FnExactWinGame.j2 kj60 t485 (bt492.2.2 != t463) t470 t486) else (laws_FnExactWinGame.j2 kj60 t485 true t470 t486))))) else (some false))) = some r := H
                  have A92 := Aside0.mk A920
                  clear A920
                  by_cases c93 : t487 < 0
                  · rw [if_pos c93] at H
                    have c93b0 : decide (t487 < 0) = true := decide_eq_true c93
                    clear c93
                    obtain rfl := Option.some.inj H
                    have hnb94 := NB475_453.out
                    have hnc94 := NB453_475.out
                    have hnb95 := NB475_464.out
                    have hnc95 := NB464_475.out
                    have hnb96 := NB475_469.out
                    have hnc96 := NB469_475.out
                    obtain ⟨hcz97_0, hcz97_1, hfz97_0, hfz97_1⟩ := cf2 BK475.out
                    go_wp2_with (first | ((with_reducible refine gate_callee (f := 40) rfl ?_); refine goesL_ (some 68) rfl rfl Try.func40 (by kernel_rfl) rfl #[.agg #[.int .i64 t470, .slice Ao37 t471.length co37], .int .i64 1] rfl ga ?_; (with_reducible refine (laws_markCup.calls kj60 t470 (fun k_ => some k_ = (.slice Ao37 t471.length co37 : Value).ownBlock) (.slice Ao37 t471.length co37) t471 1 t485 t486 w _ ?side1 ?side2 A91.out).mono ?_); (case side1 => exact bel); (case side2 => exact Kd.R_tight rfl HO_476001.out); rintro e w98 ⟨rfl, hy0, hb, hkp⟩; refine ⟨_, rfl, ?_⟩; have n0_ := Aside0.mk (Kd.R_mono (ok' := fun k_ => some k_ ≠ (.slice Ao30 t483.length co30 : Value).ownBlock ∧ some k_ ≠ (.slice Ao37 t471.length co37 : Value).ownBlock) (Kd.R_keptB (HO_465001.out) hkp (fun k_ hk_ hs_ => (hk_.2) hs_)) (fun k_ hk_ => ⟨hk_.1.1, hk_.1.2⟩)); have n1_ := Aside0.mk (Kd.R_mono (ok' := fun k_ => some k_ ≠ (.slice Ao23 t460.length co23 : Value).ownBlock ∧ some k_ ≠ (.slice Ao37 t471.length co37 : Value).ownBlock) (Kd.R_keptB (HO_470001.out) hkp (fun k_ hk_ hs_ => (hk_.2) hs_)) (fun k_ hk_ => ⟨hk_.1.1, hk_.1.2⟩)); have n2_ := Aside0.mk (Kd.R_reok rfl hy0 (fun k_ e_ => HO_476001.out.1 k_ e_)); have n3_ := Aside0.mk (blk_kept (bk BK453.out) hkp (fun hs_ => (fun e_ => (Kd.R_ne HO_476001.out BK453.out (by decide)) e_) hs_)); have n4_ := Aside0.mk (blk_kept (bk BK464.out) hkp (fun hs_ => (fun e_ => (Kd.R_ne HO_476001.out BK464.out (by decide)) e_) hs_)); have n5_ := Aside0.mk (blk_kept (bk BK469.out) hkp (fun hs_ => (fun e_ => (Kd.R_ne HO_476001.out BK469.out (by decide)) e_) hs_)); have n6_ := Aside0.mk (blk_kept (bk BK475.out) hkp (fun hs_ => (fun e_ => (Kd.R_ne HO_476001.out BK475.out (by decide)) e_) hs_)); have n7_ := Aside0.mk (hb); clear HO_465001; clear HO_470001; clear HO_476001; clear BK453; clear BK464; clear BK469; clear BK475; clear HB; have HO_465001 := n0_; have HO_470001 := n1_; have HO_476001 := n2_; have BK453 := n3_; have BK464 := n4_; have BK469 := n5_; have BK475 := n6_; have HB := n7_; clear n0_ n1_ n2_ n3_ n4_ n5_ n6_ n7_; (try clear hb); (try clear hkp); (try clear hy0); obtain ⟨hcz99_0, hcz99_1, hfz99_0, hfz99_1⟩ := cf2 BK475.out) | ((with_reducible refine gate_callee (f := 41) rfl ?_); refine goesL_ (some 71) rfl rfl Try.func41 (by kernel_rfl) rfl #[.agg #[.int .i64 t470, .slice Ao37 t486.length co37], .int .i64 1] rfl (by (try simp only [List.map_toArray, List.map_cons, List.map_nil]); first | done | (rw [show t486.length = t471.length from (Kd.R_reads' HO_476001.out).1.symm] <;> rfl) | rfl | (simp only [List.length_drop, List.length_take]; rfl)) ?_; (with_reducible refine (laws_heldCup.calls kj60 t470 _ _ t486 1 t487 _ ?side1 ?side2 A92.out).mono ?_); (case side1 => exact ck (Kd.R_reads' HO_476001.out).2.2); (case side2 => rw [show t486.length = t471.length from (Kd.R_reads' HO_476001.out).1.symm]; exact (Kd.R_reads' HO_476001.out).2.1); rintro e w100 ⟨rfl, hb⟩; refine ⟨_, rfl, ?_⟩; replace HO_465001 := Aside0.mk (Kd.R_below (rk HO_465001.out) hb); replace HO_470001 := Aside0.mk (Kd.R_below (rk HO_470001.out) hb); replace HO_476001 := Aside0.mk (Kd.R_below (rk HO_476001.out) hb); replace BK453 := Aside0.mk (bb BK453.out hb); replace BK464 := Aside0.mk (bb BK464.out hb); replace BK469 := Aside0.mk (bb BK469.out hb); replace BK475 := Aside0.mk (bb BK475.out hb); replace HB := Aside0.mk (below_step bel hb); (try clear hb)))
                    go_ret
                    exact ⟨er, bel⟩
                  · rw [if_neg c93] at H
                    have c93b0 : decide (t487 < 0) = false := decide_eq_false c93
                    clear c93
                    by_cases c101 : t487 = t485
                    · rw [if_pos c101] at H
                      have c101b0 : (t487 == t485) = true := beq_iff_eq.mpr c101
                      have c101b1 : (t487 != t485) = false := bne_eq_false_iff_eq.mpr c101
                      clear c101
                      replace H := Option.bind_eq_some_iff.mp H
                      obtain ⟨⟨t488, t489⟩, A1020, H⟩ := H
                      replace H : ((impl_WinGame.f kj60 t488 t489 a1).bind fun bt492 => ((laws_eqCup.f kj60 bt492.1 bt492.2.1 t459 t460).bind fun t498 => (if t498 = true then (laws_FnExactWinGame.j2 kj60 t485 (bt492.2.2 != t463) t470 t486) else (laws_FnExactWinGame.j2 kj60 t485 true t470 t486)))) = some r := H
                      have A102 := Aside0.mk A1020
                      clear A1020
                      replace H := Option.bind_eq_some_iff.mp H
                      obtain ⟨⟨t492, t493, t496⟩, A1030, H⟩ := H
                      replace H : ((laws_eqCup.f kj60 t492 t493 t459 t460).bind fun t498 => (if t498 = true then (laws_FnExactWinGame.j2 kj60 t485 (t496 != t463) t470 t486) else (laws_FnExactWinGame.j2 kj60 t485 true t470 t486))) = some r := H
                      have A103 := Aside0.mk A1030
                      clear A1030
                      have HC104 := Aside0.mk H
                      clear H
                      have hnb105 := NB475_453.out
                      have hnc105 := NB453_475.out
                      have hnb106 := NB475_464.out
                      have hnc106 := NB464_475.out
                      have hnb107 := NB475_469.out
                      have hnc107 := NB469_475.out
                      obtain ⟨hcz108_0, hcz108_1, hfz108_0, hfz108_1⟩ := cf2 BK475.out
                      go_upto_region 25 with (first | ((with_reducible refine gate_callee (f := 40) rfl ?_); refine goesL_ (some 68) rfl rfl Try.func40 (by kernel_rfl) rfl #[.agg #[.int .i64 t470, .slice Ao37 t471.length co37], .int .i64 1] rfl ga ?_; (with_reducible refine (laws_markCup.calls kj60 t470 (fun k_ => some k_ = (.slice Ao37 t471.length co37 : Value).ownBlock) (.slice Ao37 t471.length co37) t471 1 t485 t486 w _ ?side1 ?side2 A91.out).mono ?_); (case side1 => exact bel); (case side2 => exact Kd.R_tight rfl HO_476001.out); rintro e w109 ⟨rfl, hy0, hb, hkp⟩; refine ⟨_, rfl, ?_⟩; have n0_ := Aside0.mk (Kd.R_mono (ok' := fun k_ => some k_ ≠ (.slice Ao30 t483.length co30 : Value).ownBlock ∧ some k_ ≠ (.slice Ao37 t471.length co37 : Value).ownBlock) (Kd.R_keptB (HO_465001.out) hkp (fun k_ hk_ hs_ => (hk_.2) hs_)) (fun k_ hk_ => ⟨hk_.1.1, hk_.1.2⟩)); have n1_ := Aside0.mk (Kd.R_mono (ok' := fun k_ => some k_ ≠ (.slice Ao23 t460.length co23 : Value).ownBlock ∧ some k_ ≠ (.slice Ao37 t471.length co37 : Value).ownBlock) (Kd.R_keptB (HO_470001.out) hkp (fun k_ hk_ hs_ => (hk_.2) hs_)) (fun k_ hk_ => ⟨hk_.1.1, hk_.1.2⟩)); have n2_ := Aside0.mk (Kd.R_reok rfl hy0 (fun k_ e_ => HO_476001.out.1 k_ e_)); have n3_ := Aside0.mk (blk_kept (bk BK453.out) hkp (fun hs_ => (fun e_ => (Kd.R_ne HO_476001.out BK453.out (by decide)) e_) hs_)); have n4_ := Aside0.mk (blk_kept (bk BK464.out) hkp (fun hs_ => (fun e_ => (Kd.R_ne HO_476001.out BK464.out (by decide)) e_) hs_)); have n5_ := Aside0.mk (blk_kept (bk BK469.out) hkp (fun hs_ => (fun e_ => (Kd.R_ne HO_476001.out BK469.out (by decide)) e_) hs_)); have n6_ := Aside0.mk (blk_kept (bk BK475.out) hkp (fun hs_ => (fun e_ => (Kd.R_ne HO_476001.out BK475.out (by decide)) e_) hs_)); have n7_ := Aside0.mk (hb); clear HO_465001; clear HO_470001; clear HO_476001; clear BK453; clear BK464; clear BK469; clear BK475; clear HB; have HO_465001 := n0_; have HO_470001 := n1_; have HO_476001 := n2_; have BK453 := n3_; have BK464 := n4_; have BK469 := n5_; have BK475 := n6_; have HB := n7_; clear n0_ n1_ n2_ n3_ n4_ n5_ n6_ n7_; (try clear hb); (try clear hkp); (try clear hy0); obtain ⟨hcz110_0, hcz110_1, hfz110_0, hfz110_1⟩ := cf2 BK475.out) | ((with_reducible refine gate_callee (f := 41) rfl ?_); refine goesL_ (some 71) rfl rfl Try.func41 (by kernel_rfl) rfl #[.agg #[.int .i64 t470, .slice Ao37 t486.length co37], .int .i64 1] rfl (by (try simp only [List.map_toArray, List.map_cons, List.map_nil]); first | done | (rw [show t486.length = t471.length from (Kd.R_reads' HO_476001.out).1.symm] <;> rfl) | rfl | (simp only [List.length_drop, List.length_take]; rfl)) ?_; (with_reducible refine (laws_heldCup.calls kj60 t470 _ _ t486 1 t487 _ ?side1 ?side2 A92.out).mono ?_); (case side1 => exact ck (Kd.R_reads' HO_476001.out).2.2); (case side2 => rw [show t486.length = t471.length from (Kd.R_reads' HO_476001.out).1.symm]; exact (Kd.R_reads' HO_476001.out).2.1); rintro e w111 ⟨rfl, hb⟩; refine ⟨_, rfl, ?_⟩; replace HO_465001 := Aside0.mk (Kd.R_below (rk HO_465001.out) hb); replace HO_470001 := Aside0.mk (Kd.R_below (rk HO_470001.out) hb); replace HO_476001 := Aside0.mk (Kd.R_below (rk HO_476001.out) hb); replace BK453 := Aside0.mk (bb BK453.out hb); replace BK464 := Aside0.mk (bb BK464.out hb); replace BK469 := Aside0.mk (bb BK469.out hb); replace BK475 := Aside0.mk (bb BK475.out hb); replace HB := Aside0.mk (below_step bel hb); (try clear hb); have hnb112 := NB453_464.out; have hnc112 := NB464_453.out; have hnb113 := NB453_469.out; have hnc113 := NB469_453.out; obtain ⟨hcz114_0, hcz114_1, hfz114_0, hfz114_1⟩ := cf2 BK453.out) | ((with_reducible refine gate_callee (f := 29) rfl ?_); refine goesL_ (some 79) rfl rfl Try.func29 (by kernel_rfl) rfl #[.agg #[.int .i64 a0_0, .slice A0_1 l0_1.length c0_1]] rfl ga ?_; (with_reducible refine (laws_toCup.calls kj60 a0_0 _ _ l0_1 t488 t489 _ ?side1 ?side2 A102.out).mono ?_); (case side1 => exact ck (Kd.C_below HR0_1.out HB.out)); (case side2 => exact HC0_1.out); rintro e w115 ⟨v490, rfl, ho0, hb⟩; refine ⟨_, rfl, ?_⟩; have HO491 := Aside0.mk (Kd.R_lower (Kd.R_new' (Kd.R_new' (Kd.R_new' ho0 (Kd.R_lt (rk HO_465001.out))) (Kd.R_lt (rk HO_470001.out))) (Kd.R_lt (rk HO_476001.out))) (below_size bel)); replace HO_465001 := Aside0.mk (Kd.R_elder' (rk HO_465001.out) (Kd.R_base ho0) hb); replace HO_470001 := Aside0.mk (Kd.R_elder' (rk HO_470001.out) (Kd.R_base ho0) hb); replace HO_476001 := Aside0.mk (Kd.R_elder' (rk HO_476001.out) (Kd.R_base ho0) hb); replace BK453 := Aside0.mk (bb BK453.out hb); replace BK464 := Aside0.mk (bb BK464.out hb); replace BK469 := Aside0.mk (bb BK469.out hb); replace BK475 := Aside0.mk (bb BK475.out hb); replace HB := Aside0.mk (below_step bel hb); (try clear hb); (try clear ho0); obtain ⟨Ao116, co116, eo116⟩ := Kd.R_slice HO491.out; subst eo116) | ((with_reducible refine gate_callee (f := 37) rfl ?_); refine goesL_ (some 81) rfl rfl Try.func37 (by kernel_rfl) rfl #[.agg #[.int .i64 t488, .slice Ao116 t489.length co116], .int .i64 a1] rfl ga ?_; (with_reducible refine (impl_WinGame.calls kj60 t488 _ _ t489 a1 t492 t493 t496 _ ?side1 ?side2 A103.out).mono ?_); (case side1 => exact ck (Kd.R_reads' HO491.out).2.2); (case side2 => exact (Kd.R_reads' HO491.out).2.1); rintro e w117 ⟨v494, rfl, ho0, hb⟩; refine ⟨_, rfl, ?_⟩; have HO495 := Aside0.mk (Kd.R_lower (Kd.R_new' (Kd.R_new' (Kd.R_new' (Kd.R_new' ho0 (Kd.R_lt (rk HO_465001.out))) (Kd.R_lt (rk HO_470001.out))) (Kd.R_lt (rk HO_476001.out))) (Kd.R_lt (rk HO491.out))) (below_size bel)); replace HO_465001 := Aside0.mk (Kd.R_elder' (rk HO_465001.out) (Kd.R_base ho0) hb); replace HO_470001 := Aside0.mk (Kd.R_elder' (rk HO_470001.out) (Kd.R_base ho0) hb); replace HO_476001 := Aside0.mk (Kd.R_elder' (rk HO_476001.out) (Kd.R_base ho0) hb); replace HO491 := Aside0.mk (Kd.R_elder' (rk HO491.out) (Kd.R_base ho0) hb); replace BK453 := Aside0.mk (bb BK453.out hb); replace BK464 := Aside0.mk (bb BK464.out hb); replace BK469 := Aside0.mk (bb BK469.out hb); replace BK475 := Aside0.mk (bb BK475.out hb); replace HB := Aside0.mk (below_step bel hb); (try clear hb); (try clear ho0)) | ((with_reducible refine gate_dst (N := 14) rfl ?_); refine box_event ?hg (N := 14) ?hd (cs := #[.int .i64 0, .slice none 0 0]) (t := 36) ?hr ?_; (case hd => rfl); (case hg => rfl); (case hr => first | (go_simp; done) | (go_simp; rfl)); intro gb497 hg w118 hbox hb; have BK497 := Aside0.mk (hbox); have GW497 := Aside0.mk ((bsz hg : w.heap.size ≤ gb497)); have GE497 := Aside0.mk ((bsz hg : w.heap.size ≤ gb497)); have NB453_497 := Aside0.mk ((nlt hg BK453.out : gb453 ≠ gb497)); have NB497_453 := Aside0.mk ((ngt hg BK453.out : gb497 ≠ gb453)); have NB464_497 := Aside0.mk ((nlt hg BK464.out : gb464 ≠ gb497)); have NB497_464 := Aside0.mk ((ngt hg BK464.out : gb497 ≠ gb464)); have NB469_497 := Aside0.mk ((nlt hg BK469.out : gb469 ≠ gb497)); have NB497_469 := Aside0.mk ((ngt hg BK469.out : gb497 ≠ gb469)); have NB475_497 := Aside0.mk ((nlt hg BK475.out : gb475 ≠ gb497)); have NB497_475 := Aside0.mk ((ngt hg BK475.out : gb497 ≠ gb475)); replace HO_465001 := Aside0.mk (Kd.R_below (rk HO_465001.out) hb); replace HO_470001 := Aside0.mk (Kd.R_below (rk HO_470001.out) hb); replace HO_476001 := Aside0.mk (Kd.R_below (rk HO_476001.out) hb); replace HO491 := Aside0.mk (Kd.R_below (rk HO491.out) hb); replace HO495 := Aside0.mk (Kd.R_below (rk HO495.out) hb); replace BK453 := Aside0.mk (bb BK453.out hb); replace BK464 := Aside0.mk (bb BK464.out hb); replace BK469 := Aside0.mk (bb BK469.out hb); replace BK475 := Aside0.mk (bb BK475.out hb); replace HB := Aside0.mk (below_step bel hb); clear hb hbox hg; have hnb119 := NB497_453.out; have hnc119 := NB453_497.out; have hnb120 := NB497_464.out; have hnc120 := NB464_497.out; have hnb121 := NB497_469.out; have hnc121 := NB469_497.out; have hnb122 := NB497_475.out; have hnc122 := NB475_497.out; obtain ⟨hcz123_0, hcz123_1, hfz123_0, hfz123_1⟩ := cf2 BK497.out; obtain ⟨Ao124, co124, eo124⟩ := Kd.R_slice HO495.out; subst eo124))
                      (try simp only [Act.put, List.setIfInBounds_toArray, List.set_cons_zero, List.set_cons_succ])
                      go_cut [92] (fun v92 wc => ∃ (kq : Nat) (x92_103 : Bool), v92 = .bool x92_103 ∧ Aside0 (laws_FnExactWinGame.j2 kq t485 x92_103 t470 t486 = some r) ∧ Aside0 (kq ≤ kj60) ∧ Aside0 (Kd.R (Kd.int .i64) 3 wc w.heap.size (fun k_ => some k_ ≠ ((.slice Ao30 t483.length co30) : Value).ownBlock ∧ some k_ ≠ ((.slice Ao37 t471.length co37) : Value).ownBlock ∧ some k_ ≠ ((.slice Ao124 t493.length co124) : Value).ownBlock) (.slice Ao23 t460.length co23) t460) ∧ Aside0 (Kd.R (Kd.int .i64) 3 wc w.heap.size (fun k_ => some k_ ≠ ((.slice Ao23 t460.length co23) : Value).ownBlock ∧ some k_ ≠ ((.slice Ao37 t471.length co37) : Value).ownBlock ∧ some k_ ≠ ((.slice Ao124 t493.length co124) : Value).ownBlock) (.slice Ao30 t483.length co30) t483) ∧ Aside0 (Kd.R (Kd.int .i64) 3 wc w.heap.size (fun k_ => some k_ ≠ ((.slice Ao23 t460.length co23) : Value).ownBlock ∧ some k_ ≠ ((.slice Ao30 t483.length co30) : Value).ownBlock ∧ some k_ ≠ ((.slice Ao124 t493.length co124) : Value).ownBlock) (.slice Ao37 t471.length co37) t486) ∧ Aside0 (Kd.R (Kd.int .i64) 3 wc w.heap.size (fun k_ => some k_ ≠ ((.slice Ao23 t460.length co23) : Value).ownBlock ∧ some k_ ≠ ((.slice Ao30 t483.length co30) : Value).ownBlock ∧ some k_ ≠ ((.slice Ao37 t471.length co37) : Value).ownBlock) (.slice Ao124 t493.length co124) t493) ∧ Aside0 (wc.heap[gb453]? = some (.cells #[.int .i64 a0_0, (.slice A0_1 l0_1.length c0_1)] 32 (0, 0))) ∧ Aside0 (wc.heap[gb464]? = some (.cells #[.int .i64 t459, (.slice Ao23 t460.length co23)] 36 (0, 0))) ∧ Aside0 (wc.heap[gb469]? = some (.cells #[.int .i64 t465, (.slice Ao30 t483.length co30)] 36 (0, 0))) ∧ Aside0 (wc.heap[gb475]? = some (.cells #[.int .i64 t470, (.slice Ao37 t471.length co37)] 36 (0, 0))) ∧ Aside0 (wc.heap[gb497]? = some (.cells #[.int .i64 t492, (.slice Ao124 t493.length co124)] 36 (0, 0))) ∧ Aside0 (Below w.heap.size w wc))
                      case first =>
                        have H := HC104.out
                        clear HC104
                        replace H := Option.bind_eq_some_iff.mp H
                        obtain ⟨t498, A1250, H⟩ := H
                        replace H : (if t498 = true then (laws_FnExactWinGame.j2 kj60 t485 (t496 != t463) t470 t486) else (laws_FnExactWinGame.j2 kj60 t485 true t470 t486)) = some r := H
                        have A125 := Aside0.mk A1250
                        clear A1250
                        by_cases c126 : t498 = true
                        · subst c126
                          have H1 : (laws_FnExactWinGame.j2 kj60 t485 (t496 != t463) t470 t486) = some r := by rw [if_pos rfl] at H; exact H
                          clear H
                          have H := H1
                          clear H1
                          have H' := Aside0.mk H
                          clear H
                          have hnb127 := NB497_453.out
                          have hnc127 := NB453_497.out
                          have hnb128 := NB497_464.out
                          have hnc128 := NB464_497.out
                          have hnb129 := NB497_469.out
                          have hnc129 := NB469_497.out
                          have hnb130 := NB497_475.out
                          have hnc130 := NB475_497.out
                          obtain ⟨hcz131_0, hcz131_1, hfz131_0, hfz131_1⟩ := cf2 BK497.out
                          have hnb132 := NB464_453.out
                          have hnc132 := NB453_464.out
                          have hnb133 := NB464_469.out
                          have hnc133 := NB469_464.out
                          have hnb134 := NB464_475.out
                          have hnc134 := NB475_464.out
                          obtain ⟨hcz135_0, hcz135_1, hfz135_0, hfz135_1⟩ := cf2 BK464.out
                          go_wp2_with (first | ((with_reducible refine gate_callee (f := 31) rfl ?_); refine goesL_ (some 86) rfl rfl Try.func31 (by kernel_rfl) rfl #[.agg #[.int .i64 t492, .slice Ao124 t493.length co124], .agg #[.int .i64 t459, .slice Ao23 t460.length co23]] rfl ga ?_; (with_reducible refine (laws_eqCup.calls kj60 t492 _ _ t493 t459 _ _ t460 true _ ?side1 ?side2 ?side3 ?side4 A125.out).mono ?_); (case side1 => refine (Kd.R_reads' (e := 3) (base := w.heap.size) (ok := fun k_ => ((((True ∧ some k_ ≠ (.slice Ao23 t460.length co23 : Value).ownBlock) ∧ some k_ ≠ (.slice Ao30 t483.length co30 : Value).ownBlock) ∧ some k_ ≠ (.slice Ao37 t471.length co37 : Value).ownBlock) ∧ some k_ ≠ (.slice Ao116 t489.length co116 : Value).ownBlock)) (n := t493.length) (c := co124) ?_).2.2; exact (by exact rk (Kd.R_mono (Kd.R_far (p := ⟨gb497, 1, none⟩) (Kd.R_far (p := ⟨gb497, 0, none⟩) (Kd.R_types HO495.out BK497.out (by decide)) (fun _ hk => hk.2) (.int .i64 t492)) (fun _ hk => hk.2) (.slice Ao124 t493.length co124)) (fun _ h_ => h_.1)))); (case side2 => exact (Kd.R_reads' HO495.out).2.1); (case side3 => refine (Kd.R_reads' (e := 3) (base := w.heap.size) (ok := fun k_ => (((some k_ ≠ (.slice Ao30 t483.length co30 : Value).ownBlock ∧ some k_ ≠ (.slice Ao37 t471.length co37 : Value).ownBlock) ∧ some k_ ≠ (.slice Ao116 t489.length co116 : Value).ownBlock) ∧ some k_ ≠ (.slice Ao124 t493.length co124 : Value).ownBlock)) (n := t460.length) (c := co23) ?_).2.2; exact (by exact rk (Kd.R_mono (Kd.R_far (p := ⟨gb497, 1, none⟩) (Kd.R_far (p := ⟨gb497, 0, none⟩) (Kd.R_types HO_465001.out BK497.out (by decide)) (fun _ hk => hk.2) (.int .i64 t492)) (fun _ hk => hk.2) (.slice Ao124 t493.length co124)) (fun _ h_ => h_.1)))); (case side4 => exact (Kd.R_reads' HO_465001.out).2.1); rintro e w136 ⟨rfl, hb⟩; refine ⟨_, rfl, ?_⟩; replace HO_465001 := Aside0.mk (Kd.R_below (by exact rk (Kd.R_mono (Kd.R_far (p := ⟨gb497, 1, none⟩) (Kd.R_far (p := ⟨gb497, 0, none⟩) (Kd.R_types HO_465001.out BK497.out (by decide)) (fun _ hk => hk.2) (.int .i64 t492)) (fun _ hk => hk.2) (.slice Ao124 t493.length co124)) (fun _ h_ => h_.1))) hb); replace HO_470001 := Aside0.mk (Kd.R_below (by exact rk (Kd.R_mono (Kd.R_far (p := ⟨gb497, 1, none⟩) (Kd.R_far (p := ⟨gb497, 0, none⟩) (Kd.R_types HO_470001.out BK497.out (by decide)) (fun _ hk => hk.2) (.int .i64 t492)) (fun _ hk => hk.2) (.slice Ao124 t493.length co124)) (fun _ h_ => h_.1))) hb); replace HO_476001 := Aside0.mk (Kd.R_below (by exact rk (Kd.R_mono (Kd.R_far (p := ⟨gb497, 1, none⟩) (Kd.R_far (p := ⟨gb497, 0, none⟩) (Kd.R_types HO_476001.out BK497.out (by decide)) (fun _ hk => hk.2) (.int .i64 t492)) (fun _ hk => hk.2) (.slice Ao124 t493.length co124)) (fun _ h_ => h_.1))) hb); replace HO491 := Aside0.mk (Kd.R_below (by exact rk (Kd.R_mono (Kd.R_far (p := ⟨gb497, 1, none⟩) (Kd.R_far (p := ⟨gb497, 0, none⟩) (Kd.R_types HO491.out BK497.out (by decide)) (fun _ hk => hk.2) (.int .i64 t492)) (fun _ hk => hk.2) (.slice Ao124 t493.length co124)) (fun _ h_ => h_.1))) hb); replace HO495 := Aside0.mk (Kd.R_below (by exact rk (Kd.R_mono (Kd.R_far (p := ⟨gb497, 1, none⟩) (Kd.R_far (p := ⟨gb497, 0, none⟩) (Kd.R_types HO495.out BK497.out (by decide)) (fun _ hk => hk.2) (.int .i64 t492)) (fun _ hk => hk.2) (.slice Ao124 t493.length co124)) (fun _ h_ => h_.1))) hb); replace BK453 := Aside0.mk (bb BK453.out hb); replace BK464 := Aside0.mk (bb BK464.out hb); replace BK469 := Aside0.mk (bb BK469.out hb); replace BK475 := Aside0.mk (bb BK475.out hb); replace BK497 := Aside0.mk (blk_below (g := gb497) (o := .cells #[.int .i64 t492, .slice Ao124 t493.length co124] 36 (0, 0)) (by (with_reducible repeat (first | refine blk_drewN ?_ _ | refine blk_drew ?_ | refine blk_alloc ?_ _)); refine blk_put (cs := #[.int .i64 t492, .slice none 0 0]) ?_ 1 _ rfl; (with_reducible repeat (first | refine blk_drewN ?_ _ | refine blk_drew ?_ | refine blk_alloc ?_ _)); refine blk_put (cs := #[.int .i64 0, .slice none 0 0]) ?_ 0 _ rfl; (with_reducible repeat (first | refine blk_drewN ?_ _ | refine blk_drew ?_ | refine blk_alloc ?_ _)); exact BK497.out) hb); replace HB := Aside0.mk (below_step bel hb); (try clear hb)))
                          go_meet
                          case rel => exact ⟨_, ((t496 != t463)), (es), H', ⟨by have := HJ11.out; have := HJ60.out; first | omega | exact Nat.le_refl _⟩, ⟨by (try simp only [hl470001_60]); (with_reducible repeat (first | apply Kd.R_alloc | apply Kd.R_drewN | apply Kd.R_drew)); exact Kd.R_mono HO_465001.out (fun _ hk => ⟨hk.1.1.1, ⟨hk.1.1.2, hk.2⟩⟩)⟩, ⟨by (try simp only [hl470001_60]); (with_reducible repeat (first | apply Kd.R_alloc | apply Kd.R_drewN | apply Kd.R_drew)); exact Kd.R_mono HO_470001.out (fun _ hk => ⟨hk.1.1.1, ⟨hk.1.1.2, hk.2⟩⟩)⟩, ⟨by (try simp only [hl470001_60]); (with_reducible repeat (first | apply Kd.R_alloc | apply Kd.R_drewN | apply Kd.R_drew)); exact Kd.R_mono HO_476001.out (fun _ hk => ⟨hk.1.1.1, ⟨hk.1.1.2, hk.2⟩⟩)⟩, ⟨by (try simp only [hl470001_60]); (with_reducible repeat (first | apply Kd.R_alloc | apply Kd.R_drewN | apply Kd.R_drew)); exact Kd.R_mono HO495.out (fun _ hk => ⟨hk.1.1.1.2, ⟨hk.1.1.2, hk.1.2⟩⟩)⟩, ⟨by (try simp only [hl470001_60]); (with_reducible repeat (first | refine blk_drewN ?_ _ | refine blk_drew ?_ | refine blk_alloc ?_ _)); exact BK453.out⟩, ⟨by (try simp only [hl470001_60]); (with_reducible repeat (first | refine blk_drewN ?_ _ | refine blk_drew ?_ | refine blk_alloc ?_ _)); exact BK464.out⟩, ⟨by (try simp only [hl470001_60]); (with_reducible repeat (first | refine blk_drewN ?_ _ | refine blk_drew ?_ | refine blk_alloc ?_ _)); exact BK469.out⟩, ⟨by (try simp only [hl470001_60]); (with_reducible repeat (first | refine blk_drewN ?_ _ | refine blk_drew ?_ | refine blk_alloc ?_ _)); exact BK475.out⟩, ⟨by (try simp only [hl470001_60]); (with_reducible repeat (first | refine blk_drewN ?_ _ | refine blk_drew ?_ | refine blk_alloc ?_ _)); exact BK497.out⟩, ⟨bel⟩⟩
                        · replace c126 := Bool.eq_false_iff.mpr c126
                          subst c126
                          have H1 : (laws_FnExactWinGame.j2 kj60 t485 true t470 t486) = some r := by rw [if_neg (show ¬ (false = true) by decide)] at H; exact H
                          clear H
                          have H := H1
                          clear H1
                          have H' := Aside0.mk H
                          clear H
                          have hnb137 := NB497_453.out
                          have hnc137 := NB453_497.out
                          have hnb138 := NB497_464.out
                          have hnc138 := NB464_497.out
                          have hnb139 := NB497_469.out
                          have hnc139 := NB469_497.out
                          have hnb140 := NB497_475.out
                          have hnc140 := NB475_497.out
                          obtain ⟨hcz141_0, hcz141_1, hfz141_0, hfz141_1⟩ := cf2 BK497.out
                          have hnb142 := NB464_453.out
                          have hnc142 := NB453_464.out
                          have hnb143 := NB464_469.out
                          have hnc143 := NB469_464.out
                          have hnb144 := NB464_475.out
                          have hnc144 := NB475_464.out
                          obtain ⟨hcz145_0, hcz145_1, hfz145_0, hfz145_1⟩ := cf2 BK464.out
                          go_wp2_with (first | ((with_reducible refine gate_callee (f := 31) rfl ?_); refine goesL_ (some 86) rfl rfl Try.func31 (by kernel_rfl) rfl #[.agg #[.int .i64 t492, .slice Ao124 t493.length co124], .agg #[.int .i64 t459, .slice Ao23 t460.length co23]] rfl ga ?_; (with_reducible refine (laws_eqCup.calls kj60 t492 _ _ t493 t459 _ _ t460 false _ ?side1 ?side2 ?side3 ?side4 A125.out).mono ?_); (case side1 => refine (Kd.R_reads' (e := 3) (base := w.heap.size) (ok := fun k_ => ((((True ∧ some k_ ≠ (.slice Ao23 t460.length co23 : Value).ownBlock) ∧ some k_ ≠ (.slice Ao30 t483.length co30 : Value).ownBlock) ∧ some k_ ≠ (.slice Ao37 t471.length co37 : Value).ownBlock) ∧ some k_ ≠ (.slice Ao116 t489.length co116 : Value).ownBlock)) (n := t493.length) (c := co124) ?_).2.2; exact (by exact rk (Kd.R_mono (Kd.R_far (p := ⟨gb497, 1, none⟩) (Kd.R_far (p := ⟨gb497, 0, none⟩) (Kd.R_types HO495.out BK497.out (by decide)) (fun _ hk => hk.2) (.int .i64 t492)) (fun _ hk => hk.2) (.slice Ao124 t493.length co124)) (fun _ h_ => h_.1)))); (case side2 => exact (Kd.R_reads' HO495.out).2.1); (case side3 => refine (Kd.R_reads' (e := 3) (base := w.heap.size) (ok := fun k_ => (((some k_ ≠ (.slice Ao30 t483.length co30 : Value).ownBlock ∧ some k_ ≠ (.slice Ao37 t471.length co37 : Value).ownBlock) ∧ some k_ ≠ (.slice Ao116 t489.length co116 : Value).ownBlock) ∧ some k_ ≠ (.slice Ao124 t493.length co124 : Value).ownBlock)) (n := t460.length) (c := co23) ?_).2.2; exact (by exact rk (Kd.R_mono (Kd.R_far (p := ⟨gb497, 1, none⟩) (Kd.R_far (p := ⟨gb497, 0, none⟩) (Kd.R_types HO_465001.out BK497.out (by decide)) (fun _ hk => hk.2) (.int .i64 t492)) (fun _ hk => hk.2) (.slice Ao124 t493.length co124)) (fun _ h_ => h_.1)))); (case side4 => exact (Kd.R_reads' HO_465001.out).2.1); rintro e w146 ⟨rfl, hb⟩; refine ⟨_, rfl, ?_⟩; replace HO_465001 := Aside0.mk (Kd.R_below (by exact rk (Kd.R_mono (Kd.R_far (p := ⟨gb497, 1, none⟩) (Kd.R_far (p := ⟨gb497, 0, none⟩) (Kd.R_types HO_465001.out BK497.out (by decide)) (fun _ hk => hk.2) (.int .i64 t492)) (fun _ hk => hk.2) (.slice Ao124 t493.length co124)) (fun _ h_ => h_.1))) hb); replace HO_470001 := Aside0.mk (Kd.R_below (by exact rk (Kd.R_mono (Kd.R_far (p := ⟨gb497, 1, none⟩) (Kd.R_far (p := ⟨gb497, 0, none⟩) (Kd.R_types HO_470001.out BK497.out (by decide)) (fun _ hk => hk.2) (.int .i64 t492)) (fun _ hk => hk.2) (.slice Ao124 t493.length co124)) (fun _ h_ => h_.1))) hb); replace HO_476001 := Aside0.mk (Kd.R_below (by exact rk (Kd.R_mono (Kd.R_far (p := ⟨gb497, 1, none⟩) (Kd.R_far (p := ⟨gb497, 0, none⟩) (Kd.R_types HO_476001.out BK497.out (by decide)) (fun _ hk => hk.2) (.int .i64 t492)) (fun _ hk => hk.2) (.slice Ao124 t493.length co124)) (fun _ h_ => h_.1))) hb); replace HO491 := Aside0.mk (Kd.R_below (by exact rk (Kd.R_mono (Kd.R_far (p := ⟨gb497, 1, none⟩) (Kd.R_far (p := ⟨gb497, 0, none⟩) (Kd.R_types HO491.out BK497.out (by decide)) (fun _ hk => hk.2) (.int .i64 t492)) (fun _ hk => hk.2) (.slice Ao124 t493.length co124)) (fun _ h_ => h_.1))) hb); replace HO495 := Aside0.mk (Kd.R_below (by exact rk (Kd.R_mono (Kd.R_far (p := ⟨gb497, 1, none⟩) (Kd.R_far (p := ⟨gb497, 0, none⟩) (Kd.R_types HO495.out BK497.out (by decide)) (fun _ hk => hk.2) (.int .i64 t492)) (fun _ hk => hk.2) (.slice Ao124 t493.length co124)) (fun _ h_ => h_.1))) hb); replace BK453 := Aside0.mk (bb BK453.out hb); replace BK464 := Aside0.mk (bb BK464.out hb); replace BK469 := Aside0.mk (bb BK469.out hb); replace BK475 := Aside0.mk (bb BK475.out hb); replace BK497 := Aside0.mk (blk_below (g := gb497) (o := .cells #[.int .i64 t492, .slice Ao124 t493.length co124] 36 (0, 0)) (by (with_reducible repeat (first | refine blk_drewN ?_ _ | refine blk_drew ?_ | refine blk_alloc ?_ _)); refine blk_put (cs := #[.int .i64 t492, .slice none 0 0]) ?_ 1 _ rfl; (with_reducible repeat (first | refine blk_drewN ?_ _ | refine blk_drew ?_ | refine blk_alloc ?_ _)); refine blk_put (cs := #[.int .i64 0, .slice none 0 0]) ?_ 0 _ rfl; (with_reducible repeat (first | refine blk_drewN ?_ _ | refine blk_drew ?_ | refine blk_alloc ?_ _)); exact BK497.out) hb); replace HB := Aside0.mk (below_step bel hb); (try clear hb)))
                          go_meet
                          case rel => exact ⟨_, (true), (es), H', ⟨by have := HJ11.out; have := HJ60.out; first | omega | exact Nat.le_refl _⟩, ⟨by (try simp only [hl470001_60]); (with_reducible repeat (first | apply Kd.R_alloc | apply Kd.R_drewN | apply Kd.R_drew)); exact Kd.R_mono HO_465001.out (fun _ hk => ⟨hk.1.1.1, ⟨hk.1.1.2, hk.2⟩⟩)⟩, ⟨by (try simp only [hl470001_60]); (with_reducible repeat (first | apply Kd.R_alloc | apply Kd.R_drewN | apply Kd.R_drew)); exact Kd.R_mono HO_470001.out (fun _ hk => ⟨hk.1.1.1, ⟨hk.1.1.2, hk.2⟩⟩)⟩, ⟨by (try simp only [hl470001_60]); (with_reducible repeat (first | apply Kd.R_alloc | apply Kd.R_drewN | apply Kd.R_drew)); exact Kd.R_mono HO_476001.out (fun _ hk => ⟨hk.1.1.1, ⟨hk.1.1.2, hk.2⟩⟩)⟩, ⟨by (try simp only [hl470001_60]); (with_reducible repeat (first | apply Kd.R_alloc | apply Kd.R_drewN | apply Kd.R_drew)); exact Kd.R_mono HO495.out (fun _ hk => ⟨hk.1.1.1.2, ⟨hk.1.1.2, hk.1.2⟩⟩)⟩, ⟨by (try simp only [hl470001_60]); (with_reducible repeat (first | refine blk_drewN ?_ _ | refine blk_drew ?_ | refine blk_alloc ?_ _)); exact BK453.out⟩, ⟨by (try simp only [hl470001_60]); (with_reducible repeat (first | refine blk_drewN ?_ _ | refine blk_drew ?_ | refine blk_alloc ?_ _)); exact BK464.out⟩, ⟨by (try simp only [hl470001_60]); (with_reducible repeat (first | refine blk_drewN ?_ _ | refine blk_drew ?_ | refine blk_alloc ?_ _)); exact BK469.out⟩, ⟨by (try simp only [hl470001_60]); (with_reducible repeat (first | refine blk_drewN ?_ _ | refine blk_drew ?_ | refine blk_alloc ?_ _)); exact BK475.out⟩, ⟨by (try simp only [hl470001_60]); (with_reducible repeat (first | refine blk_drewN ?_ _ | refine blk_drew ?_ | refine blk_alloc ?_ _)); exact BK497.out⟩, ⟨bel⟩⟩
                      case rest =>
                        clear HC104
                        try clear c1; try clear c2; try clear p2; try clear c3; try clear c4; try clear c4b0; try clear c5; try clear c6; try clear c7; try clear c8; try clear c9; try clear c10; try clear c11; try clear c12; try clear c13; try clear c14; try clear c21; try clear c27; try clear c28; try clear c29; try clear c31; try clear c33; try clear c34; try clear c35; try clear c37; try clear c39; try clear c40; try clear c41; try clear c42; try clear c44; try clear c45; try clear c48; try clear c49; try clear c50; try clear c52; try clear c53; try clear c56; try clear c59; try clear c66; try clear c67; try clear c68; try clear c71; try clear c71b0; try clear c73; try clear c74; try clear c75; try clear c76; try clear c78; try clear c79; try clear c82; try clear c83; try clear c84; try clear c86; try clear c87; try clear c90; try clear c93; try clear c93b0; try clear c94; try clear c95; try clear c96; try clear c101; try clear c101b0; try clear c101b1; try clear c105; try clear c106; try clear c107; try clear c112; try clear c113; try clear c119; try clear c120; try clear c121; try clear c122; try clear c126; try clear c127; try clear c128; try clear c129; try clear c130; try clear c132; try clear c133; try clear c134; try clear c137; try clear c138; try clear c139; try clear c140; try clear c142; try clear c143; try clear c144; try clear hcz108_0; try clear hcz108_1; try clear hcz110_0; try clear hcz110_1; try clear hcz114_0; try clear hcz114_1; try clear hcz123_0; try clear hcz123_1; try clear hcz131_0; try clear hcz131_1; try clear hcz135_0; try clear hcz135_1; try clear hcz141_0; try clear hcz141_1; try clear hcz145_0; try clear hcz145_1; try clear hcz14_0; try clear hcz14_1; try clear hcz16_0; try clear hcz16_1; try clear hcz22_0; try clear hcz22_1; try clear hcz24_0; try clear hcz24_1; try clear hcz29_0; try clear hcz29_1; try clear hcz36_0; try clear hcz36_1; try clear hcz43_0; try clear hcz43_1; try clear hcz46_0; try clear hcz46_1; try clear hcz51_0; try clear hcz51_1; try clear hcz54_0; try clear hcz54_1; try clear hcz69_0; try clear hcz69_1; try clear hcz6_0; try clear hcz6_1; try clear hcz77_0; try clear hcz77_1; try clear hcz80_0; try clear hcz80_1; try clear hcz85_0; try clear hcz85_1; try clear hcz88_0; try clear hcz88_1; try clear hcz97_0; try clear hcz97_1; try clear hcz99_0; try clear hcz99_1; try clear hfz108_0; try clear hfz108_1; try clear hfz110_0; try clear hfz110_1; try clear hfz114_0; try clear hfz114_1; try clear hfz123_0; try clear hfz123_1; try clear hfz131_0; try clear hfz131_1; try clear hfz135_0; try clear hfz135_1; try clear hfz141_0; try clear hfz141_1; try clear hfz145_0; try clear hfz145_1; try clear hfz14_0; try clear hfz14_1; try clear hfz16_0; try clear hfz16_1; try clear hfz22_0; try clear hfz22_1; try clear hfz24_0; try clear hfz24_1; try clear hfz29_0; try clear hfz29_1; try clear hfz36_0; try clear hfz36_1; try clear hfz43_0; try clear hfz43_1; try clear hfz46_0; try clear hfz46_1; try clear hfz51_0; try clear hfz51_1; try clear hfz54_0; try clear hfz54_1; try clear hfz69_0; try clear hfz69_1; try clear hfz6_0; try clear hfz6_1; try clear hfz77_0; try clear hfz77_1; try clear hfz80_0; try clear hfz80_1; try clear hfz85_0; try clear hfz85_1; try clear hfz88_0; try clear hfz88_1; try clear hfz97_0; try clear hfz97_1; try clear hfz99_0; try clear hfz99_1; try clear p2
                        obtain ⟨kq, x92_103, rfl, HA, HJ103, HO_465001, HO_470001, HO_476001, HO_498001, BK453, BK464, BK469, BK475, BK497, HB⟩ := hcut
                        have hl476001_103 := (Kd.R_reads' HO_476001.out).1
                        rw [hl476001_103] at HO_476001
                        (try simp only [hl476001_103])
                        (try simp only [hl476001_103] at BK453)
                        (try simp only [hl476001_103] at BK464)
                        (try simp only [hl476001_103] at BK469)
                        (try simp only [hl476001_103] at BK475)
                        (try simp only [hl476001_103] at BK497)
                        (try simp only [hl476001_103] at HO_465001)
                        (try simp only [hl476001_103] at HO_470001)
                        (try simp only [hl476001_103] at HO_498001)
                        cases kq with
                        | zero => exact absurd HA.out (by simp [laws_FnExactWinGame.j2])
                        | succ kj103 =>
                          have H := HA.out
                          clear HA
                          simp only [laws_FnExactWinGame.j2] at H
                          by_cases c147 : x92_103 = true
                          · subst c147
                            have H1 : (some false) = some r := by rw [if_pos rfl] at H; exact H
                            clear H
                            have H := H1
                            clear H1
                            obtain rfl := Option.some.inj H
                            go_wp2
                            go_ret
                            exact ⟨er, bel⟩
                          · replace c147 := Bool.eq_false_iff.mpr c147
                            subst c147
                            have H1 : ((laws_heldCup.f kj103 t470 t486 1).bind fun t499 => (if t499 < 0 then (some false) else (if t499 = t485 then (some true) else (some false)))) = some r := by rw [if_neg (show ¬ (false = true) by decide)] at H; exact H
                            clear H
                            have H := H1
                            clear H1
                            replace H := Option.bind_eq_some_iff.mp H
                            obtain ⟨t499, A1480, H⟩ := H
                            replace H : (if t499 < 0 then (some false) else (if t499 = t485 then (some true) else (some false))) = some r := H
                            have A148 := Aside0.mk A1480
                            clear A1480
                            by_cases c149 : t499 < 0
                            · rw [if_pos c149] at H
                              have c149b0 : decide (t499 < 0) = true := decide_eq_true c149
                              clear c149
                              obtain rfl := Option.some.inj H
                              have hnb150 := NB475_453.out
                              have hnc150 := NB453_475.out
                              have hnb151 := NB475_464.out
                              have hnc151 := NB464_475.out
                              have hnb152 := NB475_469.out
                              have hnc152 := NB469_475.out
                              have hnb153 := NB475_497.out
                              have hnc153 := NB497_475.out
                              obtain ⟨hcz154_0, hcz154_1, hfz154_0, hfz154_1⟩ := cf2 BK475.out
                              go_wp2_with (first | ((with_reducible refine gate_callee (f := 41) rfl ?_); refine goesL_ (some 95) rfl rfl Try.func41 (by kernel_rfl) rfl #[.agg #[.int .i64 t470, .slice Ao37 t486.length co37], .int .i64 1] rfl ga ?_; (with_reducible refine (laws_heldCup.calls kj103 t470 _ _ t486 1 t499 _ ?side1 ?side2 A148.out).mono ?_); (case side1 => exact ck (Kd.R_reads' HO_476001.out).2.2); (case side2 => exact (Kd.R_reads' HO_476001.out).2.1); rintro e w155 ⟨rfl, hb⟩; refine ⟨_, rfl, ?_⟩; replace HO_465001 := Aside0.mk (Kd.R_below (rk HO_465001.out) hb); replace HO_470001 := Aside0.mk (Kd.R_below (rk HO_470001.out) hb); replace HO_476001 := Aside0.mk (Kd.R_below (rk HO_476001.out) hb); replace HO_498001 := Aside0.mk (Kd.R_below (rk HO_498001.out) hb); replace BK453 := Aside0.mk (bb BK453.out hb); replace BK464 := Aside0.mk (bb BK464.out hb); replace BK469 := Aside0.mk (bb BK469.out hb); replace BK475 := Aside0.mk (bb BK475.out hb); replace BK497 := Aside0.mk (bb BK497.out hb); replace HB := Aside0.mk (below_step bel hb); (try clear hb)))
                              go_ret
                              exact ⟨er, bel⟩
                            · rw [if_neg c149] at H
                              have c149b0 : decide (t499 < 0) = false := decide_eq_false c149
                              clear c149
                              by_cases c156 : t499 = t485
                              · rw [if_pos c156] at H
                                have c156b0 : (t499 == t485) = true := beq_iff_eq.mpr c156
                                have c156b1 : (t499 != t485) = false := bne_eq_false_iff_eq.mpr c156
                                clear c156
                                obtain rfl := Option.some.inj H
                                have hnb157 := NB475_453.out
                                have hnc157 := NB453_475.out
                                have hnb158 := NB475_464.out
                                have hnc158 := NB464_475.out
                                have hnb159 := NB475_469.out
                                have hnc159 := NB469_475.out
                                have hnb160 := NB475_497.out
                                have hnc160 := NB497_475.out
                                obtain ⟨hcz161_0, hcz161_1, hfz161_0, hfz161_1⟩ := cf2 BK475.out
                                go_wp2_with (first | ((with_reducible refine gate_callee (f := 41) rfl ?_); refine goesL_ (some 95) rfl rfl Try.func41 (by kernel_rfl) rfl #[.agg #[.int .i64 t470, .slice Ao37 t486.length co37], .int .i64 1] rfl ga ?_; (with_reducible refine (laws_heldCup.calls kj103 t470 _ _ t486 1 t499 _ ?side1 ?side2 A148.out).mono ?_); (case side1 => exact ck (Kd.R_reads' HO_476001.out).2.2); (case side2 => exact (Kd.R_reads' HO_476001.out).2.1); rintro e w162 ⟨rfl, hb⟩; refine ⟨_, rfl, ?_⟩; replace HO_465001 := Aside0.mk (Kd.R_below (rk HO_465001.out) hb); replace HO_470001 := Aside0.mk (Kd.R_below (rk HO_470001.out) hb); replace HO_476001 := Aside0.mk (Kd.R_below (rk HO_476001.out) hb); replace HO_498001 := Aside0.mk (Kd.R_below (rk HO_498001.out) hb); replace BK453 := Aside0.mk (bb BK453.out hb); replace BK464 := Aside0.mk (bb BK464.out hb); replace BK469 := Aside0.mk (bb BK469.out hb); replace BK475 := Aside0.mk (bb BK475.out hb); replace BK497 := Aside0.mk (bb BK497.out hb); replace HB := Aside0.mk (below_step bel hb); (try clear hb)))
                                go_ret
                                exact ⟨er, bel⟩
                              · rw [if_neg c156] at H
                                have c156b0 : (t499 == t485) = false := beq_eq_false_iff_ne.mpr c156
                                have c156b1 : (t499 != t485) = true := bne_iff_ne.mpr c156
                                obtain rfl := Option.some.inj H
                                have hnb163 := NB475_453.out
                                have hnc163 := NB453_475.out
                                have hnb164 := NB475_464.out
                                have hnc164 := NB464_475.out
                                have hnb165 := NB475_469.out
                                have hnc165 := NB469_475.out
                                have hnb166 := NB475_497.out
                                have hnc166 := NB497_475.out
                                obtain ⟨hcz167_0, hcz167_1, hfz167_0, hfz167_1⟩ := cf2 BK475.out
                                go_wp2_with (first | ((with_reducible refine gate_callee (f := 41) rfl ?_); refine goesL_ (some 95) rfl rfl Try.func41 (by kernel_rfl) rfl #[.agg #[.int .i64 t470, .slice Ao37 t486.length co37], .int .i64 1] rfl ga ?_; (with_reducible refine (laws_heldCup.calls kj103 t470 _ _ t486 1 t499 _ ?side1 ?side2 A148.out).mono ?_); (case side1 => exact ck (Kd.R_reads' HO_476001.out).2.2); (case side2 => exact (Kd.R_reads' HO_476001.out).2.1); rintro e w168 ⟨rfl, hb⟩; refine ⟨_, rfl, ?_⟩; replace HO_465001 := Aside0.mk (Kd.R_below (rk HO_465001.out) hb); replace HO_470001 := Aside0.mk (Kd.R_below (rk HO_470001.out) hb); replace HO_476001 := Aside0.mk (Kd.R_below (rk HO_476001.out) hb); replace HO_498001 := Aside0.mk (Kd.R_below (rk HO_498001.out) hb); replace BK453 := Aside0.mk (bb BK453.out hb); replace BK464 := Aside0.mk (bb BK464.out hb); replace BK469 := Aside0.mk (bb BK469.out hb); replace BK475 := Aside0.mk (bb BK475.out hb); replace BK497 := Aside0.mk (bb BK497.out hb); replace HB := Aside0.mk (below_step bel hb); (try clear hb)))
                                go_ret
                                exact ⟨er, bel⟩
                    · rw [if_neg c101] at H
                      have c101b0 : (t487 == t485) = false := beq_eq_false_iff_ne.mpr c101
                      have c101b1 : (t487 != t485) = true := bne_iff_ne.mpr c101
                      obtain rfl := Option.some.inj H
                      have hnb169 := NB475_453.out
                      have hnc169 := NB453_475.out
                      have hnb170 := NB475_464.out
                      have hnc170 := NB464_475.out
                      have hnb171 := NB475_469.out
                      have hnc171 := NB469_475.out
                      obtain ⟨hcz172_0, hcz172_1, hfz172_0, hfz172_1⟩ := cf2 BK475.out
                      go_wp2_with (first | ((with_reducible refine gate_callee (f := 40) rfl ?_); refine goesL_ (some 68) rfl rfl Try.func40 (by kernel_rfl) rfl #[.agg #[.int .i64 t470, .slice Ao37 t471.length co37], .int .i64 1] rfl ga ?_; (with_reducible refine (laws_markCup.calls kj60 t470 (fun k_ => some k_ = (.slice Ao37 t471.length co37 : Value).ownBlock) (.slice Ao37 t471.length co37) t471 1 t485 t486 w _ ?side1 ?side2 A91.out).mono ?_); (case side1 => exact bel); (case side2 => exact Kd.R_tight rfl HO_476001.out); rintro e w173 ⟨rfl, hy0, hb, hkp⟩; refine ⟨_, rfl, ?_⟩; have n0_ := Aside0.mk (Kd.R_mono (ok' := fun k_ => some k_ ≠ (.slice Ao30 t483.length co30 : Value).ownBlock ∧ some k_ ≠ (.slice Ao37 t471.length co37 : Value).ownBlock) (Kd.R_keptB (HO_465001.out) hkp (fun k_ hk_ hs_ => (hk_.2) hs_)) (fun k_ hk_ => ⟨hk_.1.1, hk_.1.2⟩)); have n1_ := Aside0.mk (Kd.R_mono (ok' := fun k_ => some k_ ≠ (.slice Ao23 t460.length co23 : Value).ownBlock ∧ some k_ ≠ (.slice Ao37 t471.length co37 : Value).ownBlock) (Kd.R_keptB (HO_470001.out) hkp (fun k_ hk_ hs_ => (hk_.2) hs_)) (fun k_ hk_ => ⟨hk_.1.1, hk_.1.2⟩)); have n2_ := Aside0.mk (Kd.R_reok rfl hy0 (fun k_ e_ => HO_476001.out.1 k_ e_)); have n3_ := Aside0.mk (blk_kept (bk BK453.out) hkp (fun hs_ => (fun e_ => (Kd.R_ne HO_476001.out BK453.out (by decide)) e_) hs_)); have n4_ := Aside0.mk (blk_kept (bk BK464.out) hkp (fun hs_ => (fun e_ => (Kd.R_ne HO_476001.out BK464.out (by decide)) e_) hs_)); have n5_ := Aside0.mk (blk_kept (bk BK469.out) hkp (fun hs_ => (fun e_ => (Kd.R_ne HO_476001.out BK469.out (by decide)) e_) hs_)); have n6_ := Aside0.mk (blk_kept (bk BK475.out) hkp (fun hs_ => (fun e_ => (Kd.R_ne HO_476001.out BK475.out (by decide)) e_) hs_)); have n7_ := Aside0.mk (hb); clear HO_465001; clear HO_470001; clear HO_476001; clear BK453; clear BK464; clear BK469; clear BK475; clear HB; have HO_465001 := n0_; have HO_470001 := n1_; have HO_476001 := n2_; have BK453 := n3_; have BK464 := n4_; have BK469 := n5_; have BK475 := n6_; have HB := n7_; clear n0_ n1_ n2_ n3_ n4_ n5_ n6_ n7_; (try clear hb); (try clear hkp); (try clear hy0); obtain ⟨hcz174_0, hcz174_1, hfz174_0, hfz174_1⟩ := cf2 BK475.out) | ((with_reducible refine gate_callee (f := 41) rfl ?_); refine goesL_ (some 71) rfl rfl Try.func41 (by kernel_rfl) rfl #[.agg #[.int .i64 t470, .slice Ao37 t486.length co37], .int .i64 1] rfl (by (try simp only [List.map_toArray, List.map_cons, List.map_nil]); first | done | (rw [show t486.length = t471.length from (Kd.R_reads' HO_476001.out).1.symm] <;> rfl) | rfl | (simp only [List.length_drop, List.length_take]; rfl)) ?_; (with_reducible refine (laws_heldCup.calls kj60 t470 _ _ t486 1 t487 _ ?side1 ?side2 A92.out).mono ?_); (case side1 => exact ck (Kd.R_reads' HO_476001.out).2.2); (case side2 => rw [show t486.length = t471.length from (Kd.R_reads' HO_476001.out).1.symm]; exact (Kd.R_reads' HO_476001.out).2.1); rintro e w175 ⟨rfl, hb⟩; refine ⟨_, rfl, ?_⟩; replace HO_465001 := Aside0.mk (Kd.R_below (rk HO_465001.out) hb); replace HO_470001 := Aside0.mk (Kd.R_below (rk HO_470001.out) hb); replace HO_476001 := Aside0.mk (Kd.R_below (rk HO_476001.out) hb); replace BK453 := Aside0.mk (bb BK453.out hb); replace BK464 := Aside0.mk (bb BK464.out hb); replace BK469 := Aside0.mk (bb BK469.out hb); replace BK475 := Aside0.mk (bb BK475.out hb); replace HB := Aside0.mk (below_step bel hb); (try clear hb)))
                      go_ret
                      exact ⟨er, bel⟩
          · replace c59 := Bool.eq_false_iff.mpr c59
            subst c59
            have H1 : (some false) = some r := by rw [if_neg (show ¬ (false = true) by decide)] at H; exact H
            clear H
            have H := H1
            clear H1
            obtain rfl := Option.some.inj H
            try go_wp2
            replace HO_465001 := Aside0.mk (Kd.R_drew HO_465001.out)
            replace HO_470001 := Aside0.mk (Kd.R_drew HO_470001.out)
            replace HO_476001 := Aside0.mk (Kd.R_drew HO_476001.out)
            replace BK453 := Aside0.mk (blk_drew BK453.out)
            replace BK464 := Aside0.mk (blk_drew BK464.out)
            replace BK469 := Aside0.mk (blk_drew BK469.out)
            replace BK475 := Aside0.mk (blk_drew BK475.out)
            replace HB := Aside0.mk (below_drew1 HB.out)
            refine start_ (n := 5) (S := fun w' => w'.cell? ⟨gb469, 0, none⟩ = some (.int .i64 t465) ∧ w'.cell? ⟨gb469, 1, none⟩ = some (.slice Ao30 t466.length co30) ∧ w'.cell? ⟨gb453, 0, none⟩ = some (.int .i64 a0_0) ∧ w'.cell? ⟨gb453, 1, none⟩ = some (.slice A0_1 l0_1.length c0_1)) (ds := []) #[false, false, false, false, false] (by kernel_rfl) rfl rfl ⟨(blk_cell BK469.out 0).trans rfl, (blk_cell BK469.out 1).trans rfl, (blk_cell BK453.out 0).trans rfl, (blk_cell BK453.out 1).trans rfl⟩ (fun hHeld => ?_)
            generalize wc.drew = w176 at HO_465001 HO_470001 HO_476001 BK453 BK464 BK469 BK475 HB hHeld ⊢
            refine take_ (i := 0) (N := some 45) (v := ?_) (a' := ?_) #[true, false, false, false, false] rfl rfl (by kernel_rfl) (fun _ _ _ h => h) (Or.inl ⟨by rfl, ?_⟩) hHeld ?_ ?_
            rotate_left
            · rintro w' ⟨s0, s1, s2, s3⟩
              go_simp
              with_reducible rfl
            rotate_left
            · simp only [Act.put, List.setIfInBounds_toArray, List.set_cons_zero, List.set_cons_succ, i64_w, i32_w]
              rfl
            refine take_ (i := 1) (N := some 46) (v := ?_) (a' := ?_) #[true, true, false, false, false] rfl rfl (by kernel_rfl) (fun _ _ _ h => h) (Or.inl ⟨by rfl, ?_⟩) hHeld ?_ ?_
            rotate_left
            · rintro w' ⟨s0, s1, s2, s3⟩
              go_simp
              with_reducible rfl
            rotate_left
            · simp only [Act.put, List.setIfInBounds_toArray, List.set_cons_zero, List.set_cons_succ, i64_w, i32_w]
              rfl
            refine one_ (i := 2) (N := some 47) #[true, true, true, false, false] rfl rfl (by kernel_rfl) (by decide) (fun K hK => ?_)
            refine goes_ Try.func29 (by kernel_rfl) rfl #[.agg #[.int .i64 a0_0, .slice A0_1 l0_1.length c0_1]] (by rfl) rfl rfl ga ?_
            with_reducible refine (laws_toCup.calls kj11 a0_0 _ _ l0_1 t477 t478 _ ?side1 ?side2 A57.out).mono ?_
            (case side1 => exact ck (Kd.C_below HR0_1.out HB.out))
            (case side2 => exact HC0_1.out)
            rintro e w177 ⟨v479, rfl, ho0, hb⟩
            refine ⟨_, rfl, ?_⟩
            have HO480 := Aside0.mk (Kd.R_lower (Kd.R_new' (Kd.R_new' (Kd.R_new' ho0 (Kd.R_lt (rk HO_465001.out))) (Kd.R_lt (rk HO_470001.out))) (Kd.R_lt (rk HO_476001.out))) (below_size bel))
            replace HO_465001 := Aside0.mk (Kd.R_elder' (rk HO_465001.out) (Kd.R_base ho0) hb)
            replace HO_470001 := Aside0.mk (Kd.R_elder' (rk HO_470001.out) (Kd.R_base ho0) hb)
            replace HO_476001 := Aside0.mk (Kd.R_elder' (rk HO_476001.out) (Kd.R_base ho0) hb)
            replace BK453 := Aside0.mk (bb BK453.out hb)
            replace BK464 := Aside0.mk (bb BK464.out hb)
            replace BK469 := Aside0.mk (bb BK469.out hb)
            replace BK475 := Aside0.mk (bb BK475.out hb)
            replace HB := Aside0.mk (below_step bel hb)
            (try clear hb)
            (try clear hb2)
            (try clear hk)
            (try clear hi)
            (try clear ho0)
            obtain ⟨Ao178, co178, eo178⟩ := Kd.R_slice HO480.out
            (first | subst eo178 | (injection eo178 with f1_ f2_ f3_; have f4_ := f1_.symm; have f5_ := f3_.symm; clear f1_ f2_ f3_; subst f4_; subst f5_))
            refine hK.out _ _ ⟨(blk_cell BK469.out 0).trans rfl, (blk_cell BK469.out 1).trans rfl, (blk_cell BK453.out 0).trans rfl, (blk_cell BK453.out 1).trans rfl⟩ (fun hHeld => ?_)
            clear hK K
            refine norm_ (a' := ?_) ?_ ?_
            rotate_left
            · show Act.put _ (some 47) _ = _
              simp only [Act.put, List.setIfInBounds_toArray, List.set_cons_zero, List.set_cons_succ, i64_w, i32_w]
              rfl
            refine one_ (i := 3) (N := some 48) #[true, true, true, true, false] rfl rfl (by kernel_rfl) (by decide) (fun K hK => ?_)
            refine goes_ Try.func31 (by kernel_rfl) rfl #[.agg #[.int .i64 t465, .slice Ao30 t466.length co30], .agg #[.int .i64 t477, .slice Ao178 t478.length co178]] (by rfl) rfl rfl ga ?_
            with_reducible refine (laws_eqCup.calls kj11 t465 _ _ t466 t477 _ _ t478 false _ ?side1 ?side2 ?side3 ?side4 A58.out).mono ?_
            (case side1 => exact ck (Kd.R_reads' HO_470001.out).2.2)
            (case side2 => exact (Kd.R_reads' HO_470001.out).2.1)
            (case side3 => exact ck (Kd.R_reads' HO480.out).2.2)
            (case side4 => exact (Kd.R_reads' HO480.out).2.1)
            rintro e w179 ⟨rfl, hb⟩
            refine ⟨_, rfl, ?_⟩
            replace HO_465001 := Aside0.mk (Kd.R_below (rk HO_465001.out) hb)
            replace HO_470001 := Aside0.mk (Kd.R_below (rk HO_470001.out) hb)
            replace HO_476001 := Aside0.mk (Kd.R_below (rk HO_476001.out) hb)
            replace HO480 := Aside0.mk (Kd.R_below (rk HO480.out) hb)
            replace BK453 := Aside0.mk (bb BK453.out hb)
            replace BK464 := Aside0.mk (bb BK464.out hb)
            replace BK469 := Aside0.mk (bb BK469.out hb)
            replace BK475 := Aside0.mk (bb BK475.out hb)
            replace HB := Aside0.mk (below_step bel hb)
            (try clear hb)
            (try clear hb2)
            (try clear hk)
            (try clear hi)
            refine hK.out _ _ ⟨(blk_cell BK469.out 0).trans rfl, (blk_cell BK469.out 1).trans rfl, (blk_cell BK453.out 0).trans rfl, (blk_cell BK453.out 1).trans rfl⟩ (fun hHeld => ?_)
            clear hK K
            refine norm_ (a' := ?_) ?_ ?_
            rotate_left
            · show Act.put _ (some 48) _ = _
              simp only [Act.put, List.setIfInBounds_toArray, List.set_cons_zero, List.set_cons_succ, i64_w, i32_w]
              rfl
            refine pure_ (i := 4) (N := some 49) (v := ?_) (a' := ?_) #[true, true, true, true, true] rfl rfl (by kernel_rfl) (fun _ _ _ h => h) (Or.inl ⟨by rfl, ?_⟩) ?_ ?_
            rotate_left
            · intro w'
              go_simp
              with_reducible rfl
            rotate_left
            · simp only [Act.put, List.setIfInBounds_toArray, List.set_cons_zero, List.set_cons_succ, i64_w, i32_w]
              rfl
            refine done_ (by kernel_rfl) ?_
            try go_wp2
            go_ret
            exact ⟨er, bel⟩

end Go.Proofs.Ytpacmpppiphfjaa.X
