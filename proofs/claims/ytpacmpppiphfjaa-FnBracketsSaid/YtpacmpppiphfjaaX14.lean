-- Written by a program of this session (wip/xp.py, over the kit's print) out of the translation: functions, and the walks that show them.
import Derived.Test.YtpacmpppiphfjaaX0
import Derived.Test.YtpacmpppiphfjaaX9
import Derived.Test.YtpacmpppiphfjaaX10
import Derived.Test.YtpacmpppiphfjaaX11
import Derived.Test.YtpacmpppiphfjaaX13
namespace Go.Proofs.Ytpacmpppiphfjaa.X
open Go.RowKit Go.Proofs.YtpacmpppiphfjaaW.PrintWords Go.Proofs.YtpacmpppiphfjaaW.PrintLast Go.Proofs.YtpacmpppiphfjaaW.PrintMore
attribute [local go_sem] max2_int min2_int max_two min_two max_three min_three max_four min_four   -- for this text's walks alone
set_option linter.unusedVariables false
set_option linter.unusedSimpArgs false

/-! ### impl_WaysToWin: function 43 -/
mutual
def impl_WaysToWin.j0 : Nat → Int → Bool → Int → List Int → Option (Int)
  | 0, _, _, _, _ => none
  | k + 1, x1, x21, x261000, x261001 => if x21 = true then (some 0) else (if (x261001.length : Int) = (wrap64 (x261000 - 1)) then ((impl_ChampionOf.f k x261000 x261001).bind fun t263 => (if t263 = x1 then (some 1) else (some 0))) else ((impl_OpponentsOf.f k x261000 x261001 (x261001.length : Int)).bind fun bt264 => ((impl_WinGame.f k x261000 x261001 bt264.1).bind fun bt267 => ((impl_WinGame.f k x261000 x261001 bt264.2.1).bind fun bt273 => ((impl_WaysToWin.f k bt267.1 bt267.2.1 x1).bind fun t279 => ((impl_WaysToWin.f k bt273.1 bt273.2.1 x1).bind fun t280 => (some (wrap64 (t279 + t280)))))))))
def impl_WaysToWin.f : Nat → Int → List Int → Int → Option (Int)
  | 0, _, _, _ => none
  | k + 1, a0_0, l0_1, a1 => (impl_CupOk.f k a0_0 l0_1).bind fun t261 => (if t261 = true then ((impl_within.f a1 1 a0_0).bind fun t262 => (impl_WaysToWin.j0 k a1 (!t262) a0_0 l0_1)) else (impl_WaysToWin.j0 k a1 true a0_0 l0_1))
end
theorem impl_WaysToWin.mono_l : ∀ k, (∀ y0 y1 y2, LeO (impl_WaysToWin.f k y0 y1 y2) (impl_WaysToWin.f (k + 1) y0 y1 y2)) ∧ (∀ y0 y1 y2 y3, LeO (impl_WaysToWin.j0 k y0 y1 y2 y3) (impl_WaysToWin.j0 (k + 1) y0 y1 y2 y3))
  | 0 => ⟨fun _ _ _ r h => by simp [impl_WaysToWin.f] at h, fun _ _ _ _ r h => by simp [impl_WaysToWin.j0] at h⟩
  | k + 1 => by
    obtain ⟨ih0, ih1⟩ := impl_WaysToWin.mono_l k
    refine ⟨?_, ?_⟩
    · intro y0 y1 y2
      unfold impl_WaysToWin.f
      repeat' first
      | (with_reducible exact ih0 _ _ _)
      | (with_reducible exact ih1 _ _ _ _)
      | (with_reducible exact impl_ChampionOf.mono _ _ _)
      | (with_reducible exact impl_CupOk.mono _ _ _)
      | (with_reducible exact impl_OpponentsOf.mono _ _ _ _)
      | (with_reducible exact impl_WinGame.mono _ _ _ _)
      | (with_reducible exact LeO.refl _)
      | (with_reducible exact LeO.none _)
      | (with_reducible refine LeO.ite ?_ ?_)
      | (with_reducible refine LeO.bind ?_ (fun _ => ?_))
      | exact ih0 _ _ _
      | exact ih1 _ _ _ _
      | exact impl_ChampionOf.mono _ _ _
      | exact impl_CupOk.mono _ _ _
      | exact impl_OpponentsOf.mono _ _ _ _
      | exact impl_WinGame.mono _ _ _ _
      | exact LeO.none _
      | refine LeO.ite ?_ ?_
      | refine LeO.bind ?_ (fun _ => ?_)
    · intro y0 y1 y2 y3
      unfold impl_WaysToWin.j0
      repeat' first
      | (with_reducible exact ih0 _ _ _)
      | (with_reducible exact ih1 _ _ _ _)
      | (with_reducible exact impl_ChampionOf.mono _ _ _)
      | (with_reducible exact impl_CupOk.mono _ _ _)
      | (with_reducible exact impl_OpponentsOf.mono _ _ _ _)
      | (with_reducible exact impl_WinGame.mono _ _ _ _)
      | (with_reducible exact LeO.refl _)
      | (with_reducible exact LeO.none _)
      | (with_reducible refine LeO.ite ?_ ?_)
      | (with_reducible refine LeO.bind ?_ (fun _ => ?_))
      | exact ih0 _ _ _
      | exact ih1 _ _ _ _
      | exact impl_ChampionOf.mono _ _ _
      | exact impl_CupOk.mono _ _ _
      | exact impl_OpponentsOf.mono _ _ _ _
      | exact impl_WinGame.mono _ _ _ _
      | exact LeO.none _
      | refine LeO.ite ?_ ?_
      | refine LeO.bind ?_ (fun _ => ?_)
theorem impl_WaysToWin.mono : ∀ a0 a1 a2 k, LeO (impl_WaysToWin.f k a0 a1 a2) (impl_WaysToWin.f (k + 1) a0 a1 a2) := by
  intro a0 a1 a2 k
  obtain ⟨ih0, ih1⟩ := impl_WaysToWin.mono_l k
  exact ih0 a0 a1 a2
def impl_WaysToWin.T10 : Bool × List (List Nat × List Nat) := (true, [([], []), ([], []), ([0, 1], [0, 1]), ([], []), ([], []), ([3, 4, 2], [3, 4]), ([2, 5], [2, 5]), ([6, 5, 0, 1, 2, 3, 4, 5, 6], [6])])
def impl_WaysToWin.B10 : List Nat := [0, 0, 3, 0, 0, 31, 63, 127]
theorem impl_WaysToWin.tab10 : rtab .any (opsOf Try.f43 10) = impl_WaysToWin.T10 := by kernel_rfl
theorem impl_WaysToWin.bits10 : waitsOk impl_WaysToWin.T10.2 impl_WaysToWin.B10 = true := by kernel_rfl
set_option maxHeartbeats 8000000 in
set_option maxRecDepth 100000 in
theorem impl_WaysToWin.calls (k : Nat) : ∀ (a0_0 : Int) (A0_1 : Option Addr) (c0_1 : Nat) (l0_1 : List Int) (a1 : Int) (r : Int) (w : World) (hr0_1 : Kd.C (Kd.int .i64) w A0_1 l0_1.length l0_1) (hc0_1 : l0_1.length ≤ c0_1) (h : impl_WaysToWin.f k a0_0 l0_1 a1 = some r),
    Calls Try.prog 43 #[.agg #[.int .i64 a0_0, .slice A0_1 l0_1.length c0_1], .int .i64 a1] w fun e w' => e = .returned (.int .i64 r) ∧ Below w.heap.size w w' := by
  induction k using Nat.strongRecOn with
  | _ k ih =>
  intro a0_0 A0_1 c0_1 l0_1 a1 r w hr0_1 hc0_1 h
  cases k with
  | zero => exact absurd h (by simp [impl_WaysToWin.f])
  | succ k =>
  simp only [impl_WaysToWin.f] at h
  have hu36 := Try.underlying36
  have HR0_1 := Aside0.mk hr0_1
  have HC0_1 := Aside0.mk hc0_1
  clear hr0_1 hc0_1
  have HB := Aside0.mk (Below.refl w.heap.size w)
  have H : ((impl_CupOk.f k a0_0 l0_1).bind fun t261 => (if t261 = true then ((impl_within.f a1 1 a0_0).bind fun t262 => (impl_WaysToWin.j0 k a1 (!t262) a0_0 l0_1)) else (impl_WaysToWin.j0 k a1 true a0_0 l0_1))) = some r := h
  clear h
  have HC3 := Aside0.mk H
  clear H
  go_enter Try.func43, Try.ntmps43
  go_upto_region 1 with (first | ((with_reducible refine gate_dst (N := 2) rfl ?_); refine box_event ?hg (N := 2) ?hd (cs := #[.int .i64 a0_0, .slice A0_1 l0_1.length c0_1]) (t := 36) ?hr ?_; (case hd => rfl); (case hg => rfl); (case hr => first | (go_simp; done) | (go_simp; rfl)); intro gb260 hg w4 hbox hb; have BK260 := Aside0.mk (hbox); have GW260 := Aside0.mk ((bsz hg : w.heap.size ≤ gb260)); have GE260 := Aside0.mk ((bsz hg : w.heap.size ≤ gb260)); replace HB := Aside0.mk (below_step bel hb); clear hb hbox hg))
  (try simp only [Act.put, List.setIfInBounds_toArray, List.set_cons_zero, List.set_cons_succ])
  go_cut [21] (fun v21 wc => ∃ (kq : Nat) (x21_2 : Bool), v21 = .bool x21_2 ∧ Aside0 (impl_WaysToWin.j0 kq a1 x21_2 a0_0 l0_1 = some r) ∧ Aside0 (kq ≤ k) ∧ Aside0 (wc.heap[gb260]? = some (.cells #[.int .i64 a0_0, (.slice A0_1 l0_1.length c0_1)] 36 (0, 0))) ∧ Aside0 (Below w.heap.size w wc))
  case first =>
    have H := HC3.out
    clear HC3
    replace H := Option.bind_eq_some_iff.mp H
    obtain ⟨t261, A50, H⟩ := H
    replace H : (if t261 = true then ((impl_within.f a1 1 a0_0).bind fun t262 => (impl_WaysToWin.j0 k a1 (!t262) a0_0 l0_1)) else (impl_WaysToWin.j0 k a1 true a0_0 l0_1)) = some r := H
    have A5 := Aside0.mk A50
    clear A50
    by_cases c6 : t261 = true
    · subst c6
      have H1 : ((impl_within.f a1 1 a0_0).bind fun t262 => (impl_WaysToWin.j0 k a1 (!t262) a0_0 l0_1)) = some r := by rw [if_pos rfl] at H; exact H
      clear H
      have H := H1
      clear H1
      replace H := Option.bind_eq_some_iff.mp H
      obtain ⟨t262, A70, H⟩ := H
      replace H : (impl_WaysToWin.j0 k a1 (!t262) a0_0 l0_1) = some r := H
      have A7 := Aside0.mk A70
      clear A70
      have H' := Aside0.mk H
      clear H
      obtain ⟨hcz8_0, hcz8_1, hfz8_0, hfz8_1⟩ := cf2 BK260.out
      go_wp2_with (first | ((with_reducible refine gate_callee (f := 33) rfl ?_); refine goesL_ (some 13) rfl rfl Try.func33 (by kernel_rfl) rfl #[.agg #[.int .i64 a0_0, .slice A0_1 l0_1.length c0_1]] rfl ga ?_; (with_reducible refine (impl_CupOk.calls k a0_0 _ _ l0_1 true _ ?side1 ?side2 A5.out).mono ?_); (case side1 => exact ck (Kd.C_below HR0_1.out HB.out)); (case side2 => exact HC0_1.out); rintro e w9 ⟨rfl, hb⟩; refine ⟨_, rfl, ?_⟩; replace BK260 := Aside0.mk (bb BK260.out hb); replace HB := Aside0.mk (below_step bel hb); (try clear hb); obtain ⟨hcz10_0, hcz10_1, hfz10_0, hfz10_1⟩ := cf2 BK260.out) | (go_at_call 46; (with_reducible refine (impl_within.calls a1 1 a0_0 t262 _ A7.out).mono ?_); rintro e w' ⟨rfl, ⟨nd, rfl⟩⟩))
      go_meet
      case rel => exact ⟨_, (!t262), (es), H', ⟨by first | omega | exact Nat.le_refl _⟩, ⟨bk BK260.out⟩, ⟨bel⟩⟩
    · replace c6 := Bool.eq_false_iff.mpr c6
      subst c6
      have H1 : (impl_WaysToWin.j0 k a1 true a0_0 l0_1) = some r := by rw [if_neg (show ¬ (false = true) by decide)] at H; exact H
      clear H
      have H := H1
      clear H1
      have H' := Aside0.mk H
      clear H
      obtain ⟨hcz11_0, hcz11_1, hfz11_0, hfz11_1⟩ := cf2 BK260.out
      go_wp2_with (first | ((with_reducible refine gate_callee (f := 33) rfl ?_); refine goesL_ (some 13) rfl rfl Try.func33 (by kernel_rfl) rfl #[.agg #[.int .i64 a0_0, .slice A0_1 l0_1.length c0_1]] rfl ga ?_; (with_reducible refine (impl_CupOk.calls k a0_0 _ _ l0_1 false _ ?side1 ?side2 A5.out).mono ?_); (case side1 => exact ck (Kd.C_below HR0_1.out HB.out)); (case side2 => exact HC0_1.out); rintro e w12 ⟨rfl, hb⟩; refine ⟨_, rfl, ?_⟩; replace BK260 := Aside0.mk (bb BK260.out hb); replace HB := Aside0.mk (below_step bel hb); (try clear hb)))
      go_meet
      case rel => exact ⟨_, (true), (es), H', ⟨by first | omega | exact Nat.le_refl _⟩, ⟨bk BK260.out⟩, ⟨bel⟩⟩
  case rest =>
    clear HC3
    try clear p2; try clear c3; try clear c4; try clear c6; try clear hcz10_0; try clear hcz10_1; try clear hcz11_0; try clear hcz11_1; try clear hcz8_0; try clear hcz8_1; try clear hfz10_0; try clear hfz10_1; try clear hfz11_0; try clear hfz11_1; try clear hfz8_0; try clear hfz8_1
    obtain ⟨kq, x21_2, rfl, HA, HJ2, BK260, HB⟩ := hcut
    cases kq with
    | zero => exact absurd HA.out (by simp [impl_WaysToWin.j0])
    | succ kj2 =>
      have H := HA.out
      clear HA
      simp only [impl_WaysToWin.j0] at H
      by_cases c13 : x21_2 = true
      · subst c13
        have H1 : (some 0) = some r := by rw [if_pos rfl] at H; exact H
        clear H
        have H := H1
        clear H1
        obtain rfl := Option.some.inj H
        go_wp2
        go_ret
        exact ⟨er, bel⟩
      · replace c13 := Bool.eq_false_iff.mpr c13
        subst c13
        have H1 : (if (l0_1.length : Int) = (wrap64 (a0_0 - 1)) then ((impl_ChampionOf.f kj2 a0_0 l0_1).bind fun t263 => (if t263 = a1 then (some 1) else (some 0))) else ((impl_OpponentsOf.f kj2 a0_0 l0_1 (l0_1.length : Int)).bind fun bt264 => ((impl_WinGame.f kj2 a0_0 l0_1 bt264.1).bind fun bt267 => ((impl_WinGame.f kj2 a0_0 l0_1 bt264.2.1).bind fun bt273 => ((impl_WaysToWin.f kj2 bt267.1 bt267.2.1 a1).bind fun t279 => ((impl_WaysToWin.f kj2 bt273.1 bt273.2.1 a1).bind fun t280 => (some (wrap64 (t279 + t280))))))))) = some r := by rw [if_neg (show ¬ (false = true) by decide)] at H; exact H
        clear H
        have H := H1
        clear H1
        by_cases c14 : (l0_1.length : Int) = (wrap64 (a0_0 - 1))
        · rw [if_pos c14] at H
          have c14b0 : ((l0_1.length : Int) == (wrap64 (a0_0 - 1))) = true := beq_iff_eq.mpr c14
          have c14b1 : ((l0_1.length : Int) != (wrap64 (a0_0 - 1))) = false := bne_eq_false_iff_eq.mpr c14
          clear c14
          replace H := Option.bind_eq_some_iff.mp H
          obtain ⟨t263, A150, H⟩ := H
          replace H : (if t263 = a1 then (some 1) else (some 0)) = some r := H
          have A15 := Aside0.mk A150
          clear A150
          by_cases c16 : t263 = a1
          · rw [if_pos c16] at H
            have c16b0 : (t263 == a1) = true := beq_iff_eq.mpr c16
            have c16b1 : (t263 != a1) = false := bne_eq_false_iff_eq.mpr c16
            clear c16
            obtain rfl := Option.some.inj H
            obtain ⟨hcz17_0, hcz17_1, hfz17_0, hfz17_1⟩ := cf2 BK260.out
            go_wp2_with (first | ((with_reducible refine gate_callee (f := 35) rfl ?_); refine goesL_ (some 30) rfl rfl Try.func35 (by kernel_rfl) rfl #[.agg #[.int .i64 a0_0, .slice A0_1 l0_1.length c0_1]] rfl ga ?_; (with_reducible refine (impl_ChampionOf.calls kj2 a0_0 _ _ l0_1 t263 _ ?side1 ?side2 A15.out).mono ?_); (case side1 => exact ck (Kd.C_below HR0_1.out HB.out)); (case side2 => exact HC0_1.out); rintro e w18 ⟨rfl, hb⟩; refine ⟨_, rfl, ?_⟩; replace BK260 := Aside0.mk (bb BK260.out hb); replace HB := Aside0.mk (below_step bel hb); (try clear hb)))
            go_ret
            exact ⟨er, bel⟩
          · rw [if_neg c16] at H
            have c16b0 : (t263 == a1) = false := beq_eq_false_iff_ne.mpr c16
            have c16b1 : (t263 != a1) = true := bne_iff_ne.mpr c16
            obtain rfl := Option.some.inj H
            obtain ⟨hcz19_0, hcz19_1, hfz19_0, hfz19_1⟩ := cf2 BK260.out
            go_wp2_with (first | ((with_reducible refine gate_callee (f := 35) rfl ?_); refine goesL_ (some 30) rfl rfl Try.func35 (by kernel_rfl) rfl #[.agg #[.int .i64 a0_0, .slice A0_1 l0_1.length c0_1]] rfl ga ?_; (with_reducible refine (impl_ChampionOf.calls kj2 a0_0 _ _ l0_1 t263 _ ?side1 ?side2 A15.out).mono ?_); (case side1 => exact ck (Kd.C_below HR0_1.out HB.out)); (case side2 => exact HC0_1.out); rintro e w20 ⟨rfl, hb⟩; refine ⟨_, rfl, ?_⟩; replace BK260 := Aside0.mk (bb BK260.out hb); replace HB := Aside0.mk (below_step bel hb); (try clear hb)))
            go_ret
            exact ⟨er, bel⟩
        · rw [if_neg c14] at H
          have c14b0 : ((l0_1.length : Int) == (wrap64 (a0_0 - 1))) = false := beq_eq_false_iff_ne.mpr c14
          have c14b1 : ((l0_1.length : Int) != (wrap64 (a0_0 - 1))) = true := bne_iff_ne.mpr c14
          replace H := Option.bind_eq_some_iff.mp H
          obtain ⟨⟨t264, t265, t266⟩, A210, H⟩ := H
          replace H : ((impl_WinGame.f kj2 a0_0 l0_1 t264).bind fun bt267 => ((impl_WinGame.f kj2 a0_0 l0_1 t265).bind fun bt273 => ((impl_WaysToWin.f kj2 bt267.1 bt267.2.1 a1).bind fun t279 => ((impl_WaysToWin.f kj2 bt273.1 bt273.2.1 a1).bind fun t280 => (some (wrap64 (t279 + t280))))))) = some r := H
          have A21 := Aside0.mk A210
          clear A210
          replace H := Option.bind_eq_some_iff.mp H
          obtain ⟨⟨t267, t268, t271⟩, A220, H⟩ := H
          replace H : ((impl_WinGame.f kj2 a0_0 l0_1 t265).bind fun bt273 => ((impl_WaysToWin.f kj2 t267 t268 a1).bind fun t279 => ((impl_WaysToWin.f kj2 bt273.1 bt273.2.1 a1).bind fun t280 => (some (wrap64 (t279 + t280)))))) = some r := H
          have A22 := Aside0.mk A220
          clear A220
          replace H := Option.bind_eq_some_iff.mp H
          obtain ⟨⟨t273, t274, t277⟩, A230, H⟩ := H
          replace H : ((impl_WaysToWin.f kj2 t267 t268 a1).bind fun t279 => ((impl_WaysToWin.f kj2 t273 t274 a1).bind fun t280 => (some (wrap64 (t279 + t280))))) = some r := H
          have A23 := Aside0.mk A230
          clear A230
          replace H := Option.bind_eq_some_iff.mp H
          obtain ⟨t279, A240, H⟩ := H
          replace H : ((impl_WaysToWin.f kj2 t273 t274 a1).bind fun t280 => (some (wrap64 (t279 + t280)))) = some r := H
          have A24 := Aside0.mk A240
          clear A240
          replace H := Option.bind_eq_some_iff.mp H
          obtain ⟨t280, A250, H⟩ := H
          replace H : (some (wrap64 (t279 + t280))) = some r := H
          have A25 := Aside0.mk A250
          clear A250
          obtain rfl := Option.some.inj H
          obtain ⟨hcz26_0, hcz26_1, hfz26_0, hfz26_1⟩ := cf2 BK260.out
          try go_wp2_with (first | ((with_reducible refine gate_callee (f := 30) rfl ?_); refine goesL_ (some 38) rfl rfl Try.func30 (by kernel_rfl) rfl #[.agg #[.int .i64 a0_0, .slice A0_1 l0_1.length c0_1], .int .i64 (l0_1.length : Int)] rfl ga ?_; (with_reducible refine (impl_OpponentsOf.calls kj2 a0_0 _ _ l0_1 (l0_1.length : Int) t264 t265 t266 _ ?side1 ?side2 A21.out).mono ?_); (case side1 => exact ck (Kd.C_below HR0_1.out HB.out)); (case side2 => exact HC0_1.out); rintro e w27 ⟨rfl, hb⟩; refine ⟨_, rfl, ?_⟩; replace BK260 := Aside0.mk (bb BK260.out hb); replace HB := Aside0.mk (below_step bel hb); (try clear hb); obtain ⟨hcz28_0, hcz28_1, hfz28_0, hfz28_1⟩ := cf2 BK260.out) | ((with_reducible refine gate_callee (f := 37) rfl ?_); refine goesL_ (some 45) rfl rfl Try.func37 (by kernel_rfl) rfl #[.agg #[.int .i64 a0_0, .slice A0_1 l0_1.length c0_1], .int .i64 t264] rfl ga ?_; (with_reducible refine (impl_WinGame.calls kj2 a0_0 _ _ l0_1 t264 t267 t268 t271 _ ?side1 ?side2 A22.out).mono ?_); (case side1 => exact ck (Kd.C_below HR0_1.out HB.out)); (case side2 => exact HC0_1.out); rintro e w29 ⟨v269, rfl, ho0, hb⟩; refine ⟨_, rfl, ?_⟩; have HO270 := Aside0.mk (Kd.R_lower ho0 (below_size bel)); replace BK260 := Aside0.mk (bb BK260.out hb); replace HB := Aside0.mk (below_step bel hb); (try clear hb); (try clear ho0)) | ((with_reducible refine gate_dst (N := 8) rfl ?_); refine box_event ?hg (N := 8) ?hd (cs := #[.int .i64 0, .slice none 0 0]) (t := 36) ?hr ?_; (case hd => rfl); (case hg => rfl); (case hr => first | (go_simp; done) | (go_simp; rfl)); intro gb272 hg w30 hbox hb; have BK272 := Aside0.mk (hbox); have GW272 := Aside0.mk ((bsz hg : w.heap.size ≤ gb272)); have GE272 := Aside0.mk ((bsz hg : w.heap.size ≤ gb272)); have NB260_272 := Aside0.mk ((nlt hg BK260.out : gb260 ≠ gb272)); have NB272_260 := Aside0.mk ((ngt hg BK260.out : gb272 ≠ gb260)); replace HO270 := Aside0.mk (Kd.R_below (rk HO270.out) hb); replace BK260 := Aside0.mk (bb BK260.out hb); replace HB := Aside0.mk (below_step bel hb); clear hb hbox hg; have hnb31 := NB272_260.out; have hnc31 := NB260_272.out; obtain ⟨hcz32_0, hcz32_1, hfz32_0, hfz32_1⟩ := cf2 BK272.out; obtain ⟨Ao33, co33, eo33⟩ := Kd.R_slice HO270.out; subst eo33; obtain ⟨hcz34_0, hcz34_1, hfz34_0, hfz34_1⟩ := cf2 BK260.out) | ((with_reducible refine gate_callee (f := 37) rfl ?_); refine goesL_ (some 51) rfl rfl Try.func37 (by kernel_rfl) rfl #[.agg #[.int .i64 a0_0, .slice A0_1 l0_1.length c0_1], .int .i64 t265] rfl ga ?_; (with_reducible refine (impl_WinGame.calls kj2 a0_0 _ _ l0_1 t265 t273 t274 t277 _ ?side1 ?side2 A23.out).mono ?_); (case side1 => exact Kd.C_below HR0_1.out bel); (case side2 => exact HC0_1.out); rintro e w35 ⟨v275, rfl, ho0, hb⟩; refine ⟨_, rfl, ?_⟩; have HO276 := Aside0.mk (Kd.R_lower (Kd.R_new' ho0 (Kd.R_lt (by exact rk (Kd.R_mono (Kd.R_far (p := ⟨gb272, 1, none⟩) (Kd.R_far (p := ⟨gb272, 0, none⟩) (Kd.R_types HO270.out BK272.out (by decide)) (fun _ hk => hk.2) (.int .i64 t267)) (fun _ hk => hk.2) (.slice Ao33 t268.length co33)) (fun _ h_ => h_.1))))) (below_size bel)); replace HO270 := Aside0.mk (Kd.R_elder' (by exact rk (Kd.R_mono (Kd.R_far (p := ⟨gb272, 1, none⟩) (Kd.R_far (p := ⟨gb272, 0, none⟩) (Kd.R_types HO270.out BK272.out (by decide)) (fun _ hk => hk.2) (.int .i64 t267)) (fun _ hk => hk.2) (.slice Ao33 t268.length co33)) (fun _ h_ => h_.1))) (Kd.R_base ho0) hb); replace BK260 := Aside0.mk (bb BK260.out hb); replace BK272 := Aside0.mk (blk_below (g := gb272) (o := .cells #[.int .i64 t267, .slice Ao33 t268.length co33] 36 (0, 0)) (by (with_reducible repeat (first | refine blk_drewN ?_ _ | refine blk_drew ?_ | refine blk_alloc ?_ _)); refine blk_put (cs := #[.int .i64 t267, .slice none 0 0]) ?_ 1 _ rfl; (with_reducible repeat (first | refine blk_drewN ?_ _ | refine blk_drew ?_ | refine blk_alloc ?_ _)); refine blk_put (cs := #[.int .i64 0, .slice none 0 0]) ?_ 0 _ rfl; (with_reducible repeat (first | refine blk_drewN ?_ _ | refine blk_drew ?_ | refine blk_alloc ?_ _)); exact BK272.out) hb); replace HB := Aside0.mk (below_step bel hb); (try clear hb); (try clear ho0)) | ((with_reducible refine gate_dst (N := 10) rfl ?_); refine box_event ?hg (N := 10) ?hd (cs := #[.int .i64 0, .slice none 0 0]) (t := 36) ?hr ?_; (case hd => rfl); (case hg => rfl); (case hr => first | (go_simp; done) | (go_simp; rfl)); intro gb278 hg w36 hbox hb; have BK278 := Aside0.mk (hbox); have GW278 := Aside0.mk ((bsz hg : w.heap.size ≤ gb278)); have GE278 := Aside0.mk ((bsz hg : w.heap.size ≤ gb278)); have NB260_278 := Aside0.mk ((nlt hg BK260.out : gb260 ≠ gb278)); have NB278_260 := Aside0.mk ((ngt hg BK260.out : gb278 ≠ gb260)); have NB272_278 := Aside0.mk ((nlt hg BK272.out : gb272 ≠ gb278)); have NB278_272 := Aside0.mk ((ngt hg BK272.out : gb278 ≠ gb272)); replace HO270 := Aside0.mk (Kd.R_below (rk HO270.out) hb); replace HO276 := Aside0.mk (Kd.R_below (rk HO276.out) hb); replace BK260 := Aside0.mk (bb BK260.out hb); replace BK272 := Aside0.mk (bb BK272.out hb); replace HB := Aside0.mk (below_step bel hb); clear hb hbox hg; have hnb37 := NB278_260.out; have hnc37 := NB260_278.out; have hnb38 := NB278_272.out; have hnc38 := NB272_278.out; obtain ⟨hcz39_0, hcz39_1, hfz39_0, hfz39_1⟩ := cf2 BK278.out; obtain ⟨Ao40, co40, eo40⟩ := Kd.R_slice HO276.out; subst eo40))
          have n0_ : Aside0 (Kd.R (Kd.int .i64) 3 ((w36.setCell ⟨gb278, 0, none⟩ (.int .i64 t273)).setCell ⟨gb278, 1, none⟩ (.slice Ao40 t274.length co40)) w.heap.size (fun k_ => some k_ ≠ (.slice Ao40 t274.length co40 : Value).ownBlock) (.slice Ao33 t268.length co33) t268) := ⟨by (with_reducible repeat (first | apply Kd.R_alloc | apply Kd.R_drewN | apply Kd.R_drew)); exact Kd.R_mono (Kd.R_far (p := ⟨gb278, 1, none⟩) (Kd.R_far (p := ⟨gb278, 0, none⟩) (Kd.R_types HO270.out BK278.out (by decide)) (fun _ hk => hk.2) (.int .i64 t273)) (fun _ hk => hk.2) (.slice Ao40 t274.length co40)) (fun _ hk => hk.1.2)⟩
          have n1_ : Aside0 (Kd.R (Kd.int .i64) 3 ((w36.setCell ⟨gb278, 0, none⟩ (.int .i64 t273)).setCell ⟨gb278, 1, none⟩ (.slice Ao40 t274.length co40)) w.heap.size (fun k_ => some k_ ≠ (.slice Ao33 t268.length co33 : Value).ownBlock) (.slice Ao40 t274.length co40) t274) := ⟨by (with_reducible repeat (first | apply Kd.R_alloc | apply Kd.R_drewN | apply Kd.R_drew)); exact Kd.R_mono (Kd.R_far (p := ⟨gb278, 1, none⟩) (Kd.R_far (p := ⟨gb278, 0, none⟩) (Kd.R_types HO276.out BK278.out (by decide)) (fun _ hk => hk.2) (.int .i64 t273)) (fun _ hk => hk.2) (.slice Ao40 t274.length co40)) (fun _ hk => hk.1.2)⟩
          have n2_ : Aside0 (((w36.setCell ⟨gb278, 0, none⟩ (.int .i64 t273)).setCell ⟨gb278, 1, none⟩ (.slice Ao40 t274.length co40)).heap[gb260]? = some (.cells #[.int .i64 a0_0, .slice A0_1 l0_1.length c0_1] 36 (0, 0))) := ⟨bk BK260.out⟩
          have n3_ : Aside0 (((w36.setCell ⟨gb278, 0, none⟩ (.int .i64 t273)).setCell ⟨gb278, 1, none⟩ (.slice Ao40 t274.length co40)).heap[gb272]? = some (.cells #[.int .i64 t267, .slice Ao33 t268.length co33] 36 (0, 0))) := ⟨bk BK272.out⟩
          have n4_ : Aside0 (((w36.setCell ⟨gb278, 0, none⟩ (.int .i64 t273)).setCell ⟨gb278, 1, none⟩ (.slice Ao40 t274.length co40)).heap[gb278]? = some (.cells #[.int .i64 t273, .slice Ao40 t274.length co40] 36 (0, 0))) := ⟨by (with_reducible repeat (first | refine blk_drewN ?_ _ | refine blk_drew ?_ | refine blk_alloc ?_ _)); refine blk_put (cs := #[.int .i64 t273, .slice none 0 0]) ?_ 1 _ rfl; (with_reducible repeat (first | refine blk_drewN ?_ _ | refine blk_drew ?_ | refine blk_alloc ?_ _)); refine blk_put (cs := #[.int .i64 0, .slice none 0 0]) ?_ 0 _ rfl; (with_reducible repeat (first | refine blk_drewN ?_ _ | refine blk_drew ?_ | refine blk_alloc ?_ _)); exact BK278.out⟩
          have n5_ : Aside0 (Below w.heap.size w ((w36.setCell ⟨gb278, 0, none⟩ (.int .i64 t273)).setCell ⟨gb278, 1, none⟩ (.slice Ao40 t274.length co40))) := ⟨bel⟩
          (try clear HO270)
          (try clear HO276)
          (try clear BK260)
          (try clear BK272)
          (try clear BK278)
          (try clear HB)
          generalize ((w36.setCell ⟨gb278, 0, none⟩ (.int .i64 t273)).setCell ⟨gb278, 1, none⟩ (.slice Ao40 t274.length co40)) = w41 at n0_ n1_ n2_ n3_ n4_ n5_ ⊢
          have HO270 := n0_
          have HO276 := n1_
          have BK260 := n2_
          have BK272 := n3_
          have BK278 := n4_
          have HB := n5_
          clear n0_ n1_ n2_ n3_ n4_ n5_
          replace HO270 := Aside0.mk (Kd.R_drew HO270.out)
          replace HO276 := Aside0.mk (Kd.R_drew HO276.out)
          replace BK260 := Aside0.mk (blk_drew BK260.out)
          replace BK272 := Aside0.mk (blk_drew BK272.out)
          replace BK278 := Aside0.mk (blk_drew BK278.out)
          replace HB := Aside0.mk (below_drew1 HB.out)
          refine start_ (n := 8) (S := fun w' => w'.cell? ⟨gb272, 0, none⟩ = some (.int .i64 t267) ∧ w'.cell? ⟨gb272, 1, none⟩ = some (.slice Ao33 t268.length co33) ∧ w'.cell? ⟨gb278, 0, none⟩ = some (.int .i64 t273) ∧ w'.cell? ⟨gb278, 1, none⟩ = some (.slice Ao40 t274.length co40)) (ds := []) #[false, false, false, false, false, false, false, false] (by kernel_rfl) rfl rfl ⟨(blk_cell BK272.out 0).trans rfl, (blk_cell BK272.out 1).trans rfl, (blk_cell BK278.out 0).trans rfl, (blk_cell BK278.out 1).trans rfl⟩ (fun hHeld => ?_); refine with_tabW impl_WaysToWin.tab10 impl_WaysToWin.bits10 (fun HT_ HW_ => ?_)
          generalize w41.drew = w42 at HO270 HO276 BK260 BK272 BK278 HB hHeld ⊢
          refine pure_ (i := 1) (N := some 55) (v := ?_) (a' := ?_) #[false, true, false, false, false, false, false, false] rfl rfl (any_of HT_.out (by kernel_rfl)) (fun _ _ _ h => h) (Or.inl ⟨by rfl, ?_⟩) ?_ ?_
          rotate_left
          · intro w'
            go_simp
            with_reducible rfl
          rotate_left
          · simp only [Act.put, List.setIfInBounds_toArray, List.set_cons_zero, List.set_cons_succ, i64_w, i32_w]
            rfl
          refine pure_ (i := 4) (N := some 58) (v := ?_) (a' := ?_) #[false, true, false, false, true, false, false, false] rfl rfl (any_of HT_.out (by kernel_rfl)) (fun _ _ _ h => h) (Or.inl ⟨by rfl, ?_⟩) ?_ ?_
          rotate_left
          · intro w'
            go_simp
            with_reducible rfl
          rotate_left
          · simp only [Act.put, List.setIfInBounds_toArray, List.set_cons_zero, List.set_cons_succ, i64_w, i32_w]
            rfl
          refine take_ (i := 0) (N := some 54) (v := ?_) (a' := ?_) #[true, true, false, false, true, false, false, false] rfl rfl (take_ofW HT_.out HW_.out (by kernel_rfl)) (fun _ _ _ h => h) (Or.inl ⟨by rfl, ?_⟩) hHeld ?_ ?_
          rotate_left
          · rintro w' ⟨s0, s1, s2, s3⟩
            go_simp
            with_reducible rfl
          rotate_left
          · simp only [Act.put, List.setIfInBounds_toArray, List.set_cons_zero, List.set_cons_succ, i64_w, i32_w]
            rfl
          refine take_ (i := 3) (N := some 57) (v := ?_) (a' := ?_) #[true, true, false, true, true, false, false, false] rfl rfl (take_ofW HT_.out HW_.out (by kernel_rfl)) (fun _ _ _ h => h) (Or.inl ⟨by rfl, ?_⟩) hHeld ?_ ?_
          rotate_left
          · rintro w' ⟨s0, s1, s2, s3⟩
            go_simp
            with_reducible rfl
          rotate_left
          · simp only [Act.put, List.setIfInBounds_toArray, List.set_cons_zero, List.set_cons_succ, i64_w, i32_w]
            rfl
          refine one_ (i := 2) (N := some 56) #[true, true, true, true, true, false, false, false] rfl rfl (one_of HT_.out (by kernel_rfl)) (by decide) (fun K hK => ?_)
          refine goes_ Try.func43 (by kernel_rfl) rfl #[.agg #[.int .i64 t267, .slice Ao33 t268.length co33], .int .i64 a1] (by rfl) rfl rfl ga ?_
          with_reducible refine (ih kj2 (by have := HJ2.out; omega) t267 _ _ t268 a1 t279 _ ?side1 ?side2 A24.out).mono ?_
          (case side1 => exact ck (Kd.R_reads' HO270.out).2.2)
          (case side2 => exact (Kd.R_reads' HO270.out).2.1)
          rintro e w43 ⟨rfl, hb⟩
          refine ⟨_, rfl, ?_⟩
          replace HO270 := Aside0.mk (Kd.R_below (rk HO270.out) hb)
          replace HO276 := Aside0.mk (Kd.R_below (rk HO276.out) hb)
          replace BK260 := Aside0.mk (bb BK260.out hb)
          replace BK272 := Aside0.mk (bb BK272.out hb)
          replace BK278 := Aside0.mk (bb BK278.out hb)
          replace HB := Aside0.mk (below_step bel hb)
          (try clear hb)
          (try clear hb2)
          (try clear hk)
          (try clear hi)
          refine hK.out _ _ ⟨(blk_cell BK272.out 0).trans rfl, (blk_cell BK272.out 1).trans rfl, (blk_cell BK278.out 0).trans rfl, (blk_cell BK278.out 1).trans rfl⟩ (fun hHeld => ?_)
          clear hK K
          refine norm_ (a' := ?_) ?_ ?_
          rotate_left
          · show Act.put _ (some 56) _ = _
            simp only [Act.put, List.setIfInBounds_toArray, List.set_cons_zero, List.set_cons_succ, i64_w, i32_w]
            rfl
          refine one_ (i := 5) (N := some 59) #[true, true, true, true, true, true, false, false] rfl rfl (one_of HT_.out (by kernel_rfl)) (by decide) (fun K hK => ?_)
          refine goes_ Try.func43 (by kernel_rfl) rfl #[.agg #[.int .i64 t273, .slice Ao40 t274.length co40], .int .i64 a1] (by rfl) rfl rfl ga ?_
          with_reducible refine (ih kj2 (by have := HJ2.out; omega) t273 _ _ t274 a1 t280 _ ?side1 ?side2 A25.out).mono ?_
          (case side1 => exact ck (Kd.R_reads' HO276.out).2.2)
          (case side2 => exact (Kd.R_reads' HO276.out).2.1)
          rintro e w44 ⟨rfl, hb⟩
          refine ⟨_, rfl, ?_⟩
          replace HO270 := Aside0.mk (Kd.R_below (rk HO270.out) hb)
          replace HO276 := Aside0.mk (Kd.R_below (rk HO276.out) hb)
          replace BK260 := Aside0.mk (bb BK260.out hb)
          replace BK272 := Aside0.mk (bb BK272.out hb)
          replace BK278 := Aside0.mk (bb BK278.out hb)
          replace HB := Aside0.mk (below_step bel hb)
          (try clear hb)
          (try clear hb2)
          (try clear hk)
          (try clear hi)
          refine hK.out _ _ ⟨(blk_cell BK272.out 0).trans rfl, (blk_cell BK272.out 1).trans rfl, (blk_cell BK278.out 0).trans rfl, (blk_cell BK278.out 1).trans rfl⟩ (fun hHeld => ?_)
          clear hK K
          refine norm_ (a' := ?_) ?_ ?_
          rotate_left
          · show Act.put _ (some 59) _ = _
            simp only [Act.put, List.setIfInBounds_toArray, List.set_cons_zero, List.set_cons_succ, i64_w, i32_w]
            rfl
          refine pure_ (i := 6) (N := some 60) (v := ?_) (a' := ?_) #[true, true, true, true, true, true, true, false] rfl rfl (any_of HT_.out (by kernel_rfl)) (fun _ _ _ h => h) (Or.inl ⟨by rfl, ?_⟩) ?_ ?_
          rotate_left
          · intro w'
            go_simp
            with_reducible rfl
          rotate_left
          · simp only [Act.put, List.setIfInBounds_toArray, List.set_cons_zero, List.set_cons_succ, i64_w, i32_w]
            rfl
          refine pure_ (i := 7) (N := some 4) (v := ?_) (a' := ?_) #[true, true, true, true, true, true, true, true] rfl rfl (any_of HT_.out (by kernel_rfl)) (fun _ _ _ h => h) (Or.inl ⟨by rfl, ?_⟩) ?_ ?_
          rotate_left
          · intro w'
            go_simp
            with_reducible rfl
          rotate_left
          · simp only [Act.put, List.setIfInBounds_toArray, List.set_cons_zero, List.set_cons_succ, i64_w, i32_w]
            rfl
          refine done_ (done_of HT_.out (by kernel_rfl)) ?_
          try go_wp2
          go_ret
          exact ⟨er, bel⟩

end Go.Proofs.Ytpacmpppiphfjaa.X
