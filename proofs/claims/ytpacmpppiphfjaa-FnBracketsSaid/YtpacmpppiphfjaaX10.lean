-- Written by a program of this session (wip/xp.py, over the kit's print) out of the translation: functions, and the walks that show them.
import Derived.Test.YtpacmpppiphfjaaX0
import Derived.Test.YtpacmpppiphfjaaX8
import Derived.Test.YtpacmpppiphfjaaX9
namespace Go.Proofs.Ytpacmpppiphfjaa.X
open Go.RowKit Go.Proofs.YtpacmpppiphfjaaW.PrintWords Go.Proofs.YtpacmpppiphfjaaW.PrintLast Go.Proofs.YtpacmpppiphfjaaW.PrintMore
attribute [local go_sem] max2_int min2_int max_two min_two max_three min_three max_four min_four   -- for this text's walks alone
set_option linter.unusedVariables false
set_option linter.unusedSimpArgs false

/-! ### impl_OpponentsOf: function 30 -/
mutual
def impl_OpponentsOf.j0 : Nat → Int → Bool → Int → List Int → Option (Int × Int × Bool)
  | 0, _, _, _, _ => none
  | k + 1, x1, x23, x220000, x220001 => if x23 = true then (some (0, 0, false)) else (if x1 < (wrap64 (Int.tdiv x220000 2)) then ((impl_BracketOf.f k x220000).bind fun t222 => (if 0 ≤ (wrap64 (2 * x1)) then (if (wrap64 (2 * x1)) < (t222.length : Int) then (if 0 ≤ (wrap64 ((wrap64 (2 * x1)) + 1)) then (if (wrap64 ((wrap64 (2 * x1)) + 1)) < (t222.length : Int) then (some (rd t222 (wrap64 (2 * x1)), rd t222 (wrap64 ((wrap64 (2 * x1)) + 1)), true)) else (none)) else (none)) else (none)) else (none))) else (impl_OpponentsOf.l0 k x1 0 (wrap64 (Int.tdiv x220000 2)) (wrap64 (Int.tdiv x220000 2)) x220000 x220001))
def impl_OpponentsOf.l0 : Nat → Int → Int → Int → Int → Int → List Int → Option (Int × Int × Bool)
  | 0, _, _, _, _, _, _ => none
  | k + 1, x1, x8, x9, x10, x220000, x220001 => if x1 ≥ (wrap64 (x9 + (wrap64 (Int.tdiv x10 2)))) then (impl_OpponentsOf.l0 k x1 x9 (wrap64 (x9 + (wrap64 (Int.tdiv x10 2)))) (wrap64 (Int.tdiv x10 2)) x220000 x220001) else (if (wrap64 ((wrap64 (x8 + (wrap64 (2 * (wrap64 (x1 - x9)))))) + 1)) ≥ (x220001.length : Int) then (some (0, 0, false)) else (if 0 ≤ (wrap64 (x8 + (wrap64 (2 * (wrap64 (x1 - x9)))))) then (if (wrap64 (x8 + (wrap64 (2 * (wrap64 (x1 - x9)))))) < (x220001.length : Int) then (if 0 ≤ (wrap64 ((wrap64 (x8 + (wrap64 (2 * (wrap64 (x1 - x9)))))) + 1)) then (if (wrap64 ((wrap64 (x8 + (wrap64 (2 * (wrap64 (x1 - x9)))))) + 1)) < (x220001.length : Int) then (some (rd x220001 (wrap64 (x8 + (wrap64 (2 * (wrap64 (x1 - x9)))))), rd x220001 (wrap64 ((wrap64 (x8 + (wrap64 (2 * (wrap64 (x1 - x9)))))) + 1)), true)) else (none)) else (none)) else (none)) else (none)))
end
def impl_OpponentsOf.f (k : Nat) (a0_0 : Int) (l0_1 : List Int) (a1 : Int) : Option (Int × Int × Bool) := (impl_CupSizeOk.f a0_0).bind fun t220 => (if t220 = true then ((impl_within.f a1 0 (wrap64 (a0_0 - 2))).bind fun t221 => (impl_OpponentsOf.j0 k a1 (!t221) a0_0 l0_1)) else (impl_OpponentsOf.j0 k a1 true a0_0 l0_1))
theorem impl_OpponentsOf.mono_l : ∀ k, (∀ y0 y1 y2 y3, LeO (impl_OpponentsOf.j0 k y0 y1 y2 y3) (impl_OpponentsOf.j0 (k + 1) y0 y1 y2 y3)) ∧ (∀ y0 y1 y2 y3 y4 y5, LeO (impl_OpponentsOf.l0 k y0 y1 y2 y3 y4 y5) (impl_OpponentsOf.l0 (k + 1) y0 y1 y2 y3 y4 y5))
  | 0 => ⟨fun _ _ _ _ r h => by simp [impl_OpponentsOf.j0] at h, fun _ _ _ _ _ _ r h => by simp [impl_OpponentsOf.l0] at h⟩
  | k + 1 => by
    obtain ⟨ih0, ih1⟩ := impl_OpponentsOf.mono_l k
    refine ⟨?_, ?_⟩
    · intro y0 y1 y2 y3
      unfold impl_OpponentsOf.j0
      repeat' first
      | (with_reducible exact ih0 _ _ _ _)
      | (with_reducible exact ih1 _ _ _ _ _ _)
      | (with_reducible exact impl_BracketOf.mono _ _)
      | (with_reducible exact LeO.refl _)
      | (with_reducible exact LeO.none _)
      | (with_reducible refine LeO.ite ?_ ?_)
      | (with_reducible refine LeO.bind ?_ (fun _ => ?_))
      | exact ih0 _ _ _ _
      | exact ih1 _ _ _ _ _ _
      | exact impl_BracketOf.mono _ _
      | exact LeO.none _
      | refine LeO.ite ?_ ?_
      | refine LeO.bind ?_ (fun _ => ?_)
    · intro y0 y1 y2 y3 y4 y5
      unfold impl_OpponentsOf.l0
      repeat' first
      | (with_reducible exact ih0 _ _ _ _)
      | (with_reducible exact ih1 _ _ _ _ _ _)
      | (with_reducible exact impl_BracketOf.mono _ _)
      | (with_reducible exact LeO.refl _)
      | (with_reducible exact LeO.none _)
      | (with_reducible refine LeO.ite ?_ ?_)
      | (with_reducible refine LeO.bind ?_ (fun _ => ?_))
      | exact ih0 _ _ _ _
      | exact ih1 _ _ _ _ _ _
      | exact impl_BracketOf.mono _ _
      | exact LeO.none _
      | refine LeO.ite ?_ ?_
      | refine LeO.bind ?_ (fun _ => ?_)
theorem impl_OpponentsOf.mono : ∀ a0 a1 a2 k, LeO (impl_OpponentsOf.f k a0 a1 a2) (impl_OpponentsOf.f (k + 1) a0 a1 a2) := by
  intro a0 a1 a2 k
  obtain ⟨ih0, ih1⟩ := impl_OpponentsOf.mono_l k
  unfold impl_OpponentsOf.f
  repeat' first
      | (with_reducible exact ih0 _ _ _ _)
      | (with_reducible exact ih1 _ _ _ _ _ _)
      | (with_reducible exact impl_BracketOf.mono _ _)
      | (with_reducible exact LeO.refl _)
      | (with_reducible exact LeO.none _)
      | (with_reducible refine LeO.ite ?_ ?_)
      | (with_reducible refine LeO.bind ?_ (fun _ => ?_))
      | exact ih0 _ _ _ _
      | exact ih1 _ _ _ _ _ _
      | exact impl_BracketOf.mono _ _
      | exact LeO.none _
      | refine LeO.ite ?_ ?_
      | refine LeO.bind ?_ (fun _ => ?_)
set_option maxHeartbeats 8000000 in
set_option maxRecDepth 100000 in
theorem impl_OpponentsOf.calls (k : Nat) (a0_0 : Int) (A0_1 : Option Addr) (c0_1 : Nat) (l0_1 : List Int) (a1 : Int) (r1 : Int) (r2 : Int) (r3 : Bool) (w : World) (hr0_1 : Kd.C (Kd.int .i64) w A0_1 l0_1.length l0_1) (hc0_1 : l0_1.length ≤ c0_1) (h : impl_OpponentsOf.f k a0_0 l0_1 a1 = some (r1, r2, r3)) :
    Calls Try.prog 30 #[.agg #[.int .i64 a0_0, .slice A0_1 l0_1.length c0_1], .int .i64 a1] w fun e w' => e = .returned (.tuple #[.int .i64 r1, .int .i64 r2, .bool r3]) ∧ Below w.heap.size w w' := by
  have hu36 := Try.underlying36
  have HR0_1 := Aside0.mk hr0_1
  have HC0_1 := Aside0.mk hc0_1
  clear hr0_1 hc0_1
  have HB := Aside0.mk (Below.refl w.heap.size w)
  have H : ((impl_CupSizeOk.f a0_0).bind fun t220 => (if t220 = true then ((impl_within.f a1 0 (wrap64 (a0_0 - 2))).bind fun t221 => (impl_OpponentsOf.j0 k a1 (!t221) a0_0 l0_1)) else (impl_OpponentsOf.j0 k a1 true a0_0 l0_1))) = some (r1, r2, r3) := h
  clear h
  have HC3 := Aside0.mk H
  clear H
  go_enter Try.func30, Try.ntmps30
  go_upto_region 1 with (first | ((with_reducible refine gate_dst (N := 2) rfl ?_); refine box_event ?hg (N := 2) ?hd (cs := #[.int .i64 a0_0, .slice A0_1 l0_1.length c0_1]) (t := 36) ?hr ?_; (case hd => rfl); (case hg => rfl); (case hr => first | (go_simp; done) | (go_simp; rfl)); intro gb219 hg w4 hbox hb; have BK219 := Aside0.mk (hbox); have GW219 := Aside0.mk ((bsz hg : w.heap.size ≤ gb219)); have GE219 := Aside0.mk ((bsz hg : w.heap.size ≤ gb219)); replace HB := Aside0.mk (below_step bel hb); clear hb hbox hg))
  repeat (go_quiet (first | ((with_reducible refine gate_dst (N := 2) rfl ?_); refine box_event ?hg (N := 2) ?hd (cs := #[.int .i64 a0_0, .slice A0_1 l0_1.length c0_1]) (t := 36) ?hr ?_; (case hd => rfl); (case hg => rfl); (case hr => first | (go_simp; done) | (go_simp; rfl)); intro gb219 hg w4 hbox hb; have BK219 := Aside0.mk (hbox); have GW219 := Aside0.mk ((bsz hg : w.heap.size ≤ gb219)); have GE219 := Aside0.mk ((bsz hg : w.heap.size ≤ gb219)); replace HB := Aside0.mk (below_step bel hb); clear hb hbox hg)); go_upto_region 1 with (first | ((with_reducible refine gate_dst (N := 2) rfl ?_); refine box_event ?hg (N := 2) ?hd (cs := #[.int .i64 a0_0, .slice A0_1 l0_1.length c0_1]) (t := 36) ?hr ?_; (case hd => rfl); (case hg => rfl); (case hr => first | (go_simp; done) | (go_simp; rfl)); intro gb219 hg w4 hbox hb; have BK219 := Aside0.mk (hbox); have GW219 := Aside0.mk ((bsz hg : w.heap.size ≤ gb219)); have GE219 := Aside0.mk ((bsz hg : w.heap.size ≤ gb219)); replace HB := Aside0.mk (below_step bel hb); clear hb hbox hg)))
  (try simp only [Act.put, List.setIfInBounds_toArray, List.set_cons_zero, List.set_cons_succ])
  go_cut [23] (fun v23 wc => ∃ (kq : Nat) (x23_2 : Bool), v23 = .bool x23_2 ∧ Aside0 (impl_OpponentsOf.j0 kq a1 x23_2 a0_0 l0_1 = some (r1, r2, r3)) ∧ Aside0 (kq ≤ k) ∧ Aside0 (wc.heap[gb219]? = some (.cells #[.int .i64 a0_0, (.slice A0_1 l0_1.length c0_1)] 36 (0, 0))) ∧ Aside0 (Below w.heap.size w wc))
  case first =>
    have H := HC3.out
    clear HC3
    replace H := Option.bind_eq_some_iff.mp H
    obtain ⟨t220, A50, H⟩ := H
    replace H : (if t220 = true then ((impl_within.f a1 0 (wrap64 (a0_0 - 2))).bind fun t221 => (impl_OpponentsOf.j0 k a1 (!t221) a0_0 l0_1)) else (impl_OpponentsOf.j0 k a1 true a0_0 l0_1)) = some (r1, r2, r3) := H
    have A5 := Aside0.mk A50
    clear A50
    by_cases c6 : t220 = true
    · subst c6
      have H1 : ((impl_within.f a1 0 (wrap64 (a0_0 - 2))).bind fun t221 => (impl_OpponentsOf.j0 k a1 (!t221) a0_0 l0_1)) = some (r1, r2, r3) := by rw [if_pos rfl] at H; exact H
      clear H
      have H := H1
      clear H1
      replace H := Option.bind_eq_some_iff.mp H
      obtain ⟨t221, A70, H⟩ := H
      replace H : (impl_OpponentsOf.j0 k a1 (!t221) a0_0 l0_1) = some (r1, r2, r3) := H
      have A7 := Aside0.mk A70
      clear A70
      have H' := Aside0.mk H
      clear H
      obtain ⟨hcz8_0, hcz8_1, hfz8_0, hfz8_1⟩ := cf2 BK219.out
      go_wp2_with (first | (go_at_call 15; (with_reducible refine (impl_CupSizeOk.calls a0_0 true _ A5.out).mono ?_); rintro e w' ⟨rfl, ⟨nd, rfl⟩⟩; (try first | exact ⟨rfl, _, World.drewN_drewN _ _ _⟩ | exact ⟨rfl, _, Eq.trans (World.drewN_drewN _ _ _) (congrArg (World.drewN _) (Nat.add_assoc _ _ _))⟩)) | (go_at_call 46; (with_reducible refine (impl_within.calls a1 0 (wrap64 (a0_0 - 2)) t221 _ A7.out).mono ?_); rintro e w' ⟨rfl, ⟨nd, rfl⟩⟩; (try first | exact ⟨rfl, _, World.drewN_drewN _ _ _⟩ | exact ⟨rfl, _, Eq.trans (World.drewN_drewN _ _ _) (congrArg (World.drewN _) (Nat.add_assoc _ _ _))⟩)))
      repeat (go_quiet (first | (go_at_call 15; (with_reducible refine (impl_CupSizeOk.calls a0_0 true _ A5.out).mono ?_); rintro e w' ⟨rfl, ⟨nd, rfl⟩⟩; (try first | exact ⟨rfl, _, World.drewN_drewN _ _ _⟩ | exact ⟨rfl, _, Eq.trans (World.drewN_drewN _ _ _) (congrArg (World.drewN _) (Nat.add_assoc _ _ _))⟩)) | (go_at_call 46; (with_reducible refine (impl_within.calls a1 0 (wrap64 (a0_0 - 2)) t221 _ A7.out).mono ?_); rintro e w' ⟨rfl, ⟨nd, rfl⟩⟩; (try first | exact ⟨rfl, _, World.drewN_drewN _ _ _⟩ | exact ⟨rfl, _, Eq.trans (World.drewN_drewN _ _ _) (congrArg (World.drewN _) (Nat.add_assoc _ _ _))⟩))); try go_wp2_with (first | (go_at_call 15; (with_reducible refine (impl_CupSizeOk.calls a0_0 true _ A5.out).mono ?_); rintro e w' ⟨rfl, ⟨nd, rfl⟩⟩; (try first | exact ⟨rfl, _, World.drewN_drewN _ _ _⟩ | exact ⟨rfl, _, Eq.trans (World.drewN_drewN _ _ _) (congrArg (World.drewN _) (Nat.add_assoc _ _ _))⟩)) | (go_at_call 46; (with_reducible refine (impl_within.calls a1 0 (wrap64 (a0_0 - 2)) t221 _ A7.out).mono ?_); rintro e w' ⟨rfl, ⟨nd, rfl⟩⟩; (try first | exact ⟨rfl, _, World.drewN_drewN _ _ _⟩ | exact ⟨rfl, _, Eq.trans (World.drewN_drewN _ _ _) (congrArg (World.drewN _) (Nat.add_assoc _ _ _))⟩))))
      go_meet
      case rel => exact ⟨_, (!t221), (es), H', ⟨by first | omega | exact Nat.le_refl _⟩, ⟨bk BK219.out⟩, ⟨bel⟩⟩
    · replace c6 := Bool.eq_false_iff.mpr c6
      subst c6
      have H1 : (impl_OpponentsOf.j0 k a1 true a0_0 l0_1) = some (r1, r2, r3) := by rw [if_neg (show ¬ (false = true) by decide)] at H; exact H
      clear H
      have H := H1
      clear H1
      have H' := Aside0.mk H
      clear H
      obtain ⟨hcz9_0, hcz9_1, hfz9_0, hfz9_1⟩ := cf2 BK219.out
      go_wp2_with (first | (go_at_call 15; (with_reducible refine (impl_CupSizeOk.calls a0_0 false _ A5.out).mono ?_); rintro e w' ⟨rfl, ⟨nd, rfl⟩⟩; (try first | exact ⟨rfl, _, World.drewN_drewN _ _ _⟩ | exact ⟨rfl, _, Eq.trans (World.drewN_drewN _ _ _) (congrArg (World.drewN _) (Nat.add_assoc _ _ _))⟩)))
      repeat (go_quiet (first | (go_at_call 15; (with_reducible refine (impl_CupSizeOk.calls a0_0 false _ A5.out).mono ?_); rintro e w' ⟨rfl, ⟨nd, rfl⟩⟩; (try first | exact ⟨rfl, _, World.drewN_drewN _ _ _⟩ | exact ⟨rfl, _, Eq.trans (World.drewN_drewN _ _ _) (congrArg (World.drewN _) (Nat.add_assoc _ _ _))⟩))); try go_wp2_with (first | (go_at_call 15; (with_reducible refine (impl_CupSizeOk.calls a0_0 false _ A5.out).mono ?_); rintro e w' ⟨rfl, ⟨nd, rfl⟩⟩; (try first | exact ⟨rfl, _, World.drewN_drewN _ _ _⟩ | exact ⟨rfl, _, Eq.trans (World.drewN_drewN _ _ _) (congrArg (World.drewN _) (Nat.add_assoc _ _ _))⟩))))
      go_meet
      case rel => exact ⟨_, (true), (es), H', ⟨by first | omega | exact Nat.le_refl _⟩, ⟨bk BK219.out⟩, ⟨bel⟩⟩
  case rest =>
    clear HC3
    try clear p2; try clear c3; try clear c6; try clear p6; try clear hcz8_0; try clear hcz8_1; try clear hcz9_0; try clear hcz9_1; try clear hfz8_0; try clear hfz8_1; try clear hfz9_0; try clear hfz9_1
    obtain ⟨kq, x23_2, rfl, HA, HJ2, BK219, HB⟩ := hcut
    cases kq with
    | zero => exact absurd HA.out (by simp [impl_OpponentsOf.j0])
    | succ kj2 =>
      have H := HA.out
      clear HA
      simp only [impl_OpponentsOf.j0] at H
      by_cases c10 : x23_2 = true
      · subst c10
        have H1 : (some (0, 0, false)) = some (r1, r2, r3) := by rw [if_pos rfl] at H; exact H
        clear H
        have H := H1
        clear H1
        simp only [Option.some.injEq, Prod.mk.injEq] at H
        obtain ⟨rfl, rfl, rfl⟩ := H
        go_wp2
        repeat (go_quiet (fail); try go_wp2)
        go_ret3
        exact ⟨er, bel⟩
      · replace c10 := Bool.eq_false_iff.mpr c10
        subst c10
        have H1 : (if a1 < (wrap64 (Int.tdiv a0_0 2)) then ((impl_BracketOf.f kj2 a0_0).bind fun t222 => (if 0 ≤ (wrap64 (2 * a1)) then (if (wrap64 (2 * a1)) < (t222.length : Int) then (if 0 ≤ (wrap64 ((wrap64 (2 * a1)) + 1)) then (if (wrap64 ((wrap64 (2 * a1)) + 1)) < (t222.length : Int) then (some (rd t222 (wrap64 (2 * a1)), rd t222 (wrap64 ((wrap64 (2 * a1)) + 1)), true)) else (none)) else (none)) else (none)) else (none))) else (impl_OpponentsOf.l0 kj2 a1 0 (wrap64 (Int.tdiv a0_0 2)) (wrap64 (Int.tdiv a0_0 2)) a0_0 l0_1)) = some (r1, r2, r3) := by rw [if_neg (show ¬ (false = true) by decide)] at H; exact H
        clear H
        have H := H1
        clear H1
        by_cases c11 : a1 < (wrap64 (Int.tdiv a0_0 2))
        · rw [if_pos c11] at H
          have c11b0 : decide (a1 < (wrap64 (Int.tdiv a0_0 2))) = true := decide_eq_true c11
          clear c11
          replace H := Option.bind_eq_some_iff.mp H
          obtain ⟨t222, A120, H⟩ := H
          replace H : (if 0 ≤ (wrap64 (2 * a1)) then (if (wrap64 (2 * a1)) < (t222.length : Int) then (if 0 ≤ (wrap64 ((wrap64 (2 * a1)) + 1)) then (if (wrap64 ((wrap64 (2 * a1)) + 1)) < (t222.length : Int) then (some (rd t222 (wrap64 (2 * a1)), rd t222 (wrap64 ((wrap64 (2 * a1)) + 1)), true)) else (none)) else (none)) else (none)) else (none)) = some (r1, r2, r3) := H
          have A12 := Aside0.mk A120
          clear A120
          obtain ⟨ji13, hji13⟩ : ∃ j_ : Int, (wrap64 (2 * a1)) = j_ := ⟨_, rfl⟩
          replace H : (if 0 ≤ (ji13) then (if (ji13) < (t222.length : Int) then (if 0 ≤ (wrap64 ((ji13) + 1)) then (if (wrap64 ((ji13) + 1)) < (t222.length : Int) then (some (rd t222 (ji13), rd t222 (wrap64 ((ji13) + 1)), true)) else (none)) else (none)) else (none)) else (none)) = some (r1, r2, r3) := by first | (rw [hji13] at H; exact H) | (simp only [hji13] at H ⊢; exact H)
          (try rw [hji13] at A12)
          have hji13w : (IntKind.i64.wrap (2 * a1)) = ji13 := (i64_w _).trans hji13
          (try rw [hji13] at c11b0)
          by_cases c14 : 0 ≤ (ji13)
          · rw [if_pos c14] at H
            have c14b0 : decide (0 ≤ (ji13)) = true := decide_eq_true c14
            clear c14
            by_cases c15 : (ji13) < (t222.length : Int)
            · rw [if_pos c15] at H
              have c15b0 : decide ((ji13) < (t222.length : Int)) = true := decide_eq_true c15
              clear c15
              obtain ⟨ji16, hji16⟩ : ∃ j_ : Int, (wrap64 ((ji13) + 1)) = j_ := ⟨_, rfl⟩
              replace H : (if 0 ≤ (ji16) then (if (ji16) < (t222.length : Int) then (some (rd t222 (ji13), rd t222 (ji16), true)) else (none)) else (none)) = some (r1, r2, r3) := by first | (rw [hji16] at H; exact H) | (simp only [hji16] at H ⊢; exact H)
              (try rw [hji16] at A12)
              have hji16w : (IntKind.i64.wrap ((ji13) + 1)) = ji16 := (i64_w _).trans hji16
              (try rw [hji16] at c11b0)
              by_cases c17 : 0 ≤ (ji16)
              · rw [if_pos c17] at H
                have c17b0 : decide (0 ≤ (ji16)) = true := decide_eq_true c17
                clear c17
                by_cases c18 : (ji16) < (t222.length : Int)
                · rw [if_pos c18] at H
                  have c18b0 : decide ((ji16) < (t222.length : Int)) = true := decide_eq_true c18
                  clear c18
                  simp only [Option.some.injEq, Prod.mk.injEq] at H
                  obtain ⟨rfl, rfl, rfl⟩ := H
                  obtain ⟨hcz19_0, hcz19_1, hfz19_0, hfz19_1⟩ := cf2 BK219.out
                  go_wp2_with (first | (go_at_call 21; (with_reducible refine (impl_BracketOf.calls kj2 a0_0 t222 _ A12.out).mono ?_); rintro e w20 ⟨v223, rfl, ho0, hb⟩; have HO224 := Aside0.mk (Kd.R_lower ho0 (below_size bel)); replace BK219 := Aside0.mk (bb BK219.out hb); replace HB := Aside0.mk (below_step bel hb); (try clear hb); (try clear hb2); (try clear hk); (try clear hi); (try clear ho0); obtain ⟨Ao21, co21, eo21⟩ := Kd.R_slice HO224.out; subst eo21; have p225 : 0 ≤ ((ji13) : Int) := asm; have q225 : (ji13) < (t222.length : Int) := asm; obtain ⟨ad225, e225, hx225_0⟩ := Kd.at_int (Kd.R_reads' HO224.out).2.2 (ji13) p225 q225; cases e225; replace p225 := eq_true p225; replace q225 := eq_true q225; have p226 : 0 ≤ ((ji16) : Int) := asm; have q226 : (ji16) < (t222.length : Int) := asm; obtain ⟨ad226, e226, hx226_0⟩ := Kd.at_int (Kd.R_reads' HO224.out).2.2 (ji16) p226 q226; obtain rfl : ad225 = ad226 := (by injection e226); replace p226 := eq_true p226; replace q226 := eq_true q226))
                  repeat (go_quiet (first | (go_at_call 21; (with_reducible refine (impl_BracketOf.calls kj2 a0_0 t222 _ A12.out).mono ?_); rintro e w20 ⟨v223, rfl, ho0, hb⟩; have HO224 := Aside0.mk (Kd.R_lower ho0 (below_size bel)); replace BK219 := Aside0.mk (bb BK219.out hb); replace HB := Aside0.mk (below_step bel hb); (try clear hb); (try clear hb2); (try clear hk); (try clear hi); (try clear ho0); obtain ⟨Ao21, co21, eo21⟩ := Kd.R_slice HO224.out; subst eo21; have p225 : 0 ≤ ((ji13) : Int) := asm; have q225 : (ji13) < (t222.length : Int) := asm; obtain ⟨ad225, e225, hx225_0⟩ := Kd.at_int (Kd.R_reads' HO224.out).2.2 (ji13) p225 q225; cases e225; replace p225 := eq_true p225; replace q225 := eq_true q225; have p226 : 0 ≤ ((ji16) : Int) := asm; have q226 : (ji16) < (t222.length : Int) := asm; obtain ⟨ad226, e226, hx226_0⟩ := Kd.at_int (Kd.R_reads' HO224.out).2.2 (ji16) p226 q226; obtain rfl : ad225 = ad226 := (by injection e226); replace p226 := eq_true p226; replace q226 := eq_true q226)); try go_wp2_with (first | (go_at_call 21; (with_reducible refine (impl_BracketOf.calls kj2 a0_0 t222 _ A12.out).mono ?_); rintro e w20 ⟨v223, rfl, ho0, hb⟩; have HO224 := Aside0.mk (Kd.R_lower ho0 (below_size bel)); replace BK219 := Aside0.mk (bb BK219.out hb); replace HB := Aside0.mk (below_step bel hb); (try clear hb); (try clear hb2); (try clear hk); (try clear hi); (try clear ho0); obtain ⟨Ao21, co21, eo21⟩ := Kd.R_slice HO224.out; subst eo21; have p225 : 0 ≤ ((ji13) : Int) := asm; have q225 : (ji13) < (t222.length : Int) := asm; obtain ⟨ad225, e225, hx225_0⟩ := Kd.at_int (Kd.R_reads' HO224.out).2.2 (ji13) p225 q225; cases e225; replace p225 := eq_true p225; replace q225 := eq_true q225; have p226 : 0 ≤ ((ji16) : Int) := asm; have q226 : (ji16) < (t222.length : Int) := asm; obtain ⟨ad226, e226, hx226_0⟩ := Kd.at_int (Kd.R_reads' HO224.out).2.2 (ji16) p226 q226; obtain rfl : ad225 = ad226 := (by injection e226); replace p226 := eq_true p226; replace q226 := eq_true q226)))
                  go_ret3
                  exact ⟨by first | rfl | (simp [errW_none, errW_some] <;> rfl) | (simp only [← hji13, ← hji16]; first | rfl | (simp [errW_none, errW_some] <;> rfl)) | (simp [*, errW_none, errW_some] <;> rfl), bel⟩
                · rw [if_neg c18] at H
                  exact absurd H (by simp)
              · rw [if_neg c17] at H
                exact absurd H (by simp)
            · rw [if_neg c15] at H
              exact absurd H (by simp)
          · rw [if_neg c14] at H
            exact absurd H (by simp)
        · rw [if_neg c11] at H
          have c11b0 : decide (a1 < (wrap64 (Int.tdiv a0_0 2))) = false := decide_eq_false c11
          clear c11
          have H' := Aside0.mk H
          clear H
          obtain ⟨hcz22_0, hcz22_1, hfz22_0, hfz22_1⟩ := cf2 BK219.out
          go_wp2
          repeat (go_quiet (fail); try go_wp2)
          go_loopg [8, 9, 10] kj2 (fun kq v8 v9 v10 w' => ∃ (x8_2 : Int) (x9_2 : Int) (x10_2 : Int), v8 = .int .i64 x8_2 ∧ v9 = .int .i64 x9_2 ∧ v10 = .int .i64 x10_2 ∧ Aside0 (impl_OpponentsOf.l0 kq a1 x8_2 x9_2 x10_2 a0_0 l0_1 = some (r1, r2, r3)) ∧ Aside0 (kq ≤ kj2) ∧ Aside0 (w'.heap[gb219]? = some (.cells #[.int .i64 a0_0, (.slice A0_1 l0_1.length c0_1)] 36 (0, 0))) ∧ Aside0 (Below w.heap.size w w'))
          case atStart => exact ⟨(0), (wrap64 (Int.tdiv a0_0 2)), (wrap64 (Int.tdiv a0_0 2)), (es), (es), (es), H', ⟨Nat.le_refl _⟩, ⟨bk BK219.out⟩, ⟨bel⟩⟩
          case round =>
            clear H'
            try clear c1; try clear p2; try clear q2; try clear hx2; try clear c3; try clear c6; try clear p6; try clear c10; try clear c11; try clear c11b0; try clear c14; try clear c14b0; try clear c15; try clear c15b0; try clear c17; try clear c17b0; try clear c18; try clear c18b0; try clear p22; try clear q22; try clear hx22; try clear hcz19_0; try clear hcz19_1; try clear hcz22_0; try clear hcz22_1; try clear hcz8_0; try clear hcz8_1; try clear hcz9_0; try clear hcz9_1; try clear hfz19_0; try clear hfz19_1; try clear hfz22_0; try clear hfz22_1; try clear hfz8_0; try clear hfz8_1; try clear hfz9_0; try clear hfz9_1; try clear hx225_0; try clear hx226_0; try clear p2; try clear p225; try clear p226; try clear p6; try clear q225; try clear q226
            obtain ⟨x8_2, x9_2, x10_2, rfl, rfl, rfl, HA, HK2, BK219, HB⟩ := hrel
            cases gk with
            | zero => exact absurd HA.out (by simp [impl_OpponentsOf.l0])
            | succ k2 =>
              have H := HA.out
              clear HA
              simp only [impl_OpponentsOf.l0] at H
              by_cases c23 : a1 ≥ (wrap64 (x9_2 + (wrap64 (Int.tdiv x10_2 2))))
              · rw [if_pos c23] at H
                have c23b0 : decide ((wrap64 (x9_2 + (wrap64 (Int.tdiv x10_2 2)))) ≤ a1) = true := decide_eq_true c23
                clear c23
                have H' := Aside0.mk H
                clear H
                go_wp2
                repeat (go_quiet (fail); try go_wp2)
                go_roundg k2
                case measure => have := HJ2.out; have := HK2.out; omega
                case rel => exact ⟨(x9_2), (wrap64 (x9_2 + (wrap64 (Int.tdiv x10_2 2)))), (wrap64 (Int.tdiv x10_2 2)), (es), (es), (es), H', ⟨by have := HJ2.out; have := HK2.out; omega⟩, ⟨bk BK219.out⟩, ⟨bel⟩⟩
              · rw [if_neg c23] at H
                have c23b0 : decide ((wrap64 (x9_2 + (wrap64 (Int.tdiv x10_2 2)))) ≤ a1) = false := decide_eq_false c23
                clear c23
                by_cases c24 : (wrap64 ((wrap64 (x8_2 + (wrap64 (2 * (wrap64 (a1 - x9_2)))))) + 1)) ≥ (l0_1.length : Int)
                · rw [if_pos c24] at H
                  have c24b0 : decide ((l0_1.length : Int) ≤ (wrap64 ((wrap64 (x8_2 + (wrap64 (2 * (wrap64 (a1 - x9_2)))))) + 1))) = true := decide_eq_true c24
                  clear c24
                  simp only [Option.some.injEq, Prod.mk.injEq] at H
                  obtain ⟨rfl, rfl, rfl⟩ := H
                  obtain ⟨hcz25_0, hcz25_1, hfz25_0, hfz25_1⟩ := cf2 BK219.out
                  go_wp2
                  repeat (go_quiet (fail); try go_wp2)
                  go_ret3
                  exact ⟨er, bel⟩
                · rw [if_neg c24] at H
                  have c24b0 : decide ((l0_1.length : Int) ≤ (wrap64 ((wrap64 (x8_2 + (wrap64 (2 * (wrap64 (a1 - x9_2)))))) + 1))) = false := decide_eq_false c24
                  clear c24
                  obtain ⟨ji26, hji26⟩ : ∃ j_ : Int, (wrap64 (x8_2 + (wrap64 (2 * (wrap64 (a1 - x9_2)))))) = j_ := ⟨_, rfl⟩
                  replace H : (if 0 ≤ (ji26) then (if (ji26) < (l0_1.length : Int) then (if 0 ≤ (wrap64 ((ji26) + 1)) then (if (wrap64 ((ji26) + 1)) < (l0_1.length : Int) then (some (rd l0_1 (ji26), rd l0_1 (wrap64 ((ji26) + 1)), true)) else (none)) else (none)) else (none)) else (none)) = some (r1, r2, r3) := by first | (rw [hji26] at H; exact H) | (simp only [hji26] at H ⊢; exact H)
                  (try rw [hji26] at c24b0)
                  have hji26w : (IntKind.i64.wrap (x8_2 + (wrap64 (2 * (wrap64 (a1 - x9_2)))))) = ji26 := (i64_w _).trans hji26
                  (try rw [hji26] at c11b0)
                  (try rw [hji26] at c11b0)
                  (try rw [hji26] at c23b0)
                  (try rw [hji26] at c23b0)
                  (try rw [hji26] at c24b0)
                  (try rw [hji26] at c24b0)
                  by_cases c27 : 0 ≤ (ji26)
                  · rw [if_pos c27] at H
                    have c27b0 : decide (0 ≤ (ji26)) = true := decide_eq_true c27
                    clear c27
                    by_cases c28 : (ji26) < (l0_1.length : Int)
                    · rw [if_pos c28] at H
                      have c28b0 : decide ((ji26) < (l0_1.length : Int)) = true := decide_eq_true c28
                      clear c28
                      obtain ⟨ji29, hji29⟩ : ∃ j_ : Int, (wrap64 ((ji26) + 1)) = j_ := ⟨_, rfl⟩
                      replace H : (if 0 ≤ (ji29) then (if (ji29) < (l0_1.length : Int) then (some (rd l0_1 (ji26), rd l0_1 (ji29), true)) else (none)) else (none)) = some (r1, r2, r3) := by first | (rw [hji29] at H; exact H) | (simp only [hji29] at H ⊢; exact H)
                      have hji29w : (IntKind.i64.wrap ((ji26) + 1)) = ji29 := (i64_w _).trans hji29
                      (try rw [hji29] at c11b0)
                      (try rw [hji29] at c11b0)
                      (try rw [hji29] at c23b0)
                      (try rw [hji29] at c23b0)
                      (try rw [hji29] at c24b0)
                      (try rw [hji29] at c24b0)
                      by_cases c30 : 0 ≤ (ji29)
                      · rw [if_pos c30] at H
                        have c30b0 : decide (0 ≤ (ji29)) = true := decide_eq_true c30
                        clear c30
                        by_cases c31 : (ji29) < (l0_1.length : Int)
                        · rw [if_pos c31] at H
                          have c31b0 : decide ((ji29) < (l0_1.length : Int)) = true := decide_eq_true c31
                          clear c31
                          simp only [Option.some.injEq, Prod.mk.injEq] at H
                          obtain ⟨rfl, rfl, rfl⟩ := H
                          obtain ⟨hcz32_0, hcz32_1, hfz32_0, hfz32_1⟩ := cf2 BK219.out
                          have p227 : 0 ≤ ((ji26) : Int) := asm
                          have q227 : (ji26) < (l0_1.length : Int) := asm
                          obtain ⟨ad227, e227, hx227_0⟩ := Kd.at_int HR0_1.out (ji26) p227 q227
                          cases e227
                          replace hx227_0 := hcl HB.out hx227_0
                          replace p227 := eq_true p227
                          replace q227 := eq_true q227
                          have p228 : 0 ≤ ((ji29) : Int) := asm
                          have q228 : (ji29) < (l0_1.length : Int) := asm
                          obtain ⟨ad228, e228, hx228_0⟩ := Kd.at_int HR0_1.out (ji29) p228 q228
                          obtain rfl : ad227 = ad228 := (by injection e228)
                          replace hx228_0 := hcl HB.out hx228_0
                          replace p228 := eq_true p228
                          replace q228 := eq_true q228
                          go_wp2
                          repeat (go_quiet (fail); try go_wp2)
                          go_ret3
                          exact ⟨by first | rfl | (simp [errW_none, errW_some] <;> rfl) | (simp only [← hji26, ← hji29]; first | rfl | (simp [errW_none, errW_some] <;> rfl)) | (simp [*, errW_none, errW_some] <;> rfl), bel⟩
                        · rw [if_neg c31] at H
                          exact absurd H (by simp)
                      · rw [if_neg c30] at H
                        exact absurd H (by simp)
                    · rw [if_neg c28] at H
                      exact absurd H (by simp)
                  · rw [if_neg c27] at H
                    exact absurd H (by simp)

end Go.Proofs.Ytpacmpppiphfjaa.X
