-- Written by a program of this session (wip/xp.py, over the kit's print) out of the translation: functions, and the walks that show them.
import Derived.Test.YtaopcamaceddnaaY0
import Derived.Test.YtaopcamaceddnaaY19
namespace Go.Proofs.Ytaopcamaceddnaa.Y
open Go.RowKit Go.Proofs.YtaopcamaceddnaaW.PrintWords Go.Proofs.YtaopcamaceddnaaW.PrintLast Go.Proofs.YtaopcamaceddnaaW.PrintMore
attribute [local go_sem] max2_int min2_int max_two min_two max_three min_three max_four min_four   -- for this text's walks alone
set_option linter.unusedVariables false
set_option linter.unusedSimpArgs false

/-! ### spec_ContestsOk: function 13 -/
mutual
def spec_ContestsOk.j0 : Nat → Int → List (S38) → Bool → Option (Bool)
  | 0, _, _, _ => none
  | k + 1, x0, x1, x16 => if x16 = true then (some false) else (spec_ContestsOk.l0 k x0 x1 x1 (x1.length : Int) 0)
def spec_ContestsOk.l0 : Nat → Int → List (S38) → List (S38) → Int → Int → Option (Bool)
  | 0, _, _, _, _, _ => none
  | k + 1, x0, x1, x17, x18, x19 => if x19 < x18 then (if 0 ≤ x19 then (if x19 < (x17.length : Int) then (spec_ContestsOk.l1 k x0 x1 x19 x17 x18 x19 ((rd_T38 x17 x19).f0) (((rd_T38 x17 x19).f0).length : Int) 0 ((rd_T38 x17 x19).f0) ((rd_T38 x17 x19).f1) ((rd_T38 x17 x19).f2)) else (none)) else (none)) else (some true)
def spec_ContestsOk.l1 : Nat → Int → List (S38) → Int → List (S38) → Int → Int → List Int → Int → Int → List Int → Int → Int → Option (Bool)
  | 0, _, _, _, _, _, _, _, _, _, _, _, _ => none
  | k + 1, x0, x1, x5, x17, x18, x19, x25, x26, x27, x348000, x348001, x348002 => if x27 < x26 then (if 0 ≤ x27 then (if x27 < (x25.length : Int) then ((spec_l01In.f (rd x25 x27) 0 (wrap64 (x0 - 1))).bind fun t349 => (if t349 = true then (if x27 ≤ (x348000.length : Int) then ((spec_l02Has.f k (x348000.take (x27 : Int).toNat) (rd x25 x27)).bind fun t351 => (if t351 = true then (some false) else (spec_ContestsOk.l1 k x0 x1 x5 x17 x18 x19 x25 x26 (wrap64 (x27 + 1)) x348000 x348001 x348002))) else (none)) else (some false))) else (none)) else (none)) else ((spec_l01In.f x348001 0 8).bind fun t352 => (if t352 = true then (if x348002 = (-1) then (spec_ContestsOk.l0 k x0 x1 x17 x18 (wrap64 (x19 + 1))) else ((spec_l01In.f x348002 (wrap64 (x5 + 1)) (wrap64 ((x1.length : Int) - 1))).bind fun t353 => (if t353 = true then (spec_ContestsOk.l0 k x0 x1 x17 x18 (wrap64 (x19 + 1))) else (some false)))) else (some false)))
end
def spec_ContestsOk.f (k : Nat) (a0 : Int) (l1 : List (S38)) : Option (Bool) := (spec_l01In.f a0 2 8).bind fun t345 => (if t345 = true then (spec_ContestsOk.j0 k a0 l1 (decide ((l1.length : Int) > 5))) else (spec_ContestsOk.j0 k a0 l1 true))
theorem spec_ContestsOk.mono_l : ∀ k, (∀ y0 y1 y2, LeO (spec_ContestsOk.j0 k y0 y1 y2) (spec_ContestsOk.j0 (k + 1) y0 y1 y2)) ∧ (∀ y0 y1 y2 y3 y4, LeO (spec_ContestsOk.l0 k y0 y1 y2 y3 y4) (spec_ContestsOk.l0 (k + 1) y0 y1 y2 y3 y4)) ∧ (∀ y0 y1 y2 y3 y4 y5 y6 y7 y8 y9 y10 y11, LeO (spec_ContestsOk.l1 k y0 y1 y2 y3 y4 y5 y6 y7 y8 y9 y10 y11) (spec_ContestsOk.l1 (k + 1) y0 y1 y2 y3 y4 y5 y6 y7 y8 y9 y10 y11))
  | 0 => ⟨fun _ _ _ r h => by simp [spec_ContestsOk.j0] at h, fun _ _ _ _ _ r h => by simp [spec_ContestsOk.l0] at h, fun _ _ _ _ _ _ _ _ _ _ _ _ r h => by simp [spec_ContestsOk.l1] at h⟩
  | k + 1 => by
    obtain ⟨ih0, ih1, ih2⟩ := spec_ContestsOk.mono_l k
    refine ⟨?_, ?_, ?_⟩
    · intro y0 y1 y2
      unfold spec_ContestsOk.j0
      repeat' first
      | (with_reducible exact ih0 _ _ _)
      | (with_reducible exact ih1 _ _ _ _ _)
      | (with_reducible exact ih2 _ _ _ _ _ _ _ _ _ _ _ _)
      | (with_reducible exact spec_l02Has.mono _ _ _)
      | (with_reducible exact LeO.refl _)
      | (with_reducible exact LeO.none _)
      | (with_reducible refine LeO.ite ?_ ?_)
      | (with_reducible refine LeO.bind ?_ (fun _ => ?_))
      | exact ih0 _ _ _
      | exact ih1 _ _ _ _ _
      | exact ih2 _ _ _ _ _ _ _ _ _ _ _ _
      | exact spec_l02Has.mono _ _ _
      | exact LeO.none _
      | refine LeO.ite ?_ ?_
      | refine LeO.bind ?_ (fun _ => ?_)
    · intro y0 y1 y2 y3 y4
      unfold spec_ContestsOk.l0
      repeat' first
      | (with_reducible exact ih0 _ _ _)
      | (with_reducible exact ih1 _ _ _ _ _)
      | (with_reducible exact ih2 _ _ _ _ _ _ _ _ _ _ _ _)
      | (with_reducible exact spec_l02Has.mono _ _ _)
      | (with_reducible exact LeO.refl _)
      | (with_reducible exact LeO.none _)
      | (with_reducible refine LeO.ite ?_ ?_)
      | (with_reducible refine LeO.bind ?_ (fun _ => ?_))
      | exact ih0 _ _ _
      | exact ih1 _ _ _ _ _
      | exact ih2 _ _ _ _ _ _ _ _ _ _ _ _
      | exact spec_l02Has.mono _ _ _
      | exact LeO.none _
      | refine LeO.ite ?_ ?_
      | refine LeO.bind ?_ (fun _ => ?_)
    · intro y0 y1 y2 y3 y4 y5 y6 y7 y8 y9 y10 y11
      unfold spec_ContestsOk.l1
      repeat' first
      | (with_reducible exact ih0 _ _ _)
      | (with_reducible exact ih1 _ _ _ _ _)
      | (with_reducible exact ih2 _ _ _ _ _ _ _ _ _ _ _ _)
      | (with_reducible exact spec_l02Has.mono _ _ _)
      | (with_reducible exact LeO.refl _)
      | (with_reducible exact LeO.none _)
      | (with_reducible refine LeO.ite ?_ ?_)
      | (with_reducible refine LeO.bind ?_ (fun _ => ?_))
      | exact ih0 _ _ _
      | exact ih1 _ _ _ _ _
      | exact ih2 _ _ _ _ _ _ _ _ _ _ _ _
      | exact spec_l02Has.mono _ _ _
      | exact LeO.none _
      | refine LeO.ite ?_ ?_
      | refine LeO.bind ?_ (fun _ => ?_)
theorem spec_ContestsOk.mono : ∀ a0 a1 k, LeO (spec_ContestsOk.f k a0 a1) (spec_ContestsOk.f (k + 1) a0 a1) := by
  intro a0 a1 k
  obtain ⟨ih0, ih1, ih2⟩ := spec_ContestsOk.mono_l k
  unfold spec_ContestsOk.f
  repeat' first
      | (with_reducible exact ih0 _ _ _)
      | (with_reducible exact ih1 _ _ _ _ _)
      | (with_reducible exact ih2 _ _ _ _ _ _ _ _ _ _ _ _)
      | (with_reducible exact spec_l02Has.mono _ _ _)
      | (with_reducible exact LeO.refl _)
      | (with_reducible exact LeO.none _)
      | (with_reducible refine LeO.ite ?_ ?_)
      | (with_reducible refine LeO.bind ?_ (fun _ => ?_))
      | exact ih0 _ _ _
      | exact ih1 _ _ _ _ _
      | exact ih2 _ _ _ _ _ _ _ _ _ _ _ _
      | exact spec_l02Has.mono _ _ _
      | exact LeO.none _
      | refine LeO.ite ?_ ?_
      | refine LeO.bind ?_ (fun _ => ?_)
set_option maxHeartbeats 8000000 in
set_option maxRecDepth 100000 in
theorem spec_ContestsOk.calls (k : Nat) (a0 : Int) (A1 : Option Addr) (c1 : Nat) (l1 : List (S38)) (r : Bool) (w : World) (hr1 : Kd.C k38 w A1 l1.length l1) (hc1 : l1.length ≤ c1) (h : spec_ContestsOk.f k a0 l1 = some r) :
    Calls Try.prog 13 #[.int .i64 a0, .slice A1 l1.length c1] w fun e w' => e = .returned (.bool r) ∧ Below w.heap.size w w' := by
  have hu38 := Try.underlying38
  have HR1 := Aside0.mk hr1
  have HC1 := Aside0.mk hc1
  clear hr1 hc1
  have HB := Aside0.mk (Below.refl w.heap.size w)
  have H : ((spec_l01In.f a0 2 8).bind fun t345 => (if t345 = true then (spec_ContestsOk.j0 k a0 l1 (decide ((l1.length : Int) > 5))) else (spec_ContestsOk.j0 k a0 l1 true))) = some r := h
  clear h
  have HC3 := Aside0.mk H
  clear H
  go_enter Try.func13, Try.ntmps13
  go_upto_region 1 with (fail)
  go_cut [16] (fun v16 wc => ∃ (kq : Nat) (x16_2 : Bool), v16 = .bool x16_2 ∧ Aside0 (spec_ContestsOk.j0 kq a0 l1 x16_2 = some r) ∧ Aside0 (kq ≤ k) ∧ Aside0 (Below w.heap.size w wc))
  case first =>
    have H := HC3.out
    clear HC3
    replace H := Option.bind_eq_some_iff.mp H
    obtain ⟨t345, A40, H⟩ := H
    replace H : (if t345 = true then (spec_ContestsOk.j0 k a0 l1 (decide ((l1.length : Int) > 5))) else (spec_ContestsOk.j0 k a0 l1 true)) = some r := H
    have A4 := Aside0.mk A40
    clear A40
    by_cases c5 : t345 = true
    · subst c5
      have H1 : (spec_ContestsOk.j0 k a0 l1 (decide ((l1.length : Int) > 5))) = some r := by rw [if_pos rfl] at H; exact H
      clear H
      have H := H1
      clear H1
      have H' := Aside0.mk H
      clear H
      go_wp2_with (first | ((with_reducible refine gate_callee (f := 39) rfl ?_); refine goesL_ (some 10) rfl rfl Try.func39 (by kernel_rfl) rfl #[.int .i64 a0, .int .i64 2, .int .i64 8] rfl ga ?_; (with_reducible refine (spec_l01In.calls a0 2 8 true _ A4.out).mono ?_); rintro e w' ⟨rfl, ⟨nd, rfl⟩⟩; refine ⟨_, rfl, ?_⟩))
      go_meet
      case rel => exact ⟨_, (decide ((l1.length : Int) > 5)), (es), H', ⟨by first | omega | exact Nat.le_refl _⟩, ⟨bel⟩⟩
    · replace c5 := Bool.eq_false_iff.mpr c5
      subst c5
      have H1 : (spec_ContestsOk.j0 k a0 l1 true) = some r := by rw [if_neg (show ¬ (false = true) by decide)] at H; exact H
      clear H
      have H := H1
      clear H1
      have H' := Aside0.mk H
      clear H
      go_wp2_with (first | ((with_reducible refine gate_callee (f := 39) rfl ?_); refine goesL_ (some 10) rfl rfl Try.func39 (by kernel_rfl) rfl #[.int .i64 a0, .int .i64 2, .int .i64 8] rfl ga ?_; (with_reducible refine (spec_l01In.calls a0 2 8 false _ A4.out).mono ?_); rintro e w' ⟨rfl, ⟨nd, rfl⟩⟩; refine ⟨_, rfl, ?_⟩))
      go_meet
      case rel => exact ⟨_, (true), (es), H', ⟨by first | omega | exact Nat.le_refl _⟩, ⟨bel⟩⟩
  case rest =>
    clear HC3
    try clear c1; try clear p2; try clear c3; try clear c5
    obtain ⟨kq, x16_2, rfl, HA, HJ2, HB⟩ := hcut
    cases kq with
    | zero => exact absurd HA.out (by simp [spec_ContestsOk.j0])
    | succ kj2 =>
      have H := HA.out
      clear HA
      simp only [spec_ContestsOk.j0] at H
      by_cases c6 : x16_2 = true
      · subst c6
        have H1 : (some false) = some r := by rw [if_pos rfl] at H; exact H
        clear H
        have H := H1
        clear H1
        obtain rfl := Option.some.inj H
        go_wp2
        go_ret
        exact ⟨er, bel⟩
      · replace c6 := Bool.eq_false_iff.mpr c6
        subst c6
        have H1 : (spec_ContestsOk.l0 kj2 a0 l1 l1 (l1.length : Int) 0) = some r := by rw [if_neg (show ¬ (false = true) by decide)] at H; exact H
        clear H
        have H := H1
        clear H1
        have H' := Aside0.mk H
        clear H
        go_wp2
        go_loopg [19] kj2 (fun kq v19 w' => ∃ (x19_2 : Int), v19 = .int .i64 x19_2 ∧ Aside0 (spec_ContestsOk.l0 kq a0 l1 l1 (l1.length : Int) x19_2 = some r) ∧ Aside0 (kq ≤ kj2) ∧ Aside0 (Below w.heap.size w w'))
        case atStart => exact ⟨(0), (es), H', ⟨Nat.le_refl _⟩, ⟨bel⟩⟩
        case round =>
          clear H'
          try clear c1; try clear p2; try clear c3; try clear c5; try clear c6; try clear p2
          obtain ⟨x19_2, rfl, HA, HK2, HB⟩ := hrel
          cases gk with
          | zero => exact absurd HA.out (by simp [spec_ContestsOk.l0])
          | succ k2 =>
            have H := HA.out
            clear HA
            simp only [spec_ContestsOk.l0] at H
            by_cases c7 : x19_2 < (l1.length : Int)
            · rw [if_pos c7] at H
              have c7b0 : decide (x19_2 < (l1.length : Int)) = true := decide_eq_true c7
              clear c7
              by_cases c8 : 0 ≤ x19_2
              · rw [if_pos c8] at H
                have c8b0 : decide (0 ≤ x19_2) = true := decide_eq_true c8
                clear c8
                by_cases c9 : x19_2 < (l1.length : Int)
                · rw [if_pos c9] at H
                  have c9b0 : decide (x19_2 < (l1.length : Int)) = true := decide_eq_true c9
                  clear c9
                  have H' := Aside0.mk H
                  clear H
                  have p346 : 0 ≤ (x19_2 : Int) := asm
                  have q346 : x19_2 < (l1.length : Int) := asm
                  obtain ⟨ad346, A346_0, c346_0, e346, hx346_0, hx346_1, hx346_2, hl346_0, hi346_0⟩ := at_T38 HR1.out x19_2 p346 q346
                  cases e346
                  replace hx346_0 := hcl HB.out hx346_0
                  replace hx346_1 := hcl HB.out hx346_1
                  replace hx346_2 := hcl HB.out hx346_2
                  have HR346_0 := Aside0.mk hi346_0
                  have HC346_0 := Aside0.mk hl346_0
                  clear hi346_0 hl346_0
                  replace p346 := eq_true p346
                  replace q346 := eq_true q346
                  go_wp2_with (first | ((with_reducible refine gate_dst (N := 6) rfl ?_); refine box_event ?hg (N := 6) ?hd (cs := #[.slice none 0 0, .int .i64 0, .int .i64 0]) (t := 38) ?hr ?_; (case hd => rfl); (case hg => rfl); (case hr => first | (go_simp; done) | (go_simp; rfl)); intro gb347 hg w10 hbox hb; have BK347 := Aside0.mk (hbox); have GW347 := Aside0.mk ((bsz hg : w.heap.size ≤ gb347)); have GE347 := Aside0.mk ((bsz hg : w.heap.size ≤ gb347)); replace HB := Aside0.mk (below_step bel hb); clear hb hbox hg; obtain ⟨hcz11_0, hcz11_1, hcz11_2, hfz11_0, hfz11_1, hfz11_2⟩ := cf3 BK347.out))
                  go_loopg [27] k2 (fun kq v27 w' => ∃ (x27_3 : Int), v27 = .int .i64 x27_3 ∧ Aside0 (spec_ContestsOk.l1 kq a0 l1 x19_2 l1 (l1.length : Int) x19_2 ((rd_T38 l1 x19_2).f0) (((rd_T38 l1 x19_2).f0).length : Int) x27_3 ((rd_T38 l1 x19_2).f0) ((rd_T38 l1 x19_2).f1) ((rd_T38 l1 x19_2).f2) = some r) ∧ Aside0 (kq ≤ k2) ∧ Aside0 (w'.heap[gb347]? = some (.cells #[(.slice A346_0 ((rd_T38 l1 x19_2).f0).length c346_0), .int .i64 ((rd_T38 l1 x19_2).f1), .int .i64 ((rd_T38 l1 x19_2).f2)] 38 (0, 0))) ∧ Aside0 (Below w.heap.size w w'))
                  case atStart => exact ⟨(0), (es), H', ⟨Nat.le_refl _⟩, ⟨by (with_reducible repeat (first | refine blk_drewN ?_ _ | refine blk_drew ?_ | refine blk_alloc ?_ _)); refine blk_put (cs := #[.slice A346_0 ((rd_T38 l1 x19_2).f0).length c346_0, .int .i64 ((rd_T38 l1 x19_2).f1), .int .i64 0]) ?_ 2 _ rfl; (with_reducible repeat (first | refine blk_drewN ?_ _ | refine blk_drew ?_ | refine blk_alloc ?_ _)); refine blk_put (cs := #[.slice A346_0 ((rd_T38 l1 x19_2).f0).length c346_0, .int .i64 0, .int .i64 0]) ?_ 1 _ rfl; (with_reducible repeat (first | refine blk_drewN ?_ _ | refine blk_drew ?_ | refine blk_alloc ?_ _)); refine blk_put (cs := #[.slice none 0 0, .int .i64 0, .int .i64 0]) ?_ 0 _ rfl; (with_reducible repeat (first | refine blk_drewN ?_ _ | refine blk_drew ?_ | refine blk_alloc ?_ _)); exact BK347.out⟩, ⟨bel⟩⟩
                  case round =>
                    clear H'
                    try clear c1; try clear p2; try clear c3; try clear p3; try clear q3; try clear hx3; try clear c5; try clear c6; try clear c7; try clear c7b0; try clear c8; try clear c8b0; try clear c9; try clear c9b0; try clear hcz11_0; try clear hcz11_1; try clear hcz11_2; try clear hfz11_0; try clear hfz11_1; try clear hfz11_2; try clear hx346_0; try clear hx346_1; try clear hx346_2; try clear p2; try clear p346; try clear q346
                    obtain ⟨x27_3, rfl, HA, HK3, BK347, HB⟩ := hrel
                    cases gk with
                    | zero => exact absurd HA.out (by simp [spec_ContestsOk.l1])
                    | succ k3 =>
                      have H := HA.out
                      clear HA
                      simp only [spec_ContestsOk.l1] at H
                      by_cases c12 : x27_3 < (((rd_T38 l1 x19_2).f0).length : Int)
                      · rw [if_pos c12] at H
                        have c12b0 : decide (x27_3 < (((rd_T38 l1 x19_2).f0).length : Int)) = true := decide_eq_true c12
                        clear c12
                        by_cases c13 : 0 ≤ x27_3
                        · rw [if_pos c13] at H
                          have c13b0 : decide (0 ≤ x27_3) = true := decide_eq_true c13
                          clear c13
                          by_cases c14 : x27_3 < (((rd_T38 l1 x19_2).f0).length : Int)
                          · rw [if_pos c14] at H
                            have c14b0 : decide (x27_3 < (((rd_T38 l1 x19_2).f0).length : Int)) = true := decide_eq_true c14
                            clear c14
                            replace H := Option.bind_eq_some_iff.mp H
                            obtain ⟨t349, A150, H⟩ := H
                            replace H : (if t349 = true then (if x27_3 ≤ (((rd_T38 l1 x19_2).f0).length : Int) then ((spec_l02Has.f k3 (((rd_T38 l1 x19_2).f0).take (x27_3 : Int).toNat) (rd ((rd_T38 l1 x19_2).f0) x27_3)).bind fun t351 => (if t351 = true then (some false) else (spec_ContestsOk.l1 k3 a0 l1 x19_2 l1 (l1.length : Int) x19_2 ((rd_T38 l1 x19_2).f0) (((rd_T38 l1 x19_2).f0).length : Int) (wrap64 (x27_3 + 1)) ((rd_T38 l1 x19_2).f0) ((rd_T38 l1 x19_2).f1) ((rd_T38 l1 x19_2).f2)))) else (none)) else (some false)) = some r := H
                            have A15 := Aside0.mk A150
                            clear A150
                            by_cases c16 : t349 = true
                            · subst c16
                              have H1 : (if x27_3 ≤ (((rd_T38 l1 x19_2).f0).length : Int) then ((spec_l02Has.f k3 (((rd_T38 l1 x19_2).f0).take (x27_3 : Int).toNat) (rd ((rd_T38 l1 x19_2).f0) x27_3)).bind fun t351 => (if t351 = true then (some false) else (spec_ContestsOk.l1 k3 a0 l1 x19_2 l1 (l1.length : Int) x19_2 ((rd_T38 l1 x19_2).f0) (((rd_T38 l1 x19_2).f0).length : Int) (wrap64 (x27_3 + 1)) ((rd_T38 l1 x19_2).f0) ((rd_T38 l1 x19_2).f1) ((rd_T38 l1 x19_2).f2)))) else (none)) = some r := by rw [if_pos rfl] at H; exact H
                              clear H
                              have H := H1
                              clear H1
                              have c17b0 := eq_true (asm : 0 ≤ x27_3)
                              by_cases c18 : x27_3 ≤ (((rd_T38 l1 x19_2).f0).length : Int)
                              · rw [if_pos c18] at H
                                have c18b0 := eq_true c18
                                have c18b1 : decide (x27_3 ≤ (((rd_T38 l1 x19_2).f0).length : Int)) = true := decide_eq_true c18
                                clear c18
                                replace H := Option.bind_eq_some_iff.mp H
                                obtain ⟨t351, A190, H⟩ := H
                                replace H : (if t351 = true then (some false) else (spec_ContestsOk.l1 k3 a0 l1 x19_2 l1 (l1.length : Int) x19_2 ((rd_T38 l1 x19_2).f0) (((rd_T38 l1 x19_2).f0).length : Int) (wrap64 (x27_3 + 1)) ((rd_T38 l1 x19_2).f0) ((rd_T38 l1 x19_2).f1) ((rd_T38 l1 x19_2).f2))) = some r := H
                                have A19 := Aside0.mk A190
                                clear A190
                                by_cases c20 : t351 = true
                                · subst c20
                                  have H1 : (some false) = some r := by rw [if_pos rfl] at H; exact H
                                  clear H
                                  have H := H1
                                  clear H1
                                  obtain rfl := Option.some.inj H
                                  have p348 : 0 ≤ (x27_3 : Int) := asm
                                  have q348 : x27_3 < (((rd_T38 l1 x19_2).f0).length : Int) := asm
                                  obtain ⟨ad348, e348, hx348_0⟩ := Kd.at_int HR346_0.out x27_3 p348 q348
                                  cases e348
                                  replace hx348_0 := hcl HB.out hx348_0
                                  replace p348 := eq_true p348
                                  replace q348 := eq_true q348
                                  go_wp2_with (first | ((with_reducible refine gate_callee (f := 39) rfl ?_); refine goesL_ (some 35) rfl rfl Try.func39 (by kernel_rfl) rfl #[.int .i64 (rd ((rd_T38 l1 x19_2).f0) x27_3), .int .i64 0, .int .i64 (wrap64 (a0 - 1))] rfl ga ?_; (with_reducible refine (spec_l01In.calls (rd ((rd_T38 l1 x19_2).f0) x27_3) 0 (wrap64 (a0 - 1)) true _ A15.out).mono ?_); rintro e w' ⟨rfl, ⟨nd, rfl⟩⟩; refine ⟨_, rfl, ?_⟩; obtain ⟨hcz21_0, hcz21_1, hcz21_2, hfz21_0, hfz21_1, hfz21_2⟩ := cf3 BK347.out; obtain ⟨i022, hi022, _, hsz22, _⟩ := info_parts info3; obtain ⟨hcut22, hA22, hC22⟩ := print_take_of (P := Try.prog) (Value.int .i64) 0 35 3 .i64 Try.underlying35 hi022 hsz22 (some ad348) c346_0 ((rd_T38 l1 x19_2).f0) x27_3 (asm) (asm) HC346_0.out; have HR350 := Aside0.mk (Kd.C_of_reads (h1 := fun _ => rfl) (hA22 _ (Kd.reads_of_C HR346_0.out))); have HC350 := Aside0.mk hC22; clear hA22 hC22 hi022 hsz22) | (go_at_call 40; (with_reducible refine (spec_l02Has.calls k3 _ _ (((rd_T38 l1 x19_2).f0).take (x27_3 : Int).toNat) (rd ((rd_T38 l1 x19_2).f0) x27_3) true _ ?side1 ?side2 A19.out).mono ?_); (case side1 => exact ck (Kd.C_below HR350.out bel)); (case side2 => exact HC350.out); rintro e w' ⟨rfl, ⟨nd, rfl⟩⟩) | (go_at_call 40; rw [show (x27_3 : Int).toNat = (((rd_T38 l1 x19_2).f0).take (x27_3 : Int).toNat).length from (slen ((rd_T38 l1 x19_2).f0) x27_3 asm).symm]; (with_reducible refine (spec_l02Has.calls k3 _ _ (((rd_T38 l1 x19_2).f0).take (x27_3 : Int).toNat) (rd ((rd_T38 l1 x19_2).f0) x27_3) true _ ?side1 ?side2 A19.out).mono ?_); (case side1 => exact ck (Kd.C_below HR350.out bel)); (case side2 => exact HC350.out); rintro e w' ⟨rfl, ⟨nd, rfl⟩⟩))
                                  go_ret
                                  exact ⟨er, bel⟩
                                · replace c20 := Bool.eq_false_iff.mpr c20
                                  subst c20
                                  have H1 : (spec_ContestsOk.l1 k3 a0 l1 x19_2 l1 (l1.length : Int) x19_2 ((rd_T38 l1 x19_2).f0) (((rd_T38 l1 x19_2).f0).length : Int) (wrap64 (x27_3 + 1)) ((rd_T38 l1 x19_2).f0) ((rd_T38 l1 x19_2).f1) ((rd_T38 l1 x19_2).f2)) = some r := by rw [if_neg (show ¬ (false = true) by decide)] at H; exact H
                                  clear H
                                  have H := H1
                                  clear H1
                                  have H' := Aside0.mk H
                                  clear H
                                  have p348 : 0 ≤ (x27_3 : Int) := asm
                                  have q348 : x27_3 < (((rd_T38 l1 x19_2).f0).length : Int) := asm
                                  obtain ⟨ad348, e348, hx348_0⟩ := Kd.at_int HR346_0.out x27_3 p348 q348
                                  cases e348
                                  replace hx348_0 := hcl HB.out hx348_0
                                  replace p348 := eq_true p348
                                  replace q348 := eq_true q348
                                  go_wp2_with (first | ((with_reducible refine gate_callee (f := 39) rfl ?_); refine goesL_ (some 35) rfl rfl Try.func39 (by kernel_rfl) rfl #[.int .i64 (rd ((rd_T38 l1 x19_2).f0) x27_3), .int .i64 0, .int .i64 (wrap64 (a0 - 1))] rfl ga ?_; (with_reducible refine (spec_l01In.calls (rd ((rd_T38 l1 x19_2).f0) x27_3) 0 (wrap64 (a0 - 1)) true _ A15.out).mono ?_); rintro e w' ⟨rfl, ⟨nd, rfl⟩⟩; refine ⟨_, rfl, ?_⟩; obtain ⟨hcz23_0, hcz23_1, hcz23_2, hfz23_0, hfz23_1, hfz23_2⟩ := cf3 BK347.out; obtain ⟨i024, hi024, _, hsz24, _⟩ := info_parts info3; obtain ⟨hcut24, hA24, hC24⟩ := print_take_of (P := Try.prog) (Value.int .i64) 0 35 3 .i64 Try.underlying35 hi024 hsz24 (some ad348) c346_0 ((rd_T38 l1 x19_2).f0) x27_3 (asm) (asm) HC346_0.out; have HR350 := Aside0.mk (Kd.C_of_reads (h1 := fun _ => rfl) (hA24 _ (Kd.reads_of_C HR346_0.out))); have HC350 := Aside0.mk hC24; clear hA24 hC24 hi024 hsz24) | (go_at_call 40; (with_reducible refine (spec_l02Has.calls k3 _ _ (((rd_T38 l1 x19_2).f0).take (x27_3 : Int).toNat) (rd ((rd_T38 l1 x19_2).f0) x27_3) false _ ?side1 ?side2 A19.out).mono ?_); (case side1 => exact ck (Kd.C_below HR350.out bel)); (case side2 => exact HC350.out); rintro e w' ⟨rfl, ⟨nd, rfl⟩⟩) | (go_at_call 40; rw [show (x27_3 : Int).toNat = (((rd_T38 l1 x19_2).f0).take (x27_3 : Int).toNat).length from (slen ((rd_T38 l1 x19_2).f0) x27_3 asm).symm]; (with_reducible refine (spec_l02Has.calls k3 _ _ (((rd_T38 l1 x19_2).f0).take (x27_3 : Int).toNat) (rd ((rd_T38 l1 x19_2).f0) x27_3) false _ ?side1 ?side2 A19.out).mono ?_); (case side1 => exact ck (Kd.C_below HR350.out bel)); (case side2 => exact HC350.out); rintro e w' ⟨rfl, ⟨nd, rfl⟩⟩))
                                  go_roundg k3
                                  case measure => have := HJ2.out; have := HK2.out; have := HK3.out; omega
                                  case rel => exact ⟨(wrap64 (x27_3 + 1)), (es), H', ⟨by have := HJ2.out; have := HK2.out; have := HK3.out; omega⟩, ⟨bk BK347.out⟩, ⟨bel⟩⟩
                              · rw [if_neg c18] at H
                                exact absurd H (by simp)
                            · replace c16 := Bool.eq_false_iff.mpr c16
                              subst c16
                              have H1 : (some false) = some r := by rw [if_neg (show ¬ (false = true) by decide)] at H; exact H
                              clear H
                              have H := H1
                              clear H1
                              obtain rfl := Option.some.inj H
                              have p348 : 0 ≤ (x27_3 : Int) := asm
                              have q348 : x27_3 < (((rd_T38 l1 x19_2).f0).length : Int) := asm
                              obtain ⟨ad348, e348, hx348_0⟩ := Kd.at_int HR346_0.out x27_3 p348 q348
                              cases e348
                              replace hx348_0 := hcl HB.out hx348_0
                              replace p348 := eq_true p348
                              replace q348 := eq_true q348
                              go_wp2_with (first | ((with_reducible refine gate_callee (f := 39) rfl ?_); refine goesL_ (some 35) rfl rfl Try.func39 (by kernel_rfl) rfl #[.int .i64 (rd ((rd_T38 l1 x19_2).f0) x27_3), .int .i64 0, .int .i64 (wrap64 (a0 - 1))] rfl ga ?_; (with_reducible refine (spec_l01In.calls (rd ((rd_T38 l1 x19_2).f0) x27_3) 0 (wrap64 (a0 - 1)) false _ A15.out).mono ?_); rintro e w' ⟨rfl, ⟨nd, rfl⟩⟩; refine ⟨_, rfl, ?_⟩))
                              go_ret
                              exact ⟨er, bel⟩
                          · rw [if_neg c14] at H
                            exact absurd H (by simp)
                        · rw [if_neg c13] at H
                          exact absurd H (by simp)
                      · rw [if_neg c12] at H
                        have c12b0 : decide (x27_3 < (((rd_T38 l1 x19_2).f0).length : Int)) = false := decide_eq_false c12
                        clear c12
                        replace H := Option.bind_eq_some_iff.mp H
                        obtain ⟨t352, A250, H⟩ := H
                        replace H : (if t352 = true then (if ((rd_T38 l1 x19_2).f2) = (-1) then (spec_ContestsOk.l0 k3 a0 l1 l1 (l1.length : Int) (wrap64 (x19_2 + 1))) else ((spec_l01In.f ((rd_T38 l1 x19_2).f2) (wrap64 (x19_2 + 1)) (wrap64 ((l1.length : Int) - 1))).bind fun t353 => (if t353 = true then (spec_ContestsOk.l0 k3 a0 l1 l1 (l1.length : Int) (wrap64 (x19_2 + 1))) else (some false)))) else (some false)) = some r := H
                        have A25 := Aside0.mk A250
                        clear A250
                        by_cases c26 : t352 = true
                        · subst c26
                          have H1 : (if ((rd_T38 l1 x19_2).f2) = (-1) then (spec_ContestsOk.l0 k3 a0 l1 l1 (l1.length : Int) (wrap64 (x19_2 + 1))) else ((spec_l01In.f ((rd_T38 l1 x19_2).f2) (wrap64 (x19_2 + 1)) (wrap64 ((l1.length : Int) - 1))).bind fun t353 => (if t353 = true then (spec_ContestsOk.l0 k3 a0 l1 l1 (l1.length : Int) (wrap64 (x19_2 + 1))) else (some false)))) = some r := by rw [if_pos rfl] at H; exact H
                          clear H
                          have H := H1
                          clear H1
                          by_cases c27 : ((rd_T38 l1 x19_2).f2) = (-1)
                          · rw [if_pos c27] at H
                            have c27b0 : (((rd_T38 l1 x19_2).f2) == (-1)) = true := beq_iff_eq.mpr c27
                            have c27b1 : (((rd_T38 l1 x19_2).f2) != (-1)) = false := bne_eq_false_iff_eq.mpr c27
                            clear c27
                            have H' := Aside0.mk H
                            clear H
                            obtain ⟨hcz28_0, hcz28_1, hcz28_2, hfz28_0, hfz28_1, hfz28_2⟩ := cf3 BK347.out
                            go_wp2_with (first | ((with_reducible refine gate_callee (f := 39) rfl ?_); refine goesL_ (some 48) rfl rfl Try.func39 (by kernel_rfl) rfl #[.int .i64 ((rd_T38 l1 x19_2).f1), .int .i64 0, .int .i64 8] rfl ga ?_; (with_reducible refine (spec_l01In.calls ((rd_T38 l1 x19_2).f1) 0 8 true _ A25.out).mono ?_); rintro e w' ⟨rfl, ⟨nd, rfl⟩⟩; refine ⟨_, rfl, ?_⟩))
                            go_roundg k3
                            case measure => have := HJ2.out; have := HK2.out; have := HK3.out; omega
                            case rel => exact ⟨(wrap64 (x19_2 + 1)), (es), H', ⟨by have := HJ2.out; have := HK2.out; have := HK3.out; omega⟩, ⟨bel⟩⟩
                          · rw [if_neg c27] at H
                            have c27b0 : (((rd_T38 l1 x19_2).f2) == (-1)) = false := beq_eq_false_iff_ne.mpr c27
                            have c27b1 : (((rd_T38 l1 x19_2).f2) != (-1)) = true := bne_iff_ne.mpr c27
                            replace H := Option.bind_eq_some_iff.mp H
                            obtain ⟨t353, A290, H⟩ := H
                            replace H : (if t353 = true then (spec_ContestsOk.l0 k3 a0 l1 l1 (l1.length : Int) (wrap64 (x19_2 + 1))) else (some false)) = some r := H
                            have A29 := Aside0.mk A290
                            clear A290
                            by_cases c30 : t353 = true
                            · subst c30
                              have H1 : (spec_ContestsOk.l0 k3 a0 l1 l1 (l1.length : Int) (wrap64 (x19_2 + 1))) = some r := by rw [if_pos rfl] at H; exact H
                              clear H
                              have H := H1
                              clear H1
                              have H' := Aside0.mk H
                              clear H
                              obtain ⟨hcz31_0, hcz31_1, hcz31_2, hfz31_0, hfz31_1, hfz31_2⟩ := cf3 BK347.out
                              go_wp2_with (first | ((with_reducible refine gate_callee (f := 39) rfl ?_); refine goesL_ (some 48) rfl rfl Try.func39 (by kernel_rfl) rfl #[.int .i64 ((rd_T38 l1 x19_2).f1), .int .i64 0, .int .i64 8] rfl ga ?_; (with_reducible refine (spec_l01In.calls ((rd_T38 l1 x19_2).f1) 0 8 true _ A25.out).mono ?_); rintro e w' ⟨rfl, ⟨nd, rfl⟩⟩; refine ⟨_, rfl, ?_⟩) | (go_at_call 39; (with_reducible refine (spec_l01In.calls ((rd_T38 l1 x19_2).f2) (wrap64 (x19_2 + 1)) (wrap64 ((l1.length : Int) - 1)) true _ A29.out).mono ?_); rintro e w' ⟨rfl, ⟨nd, rfl⟩⟩))
                              go_roundg k3
                              case measure => have := HJ2.out; have := HK2.out; have := HK3.out; omega
                              case rel => exact ⟨(wrap64 (x19_2 + 1)), (es), H', ⟨by have := HJ2.out; have := HK2.out; have := HK3.out; omega⟩, ⟨bel⟩⟩
                            · replace c30 := Bool.eq_false_iff.mpr c30
                              subst c30
                              have H1 : (some false) = some r := by rw [if_neg (show ¬ (false = true) by decide)] at H; exact H
                              clear H
                              have H := H1
                              clear H1
                              obtain rfl := Option.some.inj H
                              obtain ⟨hcz32_0, hcz32_1, hcz32_2, hfz32_0, hfz32_1, hfz32_2⟩ := cf3 BK347.out
                              go_wp2_with (first | ((with_reducible refine gate_callee (f := 39) rfl ?_); refine goesL_ (some 48) rfl rfl Try.func39 (by kernel_rfl) rfl #[.int .i64 ((rd_T38 l1 x19_2).f1), .int .i64 0, .int .i64 8] rfl ga ?_; (with_reducible refine (spec_l01In.calls ((rd_T38 l1 x19_2).f1) 0 8 true _ A25.out).mono ?_); rintro e w' ⟨rfl, ⟨nd, rfl⟩⟩; refine ⟨_, rfl, ?_⟩) | (go_at_call 39; (with_reducible refine (spec_l01In.calls ((rd_T38 l1 x19_2).f2) (wrap64 (x19_2 + 1)) (wrap64 ((l1.length : Int) - 1)) false _ A29.out).mono ?_); rintro e w' ⟨rfl, ⟨nd, rfl⟩⟩))
                              go_ret
                              exact ⟨er, bel⟩
                        · replace c26 := Bool.eq_false_iff.mpr c26
                          subst c26
                          have H1 : (some false) = some r := by rw [if_neg (show ¬ (false = true) by decide)] at H; exact H
                          clear H
                          have H := H1
                          clear H1
                          obtain rfl := Option.some.inj H
                          obtain ⟨hcz33_0, hcz33_1, hcz33_2, hfz33_0, hfz33_1, hfz33_2⟩ := cf3 BK347.out
                          go_wp2_with (first | ((with_reducible refine gate_callee (f := 39) rfl ?_); refine goesL_ (some 48) rfl rfl Try.func39 (by kernel_rfl) rfl #[.int .i64 ((rd_T38 l1 x19_2).f1), .int .i64 0, .int .i64 8] rfl ga ?_; (with_reducible refine (spec_l01In.calls ((rd_T38 l1 x19_2).f1) 0 8 false _ A25.out).mono ?_); rintro e w' ⟨rfl, ⟨nd, rfl⟩⟩; refine ⟨_, rfl, ?_⟩))
                          go_ret
                          exact ⟨er, bel⟩
                · rw [if_neg c9] at H
                  exact absurd H (by simp)
              · rw [if_neg c8] at H
                exact absurd H (by simp)
            · rw [if_neg c7] at H
              have c7b0 : decide (x19_2 < (l1.length : Int)) = false := decide_eq_false c7
              clear c7
              obtain rfl := Option.some.inj H
              go_wp2
              go_ret
              exact ⟨er, bel⟩

end Go.Proofs.Ytaopcamaceddnaa.Y
