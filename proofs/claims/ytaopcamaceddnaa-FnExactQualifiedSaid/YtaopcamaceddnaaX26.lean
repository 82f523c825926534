-- Written by a program of this session (wip/xp.py, over the kit's print) out of the translation: functions, and the walks that show them.
import Derived.Test.YtaopcamaceddnaaX0
import Derived.Test.YtaopcamaceddnaaX1
import Derived.Test.YtaopcamaceddnaaX3
import Derived.Test.YtaopcamaceddnaaX22
namespace Go.Proofs.Ytaopcamaceddnaa.X
open Go.RowKit Go.Proofs.YtaopcamaceddnaaW.PrintWords Go.Proofs.YtaopcamaceddnaaW.PrintLast Go.Proofs.YtaopcamaceddnaaW.PrintMore
attribute [local go_sem] max2_int min2_int max_two min_two max_three min_three max_four min_four   -- for this text's walks alone
set_option linter.unusedVariables false
set_option linter.unusedSimpArgs false

/-! ### spec_FirstOut: function 32 -/
mutual
def spec_FirstOut.j0 : Nat → Int → List (S38) → Int → Bool → Option (Int)
  | 0, _, _, _, _ => none
  | k + 1, x0, x1, x2, x20 => if x20 = true then (some (-1)) else (if 0 ≤ x2 then (if x2 < (x1.length : Int) then (spec_FirstOut.l0 k x0 x1 ((rd_T38 x1 x2).f0) (((rd_T38 x1 x2).f0).length : Int) 0) else (none)) else (none))
def spec_FirstOut.l0 : Nat → Int → List (S38) → List Int → Int → Int → Option (Int)
  | 0, _, _, _, _, _ => none
  | k + 1, x0, x1, x25, x26, x27 => if x27 < x26 then (if 0 ≤ x27 then (if x27 < (x25.length : Int) then ((spec_ContestOf.f k x0 x1 (rd x25 x27)).bind fun t457 => (if t457 < 0 then (some (rd x25 x27)) else (spec_FirstOut.l0 k x0 x1 x25 x26 (wrap64 (x27 + 1))))) else (none)) else (none)) else (some (-1))
end
def spec_FirstOut.f (k : Nat) (a0 : Int) (l1 : List (S38)) (a2 : Int) : Option (Int) := (spec_ContestsOk.f k a0 l1).bind fun t453 => (if t453 = true then ((spec_l01In.f a2 0 (wrap64 ((l1.length : Int) - 1))).bind fun t454 => (spec_FirstOut.j0 k a0 l1 a2 (!t454))) else (spec_FirstOut.j0 k a0 l1 a2 true))
theorem spec_FirstOut.mono_l : ∀ k, (∀ y0 y1 y2 y3, LeO (spec_FirstOut.j0 k y0 y1 y2 y3) (spec_FirstOut.j0 (k + 1) y0 y1 y2 y3)) ∧ (∀ y0 y1 y2 y3 y4, LeO (spec_FirstOut.l0 k y0 y1 y2 y3 y4) (spec_FirstOut.l0 (k + 1) y0 y1 y2 y3 y4))
  | 0 => ⟨fun _ _ _ _ r h => by simp [spec_FirstOut.j0] at h, fun _ _ _ _ _ r h => by simp [spec_FirstOut.l0] at h⟩
  | k + 1 => by
    obtain ⟨ih0, ih1⟩ := spec_FirstOut.mono_l k
    refine ⟨?_, ?_⟩
    · intro y0 y1 y2 y3
      unfold spec_FirstOut.j0
      repeat' first
      | (with_reducible exact ih0 _ _ _ _)
      | (with_reducible exact ih1 _ _ _ _ _)
      | (with_reducible exact spec_ContestOf.mono _ _ _ _)
      | (with_reducible exact spec_ContestsOk.mono _ _ _)
      | (with_reducible exact LeO.refl _)
      | (with_reducible exact LeO.none _)
      | (with_reducible refine LeO.ite ?_ ?_)
      | (with_reducible refine LeO.bind ?_ (fun _ => ?_))
      | exact ih0 _ _ _ _
      | exact ih1 _ _ _ _ _
      | exact spec_ContestOf.mono _ _ _ _
      | exact spec_ContestsOk.mono _ _ _
      | exact LeO.none _
      | refine LeO.ite ?_ ?_
      | refine LeO.bind ?_ (fun _ => ?_)
    · intro y0 y1 y2 y3 y4
      unfold spec_FirstOut.l0
      repeat' first
      | (with_reducible exact ih0 _ _ _ _)
      | (with_reducible exact ih1 _ _ _ _ _)
      | (with_reducible exact spec_ContestOf.mono _ _ _ _)
      | (with_reducible exact spec_ContestsOk.mono _ _ _)
      | (with_reducible exact LeO.refl _)
      | (with_reducible exact LeO.none _)
      | (with_reducible refine LeO.ite ?_ ?_)
      | (with_reducible refine LeO.bind ?_ (fun _ => ?_))
      | exact ih0 _ _ _ _
      | exact ih1 _ _ _ _ _
      | exact spec_ContestOf.mono _ _ _ _
      | exact spec_ContestsOk.mono _ _ _
      | exact LeO.none _
      | refine LeO.ite ?_ ?_
      | refine LeO.bind ?_ (fun _ => ?_)
theorem spec_FirstOut.mono : ∀ a0 a1 a2 k, LeO (spec_FirstOut.f k a0 a1 a2) (spec_FirstOut.f (k + 1) a0 a1 a2) := by
  intro a0 a1 a2 k
  obtain ⟨ih0, ih1⟩ := spec_FirstOut.mono_l k
  unfold spec_FirstOut.f
  repeat' first
      | (with_reducible exact ih0 _ _ _ _)
      | (with_reducible exact ih1 _ _ _ _ _)
      | (with_reducible exact spec_ContestOf.mono _ _ _ _)
      | (with_reducible exact spec_ContestsOk.mono _ _ _)
      | (with_reducible exact LeO.refl _)
      | (with_reducible exact LeO.none _)
      | (with_reducible refine LeO.ite ?_ ?_)
      | (with_reducible refine LeO.bind ?_ (fun _ => ?_))
      | exact ih0 _ _ _ _
      | exact ih1 _ _ _ _ _
      | exact spec_ContestOf.mono _ _ _ _
      | exact spec_ContestsOk.mono _ _ _
      | exact LeO.none _
      | refine LeO.ite ?_ ?_
      | refine LeO.bind ?_ (fun _ => ?_)
set_option maxHeartbeats 8000000 in
set_option maxRecDepth 100000 in
theorem spec_FirstOut.calls (k : Nat) (a0 : Int) (A1 : Option Addr) (c1 : Nat) (l1 : List (S38)) (a2 : Int) (r : Int) (w : World) (hr1 : Kd.C k38 w A1 l1.length l1) (hc1 : l1.length ≤ c1) (h : spec_FirstOut.f k a0 l1 a2 = some r) :
    Calls Try.prog 32 #[.int .i64 a0, .slice A1 l1.length c1, .int .i64 a2] w fun e w' => e = .returned (.int .i64 r) ∧ Below w.heap.size w w' := by
  have HR1 := Aside0.mk hr1
  have HC1 := Aside0.mk hc1
  clear hr1 hc1
  have HB := Aside0.mk (Below.refl w.heap.size w)
  have H : ((spec_ContestsOk.f k a0 l1).bind fun t453 => (if t453 = true then ((spec_l01In.f a2 0 (wrap64 ((l1.length : Int) - 1))).bind fun t454 => (spec_FirstOut.j0 k a0 l1 a2 (!t454))) else (spec_FirstOut.j0 k a0 l1 a2 true))) = some r := h
  clear h
  have HC4 := Aside0.mk H
  clear H
  go_enter Try.func32, Try.ntmps32
  go_upto_region 1 with (fail)
  go_cut [20] (fun v20 wc => ∃ (kq : Nat) (x20_3 : Bool), v20 = .bool x20_3 ∧ Aside0 (spec_FirstOut.j0 kq a0 l1 a2 x20_3 = some r) ∧ Aside0 (kq ≤ k) ∧ Aside0 (Below w.heap.size w wc))
  case first =>
    have H := HC4.out
    clear HC4
    replace H := Option.bind_eq_some_iff.mp H
    obtain ⟨t453, A50, H⟩ := H
    replace H : (if t453 = true then ((spec_l01In.f a2 0 (wrap64 ((l1.length : Int) - 1))).bind fun t454 => (spec_FirstOut.j0 k a0 l1 a2 (!t454))) else (spec_FirstOut.j0 k a0 l1 a2 true)) = some r := H
    have A5 := Aside0.mk A50
    clear A50
    by_cases c6 : t453 = true
    · subst c6
      have H1 : ((spec_l01In.f a2 0 (wrap64 ((l1.length : Int) - 1))).bind fun t454 => (spec_FirstOut.j0 k a0 l1 a2 (!t454))) = some r := by rw [if_pos rfl] at H; exact H
      clear H
      have H := H1
      clear H1
      replace H := Option.bind_eq_some_iff.mp H
      obtain ⟨t454, A70, H⟩ := H
      replace H : (spec_FirstOut.j0 k a0 l1 a2 (!t454)) = some r := H
      have A7 := Aside0.mk A70
      clear A70
      have H' := Aside0.mk H
      clear H
      go_wp2_with (first | ((with_reducible refine gate_callee (f := 13) rfl ?_); refine goesL_ (some 11) rfl rfl Try.func13 (by kernel_rfl) rfl #[.int .i64 a0, .slice A1 l1.length c1] rfl ga ?_; (with_reducible refine (spec_ContestsOk.calls k a0 _ _ l1 true _ ?side1 ?side2 A5.out).mono ?_); (case side1 => exact ck (Kd.C_below HR1.out HB.out)); (case side2 => exact HC1.out); rintro e w8 ⟨rfl, hb⟩; refine ⟨_, rfl, ?_⟩; replace HB := Aside0.mk (below_step bel hb); (try clear hb)) | (go_at_call 39; (with_reducible refine (spec_l01In.calls a2 0 (wrap64 ((l1.length : Int) - 1)) t454 _ A7.out).mono ?_); rintro e w' ⟨rfl, ⟨nd, rfl⟩⟩))
      go_meet
      case rel => exact ⟨_, (!t454), (es), H', ⟨by first | omega | exact Nat.le_refl _⟩, ⟨bel⟩⟩
    · replace c6 := Bool.eq_false_iff.mpr c6
      subst c6
      have H1 : (spec_FirstOut.j0 k a0 l1 a2 true) = some r := by rw [if_neg (show ¬ (false = true) by decide)] at H; exact H
      clear H
      have H := H1
      clear H1
      have H' := Aside0.mk H
      clear H
      go_wp2_with (first | ((with_reducible refine gate_callee (f := 13) rfl ?_); refine goesL_ (some 11) rfl rfl Try.func13 (by kernel_rfl) rfl #[.int .i64 a0, .slice A1 l1.length c1] rfl ga ?_; (with_reducible refine (spec_ContestsOk.calls k a0 _ _ l1 false _ ?side1 ?side2 A5.out).mono ?_); (case side1 => exact ck (Kd.C_below HR1.out HB.out)); (case side2 => exact HC1.out); rintro e w9 ⟨rfl, hb⟩; refine ⟨_, rfl, ?_⟩; replace HB := Aside0.mk (below_step bel hb); (try clear hb)))
      go_meet
      case rel => exact ⟨_, (true), (es), H', ⟨by first | omega | exact Nat.le_refl _⟩, ⟨bel⟩⟩
  case rest =>
    clear HC4
    try clear c1; try clear p2; try clear c3; try clear c6; try clear p6
    obtain ⟨kq, x20_3, rfl, HA, HJ3, HB⟩ := hcut
    cases kq with
    | zero => exact absurd HA.out (by simp [spec_FirstOut.j0])
    | succ kj3 =>
      have H := HA.out
      clear HA
      simp only [spec_FirstOut.j0] at H
      by_cases c10 : x20_3 = true
      · subst c10
        have H1 : (some (-1)) = some r := by rw [if_pos rfl] at H; exact H
        clear H
        have H := H1
        clear H1
        obtain rfl := Option.some.inj H
        go_wp2
        go_ret
        exact ⟨er, bel⟩
      · replace c10 := Bool.eq_false_iff.mpr c10
        subst c10
        have H1 : (if 0 ≤ a2 then (if a2 < (l1.length : Int) then (spec_FirstOut.l0 kj3 a0 l1 ((rd_T38 l1 a2).f0) (((rd_T38 l1 a2).f0).length : Int) 0) else (none)) else (none)) = some r := by rw [if_neg (show ¬ (false = true) by decide)] at H; exact H
        clear H
        have H := H1
        clear H1
        by_cases c11 : 0 ≤ a2
        · rw [if_pos c11] at H
          have c11b0 : decide (0 ≤ a2) = true := decide_eq_true c11
          clear c11
          by_cases c12 : a2 < (l1.length : Int)
          · rw [if_pos c12] at H
            have c12b0 : decide (a2 < (l1.length : Int)) = true := decide_eq_true c12
            clear c12
            have H' := Aside0.mk H
            clear H
            have p455 : 0 ≤ (a2 : Int) := asm
            have q455 : a2 < (l1.length : Int) := asm
            obtain ⟨ad455, A455_0, c455_0, e455, hx455_0, hx455_1, hx455_2, hl455_0, hi455_0⟩ := at_T38 HR1.out a2 p455 q455
            cases e455
            replace hx455_0 := hcl HB.out hx455_0
            replace hx455_1 := hcl HB.out hx455_1
            replace hx455_2 := hcl HB.out hx455_2
            have HR455_0 := Aside0.mk hi455_0
            have HC455_0 := Aside0.mk hl455_0
            clear hi455_0 hl455_0
            replace p455 := eq_true p455
            replace q455 := eq_true q455
            go_wp2
            go_loopg [27] kj3 (fun kq v27 w' => ∃ (x27_2 : Int), v27 = .int .i64 x27_2 ∧ Aside0 (spec_FirstOut.l0 kq a0 l1 ((rd_T38 l1 a2).f0) (((rd_T38 l1 a2).f0).length : Int) x27_2 = some r) ∧ Aside0 (kq ≤ kj3) ∧ Aside0 (Below w.heap.size w w'))
            case atStart => exact ⟨(0), (es), H', ⟨Nat.le_refl _⟩, ⟨bel⟩⟩
            case round =>
              clear H'
              try clear c1; try clear p2; try clear c3; try clear c4; try clear p4; try clear q4; try clear hx4; try clear c6; try clear p6; try clear c10; try clear c11; try clear c11b0; try clear c12; try clear c12b0; try clear hx455_0; try clear hx455_1; try clear hx455_2; try clear p2; try clear p455; try clear p6; try clear q455
              obtain ⟨x27_2, rfl, HA, HK2, HB⟩ := hrel
              cases gk with
              | zero => exact absurd HA.out (by simp [spec_FirstOut.l0])
              | succ k2 =>
                have H := HA.out
                clear HA
                simp only [spec_FirstOut.l0] at H
                by_cases c13 : x27_2 < (((rd_T38 l1 a2).f0).length : Int)
                · rw [if_pos c13] at H
                  have c13b0 : decide (x27_2 < (((rd_T38 l1 a2).f0).length : Int)) = true := decide_eq_true c13
                  clear c13
                  by_cases c14 : 0 ≤ x27_2
                  · rw [if_pos c14] at H
                    have c14b0 : decide (0 ≤ x27_2) = true := decide_eq_true c14
                    clear c14
                    by_cases c15 : x27_2 < (((rd_T38 l1 a2).f0).length : Int)
                    · rw [if_pos c15] at H
                      have c15b0 : decide (x27_2 < (((rd_T38 l1 a2).f0).length : Int)) = true := decide_eq_true c15
                      clear c15
                      replace H := Option.bind_eq_some_iff.mp H
                      obtain ⟨t457, A160, H⟩ := H
                      replace H : (if t457 < 0 then (some (rd ((rd_T38 l1 a2).f0) x27_2)) else (spec_FirstOut.l0 k2 a0 l1 ((rd_T38 l1 a2).f0) (((rd_T38 l1 a2).f0).length : Int) (wrap64 (x27_2 + 1)))) = some r := H
                      have A16 := Aside0.mk A160
                      clear A160
                      by_cases c17 : t457 < 0
                      · rw [if_pos c17] at H
                        have c17b0 : decide (t457 < 0) = true := decide_eq_true c17
                        clear c17
                        obtain rfl := Option.some.inj H
                        have p456 : 0 ≤ (x27_2 : Int) := asm
                        have q456 : x27_2 < (((rd_T38 l1 a2).f0).length : Int) := asm
                        obtain ⟨ad456, e456, hx456_0⟩ := Kd.at_int HR455_0.out x27_2 p456 q456
                        cases e456
                        replace hx456_0 := hcl HB.out hx456_0
                        replace p456 := eq_true p456
                        replace q456 := eq_true q456
                        go_wp2_with (first | ((with_reducible refine gate_callee (f := 26) rfl ?_); refine goesL_ (some 34) rfl rfl Try.func26 (by kernel_rfl) rfl #[.int .i64 a0, .slice (some ad455) l1.length c1, .int .i64 (rd ((rd_T38 l1 a2).f0) x27_2)] rfl ga ?_; (with_reducible refine (spec_ContestOf.calls k2 a0 _ _ l1 (rd ((rd_T38 l1 a2).f0) x27_2) t457 _ ?side1 ?side2 A16.out).mono ?_); (case side1 => exact ck (Kd.C_below HR1.out HB.out)); (case side2 => exact HC1.out); rintro e w18 ⟨rfl, hb⟩; refine ⟨_, rfl, ?_⟩; replace HB := Aside0.mk (below_step bel hb); (try clear hb)))
                        go_ret
                        exact ⟨er, bel⟩
                      · rw [if_neg c17] at H
                        have c17b0 : decide (t457 < 0) = false := decide_eq_false c17
                        clear c17
                        have H' := Aside0.mk H
                        clear H
                        have p456 : 0 ≤ (x27_2 : Int) := asm
                        have q456 : x27_2 < (((rd_T38 l1 a2).f0).length : Int) := asm
                        obtain ⟨ad456, e456, hx456_0⟩ := Kd.at_int HR455_0.out x27_2 p456 q456
                        cases e456
                        replace hx456_0 := hcl HB.out hx456_0
                        replace p456 := eq_true p456
                        replace q456 := eq_true q456
                        go_wp2_with (first | ((with_reducible refine gate_callee (f := 26) rfl ?_); refine goesL_ (some 34) rfl rfl Try.func26 (by kernel_rfl) rfl #[.int .i64 a0, .slice (some ad455) l1.length c1, .int .i64 (rd ((rd_T38 l1 a2).f0) x27_2)] rfl ga ?_; (with_reducible refine (spec_ContestOf.calls k2 a0 _ _ l1 (rd ((rd_T38 l1 a2).f0) x27_2) t457 _ ?side1 ?side2 A16.out).mono ?_); (case side1 => exact ck (Kd.C_below HR1.out HB.out)); (case side2 => exact HC1.out); rintro e w19 ⟨rfl, hb⟩; refine ⟨_, rfl, ?_⟩; replace HB := Aside0.mk (below_step bel hb); (try clear hb)))
                        go_roundg k2
                        case measure => have := HJ3.out; have := HK2.out; omega
                        case rel => exact ⟨(wrap64 (x27_2 + 1)), (es), H', ⟨by have := HJ3.out; have := HK2.out; omega⟩, ⟨bel⟩⟩
                    · rw [if_neg c15] at H
                      exact absurd H (by simp)
                  · rw [if_neg c14] at H
                    exact absurd H (by simp)
                · rw [if_neg c13] at H
                  have c13b0 : decide (x27_2 < (((rd_T38 l1 a2).f0).length : Int)) = false := decide_eq_false c13
                  clear c13
                  obtain rfl := Option.some.inj H
                  go_wp2
                  go_ret
                  exact ⟨er, bel⟩
          · rw [if_neg c12] at H
            exact absurd H (by simp)
        · rw [if_neg c11] at H
          exact absurd H (by simp)

end Go.Proofs.Ytaopcamaceddnaa.X
