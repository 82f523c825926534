-- Written by a program of this session (wip/xp.py, over the kit's print) out of the translation: functions, and the walks that show them.
import Derived.Test.YtaopcamaceddnaaY0
import Derived.Test.YtaopcamaceddnaaY19
import Derived.Test.YtaopcamaceddnaaY20
import Derived.Test.YtaopcamaceddnaaY22
import Derived.Test.YtaopcamaceddnaaY23
namespace Go.Proofs.Ytaopcamaceddnaa.Y
open Go.RowKit Go.Proofs.YtaopcamaceddnaaW.PrintWords Go.Proofs.YtaopcamaceddnaaW.PrintLast Go.Proofs.YtaopcamaceddnaaW.PrintMore
attribute [local go_sem] max2_int min2_int max_two min_two max_three min_three max_four min_four   -- for this text's walks alone
set_option linter.unusedVariables false
set_option linter.unusedSimpArgs false

/-! ### spec_SwapGains: function 37 -/
mutual
def spec_SwapGains.j0 : Nat → Int → List (S38) → Int → Int → Bool → Option (List Int)
  | 0, _, _, _, _, _ => none
  | k + 1, x0, x1, x2, x3, x37 => if x37 = true then (some ([] : List Int)) else ((spec_l20Copy.f k x1).bind fun t421 => (if 0 ≤ x2 then (if x2 < (t421.length : Int) then (if 0 ≤ x3 then (if x3 < (((rd_T38 t421 x2).f0).length : Int) then (if 0 ≤ (wrap64 (x3 + 1)) then (if (wrap64 (x3 + 1)) < (((rd_T38 t421 x2).f0).length : Int) then ((some (t421.set (x2 : Int).toNat (⟨(((rd_T38 t421 x2).f0).set (x3 : Int).toNat (rd ((rd_T38 t421 x2).f0) (wrap64 (x3 + 1)))), (rd_T38 t421 x2).f1, (rd_T38 t421 x2).f2⟩ : S38) : List (S38))).bind fun y432 => (if (wrap64 (x3 + 1)) < (((rd_T38 y432 x2).f0).length : Int) then (spec_SwapGains.l0 k x0 x1 (y432.set (x2 : Int).toNat (⟨(((rd_T38 y432 x2).f0).set ((wrap64 (x3 + 1)) : Int).toNat (rd ((rd_T38 t421 x2).f0) x3)), (rd_T38 y432 x2).f1, (rd_T38 y432 x2).f2⟩ : S38)) (([] : List Int)) 0) else (none))) else (none)) else (none)) else (none)) else (none)) else (none)) else (none)))
def spec_SwapGains.l0 : Nat → Int → List (S38) → List (S38) → List Int → Int → Option (List Int)
  | 0, _, _, _, _, _ => none
  | k + 1, x0, x1, x9, x12, x13 => if x13 < x0 then ((spec_ContestOf.f k x0 x1 x13).bind fun t440 => (if t440 < 0 then ((spec_ContestOf.f k x0 x9 x13).bind fun t441 => (if t441 ≥ 0 then (if x12.length < 17592186044416 then (spec_SwapGains.l0 k x0 x1 x9 (x12 ++ [x13]) (wrap64 (x13 + 1))) else (none)) else (spec_SwapGains.l0 k x0 x1 x9 x12 (wrap64 (x13 + 1))))) else (spec_SwapGains.l0 k x0 x1 x9 x12 (wrap64 (x13 + 1))))) else (some x12)
end
def spec_SwapGains.f (k : Nat) (a0 : Int) (l1 : List (S38)) (a2 : Int) (a3 : Int) : Option (List Int) := (spec_ContestsOk.f k a0 l1).bind fun t417 => (if t417 = true then ((spec_l01In.f a2 0 (wrap64 ((l1.length : Int) - 1))).bind fun t418 => (if t418 = true then (if 0 ≤ a2 then (if a2 < (l1.length : Int) then ((spec_l01In.f a3 0 (wrap64 ((((rd_T38 l1 a2).f0).length : Int) - 2))).bind fun t420 => (spec_SwapGains.j0 k a0 l1 a2 a3 (!t420))) else (none)) else (none)) else (spec_SwapGains.j0 k a0 l1 a2 a3 true))) else (spec_SwapGains.j0 k a0 l1 a2 a3 true))
theorem spec_SwapGains.mono_l : ∀ k, (∀ y0 y1 y2 y3 y4, LeO (spec_SwapGains.j0 k y0 y1 y2 y3 y4) (spec_SwapGains.j0 (k + 1) y0 y1 y2 y3 y4)) ∧ (∀ y0 y1 y2 y3 y4, LeO (spec_SwapGains.l0 k y0 y1 y2 y3 y4) (spec_SwapGains.l0 (k + 1) y0 y1 y2 y3 y4))
  | 0 => ⟨fun _ _ _ _ _ r h => by simp [spec_SwapGains.j0] at h, fun _ _ _ _ _ r h => by simp [spec_SwapGains.l0] at h⟩
  | k + 1 => by
    obtain ⟨ih0, ih1⟩ := spec_SwapGains.mono_l k
    refine ⟨?_, ?_⟩
    · intro y0 y1 y2 y3 y4
      unfold spec_SwapGains.j0
      repeat' first
      | (with_reducible exact ih0 _ _ _ _ _)
      | (with_reducible exact ih1 _ _ _ _ _)
      | (with_reducible exact spec_ContestOf.mono _ _ _ _)
      | (with_reducible exact spec_ContestsOk.mono _ _ _)
      | (with_reducible exact spec_l20Copy.mono _ _)
      | (with_reducible exact LeO.refl _)
      | (with_reducible exact LeO.none _)
      | (with_reducible refine LeO.ite ?_ ?_)
      | (with_reducible refine LeO.bind ?_ (fun _ => ?_))
      | exact ih0 _ _ _ _ _
      | exact ih1 _ _ _ _ _
      | exact spec_ContestOf.mono _ _ _ _
      | exact spec_ContestsOk.mono _ _ _
      | exact spec_l20Copy.mono _ _
      | exact LeO.none _
      | refine LeO.ite ?_ ?_
      | refine LeO.bind ?_ (fun _ => ?_)
    · intro y0 y1 y2 y3 y4
      unfold spec_SwapGains.l0
      repeat' first
      | (with_reducible exact ih0 _ _ _ _ _)
      | (with_reducible exact ih1 _ _ _ _ _)
      | (with_reducible exact spec_ContestOf.mono _ _ _ _)
      | (with_reducible exact spec_ContestsOk.mono _ _ _)
      | (with_reducible exact spec_l20Copy.mono _ _)
      | (with_reducible exact LeO.refl _)
      | (with_reducible exact LeO.none _)
      | (with_reducible refine LeO.ite ?_ ?_)
      | (with_reducible refine LeO.bind ?_ (fun _ => ?_))
      | exact ih0 _ _ _ _ _
      | exact ih1 _ _ _ _ _
      | exact spec_ContestOf.mono _ _ _ _
      | exact spec_ContestsOk.mono _ _ _
      | exact spec_l20Copy.mono _ _
      | exact LeO.none _
      | refine LeO.ite ?_ ?_
      | refine LeO.bind ?_ (fun _ => ?_)
theorem spec_SwapGains.mono : ∀ a0 a1 a2 a3 k, LeO (spec_SwapGains.f k a0 a1 a2 a3) (spec_SwapGains.f (k + 1) a0 a1 a2 a3) := by
  intro a0 a1 a2 a3 k
  obtain ⟨ih0, ih1⟩ := spec_SwapGains.mono_l k
  unfold spec_SwapGains.f
  repeat' first
      | (with_reducible exact ih0 _ _ _ _ _)
      | (with_reducible exact ih1 _ _ _ _ _)
      | (with_reducible exact spec_ContestOf.mono _ _ _ _)
      | (with_reducible exact spec_ContestsOk.mono _ _ _)
      | (with_reducible exact spec_l20Copy.mono _ _)
      | (with_reducible exact LeO.refl _)
      | (with_reducible exact LeO.none _)
      | (with_reducible refine LeO.ite ?_ ?_)
      | (with_reducible refine LeO.bind ?_ (fun _ => ?_))
      | exact ih0 _ _ _ _ _
      | exact ih1 _ _ _ _ _
      | exact spec_ContestOf.mono _ _ _ _
      | exact spec_ContestsOk.mono _ _ _
      | exact spec_l20Copy.mono _ _
      | exact LeO.none _
      | refine LeO.ite ?_ ?_
      | refine LeO.bind ?_ (fun _ => ?_)
set_option maxHeartbeats 8000000 in
set_option maxRecDepth 100000 in
theorem spec_SwapGains.calls (k : Nat) (a0 : Int) (A1 : Option Addr) (c1 : Nat) (l1 : List (S38)) (a2 : Int) (a3 : Int) (r : List Int) (w : World) (hr1 : Kd.C k38 w A1 l1.length l1) (hc1 : l1.length ≤ c1) (h : spec_SwapGains.f k a0 l1 a2 a3 = some r) :
    Calls Try.prog 37 #[.int .i64 a0, .slice A1 l1.length c1, .int .i64 a2, .int .i64 a3] w fun e w' => ∃ v0_ : Value, e = .returned (v0_) ∧ Kd.R (Kd.int .i64) 3 w' w.heap.size (fun _ => True) v0_ r ∧ Below w.heap.size w w' := by
  have HR1 := Aside0.mk hr1
  have HC1 := Aside0.mk hc1
  clear hr1 hc1
  have HB := Aside0.mk (Below.refl w.heap.size w)
  have H : ((spec_ContestsOk.f k a0 l1).bind fun t417 => (if t417 = true then ((spec_l01In.f a2 0 (wrap64 ((l1.length : Int) - 1))).bind fun t418 => (if t418 = true then (if 0 ≤ a2 then (if a2 < (l1.length : Int) then ((spec_l01In.f a3 0 (wrap64 ((((rd_T38 l1 a2).f0).length : Int) - 2))).bind fun t420 => (spec_SwapGains.j0 k a0 l1 a2 a3 (!t420))) else (none)) else (none)) else (spec_SwapGains.j0 k a0 l1 a2 a3 true))) else (spec_SwapGains.j0 k a0 l1 a2 a3 true))) = some r := h
  clear h
  have HC5 := Aside0.mk H
  clear H
  go_enter Try.func37, Try.ntmps37
  go_upto_region 1 with (fail)
  go_cut [37] (fun v37 wc => ∃ (kq : Nat) (x37_4 : Bool), v37 = .bool x37_4 ∧ Aside0 (spec_SwapGains.j0 kq a0 l1 a2 a3 x37_4 = some r) ∧ Aside0 (kq ≤ k) ∧ Aside0 (Below w.heap.size w wc))
  case first =>
    have H := HC5.out
    clear HC5
    replace H := Option.bind_eq_some_iff.mp H
    obtain ⟨t417, A60, H⟩ := H
    replace H : (if t417 = true then ((spec_l01In.f a2 0 (wrap64 ((l1.length : Int) - 1))).bind fun t418 => (if t418 = true then (if 0 ≤ a2 then (if a2 < (l1.length : Int) then ((spec_l01In.f a3 0 (wrap64 ((((rd_T38 l1 a2).f0).length : Int) - 2))).bind fun t420 => (spec_SwapGains.j0 k a0 l1 a2 a3 (!t420))) else (none)) else (none)) else (spec_SwapGains.j0 k a0 l1 a2 a3 true))) else (spec_SwapGains.j0 k a0 l1 a2 a3 true)) = some r := H
    have A6 := Aside0.mk A60
    clear A60
    by_cases c7 : t417 = true
    · subst c7
      have H1 : ((spec_l01In.f a2 0 (wrap64 ((l1.length : Int) - 1))).bind fun t418 => (if t418 = true then (if 0 ≤ a2 then (if a2 < (l1.length : Int) then ((spec_l01In.f a3 0 (wrap64 ((((rd_T38 l1 a2).f0).length : Int) - 2))).bind fun t420 => (spec_SwapGains.j0 k a0 l1 a2 a3 (!t420))) else (none)) else (none)) else (spec_SwapGains.j0 k a0 l1 a2 a3 true))) = some r := by rw [if_pos rfl] at H; exact H
      clear H
      have H := H1
      clear H1
      replace H := Option.bind_eq_some_iff.mp H
      obtain ⟨t418, A80, H⟩ := H
      replace H : (if t418 = true then (if 0 ≤ a2 then (if a2 < (l1.length : Int) then ((spec_l01In.f a3 0 (wrap64 ((((rd_T38 l1 a2).f0).length : Int) - 2))).bind fun t420 => (spec_SwapGains.j0 k a0 l1 a2 a3 (!t420))) else (none)) else (none)) else (spec_SwapGains.j0 k a0 l1 a2 a3 true)) = some r := H
      have A8 := Aside0.mk A80
      clear A80
      by_cases c9 : t418 = true
      · subst c9
        have H1 : (if 0 ≤ a2 then (if a2 < (l1.length : Int) then ((spec_l01In.f a3 0 (wrap64 ((((rd_T38 l1 a2).f0).length : Int) - 2))).bind fun t420 => (spec_SwapGains.j0 k a0 l1 a2 a3 (!t420))) else (none)) else (none)) = some r := by rw [if_pos rfl] at H; exact H
        clear H
        have H := H1
        clear H1
        by_cases c10 : 0 ≤ a2
        · rw [if_pos c10] at H
          have c10b0 : decide (0 ≤ a2) = true := decide_eq_true c10
          clear c10
          (first | rw [c10b0] | (simp only [i64_w, i32_w]; rw [c10b0]) | skip)
          by_cases c11 : a2 < (l1.length : Int)
          · rw [if_pos c11] at H
            have c11b0 : decide (a2 < (l1.length : Int)) = true := decide_eq_true c11
            clear c11
            replace H := Option.bind_eq_some_iff.mp H
            obtain ⟨t420, A120, H⟩ := H
            replace H : (spec_SwapGains.j0 k a0 l1 a2 a3 (!t420)) = some r := H
            have A12 := Aside0.mk A120
            clear A120
            have H' := Aside0.mk H
            clear H
            go_wp2_with (first | ((with_reducible refine gate_callee (f := 13) rfl ?_); refine goesL_ (some 16) rfl rfl Try.func13 (by kernel_rfl) rfl #[.int .i64 a0, .slice A1 l1.length c1] rfl ga ?_; (with_reducible refine (spec_ContestsOk.calls k a0 _ _ l1 true _ ?side1 ?side2 A6.out).mono ?_); (case side1 => exact ck (Kd.C_below HR1.out HB.out)); (case side2 => exact HC1.out); rintro e w13 ⟨rfl, hb⟩; refine ⟨_, rfl, ?_⟩; replace HB := Aside0.mk (below_step bel hb); (try clear hb)) | (go_at_call 39; (with_reducible refine (spec_l01In.calls a2 0 (wrap64 ((l1.length : Int) - 1)) true _ A8.out).mono ?_); rintro e w' ⟨rfl, ⟨nd, rfl⟩⟩; have p419 : 0 ≤ (a2 : Int) := asm; have q419 : a2 < (l1.length : Int) := asm; obtain ⟨ad419, A419_0, c419_0, e419, hx419_0, hx419_1, hx419_2, hl419_0, hi419_0⟩ := at_T38 HR1.out a2 p419 q419; cases e419; replace hx419_0 := hcl HB.out hx419_0; replace hx419_1 := hcl HB.out hx419_1; replace hx419_2 := hcl HB.out hx419_2; have HR419_0 := Aside0.mk hi419_0; have HC419_0 := Aside0.mk hl419_0; clear hi419_0 hl419_0; replace p419 := eq_true p419; replace q419 := eq_true q419) | (go_at_call 39; (with_reducible refine (spec_l01In.calls a3 0 (wrap64 ((((rd_T38 l1 a2).f0).length : Int) - 2)) t420 _ A12.out).mono ?_); rintro e w' ⟨rfl, ⟨nd, rfl⟩⟩))
            go_meet
            case rel => exact ⟨_, (!t420), (es), H', ⟨by first | omega | exact Nat.le_refl _⟩, ⟨bel⟩⟩
          · rw [if_neg c11] at H
            exact absurd H (by simp)
        · rw [if_neg c10] at H
          exact absurd H (by simp)
      · replace c9 := Bool.eq_false_iff.mpr c9
        subst c9
        have H1 : (spec_SwapGains.j0 k a0 l1 a2 a3 true) = some r := by rw [if_neg (show ¬ (false = true) by decide)] at H; exact H
        clear H
        have H := H1
        clear H1
        have H' := Aside0.mk H
        clear H
        go_wp2_with (first | ((with_reducible refine gate_callee (f := 13) rfl ?_); refine goesL_ (some 16) rfl rfl Try.func13 (by kernel_rfl) rfl #[.int .i64 a0, .slice A1 l1.length c1] rfl ga ?_; (with_reducible refine (spec_ContestsOk.calls k a0 _ _ l1 true _ ?side1 ?side2 A6.out).mono ?_); (case side1 => exact ck (Kd.C_below HR1.out HB.out)); (case side2 => exact HC1.out); rintro e w14 ⟨rfl, hb⟩; refine ⟨_, rfl, ?_⟩; replace HB := Aside0.mk (below_step bel hb); (try clear hb)) | (go_at_call 39; (with_reducible refine (spec_l01In.calls a2 0 (wrap64 ((l1.length : Int) - 1)) false _ A8.out).mono ?_); rintro e w' ⟨rfl, ⟨nd, rfl⟩⟩))
        go_meet
        case rel => exact ⟨_, (true), (es), H', ⟨by first | omega | exact Nat.le_refl _⟩, ⟨bel⟩⟩
    · replace c7 := Bool.eq_false_iff.mpr c7
      subst c7
      have H1 : (spec_SwapGains.j0 k a0 l1 a2 a3 true) = some r := by rw [if_neg (show ¬ (false = true) by decide)] at H; exact H
      clear H
      have H := H1
      clear H1
      have H' := Aside0.mk H
      clear H
      go_wp2_with (first | ((with_reducible refine gate_callee (f := 13) rfl ?_); refine goesL_ (some 16) rfl rfl Try.func13 (by kernel_rfl) rfl #[.int .i64 a0, .slice A1 l1.length c1] rfl ga ?_; (with_reducible refine (spec_ContestsOk.calls k a0 _ _ l1 false _ ?side1 ?side2 A6.out).mono ?_); (case side1 => exact ck (Kd.C_below HR1.out HB.out)); (case side2 => exact HC1.out); rintro e w15 ⟨rfl, hb⟩; refine ⟨_, rfl, ?_⟩; replace HB := Aside0.mk (below_step bel hb); (try clear hb)))
      go_meet
      case rel => exact ⟨_, (true), (es), H', ⟨by first | omega | exact Nat.le_refl _⟩, ⟨bel⟩⟩
  case rest =>
    clear HC5
    try clear c1; try clear p2; try clear c3; try clear c4; try clear p4; try clear q4; try clear hx4; try clear p6; try clear c7; try clear c9; try clear c10; try clear c10b0; try clear c11; try clear c11b0; try clear c13; try clear hx419_0; try clear hx419_1; try clear hx419_2; try clear p419; try clear q419
    obtain ⟨kq, x37_4, rfl, HA, HJ4, HB⟩ := hcut
    cases kq with
    | zero => exact absurd HA.out (by simp [spec_SwapGains.j0])
    | succ kj4 =>
      have H := HA.out
      clear HA
      simp only [spec_SwapGains.j0] at H
      by_cases c16 : x37_4 = true
      · subst c16
        have H1 : (some ([] : List Int)) = some r := by rw [if_pos rfl] at H; exact H
        clear H
        have H := H1
        clear H1
        obtain rfl := Option.some.inj H
        go_wp2
        go_ret
        exact ⟨_, er, by first | exact Kd.R_nil _ _ _ _ _ | exact Kd.N_nil _ _ _ _ _ | exact Kd.V_nil _ _ _ _ _ | exact Kd.Q_nil _ _ _ _ _ | exact Kd.S_nil _ _ _ _ _, bel⟩
      · replace c16 := Bool.eq_false_iff.mpr c16
        subst c16
        have H1 : ((spec_l20Copy.f kj4 l1).bind fun t421 => (if 0 ≤ a2 then (if a2 < (t421.length : Int) then (if 0 ≤ a3 then (if a3 < (((rd_T38 t421 a2).f0).length : Int) then (if 0 ≤ (wrap64 (a3 + 1)) then (if (wrap64 (a3 + 1)) < (((rd_T38 t421 a2).f0).length : Int) then ((some (t421.set (a2 : Int).toNat (⟨(((rd_T38 t421 a2).f0).set (a3 : Int).toNat (rd ((rd_T38 t421 a2).f0) (wrap64 (a3 + 1)))), (rd_T38 t421 a2).f1, (rd_T38 t421 a2).f2⟩ : S38) : List (S38))).bind fun y432 => (if (wrap64 (a3 + 1)) < (((rd_T38 y432 a2).f0).length : Int) then (spec_SwapGains.l0 kj4 a0 l1 (y432.set (a2 : Int).toNat (⟨(((rd_T38 y432 a2).f0).set ((wrap64 (a3 + 1)) : Int).toNat (rd ((rd_T38 t421 a2).f0) a3)), (rd_T38 y432 a2).f1, (rd_T38 y432 a2).f2⟩ : S38)) (([] : List Int)) 0) else (none))) else (none)) else (none)) else (none)) else (none)) else (none)) else (none))) = some r := by rw [if_neg (show ¬ (false = true) by decide)] at H; exact H
        clear H
        have H := H1
        clear H1
        replace H := Option.bind_eq_some_iff.mp H
        obtain ⟨t421, A170, H⟩ := H
        replace H : (if 0 ≤ a2 then (if a2 < (t421.length : Int) then (if 0 ≤ a3 then (if a3 < (((rd_T38 t421 a2).f0).length : Int) then (if 0 ≤ (wrap64 (a3 + 1)) then (if (wrap64 (a3 + 1)) < (((rd_T38 t421 a2).f0).length : Int) then ((some (t421.set (a2 : Int).toNat (⟨(((rd_T38 t421 a2).f0).set (a3 : Int).toNat (rd ((rd_T38 t421 a2).f0) (wrap64 (a3 + 1)))), (rd_T38 t421 a2).f1, (rd_T38 t421 a2).f2⟩ : S38) : List (S38))).bind fun y432 => (if (wrap64 (a3 + 1)) < (((rd_T38 y432 a2).f0).length : Int) then (spec_SwapGains.l0 kj4 a0 l1 (y432.set (a2 : Int).toNat (⟨(((rd_T38 y432 a2).f0).set ((wrap64 (a3 + 1)) : Int).toNat (rd ((rd_T38 t421 a2).f0) a3)), (rd_T38 y432 a2).f1, (rd_T38 y432 a2).f2⟩ : S38)) (([] : List Int)) 0) else (none))) else (none)) else (none)) else (none)) else (none)) else (none)) else (none)) = some r := H
        have A17 := Aside0.mk A170
        clear A170
        by_cases c18 : 0 ≤ a2
        · rw [if_pos c18] at H
          have c18b0 : decide (0 ≤ a2) = true := decide_eq_true c18
          clear c18
          by_cases c19 : a2 < (t421.length : Int)
          · rw [if_pos c19] at H
            have c19b0 : decide (a2 < (t421.length : Int)) = true := decide_eq_true c19
            clear c19
            by_cases c20 : 0 ≤ a3
            · rw [if_pos c20] at H
              have c20b0 : decide (0 ≤ a3) = true := decide_eq_true c20
              clear c20
              by_cases c21 : a3 < (((rd_T38 t421 a2).f0).length : Int)
              · rw [if_pos c21] at H
                have c21b0 : decide (a3 < (((rd_T38 t421 a2).f0).length : Int)) = true := decide_eq_true c21
                clear c21
                obtain ⟨ji22, hji22⟩ : ∃ j_ : Int, (wrap64 (a3 + 1)) = j_ := ⟨_, rfl⟩
                replace H : (if 0 ≤ (ji22) then (if (ji22) < (((rd_T38 t421 a2).f0).length : Int) then ((some (t421.set (a2 : Int).toNat (⟨(((rd_T38 t421 a2).f0).set (a3 : Int).toNat (rd ((rd_T38 t421 a2).f0) (ji22))), (rd_T38 t421 a2).f1, (rd_T38 t421 a2).f2⟩ : S38) : List (S38))).bind fun y432 => (if (ji22) < (((rd_T38 y432 a2).f0).length : Int) then (spec_SwapGains.l0 kj4 a0 l1 (y432.set (a2 : Int).toNat (⟨(((rd_T38 y432 a2).f0).set ((ji22) : Int).toNat (rd ((rd_T38 t421 a2).f0) a3)), (rd_T38 y432 a2).f1, (rd_T38 y432 a2).f2⟩ : S38)) (([] : List Int)) 0) else (none))) else (none)) else (none)) = some r := by first | (rw [hji22] at H; exact H) | (simp only [hji22] at H ⊢; exact H)
                (try rw [hji22] at A17)
                have hji22w : (IntKind.i64.wrap (a3 + 1)) = ji22 := (i64_w _).trans hji22
                by_cases c23 : 0 ≤ (ji22)
                · rw [if_pos c23] at H
                  have c23b0 : decide (0 ≤ (ji22)) = true := decide_eq_true c23
                  clear c23
                  by_cases c24 : (ji22) < (((rd_T38 t421 a2).f0).length : Int)
                  · rw [if_pos c24] at H
                    have c24b0 : decide ((ji22) < (((rd_T38 t421 a2).f0).length : Int)) = true := decide_eq_true c24
                    clear c24
                    obtain ⟨y430, hy430⟩ : ∃ y_ : List Int, y_ = (((rd_T38 t421 a2).f0).set (a3 : Int).toNat (rd ((rd_T38 t421 a2).f0) (ji22))) := ⟨_, rfl⟩
                    replace H : ((some (t421.set (a2 : Int).toNat (⟨y430, (rd_T38 t421 a2).f1, (rd_T38 t421 a2).f2⟩ : S38) : List (S38))).bind fun y432 => (if (ji22) < (((rd_T38 y432 a2).f0).length : Int) then (spec_SwapGains.l0 kj4 a0 l1 (y432.set (a2 : Int).toNat (⟨(((rd_T38 y432 a2).f0).set ((ji22) : Int).toNat (rd ((rd_T38 t421 a2).f0) a3)), (rd_T38 y432 a2).f1, (rd_T38 y432 a2).f2⟩ : S38)) (([] : List Int)) 0) else (none))) = some r := by first | (rw [hy430]; with_reducible exact H) | (have H2_ := (Option.bind_some _ _).symm.trans H; rw [hy430]; with_reducible exact H2_) | (have H2_ := (Option.bind_some _ _).symm.trans H; with_reducible exact H2_) | with_reducible exact H | (rw [hy430]; exact H) | exact H
                    have Ny430 := Aside0.mk hy430
                    clear hy430
                    obtain ⟨y432, hy432⟩ : ∃ y_ : List (S38), y_ = (t421.set (a2 : Int).toNat (⟨y430, (rd_T38 t421 a2).f1, (rd_T38 t421 a2).f2⟩ : S38)) := ⟨_, rfl⟩
                    replace H : (if (ji22) < (((rd_T38 y432 a2).f0).length : Int) then (spec_SwapGains.l0 kj4 a0 l1 (y432.set (a2 : Int).toNat (⟨(((rd_T38 y432 a2).f0).set ((ji22) : Int).toNat (rd ((rd_T38 t421 a2).f0) a3)), (rd_T38 y432 a2).f1, (rd_T38 y432 a2).f2⟩ : S38)) (([] : List Int)) 0) else (none)) = some r := by first | (rw [hy432]; with_reducible exact H) | (have H2_ := (Option.bind_some _ _).symm.trans H; rw [hy432]; with_reducible exact H2_) | (have H2_ := (Option.bind_some _ _).symm.trans H; with_reducible exact H2_) | with_reducible exact H | (rw [hy432]; exact H) | exact H
                    have Ny432 := Aside0.mk hy432
                    clear hy432
                    by_cases c26 : (ji22) < (((rd_T38 y432 a2).f0).length : Int)
                    · rw [if_pos c26] at H
                      have c26b0 : decide ((ji22) < (((rd_T38 y432 a2).f0).length : Int)) = true := decide_eq_true c26
                      clear c26
                      obtain ⟨y434, hy434⟩ : ∃ y_ : List Int, y_ = (((rd_T38 y432 a2).f0).set ((ji22) : Int).toNat (rd ((rd_T38 t421 a2).f0) a3)) := ⟨_, rfl⟩
                      replace H : (spec_SwapGains.l0 kj4 a0 l1 (y432.set (a2 : Int).toNat (⟨y434, (rd_T38 y432 a2).f1, (rd_T38 y432 a2).f2⟩ : S38)) (([] : List Int)) 0) = some r := by first | (rw [hy434]; with_reducible exact H) | (have H2_ := (Option.bind_some _ _).symm.trans H; rw [hy434]; with_reducible exact H2_) | (have H2_ := (Option.bind_some _ _).symm.trans H; with_reducible exact H2_) | with_reducible exact H | (rw [hy434]; exact H) | exact H
                      have Ny434 := Aside0.mk hy434
                      clear hy434
                      obtain ⟨y436, hy436⟩ : ∃ y_ : List (S38), y_ = (y432.set (a2 : Int).toNat (⟨y434, (rd_T38 y432 a2).f1, (rd_T38 y432 a2).f2⟩ : S38)) := ⟨_, rfl⟩
                      replace H : (spec_SwapGains.l0 kj4 a0 l1 y436 (([] : List Int)) 0) = some r := by first | (rw [hy436]; with_reducible exact H) | (have H2_ := (Option.bind_some _ _).symm.trans H; rw [hy436]; with_reducible exact H2_) | (have H2_ := (Option.bind_some _ _).symm.trans H; with_reducible exact H2_) | with_reducible exact H | (rw [hy436]; exact H) | exact H
                      have Ny436 := Aside0.mk hy436
                      clear hy436
                      obtain ⟨y437, hy437⟩ : ∃ y_ : List Int, y_ = (([] : List Int)) := ⟨_, rfl⟩
                      replace H : (spec_SwapGains.l0 kj4 a0 l1 y436 y437 0) = some r := by first | (rw [hy437]; with_reducible exact H) | (have H2_ := (Option.bind_some _ _).symm.trans H; rw [hy437]; with_reducible exact H2_) | (have H2_ := (Option.bind_some _ _).symm.trans H; with_reducible exact H2_) | with_reducible exact H | (rw [hy437]; exact H) | exact H
                      have Ny437 := Aside0.mk hy437
                      clear hy437
                      have H' := Aside0.mk H
                      clear H
                      go_wp2_with (first | ((with_reducible refine gate_callee (f := 56) rfl ?_); refine goesL_ (some 39) rfl rfl Try.func56 (by kernel_rfl) rfl #[.slice A1 l1.length c1] rfl ga ?_; (with_reducible refine (spec_l20Copy.calls kj4 _ _ l1 t421 _ ?side1 ?side2 A17.out).mono ?_); (case side1 => exact ck (Kd.C_below HR1.out HB.out)); (case side2 => exact HC1.out); rintro e w28 ⟨v422, rfl, ho0, hb⟩; refine ⟨_, rfl, ?_⟩; have HO423 := Aside0.mk (Kd.S_lower ho0 (below_size bel)); replace HB := Aside0.mk (below_step bel hb); (try clear hb); (try clear ho0); obtain ⟨Ao29, co29, eo29⟩ := Kd.S_slice HO423.out; subst eo29; have p424 : 0 ≤ (a2 : Int) := asm; have q424 : a2 < (t421.length : Int) := asm; obtain ⟨ad424, A424_0, c424_0, e424, hx424_0, hx424_1, hx424_2, hl424_0, hi424_0⟩ := at_T38 (Kd.S_reads' HO423.out).2.2 a2 p424 q424; cases e424; obtain ⟨ce424, hce424, hMe424, hcc424⟩ := Kd.S_get HO423.out z38 a2 p424 (by first | exact q424 | exact asm | (have e_ := (Kd.S_reads' HO423.out).1; omega)); obtain ⟨ve424_0, rfl, ge424_0⟩ := k38_openM hMe424; have hv424_0 := hcc424 0 _ rfl; rw [Nat.add_zero] at hv424_0; replace hv424_0 := Option.some.inj (hv424_0.symm.trans hx424_0); rw [hv424_0] at ge424_0; have HL424_0 := Aside0.mk (show Kd.R (Kd.int .i64) 3 _ _ _ _ ((rd_T38 t421 a2).f0) from ge424_0); clear hv424_0 ge424_0; have HX424_0 := Aside0.mk hx424_0; clear hcc424 hce424; have HR424_0 := Aside0.mk hi424_0; have HC424_0 := Aside0.mk hl424_0; clear hi424_0 hl424_0; replace p424 := eq_true p424; replace q424 := eq_true q424; have p425 : 0 ≤ (a2 : Int) := asm; have q425 : a2 < (t421.length : Int) := asm; obtain ⟨ad425, A425_0, c425_0, e425, hx425_0, hx425_1, hx425_2, hl425_0, hi425_0⟩ := at_T38 (Kd.S_reads' HO423.out).2.2 a2 p425 q425; obtain rfl : ad424 = ad425 := (by injection e425); obtain ⟨ce425, hce425, hMe425, hcc425⟩ := Kd.S_get HO423.out z38 a2 p425 (by first | exact q425 | exact asm | (have e_ := (Kd.S_reads' HO423.out).1; omega)); obtain ⟨ve425_0, rfl, ge425_0⟩ := k38_openM hMe425; have hv425_0 := hcc425 0 _ rfl; rw [Nat.add_zero] at hv425_0; replace hv425_0 := Option.some.inj (hv425_0.symm.trans hx425_0); rw [hv425_0] at ge425_0; have HL425_0 := Aside0.mk (show Kd.R (Kd.int .i64) 3 _ _ _ _ ((rd_T38 t421 a2).f0) from ge425_0); clear hv425_0 ge425_0; have HX425_0 := Aside0.mk hx425_0; clear hcc425 hce425; have HR425_0 := Aside0.mk hi425_0; have HC425_0 := Aside0.mk hl425_0; clear hi425_0 hl425_0; replace p425 := eq_true p425; replace q425 := eq_true q425; have ea_ := Option.some.inj (hx424_0.symm.trans hx425_0); injection ea_ with ea_ en_ ec_; subst ea_; subst ec_; clear en_; have p426 : 0 ≤ (a3 : Int) := asm; have q426 : a3 < (((rd_T38 t421 a2).f0).length : Int) := asm; obtain ⟨ad426, e426, hx426_0⟩ := Kd.at_int (by repeat (first | (with_reducible exact HR425_0.out) | (with_reducible refine Kd.C_alloc ?_ _) | (with_reducible refine Kd.C_drewN ?_ _) | (with_reducible refine Kd.C_drew ?_) | exact HR425_0.out)) a3 p426 q426; cases e426; replace p426 := eq_true p426; replace q426 := eq_true q426; have p427 : 0 ≤ (a2 : Int) := asm; have q427 : a2 < (t421.length : Int) := asm; obtain ⟨ad427, A427_0, c427_0, e427, hx427_0, hx427_1, hx427_2, hl427_0, hi427_0⟩ := at_T38 (Kd.S_reads' HO423.out).2.2 a2 p427 q427; obtain rfl : ad424 = ad427 := (by injection e427); obtain ⟨ce427, hce427, hMe427, hcc427⟩ := Kd.S_get HO423.out z38 a2 p427 (by first | exact q427 | exact asm | (have e_ := (Kd.S_reads' HO423.out).1; omega)); obtain ⟨ve427_0, rfl, ge427_0⟩ := k38_openM hMe427; have hv427_0 := hcc427 0 _ rfl; rw [Nat.add_zero] at hv427_0; replace hv427_0 := Option.some.inj (hv427_0.symm.trans hx427_0); rw [hv427_0] at ge427_0; have HL427_0 := Aside0.mk (show Kd.R (Kd.int .i64) 3 _ _ _ _ ((rd_T38 t421 a2).f0) from ge427_0); clear hv427_0 ge427_0; have HX427_0 := Aside0.mk hx427_0; clear hcc427 hce427; have HR427_0 := Aside0.mk hi427_0; have HC427_0 := Aside0.mk hl427_0; clear hi427_0 hl427_0; replace p427 := eq_true p427; replace q427 := eq_true q427; have ea_ := Option.some.inj (hx424_0.symm.trans hx427_0); injection ea_ with ea_ en_ ec_; subst ea_; subst ec_; clear en_; have p428 : 0 ≤ (a2 : Int) := asm; have q428 : a2 < (t421.length : Int) := asm; obtain ⟨ad428, A428_0, c428_0, e428, hx428_0, hx428_1, hx428_2, hl428_0, hi428_0⟩ := at_T38 (Kd.S_reads' HO423.out).2.2 a2 p428 q428; obtain rfl : ad424 = ad428 := (by injection e428); obtain ⟨ce428, hce428, hMe428, hcc428⟩ := Kd.S_get HO423.out z38 a2 p428 (by first | exact q428 | exact asm | (have e_ := (Kd.S_reads' HO423.out).1; omega)); obtain ⟨ve428_0, rfl, ge428_0⟩ := k38_openM hMe428; have hv428_0 := hcc428 0 _ rfl; rw [Nat.add_zero] at hv428_0; replace hv428_0 := Option.some.inj (hv428_0.symm.trans hx428_0); rw [hv428_0] at ge428_0; have HL428_0 := Aside0.mk (show Kd.R (Kd.int .i64) 3 _ _ _ _ ((rd_T38 t421 a2).f0) from ge428_0); clear hv428_0 ge428_0; have HX428_0 := Aside0.mk hx428_0; clear hcc428 hce428; have HR428_0 := Aside0.mk hi428_0; have HC428_0 := Aside0.mk hl428_0; clear hi428_0 hl428_0; replace p428 := eq_true p428; replace q428 := eq_true q428; have ea_ := Option.some.inj (hx424_0.symm.trans hx428_0); injection ea_ with ea_ en_ ec_; subst ea_; subst ec_; clear en_; have p429 : 0 ≤ ((ji22) : Int) := asm; have q429 : (ji22) < (((rd_T38 t421 a2).f0).length : Int) := asm; obtain ⟨ad429, e429, hx429_0⟩ := Kd.at_int (by repeat (first | (with_reducible exact HR428_0.out) | (with_reducible refine Kd.C_alloc ?_ _) | (with_reducible refine Kd.C_drewN ?_ _) | (with_reducible refine Kd.C_drew ?_) | exact HR428_0.out)) (ji22) p429 q429; cases e429; replace p429 := eq_true p429; replace q429 := eq_true q429; have p25 : 0 ≤ (a3 : Int) := asm; have q25 : (a3 : Int) < ((((rd_T38 t421 a2).f0).length : Int) : Int) := asm; obtain ⟨go25, co25, eo25, gb25, gl25, cl25, HG25⟩ := Kd.R_form HL427_0.out (by omega); (first | cases eo25 | (injection eo25 with ea_ en_ ec_; (first | subst ea_ | (injection ea_ with ea_; subst ea_)); subst ec_; clear en_)); have GB25 := Aside0.mk gb25; have GG25 := Aside0.mk HG25; clear gb25 gl25 HG25; (first | simp only [add_plain] at hx429_0 | skip); obtain ⟨hx25_0, hf25_0⟩ := Kd.R_celln 0 HL427_0.out (a3 : Int) p25 q25; replace p25 := eq_true p25; replace q25 := eq_true q25; have hq30 : (a2 : Int) < (t421.length : Int) := (by have h_ : (a2 : Int) < ((t421.length : Int) : Int) := asm; first | exact h_ | (have e_ := (Kd.S_reads' HO423.out).1; omega) | simpa only [List.length_set, List.length_set] using h_); obtain ⟨oki30, ce30, hcl30, hM30, hcc30, hok30, hbk30⟩ := Kd.S_borrow HO423.out z38 (a2 : Int) (asm) hq30; obtain ⟨ve30_0, rfl, ge30_0⟩ := k38_openM hM30; have hv30 := hcc30 0 _ rfl; rw [Nat.add_zero] at hv30; replace hv30 := Option.some.inj (hv30.symm.trans HX427_0.out); subst hv30; clear hcc30 hcl30; replace ge30_0 := (show Kd.R (Kd.int .i64) 3 _ _ _ _ ((rd_T38 t421 a2).f0) from ge30_0); have HP30 := Kd.R_putg ge30_0 (a3 : Int) (rd ((rd_T38 t421 a2).f0) (ji22))) | ((with_reducible refine gate_store (t := 3) (p := 56) rfl ?_); refine store_event (t := 3) (p := 56) (v := ?vo_w31) (w1 := (w28.setCell ⟨go25, (a3 : Int).toNat, none⟩ (.int .i64 (rd ((rd_T38 t421 a2).f0) (ji22))))) ?hg ?ho ?hn ?hr ?_; (case ho => rfl); (case hg => rfl); (case hn => rfl); (case hr => first | (go_simp; done) | (go_simp; rfl)); intro w31 hw; have hg : w28.grownBy w31 (some go25) := (by rw [hw]; exact HP30.2); have hz_ : Kd.R (Kd.int .i64) 3 w31 w.heap.size oki30 (.slice (some ⟨go25, 0, none⟩) ((rd_T38 t421 a2).f0).length c424_0) y430 := (by rw [hw, Ny430.out]; exact HP30.1); have hp_ : Kd.S k38 38 w31 w.heap.size (fun _ => True) (.slice (some ad424) t421.length co29) y432 := (by rw [Ny432.out]; exact hbk30 hg (fun k_ e_ => by injection e_ with e_; subst e_; exact ge30_0.1 _ rfl) (k38_mkM _ _ _ (⟨y430, (rd_T38 t421 a2).f1, (rd_T38 t421 a2).f2⟩ : S38) hz_)); have hm_ := Kd.R_mono hz_ hok30; have hk_ : w31.cell? (ad424.add ((a2 : Int).toNat * 3)) = some (.slice (some ⟨go25, 0, none⟩) ((rd_T38 t421 a2).f0).length c424_0) := (by rw [hw]; exact (cell_far (p := ⟨go25, _, none⟩) (a := ad424.add ((a2 : Int).toNat * 3)) (fun e_ => (hok30 go25 (ge30_0.1 go25 rfl)).2 (congrArg some ((add_block _ _).symm.trans e_).symm)) _).trans hx424_0); clear HP30 hbk30; have n0_ := Aside0.mk (hp_); have n1_ := Aside0.mk ((by rw [hw]; exact below_set (HB.out) GB25.out : Below w.heap.size w w31)); have n2_ := Aside0.mk (hm_); have n3_ := Aside0.mk ((Kd.R_reads' hm_).2.1); clear HO423; clear HB; clear HL424_0; clear HL425_0; clear HL427_0; clear HL428_0; have HO423 := n0_; have HB := n1_; have HL445 := n2_; have HC431 := n3_; clear n0_ n1_ n2_ n3_; clear hg hw hp_ hz_ hm_ hok30; have p433 : 0 ≤ (a2 : Int) := asm; have q433 : a2 < (y432.length : Int) := (by have h_ : (a2 : Int) < ((t421.length : Int) : Int) := asm; first | (have e_ := (Kd.S_reads' HO423.out).1; omega) | simpa only [Ny432.out, List.length_set] using h_); have ql433 : ((a2 : Int) < ((t421.length : Int) : Int)) = True := eq_true (asm); obtain ⟨ad433, A433_0, c433_0, e433, hx433_0, hx433_1, hx433_2, hl433_0, hi433_0⟩ := at_T38 (Kd.S_reads' HO423.out).2.2 a2 p433 q433; obtain rfl : ad424 = ad433 := (by injection e433); have ek_ := Option.some.inj (hk_.symm.trans hx433_0); injection ek_ with ek1_ ek2_ ek3_; subst ek1_; subst ek3_; clear ek2_ hk_; obtain ⟨ce433, hce433, hMe433, hcc433⟩ := Kd.S_get HO423.out z38 a2 p433 (by first | exact q433 | exact asm | (have e_ := (Kd.S_reads' HO423.out).1; omega)); obtain ⟨ve433_0, rfl, ge433_0⟩ := k38_openM hMe433; have hv433_0 := hcc433 0 _ rfl; rw [Nat.add_zero] at hv433_0; replace hv433_0 := Option.some.inj (hv433_0.symm.trans hx433_0); rw [hv433_0] at ge433_0; have HL433_0 := Aside0.mk (show Kd.R (Kd.int .i64) 3 _ _ _ _ ((rd_T38 y432 a2).f0) from ge433_0); clear hv433_0 ge433_0; have HX433_0 := Aside0.mk hx433_0; clear hcc433 hce433; have HR433_0 := Aside0.mk hi433_0; have HC433_0 := Aside0.mk hl433_0; clear hi433_0 hl433_0; replace p433 := eq_true p433; replace q433 := eq_true q433; have p27 : 0 ≤ ((ji22) : Int) := asm; have q27 : ((ji22) : Int) < ((((rd_T38 y432 a2).f0).length : Int) : Int) := asm; obtain ⟨go27, co27, eo27, gb27, gl27, cl27, HG27⟩ := Kd.R_form HL433_0.out (by omega); (first | cases eo27 | (injection eo27 with ea_ en_ ec_; (first | subst ea_ | (injection ea_ with ea_; subst ea_)); subst ec_; clear en_)); have GB27 := Aside0.mk gb27; have GG27 := Aside0.mk HG27; clear gb27 gl27 HG27; obtain ⟨hx27_0, hf27_0⟩ := Kd.R_celln 0 HL433_0.out ((ji22) : Int) p27 q27; replace p27 := eq_true p27; replace q27 := eq_true q27; have hq32 : (a2 : Int) < (t421.length : Int) := (by have h_ : (a2 : Int) < ((t421.length : Int) : Int) := asm; first | exact h_ | (have e_ := (Kd.S_reads' HO423.out).1; omega) | simpa only [Ny432.out, List.length_set] using h_); obtain ⟨oki32, ce32, hcl32, hM32, hcc32, hok32, hbk32⟩ := Kd.S_borrow HO423.out z38 (a2 : Int) (asm) hq32; obtain ⟨ve32_0, rfl, ge32_0⟩ := k38_openM hM32; have hv32 := hcc32 0 _ rfl; rw [Nat.add_zero] at hv32; replace hv32 := Option.some.inj (hv32.symm.trans HX433_0.out); subst hv32; clear hcc32 hcl32; replace ge32_0 := (show Kd.R (Kd.int .i64) 3 _ _ _ _ ((rd_T38 y432 a2).f0) from ge32_0); have HP32 := Kd.R_putg ge32_0 ((ji22) : Int) (rd ((rd_T38 t421 a2).f0) a3)) | ((with_reducible refine gate_store (t := 3) (p := 61) rfl ?_); refine store_event (t := 3) (p := 61) (v := ?vo_w33) (w1 := (w31.setCell ⟨go25, ((ji22) : Int).toNat, none⟩ (.int .i64 (rd ((rd_T38 t421 a2).f0) a3)))) ?hg ?ho ?hn ?hr ?_; (case ho => rfl); (case hg => rfl); (case hn => rfl); (case hr => first | (go_simp; done) | (go_simp; rfl)); intro w33 hw; have hg : w31.grownBy w33 (some go25) := (by rw [hw]; exact HP32.2); have hz_ : Kd.R (Kd.int .i64) 3 w33 w.heap.size oki32 (.slice (some ⟨go25, 0, none⟩) ((rd_T38 y432 a2).f0).length c424_0) y434 := (by rw [hw, Ny434.out]; exact HP32.1); have hp_ : Kd.S k38 38 w33 w.heap.size (fun _ => True) (.slice (some ad424) t421.length co29) y436 := (by rw [Ny436.out]; exact hbk32 hg (fun k_ e_ => by injection e_ with e_; subst e_; exact ge32_0.1 _ rfl) (k38_mkM _ _ _ (⟨y434, (rd_T38 y432 a2).f1, (rd_T38 y432 a2).f2⟩ : S38) hz_)); have hm_ := Kd.R_mono hz_ hok32; clear HP32 hbk32; have n0_ := Aside0.mk (hp_); have n1_ := Aside0.mk ((by rw [hw]; exact below_set (HB.out) GB27.out : Below w.heap.size w w33)); have n2_ := Aside0.mk (hm_); have n3_ := Aside0.mk ((Kd.R_reads' hm_).2.1); clear HO423; clear HB; clear HL445; clear HL433_0; have HO423 := n0_; have HB := n1_; have HL446 := n2_; have HC435 := n3_; clear n0_ n1_ n2_ n3_; clear hg hw hp_ hz_ hm_ hok32) | ((with_reducible refine gate_dst (N := 62) rfl ?_); refine Kd.R_lit (Kd.int .i64) _ 3 ?hg (N := 62) ?hd (xs := ([] : List Int)) (inner := []) (ok := fun _ => True) (okp := fun _ => True) ?hr ?hp (fun _ hk => hk) trivial (Below.refl _ _) (Nat.le_refl _) (by simp) ?_; (case hd => rfl); (case hg => rfl); (case hr => first | (go_simp; done) | (go_simp; rfl)); (case hp => exact (Reps.none _ _)); intro v438 w34 ho35 hb hg_ hnew_; clear hg_ hnew_; (first | rw [← Ny437.out] at ho35 | (simp only [Int.reduceToNat] at ho35; rw [← Ny437.out] at ho35)); have HO439 := Aside0.mk (Kd.R_lower (Kd.R_new' ho35 (Kd.R_lt (by (with_reducible repeat (first | apply Kd.R_alloc | apply Kd.R_drewN | apply Kd.R_drew)); exact HL446.out))) (below_size bel)); replace HO423 := Aside0.mk (Kd.S_elder' (by (with_reducible repeat (first | apply Kd.S_alloc | apply Kd.S_drewN | apply Kd.S_drew)); exact HO423.out) (Kd.R_base ho35) hb); replace HL446 := Aside0.mk (Kd.R_elder' (by (with_reducible repeat (first | apply Kd.R_alloc | apply Kd.R_drewN | apply Kd.R_drew)); exact HL446.out) (Kd.R_base ho35) hb); replace HB := Aside0.mk (below_step bel hb); clear hb ho35))
                      go_loopg [12, 13] kj4 (fun kq v12 v13 w' => ∃ (x12_2 : List Int) (x13_2 : Int), v13 = .int .i64 x13_2 ∧ Aside0 (spec_SwapGains.l0 kq a0 l1 y436 x12_2 x13_2 = some r) ∧ Aside0 (kq ≤ kj4) ∧ Aside0 (Kd.S k38 38 w' w.heap.size (fun k_ => some k_ ≠ (v12 : Value).ownBlock) (.slice (some ad424) t421.length co29) y436) ∧ Aside0 (Kd.R (Kd.int .i64) 3 w' w.heap.size (fun _ => True) v12 x12_2) ∧ Aside0 (Below w.heap.size w w'))
                      case atStart => exact ⟨(y437), (0), (es), H', ⟨Nat.le_refl _⟩, ⟨by (with_reducible repeat (first | apply Kd.S_alloc | apply Kd.S_drewN | apply Kd.S_drew)); exact Kd.S_mono HO423.out (fun _ hk => hk.2)⟩, ⟨by (with_reducible repeat (first | apply Kd.R_alloc | apply Kd.R_drewN | apply Kd.R_drew)); exact Kd.R_mono HO439.out (fun _ hk => trivial)⟩, ⟨bel⟩⟩
                      case round =>
                        clear H'
                        try clear c1; try clear c2; try clear p2; try clear q2; try clear hx2; try clear c3; try clear q3; try clear c4; try clear p4; try clear q4; try clear hx4; try clear c5; try clear p6; try clear c7; try clear c9; try clear c10; try clear c10b0; try clear c11; try clear c11b0; try clear c13; try clear c16; try clear c18; try clear c18b0; try clear c19; try clear c19b0; try clear c20; try clear c20b0; try clear c21; try clear c21b0; try clear c23; try clear c23b0; try clear c24; try clear c24b0; try clear p25; try clear q25; try clear hx25; try clear hf25; try clear c26; try clear c26b0; try clear p27; try clear q27; try clear hx27; try clear hf27; try clear c30; try clear q30; try clear c32; try clear q32; try clear hx25_0; try clear hx27_0; try clear hx419_0; try clear hx419_1; try clear hx419_2; try clear hx424_0; try clear hx424_1; try clear hx424_2; try clear hx425_0; try clear hx425_1; try clear hx425_2; try clear hx426_0; try clear hx427_0; try clear hx427_1; try clear hx427_2; try clear hx428_0; try clear hx428_1; try clear hx428_2; try clear hx429_0; try clear hx433_0; try clear hx433_1; try clear hx433_2; try clear p2; try clear p25; try clear p27; try clear p4; try clear p419; try clear p424; try clear p425; try clear p426; try clear p427; try clear p428; try clear p429; try clear p433; try clear p6; try clear q25; try clear q27; try clear q4; try clear q419; try clear q424; try clear q425; try clear q426; try clear q427; try clear q428; try clear q429; try clear q433
                        obtain ⟨x12_2, x13_2, rfl, HA, HK2, HO_9, HO_12, HB⟩ := hrel
                        have hl9_2 := (Kd.S_reads' HO_9.out).1
                        rw [hl9_2] at HO_9
                        (try simp only [hl9_2])
                        (try simp only [hl9_2] at HO_12)
                        cases gk with
                        | zero => exact absurd HA.out (by simp [spec_SwapGains.l0])
                        | succ k2 =>
                          have H := HA.out
                          clear HA
                          simp only [spec_SwapGains.l0] at H
                          by_cases c36 : x13_2 < a0
                          · rw [if_pos c36] at H
                            have c36b0 : decide (x13_2 < a0) = true := decide_eq_true c36
                            clear c36
                            replace H := Option.bind_eq_some_iff.mp H
                            obtain ⟨t440, A370, H⟩ := H
                            replace H : (if t440 < 0 then ((spec_ContestOf.f k2 a0 y436 x13_2).bind fun t441 => (if t441 ≥ 0 then (if x12_2.length < 17592186044416 then (spec_SwapGains.l0 k2 a0 l1 y436 (x12_2 ++ [x13_2]) (wrap64 (x13_2 + 1))) else (none)) else (spec_SwapGains.l0 k2 a0 l1 y436 x12_2 (wrap64 (x13_2 + 1))))) else (spec_SwapGains.l0 k2 a0 l1 y436 x12_2 (wrap64 (x13_2 + 1)))) = some r := H
                            have A37 := Aside0.mk A370
                            clear A370
                            by_cases c38 : t440 < 0
                            · rw [if_pos c38] at H
                              have c38b0 : decide (t440 < 0) = true := decide_eq_true c38
                              clear c38
                              replace H := Option.bind_eq_some_iff.mp H
                              obtain ⟨t441, A390, H⟩ := H
                              replace H : (if t441 ≥ 0 then (if x12_2.length < 17592186044416 then (spec_SwapGains.l0 k2 a0 l1 y436 (x12_2 ++ [x13_2]) (wrap64 (x13_2 + 1))) else (none)) else (spec_SwapGains.l0 k2 a0 l1 y436 x12_2 (wrap64 (x13_2 + 1)))) = some r := H
                              have A39 := Aside0.mk A390
                              clear A390
                              by_cases c40 : t441 ≥ 0
                              · rw [if_pos c40] at H
                                have c40b0 : decide (0 ≤ t441) = true := decide_eq_true c40
                                clear c40
                                by_cases c41 : x12_2.length < 17592186044416
                                · rw [if_pos c41] at H
                                  have LMc41 := Aside0.mk c41
                                  clear c41
                                  obtain ⟨y442, hy442⟩ : ∃ y_ : List Int, y_ = (x12_2 ++ [x13_2]) := ⟨_, rfl⟩
                                  replace H : (spec_SwapGains.l0 k2 a0 l1 y436 y442 (wrap64 (x13_2 + 1))) = some r := by first | (rw [hy442]; with_reducible exact H) | (have H2_ := (Option.bind_some _ _).symm.trans H; rw [hy442]; with_reducible exact H2_) | (have H2_ := (Option.bind_some _ _).symm.trans H; with_reducible exact H2_) | with_reducible exact H | (rw [hy442]; exact H) | exact H
                                  have Ny442 := Aside0.mk hy442
                                  clear hy442
                                  have H' := Aside0.mk H
                                  clear H
                                  go_wp2_with (first | ((with_reducible refine gate_callee (f := 26) rfl ?_); refine goesL_ (some 71) rfl rfl Try.func26 (by kernel_rfl) rfl #[.int .i64 a0, .slice A1 l1.length c1, .int .i64 x13_2] rfl ga ?_; (with_reducible refine (spec_ContestOf.calls k2 a0 _ _ l1 x13_2 t440 _ ?side1 ?side2 A37.out).mono ?_); (case side1 => exact ck (Kd.C_below HR1.out HB.out)); (case side2 => exact HC1.out); rintro e w42 ⟨rfl, hb⟩; refine ⟨_, rfl, ?_⟩; replace HO_9 := Aside0.mk (Kd.S_below (by (with_reducible repeat (first | apply Kd.S_alloc | apply Kd.S_drewN | apply Kd.S_drew)); exact HO_9.out) hb); replace HO_12 := Aside0.mk (Kd.R_below (rk HO_12.out) hb); replace HB := Aside0.mk (below_step bel hb); (try clear hb)) | (go_at_call 26; (with_reducible refine (spec_ContestOf.calls k2 a0 _ _ y436 x13_2 t441 _ ?side1 ?side2 A39.out).mono ?_); (case side1 => repeat (first | exact (Kd.S_reads' HO_9.out).2.2 | (with_reducible refine Kd.C_alloc ?_ _) | (with_reducible refine Kd.C_drewN ?_ _) | (with_reducible refine Kd.C_drew ?_))); (case side2 => exact (Kd.S_reads' HO_9.out).2.1); rintro e w43 ⟨rfl, hb⟩; replace HO_9 := Aside0.mk (Kd.S_below (by (with_reducible repeat (first | apply Kd.S_alloc | apply Kd.S_drewN | apply Kd.S_drew)); exact HO_9.out) hb); replace HO_12 := Aside0.mk (Kd.R_below (rk HO_12.out) hb); replace HB := Aside0.mk (below_step bel hb); (try clear hb); (try clear hb2); (try clear hk); (try clear hi)) | ((with_reducible refine gate_builtin (b := .append) (xs := #[.tmp 80, .tmp 82]) rfl ?_); at_builtin; refine Kd.R_append (Kd.int .i64) (w0 := w) w.heap.size rfl (.tmp 80) (.tmp 82) 35 3 (.int .i64 0) 8 rfl Try.underlying35 info3 rfl (by decide) (by omega) u12 x12_2 x13_2 [.int .i64 x13_2] (fun _ => True) (fun _ => False) rfl rfl ?aP (fun _ hk => hk.elim) ?aF ?aO ?aB ?aS ?aL ?_; (case aP => exact rfl); (case aB => exact bel); (case aF => exact (fun _ _ => trivial)); (case aO => exact (rk HO_12.out)); (case aS => exact (below_size bel)); (case aL => have := LMc41.out; omega); intro v443 w44 ho hb hg hat; rw [← Ny442.out] at ho; have n0_ := Aside0.mk (Kd.S_after (ok := (fun _ => True)) (by (with_reducible repeat (first | apply Kd.S_alloc | apply Kd.S_drewN | apply Kd.S_drew)); exact Kd.S_mono HO_9.out (fun _ hk => ⟨trivial, hk⟩)) hg hat); have n1_ := Aside0.mk (hb); have n2_ := Aside0.mk (ho); clear HO_9; clear HB; clear HO_12; have HO_9 := n0_; have HB := n1_; have HO444 := n2_; clear n0_ n1_ n2_; clear ho hb hg hat))
                                  (try simp only [← hl9_2])
                                  go_roundg k2
                                  case measure => have := HJ4.out; have := HK2.out; omega
                                  case rel => exact ⟨(y442), (wrap64 (x13_2 + 1)), (es), H', ⟨by have := HJ4.out; have := HK2.out; omega⟩, ⟨by (try simp only [hl9_2]); (with_reducible repeat (first | apply Kd.S_alloc | apply Kd.S_drewN | apply Kd.S_drew)); exact Kd.S_mono HO_9.out (fun _ hk => hk.2)⟩, ⟨by (try simp only [hl9_2]); (with_reducible repeat (first | apply Kd.R_alloc | apply Kd.R_drewN | apply Kd.R_drew)); exact HO444.out⟩, ⟨bel⟩⟩
                                · rw [if_neg c41] at H
                                  exact absurd H (by simp)
                              · rw [if_neg c40] at H
                                have c40b0 : decide (0 ≤ t441) = false := decide_eq_false c40
                                clear c40
                                have H' := Aside0.mk H
                                clear H
                                go_wp2_with (first | ((with_reducible refine gate_callee (f := 26) rfl ?_); refine goesL_ (some 71) rfl rfl Try.func26 (by kernel_rfl) rfl #[.int .i64 a0, .slice A1 l1.length c1, .int .i64 x13_2] rfl ga ?_; (with_reducible refine (spec_ContestOf.calls k2 a0 _ _ l1 x13_2 t440 _ ?side1 ?side2 A37.out).mono ?_); (case side1 => exact ck (Kd.C_below HR1.out HB.out)); (case side2 => exact HC1.out); rintro e w45 ⟨rfl, hb⟩; refine ⟨_, rfl, ?_⟩; replace HO_9 := Aside0.mk (Kd.S_below (by (with_reducible repeat (first | apply Kd.S_alloc | apply Kd.S_drewN | apply Kd.S_drew)); exact HO_9.out) hb); replace HO_12 := Aside0.mk (Kd.R_below (rk HO_12.out) hb); replace HB := Aside0.mk (below_step bel hb); (try clear hb)) | (go_at_call 26; (with_reducible refine (spec_ContestOf.calls k2 a0 _ _ y436 x13_2 t441 _ ?side1 ?side2 A39.out).mono ?_); (case side1 => repeat (first | exact (Kd.S_reads' HO_9.out).2.2 | (with_reducible refine Kd.C_alloc ?_ _) | (with_reducible refine Kd.C_drewN ?_ _) | (with_reducible refine Kd.C_drew ?_))); (case side2 => exact (Kd.S_reads' HO_9.out).2.1); rintro e w46 ⟨rfl, hb⟩; replace HO_9 := Aside0.mk (Kd.S_below (by (with_reducible repeat (first | apply Kd.S_alloc | apply Kd.S_drewN | apply Kd.S_drew)); exact HO_9.out) hb); replace HO_12 := Aside0.mk (Kd.R_below (rk HO_12.out) hb); replace HB := Aside0.mk (below_step bel hb); (try clear hb); (try clear hb2); (try clear hk); (try clear hi)))
                                (try simp only [← hl9_2])
                                go_roundg k2
                                case measure => have := HJ4.out; have := HK2.out; omega
                                case rel => exact ⟨(x12_2), (wrap64 (x13_2 + 1)), (es), H', ⟨by have := HJ4.out; have := HK2.out; omega⟩, ⟨by (try simp only [hl9_2]); (with_reducible repeat (first | apply Kd.S_alloc | apply Kd.S_drewN | apply Kd.S_drew)); exact HO_9.out⟩, ⟨by (try simp only [hl9_2]); (with_reducible repeat (first | apply Kd.R_alloc | apply Kd.R_drewN | apply Kd.R_drew)); exact HO_12.out⟩, ⟨bel⟩⟩
                            · rw [if_neg c38] at H
                              have c38b0 : decide (t440 < 0) = false := decide_eq_false c38
                              clear c38
                              have H' := Aside0.mk H
                              clear H
                              go_wp2_with (first | ((with_reducible refine gate_callee (f := 26) rfl ?_); refine goesL_ (some 71) rfl rfl Try.func26 (by kernel_rfl) rfl #[.int .i64 a0, .slice A1 l1.length c1, .int .i64 x13_2] rfl ga ?_; (with_reducible refine (spec_ContestOf.calls k2 a0 _ _ l1 x13_2 t440 _ ?side1 ?side2 A37.out).mono ?_); (case side1 => exact ck (Kd.C_below HR1.out HB.out)); (case side2 => exact HC1.out); rintro e w47 ⟨rfl, hb⟩; refine ⟨_, rfl, ?_⟩; replace HO_9 := Aside0.mk (Kd.S_below (by (with_reducible repeat (first | apply Kd.S_alloc | apply Kd.S_drewN | apply Kd.S_drew)); exact HO_9.out) hb); replace HO_12 := Aside0.mk (Kd.R_below (rk HO_12.out) hb); replace HB := Aside0.mk (below_step bel hb); (try clear hb)))
                              (try simp only [← hl9_2])
                              go_roundg k2
                              case measure => have := HJ4.out; have := HK2.out; omega
                              case rel => exact ⟨(x12_2), (wrap64 (x13_2 + 1)), (es), H', ⟨by have := HJ4.out; have := HK2.out; omega⟩, ⟨by (try simp only [hl9_2]); (with_reducible repeat (first | apply Kd.S_alloc | apply Kd.S_drewN | apply Kd.S_drew)); exact HO_9.out⟩, ⟨by (try simp only [hl9_2]); (with_reducible repeat (first | apply Kd.R_alloc | apply Kd.R_drewN | apply Kd.R_drew)); exact HO_12.out⟩, ⟨bel⟩⟩
                          · rw [if_neg c36] at H
                            have c36b0 : decide (x13_2 < a0) = false := decide_eq_false c36
                            clear c36
                            obtain rfl := Option.some.inj H
                            go_wp2
                            go_ret
                            exact ⟨_, by first | rfl | (simp [errW_none, errW_some] <;> rfl) | (simp only [← hji22]; first | rfl | (simp [errW_none, errW_some] <;> rfl)) | (simp [*, errW_none, errW_some] <;> rfl), rk HO_12.out, bel⟩
                    · rw [if_neg c26] at H
                      exact absurd H (by simp)
                  · rw [if_neg c24] at H
                    exact absurd H (by simp)
                · rw [if_neg c23] at H
                  exact absurd H (by simp)
              · rw [if_neg c21] at H
                exact absurd H (by simp)
            · rw [if_neg c20] at H
              exact absurd H (by simp)
          · rw [if_neg c19] at H
            exact absurd H (by simp)
        · rw [if_neg c18] at H
          exact absurd H (by simp)

end Go.Proofs.Ytaopcamaceddnaa.Y
