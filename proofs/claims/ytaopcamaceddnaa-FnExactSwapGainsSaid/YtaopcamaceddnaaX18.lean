-- Written by a program of this session (wip/xp.py, over the kit's print) out of the translation: functions, and the walks that show them.
import Derived.Test.YtaopcamaceddnaaX0
import Derived.Test.YtaopcamaceddnaaX13
import Derived.Test.YtaopcamaceddnaaX14
import Derived.Test.YtaopcamaceddnaaX16
import Derived.Test.YtaopcamaceddnaaX17
namespace Go.Proofs.Ytaopcamaceddnaa.X
open Go.RowKit Go.Proofs.YtaopcamaceddnaaW.PrintWords Go.Proofs.YtaopcamaceddnaaW.PrintLast Go.Proofs.YtaopcamaceddnaaW.PrintMore
attribute [local go_sem] max2_int min2_int max_two min_two max_three min_three max_four min_four   -- for this text's walks alone
set_option linter.unusedVariables false
set_option linter.unusedSimpArgs false

/-! ### spec_SwapGains: function 37 -/
mutual
def spec_SwapGains.j0 : Nat → Int → List (S38) → Int → Int → Bool → Option (List Int)
  | 0, _, _, _, _, _ => none
  | k + 1, x0, x1, x2, x3, x37 => if x37 = true then (some ([] : List Int)) else ((spec_l20Copy.f k x1).bind fun t309 => (if 0 ≤ x2 then (if x2 < (t309.length : Int) then (if 0 ≤ x3 then (if x3 < (((rd_T38 t309 x2).f0).length : Int) then (if 0 ≤ (wrap64 (x3 + 1)) then (if (wrap64 (x3 + 1)) < (((rd_T38 t309 x2).f0).length : Int) then ((some (t309.set (x2 : Int).toNat (⟨(((rd_T38 t309 x2).f0).set (x3 : Int).toNat (rd ((rd_T38 t309 x2).f0) (wrap64 (x3 + 1)))), (rd_T38 t309 x2).f1, (rd_T38 t309 x2).f2⟩ : S38) : List (S38))).bind fun y320 => (if (wrap64 (x3 + 1)) < (((rd_T38 y320 x2).f0).length : Int) then (spec_SwapGains.l0 k x0 x1 (y320.set (x2 : Int).toNat (⟨(((rd_T38 y320 x2).f0).set ((wrap64 (x3 + 1)) : Int).toNat (rd ((rd_T38 t309 x2).f0) x3)), (rd_T38 y320 x2).f1, (rd_T38 y320 x2).f2⟩ : S38)) (([] : List Int)) 0) else (none))) else (none)) else (none)) else (none)) else (none)) else (none)) else (none)))
def spec_SwapGains.l0 : Nat → Int → List (S38) → List (S38) → List Int → Int → Option (List Int)
  | 0, _, _, _, _, _ => none
  | k + 1, x0, x1, x9, x12, x13 => if x13 < x0 then ((spec_ContestOf.f k x0 x1 x13).bind fun t328 => (if t328 < 0 then ((spec_ContestOf.f k x0 x9 x13).bind fun t329 => (if t329 ≥ 0 then (if x12.length < 17592186044416 then (spec_SwapGains.l0 k x0 x1 x9 (x12 ++ [x13]) (wrap64 (x13 + 1))) else (none)) else (spec_SwapGains.l0 k x0 x1 x9 x12 (wrap64 (x13 + 1))))) else (spec_SwapGains.l0 k x0 x1 x9 x12 (wrap64 (x13 + 1))))) else (some x12)
end
def spec_SwapGains.f (k : Nat) (a0 : Int) (l1 : List (S38)) (a2 : Int) (a3 : Int) : Option (List Int) := (spec_ContestsOk.f k a0 l1).bind fun t305 => (if t305 = true then ((spec_l01In.f a2 0 (wrap64 ((l1.length : Int) - 1))).bind fun t306 => (if t306 = true then (if 0 ≤ a2 then (if a2 < (l1.length : Int) then ((spec_l01In.f a3 0 (wrap64 ((((rd_T38 l1 a2).f0).length : Int) - 2))).bind fun t308 => (spec_SwapGains.j0 k a0 l1 a2 a3 (!t308))) else (none)) else (none)) else (spec_SwapGains.j0 k a0 l1 a2 a3 true))) else (spec_SwapGains.j0 k a0 l1 a2 a3 true))
theorem spec_SwapGains.mono_l : ∀ k, (∀ y0 y1 y2 y3 y4, LeO (spec_SwapGains.j0 k y0 y1 y2 y3 y4) (spec_SwapGains.j0 (k + 1) y0 y1 y2 y3 y4)) ∧ (∀ y0 y1 y2 y3 y4, LeO (spec_SwapGains.l0 k y0 y1 y2 y3 y4) (spec_SwapGains.l0 (k + 1) y0 y1 y2 y3 y4))
  | 0 => ⟨fun _ _ _ _ _ r h => by simp [spec_SwapGains.j0] at h, fun _ _ _ _ _ r h => by simp [spec_SwapGains.l0] at h⟩
  | k + 1 => by
    obtain ⟨ih0, ih1⟩ := spec_SwapGains.mono_l k
    refine ⟨?_, ?_⟩
    · intro y0 y1 y2 y3 y4
      unfold spec_SwapGains.j0
      repeat' first
      | (with_reducible exact ih0 _ _ _ _ _)
      | (with_reducible exact ih1 _ _ _ _ _)
      | (with_reducible exact spec_ContestOf.mono _ _ _ _)
      | (with_reducible exact spec_ContestsOk.mono _ _ _)
      | (with_reducible exact spec_l20Copy.mono _ _)
      | (with_reducible exact LeO.refl _)
      | (with_reducible exact LeO.none _)
      | (with_reducible refine LeO.ite ?_ ?_)
      | (with_reducible refine LeO.bind ?_ (fun _ => ?_))
      | exact ih0 _ _ _ _ _
      | exact ih1 _ _ _ _ _
      | exact spec_ContestOf.mono _ _ _ _
      | exact spec_ContestsOk.mono _ _ _
      | exact spec_l20Copy.mono _ _
      | exact LeO.none _
      | refine LeO.ite ?_ ?_
      | refine LeO.bind ?_ (fun _ => ?_)
    · intro y0 y1 y2 y3 y4
      unfold spec_SwapGains.l0
      repeat' first
      | (with_reducible exact ih0 _ _ _ _ _)
      | (with_reducible exact ih1 _ _ _ _ _)
      | (with_reducible exact spec_ContestOf.mono _ _ _ _)
      | (with_reducible exact spec_ContestsOk.mono _ _ _)
      | (with_reducible exact spec_l20Copy.mono _ _)
      | (with_reducible exact LeO.refl _)
      | (with_reducible exact LeO.none _)
      | (with_reducible refine LeO.ite ?_ ?_)
      | (with_reducible refine LeO.bind ?_ (fun _ => ?_))
      | exact ih0 _ _ _ _ _
      | exact ih1 _ _ _ _ _
      | exact spec_ContestOf.mono _ _ _ _
      | exact spec_ContestsOk.mono _ _ _
      | exact spec_l20Copy.mono _ _
      | exact LeO.none _
      | refine LeO.ite ?_ ?_
      | refine LeO.bind ?_ (fun _ => ?_)
theorem spec_SwapGains.mono : ∀ a0 a1 a2 a3 k, LeO (spec_SwapGains.f k a0 a1 a2 a3) (spec_SwapGains.f (k + 1) a0 a1 a2 a3) := by
  intro a0 a1 a2 a3 k
  obtain ⟨ih0, ih1⟩ := spec_SwapGains.mono_l k
  unfold spec_SwapGains.f
  repeat' first
      | (with_reducible exact ih0 _ _ _ _ _)
      | (with_reducible exact ih1 _ _ _ _ _)
      | (with_reducible exact spec_ContestOf.mono _ _ _ _)
      | (with_reducible exact spec_ContestsOk.mono _ _ _)
      | (with_reducible exact spec_l20Copy.mono _ _)
      | (with_reducible exact LeO.refl _)
      | (with_reducible exact LeO.none _)
      | (with_reducible refine LeO.ite ?_ ?_)
      | (with_reducible refine LeO.bind ?_ (fun _ => ?_))
      | exact ih0 _ _ _ _ _
      | exact ih1 _ _ _ _ _
      | exact spec_ContestOf.mono _ _ _ _
      | exact spec_ContestsOk.mono _ _ _
      | exact spec_l20Copy.mono _ _
      | exact LeO.none _
      | refine LeO.ite ?_ ?_
      | refine LeO.bind ?_ (fun _ => ?_)
set_option maxHeartbeats 8000000 in
set_option maxRecDepth 100000 in
theorem spec_SwapGains.calls (k : Nat) (a0 : Int) (A1 : Option Addr) (c1 : Nat) (l1 : List (S38)) (a2 : Int) (a3 : Int) (r : List Int) (w : World) (hr1 : Kd.C k38 w A1 l1.length l1) (hc1 : l1.length ≤ c1) (h : spec_SwapGains.f k a0 l1 a2 a3 = some r) :
    Calls Try.prog 37 #[.int .i64 a0, .slice A1 l1.length c1, .int .i64 a2, .int .i64 a3] w fun e w' => ∃ v0_ : Value, e = .returned (v0_) ∧ Kd.R (Kd.int .i64) 3 w' w.heap.size (fun _ => True) v0_ r ∧ Below w.heap.size w w' := by
  have HR1 := Aside0.mk hr1
  have HC1 := Aside0.mk hc1
  clear hr1 hc1
  have HB := Aside0.mk (Below.refl w.heap.size w)
  have H : ((spec_ContestsOk.f k a0 l1).bind fun t305 => (if t305 = true then ((spec_l01In.f a2 0 (wrap64 ((l1.length : Int) - 1))).bind fun t306 => (if t306 = true then (if 0 ≤ a2 then (if a2 < (l1.length : Int) then ((spec_l01In.f a3 0 (wrap64 ((((rd_T38 l1 a2).f0).length : Int) - 2))).bind fun t308 => (spec_SwapGains.j0 k a0 l1 a2 a3 (!t308))) else (none)) else (none)) else (spec_SwapGains.j0 k a0 l1 a2 a3 true))) else (spec_SwapGains.j0 k a0 l1 a2 a3 true))) = some r := h
  clear h
  have HC5 := Aside0.mk H
  clear H
  go_enter Try.func37, Try.ntmps37
  go_upto_region 1 with (fail)
  go_cut [37] (fun v37 wc => ∃ (kq : Nat) (x37_4 : Bool), v37 = .bool x37_4 ∧ Aside0 (spec_SwapGains.j0 kq a0 l1 a2 a3 x37_4 = some r) ∧ Aside0 (kq ≤ k) ∧ Aside0 (Below w.heap.size w wc))
  case first =>
    have H := HC5.out
    clear HC5
    replace H := Option.bind_eq_some_iff.mp H
    obtain ⟨t305, A60, H⟩ := H
    replace H : (if t305 = true then ((spec_l01In.f a2 0 (wrap64 ((l1.length : Int) - 1))).bind fun t306 => (if t306 = true then (if 0 ≤ a2 then (if a2 < (l1.length : Int) then ((spec_l01In.f a3 0 (wrap64 ((((rd_T38 l1 a2).f0).length : Int) - 2))).bind fun t308 => (spec_SwapGains.j0 k a0 l1 a2 a3 (!t308))) else (none)) else (none)) else (spec_SwapGains.j0 k a0 l1 a2 a3 true))) else (spec_SwapGains.j0 k a0 l1 a2 a3 true)) = some r := H
    have A6 := Aside0.mk A60
    clear A60
    by_cases c7 : t305 = true
    · subst c7
      have H1 : ((spec_l01In.f a2 0 (wrap64 ((l1.length : Int) - 1))).bind fun t306 => (if t306 = true then (if 0 ≤ a2 then (if a2 < (l1.length : Int) then ((spec_l01In.f a3 0 (wrap64 ((((rd_T38 l1 a2).f0).length : Int) - 2))).bind fun t308 => (spec_SwapGains.j0 k a0 l1 a2 a3 (!t308))) else (none)) else (none)) else (spec_SwapGains.j0 k a0 l1 a2 a3 true))) = some r := by rw [if_pos rfl] at H; exact H
      clear H
      have H := H1
      clear H1
      replace H := Option.bind_eq_some_iff.mp H
      obtain ⟨t306, A80, H⟩ := H
      replace H : (if t306 = true then (if 0 ≤ a2 then (if a2 < (l1.length : Int) then ((spec_l01In.f a3 0 (wrap64 ((((rd_T38 l1 a2).f0).length : Int) - 2))).bind fun t308 => (spec_SwapGains.j0 k a0 l1 a2 a3 (!t308))) else (none)) else (none)) else (spec_SwapGains.j0 k a0 l1 a2 a3 true)) = some r := H
      have A8 := Aside0.mk A80
      clear A80
      by_cases c9 : t306 = true
      · subst c9
        have H1 : (if 0 ≤ a2 then (if a2 < (l1.length : Int) then ((spec_l01In.f a3 0 (wrap64 ((((rd_T38 l1 a2).f0).length : Int) - 2))).bind fun t308 => (spec_SwapGains.j0 k a0 l1 a2 a3 (!t308))) else (none)) else (none)) = some r := by rw [if_pos rfl] at H; exact H
        clear H
        have H := H1
        clear H1
        by_cases c10 : 0 ≤ a2
        · rw [if_pos c10] at H
          have c10b0 : decide (0 ≤ a2) = true := decide_eq_true c10
          clear c10
          (first | rw [c10b0] | (simp only [i64_w, i32_w]; rw [c10b0]) | skip)
          by_cases c11 : a2 < (l1.length : Int)
          · rw [if_pos c11] at H
            have c11b0 : decide (a2 < (l1.length : Int)) = true := decide_eq_true c11
            clear c11
            replace H := Option.bind_eq_some_iff.mp H
            obtain ⟨t308, A120, H⟩ := H
            replace H : (spec_SwapGains.j0 k a0 l1 a2 a3 (!t308)) = some r := H
            have A12 := Aside0.mk A120
            clear A120
            have H' := Aside0.mk H
            clear H
            go_wp2_with (first | ((with_reducible refine gate_callee (f := 13) rfl ?_); refine goesL_ (some 16) rfl rfl Try.func13 (by kernel_rfl) rfl #[.int .i64 a0, .slice A1 l1.length c1] rfl ga ?_; (with_reducible refine (spec_ContestsOk.calls k a0 _ _ l1 true _ ?side1 ?side2 A6.out).mono ?_); (case side1 => exact ck (Kd.C_below HR1.out HB.out)); (case side2 => exact HC1.out); rintro e w13 ⟨rfl, hb⟩; refine ⟨_, rfl, ?_⟩; replace HB := Aside0.mk (below_step bel hb); (try clear hb)) | (go_at_call 39; (with_reducible refine (spec_l01In.calls a2 0 (wrap64 ((l1.length : Int) - 1)) true _ A8.out).mono ?_); rintro e w' ⟨rfl, ⟨nd, rfl⟩⟩; have p307 : 0 ≤ (a2 : Int) := asm; have q307 : a2 < (l1.length : Int) := asm; obtain ⟨ad307, A307_0, c307_0, e307, hx307_0, hx307_1, hx307_2, hl307_0, hi307_0⟩ := at_T38 HR1.out a2 p307 q307; cases e307; replace hx307_0 := hcl HB.out hx307_0; replace hx307_1 := hcl HB.out hx307_1; replace hx307_2 := hcl HB.out hx307_2; have HR307_0 := Aside0.mk hi307_0; have HC307_0 := Aside0.mk hl307_0; clear hi307_0 hl307_0; replace p307 := eq_true p307; replace q307 := eq_true q307) | (go_at_call 39; (with_reducible refine (spec_l01In.calls a3 0 (wrap64 ((((rd_T38 l1 a2).f0).length : Int) - 2)) t308 _ A12.out).mono ?_); rintro e w' ⟨rfl, ⟨nd, rfl⟩⟩))
            go_meet
            case rel => exact ⟨_, (!t308), (es), H', ⟨by first | omega | exact Nat.le_refl _⟩, ⟨bel⟩⟩
          · rw [if_neg c11] at H
            exact absurd H (by simp)
        · rw [if_neg c10] at H
          exact absurd H (by simp)
      · replace c9 := Bool.eq_false_iff.mpr c9
        subst c9
        have H1 : (spec_SwapGains.j0 k a0 l1 a2 a3 true) = some r := by rw [if_neg (show ¬ (false = true) by decide)] at H; exact H
        clear H
        have H := H1
        clear H1
        have H' := Aside0.mk H
        clear H
        go_wp2_with (first | ((with_reducible refine gate_callee (f := 13) rfl ?_); refine goesL_ (some 16) rfl rfl Try.func13 (by kernel_rfl) rfl #[.int .i64 a0, .slice A1 l1.length c1] rfl ga ?_; (with_reducible refine (spec_ContestsOk.calls k a0 _ _ l1 true _ ?side1 ?side2 A6.out).mono ?_); (case side1 => exact ck (Kd.C_below HR1.out HB.out)); (case side2 => exact HC1.out); rintro e w14 ⟨rfl, hb⟩; refine ⟨_, rfl, ?_⟩; replace HB := Aside0.mk (below_step bel hb); (try clear hb)) | (go_at_call 39; (with_reducible refine (spec_l01In.calls a2 0 (wrap64 ((l1.length : Int) - 1)) false _ A8.out).mono ?_); rintro e w' ⟨rfl, ⟨nd, rfl⟩⟩))
        go_meet
        case rel => exact ⟨_, (true), (es), H', ⟨by first | omega | exact Nat.le_refl _⟩, ⟨bel⟩⟩
    · replace c7 := Bool.eq_false_iff.mpr c7
      subst c7
      have H1 : (spec_SwapGains.j0 k a0 l1 a2 a3 true) = some r := by rw [if_neg (show ¬ (false = true) by decide)] at H; exact H
      clear H
      have H := H1
      clear H1
      have H' := Aside0.mk H
      clear H
      go_wp2_with (first | ((with_reducible refine gate_callee (f := 13) rfl ?_); refine goesL_ (some 16) rfl rfl Try.func13 (by kernel_rfl) rfl #[.int .i64 a0, .slice A1 l1.length c1] rfl ga ?_; (with_reducible refine (spec_ContestsOk.calls k a0 _ _ l1 false _ ?side1 ?side2 A6.out).mono ?_); (case side1 => exact ck (Kd.C_below HR1.out HB.out)); (case side2 => exact HC1.out); rintro e w15 ⟨rfl, hb⟩; refine ⟨_, rfl, ?_⟩; replace HB := Aside0.mk (below_step bel hb); (try clear hb)))
      go_meet
      case rel => exact ⟨_, (true), (es), H', ⟨by first | omega | exact Nat.le_refl _⟩, ⟨bel⟩⟩
  case rest =>
    clear HC5
    try clear c1; try clear p2; try clear c3; try clear p3; try clear q3; try clear hx3; try clear p6; try clear c7; try clear c9; try clear c10; try clear c10b0; try clear c11; try clear c11b0; try clear c13; try clear hx307_0; try clear hx307_1; try clear hx307_2; try clear p307; try clear q307
    obtain ⟨kq, x37_4, rfl, HA, HJ4, HB⟩ := hcut
    cases kq with
    | zero => exact absurd HA.out (by simp [spec_SwapGains.j0])
    | succ kj4 =>
      have H := HA.out
      clear HA
      simp only [spec_SwapGains.j0] at H
      by_cases c16 : x37_4 = true
      · subst c16
        have H1 : (some ([] : List Int)) = some r := by rw [if_pos rfl] at H; exact H
        clear H
        have H := H1
        clear H1
        obtain rfl := Option.some.inj H
        go_wp2
        go_ret
        exact ⟨_, er, by first | exact Kd.R_nil _ _ _ _ _ | exact Kd.N_nil _ _ _ _ _ | exact Kd.V_nil _ _ _ _ _ | exact Kd.Q_nil _ _ _ _ _ | exact Kd.S_nil _ _ _ _ _, bel⟩
      · replace c16 := Bool.eq_false_iff.mpr c16
        subst c16
        have H1 : ((spec_l20Copy.f kj4 l1).bind fun t309 => (if 0 ≤ a2 then (if a2 < (t309.length : Int) then (if 0 ≤ a3 then (if a3 < (((rd_T38 t309 a2).f0).length : Int) then (if 0 ≤ (wrap64 (a3 + 1)) then (if (wrap64 (a3 + 1)) < (((rd_T38 t309 a2).f0).length : Int) then ((some (t309.set (a2 : Int).toNat (⟨(((rd_T38 t309 a2).f0).set (a3 : Int).toNat (rd ((rd_T38 t309 a2).f0) (wrap64 (a3 + 1)))), (rd_T38 t309 a2).f1, (rd_T38 t309 a2).f2⟩ : S38) : List (S38))).bind fun y320 => (if (wrap64 (a3 + 1)) < (((rd_T38 y320 a2).f0).length : Int) then (spec_SwapGains.l0 kj4 a0 l1 (y320.set (a2 : Int).toNat (⟨(((rd_T38 y320 a2).f0).set ((wrap64 (a3 + 1)) : Int).toNat (rd ((rd_T38 t309 a2).f0) a3)), (rd_T38 y320 a2).f1, (rd_T38 y320 a2).f2⟩ : S38)) (([] : List Int)) 0) else (none))) else (none)) else (none)) else (none)) else (none)) else (none)) else (none))) = some r := by rw [if_neg (show ¬ (false = true) by decide)] at H; exact H
        clear H
        have H := H1
        clear H1
        replace H := Option.bind_eq_some_iff.mp H
        obtain ⟨t309, A170, H⟩ := H
        replace H : (if 0 ≤ a2 then (if a2 < (t309.length : Int) then (if 0 ≤ a3 then (if a3 < (((rd_T38 t309 a2).f0).length : Int) then (if 0 ≤ (wrap64 (a3 + 1)) then (if (wrap64 (a3 + 1)) < (((rd_T38 t309 a2).f0).length : Int) then ((some (t309.set (a2 : Int).toNat (⟨(((rd_T38 t309 a2).f0).set (a3 : Int).toNat (rd ((rd_T38 t309 a2).f0) (wrap64 (a3 + 1)))), (rd_T38 t309 a2).f1, (rd_T38 t309 a2).f2⟩ : S38) : List (S38))).bind fun y320 => (if (wrap64 (a3 + 1)) < (((rd_T38 y320 a2).f0).length : Int) then (spec_SwapGains.l0 kj4 a0 l1 (y320.set (a2 : Int).toNat (⟨(((rd_T38 y320 a2).f0).set ((wrap64 (a3 + 1)) : Int).toNat (rd ((rd_T38 t309 a2).f0) a3)), (rd_T38 y320 a2).f1, (rd_T38 y320 a2).f2⟩ : S38)) (([] : List Int)) 0) else (none))) else (none)) else (none)) else (none)) else (none)) else (none)) else (none)) = some r := H
        have A17 := Aside0.mk A170
        clear A170
        by_cases c18 : 0 ≤ a2
        · rw [if_pos c18] at H
          have c18b0 : decide (0 ≤ a2) = true := decide_eq_true c18
          clear c18
          by_cases c19 : a2 < (t309.length : Int)
          · rw [if_pos c19] at H
            have c19b0 : decide (a2 < (t309.length : Int)) = true := decide_eq_true c19
            clear c19
            by_cases c20 : 0 ≤ a3
            · rw [if_pos c20] at H
              have c20b0 : decide (0 ≤ a3) = true := decide_eq_true c20
              clear c20
              by_cases c21 : a3 < (((rd_T38 t309 a2).f0).length : Int)
              · rw [if_pos c21] at H
                have c21b0 : decide (a3 < (((rd_T38 t309 a2).f0).length : Int)) = true := decide_eq_true c21
                clear c21
                obtain ⟨ji22, hji22⟩ : ∃ j_ : Int, (wrap64 (a3 + 1)) = j_ := ⟨_, rfl⟩
                replace H : (if 0 ≤ (ji22) then (if (ji22) < (((rd_T38 t309 a2).f0).length : Int) then ((some (t309.set (a2 : Int).toNat (⟨(((rd_T38 t309 a2).f0).set (a3 : Int).toNat (rd ((rd_T38 t309 a2).f0) (ji22))), (rd_T38 t309 a2).f1, (rd_T38 t309 a2).f2⟩ : S38) : List (S38))).bind fun y320 => (if (ji22) < (((rd_T38 y320 a2).f0).length : Int) then (spec_SwapGains.l0 kj4 a0 l1 (y320.set (a2 : Int).toNat (⟨(((rd_T38 y320 a2).f0).set ((ji22) : Int).toNat (rd ((rd_T38 t309 a2).f0) a3)), (rd_T38 y320 a2).f1, (rd_T38 y320 a2).f2⟩ : S38)) (([] : List Int)) 0) else (none))) else (none)) else (none)) = some r := by first | (rw [hji22] at H; exact H) | (simp only [hji22] at H ⊢; exact H)
                (try rw [hji22] at A17)
                have hji22w : (IntKind.i64.wrap (a3 + 1)) = ji22 := (i64_w _).trans hji22
                by_cases c23 : 0 ≤ (ji22)
                · rw [if_pos c23] at H
                  have c23b0 : decide (0 ≤ (ji22)) = true := decide_eq_true c23
                  clear c23
                  by_cases c24 : (ji22) < (((rd_T38 t309 a2).f0).length : Int)
                  · rw [if_pos c24] at H
                    have c24b0 : decide ((ji22) < (((rd_T38 t309 a2).f0).length : Int)) = true := decide_eq_true c24
                    clear c24
                    obtain ⟨y318, hy318⟩ : ∃ y_ : List Int, y_ = (((rd_T38 t309 a2).f0).set (a3 : Int).toNat (rd ((rd_T38 t309 a2).f0) (ji22))) := ⟨_, rfl⟩
                    replace H : ((some (t309.set (a2 : Int).toNat (⟨y318, (rd_T38 t309 a2).f1, (rd_T38 t309 a2).f2⟩ : S38) : List (S38))).bind fun y320 => (if (ji22) < (((rd_T38 y320 a2).f0).length : Int) then (spec_SwapGains.l0 kj4 a0 l1 (y320.set (a2 : Int).toNat (⟨(((rd_T38 y320 a2).f0).set ((ji22) : Int).toNat (rd ((rd_T38 t309 a2).f0) a3)), (rd_T38 y320 a2).f1, (rd_T38 y320 a2).f2⟩ : S38)) (([] : List Int)) 0) else (none))) = some r := by first | (rw [hy318]; with_reducible exact H) | (have H2_ := (Option.bind_some _ _).symm.trans H; rw [hy318]; with_reducible exact H2_) | (have H2_ := (Option.bind_some _ _).symm.trans H; with_reducible exact H2_) | with_reducible exact H | (rw [hy318]; exact H) | exact H
                    have Ny318 := Aside0.mk hy318
                    clear hy318
                    obtain ⟨y320, hy320⟩ : ∃ y_ : List (S38), y_ = (t309.set (a2 : Int).toNat (⟨y318, (rd_T38 t309 a2).f1, (rd_T38 t309 a2).f2⟩ : S38)) := ⟨_, rfl⟩
                    replace H : (if (ji22) < (((rd_T38 y320 a2).f0).length : Int) then (spec_SwapGains.l0 kj4 a0 l1 (y320.set (a2 : Int).toNat (⟨(((rd_T38 y320 a2).f0).set ((ji22) : Int).toNat (rd ((rd_T38 t309 a2).f0) a3)), (rd_T38 y320 a2).f1, (rd_T38 y320 a2).f2⟩ : S38)) (([] : List Int)) 0) else (none)) = some r := by first | (rw [hy320]; with_reducible exact H) | (have H2_ := (Option.bind_some _ _).symm.trans H; rw [hy320]; with_reducible exact H2_) | (have H2_ := (Option.bind_some _ _).symm.trans H; with_reducible exact H2_) | with_reducible exact H | (rw [hy320]; exact H) | exact H
                    have Ny320 := Aside0.mk hy320
                    clear hy320
                    by_cases c26 : (ji22) < (((rd_T38 y320 a2).f0).length : Int)
                    · rw [if_pos c26] at H
                      have c26b0 : decide ((ji22) < (((rd_T38 y320 a2).f0).length : Int)) = true := decide_eq_true c26
                      clear c26
                      obtain ⟨y322, hy322⟩ : ∃ y_ : List Int, y_ = (((rd_T38 y320 a2).f0).set ((ji22) : Int).toNat (rd ((rd_T38 t309 a2).f0) a3)) := ⟨_, rfl⟩
                      replace H : (spec_SwapGains.l0 kj4 a0 l1 (y320.set (a2 : Int).toNat (⟨y322, (rd_T38 y320 a2).f1, (rd_T38 y320 a2).f2⟩ : S38)) (([] : List Int)) 0) = some r := by first | (rw [hy322]; with_reducible exact H) | (have H2_ := (Option.bind_some _ _).symm.trans H; rw [hy322]; with_reducible exact H2_) | (have H2_ := (Option.bind_some _ _).symm.trans H; with_reducible exact H2_) | with_reducible exact H | (rw [hy322]; exact H) | exact H
                      have Ny322 := Aside0.mk hy322
                      clear hy322
                      obtain ⟨y324, hy324⟩ : ∃ y_ : List (S38), y_ = (y320.set (a2 : Int).toNat (⟨y322, (rd_T38 y320 a2).f1, (rd_T38 y320 a2).f2⟩ : S38)) := ⟨_, rfl⟩
                      replace H : (spec_SwapGains.l0 kj4 a0 l1 y324 (([] : List Int)) 0) = some r := by first | (rw [hy324]; with_reducible exact H) | (have H2_ := (Option.bind_some _ _).symm.trans H; rw [hy324]; with_reducible exact H2_) | (have H2_ := (Option.bind_some _ _).symm.trans H; with_reducible exact H2_) | with_reducible exact H | (rw [hy324]; exact H) | exact H
                      have Ny324 := Aside0.mk hy324
                      clear hy324
                      obtain ⟨y325, hy325⟩ : ∃ y_ : List Int, y_ = (([] : List Int)) := ⟨_, rfl⟩
                      replace H : (spec_SwapGains.l0 kj4 a0 l1 y324 y325 0) = some r := by first | (rw [hy325]; with_reducible exact H) | (have H2_ := (Option.bind_some _ _).symm.trans H; rw [hy325]; with_reducible exact H2_) | (have H2_ := (Option.bind_some _ _).symm.trans H; with_reducible exact H2_) | with_reducible exact H | (rw [hy325]; exact H) | exact H
                      have Ny325 := Aside0.mk hy325
                      clear hy325
                      have H' := Aside0.mk H
                      clear H
                      go_wp2_with (first | ((with_reducible refine gate_callee (f := 56) rfl ?_); refine goesL_ (some 39) rfl rfl Try.func56 (by kernel_rfl) rfl #[.slice A1 l1.length c1] rfl ga ?_; (with_reducible refine (spec_l20Copy.calls kj4 _ _ l1 t309 _ ?side1 ?side2 A17.out).mono ?_); (case side1 => exact ck (Kd.C_below HR1.out HB.out)); (case side2 => exact HC1.out); rintro e w28 ⟨v310, rfl, ho0, hb⟩; refine ⟨_, rfl, ?_⟩; have HO311 := Aside0.mk (Kd.S_lower ho0 (below_size bel)); replace HB := Aside0.mk (below_step bel hb); (try clear hb); (try clear ho0); obtain ⟨Ao29, co29, eo29⟩ := Kd.S_slice HO311.out; subst eo29; have p312 : 0 ≤ (a2 : Int) := asm; have q312 : a2 < (t309.length : Int) := asm; obtain ⟨ad312, A312_0, c312_0, e312, hx312_0, hx312_1, hx312_2, hl312_0, hi312_0⟩ := at_T38 (Kd.S_reads' HO311.out).2.2 a2 p312 q312; cases e312; obtain ⟨ce312, hce312, hMe312, hcc312⟩ := Kd.S_get HO311.out z38 a2 p312 (by first | exact q312 | exact asm | (have e_ := (Kd.S_reads' HO311.out).1; omega)); obtain ⟨ve312_0, rfl, ge312_0⟩ := k38_openM hMe312; have hv312_0 := hcc312 0 _ rfl; rw [Nat.add_zero] at hv312_0; replace hv312_0 := Option.some.inj (hv312_0.symm.trans hx312_0); rw [hv312_0] at ge312_0; have HL312_0 := Aside0.mk (show Kd.R (Kd.int .i64) 3 _ _ _ _ ((rd_T38 t309 a2).f0) from ge312_0); clear hv312_0 ge312_0; have HX312_0 := Aside0.mk hx312_0; clear hcc312 hce312; have HR312_0 := Aside0.mk hi312_0; have HC312_0 := Aside0.mk hl312_0; clear hi312_0 hl312_0; replace p312 := eq_true p312; replace q312 := eq_true q312; have p313 : 0 ≤ (a2 : Int) := asm; have q313 : a2 < (t309.length : Int) := asm; obtain ⟨ad313, A313_0, c313_0, e313, hx313_0, hx313_1, hx313_2, hl313_0, hi313_0⟩ := at_T38 (Kd.S_reads' HO311.out).2.2 a2 p313 q313; obtain rfl : ad312 = ad313 := (by injection e313); obtain ⟨ce313, hce313, hMe313, hcc313⟩ := Kd.S_get HO311.out z38 a2 p313 (by first | exact q313 | exact asm | (have e_ := (Kd.S_reads' HO311.out).1; omega)); obtain ⟨ve313_0, rfl, ge313_0⟩ := k38_openM hMe313; have hv313_0 := hcc313 0 _ rfl; rw [Nat.add_zero] at hv313_0; replace hv313_0 := Option.some.inj (hv313_0.symm.trans hx313_0); rw [hv313_0] at ge313_0; have HL313_0 := Aside0.mk (show Kd.R (Kd.int .i64) 3 _ _ _ _ ((rd_T38 t309 a2).f0) from ge313_0); clear hv313_0 ge313_0; have HX313_0 := Aside0.mk hx313_0; clear hcc313 hce313; have HR313_0 := Aside0.mk hi313_0; have HC313_0 := Aside0.mk hl313_0; clear hi313_0 hl313_0; replace p313 := eq_true p313; replace q313 := eq_true q313; have ea_ := Option.some.inj (hx312_0.symm.trans hx313_0); injection ea_ with ea_ en_ ec_; subst ea_; subst ec_; clear en_; have p314 : 0 ≤ (a3 : Int) := asm; have q314 : a3 < (((rd_T38 t309 a2).f0).length : Int) := asm; obtain ⟨ad314, e314, hx314_0⟩ := Kd.at_int (by repeat (first | (with_reducible exact HR313_0.out) | (with_reducible refine Kd.C_alloc ?_ _) | (with_reducible refine Kd.C_drewN ?_ _) | (with_reducible refine Kd.C_drew ?_) | exact HR313_0.out)) a3 p314 q314; cases e314; replace p314 := eq_true p314; replace q314 := eq_true q314; have p315 : 0 ≤ (a2 : Int) := asm; have q315 : a2 < (t309.length : Int) := asm; obtain ⟨ad315, A315_0, c315_0, e315, hx315_0, hx315_1, hx315_2, hl315_0, hi315_0⟩ := at_T38 (Kd.S_reads' HO311.out).2.2 a2 p315 q315; obtain rfl : ad312 = ad315 := (by injection e315); obtain ⟨ce315, hce315, hMe315, hcc315⟩ := Kd.S_get HO311.out z38 a2 p315 (by first | exact q315 | exact asm | (have e_ := (Kd.S_reads' HO311.out).1; omega)); obtain ⟨ve315_0, rfl, ge315_0⟩ := k38_openM hMe315; have hv315_0 := hcc315 0 _ rfl; rw [Nat.add_zero] at hv315_0; replace hv315_0 := Option.some.inj (hv315_0.symm.trans hx315_0); rw [hv315_0] at ge315_0; have HL315_0 := Aside0.mk (show Kd.R (Kd.int .i64) 3 _ _ _ _ ((rd_T38 t309 a2).f0) from ge315_0); clear hv315_0 ge315_0; have HX315_0 := Aside0.mk hx315_0; clear hcc315 hce315; have HR315_0 := Aside0.mk hi315_0; have HC315_0 := Aside0.mk hl315_0; clear hi315_0 hl315_0; replace p315 := eq_true p315; replace q315 := eq_true q315; have ea_ := Option.some.inj (hx312_0.symm.trans hx315_0); injection ea_ with ea_ en_ ec_; subst ea_; subst ec_; clear en_; have p316 : 0 ≤ (a2 : Int) := asm; have q316 : a2 < (t309.length : Int) := asm; obtain ⟨ad316, A316_0, c316_0, e316, hx316_0, hx316_1, hx316_2, hl316_0, hi316_0⟩ := at_T38 (Kd.S_reads' HO311.out).2.2 a2 p316 q316; obtain rfl : ad312 = ad316 := (by injection e316); obtain ⟨ce316, hce316, hMe316, hcc316⟩ := Kd.S_get HO311.out z38 a2 p316 (by first | exact q316 | exact asm | (have e_ := (Kd.S_reads' HO311.out).1; omega)); obtain ⟨ve316_0, rfl, ge316_0⟩ := k38_openM hMe316; have hv316_0 := hcc316 0 _ rfl; rw [Nat.add_zero] at hv316_0; replace hv316_0 := Option.some.inj (hv316_0.symm.trans hx316_0); rw [hv316_0] at ge316_0; have HL316_0 := Aside0.mk (show Kd.R (Kd.int .i64) 3 _ _ _ _ ((rd_T38 t309 a2).f0) from ge316_0); clear hv316_0 ge316_0; have HX316_0 := Aside0.mk hx316_0; clear hcc316 hce316; have HR316_0 := Aside0.mk hi316_0; have HC316_0 := Aside0.mk hl316_0; clear hi316_0 hl316_0; replace p316 := eq_true p316; replace q316 := eq_true q316; have ea_ := Option.some.inj (hx312_0.symm.trans hx316_0); injection ea_ with ea_ en_ ec_; subst ea_; subst ec_; clear en_; have p317 : 0 ≤ ((ji22) : Int) := asm; have q317 : (ji22) < (((rd_T38 t309 a2).f0).length : Int) := asm; obtain ⟨ad317, e317, hx317_0⟩ := Kd.at_int (by repeat (first | (with_reducible exact HR316_0.out) | (with_reducible refine Kd.C_alloc ?_ _) | (with_reducible refine Kd.C_drewN ?_ _) | (with_reducible refine Kd.C_drew ?_) | exact HR316_0.out)) (ji22) p317 q317; cases e317; replace p317 := eq_true p317; replace q317 := eq_true q317; have p25 : 0 ≤ (a3 : Int) := asm; have q25 : (a3 : Int) < ((((rd_T38 t309 a2).f0).length : Int) : Int) := asm; obtain ⟨go25, co25, eo25, gb25, gl25, cl25, HG25⟩ := Kd.R_form HL315_0.out (by omega); (first | cases eo25 | (injection eo25 with ea_ en_ ec_; (first | subst ea_ | (injection ea_ with ea_; subst ea_)); subst ec_; clear en_)); have GB25 := Aside0.mk gb25; have GG25 := Aside0.mk HG25; clear gb25 gl25 HG25; (first | simp only [add_plain] at hx317_0 | skip); obtain ⟨hx25_0, hf25_0⟩ := Kd.R_celln 0 HL315_0.out (a3 : Int) p25 q25; replace p25 := eq_true p25; replace q25 := eq_true q25; have hq30 : (a2 : Int) < (t309.length : Int) := (by have h_ : (a2 : Int) < ((t309.length : Int) : Int) := asm; first | exact h_ | (have e_ := (Kd.S_reads' HO311.out).1; omega) | simpa only [List.length_set, List.length_set] using h_); obtain ⟨oki30, ce30, hcl30, hM30, hcc30, hok30, hbk30⟩ := Kd.S_borrow HO311.out z38 (a2 : Int) (asm) hq30; obtain ⟨ve30_0, rfl, ge30_0⟩ := k38_openM hM30; have hv30 := hcc30 0 _ rfl; rw [Nat.add_zero] at hv30; replace hv30 := Option.some.inj (hv30.symm.trans HX315_0.out); subst hv30; clear hcc30 hcl30; replace ge30_0 := (show Kd.R (Kd.int .i64) 3 _ _ _ _ ((rd_T38 t309 a2).f0) from ge30_0); have HP30 := Kd.R_putg ge30_0 (a3 : Int) (rd ((rd_T38 t309 a2).f0) (ji22))) | ((with_reducible refine gate_store (t := 3) (p := 56) rfl ?_); refine store_event (t := 3) (p := 56) (v := ?vo_w31) (w1 := (w28.setCell ⟨go25, (a3 : Int).toNat, none⟩ (.int .i64 (rd ((rd_T38 t309 a2).f0) (ji22))))) ?hg ?ho ?hn ?hr ?_; (case ho => rfl); (case hg => rfl); (case hn => rfl); (case hr => first | (go_simp; done) | (go_simp; rfl)); intro w31 hw; have hg : w28.grownBy w31 (some go25) := (by rw [hw]; exact HP30.2); have hz_ : Kd.R (Kd.int .i64) 3 w31 w.heap.size oki30 (.slice (some ⟨go25, 0, none⟩) ((rd_T38 t309 a2).f0).length c312_0) y318 := (by rw [hw, Ny318.out]; exact HP30.1); have hp_ : Kd.S k38 38 w31 w.heap.size (fun _ => True) (.slice (some ad312) t309.length co29) y320 := (by rw [Ny320.out]; exact hbk30 hg (fun k_ e_ => by injection e_ with e_; subst e_; exact ge30_0.1 _ rfl) (k38_mkM _ _ _ (⟨y318, (rd_T38 t309 a2).f1, (rd_T38 t309 a2).f2⟩ : S38) hz_)); have hm_ := Kd.R_mono hz_ hok30; have hk_ : w31.cell? (ad312.add ((a2 : Int).toNat * 3)) = some (.slice (some ⟨go25, 0, none⟩) ((rd_T38 t309 a2).f0).length c312_0) := (by rw [hw]; exact (cell_far (p := ⟨go25, _, none⟩) (a := ad312.add ((a2 : Int).toNat * 3)) (fun e_ => (hok30 go25 (ge30_0.1 go25 rfl)).2 (congrArg some ((add_block _ _).symm.trans e_).symm)) _).trans hx312_0); clear HP30 hbk30; have n0_ := Aside0.mk (hp_); have n1_ := Aside0.mk ((by rw [hw]; exact below_set (HB.out) GB25.out : Below w.heap.size w w31)); have n2_ := Aside0.mk (hm_); have n3_ := Aside0.mk ((Kd.R_reads' hm_).2.1); clear HO311; clear HB; clear HL312_0; clear HL313_0; clear HL315_0; clear HL316_0; have HO311 := n0_; have HB := n1_; have HL333 := n2_; have HC319 := n3_; clear n0_ n1_ n2_ n3_; clear hg hw hp_ hz_ hm_ hok30; have p321 : 0 ≤ (a2 : Int) := asm; have q321 : a2 < (y320.length : Int) := (by have h_ : (a2 : Int) < ((t309.length : Int) : Int) := asm; first | (have e_ := (Kd.S_reads' HO311.out).1; omega) | simpa only [Ny320.out, List.length_set] using h_); have ql321 : ((a2 : Int) < ((t309.length : Int) : Int)) = True := eq_true (asm); obtain ⟨ad321, A321_0, c321_0, e321, hx321_0, hx321_1, hx321_2, hl321_0, hi321_0⟩ := at_T38 (Kd.S_reads' HO311.out).2.2 a2 p321 q321; obtain rfl : ad312 = ad321 := (by injection e321); have ek_ := Option.some.inj (hk_.symm.trans hx321_0); injection ek_ with ek1_ ek2_ ek3_; subst ek1_; subst ek3_; clear ek2_ hk_; obtain ⟨ce321, hce321, hMe321, hcc321⟩ := Kd.S_get HO311.out z38 a2 p321 (by first | exact q321 | exact asm | (have e_ := (Kd.S_reads' HO311.out).1; omega)); obtain ⟨ve321_0, rfl, ge321_0⟩ := k38_openM hMe321; have hv321_0 := hcc321 0 _ rfl; rw [Nat.add_zero] at hv321_0; replace hv321_0 := Option.some.inj (hv321_0.symm.trans hx321_0); rw [hv321_0] at ge321_0; have HL321_0 := Aside0.mk (show Kd.R (Kd.int .i64) 3 _ _ _ _ ((rd_T38 y320 a2).f0) from ge321_0); clear hv321_0 ge321_0; have HX321_0 := Aside0.mk hx321_0; clear hcc321 hce321; have HR321_0 := Aside0.mk hi321_0; have HC321_0 := Aside0.mk hl321_0; clear hi321_0 hl321_0; replace p321 := eq_true p321; replace q321 := eq_true q321; have p27 : 0 ≤ ((ji22) : Int) := asm; have q27 : ((ji22) : Int) < ((((rd_T38 y320 a2).f0).length : Int) : Int) := asm; obtain ⟨go27, co27, eo27, gb27, gl27, cl27, HG27⟩ := Kd.R_form HL321_0.out (by omega); (first | cases eo27 | (injection eo27 with ea_ en_ ec_; (first | subst ea_ | (injection ea_ with ea_; subst ea_)); subst ec_; clear en_)); have GB27 := Aside0.mk gb27; have GG27 := Aside0.mk HG27; clear gb27 gl27 HG27; obtain ⟨hx27_0, hf27_0⟩ := Kd.R_celln 0 HL321_0.out ((ji22) : Int) p27 q27; replace p27 := eq_true p27; replace q27 := eq_true q27; have hq32 : (a2 : Int) < (t309.length : Int) := (by have h_ : (a2 : Int) < ((t309.length : Int) : Int) := asm; first | exact h_ | (have e_ := (Kd.S_reads' HO311.out).1; omega) | simpa only [Ny320.out, List.length_set] using h_); obtain ⟨oki32, ce32, hcl32, hM32, hcc32, hok32, hbk32⟩ := Kd.S_borrow HO311.out z38 (a2 : Int) (asm) hq32; obtain ⟨ve32_0, rfl, ge32_0⟩ := k38_openM hM32; have hv32 := hcc32 0 _ rfl; rw [Nat.add_zero] at hv32; replace hv32 := Option.some.inj (hv32.symm.trans HX321_0.out); subst hv32; clear hcc32 hcl32; replace ge32_0 := (show Kd.R (Kd.int .i64) 3 _ _ _ _ ((rd_T38 y320 a2).f0) from ge32_0); have HP32 := Kd.R_putg ge32_0 ((ji22) : Int) (rd ((rd_T38 t309 a2).f0) a3)) | ((with_reducible refine gate_store (t := 3) (p := 61) rfl ?_); refine store_event (t := 3) (p := 61) (v := ?vo_w33) (w1 := (w31.setCell ⟨go25, ((ji22) : Int).toNat, none⟩ (.int .i64 (rd ((rd_T38 t309 a2).f0) a3)))) ?hg ?ho ?hn ?hr ?_; (case ho => rfl); (case hg => rfl); (case hn => rfl); (case hr => first | (go_simp; done) | (go_simp; rfl)); intro w33 hw; have hg : w31.grownBy w33 (some go25) := (by rw [hw]; exact HP32.2); have hz_ : Kd.R (Kd.int .i64) 3 w33 w.heap.size oki32 (.slice (some ⟨go25, 0, none⟩) ((rd_T38 y320 a2).f0).length c312_0) y322 := (by rw [hw, Ny322.out]; exact HP32.1); have hp_ : Kd.S k38 38 w33 w.heap.size (fun _ => True) (.slice (some ad312) t309.length co29) y324 := (by rw [Ny324.out]; exact hbk32 hg (fun k_ e_ => by injection e_ with e_; subst e_; exact ge32_0.1 _ rfl) (k38_mkM _ _ _ (⟨y322, (rd_T38 y320 a2).f1, (rd_T38 y320 a2).f2⟩ : S38) hz_)); have hm_ := Kd.R_mono hz_ hok32; clear HP32 hbk32; have n0_ := Aside0.mk (hp_); have n1_ := Aside0.mk ((by rw [hw]; exact below_set (HB.out) GB27.out : Below w.heap.size w w33)); have n2_ := Aside0.mk (hm_); have n3_ := Aside0.mk ((Kd.R_reads' hm_).2.1); clear HO311; clear HB; clear HL333; clear HL321_0; have HO311 := n0_; have HB := n1_; have HL334 := n2_; have HC323 := n3_; clear n0_ n1_ n2_ n3_; clear hg hw hp_ hz_ hm_ hok32) | ((with_reducible refine gate_dst (N := 62) rfl ?_); refine Kd.R_lit (Kd.int .i64) _ 3 ?hg (N := 62) ?hd (xs := ([] : List Int)) (inner := []) (ok := fun _ => True) (okp := fun _ => True) ?hr ?hp (fun _ hk => hk) trivial (Below.refl _ _) (Nat.le_refl _) (by simp) ?_; (case hd => rfl); (case hg => rfl); (case hr => first | (go_simp; done) | (go_simp; rfl)); (case hp => exact (Reps.none _ _)); intro v326 w34 ho35 hb hg_ hnew_; clear hg_ hnew_; (first | rw [← Ny325.out] at ho35 | (simp only [Int.reduceToNat] at ho35; rw [← Ny325.out] at ho35)); have HO327 := Aside0.mk (Kd.R_lower (Kd.R_new' ho35 (Kd.R_lt (by (with_reducible repeat (first | apply Kd.R_alloc | apply Kd.R_drewN | apply Kd.R_drew)); exact HL334.out))) (below_size bel)); replace HO311 := Aside0.mk (Kd.S_elder' (by (with_reducible repeat (first | apply Kd.S_alloc | apply Kd.S_drewN | apply Kd.S_drew)); exact HO311.out) (Kd.R_base ho35) hb); replace HL334 := Aside0.mk (Kd.R_elder' (by (with_reducible repeat (first | apply Kd.R_alloc | apply Kd.R_drewN | apply Kd.R_drew)); exact HL334.out) (Kd.R_base ho35) hb); replace HB := Aside0.mk (below_step bel hb); clear hb ho35))
                      go_loopg [12, 13] kj4 (fun kq v12 v13 w' => ∃ (x12_2 : List Int) (x13_2 : Int), v13 = .int .i64 x13_2 ∧ Aside0 (spec_SwapGains.l0 kq a0 l1 y324 x12_2 x13_2 = some r) ∧ Aside0 (kq ≤ kj4) ∧ Aside0 (Kd.S k38 38 w' w.heap.size (fun k_ => some k_ ≠ (v12 : Value).ownBlock) (.slice (some ad312) t309.length co29) y324) ∧ Aside0 (Kd.R (Kd.int .i64) 3 w' w.heap.size (fun _ => True) v12 x12_2) ∧ Aside0 (Below w.heap.size w w'))
                      case atStart => exact ⟨(y325), (0), (es), H', ⟨Nat.le_refl _⟩, ⟨by (with_reducible repeat (first | apply Kd.S_alloc | apply Kd.S_drewN | apply Kd.S_drew)); exact Kd.S_mono HO311.out (fun _ hk => hk.2)⟩, ⟨by (with_reducible repeat (first | apply Kd.R_alloc | apply Kd.R_drewN | apply Kd.R_drew)); exact Kd.R_mono HO327.out (fun _ hk => trivial)⟩, ⟨bel⟩⟩
                      case round =>
                        clear H'
                        try clear c1; try clear c2; try clear p2; try clear q2; try clear hx2; try clear c3; try clear p3; try clear q3; try clear hx3; try clear c5; try clear p6; try clear c7; try clear c9; try clear c10; try clear c10b0; try clear c11; try clear c11b0; try clear c13; try clear c16; try clear c18; try clear c18b0; try clear c19; try clear c19b0; try clear c20; try clear c20b0; try clear c21; try clear c21b0; try clear c23; try clear c23b0; try clear c24; try clear c24b0; try clear p25; try clear q25; try clear hx25; try clear hf25; try clear c26; try clear c26b0; try clear p27; try clear q27; try clear hx27; try clear hf27; try clear c30; try clear p30; try clear q30; try clear hx30; try clear c31; try clear p31; try clear q31; try clear hx31; try clear c32; try clear p32; try clear q32; try clear hx32; try clear hx25_0; try clear hx27_0; try clear hx307_0; try clear hx307_1; try clear hx307_2; try clear hx312_0; try clear hx312_1; try clear hx312_2; try clear hx313_0; try clear hx313_1; try clear hx313_2; try clear hx314_0; try clear hx315_0; try clear hx315_1; try clear hx315_2; try clear hx316_0; try clear hx316_1; try clear hx316_2; try clear hx317_0; try clear hx321_0; try clear hx321_1; try clear hx321_2; try clear p2; try clear p25; try clear p27; try clear p3; try clear p307; try clear p312; try clear p313; try clear p314; try clear p315; try clear p316; try clear p317; try clear p321; try clear p6; try clear q25; try clear q27; try clear q3; try clear q307; try clear q312; try clear q313; try clear q314; try clear q315; try clear q316; try clear q317; try clear q321
                        obtain ⟨x12_2, x13_2, rfl, HA, HK2, HO_9, HO_12, HB⟩ := hrel
                        have hl9_2 := (Kd.S_reads' HO_9.out).1
                        rw [hl9_2] at HO_9
                        (try simp only [hl9_2])
                        (try simp only [hl9_2] at HO_12)
                        cases gk with
                        | zero => exact absurd HA.out (by simp [spec_SwapGains.l0])
                        | succ k2 =>
                          have H := HA.out
                          clear HA
                          simp only [spec_SwapGains.l0] at H
                          by_cases c36 : x13_2 < a0
                          · rw [if_pos c36] at H
                            have c36b0 : decide (x13_2 < a0) = true := decide_eq_true c36
                            clear c36
                            replace H := Option.bind_eq_some_iff.mp H
                            obtain ⟨t328, A370, H⟩ := H
                            replace H : (if t328 < 0 then ((spec_ContestOf.f k2 a0 y324 x13_2).bind fun t329 => (if t329 ≥ 0 then (if x12_2.length < 17592186044416 then (spec_SwapGains.l0 k2 a0 l1 y324 (x12_2 ++ [x13_2]) (wrap64 (x13_2 + 1))) else (none)) else (spec_SwapGains.l0 k2 a0 l1 y324 x12_2 (wrap64 (x13_2 + 1))))) else (spec_SwapGains.l0 k2 a0 l1 y324 x12_2 (wrap64 (x13_2 + 1)))) = some r := H
                            have A37 := Aside0.mk A370
                            clear A370
                            by_cases c38 : t328 < 0
                            · rw [if_pos c38] at H
                              have c38b0 : decide (t328 < 0) = true := decide_eq_true c38
                              clear c38
                              replace H := Option.bind_eq_some_iff.mp H
                              obtain ⟨t329, A390, H⟩ := H
                              replace H : (if t329 ≥ 0 then (if x12_2.length < 17592186044416 then (spec_SwapGains.l0 k2 a0 l1 y324 (x12_2 ++ [x13_2]) (wrap64 (x13_2 + 1))) else (none)) else (spec_SwapGains.l0 k2 a0 l1 y324 x12_2 (wrap64 (x13_2 + 1)))) = some r := H
                              have A39 := Aside0.mk A390
                              clear A390
                              by_cases c40 : t329 ≥ 0
                              · rw [if_pos c40] at H
                                have c40b0 : decide (0 ≤ t329) = true := decide_eq_true c40
                                clear c40
                                by_cases c41 : x12_2.length < 17592186044416
                                · rw [if_pos c41] at H
                                  have LMc41 := Aside0.mk c41
                                  clear c41
                                  obtain ⟨y330, hy330⟩ : ∃ y_ : List Int, y_ = (x12_2 ++ [x13_2]) := ⟨_, rfl⟩
                                  replace H : (spec_SwapGains.l0 k2 a0 l1 y324 y330 (wrap64 (x13_2 + 1))) = some r := by first | (rw [hy330]; with_reducible exact H) | (have H2_ := (Option.bind_some _ _).symm.trans H; rw [hy330]; with_reducible exact H2_) | (have H2_ := (Option.bind_some _ _).symm.trans H; with_reducible exact H2_) | with_reducible exact H | (rw [hy330]; exact H) | exact H
                                  have Ny330 := Aside0.mk hy330
                                  clear hy330
                                  have H' := Aside0.mk H
                                  clear H
                                  go_wp2_with (first | ((with_reducible refine gate_callee (f := 26) rfl ?_); refine goesL_ (some 71) rfl rfl Try.func26 (by kernel_rfl) rfl #[.int .i64 a0, .slice A1 l1.length c1, .int .i64 x13_2] rfl ga ?_; (with_reducible refine (spec_ContestOf.calls k2 a0 _ _ l1 x13_2 t328 _ ?side1 ?side2 A37.out).mono ?_); (case side1 => exact ck (Kd.C_below HR1.out HB.out)); (case side2 => exact HC1.out); rintro e w42 ⟨rfl, hb⟩; refine ⟨_, rfl, ?_⟩; replace HO_9 := Aside0.mk (Kd.S_below (by (with_reducible repeat (first | apply Kd.S_alloc | apply Kd.S_drewN | apply Kd.S_drew)); exact HO_9.out) hb); replace HO_12 := Aside0.mk (Kd.R_below (rk HO_12.out) hb); replace HB := Aside0.mk (below_step bel hb); (try clear hb)) | (go_at_call 26; (with_reducible refine (spec_ContestOf.calls k2 a0 _ _ y324 x13_2 t329 _ ?side1 ?side2 A39.out).mono ?_); (case side1 => repeat (first | exact (Kd.S_reads' HO_9.out).2.2 | (with_reducible refine Kd.C_alloc ?_ _) | (with_reducible refine Kd.C_drewN ?_ _) | (with_reducible refine Kd.C_drew ?_))); (case side2 => exact (Kd.S_reads' HO_9.out).2.1); rintro e w43 ⟨rfl, hb⟩; replace HO_9 := Aside0.mk (Kd.S_below (by (with_reducible repeat (first | apply Kd.S_alloc | apply Kd.S_drewN | apply Kd.S_drew)); exact HO_9.out) hb); replace HO_12 := Aside0.mk (Kd.R_below (rk HO_12.out) hb); replace HB := Aside0.mk (below_step bel hb); (try clear hb); (try clear hb2); (try clear hk); (try clear hi)) | ((with_reducible refine gate_builtin (b := .append) (xs := #[.tmp 80, .tmp 82]) rfl ?_); at_builtin; refine Kd.R_append (Kd.int .i64) (w0 := w) w.heap.size rfl (.tmp 80) (.tmp 82) 35 3 (.int .i64 0) 8 rfl Try.underlying35 info3 rfl (by decide) (by omega) u12 x12_2 x13_2 [.int .i64 x13_2] (fun _ => True) (fun _ => False) rfl rfl ?aP (fun _ hk => hk.elim) ?aF ?aO ?aB ?aS ?aL ?_; (case aP => exact rfl); (case aB => exact bel); (case aF => exact (fun _ _ => trivial)); (case aO => exact (rk HO_12.out)); (case aS => exact (below_size bel)); (case aL => have := LMc41.out; omega); intro v331 w44 ho hb hg hat; rw [← Ny330.out] at ho; have n0_ := Aside0.mk (Kd.S_after (ok := (fun _ => True)) (by (with_reducible repeat (first | apply Kd.S_alloc | apply Kd.S_drewN | apply Kd.S_drew)); exact Kd.S_mono HO_9.out (fun _ hk => ⟨trivial, hk⟩)) hg hat); have n1_ := Aside0.mk (hb); have n2_ := Aside0.mk (ho); clear HO_9; clear HB; clear HO_12; have HO_9 := n0_; have HB := n1_; have HO332 := n2_; clear n0_ n1_ n2_; clear ho hb hg hat))
                                  (try simp only [← hl9_2])
                                  go_roundg k2
                                  case measure => have := HJ4.out; have := HK2.out; omega
                                  case rel => exact ⟨(y330), (wrap64 (x13_2 + 1)), (es), H', ⟨by have := HJ4.out; have := HK2.out; omega⟩, ⟨by (try simp only [hl9_2]); (with_reducible repeat (first | apply Kd.S_alloc | apply Kd.S_drewN | apply Kd.S_drew)); exact Kd.S_mono HO_9.out (fun _ hk => hk.2)⟩, ⟨by (try simp only [hl9_2]); (with_reducible repeat (first | apply Kd.R_alloc | apply Kd.R_drewN | apply Kd.R_drew)); exact HO332.out⟩, ⟨bel⟩⟩
                                · rw [if_neg c41] at H
                                  exact absurd H (by simp)
                              · rw [if_neg c40] at H
                                have c40b0 : decide (0 ≤ t329) = false := decide_eq_false c40
                                clear c40
                                have H' := Aside0.mk H
                                clear H
                                go_wp2_with (first | ((with_reducible refine gate_callee (f := 26) rfl ?_); refine goesL_ (some 71) rfl rfl Try.func26 (by kernel_rfl) rfl #[.int .i64 a0, .slice A1 l1.length c1, .int .i64 x13_2] rfl ga ?_; (with_reducible refine (spec_ContestOf.calls k2 a0 _ _ l1 x13_2 t328 _ ?side1 ?side2 A37.out).mono ?_); (case side1 => exact ck (Kd.C_below HR1.out HB.out)); (case side2 => exact HC1.out); rintro e w45 ⟨rfl, hb⟩; refine ⟨_, rfl, ?_⟩; replace HO_9 := Aside0.mk (Kd.S_below (by (with_reducible repeat (first | apply Kd.S_alloc | apply Kd.S_drewN | apply Kd.S_drew)); exact HO_9.out) hb); replace HO_12 := Aside0.mk (Kd.R_below (rk HO_12.out) hb); replace HB := Aside0.mk (below_step bel hb); (try clear hb)) | (go_at_call 26; (with_reducible refine (spec_ContestOf.calls k2 a0 _ _ y324 x13_2 t329 _ ?side1 ?side2 A39.out).mono ?_); (case side1 => repeat (first | exact (Kd.S_reads' HO_9.out).2.2 | (with_reducible refine Kd.C_alloc ?_ _) | (with_reducible refine Kd.C_drewN ?_ _) | (with_reducible refine Kd.C_drew ?_))); (case side2 => exact (Kd.S_reads' HO_9.out).2.1); rintro e w46 ⟨rfl, hb⟩; replace HO_9 := Aside0.mk (Kd.S_below (by (with_reducible repeat (first | apply Kd.S_alloc | apply Kd.S_drewN | apply Kd.S_drew)); exact HO_9.out) hb); replace HO_12 := Aside0.mk (Kd.R_below (rk HO_12.out) hb); replace HB := Aside0.mk (below_step bel hb); (try clear hb); (try clear hb2); (try clear hk); (try clear hi)))
                                (try simp only [← hl9_2])
                                go_roundg k2
                                case measure => have := HJ4.out; have := HK2.out; omega
                                case rel => exact ⟨(x12_2), (wrap64 (x13_2 + 1)), (es), H', ⟨by have := HJ4.out; have := HK2.out; omega⟩, ⟨by (try simp only [hl9_2]); (with_reducible repeat (first | apply Kd.S_alloc | apply Kd.S_drewN | apply Kd.S_drew)); exact HO_9.out⟩, ⟨by (try simp only [hl9_2]); (with_reducible repeat (first | apply Kd.R_alloc | apply Kd.R_drewN | apply Kd.R_drew)); exact HO_12.out⟩, ⟨bel⟩⟩
                            · rw [if_neg c38] at H
                              have c38b0 : decide (t328 < 0) = false := decide_eq_false c38
                              clear c38
                              have H' := Aside0.mk H
                              clear H
                              go_wp2_with (first | ((with_reducible refine gate_callee (f := 26) rfl ?_); refine goesL_ (some 71) rfl rfl Try.func26 (by kernel_rfl) rfl #[.int .i64 a0, .slice A1 l1.length c1, .int .i64 x13_2] rfl ga ?_; (with_reducible refine (spec_ContestOf.calls k2 a0 _ _ l1 x13_2 t328 _ ?side1 ?side2 A37.out).mono ?_); (case side1 => exact ck (Kd.C_below HR1.out HB.out)); (case side2 => exact HC1.out); rintro e w47 ⟨rfl, hb⟩; refine ⟨_, rfl, ?_⟩; replace HO_9 := Aside0.mk (Kd.S_below (by (with_reducible repeat (first | apply Kd.S_alloc | apply Kd.S_drewN | apply Kd.S_drew)); exact HO_9.out) hb); replace HO_12 := Aside0.mk (Kd.R_below (rk HO_12.out) hb); replace HB := Aside0.mk (below_step bel hb); (try clear hb)))
                              (try simp only [← hl9_2])
                              go_roundg k2
                              case measure => have := HJ4.out; have := HK2.out; omega
                              case rel => exact ⟨(x12_2), (wrap64 (x13_2 + 1)), (es), H', ⟨by have := HJ4.out; have := HK2.out; omega⟩, ⟨by (try simp only [hl9_2]); (with_reducible repeat (first | apply Kd.S_alloc | apply Kd.S_drewN | apply Kd.S_drew)); exact HO_9.out⟩, ⟨by (try simp only [hl9_2]); (with_reducible repeat (first | apply Kd.R_alloc | apply Kd.R_drewN | apply Kd.R_drew)); exact HO_12.out⟩, ⟨bel⟩⟩
                          · rw [if_neg c36] at H
                            have c36b0 : decide (x13_2 < a0) = false := decide_eq_false c36
                            clear c36
                            obtain rfl := Option.some.inj H
                            go_wp2
                            go_ret
                            exact ⟨_, by first | rfl | (simp [errW_none, errW_some] <;> rfl) | (simp only [← hji22]; first | rfl | (simp [errW_none, errW_some] <;> rfl)) | (simp [*, errW_none, errW_some] <;> rfl), rk HO_12.out, bel⟩
                    · rw [if_neg c26] at H
                      exact absurd H (by simp)
                  · rw [if_neg c24] at H
                    exact absurd H (by simp)
                · rw [if_neg c23] at H
                  exact absurd H (by simp)
              · rw [if_neg c21] at H
                exact absurd H (by simp)
            · rw [if_neg c20] at H
              exact absurd H (by simp)
          · rw [if_neg c19] at H
            exact absurd H (by simp)
        · rw [if_neg c18] at H
          exact absurd H (by simp)

end Go.Proofs.Ytaopcamaceddnaa.X
