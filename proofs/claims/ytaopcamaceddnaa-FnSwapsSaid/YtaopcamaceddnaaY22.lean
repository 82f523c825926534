-- Written by a program of this session (wip/xp.py, over the kit's print) out of the translation: functions, and the walks that show them.
import Derived.Test.YtaopcamaceddnaaY0
import Derived.Test.YtaopcamaceddnaaY19
import Derived.Test.YtaopcamaceddnaaY20
import Derived.Test.YtaopcamaceddnaaY21
namespace Go.Proofs.Ytaopcamaceddnaa.Y
open Go.RowKit Go.Proofs.YtaopcamaceddnaaW.PrintWords Go.Proofs.YtaopcamaceddnaaW.PrintLast Go.Proofs.YtaopcamaceddnaaW.PrintMore
attribute [local go_sem] max2_int min2_int max_two min_two max_three min_three max_four min_four   -- for this text's walks alone
set_option linter.unusedVariables false
set_option linter.unusedSimpArgs false

/-! ### spec_Qualified: function 33 -/
def spec_Qualified.f (k : Nat) (a0 : Int) (l1 : List (S38)) : Option ((List (List Int)) × Bool) := (spec_ContestsOk.f k a0 l1).bind fun t389 => (if t389 = true then ((spec_l20Run.f k l1).bind fun bt390 => (some (bt390.1, true))) else (some (([] : List (List Int)), false)))
theorem spec_Qualified.mono : ∀ a0 a1 k, LeO (spec_Qualified.f k a0 a1) (spec_Qualified.f (k + 1) a0 a1) := by
  intro a0 a1 k
  unfold spec_Qualified.f
  repeat' first
      | (with_reducible exact spec_ContestsOk.mono _ _ _)
      | (with_reducible exact spec_l20Run.mono _ _)
      | (with_reducible exact LeO.refl _)
      | (with_reducible exact LeO.none _)
      | (with_reducible refine LeO.ite ?_ ?_)
      | (with_reducible refine LeO.bind ?_ (fun _ => ?_))
      | exact spec_ContestsOk.mono _ _ _
      | exact spec_l20Run.mono _ _
      | exact LeO.none _
      | refine LeO.ite ?_ ?_
      | refine LeO.bind ?_ (fun _ => ?_)
set_option maxHeartbeats 8000000 in
set_option maxRecDepth 100000 in
theorem spec_Qualified.calls (k : Nat) (a0 : Int) (A1 : Option Addr) (c1 : Nat) (l1 : List (S38)) (r1 : List (List Int)) (r2 : Bool) (w : World) (hr1 : Kd.C k38 w A1 l1.length l1) (hc1 : l1.length ≤ c1) (h : spec_Qualified.f k a0 l1 = some (r1, r2)) :
    Calls Try.prog 33 #[.int .i64 a0, .slice A1 l1.length c1] w fun e w' => ∃ v0_ : Value, e = .returned (.tuple #[v0_, .bool r2]) ∧ Kd.S (Kd.slice 3 (Kd.int .i64)) 35 w' w.heap.size (fun _ => True) v0_ r1 ∧ Below w.heap.size w w' := by
  have HR1 := Aside0.mk hr1
  have HC1 := Aside0.mk hc1
  clear hr1 hc1
  have HB := Aside0.mk (Below.refl w.heap.size w)
  have H : ((spec_ContestsOk.f k a0 l1).bind fun t389 => (if t389 = true then ((spec_l20Run.f k l1).bind fun bt390 => (some (bt390.1, true))) else (some (([] : List (List Int)), false)))) = some (r1, r2) := h
  clear h
  replace H := Option.bind_eq_some_iff.mp H
  obtain ⟨t389, A30, H⟩ := H
  replace H : (if t389 = true then ((spec_l20Run.f k l1).bind fun bt390 => (some (bt390.1, true))) else (some (([] : List (List Int)), false))) = some (r1, r2) := H
  have A3 := Aside0.mk A30
  clear A30
  by_cases c4 : t389 = true
  · subst c4
    have H1 : ((spec_l20Run.f k l1).bind fun bt390 => (some (bt390.1, true))) = some (r1, r2) := by rw [if_pos rfl] at H; exact H
    clear H
    have H := H1
    clear H1
    replace H := Option.bind_eq_some_iff.mp H
    obtain ⟨⟨t390, t391, t392⟩, A50, H⟩ := H
    replace H : (some (t390, true)) = some (r1, r2) := H
    have A5 := Aside0.mk A50
    clear A50
    simp only [Option.some.injEq, Prod.mk.injEq] at H
    obtain ⟨rfl, rfl⟩ := H
    go_enter Try.func33, Try.ntmps33
    go_wp2_with (first | ((with_reducible refine gate_callee (f := 13) rfl ?_); refine goesL_ (some 11) rfl rfl Try.func13 (by kernel_rfl) rfl #[.int .i64 a0, .slice A1 l1.length c1] rfl ga ?_; (with_reducible refine (spec_ContestsOk.calls k a0 _ _ l1 true _ ?side1 ?side2 A3.out).mono ?_); (case side1 => exact ck HR1.out); (case side2 => exact HC1.out); rintro e w6 ⟨rfl, hb⟩; refine ⟨_, rfl, ?_⟩; replace HB := Aside0.mk (below_step bel hb); (try clear hb)) | ((with_reducible refine gate_callee (f := 55) rfl ?_); refine goesL_ (some 15) rfl rfl Try.func55 (by kernel_rfl) rfl #[.slice A1 l1.length c1] rfl ga ?_; (with_reducible refine (spec_l20Run.calls k _ _ l1 t390 t391 t392 _ ?side1 ?side2 A5.out).mono ?_); (case side1 => exact ck (Kd.C_below HR1.out HB.out)); (case side2 => exact HC1.out); rintro e w7 ⟨v393, v395, rfl, ho0, ho1, hb⟩; refine ⟨_, rfl, ?_⟩; have HO394 := Aside0.mk (Kd.S_lower ho0 (below_size bel)); have HO396 := Aside0.mk (Kd.R_lower ho1 (below_size bel)); replace HB := Aside0.mk (below_step bel hb); (try clear hb); (try clear ho0); (try clear ho1)))
    go_ret2
    exact ⟨_, er, by (with_reducible repeat (first | apply Kd.S_alloc | apply Kd.S_drewN | apply Kd.S_drew)); exact Kd.S_mono HO394.out (fun _ hk => trivial), bel⟩
  · replace c4 := Bool.eq_false_iff.mpr c4
    subst c4
    have H1 : (some (([] : List (List Int)), false)) = some (r1, r2) := by rw [if_neg (show ¬ (false = true) by decide)] at H; exact H
    clear H
    have H := H1
    clear H1
    simp only [Option.some.injEq, Prod.mk.injEq] at H
    obtain ⟨rfl, rfl⟩ := H
    go_enter Try.func33, Try.ntmps33
    go_wp2_with (first | ((with_reducible refine gate_callee (f := 13) rfl ?_); refine goesL_ (some 11) rfl rfl Try.func13 (by kernel_rfl) rfl #[.int .i64 a0, .slice A1 l1.length c1] rfl ga ?_; (with_reducible refine (spec_ContestsOk.calls k a0 _ _ l1 false _ ?side1 ?side2 A3.out).mono ?_); (case side1 => exact ck HR1.out); (case side2 => exact HC1.out); rintro e w8 ⟨rfl, hb⟩; refine ⟨_, rfl, ?_⟩; replace HB := Aside0.mk (below_step bel hb); (try clear hb)))
    go_ret2
    exact ⟨_, er, by first | exact Kd.S_nil _ _ _ _ _ | exact Kd.N_nil _ _ _ _ _ | exact Kd.V_nil _ _ _ _ _ | exact Kd.Q_nil _ _ _ _ _ | exact Kd.R_nil _ _ _ _ _, bel⟩

/-! ### spec_ContestOf: function 26 -/
def spec_ContestOf.l0 : Nat → Int → List (List Int) → Int → Int → Option (Int)
  | 0, _, _, _, _ => none
  | k + 1, x2, x17, x18, x19 => if x19 < x18 then (if 0 ≤ x19 then (if x19 < (x17.length : Int) then ((spec_l02Has.f k (rd_L1 x17 x19) x2).bind fun t402 => (if t402 = true then (some x19) else (spec_ContestOf.l0 k x2 x17 x18 (wrap64 (x19 + 1))))) else (none)) else (none)) else (some (-1))
def spec_ContestOf.f (k : Nat) (a0 : Int) (l1 : List (S38)) (a2 : Int) : Option (Int) := (spec_Qualified.f k a0 l1).bind fun bt397 => (spec_ContestOf.l0 k a2 bt397.1 (bt397.1.length : Int) 0)
theorem spec_ContestOf.mono_l : ∀ k, (∀ y0 y1 y2 y3, LeO (spec_ContestOf.l0 k y0 y1 y2 y3) (spec_ContestOf.l0 (k + 1) y0 y1 y2 y3))
  | 0 => fun _ _ _ _ r h => by simp [spec_ContestOf.l0] at h
  | k + 1 => by
    have ih0 := spec_ContestOf.mono_l k
    · intro y0 y1 y2 y3
      unfold spec_ContestOf.l0
      repeat' first
      | (with_reducible exact ih0 _ _ _ _)
      | (with_reducible exact spec_Qualified.mono _ _ _)
      | (with_reducible exact spec_l02Has.mono _ _ _)
      | (with_reducible exact LeO.refl _)
      | (with_reducible exact LeO.none _)
      | (with_reducible refine LeO.ite ?_ ?_)
      | (with_reducible refine LeO.bind ?_ (fun _ => ?_))
      | exact ih0 _ _ _ _
      | exact spec_Qualified.mono _ _ _
      | exact spec_l02Has.mono _ _ _
      | exact LeO.none _
      | refine LeO.ite ?_ ?_
      | refine LeO.bind ?_ (fun _ => ?_)
theorem spec_ContestOf.mono : ∀ a0 a1 a2 k, LeO (spec_ContestOf.f k a0 a1 a2) (spec_ContestOf.f (k + 1) a0 a1 a2) := by
  intro a0 a1 a2 k
  have ih0 := spec_ContestOf.mono_l k
  unfold spec_ContestOf.f
  repeat' first
      | (with_reducible exact ih0 _ _ _ _)
      | (with_reducible exact spec_Qualified.mono _ _ _)
      | (with_reducible exact spec_l02Has.mono _ _ _)
      | (with_reducible exact LeO.refl _)
      | (with_reducible exact LeO.none _)
      | (with_reducible refine LeO.ite ?_ ?_)
      | (with_reducible refine LeO.bind ?_ (fun _ => ?_))
      | exact ih0 _ _ _ _
      | exact spec_Qualified.mono _ _ _
      | exact spec_l02Has.mono _ _ _
      | exact LeO.none _
      | refine LeO.ite ?_ ?_
      | refine LeO.bind ?_ (fun _ => ?_)
set_option maxHeartbeats 8000000 in
set_option maxRecDepth 100000 in
theorem spec_ContestOf.calls (k : Nat) (a0 : Int) (A1 : Option Addr) (c1 : Nat) (l1 : List (S38)) (a2 : Int) (r : Int) (w : World) (hr1 : Kd.C k38 w A1 l1.length l1) (hc1 : l1.length ≤ c1) (h : spec_ContestOf.f k a0 l1 a2 = some r) :
    Calls Try.prog 26 #[.int .i64 a0, .slice A1 l1.length c1, .int .i64 a2] w fun e w' => e = .returned (.int .i64 r) ∧ Below w.heap.size w w' := by
  have HR1 := Aside0.mk hr1
  have HC1 := Aside0.mk hc1
  clear hr1 hc1
  have HB := Aside0.mk (Below.refl w.heap.size w)
  have H : ((spec_Qualified.f k a0 l1).bind fun bt397 => (spec_ContestOf.l0 k a2 bt397.1 (bt397.1.length : Int) 0)) = some r := h
  clear h
  replace H := Option.bind_eq_some_iff.mp H
  obtain ⟨⟨t397, t398⟩, A40, H⟩ := H
  replace H : (spec_ContestOf.l0 k a2 t397 (t397.length : Int) 0) = some r := H
  have A4 := Aside0.mk A40
  clear A40
  have H' := Aside0.mk H
  clear H
  go_enter Try.func26, Try.ntmps26
  go_wp2_with (first | ((with_reducible refine gate_callee (f := 33) rfl ?_); refine goesL_ (some 14) rfl rfl Try.func33 (by kernel_rfl) rfl #[.int .i64 a0, .slice A1 l1.length c1] rfl ga ?_; (with_reducible refine (spec_Qualified.calls k a0 _ _ l1 t397 t398 _ ?side1 ?side2 A4.out).mono ?_); (case side1 => exact ck HR1.out); (case side2 => exact HC1.out); rintro e w5 ⟨v399, rfl, ho0, hb⟩; refine ⟨_, rfl, ?_⟩; have HO400 := Aside0.mk (Kd.S_lower ho0 (below_size bel)); replace HB := Aside0.mk (below_step bel hb); (try clear hb); (try clear ho0); obtain ⟨Ao6, co6, eo6⟩ := Kd.S_slice HO400.out; subst eo6))
  go_loopg [19] k (fun kq v19 w' => ∃ (x19_1 : Int), v19 = .int .i64 x19_1 ∧ Aside0 (spec_ContestOf.l0 kq a2 t397 (t397.length : Int) x19_1 = some r) ∧ Aside0 (kq ≤ k) ∧ Aside0 (Kd.S (Kd.slice 3 (Kd.int .i64)) 35 w' w.heap.size (fun _ => True) (.slice Ao6 t397.length co6) t397) ∧ Aside0 (Below w.heap.size w w'))
  case atStart => exact ⟨(0), (es), H', ⟨Nat.le_refl _⟩, ⟨by (with_reducible repeat (first | apply Kd.S_alloc | apply Kd.S_drewN | apply Kd.S_drew)); exact HO400.out⟩, ⟨bel⟩⟩
  case round =>
    clear H'
    try clear c1; try clear c2; try clear p2; try clear c3
    obtain ⟨x19_1, rfl, HA, HK1, HO_17, HB⟩ := hrel
    cases gk with
    | zero => exact absurd HA.out (by simp [spec_ContestOf.l0])
    | succ k1 =>
      have H := HA.out
      clear HA
      simp only [spec_ContestOf.l0] at H
      by_cases c7 : x19_1 < (t397.length : Int)
      · rw [if_pos c7] at H
        have c7b0 : decide (x19_1 < (t397.length : Int)) = true := decide_eq_true c7
        clear c7
        by_cases c8 : 0 ≤ x19_1
        · rw [if_pos c8] at H
          have c8b0 : decide (0 ≤ x19_1) = true := decide_eq_true c8
          clear c8
          by_cases c9 : x19_1 < (t397.length : Int)
          · rw [if_pos c9] at H
            have c9b0 : decide (x19_1 < (t397.length : Int)) = true := decide_eq_true c9
            clear c9
            replace H := Option.bind_eq_some_iff.mp H
            obtain ⟨t402, A100, H⟩ := H
            replace H : (if t402 = true then (some x19_1) else (spec_ContestOf.l0 k1 a2 t397 (t397.length : Int) (wrap64 (x19_1 + 1)))) = some r := H
            have A10 := Aside0.mk A100
            clear A100
            by_cases c11 : t402 = true
            · subst c11
              have H1 : (some x19_1) = some r := by rw [if_pos rfl] at H; exact H
              clear H
              have H := H1
              clear H1
              obtain rfl := Option.some.inj H
              have p401 : 0 ≤ (x19_1 : Int) := asm
              have q401 : x19_1 < (t397.length : Int) := asm
              obtain ⟨ad401, A401_0, c401_0, e401, hx401_0, hl401_0, hi401_0⟩ := at_L1 (Kd.S_reads' HO_17.out).2.2 x19_1 p401 q401
              cases e401
              obtain ⟨ce401, hce401, hMe401, hcc401⟩ := Kd.S_get HO_17.out [] x19_1 p401 (by first | exact q401 | exact asm | (have e_ := (Kd.S_reads' HO_17.out).1; omega))
              obtain ⟨ve401_0, rfl, ge401_0⟩ := hMe401
              have hv401_0 := hcc401 0 _ rfl
              rw [Nat.add_zero, show ((Kd.slice 3 (Kd.int .i64))).sz = 1 from rfl, Nat.mul_one] at hv401_0
              replace hv401_0 := Option.some.inj (hv401_0.symm.trans hx401_0)
              rw [hv401_0] at ge401_0
              have HL401_0 := Aside0.mk (show Kd.R (Kd.int .i64) 3 _ _ _ _ (rd_L1 t397 x19_1) from ge401_0)
              clear hv401_0 ge401_0
              clear hcc401 hce401
              have HR401_0 := Aside0.mk hi401_0
              have HC401_0 := Aside0.mk hl401_0
              clear hi401_0 hl401_0
              replace p401 := eq_true p401
              replace q401 := eq_true q401
              go_wp2_with (first | ((with_reducible refine gate_callee (f := 40) rfl ?_); refine goesL_ (some 26) rfl rfl Try.func40 (by kernel_rfl) rfl #[.slice A401_0 (rd_L1 t397 x19_1).length c401_0, .int .i64 a2] rfl ga ?_; (with_reducible refine (spec_l02Has.calls k1 _ _ (rd_L1 t397 x19_1) a2 true _ ?side1 ?side2 A10.out).mono ?_); (case side1 => repeat (first | exact (by repeat (first | (with_reducible exact HR401_0.out) | (with_reducible refine Kd.C_alloc ?_ _) | (with_reducible refine Kd.C_drewN ?_ _) | (with_reducible refine Kd.C_drew ?_) | exact HR401_0.out)) | (with_reducible refine Kd.C_alloc ?_ _) | (with_reducible refine Kd.C_drewN ?_ _) | (with_reducible refine Kd.C_drew ?_))); (case side2 => exact HC401_0.out); rintro e w' ⟨rfl, ⟨nd, rfl⟩⟩; refine ⟨_, rfl, ?_⟩))
              go_ret
              exact ⟨er, bel⟩
            · replace c11 := Bool.eq_false_iff.mpr c11
              subst c11
              have H1 : (spec_ContestOf.l0 k1 a2 t397 (t397.length : Int) (wrap64 (x19_1 + 1))) = some r := by rw [if_neg (show ¬ (false = true) by decide)] at H; exact H
              clear H
              have H := H1
              clear H1
              have H' := Aside0.mk H
              clear H
              have p401 : 0 ≤ (x19_1 : Int) := asm
              have q401 : x19_1 < (t397.length : Int) := asm
              obtain ⟨ad401, A401_0, c401_0, e401, hx401_0, hl401_0, hi401_0⟩ := at_L1 (Kd.S_reads' HO_17.out).2.2 x19_1 p401 q401
              cases e401
              obtain ⟨ce401, hce401, hMe401, hcc401⟩ := Kd.S_get HO_17.out [] x19_1 p401 (by first | exact q401 | exact asm | (have e_ := (Kd.S_reads' HO_17.out).1; omega))
              obtain ⟨ve401_0, rfl, ge401_0⟩ := hMe401
              have hv401_0 := hcc401 0 _ rfl
              rw [Nat.add_zero, show ((Kd.slice 3 (Kd.int .i64))).sz = 1 from rfl, Nat.mul_one] at hv401_0
              replace hv401_0 := Option.some.inj (hv401_0.symm.trans hx401_0)
              rw [hv401_0] at ge401_0
              have HL401_0 := Aside0.mk (show Kd.R (Kd.int .i64) 3 _ _ _ _ (rd_L1 t397 x19_1) from ge401_0)
              clear hv401_0 ge401_0
              clear hcc401 hce401
              have HR401_0 := Aside0.mk hi401_0
              have HC401_0 := Aside0.mk hl401_0
              clear hi401_0 hl401_0
              replace p401 := eq_true p401
              replace q401 := eq_true q401
              go_wp2_with (first | ((with_reducible refine gate_callee (f := 40) rfl ?_); refine goesL_ (some 26) rfl rfl Try.func40 (by kernel_rfl) rfl #[.slice A401_0 (rd_L1 t397 x19_1).length c401_0, .int .i64 a2] rfl ga ?_; (with_reducible refine (spec_l02Has.calls k1 _ _ (rd_L1 t397 x19_1) a2 false _ ?side1 ?side2 A10.out).mono ?_); (case side1 => repeat (first | exact (by repeat (first | (with_reducible exact HR401_0.out) | (with_reducible refine Kd.C_alloc ?_ _) | (with_reducible refine Kd.C_drewN ?_ _) | (with_reducible refine Kd.C_drew ?_) | exact HR401_0.out)) | (with_reducible refine Kd.C_alloc ?_ _) | (with_reducible refine Kd.C_drewN ?_ _) | (with_reducible refine Kd.C_drew ?_))); (case side2 => exact HC401_0.out); rintro e w' ⟨rfl, ⟨nd, rfl⟩⟩; refine ⟨_, rfl, ?_⟩))
              go_roundg k1
              case measure => have := HK1.out; omega
              case rel => exact ⟨(wrap64 (x19_1 + 1)), (es), H', ⟨by have := HK1.out; omega⟩, ⟨by (with_reducible repeat (first | apply Kd.S_alloc | apply Kd.S_drewN | apply Kd.S_drew)); exact HO_17.out⟩, ⟨bel⟩⟩
          · rw [if_neg c9] at H
            exact absurd H (by simp)
        · rw [if_neg c8] at H
          exact absurd H (by simp)
      · rw [if_neg c7] at H
        have c7b0 : decide (x19_1 < (t397.length : Int)) = false := decide_eq_false c7
        clear c7
        obtain rfl := Option.some.inj H
        go_wp2
        go_ret
        exact ⟨er, bel⟩

end Go.Proofs.Ytaopcamaceddnaa.Y
