-- Written by a program of this session (wip/xp.py, over the kit's print) out of the translation: functions, and the walks that show them.
import Derived.Test.YtipojkfkcelejaaX0
import Derived.Test.YtipojkfkcelejaaX1
namespace Go.Proofs.Ytipojkfkcelejaa.X
open Go.RowKit Go.Proofs.YtipojkfkcelejaaW.PrintWords Go.Proofs.YtipojkfkcelejaaW.PrintLast Go.Proofs.YtipojkfkcelejaaW.PrintMore
attribute [local go_sem] max2_int min2_int max_two min_two max_three min_three max_four min_four   -- for this text's walks alone
set_option linter.unusedVariables false
set_option linter.unusedSimpArgs false

/-! ### spec_RaceOk: function 10 -/
mutual
def spec_RaceOk.j0 : Nat → Int → List Int → Bool → Option (Bool)
  | 0, _, _, _ => none
  | k + 1, x0, x1, x18 => if x18 = true then (some false) else (spec_RaceOk.l0 k x0 x1 0 x1 (x1.length : Int) 0)
def spec_RaceOk.l0 : Nat → Int → List Int → Int → List Int → Int → Int → Option (Bool)
  | 0, _, _, _, _, _, _ => none
  | k + 1, x0, x1, x5, x19, x20, x21 => if x21 < x20 then (if 0 ≤ x21 then (if x21 < (x19.length : Int) then ((spec_l01In.f (rd x19 x21) 1 (wrap64 (x0 + 1))).bind fun t104 => (if t104 = true then (if (rd x19 x21) ≤ x0 then (if x21 ≤ (x1.length : Int) then ((spec_l02Has.f k (x1.take (x21 : Int).toNat) (rd x19 x21)).bind fun t106 => (if t106 = true then (some false) else (spec_RaceOk.l0 k x0 x1 (wrap64 (x5 + 1)) x19 x20 (wrap64 (x21 + 1))))) else (none)) else (spec_RaceOk.l0 k x0 x1 x5 x19 x20 (wrap64 (x21 + 1)))) else (some false))) else (none)) else (none)) else (spec_RaceOk.l1 k x0 x5 x1 (x1.length : Int) 0)
def spec_RaceOk.l1 : Nat → Int → Int → List Int → Int → Int → Option (Bool)
  | 0, _, _, _, _, _ => none
  | k + 1, x0, x5, x42, x43, x44 => if x44 < x43 then (if 0 ≤ x44 then (if x44 < (x42.length : Int) then (if (rd x42 x44) ≤ x0 then (if (rd x42 x44) > x5 then (some false) else (spec_RaceOk.l1 k x0 x5 x42 x43 (wrap64 (x44 + 1)))) else (spec_RaceOk.l1 k x0 x5 x42 x43 (wrap64 (x44 + 1)))) else (none)) else (none)) else (some true)
end
def spec_RaceOk.f (k : Nat) (a0 : Int) (l1 : List Int) : Option (Bool) := (spec_l01In.f a0 2 8).bind fun t102 => (if t102 = true then (spec_RaceOk.j0 k a0 l1 ((l1.length : Int) != a0)) else (spec_RaceOk.j0 k a0 l1 true))
theorem spec_RaceOk.mono_l : ∀ k, (∀ y0 y1 y2, LeO (spec_RaceOk.j0 k y0 y1 y2) (spec_RaceOk.j0 (k + 1) y0 y1 y2)) ∧ (∀ y0 y1 y2 y3 y4 y5, LeO (spec_RaceOk.l0 k y0 y1 y2 y3 y4 y5) (spec_RaceOk.l0 (k + 1) y0 y1 y2 y3 y4 y5)) ∧ (∀ y0 y1 y2 y3 y4, LeO (spec_RaceOk.l1 k y0 y1 y2 y3 y4) (spec_RaceOk.l1 (k + 1) y0 y1 y2 y3 y4))
  | 0 => ⟨fun _ _ _ r h => by simp [spec_RaceOk.j0] at h, fun _ _ _ _ _ _ r h => by simp [spec_RaceOk.l0] at h, fun _ _ _ _ _ r h => by simp [spec_RaceOk.l1] at h⟩
  | k + 1 => by
    obtain ⟨ih0, ih1, ih2⟩ := spec_RaceOk.mono_l k
    refine ⟨?_, ?_, ?_⟩
    · intro y0 y1 y2
      unfold spec_RaceOk.j0
      repeat' first
      | (with_reducible exact ih0 _ _ _)
      | (with_reducible exact ih1 _ _ _ _ _ _)
      | (with_reducible exact ih2 _ _ _ _ _)
      | (with_reducible exact spec_l02Has.mono _ _ _)
      | (with_reducible exact LeO.refl _)
      | (with_reducible exact LeO.none _)
      | (with_reducible refine LeO.ite ?_ ?_)
      | (with_reducible refine LeO.bind ?_ (fun _ => ?_))
      | exact ih0 _ _ _
      | exact ih1 _ _ _ _ _ _
      | exact ih2 _ _ _ _ _
      | exact spec_l02Has.mono _ _ _
      | exact LeO.none _
      | refine LeO.ite ?_ ?_
      | refine LeO.bind ?_ (fun _ => ?_)
    · intro y0 y1 y2 y3 y4 y5
      unfold spec_RaceOk.l0
      repeat' first
      | (with_reducible exact ih0 _ _ _)
      | (with_reducible exact ih1 _ _ _ _ _ _)
      | (with_reducible exact ih2 _ _ _ _ _)
      | (with_reducible exact spec_l02Has.mono _ _ _)
      | (with_reducible exact LeO.refl _)
      | (with_reducible exact LeO.none _)
      | (with_reducible refine LeO.ite ?_ ?_)
      | (with_reducible refine LeO.bind ?_ (fun _ => ?_))
      | exact ih0 _ _ _
      | exact ih1 _ _ _ _ _ _
      | exact ih2 _ _ _ _ _
      | exact spec_l02Has.mono _ _ _
      | exact LeO.none _
      | refine LeO.ite ?_ ?_
      | refine LeO.bind ?_ (fun _ => ?_)
    · intro y0 y1 y2 y3 y4
      unfold spec_RaceOk.l1
      repeat' first
      | (with_reducible exact ih0 _ _ _)
      | (with_reducible exact ih1 _ _ _ _ _ _)
      | (with_reducible exact ih2 _ _ _ _ _)
      | (with_reducible exact spec_l02Has.mono _ _ _)
      | (with_reducible exact LeO.refl _)
      | (with_reducible exact LeO.none _)
      | (with_reducible refine LeO.ite ?_ ?_)
      | (with_reducible refine LeO.bind ?_ (fun _ => ?_))
      | exact ih0 _ _ _
      | exact ih1 _ _ _ _ _ _
      | exact ih2 _ _ _ _ _
      | exact spec_l02Has.mono _ _ _
      | exact LeO.none _
      | refine LeO.ite ?_ ?_
      | refine LeO.bind ?_ (fun _ => ?_)
theorem spec_RaceOk.mono : ∀ a0 a1 k, LeO (spec_RaceOk.f k a0 a1) (spec_RaceOk.f (k + 1) a0 a1) := by
  intro a0 a1 k
  obtain ⟨ih0, ih1, ih2⟩ := spec_RaceOk.mono_l k
  unfold spec_RaceOk.f
  repeat' first
      | (with_reducible exact ih0 _ _ _)
      | (with_reducible exact ih1 _ _ _ _ _ _)
      | (with_reducible exact ih2 _ _ _ _ _)
      | (with_reducible exact spec_l02Has.mono _ _ _)
      | (with_reducible exact LeO.refl _)
      | (with_reducible exact LeO.none _)
      | (with_reducible refine LeO.ite ?_ ?_)
      | (with_reducible refine LeO.bind ?_ (fun _ => ?_))
      | exact ih0 _ _ _
      | exact ih1 _ _ _ _ _ _
      | exact ih2 _ _ _ _ _
      | exact spec_l02Has.mono _ _ _
      | exact LeO.none _
      | refine LeO.ite ?_ ?_
      | refine LeO.bind ?_ (fun _ => ?_)
set_option maxHeartbeats 8000000 in
set_option maxRecDepth 100000 in
theorem spec_RaceOk.calls (k : Nat) (a0 : Int) (A1 : Option Addr) (c1 : Nat) (l1 : List Int) (r : Bool) (w : World) (hr1 : Kd.C (Kd.int .i64) w A1 l1.length l1) (hc1 : l1.length ≤ c1) (h : spec_RaceOk.f k a0 l1 = some r) :
    Calls Try.prog 10 #[.int .i64 a0, .slice A1 l1.length c1] w fun e w' => e = .returned (.bool r) ∧ Drawn0 w w' := by
  have HR1 := Aside0.mk hr1
  have HC1 := Aside0.mk hc1
  clear hr1 hc1
  have H : ((spec_l01In.f a0 2 8).bind fun t102 => (if t102 = true then (spec_RaceOk.j0 k a0 l1 ((l1.length : Int) != a0)) else (spec_RaceOk.j0 k a0 l1 true))) = some r := h
  clear h
  have HC3 := Aside0.mk H
  clear H
  go_enter Try.func10, Try.ntmps10
  go_upto_region 1 with (fail)
  go_cut [18] (fun v18 wc => ∃ (kq : Nat) (x18_2 : Bool), v18 = .bool x18_2 ∧ Aside0 (spec_RaceOk.j0 kq a0 l1 x18_2 = some r) ∧ Aside0 (kq ≤ k) ∧ Drawn0 w wc)
  case first =>
    have H := HC3.out
    clear HC3
    replace H := Option.bind_eq_some_iff.mp H
    obtain ⟨t102, A40, H⟩ := H
    replace H : (if t102 = true then (spec_RaceOk.j0 k a0 l1 ((l1.length : Int) != a0)) else (spec_RaceOk.j0 k a0 l1 true)) = some r := H
    have A4 := Aside0.mk A40
    clear A40
    by_cases c5 : t102 = true
    · subst c5
      have H1 : (spec_RaceOk.j0 k a0 l1 ((l1.length : Int) != a0)) = some r := by rw [if_pos rfl] at H; exact H
      clear H
      have H := H1
      clear H1
      have H' := Aside0.mk H
      clear H
      go_wp2_with (first | ((with_reducible refine gate_callee (f := 32) rfl ?_); refine goesL_ (some 11) rfl rfl Try.func32 (by kernel_rfl) rfl #[.int .i64 a0, .int .i64 2, .int .i64 8] rfl ga ?_; (with_reducible refine (spec_l01In.calls a0 2 8 true _ A4.out).mono ?_); rintro e w' ⟨rfl, ⟨nd, rfl⟩⟩; refine ⟨_, rfl, ?_⟩))
      go_meet
      case rel => exact ⟨_, (((l1.length : Int) != a0)), (es), H', ⟨by first | omega | exact Nat.le_refl _⟩, by repeat (first | exact Drawn0.refl _ | apply Drawn0.step)⟩
    · replace c5 := Bool.eq_false_iff.mpr c5
      subst c5
      have H1 : (spec_RaceOk.j0 k a0 l1 true) = some r := by rw [if_neg (show ¬ (false = true) by decide)] at H; exact H
      clear H
      have H := H1
      clear H1
      have H' := Aside0.mk H
      clear H
      go_wp2_with (first | ((with_reducible refine gate_callee (f := 32) rfl ?_); refine goesL_ (some 11) rfl rfl Try.func32 (by kernel_rfl) rfl #[.int .i64 a0, .int .i64 2, .int .i64 8] rfl ga ?_; (with_reducible refine (spec_l01In.calls a0 2 8 false _ A4.out).mono ?_); rintro e w' ⟨rfl, ⟨nd, rfl⟩⟩; refine ⟨_, rfl, ?_⟩))
      go_meet
      case rel => exact ⟨_, (true), (es), H', ⟨by first | omega | exact Nat.le_refl _⟩, by repeat (first | exact Drawn0.refl _ | apply Drawn0.step)⟩
  case rest =>
    clear HC3
    try clear c1; try clear p2; try clear c3; try clear c5
    obtain ⟨kq, x18_2, rfl, HA, HJ2, ⟨mc2, rfl⟩⟩ := hcut
    cases kq with
    | zero => exact absurd HA.out (by simp [spec_RaceOk.j0])
    | succ kj2 =>
      have H := HA.out
      clear HA
      simp only [spec_RaceOk.j0] at H
      by_cases c6 : x18_2 = true
      · subst c6
        have H1 : (some false) = some r := by rw [if_pos rfl] at H; exact H
        clear H
        have H := H1
        clear H1
        obtain rfl := Option.some.inj H
        go_wp2
        go_ret
        exact ⟨es, by repeat (first | exact Drawn0.refl _ | apply Drawn0.step)⟩
      · replace c6 := Bool.eq_false_iff.mpr c6
        subst c6
        have H1 : (spec_RaceOk.l0 kj2 a0 l1 0 l1 (l1.length : Int) 0) = some r := by rw [if_neg (show ¬ (false = true) by decide)] at H; exact H
        clear H
        have H := H1
        clear H1
        have H' := Aside0.mk H
        clear H
        go_wp2
        go_loopg [5, 21] kj2 (fun kq v5 v21 w' => ∃ (x5_2 : Int) (x21_2 : Int), v5 = .int .i64 x5_2 ∧ v21 = .int .i64 x21_2 ∧ Aside0 (spec_RaceOk.l0 kq a0 l1 x5_2 l1 (l1.length : Int) x21_2 = some r) ∧ Aside0 (kq ≤ kj2) ∧ Drawn0 w w')
        case atStart => exact ⟨(0), (0), (es), (es), H', ⟨Nat.le_refl _⟩, by repeat (first | exact Drawn0.refl _ | apply Drawn0.step)⟩
        case round =>
          clear H'
          try clear c1; try clear c2; try clear p2; try clear c3; try clear c5; try clear c6; try clear p2
          obtain ⟨x5_2, x21_2, rfl, rfl, HA, HK2, ⟨m2, rfl⟩⟩ := hrel
          cases gk with
          | zero => exact absurd HA.out (by simp [spec_RaceOk.l0])
          | succ k2 =>
            have H := HA.out
            clear HA
            simp only [spec_RaceOk.l0] at H
            by_cases c7 : x21_2 < (l1.length : Int)
            · rw [if_pos c7] at H
              have c7b0 : decide (x21_2 < (l1.length : Int)) = true := decide_eq_true c7
              clear c7
              by_cases c8 : 0 ≤ x21_2
              · rw [if_pos c8] at H
                have c8b0 : decide (0 ≤ x21_2) = true := decide_eq_true c8
                clear c8
                by_cases c9 : x21_2 < (l1.length : Int)
                · rw [if_pos c9] at H
                  have c9b0 : decide (x21_2 < (l1.length : Int)) = true := decide_eq_true c9
                  clear c9
                  replace H := Option.bind_eq_some_iff.mp H
                  obtain ⟨t104, A100, H⟩ := H
                  replace H : (if t104 = true then (if (rd l1 x21_2) ≤ a0 then (if x21_2 ≤ (l1.length : Int) then ((spec_l02Has.f k2 (l1.take (x21_2 : Int).toNat) (rd l1 x21_2)).bind fun t106 => (if t106 = true then (some false) else (spec_RaceOk.l0 k2 a0 l1 (wrap64 (x5_2 + 1)) l1 (l1.length : Int) (wrap64 (x21_2 + 1))))) else (none)) else (spec_RaceOk.l0 k2 a0 l1 x5_2 l1 (l1.length : Int) (wrap64 (x21_2 + 1)))) else (some false)) = some r := H
                  have A10 := Aside0.mk A100
                  clear A100
                  by_cases c11 : t104 = true
                  · subst c11
                    have H1 : (if (rd l1 x21_2) ≤ a0 then (if x21_2 ≤ (l1.length : Int) then ((spec_l02Has.f k2 (l1.take (x21_2 : Int).toNat) (rd l1 x21_2)).bind fun t106 => (if t106 = true then (some false) else (spec_RaceOk.l0 k2 a0 l1 (wrap64 (x5_2 + 1)) l1 (l1.length : Int) (wrap64 (x21_2 + 1))))) else (none)) else (spec_RaceOk.l0 k2 a0 l1 x5_2 l1 (l1.length : Int) (wrap64 (x21_2 + 1)))) = some r := by rw [if_pos rfl] at H; exact H
                    clear H
                    have H := H1
                    clear H1
                    by_cases c12 : (rd l1 x21_2) ≤ a0
                    · rw [if_pos c12] at H
                      have c12b0 : decide ((rd l1 x21_2) ≤ a0) = true := decide_eq_true c12
                      clear c12
                      have c13b0 := eq_true (asm : 0 ≤ x21_2)
                      by_cases c14 : x21_2 ≤ (l1.length : Int)
                      · rw [if_pos c14] at H
                        have c14b0 := eq_true c14
                        have c14b1 : decide (x21_2 ≤ (l1.length : Int)) = true := decide_eq_true c14
                        clear c14
                        replace H := Option.bind_eq_some_iff.mp H
                        obtain ⟨t106, A150, H⟩ := H
                        replace H : (if t106 = true then (some false) else (spec_RaceOk.l0 k2 a0 l1 (wrap64 (x5_2 + 1)) l1 (l1.length : Int) (wrap64 (x21_2 + 1)))) = some r := H
                        have A15 := Aside0.mk A150
                        clear A150
                        by_cases c16 : t106 = true
                        · subst c16
                          have H1 : (some false) = some r := by rw [if_pos rfl] at H; exact H
                          clear H
                          have H := H1
                          clear H1
                          obtain rfl := Option.some.inj H
                          have p103 : 0 ≤ (x21_2 : Int) := asm
                          have q103 : x21_2 < (l1.length : Int) := asm
                          obtain ⟨ad103, e103, hx103_0⟩ := Kd.at_int HR1.out x21_2 p103 q103
                          cases e103
                          replace p103 := eq_true p103
                          replace q103 := eq_true q103
                          go_wp2_with (first | ((with_reducible refine gate_callee (f := 32) rfl ?_); refine goesL_ (some 29) rfl rfl Try.func32 (by kernel_rfl) rfl #[.int .i64 (rd l1 x21_2), .int .i64 1, .int .i64 (wrap64 (a0 + 1))] rfl ga ?_; (with_reducible refine (spec_l01In.calls (rd l1 x21_2) 1 (wrap64 (a0 + 1)) true _ A10.out).mono ?_); rintro e w' ⟨rfl, ⟨nd, rfl⟩⟩; refine ⟨_, rfl, ?_⟩; obtain ⟨i017, hi017, _, hsz17, _⟩ := info_parts info3; obtain ⟨hcut17, hA17, hC17⟩ := print_take_of (P := Try.prog) (Value.int .i64) 0 22 3 .i64 Try.underlying22 hi017 hsz17 (some ad103) c1 l1 x21_2 (asm) (asm) HC1.out; have HR105 := Aside0.mk (Kd.C_of_reads (h1 := fun _ => rfl) (hA17 _ (Kd.reads_of_C HR1.out))); have HC105 := Aside0.mk hC17; clear hA17 hC17 hi017 hsz17) | ((with_reducible refine gate_callee (f := 33) rfl ?_); refine goesL_ (some 40) rfl rfl Try.func33 (by kernel_rfl) rfl #[.slice (some ad103) (l1.take (x21_2 : Int).toNat).length c1, .int .i64 (rd l1 x21_2)] rfl (by (try simp only [List.map_toArray, List.map_cons, List.map_nil]); first | done | (rw [show (l1.take (x21_2 : Int).toNat).length = x21_2.toNat from (by rw [List.length_take]; have h_ : (x21_2 : Int) ≤ (l1.length : Int) := asm; omega)] <;> rfl) | rfl | (simp only [List.length_drop, List.length_take]; rfl)) ?_; (with_reducible refine (spec_l02Has.calls k2 _ _ (l1.take (x21_2 : Int).toNat) (rd l1 x21_2) true _ ?side1 ?side2 A15.out).mono ?_); (case side1 => exact ck HR105.out); (case side2 => exact HC105.out); rintro e w' ⟨rfl, ⟨nd, rfl⟩⟩; refine ⟨_, rfl, ?_⟩))
                          go_ret
                          exact ⟨es, by repeat (first | exact Drawn0.refl _ | apply Drawn0.step)⟩
                        · replace c16 := Bool.eq_false_iff.mpr c16
                          subst c16
                          have H1 : (spec_RaceOk.l0 k2 a0 l1 (wrap64 (x5_2 + 1)) l1 (l1.length : Int) (wrap64 (x21_2 + 1))) = some r := by rw [if_neg (show ¬ (false = true) by decide)] at H; exact H
                          clear H
                          have H := H1
                          clear H1
                          have H' := Aside0.mk H
                          clear H
                          have p103 : 0 ≤ (x21_2 : Int) := asm
                          have q103 : x21_2 < (l1.length : Int) := asm
                          obtain ⟨ad103, e103, hx103_0⟩ := Kd.at_int HR1.out x21_2 p103 q103
                          cases e103
                          replace p103 := eq_true p103
                          replace q103 := eq_true q103
                          go_wp2_with (first | ((with_reducible refine gate_callee (f := 32) rfl ?_); refine goesL_ (some 29) rfl rfl Try.func32 (by kernel_rfl) rfl #[.int .i64 (rd l1 x21_2), .int .i64 1, .int .i64 (wrap64 (a0 + 1))] rfl ga ?_; (with_reducible refine (spec_l01In.calls (rd l1 x21_2) 1 (wrap64 (a0 + 1)) true _ A10.out).mono ?_); rintro e w' ⟨rfl, ⟨nd, rfl⟩⟩; refine ⟨_, rfl, ?_⟩; obtain ⟨i018, hi018, _, hsz18, _⟩ := info_parts info3; obtain ⟨hcut18, hA18, hC18⟩ := print_take_of (P := Try.prog) (Value.int .i64) 0 22 3 .i64 Try.underlying22 hi018 hsz18 (some ad103) c1 l1 x21_2 (asm) (asm) HC1.out; have HR105 := Aside0.mk (Kd.C_of_reads (h1 := fun _ => rfl) (hA18 _ (Kd.reads_of_C HR1.out))); have HC105 := Aside0.mk hC18; clear hA18 hC18 hi018 hsz18) | ((with_reducible refine gate_callee (f := 33) rfl ?_); refine goesL_ (some 40) rfl rfl Try.func33 (by kernel_rfl) rfl #[.slice (some ad103) (l1.take (x21_2 : Int).toNat).length c1, .int .i64 (rd l1 x21_2)] rfl (by (try simp only [List.map_toArray, List.map_cons, List.map_nil]); first | done | (rw [show (l1.take (x21_2 : Int).toNat).length = x21_2.toNat from (by rw [List.length_take]; have h_ : (x21_2 : Int) ≤ (l1.length : Int) := asm; omega)] <;> rfl) | rfl | (simp only [List.length_drop, List.length_take]; rfl)) ?_; (with_reducible refine (spec_l02Has.calls k2 _ _ (l1.take (x21_2 : Int).toNat) (rd l1 x21_2) false _ ?side1 ?side2 A15.out).mono ?_); (case side1 => exact ck HR105.out); (case side2 => exact HC105.out); rintro e w' ⟨rfl, ⟨nd, rfl⟩⟩; refine ⟨_, rfl, ?_⟩))
                          go_roundg k2
                          case measure => have := HJ2.out; have := HK2.out; omega
                          case rel => exact ⟨(wrap64 (x5_2 + 1)), (wrap64 (x21_2 + 1)), (es), (es), H', ⟨by have := HJ2.out; have := HK2.out; omega⟩, by repeat (first | exact Drawn0.refl _ | apply Drawn0.step)⟩
                      · rw [if_neg c14] at H
                        exact absurd H (by simp)
                    · rw [if_neg c12] at H
                      have c12b0 : decide ((rd l1 x21_2) ≤ a0) = false := decide_eq_false c12
                      clear c12
                      have H' := Aside0.mk H
                      clear H
                      have p103 : 0 ≤ (x21_2 : Int) := asm
                      have q103 : x21_2 < (l1.length : Int) := asm
                      obtain ⟨ad103, e103, hx103_0⟩ := Kd.at_int HR1.out x21_2 p103 q103
                      cases e103
                      replace p103 := eq_true p103
                      replace q103 := eq_true q103
                      go_wp2_with (first | ((with_reducible refine gate_callee (f := 32) rfl ?_); refine goesL_ (some 29) rfl rfl Try.func32 (by kernel_rfl) rfl #[.int .i64 (rd l1 x21_2), .int .i64 1, .int .i64 (wrap64 (a0 + 1))] rfl ga ?_; (with_reducible refine (spec_l01In.calls (rd l1 x21_2) 1 (wrap64 (a0 + 1)) true _ A10.out).mono ?_); rintro e w' ⟨rfl, ⟨nd, rfl⟩⟩; refine ⟨_, rfl, ?_⟩))
                      go_roundg k2
                      case measure => have := HJ2.out; have := HK2.out; omega
                      case rel => exact ⟨(x5_2), (wrap64 (x21_2 + 1)), (es), (es), H', ⟨by have := HJ2.out; have := HK2.out; omega⟩, by repeat (first | exact Drawn0.refl _ | apply Drawn0.step)⟩
                  · replace c11 := Bool.eq_false_iff.mpr c11
                    subst c11
                    have H1 : (some false) = some r := by rw [if_neg (show ¬ (false = true) by decide)] at H; exact H
                    clear H
                    have H := H1
                    clear H1
                    obtain rfl := Option.some.inj H
                    have p103 : 0 ≤ (x21_2 : Int) := asm
                    have q103 : x21_2 < (l1.length : Int) := asm
                    obtain ⟨ad103, e103, hx103_0⟩ := Kd.at_int HR1.out x21_2 p103 q103
                    cases e103
                    replace p103 := eq_true p103
                    replace q103 := eq_true q103
                    go_wp2_with (first | ((with_reducible refine gate_callee (f := 32) rfl ?_); refine goesL_ (some 29) rfl rfl Try.func32 (by kernel_rfl) rfl #[.int .i64 (rd l1 x21_2), .int .i64 1, .int .i64 (wrap64 (a0 + 1))] rfl ga ?_; (with_reducible refine (spec_l01In.calls (rd l1 x21_2) 1 (wrap64 (a0 + 1)) false _ A10.out).mono ?_); rintro e w' ⟨rfl, ⟨nd, rfl⟩⟩; refine ⟨_, rfl, ?_⟩))
                    go_ret
                    exact ⟨es, by repeat (first | exact Drawn0.refl _ | apply Drawn0.step)⟩
                · rw [if_neg c9] at H
                  exact absurd H (by simp)
              · rw [if_neg c8] at H
                exact absurd H (by simp)
            · rw [if_neg c7] at H
              have c7b0 : decide (x21_2 < (l1.length : Int)) = false := decide_eq_false c7
              clear c7
              have H' := Aside0.mk H
              clear H
              go_wp2
              go_loopg [44] k2 (fun kq v44 w' => ∃ (x44_3 : Int), v44 = .int .i64 x44_3 ∧ Aside0 (spec_RaceOk.l1 kq a0 x5_2 l1 (l1.length : Int) x44_3 = some r) ∧ Aside0 (kq ≤ k2) ∧ Drawn0 w w')
              case atStart => exact ⟨(0), (es), H', ⟨Nat.le_refl _⟩, by repeat (first | exact Drawn0.refl _ | apply Drawn0.step)⟩
              case round =>
                clear H'
                try clear c1; try clear p1; try clear q1; try clear hx1; try clear c2; try clear p2; try clear c3; try clear c5; try clear c6; try clear p6; try clear c7; try clear c7b0; try clear c8; try clear c8b0; try clear c9; try clear c9b0; try clear c10; try clear p10; try clear q10; try clear hx10; try clear c11; try clear c12; try clear c12b0; try clear c13; try clear c13b0; try clear c14; try clear c14b0; try clear c14b1; try clear c16; try clear hx103_0; try clear p103; try clear p2; try clear q103
                obtain ⟨x44_3, rfl, HA, HK3, ⟨m3, rfl⟩⟩ := hrel
                cases gk with
                | zero => exact absurd HA.out (by simp [spec_RaceOk.l1])
                | succ k3 =>
                  have H := HA.out
                  clear HA
                  simp only [spec_RaceOk.l1] at H
                  by_cases c19 : x44_3 < (l1.length : Int)
                  · rw [if_pos c19] at H
                    have c19b0 : decide (x44_3 < (l1.length : Int)) = true := decide_eq_true c19
                    clear c19
                    by_cases c20 : 0 ≤ x44_3
                    · rw [if_pos c20] at H
                      have c20b0 : decide (0 ≤ x44_3) = true := decide_eq_true c20
                      clear c20
                      by_cases c21 : x44_3 < (l1.length : Int)
                      · rw [if_pos c21] at H
                        have c21b0 : decide (x44_3 < (l1.length : Int)) = true := decide_eq_true c21
                        clear c21
                        by_cases c22 : (rd l1 x44_3) ≤ a0
                        · rw [if_pos c22] at H
                          have c22b0 : decide ((rd l1 x44_3) ≤ a0) = true := decide_eq_true c22
                          clear c22
                          by_cases c23 : (rd l1 x44_3) > x5_2
                          · rw [if_pos c23] at H
                            have c23b0 : decide (x5_2 < (rd l1 x44_3)) = true := decide_eq_true c23
                            clear c23
                            obtain rfl := Option.some.inj H
                            have p107 : 0 ≤ (x44_3 : Int) := asm
                            have q107 : x44_3 < (l1.length : Int) := asm
                            obtain ⟨ad107, e107, hx107_0⟩ := Kd.at_int HR1.out x44_3 p107 q107
                            cases e107
                            replace p107 := eq_true p107
                            replace q107 := eq_true q107
                            go_wp2
                            go_ret
                            exact ⟨es, by repeat (first | exact Drawn0.refl _ | apply Drawn0.step)⟩
                          · rw [if_neg c23] at H
                            have c23b0 : decide (x5_2 < (rd l1 x44_3)) = false := decide_eq_false c23
                            clear c23
                            have H' := Aside0.mk H
                            clear H
                            have p107 : 0 ≤ (x44_3 : Int) := asm
                            have q107 : x44_3 < (l1.length : Int) := asm
                            obtain ⟨ad107, e107, hx107_0⟩ := Kd.at_int HR1.out x44_3 p107 q107
                            cases e107
                            replace p107 := eq_true p107
                            replace q107 := eq_true q107
                            go_wp2
                            go_roundg k3
                            case measure => have := HJ2.out; have := HK2.out; have := HK3.out; omega
                            case rel => exact ⟨(wrap64 (x44_3 + 1)), (es), H', ⟨by have := HJ2.out; have := HK2.out; have := HK3.out; omega⟩, by repeat (first | exact Drawn0.refl _ | apply Drawn0.step)⟩
                        · rw [if_neg c22] at H
                          have c22b0 : decide ((rd l1 x44_3) ≤ a0) = false := decide_eq_false c22
                          clear c22
                          have H' := Aside0.mk H
                          clear H
                          have p107 : 0 ≤ (x44_3 : Int) := asm
                          have q107 : x44_3 < (l1.length : Int) := asm
                          obtain ⟨ad107, e107, hx107_0⟩ := Kd.at_int HR1.out x44_3 p107 q107
                          cases e107
                          replace p107 := eq_true p107
                          replace q107 := eq_true q107
                          go_wp2
                          go_roundg k3
                          case measure => have := HJ2.out; have := HK2.out; have := HK3.out; omega
                          case rel => exact ⟨(wrap64 (x44_3 + 1)), (es), H', ⟨by have := HJ2.out; have := HK2.out; have := HK3.out; omega⟩, by repeat (first | exact Drawn0.refl _ | apply Drawn0.step)⟩
                      · rw [if_neg c21] at H
                        exact absurd H (by simp)
                    · rw [if_neg c20] at H
                      exact absurd H (by simp)
                  · rw [if_neg c19] at H
                    have c19b0 : decide (x44_3 < (l1.length : Int)) = false := decide_eq_false c19
                    clear c19
                    obtain rfl := Option.some.inj H
                    go_wp2
                    go_ret
                    exact ⟨es, by repeat (first | exact Drawn0.refl _ | apply Drawn0.step)⟩

end Go.Proofs.Ytipojkfkcelejaa.X
