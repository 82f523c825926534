-- Written by a program of this session (wip/xp.py, over the kit's print) out of the translation: functions, and the walks that show them.
import Derived.Test.YtaopcamaceddnaaY0
import Derived.Test.YtaopcamaceddnaaY2
import Derived.Test.YtaopcamaceddnaaY6
import Derived.Test.YtaopcamaceddnaaY8
import Derived.Test.YtaopcamaceddnaaY9
import Derived.Test.YtaopcamaceddnaaY11
namespace Go.Proofs.Ytaopcamaceddnaa.Y
open Go.RowKit Go.Proofs.YtaopcamaceddnaaW.PrintWords Go.Proofs.YtaopcamaceddnaaW.PrintLast Go.Proofs.YtaopcamaceddnaaW.PrintMore
attribute [local go_sem] max2_int min2_int max_two min_two max_three min_three max_four min_four   -- for this text's walks alone
set_option linter.unusedVariables false
set_option linter.unusedSimpArgs false

/-! ### laws_FnSwaps: function 5 -/
mutual
def laws_FnSwaps.l0 : Nat → Int → List (S38) → List (S38) → Int → Int → Option (Bool)
  | 0, _, _, _, _, _ => none
  | k + 1, x3, x4, x23, x24, x25 => if x25 < x24 then (if 0 ≤ x25 then (if x25 < (x23.length : Int) then ((impl_FirstOut.f k x3 x4 x25).bind fun t295 => (if t295 ≥ 0 then ((impl_ContestOf.f k x3 x4 t295).bind fun t296 => (if t296 = (-1) then ((laws_has.f k ((rd_T38 x23 x25).f0) t295).bind fun t298 => (laws_FnSwaps.j1 k x3 x4 x25 t295 x23 x24 x25 (!t298))) else (laws_FnSwaps.j1 k x3 x4 x25 t295 x23 x24 x25 true))) else (laws_FnSwaps.j1 k x3 x4 x25 t295 x23 x24 x25 false))) else (none)) else (none)) else (some true)
def laws_FnSwaps.j1 : Nat → Int → List (S38) → Int → Int → List (S38) → Int → Int → Bool → Option (Bool)
  | 0, _, _, _, _, _, _, _, _ => none
  | k + 1, x3, x4, x5, x7, x23, x24, x25, x49 => if x49 = true then (some false) else (laws_FnSwaps.l1 k x3 x4 x5 x7 0 x23 x24 x25)
def laws_FnSwaps.l1 : Nat → Int → List (S38) → Int → Int → Int → List (S38) → Int → Int → Option (Bool)
  | 0, _, _, _, _, _, _, _, _ => none
  | k + 1, x3, x4, x5, x7, x8, x23, x24, x25 => if 0 ≤ x25 then (if x25 < (x23.length : Int) then (if (wrap64 (x8 + 1)) < (((rd_T38 x23 x25).f0).length : Int) then ((impl_SwapGains.f k x3 x4 x5 x8).bind fun t304 => (laws_FnSwaps.l2 k x3 x4 x5 x7 x8 x23 x24 x25 t304 (t304.length : Int) 0)) else (if x7 = (-1) then (if (((rd_T38 x23 x25).f0).length : Int) > 0 then (if 0 < (((rd_T38 x23 x25).f0).length : Int) then ((impl_ContestOf.f k x3 x4 (rd ((rd_T38 x23 x25).f0) 0)).bind fun t303 => (if t303 = (-1) then (some false) else (laws_FnSwaps.l0 k x3 x4 x23 x24 (wrap64 (x25 + 1))))) else (none)) else (laws_FnSwaps.l0 k x3 x4 x23 x24 (wrap64 (x25 + 1)))) else (laws_FnSwaps.l0 k x3 x4 x23 x24 (wrap64 (x25 + 1))))) else (none)) else (none)
def laws_FnSwaps.l2 : Nat → Int → List (S38) → Int → Int → Int → List (S38) → Int → Int → List Int → Int → Int → Option (Bool)
  | 0, _, _, _, _, _, _, _, _, _, _, _ => none
  | k + 1, x3, x4, x5, x7, x8, x23, x24, x25, x62, x63, x64 => if x64 < x63 then (if 0 ≤ x64 then (if x64 < (x62.length : Int) then (if (rd x62 x64) < 0 then (some false) else (if (rd x62 x64) ≥ x3 then (some false) else ((impl_ContestOf.f k x3 x4 (rd x62 x64)).bind fun t308 => (if t308 = (-1) then (laws_FnSwaps.l2 k x3 x4 x5 x7 x8 x23 x24 x25 x62 x63 (wrap64 (x64 + 1))) else (some false))))) else (none)) else (none)) else (laws_FnSwaps.l1 k x3 x4 x5 x7 (wrap64 (x8 + 1)) x23 x24 x25)
end
def laws_FnSwaps.f (k : Nat) (l0 : List Int) : Option (Bool) := if (l0.length : Int) > 1048576 then (some true) else ((spec_MakeContests.f k l0).bind fun bt288 => ((impl_ContestsOk.f k bt288.1 bt288.2).bind fun t292 => (if t292 = true then (laws_FnSwaps.l0 k bt288.1 bt288.2 bt288.2 (bt288.2.length : Int) 0) else (some false))))
theorem laws_FnSwaps.mono_l : ∀ k, (∀ y0 y1 y2 y3 y4, LeO (laws_FnSwaps.l0 k y0 y1 y2 y3 y4) (laws_FnSwaps.l0 (k + 1) y0 y1 y2 y3 y4)) ∧ (∀ y0 y1 y2 y3 y4 y5 y6 y7, LeO (laws_FnSwaps.j1 k y0 y1 y2 y3 y4 y5 y6 y7) (laws_FnSwaps.j1 (k + 1) y0 y1 y2 y3 y4 y5 y6 y7)) ∧ (∀ y0 y1 y2 y3 y4 y5 y6 y7, LeO (laws_FnSwaps.l1 k y0 y1 y2 y3 y4 y5 y6 y7) (laws_FnSwaps.l1 (k + 1) y0 y1 y2 y3 y4 y5 y6 y7)) ∧ (∀ y0 y1 y2 y3 y4 y5 y6 y7 y8 y9 y10, LeO (laws_FnSwaps.l2 k y0 y1 y2 y3 y4 y5 y6 y7 y8 y9 y10) (laws_FnSwaps.l2 (k + 1) y0 y1 y2 y3 y4 y5 y6 y7 y8 y9 y10))
  | 0 => ⟨fun _ _ _ _ _ r h => by simp [laws_FnSwaps.l0] at h, fun _ _ _ _ _ _ _ _ r h => by simp [laws_FnSwaps.j1] at h, fun _ _ _ _ _ _ _ _ r h => by simp [laws_FnSwaps.l1] at h, fun _ _ _ _ _ _ _ _ _ _ _ r h => by simp [laws_FnSwaps.l2] at h⟩
  | k + 1 => by
    obtain ⟨ih0, ih1, ih2, ih3⟩ := laws_FnSwaps.mono_l k
    refine ⟨?_, ?_, ?_, ?_⟩
    · intro y0 y1 y2 y3 y4
      unfold laws_FnSwaps.l0
      repeat' first
      | (with_reducible exact ih0 _ _ _ _ _)
      | (with_reducible exact ih1 _ _ _ _ _ _ _ _)
      | (with_reducible exact ih2 _ _ _ _ _ _ _ _)
      | (with_reducible exact ih3 _ _ _ _ _ _ _ _ _ _ _)
      | (with_reducible exact impl_ContestOf.mono _ _ _ _)
      | (with_reducible exact impl_ContestsOk.mono _ _ _)
      | (with_reducible exact impl_FirstOut.mono _ _ _ _)
      | (with_reducible exact impl_SwapGains.mono _ _ _ _ _)
      | (with_reducible exact laws_has.mono _ _ _)
      | (with_reducible exact spec_MakeContests.mono _ _)
      | (with_reducible exact LeO.refl _)
      | (with_reducible exact LeO.none _)
      | (with_reducible refine LeO.ite ?_ ?_)
      | (with_reducible refine LeO.bind ?_ (fun _ => ?_))
      | exact ih0 _ _ _ _ _
      | exact ih1 _ _ _ _ _ _ _ _
      | exact ih2 _ _ _ _ _ _ _ _
      | exact ih3 _ _ _ _ _ _ _ _ _ _ _
      | exact impl_ContestOf.mono _ _ _ _
      | exact impl_ContestsOk.mono _ _ _
      | exact impl_FirstOut.mono _ _ _ _
      | exact impl_SwapGains.mono _ _ _ _ _
      | exact laws_has.mono _ _ _
      | exact spec_MakeContests.mono _ _
      | exact LeO.none _
      | refine LeO.ite ?_ ?_
      | refine LeO.bind ?_ (fun _ => ?_)
    · intro y0 y1 y2 y3 y4 y5 y6 y7
      unfold laws_FnSwaps.j1
      repeat' first
      | (with_reducible exact ih0 _ _ _ _ _)
      | (with_reducible exact ih1 _ _ _ _ _ _ _ _)
      | (with_reducible exact ih2 _ _ _ _ _ _ _ _)
      | (with_reducible exact ih3 _ _ _ _ _ _ _ _ _ _ _)
      | (with_reducible exact impl_ContestOf.mono _ _ _ _)
      | (with_reducible exact impl_ContestsOk.mono _ _ _)
      | (with_reducible exact impl_FirstOut.mono _ _ _ _)
      | (with_reducible exact impl_SwapGains.mono _ _ _ _ _)
      | (with_reducible exact laws_has.mono _ _ _)
      | (with_reducible exact spec_MakeContests.mono _ _)
      | (with_reducible exact LeO.refl _)
      | (with_reducible exact LeO.none _)
      | (with_reducible refine LeO.ite ?_ ?_)
      | (with_reducible refine LeO.bind ?_ (fun _ => ?_))
      | exact ih0 _ _ _ _ _
      | exact ih1 _ _ _ _ _ _ _ _
      | exact ih2 _ _ _ _ _ _ _ _
      | exact ih3 _ _ _ _ _ _ _ _ _ _ _
      | exact impl_ContestOf.mono _ _ _ _
      | exact impl_ContestsOk.mono _ _ _
      | exact impl_FirstOut.mono _ _ _ _
      | exact impl_SwapGains.mono _ _ _ _ _
      | exact laws_has.mono _ _ _
      | exact spec_MakeContests.mono _ _
      | exact LeO.none _
      | refine LeO.ite ?_ ?_
      | refine LeO.bind ?_ (fun _ => ?_)
    · intro y0 y1 y2 y3 y4 y5 y6 y7
      unfold laws_FnSwaps.l1
      repeat' first
      | (with_reducible exact ih0 _ _ _ _ _)
      | (with_reducible exact ih1 _ _ _ _ _ _ _ _)
      | (with_reducible exact ih2 _ _ _ _ _ _ _ _)
      | (with_reducible exact ih3 _ _ _ _ _ _ _ _ _ _ _)
      | (with_reducible exact impl_ContestOf.mono _ _ _ _)
      | (with_reducible exact impl_ContestsOk.mono _ _ _)
      | (with_reducible exact impl_FirstOut.mono _ _ _ _)
      | (with_reducible exact impl_SwapGains.mono _ _ _ _ _)
      | (with_reducible exact laws_has.mono _ _ _)
      | (with_reducible exact spec_MakeContests.mono _ _)
      | (with_reducible exact LeO.refl _)
      | (with_reducible exact LeO.none _)
      | (with_reducible refine LeO.ite ?_ ?_)
      | (with_reducible refine LeO.bind ?_ (fun _ => ?_))
      | exact ih0 _ _ _ _ _
      | exact ih1 _ _ _ _ _ _ _ _
      | exact ih2 _ _ _ _ _ _ _ _
      | exact ih3 _ _ _ _ _ _ _ _ _ _ _
      | exact impl_ContestOf.mono _ _ _ _
      | exact impl_ContestsOk.mono _ _ _
      | exact impl_FirstOut.mono _ _ _ _
      | exact impl_SwapGains.mono _ _ _ _ _
      | exact laws_has.mono _ _ _
      | exact spec_MakeContests.mono _ _
      | exact LeO.none _
      | refine LeO.ite ?_ ?_
      | refine LeO.bind ?_ (fun _ => ?_)
    · intro y0 y1 y2 y3 y4 y5 y6 y7 y8 y9 y10
      unfold laws_FnSwaps.l2
      repeat' first
      | (with_reducible exact ih0 _ _ _ _ _)
      | (with_reducible exact ih1 _ _ _ _ _ _ _ _)
      | (with_reducible exact ih2 _ _ _ _ _ _ _ _)
      | (with_reducible exact ih3 _ _ _ _ _ _ _ _ _ _ _)
      | (with_reducible exact impl_ContestOf.mono _ _ _ _)
      | (with_reducible exact impl_ContestsOk.mono _ _ _)
      | (with_reducible exact impl_FirstOut.mono _ _ _ _)
      | (with_reducible exact impl_SwapGains.mono _ _ _ _ _)
      | (with_reducible exact laws_has.mono _ _ _)
      | (with_reducible exact spec_MakeContests.mono _ _)
      | (with_reducible exact LeO.refl _)
      | (with_reducible exact LeO.none _)
      | (with_reducible refine LeO.ite ?_ ?_)
      | (with_reducible refine LeO.bind ?_ (fun _ => ?_))
      | exact ih0 _ _ _ _ _
      | exact ih1 _ _ _ _ _ _ _ _
      | exact ih2 _ _ _ _ _ _ _ _
      | exact ih3 _ _ _ _ _ _ _ _ _ _ _
      | exact impl_ContestOf.mono _ _ _ _
      | exact impl_ContestsOk.mono _ _ _
      | exact impl_FirstOut.mono _ _ _ _
      | exact impl_SwapGains.mono _ _ _ _ _
      | exact laws_has.mono _ _ _
      | exact spec_MakeContests.mono _ _
      | exact LeO.none _
      | refine LeO.ite ?_ ?_
      | refine LeO.bind ?_ (fun _ => ?_)
theorem laws_FnSwaps.mono : ∀ a0 k, LeO (laws_FnSwaps.f k a0) (laws_FnSwaps.f (k + 1) a0) := by
  intro a0 k
  obtain ⟨ih0, ih1, ih2, ih3⟩ := laws_FnSwaps.mono_l k
  unfold laws_FnSwaps.f
  repeat' first
      | (with_reducible exact ih0 _ _ _ _ _)
      | (with_reducible exact ih1 _ _ _ _ _ _ _ _)
      | (with_reducible exact ih2 _ _ _ _ _ _ _ _)
      | (with_reducible exact ih3 _ _ _ _ _ _ _ _ _ _ _)
      | (with_reducible exact impl_ContestOf.mono _ _ _ _)
      | (with_reducible exact impl_ContestsOk.mono _ _ _)
      | (with_reducible exact impl_FirstOut.mono _ _ _ _)
      | (with_reducible exact impl_SwapGains.mono _ _ _ _ _)
      | (with_reducible exact laws_has.mono _ _ _)
      | (with_reducible exact spec_MakeContests.mono _ _)
      | (with_reducible exact LeO.refl _)
      | (with_reducible exact LeO.none _)
      | (with_reducible refine LeO.ite ?_ ?_)
      | (with_reducible refine LeO.bind ?_ (fun _ => ?_))
      | exact ih0 _ _ _ _ _
      | exact ih1 _ _ _ _ _ _ _ _
      | exact ih2 _ _ _ _ _ _ _ _
      | exact ih3 _ _ _ _ _ _ _ _ _ _ _
      | exact impl_ContestOf.mono _ _ _ _
      | exact impl_ContestsOk.mono _ _ _
      | exact impl_FirstOut.mono _ _ _ _
      | exact impl_SwapGains.mono _ _ _ _ _
      | exact laws_has.mono _ _ _
      | exact spec_MakeContests.mono _ _
      | exact LeO.none _
      | refine LeO.ite ?_ ?_
      | refine LeO.bind ?_ (fun _ => ?_)
set_option maxHeartbeats 8000000 in
set_option maxRecDepth 100000 in
theorem laws_FnSwaps.calls (k : Nat) (A0 : Option Addr) (c0 : Nat) (l0 : List Int) (r : Bool) (w : World) (hr0 : Kd.C (Kd.int .u8) w A0 l0.length l0) (hc0 : l0.length ≤ c0) (h : laws_FnSwaps.f k l0 = some r) :
    Calls Try.prog 5 #[.slice A0 l0.length c0] w fun e w' => e = .returned (.bool r) ∧ Below w.heap.size w w' := by
  have hu38 := Try.underlying38
  have HR0 := Aside0.mk hr0
  have HC0 := Aside0.mk hc0
  clear hr0 hc0
  have HB := Aside0.mk (Below.refl w.heap.size w)
  have H : (if (l0.length : Int) > 1048576 then (some true) else ((spec_MakeContests.f k l0).bind fun bt288 => ((impl_ContestsOk.f k bt288.1 bt288.2).bind fun t292 => (if t292 = true then (laws_FnSwaps.l0 k bt288.1 bt288.2 bt288.2 (bt288.2.length : Int) 0) else (some false))))) = some r := h
  clear h
  by_cases c2 : (l0.length : Int) > 1048576
  · rw [if_pos c2] at H
    have c2b0 : decide (1048576 < (l0.length : Int)) = true := decide_eq_true c2
    have c2b1 : decide (1048576 < l0.length) = true := decide_eq_true (by omega)
    clear c2
    obtain rfl := Option.some.inj H
    go_enter Try.func5, Try.ntmps5
    go_wp2
    go_ret
    exact ⟨er, bel⟩
  · rw [if_neg c2] at H
    have c2b0 : decide (1048576 < (l0.length : Int)) = false := decide_eq_false c2
    have c2b1 : decide (1048576 < l0.length) = false := decide_eq_false (by omega)
    clear c2
    replace H := Option.bind_eq_some_iff.mp H
    obtain ⟨⟨t288, t289⟩, A30, H⟩ := H
    replace H : ((impl_ContestsOk.f k t288 t289).bind fun t292 => (if t292 = true then (laws_FnSwaps.l0 k t288 t289 t289 (t289.length : Int) 0) else (some false))) = some r := H
    have A3 := Aside0.mk A30
    clear A30
    replace H := Option.bind_eq_some_iff.mp H
    obtain ⟨t292, A40, H⟩ := H
    replace H : (if t292 = true then (laws_FnSwaps.l0 k t288 t289 t289 (t289.length : Int) 0) else (some false)) = some r := H
    have A4 := Aside0.mk A40
    clear A40
    by_cases c5 : t292 = true
    · subst c5
      have H1 : (laws_FnSwaps.l0 k t288 t289 t289 (t289.length : Int) 0) = some r := by rw [if_pos rfl] at H; exact H
      clear H
      have H := H1
      clear H1
      have H' := Aside0.mk H
      clear H
      go_enter Try.func5, Try.ntmps5
      go_wp2_with (first | ((with_reducible refine gate_callee (f := 17) rfl ?_); refine goesL_ (some 16) rfl rfl Try.func17 (by kernel_rfl) rfl #[.slice A0 l0.length c0] rfl ga ?_; (with_reducible refine (spec_MakeContests.calls k _ _ l0 t288 t289 _ ?side1 ?side2 A3.out).mono ?_); (case side1 => exact ck HR0.out); (case side2 => exact HC0.out); rintro e w6 ⟨v290, rfl, ho0, hb⟩; refine ⟨_, rfl, ?_⟩; have HO291 := Aside0.mk (Kd.N_lower (Kd.N_mono (ok' := fun k_ => True) ho0 (fun k_ hk_ => trivial)) (below_size bel)); replace HB := Aside0.mk (below_step bel hb); (try clear hb); (try clear ho0); obtain ⟨Ao7, co7, eo7⟩ := Kd.N_slice HO291.out; subst eo7) | ((with_reducible refine gate_callee (f := 15) rfl ?_); refine goesL_ (some 21) rfl rfl Try.func15 (by kernel_rfl) rfl #[.int .i64 t288, .slice Ao7 t289.length co7] rfl ga ?_; (with_reducible refine (impl_ContestsOk.calls k t288 _ _ t289 true _ ?side1 ?side2 A4.out).mono ?_); (case side1 => repeat (first | exact (Kd.N_reads' HO291.out).2.2 | (with_reducible refine Kd.C_alloc ?_ _) | (with_reducible refine Kd.C_drewN ?_ _) | (with_reducible refine Kd.C_drew ?_))); (case side2 => exact (Kd.N_reads' HO291.out).2.1); rintro e w8 ⟨rfl, hb⟩; refine ⟨_, rfl, ?_⟩; replace HO291 := Aside0.mk (Kd.N_below (by (with_reducible repeat (first | apply Kd.N_alloc | apply Kd.N_drewN | apply Kd.N_drew)); exact HO291.out) hb); replace HB := Aside0.mk (below_step bel hb); (try clear hb)))
      go_loopg [25] k (fun kq v25 w' => ∃ (x25_1 : Int), v25 = .int .i64 x25_1 ∧ Aside0 (laws_FnSwaps.l0 kq t288 t289 t289 (t289.length : Int) x25_1 = some r) ∧ Aside0 (kq ≤ k) ∧ Aside0 (Kd.N k38 38 w' w.heap.size (fun _ => True) (.slice Ao7 t289.length co7) t289) ∧ Aside0 (Kd.N k38 38 w' w.heap.size (fun _ => True) (.slice Ao7 t289.length co7) t289) ∧ Aside0 (Below w.heap.size w w'))
      case atStart => exact ⟨(0), (es), H', ⟨Nat.le_refl _⟩, ⟨by (with_reducible repeat (first | apply Kd.N_alloc | apply Kd.N_drewN | apply Kd.N_drew)); exact HO291.out⟩, ⟨by (with_reducible repeat (first | apply Kd.N_alloc | apply Kd.N_drewN | apply Kd.N_drew)); exact HO291.out⟩, ⟨bel⟩⟩
      case round =>
        clear H'
        try clear c1; try clear c2; try clear c2b0; try clear c2b1; try clear p2; try clear c5
        obtain ⟨x25_1, rfl, HA, HK1, HO_4, HO_23, HB⟩ := hrel
        cases gk with
        | zero => exact absurd HA.out (by simp [laws_FnSwaps.l0])
        | succ k1 =>
          have H := HA.out
          clear HA
          simp only [laws_FnSwaps.l0] at H
          by_cases c9 : x25_1 < (t289.length : Int)
          · rw [if_pos c9] at H
            have c9b0 : decide (x25_1 < (t289.length : Int)) = true := decide_eq_true c9
            clear c9
            by_cases c10 : 0 ≤ x25_1
            · rw [if_pos c10] at H
              have c10b0 : decide (0 ≤ x25_1) = true := decide_eq_true c10
              clear c10
              by_cases c11 : x25_1 < (t289.length : Int)
              · rw [if_pos c11] at H
                have c11b0 : decide (x25_1 < (t289.length : Int)) = true := decide_eq_true c11
                clear c11
                replace H := Option.bind_eq_some_iff.mp H
                obtain ⟨t295, A120, H⟩ := H
                replace H : (if t295 ≥ 0 then ((impl_ContestOf.f k1 t288 t289 t295).bind fun t296 => (if t296 = (-1) then ((laws_has.f k1 ((rd_T38 t289 x25_1).f0) t295).bind fun t298 => (laws_FnSwaps.j1 k1 t288 t289 x25_1 t295 t289 (t289.length : Int) x25_1 (!t298))) else (laws_FnSwaps.j1 k1 t288 t289 x25_1 t295 t289 (t289.length : Int) x25_1 true))) else (laws_FnSwaps.j1 k1 t288 t289 x25_1 t295 t289 (t289.length : Int) x25_1 false)) = some r := H
                have A12 := Aside0.mk A120
                clear A120
                have HC13 := Aside0.mk H
                clear H
                have p293 : 0 ≤ (x25_1 : Int) := asm
                have q293 : x25_1 < (t289.length : Int) := asm
                obtain ⟨ad293, A293_0, c293_0, e293, hx293_0, hx293_1, hx293_2, hl293_0, hi293_0⟩ := at_T38 (Kd.N_reads' HO_23.out).2.2 x25_1 p293 q293
                cases e293
                obtain ⟨ce293, hce293, hMe293, hcc293⟩ := Kd.N_get HO_23.out z38 x25_1 p293 (by first | exact q293 | exact asm | (have e_ := (Kd.N_reads' HO_23.out).1; omega))
                obtain ⟨ua293_0, uc293_0, rfl, ul293_0, ge293_0⟩ := k38_openF hMe293
                have hv293_0 := hcc293 0 _ rfl
                rw [Nat.add_zero] at hv293_0
                replace hv293_0 := Option.some.inj (hv293_0.symm.trans hx293_0)
                injection hv293_0 with hva_ hvn_ hvc_
                rw [hva_] at ge293_0
                rw [hvc_] at ul293_0
                have HL293_0 := Aside0.mk (show Kd.V (Kd.int .i64) 3 _ w.heap.size _ _ ((rd_T38 t289 x25_1).f0) from Kd.V_mk ul293_0 ge293_0)
                clear hva_ hvn_ hvc_ ge293_0 ul293_0
                clear hcc293 hce293
                have HR293_0 := Aside0.mk hi293_0
                have HC293_0 := Aside0.mk hl293_0
                clear hi293_0 hl293_0
                replace p293 := eq_true p293
                replace q293 := eq_true q293
                go_upto_region 10 with (first | ((with_reducible refine gate_dst (N := 6) rfl ?_); refine box_event ?hg (N := 6) ?hd (cs := #[.slice none 0 0, .int .i64 0, .int .i64 0]) (t := 38) ?hr ?_; (case hd => rfl); (case hg => rfl); (case hr => first | (go_simp; done) | (go_simp; rfl)); intro gb294 hg w14 hbox hb; have BK294 := Aside0.mk (hbox); have GW294 := Aside0.mk ((bsz hg : w.heap.size ≤ gb294)); have GE294 := Aside0.mk ((bsz hg : w.heap.size ≤ gb294)); replace HO_4 := Aside0.mk (Kd.N_below (Kd.N_elderB (by (with_reducible repeat (first | apply Kd.N_alloc | apply Kd.N_drewN | apply Kd.N_drew)); exact HO_4.out) gb294 (Nat.le_of_eq hg.symm)) hb); replace HO_23 := Aside0.mk (Kd.N_below (Kd.N_elderB (by (with_reducible repeat (first | apply Kd.N_alloc | apply Kd.N_drewN | apply Kd.N_drew)); exact HO_23.out) gb294 (Nat.le_of_eq hg.symm)) hb); replace HL293_0 := Aside0.mk (Kd.V_below (Kd.V_elderB (by (with_reducible repeat (first | apply Kd.V_alloc | apply Kd.V_drewN | apply Kd.V_drew)); exact HL293_0.out) gb294 (Nat.le_of_eq hg.symm)) hb); replace HR293_0 := Aside0.mk (Kd.C_below (by repeat (first | (with_reducible exact HR293_0.out) | (with_reducible refine Kd.C_alloc ?_ _) | (with_reducible refine Kd.C_drewN ?_ _) | (with_reducible refine Kd.C_drew ?_) | exact HR293_0.out)) hb); replace HB := Aside0.mk (below_step bel hb); clear hb hbox hg; obtain ⟨hcz15_0, hcz15_1, hcz15_2, hfz15_0, hfz15_1, hfz15_2⟩ := cf3 BK294.out) | ((with_reducible refine gate_callee (f := 23) rfl ?_); refine goesL_ (some 33) rfl rfl Try.func23 (by kernel_rfl) rfl #[.int .i64 t288, .slice (some ad293) t289.length co7, .int .i64 x25_1] rfl ga ?_; (with_reducible refine (impl_FirstOut.calls k1 t288 _ _ t289 x25_1 t295 _ ?side1 ?side2 A12.out).mono ?_); (case side1 => refine (Kd.N_reads' (e := 38) (base := w.heap.size) (ok := fun k_ => (True ∧ k_ ≠ gb294)) (n := t289.length) (c := co7) ?_).2.2; exact (by (with_reducible repeat (first | apply Kd.N_alloc | apply Kd.N_drewN | apply Kd.N_drew)); exact (Kd.N_mono (Kd.N_far (p := ⟨gb294, 2, none⟩) (Kd.N_far (p := ⟨gb294, 1, none⟩) (Kd.N_far (p := ⟨gb294, 0, none⟩) (Kd.N_mono HO_4.out (fun k_ hk => (⟨hk, hk.2⟩ : _ ∧ k_ ≠ gb294))) (fun _ hk => hk.2) (.slice A293_0 ((rd_T38 t289 x25_1).f0).length c293_0)) (fun _ hk => hk.2) (.int .i64 ((rd_T38 t289 x25_1).f1))) (fun _ hk => hk.2) (.int .i64 ((rd_T38 t289 x25_1).f2))) (fun _ h_ => h_.1)))); (case side2 => exact (Kd.N_reads' HO_4.out).2.1); rintro e w16 ⟨rfl, hb⟩; refine ⟨_, rfl, ?_⟩; replace HO_4 := Aside0.mk (Kd.N_below (by (with_reducible repeat (first | apply Kd.N_alloc | apply Kd.N_drewN | apply Kd.N_drew)); exact (Kd.N_mono (Kd.N_far (p := ⟨gb294, 2, none⟩) (Kd.N_far (p := ⟨gb294, 1, none⟩) (Kd.N_far (p := ⟨gb294, 0, none⟩) (Kd.N_mono HO_4.out (fun k_ hk => (⟨hk, hk.2⟩ : _ ∧ k_ ≠ gb294))) (fun _ hk => hk.2) (.slice A293_0 ((rd_T38 t289 x25_1).f0).length c293_0)) (fun _ hk => hk.2) (.int .i64 ((rd_T38 t289 x25_1).f1))) (fun _ hk => hk.2) (.int .i64 ((rd_T38 t289 x25_1).f2))) (fun _ h_ => h_.1))) hb); replace HO_23 := Aside0.mk (Kd.N_below (by (with_reducible repeat (first | apply Kd.N_alloc | apply Kd.N_drewN | apply Kd.N_drew)); exact (Kd.N_mono (Kd.N_far (p := ⟨gb294, 2, none⟩) (Kd.N_far (p := ⟨gb294, 1, none⟩) (Kd.N_far (p := ⟨gb294, 0, none⟩) (Kd.N_mono HO_23.out (fun k_ hk => (⟨hk, hk.2⟩ : _ ∧ k_ ≠ gb294))) (fun _ hk => hk.2) (.slice A293_0 ((rd_T38 t289 x25_1).f0).length c293_0)) (fun _ hk => hk.2) (.int .i64 ((rd_T38 t289 x25_1).f1))) (fun _ hk => hk.2) (.int .i64 ((rd_T38 t289 x25_1).f2))) (fun _ h_ => h_.1))) hb); replace HR293_0 := Aside0.mk (Kd.C_below ((Kd.V_reads' (by (with_reducible repeat (first | apply Kd.V_alloc | apply Kd.V_drewN | apply Kd.V_drew)); exact (Kd.V_mono (Kd.V_far (p := ⟨gb294, 2, none⟩) (Kd.V_far (p := ⟨gb294, 1, none⟩) (Kd.V_far (p := ⟨gb294, 0, none⟩) (Kd.V_mono HL293_0.out (fun k_ hk => (⟨hk, hk.2⟩ : _ ∧ k_ ≠ gb294))) (fun _ hk => hk.2) (.slice A293_0 ((rd_T38 t289 x25_1).f0).length c293_0)) (fun _ hk => hk.2) (.int .i64 ((rd_T38 t289 x25_1).f1))) (fun _ hk => hk.2) (.int .i64 ((rd_T38 t289 x25_1).f2))) (fun _ h_ => h_.1)))).2.2) hb); replace HL293_0 := Aside0.mk (Kd.V_below (by (with_reducible repeat (first | apply Kd.V_alloc | apply Kd.V_drewN | apply Kd.V_drew)); exact (Kd.V_mono (Kd.V_far (p := ⟨gb294, 2, none⟩) (Kd.V_far (p := ⟨gb294, 1, none⟩) (Kd.V_far (p := ⟨gb294, 0, none⟩) (Kd.V_mono HL293_0.out (fun k_ hk => (⟨hk, hk.2⟩ : _ ∧ k_ ≠ gb294))) (fun _ hk => hk.2) (.slice A293_0 ((rd_T38 t289 x25_1).f0).length c293_0)) (fun _ hk => hk.2) (.int .i64 ((rd_T38 t289 x25_1).f1))) (fun _ hk => hk.2) (.int .i64 ((rd_T38 t289 x25_1).f2))) (fun _ h_ => h_.1))) hb); replace BK294 := Aside0.mk (blk_below (g := gb294) (o := .cells #[.slice A293_0 ((rd_T38 t289 x25_1).f0).length c293_0, .int .i64 ((rd_T38 t289 x25_1).f1), .int .i64 ((rd_T38 t289 x25_1).f2)] 38 (0, 0)) (by (with_reducible repeat (first | refine blk_drewN ?_ _ | refine blk_drew ?_ | refine blk_alloc ?_ _)); refine blk_put (cs := #[.slice A293_0 ((rd_T38 t289 x25_1).f0).length c293_0, .int .i64 ((rd_T38 t289 x25_1).f1), .int .i64 0]) ?_ 2 _ rfl; (with_reducible repeat (first | refine blk_drewN ?_ _ | refine blk_drew ?_ | refine blk_alloc ?_ _)); refine blk_put (cs := #[.slice A293_0 ((rd_T38 t289 x25_1).f0).length c293_0, .int .i64 0, .int .i64 0]) ?_ 1 _ rfl; (with_reducible repeat (first | refine blk_drewN ?_ _ | refine blk_drew ?_ | refine blk_alloc ?_ _)); refine blk_put (cs := #[.slice none 0 0, .int .i64 0, .int .i64 0]) ?_ 0 _ rfl; (with_reducible repeat (first | refine blk_drewN ?_ _ | refine blk_drew ?_ | refine blk_alloc ?_ _)); exact BK294.out) hb); replace HB := Aside0.mk (below_step bel hb); (try clear hb)))
                (try simp only [Act.put, List.setIfInBounds_toArray, List.set_cons_zero, List.set_cons_succ])
                go_cut [49] (fun v49 wc => ∃ (kq : Nat) (x49_12 : Bool), v49 = .bool x49_12 ∧ Aside0 (laws_FnSwaps.j1 kq t288 t289 x25_1 t295 t289 (t289.length : Int) x25_1 x49_12 = some r) ∧ Aside0 (kq ≤ k1) ∧ Aside0 (Kd.N k38 38 wc w.heap.size (fun _ => True) (.slice (some ad293) t289.length co7) t289) ∧ Aside0 (Kd.N k38 38 wc w.heap.size (fun _ => True) (.slice (some ad293) t289.length co7) t289) ∧ Aside0 (Kd.C (Kd.int .i64) wc A293_0 ((rd_T38 t289 x25_1).f0).length ((rd_T38 t289 x25_1).f0)) ∧ Aside0 (wc.heap[gb294]? = some (.cells #[.slice A293_0 ((rd_T38 t289 x25_1).f0).length c293_0, .int .i64 ((rd_T38 t289 x25_1).f1), .int .i64 ((rd_T38 t289 x25_1).f2)] 38 (0, 0))) ∧ Aside0 (Below w.heap.size w wc))
                case first =>
                  have H := HC13.out
                  clear HC13
                  by_cases c17 : t295 ≥ 0
                  · rw [if_pos c17] at H
                    have c17b0 : decide (0 ≤ t295) = true := decide_eq_true c17
                    clear c17
                    (first | rw [c17b0] | (simp only [i64_w, i32_w]; rw [c17b0]) | skip)
                    replace H := Option.bind_eq_some_iff.mp H
                    obtain ⟨t296, A180, H⟩ := H
                    replace H : (if t296 = (-1) then ((laws_has.f k1 ((rd_T38 t289 x25_1).f0) t295).bind fun t298 => (laws_FnSwaps.j1 k1 t288 t289 x25_1 t295 t289 (t289.length : Int) x25_1 (!t298))) else (laws_FnSwaps.j1 k1 t288 t289 x25_1 t295 t289 (t289.length : Int) x25_1 true)) = some r := H
                    have A18 := Aside0.mk A180
                    clear A180
                    by_cases c19 : t296 = (-1)
                    · rw [if_pos c19] at H
                      have c19b0 : (t296 == (-1)) = true := beq_iff_eq.mpr c19
                      have c19b1 : (t296 != (-1)) = false := bne_eq_false_iff_eq.mpr c19
                      clear c19
                      replace H := Option.bind_eq_some_iff.mp H
                      obtain ⟨t298, A200, H⟩ := H
                      replace H : (laws_FnSwaps.j1 k1 t288 t289 x25_1 t295 t289 (t289.length : Int) x25_1 (!t298)) = some r := H
                      have A20 := Aside0.mk A200
                      clear A200
                      have H' := Aside0.mk H
                      clear H
                      go_wp2_with (first | (go_at_call 21; (with_reducible refine (impl_ContestOf.calls k1 t288 _ _ t289 t295 t296 _ ?side1 ?side2 A18.out).mono ?_); (case side1 => repeat (first | exact (Kd.N_reads' HO_4.out).2.2 | (with_reducible refine Kd.C_alloc ?_ _) | (with_reducible refine Kd.C_drewN ?_ _) | (with_reducible refine Kd.C_drew ?_))); (case side2 => exact (Kd.N_reads' HO_4.out).2.1); rintro e w21 ⟨rfl, hb⟩; replace HO_4 := Aside0.mk (Kd.N_below (by (with_reducible repeat (first | apply Kd.N_alloc | apply Kd.N_drewN | apply Kd.N_drew)); exact HO_4.out) hb); replace HO_23 := Aside0.mk (Kd.N_below (by (with_reducible repeat (first | apply Kd.N_alloc | apply Kd.N_drewN | apply Kd.N_drew)); exact HO_23.out) hb); replace HL293_0 := Aside0.mk (Kd.V_below (by (with_reducible repeat (first | apply Kd.V_alloc | apply Kd.V_drewN | apply Kd.V_drew)); exact HL293_0.out) hb); replace HR293_0 := Aside0.mk (Kd.C_below (by repeat (first | (with_reducible exact HR293_0.out) | (with_reducible refine Kd.C_alloc ?_ _) | (with_reducible refine Kd.C_drewN ?_ _) | (with_reducible refine Kd.C_drew ?_) | exact HR293_0.out)) hb); replace BK294 := Aside0.mk (bb BK294.out hb); replace HB := Aside0.mk (below_step bel hb); obtain ⟨hbc1b_0, hbc1b_1, hbc1b_2, hbf1b_0, hbf1b_1, hbf1b_2⟩ := cf3 BK294.out; (try clear hb); (try clear hb2); (try clear hk); (try clear hi)) | (go_at_call 20; (with_reducible refine (laws_has.calls k1 _ _ ((rd_T38 t289 x25_1).f0) t295 t298 _ ?side1 ?side2 A20.out).mono ?_); (case side1 => repeat (first | exact (by repeat (first | (with_reducible exact HR293_0.out) | (with_reducible refine Kd.C_alloc ?_ _) | (with_reducible refine Kd.C_drewN ?_ _) | (with_reducible refine Kd.C_drew ?_) | exact HR293_0.out)) | (with_reducible refine Kd.C_alloc ?_ _) | (with_reducible refine Kd.C_drewN ?_ _) | (with_reducible refine Kd.C_drew ?_))); (case side2 => exact HC293_0.out); rintro e w' ⟨rfl, ⟨nd, rfl⟩⟩))
                      go_meet
                      case rel => exact ⟨_, (!t298), (es), H', ⟨by have := HK1.out; first | omega | exact Nat.le_refl _⟩, ⟨by (with_reducible repeat (first | apply Kd.N_alloc | apply Kd.N_drewN | apply Kd.N_drew)); exact Kd.N_mono HO_4.out (fun _ hk => trivial)⟩, ⟨by (with_reducible repeat (first | apply Kd.N_alloc | apply Kd.N_drewN | apply Kd.N_drew)); exact Kd.N_mono HO_23.out (fun _ hk => trivial)⟩, ⟨by repeat (first | (with_reducible exact HR293_0.out) | (with_reducible refine Kd.C_alloc ?_ _) | (with_reducible refine Kd.C_drewN ?_ _) | (with_reducible refine Kd.C_drew ?_) | exact HR293_0.out)⟩, ⟨bk BK294.out⟩, ⟨bel⟩⟩
                    · rw [if_neg c19] at H
                      have c19b0 : (t296 == (-1)) = false := beq_eq_false_iff_ne.mpr c19
                      have c19b1 : (t296 != (-1)) = true := bne_iff_ne.mpr c19
                      have H' := Aside0.mk H
                      clear H
                      go_wp2_with (first | (go_at_call 21; (with_reducible refine (impl_ContestOf.calls k1 t288 _ _ t289 t295 t296 _ ?side1 ?side2 A18.out).mono ?_); (case side1 => repeat (first | exact (Kd.N_reads' HO_4.out).2.2 | (with_reducible refine Kd.C_alloc ?_ _) | (with_reducible refine Kd.C_drewN ?_ _) | (with_reducible refine Kd.C_drew ?_))); (case side2 => exact (Kd.N_reads' HO_4.out).2.1); rintro e w22 ⟨rfl, hb⟩; replace HO_4 := Aside0.mk (Kd.N_below (by (with_reducible repeat (first | apply Kd.N_alloc | apply Kd.N_drewN | apply Kd.N_drew)); exact HO_4.out) hb); replace HO_23 := Aside0.mk (Kd.N_below (by (with_reducible repeat (first | apply Kd.N_alloc | apply Kd.N_drewN | apply Kd.N_drew)); exact HO_23.out) hb); replace HL293_0 := Aside0.mk (Kd.V_below (by (with_reducible repeat (first | apply Kd.V_alloc | apply Kd.V_drewN | apply Kd.V_drew)); exact HL293_0.out) hb); replace HR293_0 := Aside0.mk (Kd.C_below (by repeat (first | (with_reducible exact HR293_0.out) | (with_reducible refine Kd.C_alloc ?_ _) | (with_reducible refine Kd.C_drewN ?_ _) | (with_reducible refine Kd.C_drew ?_) | exact HR293_0.out)) hb); replace BK294 := Aside0.mk (bb BK294.out hb); replace HB := Aside0.mk (below_step bel hb); obtain ⟨hbc2b_0, hbc2b_1, hbc2b_2, hbf2b_0, hbf2b_1, hbf2b_2⟩ := cf3 BK294.out; (try clear hb); (try clear hb2); (try clear hk); (try clear hi)))
                      go_meet
                      case rel => exact ⟨_, (true), (es), H', ⟨by have := HK1.out; first | omega | exact Nat.le_refl _⟩, ⟨by (with_reducible repeat (first | apply Kd.N_alloc | apply Kd.N_drewN | apply Kd.N_drew)); exact Kd.N_mono HO_4.out (fun _ hk => trivial)⟩, ⟨by (with_reducible repeat (first | apply Kd.N_alloc | apply Kd.N_drewN | apply Kd.N_drew)); exact Kd.N_mono HO_23.out (fun _ hk => trivial)⟩, ⟨by repeat (first | (with_reducible exact HR293_0.out) | (with_reducible refine Kd.C_alloc ?_ _) | (with_reducible refine Kd.C_drewN ?_ _) | (with_reducible refine Kd.C_drew ?_) | exact HR293_0.out)⟩, ⟨bk BK294.out⟩, ⟨bel⟩⟩
                  · rw [if_neg c17] at H
                    have c17b0 : decide (0 ≤ t295) = false := decide_eq_false c17
                    clear c17
                    (first | rw [c17b0] | (simp only [i64_w, i32_w]; rw [c17b0]) | skip)
                    have H' := Aside0.mk H
                    clear H
                    go_wp2
                    go_meet
                    case rel => exact ⟨_, (false), (es), H', ⟨by have := HK1.out; first | omega | exact Nat.le_refl _⟩, ⟨by (with_reducible repeat (first | apply Kd.N_alloc | apply Kd.N_drewN | apply Kd.N_drew)); exact Kd.N_mono HO_4.out (fun _ hk => trivial)⟩, ⟨by (with_reducible repeat (first | apply Kd.N_alloc | apply Kd.N_drewN | apply Kd.N_drew)); exact Kd.N_mono HO_23.out (fun _ hk => trivial)⟩, ⟨by repeat (first | (with_reducible exact HR293_0.out) | (with_reducible refine Kd.C_alloc ?_ _) | (with_reducible refine Kd.C_drewN ?_ _) | (with_reducible refine Kd.C_drew ?_) | exact HR293_0.out)⟩, ⟨bk BK294.out⟩, ⟨bel⟩⟩
                case rest =>
                  clear HC13
                  try clear c1; try clear c2; try clear c2b0; try clear c2b1; try clear p2; try clear q2; try clear hx2; try clear c5; try clear c9; try clear c9b0; try clear c10; try clear c10b0; try clear c11; try clear c11b0; try clear c15; try clear c17; try clear c17b0; try clear c19; try clear c19b0; try clear c19b1; try clear hcz15_0; try clear hcz15_1; try clear hcz15_2; try clear hfz15_0; try clear hfz15_1; try clear hfz15_2; try clear hx293_0; try clear hx293_1; try clear hx293_2; try clear p2; try clear p293; try clear p297; try clear q293; try clear q297
                  obtain ⟨kq, x49_12, rfl, HA, HJ12, HO_4, HO_23, HR293_0, BK294, HB⟩ := hcut
                  obtain ⟨hbc3a_0, hbc3a_1, hbc3a_2, hbf3a_0, hbf3a_1, hbf3a_2⟩ := cf3 BK294.out
                  cases kq with
                  | zero => exact absurd HA.out (by simp [laws_FnSwaps.j1])
                  | succ kj12 =>
                    have H := HA.out
                    clear HA
                    simp only [laws_FnSwaps.j1] at H
                    by_cases c23 : x49_12 = true
                    · subst c23
                      have H1 : (some false) = some r := by rw [if_pos rfl] at H; exact H
                      clear H
                      have H := H1
                      clear H1
                      obtain rfl := Option.some.inj H
                      go_wp2
                      go_ret
                      exact ⟨er, bel⟩
                    · replace c23 := Bool.eq_false_iff.mpr c23
                      subst c23
                      have H1 : (laws_FnSwaps.l1 kj12 t288 t289 x25_1 t295 0 t289 (t289.length : Int) x25_1) = some r := by rw [if_neg (show ¬ (false = true) by decide)] at H; exact H
                      clear H
                      have H := H1
                      clear H1
                      have H' := Aside0.mk H
                      clear H
                      go_wp2
                      go_loopg [8] kj12 (fun kq v8 w' => ∃ (x8_3 : Int), v8 = .int .i64 x8_3 ∧ Aside0 (laws_FnSwaps.l1 kq t288 t289 x25_1 t295 x8_3 t289 (t289.length : Int) x25_1 = some r) ∧ Aside0 (kq ≤ kj12) ∧ Aside0 (Kd.N k38 38 w' w.heap.size (fun _ => True) (.slice (some ad293) t289.length co7) t289) ∧ Aside0 (Kd.N k38 38 w' w.heap.size (fun _ => True) (.slice (some ad293) t289.length co7) t289) ∧ Aside0 (Kd.C (Kd.int .i64) w' A293_0 ((rd_T38 t289 x25_1).f0).length ((rd_T38 t289 x25_1).f0)) ∧ Aside0 (w'.heap[gb294]? = some (.cells #[.slice A293_0 ((rd_T38 t289 x25_1).f0).length c293_0, .int .i64 ((rd_T38 t289 x25_1).f1), .int .i64 ((rd_T38 t289 x25_1).f2)] 38 (0, 0))) ∧ Aside0 (Below w.heap.size w w'))
                      case atStart => exact ⟨(0), (es), H', ⟨Nat.le_refl _⟩, ⟨by (with_reducible repeat (first | apply Kd.N_alloc | apply Kd.N_drewN | apply Kd.N_drew)); exact HO_4.out⟩, ⟨by (with_reducible repeat (first | apply Kd.N_alloc | apply Kd.N_drewN | apply Kd.N_drew)); exact HO_23.out⟩, ⟨by repeat (first | (with_reducible exact HR293_0.out) | (with_reducible refine Kd.C_alloc ?_ _) | (with_reducible refine Kd.C_drewN ?_ _) | (with_reducible refine Kd.C_drew ?_) | exact HR293_0.out)⟩, ⟨bk BK294.out⟩, ⟨bel⟩⟩
                      case round =>
                        clear H'
                        try clear c1; try clear c2; try clear c2b0; try clear c2b1; try clear p2; try clear q2; try clear hx2; try clear c5; try clear c9; try clear c9b0; try clear c10; try clear c10b0; try clear c11; try clear c11b0; try clear c15; try clear c17; try clear c17b0; try clear c19; try clear c19b0; try clear c19b1; try clear c23; try clear hcz15_0; try clear hcz15_1; try clear hcz15_2; try clear hfz15_0; try clear hfz15_1; try clear hfz15_2; try clear hx293_0; try clear hx293_1; try clear hx293_2; try clear p2; try clear p293; try clear p297; try clear q2; try clear q293; try clear q297
                        obtain ⟨x8_3, rfl, HA, HK3, HO_4, HO_23, HR293_0, BK294, HB⟩ := hrel
                        obtain ⟨hbc4a_0, hbc4a_1, hbc4a_2, hbf4a_0, hbf4a_1, hbf4a_2⟩ := cf3 BK294.out
                        cases gk with
                        | zero => exact absurd HA.out (by simp [laws_FnSwaps.l1])
                        | succ k3 =>
                          have H := HA.out
                          clear HA
                          simp only [laws_FnSwaps.l1] at H
                          by_cases c24 : 0 ≤ x25_1
                          · rw [if_pos c24] at H
                            have c24b0 : decide (0 ≤ x25_1) = true := decide_eq_true c24
                            clear c24
                            by_cases c25 : x25_1 < (t289.length : Int)
                            · rw [if_pos c25] at H
                              have c25b0 : decide (x25_1 < (t289.length : Int)) = true := decide_eq_true c25
                              clear c25
                              by_cases c26 : (wrap64 (x8_3 + 1)) < (((rd_T38 t289 x25_1).f0).length : Int)
                              · rw [if_pos c26] at H
                                have c26b0 : decide ((wrap64 (x8_3 + 1)) < (((rd_T38 t289 x25_1).f0).length : Int)) = true := decide_eq_true c26
                                clear c26
                                replace H := Option.bind_eq_some_iff.mp H
                                obtain ⟨t304, A270, H⟩ := H
                                replace H : (laws_FnSwaps.l2 k3 t288 t289 x25_1 t295 x8_3 t289 (t289.length : Int) x25_1 t304 (t304.length : Int) 0) = some r := H
                                have A27 := Aside0.mk A270
                                clear A270
                                have H' := Aside0.mk H
                                clear H
                                go_wp2_with (first | ((with_reducible refine gate_callee (f := 24) rfl ?_); refine goesL_ (some 62) rfl rfl Try.func24 (by kernel_rfl) rfl #[.int .i64 t288, .slice (some ad293) t289.length co7, .int .i64 x25_1, .int .i64 x8_3] rfl ga ?_; (with_reducible refine (impl_SwapGains.calls k3 t288 _ _ t289 x25_1 x8_3 t304 _ ?side1 ?side2 A27.out).mono ?_); (case side1 => repeat (first | exact (Kd.N_reads' HO_4.out).2.2 | (with_reducible refine Kd.C_alloc ?_ _) | (with_reducible refine Kd.C_drewN ?_ _) | (with_reducible refine Kd.C_drew ?_))); (case side2 => exact (Kd.N_reads' HO_4.out).2.1); rintro e w28 ⟨v305, rfl, ho0, hb⟩; refine ⟨_, rfl, ?_⟩; have HO306 := Aside0.mk (Kd.R_lower ho0 (below_size bel)); replace HO_4 := Aside0.mk (Kd.N_elder' (by (with_reducible repeat (first | apply Kd.N_alloc | apply Kd.N_drewN | apply Kd.N_drew)); exact HO_4.out) (Kd.R_base ho0) hb); replace HO_23 := Aside0.mk (Kd.N_elder' (by (with_reducible repeat (first | apply Kd.N_alloc | apply Kd.N_drewN | apply Kd.N_drew)); exact HO_23.out) (Kd.R_base ho0) hb); replace HR293_0 := Aside0.mk (Kd.C_below (by repeat (first | (with_reducible exact HR293_0.out) | (with_reducible refine Kd.C_alloc ?_ _) | (with_reducible refine Kd.C_drewN ?_ _) | (with_reducible refine Kd.C_drew ?_) | exact HR293_0.out)) hb); replace BK294 := Aside0.mk (bb BK294.out hb); replace HB := Aside0.mk (below_step bel hb); obtain ⟨hbc5b_0, hbc5b_1, hbc5b_2, hbf5b_0, hbf5b_1, hbf5b_2⟩ := cf3 BK294.out; (try clear hb); (try clear ho0); obtain ⟨Ao29, co29, eo29⟩ := Kd.R_slice HO306.out; subst eo29))
                                go_loopg [64] k3 (fun kq v64 w' => ∃ (x64_4 : Int), v64 = .int .i64 x64_4 ∧ Aside0 (laws_FnSwaps.l2 kq t288 t289 x25_1 t295 x8_3 t289 (t289.length : Int) x25_1 t304 (t304.length : Int) x64_4 = some r) ∧ Aside0 (kq ≤ k3) ∧ Aside0 (Kd.N k38 38 w' w.heap.size (fun k_ => some k_ ≠ ((.slice Ao29 t304.length co29) : Value).ownBlock) (.slice (some ad293) t289.length co7) t289) ∧ Aside0 (Kd.N k38 38 w' w.heap.size (fun k_ => some k_ ≠ ((.slice Ao29 t304.length co29) : Value).ownBlock) (.slice (some ad293) t289.length co7) t289) ∧ Aside0 (Kd.R (Kd.int .i64) 3 w' w.heap.size (fun _ => True) (.slice Ao29 t304.length co29) t304) ∧ Aside0 (Kd.C (Kd.int .i64) w' A293_0 ((rd_T38 t289 x25_1).f0).length ((rd_T38 t289 x25_1).f0)) ∧ Aside0 (Kd.C (Kd.int .i64) w' A293_0 ((rd_T38 t289 x25_1).f0).length ((rd_T38 t289 x25_1).f0)) ∧ Aside0 (w'.heap[gb294]? = some (.cells #[.slice A293_0 ((rd_T38 t289 x25_1).f0).length c293_0, .int .i64 ((rd_T38 t289 x25_1).f1), .int .i64 ((rd_T38 t289 x25_1).f2)] 38 (0, 0))) ∧ Aside0 (Below w.heap.size w w'))
                                case atStart => exact ⟨(0), (es), H', ⟨Nat.le_refl _⟩, ⟨by (with_reducible repeat (first | apply Kd.N_alloc | apply Kd.N_drewN | apply Kd.N_drew)); exact Kd.N_mono HO_4.out (fun _ hk => hk.2)⟩, ⟨by (with_reducible repeat (first | apply Kd.N_alloc | apply Kd.N_drewN | apply Kd.N_drew)); exact Kd.N_mono HO_23.out (fun _ hk => hk.2)⟩, ⟨rk HO306.out⟩, ⟨by repeat (first | (with_reducible exact HR293_0.out) | (with_reducible refine Kd.C_alloc ?_ _) | (with_reducible refine Kd.C_drewN ?_ _) | (with_reducible refine Kd.C_drew ?_) | exact HR293_0.out)⟩, ⟨by repeat (first | (with_reducible exact HR293_0.out) | (with_reducible refine Kd.C_alloc ?_ _) | (with_reducible refine Kd.C_drewN ?_ _) | (with_reducible refine Kd.C_drew ?_) | exact HR293_0.out)⟩, ⟨bk BK294.out⟩, ⟨bel⟩⟩
                                case round =>
                                  clear H'
                                  try clear c1; try clear c2; try clear c2b0; try clear c2b1; try clear p2; try clear q2; try clear hx2; try clear c5; try clear p6; try clear c9; try clear c9b0; try clear c10; try clear c10b0; try clear c11; try clear c11b0; try clear c15; try clear c17; try clear c17b0; try clear c19; try clear c19b0; try clear c19b1; try clear c23; try clear c24; try clear c24b0; try clear c25; try clear c25b0; try clear c26; try clear c26b0; try clear c29; try clear p29; try clear q29; try clear hx29; try clear hcz15_0; try clear hcz15_1; try clear hcz15_2; try clear hfz15_0; try clear hfz15_1; try clear hfz15_2; try clear hx293_0; try clear hx293_1; try clear hx293_2; try clear p2; try clear p293; try clear p297; try clear p299; try clear q2; try clear q293; try clear q297; try clear q299
                                  obtain ⟨x64_4, rfl, HA, HK4, HO_4, HO_23, HO_62, HR293_0, HR293_0, BK294, HB⟩ := hrel
                                  obtain ⟨hbc6a_0, hbc6a_1, hbc6a_2, hbf6a_0, hbf6a_1, hbf6a_2⟩ := cf3 BK294.out
                                  cases gk with
                                  | zero => exact absurd HA.out (by simp [laws_FnSwaps.l2])
                                  | succ k4 =>
                                    have H := HA.out
                                    clear HA
                                    simp only [laws_FnSwaps.l2] at H
                                    by_cases c30 : x64_4 < (t304.length : Int)
                                    · rw [if_pos c30] at H
                                      have c30b0 : decide (x64_4 < (t304.length : Int)) = true := decide_eq_true c30
                                      clear c30
                                      by_cases c31 : 0 ≤ x64_4
                                      · rw [if_pos c31] at H
                                        have c31b0 : decide (0 ≤ x64_4) = true := decide_eq_true c31
                                        clear c31
                                        by_cases c32 : x64_4 < (t304.length : Int)
                                        · rw [if_pos c32] at H
                                          have c32b0 : decide (x64_4 < (t304.length : Int)) = true := decide_eq_true c32
                                          clear c32
                                          by_cases c33 : (rd t304 x64_4) < 0
                                          · rw [if_pos c33] at H
                                            have c33b0 : decide ((rd t304 x64_4) < 0) = true := decide_eq_true c33
                                            clear c33
                                            obtain rfl := Option.some.inj H
                                            have p307 : 0 ≤ (x64_4 : Int) := asm
                                            have q307 : x64_4 < (t304.length : Int) := asm
                                            obtain ⟨ad307, e307, hx307_0⟩ := Kd.at_int (Kd.R_reads' HO_62.out).2.2 x64_4 p307 q307
                                            cases e307
                                            replace p307 := eq_true p307
                                            replace q307 := eq_true q307
                                            go_wp2
                                            go_ret
                                            exact ⟨er, bel⟩
                                          · rw [if_neg c33] at H
                                            have c33b0 : decide ((rd t304 x64_4) < 0) = false := decide_eq_false c33
                                            clear c33
                                            by_cases c34 : (rd t304 x64_4) ≥ t288
                                            · rw [if_pos c34] at H
                                              have c34b0 : decide (t288 ≤ (rd t304 x64_4)) = true := decide_eq_true c34
                                              clear c34
                                              obtain rfl := Option.some.inj H
                                              have p307 : 0 ≤ (x64_4 : Int) := asm
                                              have q307 : x64_4 < (t304.length : Int) := asm
                                              obtain ⟨ad307, e307, hx307_0⟩ := Kd.at_int (Kd.R_reads' HO_62.out).2.2 x64_4 p307 q307
                                              cases e307
                                              replace p307 := eq_true p307
                                              replace q307 := eq_true q307
                                              go_wp2
                                              go_ret
                                              exact ⟨er, bel⟩
                                            · rw [if_neg c34] at H
                                              have c34b0 : decide (t288 ≤ (rd t304 x64_4)) = false := decide_eq_false c34
                                              clear c34
                                              replace H := Option.bind_eq_some_iff.mp H
                                              obtain ⟨t308, A350, H⟩ := H
                                              replace H : (if t308 = (-1) then (laws_FnSwaps.l2 k4 t288 t289 x25_1 t295 x8_3 t289 (t289.length : Int) x25_1 t304 (t304.length : Int) (wrap64 (x64_4 + 1))) else (some false)) = some r := H
                                              have A35 := Aside0.mk A350
                                              clear A350
                                              by_cases c36 : t308 = (-1)
                                              · rw [if_pos c36] at H
                                                have c36b0 : (t308 == (-1)) = true := beq_iff_eq.mpr c36
                                                have c36b1 : (t308 != (-1)) = false := bne_eq_false_iff_eq.mpr c36
                                                clear c36
                                                have H' := Aside0.mk H
                                                clear H
                                                have p307 : 0 ≤ (x64_4 : Int) := asm
                                                have q307 : x64_4 < (t304.length : Int) := asm
                                                obtain ⟨ad307, e307, hx307_0⟩ := Kd.at_int (Kd.R_reads' HO_62.out).2.2 x64_4 p307 q307
                                                cases e307
                                                replace p307 := eq_true p307
                                                replace q307 := eq_true q307
                                                go_wp2_with (first | (go_at_call 21; (with_reducible refine (impl_ContestOf.calls k4 t288 _ _ t289 (rd t304 x64_4) t308 _ ?side1 ?side2 A35.out).mono ?_); (case side1 => repeat (first | exact (Kd.N_reads' HO_4.out).2.2 | (with_reducible refine Kd.C_alloc ?_ _) | (with_reducible refine Kd.C_drewN ?_ _) | (with_reducible refine Kd.C_drew ?_))); (case side2 => exact (Kd.N_reads' HO_4.out).2.1); rintro e w37 ⟨rfl, hb⟩; replace HO_4 := Aside0.mk (Kd.N_below (by (with_reducible repeat (first | apply Kd.N_alloc | apply Kd.N_drewN | apply Kd.N_drew)); exact HO_4.out) hb); replace HO_23 := Aside0.mk (Kd.N_below (by (with_reducible repeat (first | apply Kd.N_alloc | apply Kd.N_drewN | apply Kd.N_drew)); exact HO_23.out) hb); replace HO_62 := Aside0.mk (Kd.R_below (rk HO_62.out) hb); replace HR293_0 := Aside0.mk (Kd.C_below (by repeat (first | (with_reducible exact HR293_0.out) | (with_reducible refine Kd.C_alloc ?_ _) | (with_reducible refine Kd.C_drewN ?_ _) | (with_reducible refine Kd.C_drew ?_) | exact HR293_0.out)) hb); replace BK294 := Aside0.mk (bb BK294.out hb); replace HB := Aside0.mk (below_step bel hb); obtain ⟨hbc7b_0, hbc7b_1, hbc7b_2, hbf7b_0, hbf7b_1, hbf7b_2⟩ := cf3 BK294.out; (try clear hb); (try clear hb2); (try clear hk); (try clear hi)))
                                                go_roundg k4
                                                case measure => have := HK1.out; have := HJ12.out; have := HK3.out; have := HK4.out; omega
                                                case rel => exact ⟨(wrap64 (x64_4 + 1)), (es), H', ⟨by have := HK1.out; have := HJ12.out; have := HK3.out; have := HK4.out; omega⟩, ⟨by (with_reducible repeat (first | apply Kd.N_alloc | apply Kd.N_drewN | apply Kd.N_drew)); exact HO_4.out⟩, ⟨by (with_reducible repeat (first | apply Kd.N_alloc | apply Kd.N_drewN | apply Kd.N_drew)); exact HO_23.out⟩, ⟨rk HO_62.out⟩, ⟨by repeat (first | (with_reducible exact HR293_0.out) | (with_reducible refine Kd.C_alloc ?_ _) | (with_reducible refine Kd.C_drewN ?_ _) | (with_reducible refine Kd.C_drew ?_) | exact HR293_0.out)⟩, ⟨by repeat (first | (with_reducible exact HR293_0.out) | (with_reducible refine Kd.C_alloc ?_ _) | (with_reducible refine Kd.C_drewN ?_ _) | (with_reducible refine Kd.C_drew ?_) | exact HR293_0.out)⟩, ⟨bk BK294.out⟩, ⟨bel⟩⟩
                                              · rw [if_neg c36] at H
                                                have c36b0 : (t308 == (-1)) = false := beq_eq_false_iff_ne.mpr c36
                                                have c36b1 : (t308 != (-1)) = true := bne_iff_ne.mpr c36
                                                obtain rfl := Option.some.inj H
                                                have p307 : 0 ≤ (x64_4 : Int) := asm
                                                have q307 : x64_4 < (t304.length : Int) := asm
                                                obtain ⟨ad307, e307, hx307_0⟩ := Kd.at_int (Kd.R_reads' HO_62.out).2.2 x64_4 p307 q307
                                                cases e307
                                                replace p307 := eq_true p307
                                                replace q307 := eq_true q307
                                                go_wp2_with (first | (go_at_call 21; (with_reducible refine (impl_ContestOf.calls k4 t288 _ _ t289 (rd t304 x64_4) t308 _ ?side1 ?side2 A35.out).mono ?_); (case side1 => repeat (first | exact (Kd.N_reads' HO_4.out).2.2 | (with_reducible refine Kd.C_alloc ?_ _) | (with_reducible refine Kd.C_drewN ?_ _) | (with_reducible refine Kd.C_drew ?_))); (case side2 => exact (Kd.N_reads' HO_4.out).2.1); rintro e w38 ⟨rfl, hb⟩; replace HO_4 := Aside0.mk (Kd.N_below (by (with_reducible repeat (first | apply Kd.N_alloc | apply Kd.N_drewN | apply Kd.N_drew)); exact HO_4.out) hb); replace HO_23 := Aside0.mk (Kd.N_below (by (with_reducible repeat (first | apply Kd.N_alloc | apply Kd.N_drewN | apply Kd.N_drew)); exact HO_23.out) hb); replace HO_62 := Aside0.mk (Kd.R_below (rk HO_62.out) hb); replace HR293_0 := Aside0.mk (Kd.C_below (by repeat (first | (with_reducible exact HR293_0.out) | (with_reducible refine Kd.C_alloc ?_ _) | (with_reducible refine Kd.C_drewN ?_ _) | (with_reducible refine Kd.C_drew ?_) | exact HR293_0.out)) hb); replace BK294 := Aside0.mk (bb BK294.out hb); replace HB := Aside0.mk (below_step bel hb); obtain ⟨hbc8b_0, hbc8b_1, hbc8b_2, hbf8b_0, hbf8b_1, hbf8b_2⟩ := cf3 BK294.out; (try clear hb); (try clear hb2); (try clear hk); (try clear hi)))
                                                go_ret
                                                exact ⟨er, bel⟩
                                        · rw [if_neg c32] at H
                                          exact absurd H (by simp)
                                      · rw [if_neg c31] at H
                                        exact absurd H (by simp)
                                    · rw [if_neg c30] at H
                                      have c30b0 : decide (x64_4 < (t304.length : Int)) = false := decide_eq_false c30
                                      clear c30
                                      have H' := Aside0.mk H
                                      clear H
                                      go_wp2
                                      go_roundg k4
                                      case measure => have := HK1.out; have := HJ12.out; have := HK3.out; have := HK4.out; omega
                                      case rel => exact ⟨(wrap64 (x8_3 + 1)), (es), H', ⟨by have := HK1.out; have := HJ12.out; have := HK3.out; have := HK4.out; omega⟩, ⟨by (with_reducible repeat (first | apply Kd.N_alloc | apply Kd.N_drewN | apply Kd.N_drew)); exact Kd.N_mono HO_4.out (fun _ hk => trivial)⟩, ⟨by (with_reducible repeat (first | apply Kd.N_alloc | apply Kd.N_drewN | apply Kd.N_drew)); exact Kd.N_mono HO_23.out (fun _ hk => trivial)⟩, ⟨by repeat (first | (with_reducible exact HR293_0.out) | (with_reducible refine Kd.C_alloc ?_ _) | (with_reducible refine Kd.C_drewN ?_ _) | (with_reducible refine Kd.C_drew ?_) | exact HR293_0.out)⟩, ⟨bk BK294.out⟩, ⟨bel⟩⟩
                              · rw [if_neg c26] at H
                                have c26b0 : decide ((wrap64 (x8_3 + 1)) < (((rd_T38 t289 x25_1).f0).length : Int)) = false := decide_eq_false c26
                                clear c26
                                by_cases c39 : t295 = (-1)
                                · rw [if_pos c39] at H
                                  have c39b0 : (t295 == (-1)) = true := beq_iff_eq.mpr c39
                                  have c39b1 : (t295 != (-1)) = false := bne_eq_false_iff_eq.mpr c39
                                  clear c39
                                  by_cases c40 : (((rd_T38 t289 x25_1).f0).length : Int) > 0
                                  · rw [if_pos c40] at H
                                    have c40b0 : decide (0 < (((rd_T38 t289 x25_1).f0).length : Int)) = true := decide_eq_true c40
                                    have c40b1 : decide (0 < ((rd_T38 t289 x25_1).f0).length) = true := decide_eq_true (by omega)
                                    clear c40
                                    by_cases c41 : 0 < (((rd_T38 t289 x25_1).f0).length : Int)
                                    · rw [if_pos c41] at H
                                      have c41b0 : decide (0 < (((rd_T38 t289 x25_1).f0).length : Int)) = true := decide_eq_true c41
                                      have c41b1 : decide (0 < ((rd_T38 t289 x25_1).f0).length) = true := decide_eq_true (by omega)
                                      clear c41
                                      replace H := Option.bind_eq_some_iff.mp H
                                      obtain ⟨t303, A420, H⟩ := H
                                      replace H : (if t303 = (-1) then (some false) else (laws_FnSwaps.l0 k3 t288 t289 t289 (t289.length : Int) (wrap64 (x25_1 + 1)))) = some r := H
                                      have A42 := Aside0.mk A420
                                      clear A420
                                      by_cases c43 : t303 = (-1)
                                      · rw [if_pos c43] at H
                                        have c43b0 : (t303 == (-1)) = true := beq_iff_eq.mpr c43
                                        have c43b1 : (t303 != (-1)) = false := bne_eq_false_iff_eq.mpr c43
                                        clear c43
                                        obtain rfl := Option.some.inj H
                                        have p302 : 0 ≤ (0 : Int) := (by omega)
                                        have q302 : 0 < (((rd_T38 t289 x25_1).f0).length : Int) := asm
                                        obtain ⟨ad302, e302, hx302_0⟩ := Kd.at_int (by repeat (first | (with_reducible exact HR293_0.out) | (with_reducible refine Kd.C_alloc ?_ _) | (with_reducible refine Kd.C_drewN ?_ _) | (with_reducible refine Kd.C_drew ?_) | exact HR293_0.out)) 0 p302 q302
                                        cases e302
                                        have qi302 : (0 < ((rd_T38 t289 x25_1).f0).length) = True := eq_true (by omega)
                                        (try rw [show ((0 : Int)).toNat = 0 from rfl] at hx302_0)
                                        (try rw [Addr.add_zero'] at hx302_0)
                                        replace p302 := eq_true p302
                                        replace q302 := eq_true q302
                                        go_wp2_with (first | (go_at_call 21; (with_reducible refine (impl_ContestOf.calls k3 t288 _ _ t289 (rd ((rd_T38 t289 x25_1).f0) 0) t303 _ ?side1 ?side2 A42.out).mono ?_); (case side1 => repeat (first | exact (Kd.N_reads' HO_4.out).2.2 | (with_reducible refine Kd.C_alloc ?_ _) | (with_reducible refine Kd.C_drewN ?_ _) | (with_reducible refine Kd.C_drew ?_))); (case side2 => exact (Kd.N_reads' HO_4.out).2.1); rintro e w44 ⟨rfl, hb⟩; replace HO_4 := Aside0.mk (Kd.N_below (by (with_reducible repeat (first | apply Kd.N_alloc | apply Kd.N_drewN | apply Kd.N_drew)); exact HO_4.out) hb); replace HO_23 := Aside0.mk (Kd.N_below (by (with_reducible repeat (first | apply Kd.N_alloc | apply Kd.N_drewN | apply Kd.N_drew)); exact HO_23.out) hb); replace HR293_0 := Aside0.mk (Kd.C_below (by repeat (first | (with_reducible exact HR293_0.out) | (with_reducible refine Kd.C_alloc ?_ _) | (with_reducible refine Kd.C_drewN ?_ _) | (with_reducible refine Kd.C_drew ?_) | exact HR293_0.out)) hb); replace BK294 := Aside0.mk (bb BK294.out hb); replace HB := Aside0.mk (below_step bel hb); obtain ⟨hbc9b_0, hbc9b_1, hbc9b_2, hbf9b_0, hbf9b_1, hbf9b_2⟩ := cf3 BK294.out; (try clear hb); (try clear hb2); (try clear hk); (try clear hi)))
                                        go_ret
                                        exact ⟨er, bel⟩
                                      · rw [if_neg c43] at H
                                        have c43b0 : (t303 == (-1)) = false := beq_eq_false_iff_ne.mpr c43
                                        have c43b1 : (t303 != (-1)) = true := bne_iff_ne.mpr c43
                                        have H' := Aside0.mk H
                                        clear H
                                        have p302 : 0 ≤ (0 : Int) := (by omega)
                                        have q302 : 0 < (((rd_T38 t289 x25_1).f0).length : Int) := asm
                                        obtain ⟨ad302, e302, hx302_0⟩ := Kd.at_int (by repeat (first | (with_reducible exact HR293_0.out) | (with_reducible refine Kd.C_alloc ?_ _) | (with_reducible refine Kd.C_drewN ?_ _) | (with_reducible refine Kd.C_drew ?_) | exact HR293_0.out)) 0 p302 q302
                                        cases e302
                                        have qi302 : (0 < ((rd_T38 t289 x25_1).f0).length) = True := eq_true (by omega)
                                        (try rw [show ((0 : Int)).toNat = 0 from rfl] at hx302_0)
                                        (try rw [Addr.add_zero'] at hx302_0)
                                        replace p302 := eq_true p302
                                        replace q302 := eq_true q302
                                        go_wp2_with (first | (go_at_call 21; (with_reducible refine (impl_ContestOf.calls k3 t288 _ _ t289 (rd ((rd_T38 t289 x25_1).f0) 0) t303 _ ?side1 ?side2 A42.out).mono ?_); (case side1 => repeat (first | exact (Kd.N_reads' HO_4.out).2.2 | (with_reducible refine Kd.C_alloc ?_ _) | (with_reducible refine Kd.C_drewN ?_ _) | (with_reducible refine Kd.C_drew ?_))); (case side2 => exact (Kd.N_reads' HO_4.out).2.1); rintro e w45 ⟨rfl, hb⟩; replace HO_4 := Aside0.mk (Kd.N_below (by (with_reducible repeat (first | apply Kd.N_alloc | apply Kd.N_drewN | apply Kd.N_drew)); exact HO_4.out) hb); replace HO_23 := Aside0.mk (Kd.N_below (by (with_reducible repeat (first | apply Kd.N_alloc | apply Kd.N_drewN | apply Kd.N_drew)); exact HO_23.out) hb); replace HR293_0 := Aside0.mk (Kd.C_below (by repeat (first | (with_reducible exact HR293_0.out) | (with_reducible refine Kd.C_alloc ?_ _) | (with_reducible refine Kd.C_drewN ?_ _) | (with_reducible refine Kd.C_drew ?_) | exact HR293_0.out)) hb); replace BK294 := Aside0.mk (bb BK294.out hb); replace HB := Aside0.mk (below_step bel hb); obtain ⟨hbc10b_0, hbc10b_1, hbc10b_2, hbf10b_0, hbf10b_1, hbf10b_2⟩ := cf3 BK294.out; (try clear hb); (try clear hb2); (try clear hk); (try clear hi)))
                                        go_roundg k3
                                        case measure => have := HK1.out; have := HJ12.out; have := HK3.out; omega
                                        case rel => exact ⟨(wrap64 (x25_1 + 1)), (es), H', ⟨by have := HK1.out; have := HJ12.out; have := HK3.out; omega⟩, ⟨by (with_reducible repeat (first | apply Kd.N_alloc | apply Kd.N_drewN | apply Kd.N_drew)); exact HO_4.out⟩, ⟨by (with_reducible repeat (first | apply Kd.N_alloc | apply Kd.N_drewN | apply Kd.N_drew)); exact HO_23.out⟩, ⟨bel⟩⟩
                                    · rw [if_neg c41] at H
                                      exact absurd H (by simp)
                                  · rw [if_neg c40] at H
                                    have c40b0 : decide (0 < (((rd_T38 t289 x25_1).f0).length : Int)) = false := decide_eq_false c40
                                    have c40b1 : decide (0 < ((rd_T38 t289 x25_1).f0).length) = false := decide_eq_false (by omega)
                                    clear c40
                                    have H' := Aside0.mk H
                                    clear H
                                    go_wp2
                                    go_roundg k3
                                    case measure => have := HK1.out; have := HJ12.out; have := HK3.out; omega
                                    case rel => exact ⟨(wrap64 (x25_1 + 1)), (es), H', ⟨by have := HK1.out; have := HJ12.out; have := HK3.out; omega⟩, ⟨by (with_reducible repeat (first | apply Kd.N_alloc | apply Kd.N_drewN | apply Kd.N_drew)); exact HO_4.out⟩, ⟨by (with_reducible repeat (first | apply Kd.N_alloc | apply Kd.N_drewN | apply Kd.N_drew)); exact HO_23.out⟩, ⟨bel⟩⟩
                                · rw [if_neg c39] at H
                                  have c39b0 : (t295 == (-1)) = false := beq_eq_false_iff_ne.mpr c39
                                  have c39b1 : (t295 != (-1)) = true := bne_iff_ne.mpr c39
                                  have H' := Aside0.mk H
                                  clear H
                                  go_wp2
                                  go_roundg k3
                                  case measure => have := HK1.out; have := HJ12.out; have := HK3.out; omega
                                  case rel => exact ⟨(wrap64 (x25_1 + 1)), (es), H', ⟨by have := HK1.out; have := HJ12.out; have := HK3.out; omega⟩, ⟨by (with_reducible repeat (first | apply Kd.N_alloc | apply Kd.N_drewN | apply Kd.N_drew)); exact HO_4.out⟩, ⟨by (with_reducible repeat (first | apply Kd.N_alloc | apply Kd.N_drewN | apply Kd.N_drew)); exact HO_23.out⟩, ⟨bel⟩⟩
                            · rw [if_neg c25] at H
                              exact absurd H (by simp)
                          · rw [if_neg c24] at H
                            exact absurd H (by simp)
              · rw [if_neg c11] at H
                exact absurd H (by simp)
            · rw [if_neg c10] at H
              exact absurd H (by simp)
          · rw [if_neg c9] at H
            have c9b0 : decide (x25_1 < (t289.length : Int)) = false := decide_eq_false c9
            clear c9
            obtain rfl := Option.some.inj H
            go_wp2
            go_ret
            exact ⟨er, bel⟩
    · replace c5 := Bool.eq_false_iff.mpr c5
      subst c5
      have H1 : (some false) = some r := by rw [if_neg (show ¬ (false = true) by decide)] at H; exact H
      clear H
      have H := H1
      clear H1
      obtain rfl := Option.some.inj H
      go_enter Try.func5, Try.ntmps5
      go_wp2_with (first | ((with_reducible refine gate_callee (f := 17) rfl ?_); refine goesL_ (some 16) rfl rfl Try.func17 (by kernel_rfl) rfl #[.slice A0 l0.length c0] rfl ga ?_; (with_reducible refine (spec_MakeContests.calls k _ _ l0 t288 t289 _ ?side1 ?side2 A3.out).mono ?_); (case side1 => exact ck HR0.out); (case side2 => exact HC0.out); rintro e w46 ⟨v290, rfl, ho0, hb⟩; refine ⟨_, rfl, ?_⟩; have HO291 := Aside0.mk (Kd.N_lower (Kd.N_mono (ok' := fun k_ => True) ho0 (fun k_ hk_ => trivial)) (below_size bel)); replace HB := Aside0.mk (below_step bel hb); (try clear hb); (try clear ho0); obtain ⟨Ao47, co47, eo47⟩ := Kd.N_slice HO291.out; subst eo47) | ((with_reducible refine gate_callee (f := 15) rfl ?_); refine goesL_ (some 21) rfl rfl Try.func15 (by kernel_rfl) rfl #[.int .i64 t288, .slice Ao47 t289.length co47] rfl ga ?_; (with_reducible refine (impl_ContestsOk.calls k t288 _ _ t289 false _ ?side1 ?side2 A4.out).mono ?_); (case side1 => repeat (first | exact (Kd.N_reads' HO291.out).2.2 | (with_reducible refine Kd.C_alloc ?_ _) | (with_reducible refine Kd.C_drewN ?_ _) | (with_reducible refine Kd.C_drew ?_))); (case side2 => exact (Kd.N_reads' HO291.out).2.1); rintro e w48 ⟨rfl, hb⟩; refine ⟨_, rfl, ?_⟩; replace HO291 := Aside0.mk (Kd.N_below (by (with_reducible repeat (first | apply Kd.N_alloc | apply Kd.N_drewN | apply Kd.N_drew)); exact HO291.out) hb); replace HB := Aside0.mk (below_step bel hb); (try clear hb)))
      go_ret
      exact ⟨er, bel⟩

end Go.Proofs.Ytaopcamaceddnaa.Y
