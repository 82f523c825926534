-- Written by a program of this session (wip/xp.py, over the kit's print) out of the translation: functions, and the walks that show them.
import Derived.Test.YtaopcamaceddnaaY0
import Derived.Test.YtaopcamaceddnaaY1
import Derived.Test.YtaopcamaceddnaaY2
import Derived.Test.YtaopcamaceddnaaY8
namespace Go.Proofs.Ytaopcamaceddnaa.Y
open Go.RowKit Go.Proofs.YtaopcamaceddnaaW.PrintWords Go.Proofs.YtaopcamaceddnaaW.PrintLast Go.Proofs.YtaopcamaceddnaaW.PrintMore
attribute [local go_sem] max2_int min2_int max_two min_two max_three min_three max_four min_four   -- for this text's walks alone
set_option linter.unusedVariables false
set_option linter.unusedSimpArgs false

/-! ### impl_FirstOut: function 23 -/
mutual
def impl_FirstOut.j0 : Nat → Int → List (S38) → Int → Bool → Option (Int)
  | 0, _, _, _, _ => none
  | k + 1, x0, x1, x2, x20 => if x20 = true then (some (-1)) else (if 0 ≤ x2 then (if x2 < (x1.length : Int) then (impl_FirstOut.l0 k x0 x1 ((rd_T38 x1 x2).f0) (((rd_T38 x1 x2).f0).length : Int) 0) else (none)) else (none))
def impl_FirstOut.l0 : Nat → Int → List (S38) → List Int → Int → Int → Option (Int)
  | 0, _, _, _, _, _ => none
  | k + 1, x0, x1, x25, x26, x27 => if x27 < x26 then (if 0 ≤ x27 then (if x27 < (x25.length : Int) then ((impl_ContestOf.f k x0 x1 (rd x25 x27)).bind fun t244 => (if t244 < 0 then (some (rd x25 x27)) else (impl_FirstOut.l0 k x0 x1 x25 x26 (wrap64 (x27 + 1))))) else (none)) else (none)) else (some (-1))
end
def impl_FirstOut.f (k : Nat) (a0 : Int) (l1 : List (S38)) (a2 : Int) : Option (Int) := (impl_ContestsOk.f k a0 l1).bind fun t240 => (if t240 = true then ((impl_within.f a2 0 (wrap64 ((l1.length : Int) - 1))).bind fun t241 => (impl_FirstOut.j0 k a0 l1 a2 (!t241))) else (impl_FirstOut.j0 k a0 l1 a2 true))
theorem impl_FirstOut.mono_l : ∀ k, (∀ y0 y1 y2 y3, LeO (impl_FirstOut.j0 k y0 y1 y2 y3) (impl_FirstOut.j0 (k + 1) y0 y1 y2 y3)) ∧ (∀ y0 y1 y2 y3 y4, LeO (impl_FirstOut.l0 k y0 y1 y2 y3 y4) (impl_FirstOut.l0 (k + 1) y0 y1 y2 y3 y4))
  | 0 => ⟨fun _ _ _ _ r h => by simp [impl_FirstOut.j0] at h, fun _ _ _ _ _ r h => by simp [impl_FirstOut.l0] at h⟩
  | k + 1 => by
    obtain ⟨ih0, ih1⟩ := impl_FirstOut.mono_l k
    refine ⟨?_, ?_⟩
    · intro y0 y1 y2 y3
      unfold impl_FirstOut.j0
      repeat' first
      | (with_reducible exact ih0 _ _ _ _)
      | (with_reducible exact ih1 _ _ _ _ _)
      | (with_reducible exact impl_ContestOf.mono _ _ _ _)
      | (with_reducible exact impl_ContestsOk.mono _ _ _)
      | (with_reducible exact LeO.refl _)
      | (with_reducible exact LeO.none _)
      | (with_reducible refine LeO.ite ?_ ?_)
      | (with_reducible refine LeO.bind ?_ (fun _ => ?_))
      | exact ih0 _ _ _ _
      | exact ih1 _ _ _ _ _
      | exact impl_ContestOf.mono _ _ _ _
      | exact impl_ContestsOk.mono _ _ _
      | exact LeO.none _
      | refine LeO.ite ?_ ?_
      | refine LeO.bind ?_ (fun _ => ?_)
    · intro y0 y1 y2 y3 y4
      unfold impl_FirstOut.l0
      repeat' first
      | (with_reducible exact ih0 _ _ _ _)
      | (with_reducible exact ih1 _ _ _ _ _)
      | (with_reducible exact impl_ContestOf.mono _ _ _ _)
      | (with_reducible exact impl_ContestsOk.mono _ _ _)
      | (with_reducible exact LeO.refl _)
      | (with_reducible exact LeO.none _)
      | (with_reducible refine LeO.ite ?_ ?_)
      | (with_reducible refine LeO.bind ?_ (fun _ => ?_))
      | exact ih0 _ _ _ _
      | exact ih1 _ _ _ _ _
      | exact impl_ContestOf.mono _ _ _ _
      | exact impl_ContestsOk.mono _ _ _
      | exact LeO.none _
      | refine LeO.ite ?_ ?_
      | refine LeO.bind ?_ (fun _ => ?_)
theorem impl_FirstOut.mono : ∀ a0 a1 a2 k, LeO (impl_FirstOut.f k a0 a1 a2) (impl_FirstOut.f (k + 1) a0 a1 a2) := by
  intro a0 a1 a2 k
  obtain ⟨ih0, ih1⟩ := impl_FirstOut.mono_l k
  unfold impl_FirstOut.f
  repeat' first
      | (with_reducible exact ih0 _ _ _ _)
      | (with_reducible exact ih1 _ _ _ _ _)
      | (with_reducible exact impl_ContestOf.mono _ _ _ _)
      | (with_reducible exact impl_ContestsOk.mono _ _ _)
      | (with_reducible exact LeO.refl _)
      | (with_reducible exact LeO.none _)
      | (with_reducible refine LeO.ite ?_ ?_)
      | (with_reducible refine LeO.bind ?_ (fun _ => ?_))
      | exact ih0 _ _ _ _
      | exact ih1 _ _ _ _ _
      | exact impl_ContestOf.mono _ _ _ _
      | exact impl_ContestsOk.mono _ _ _
      | exact LeO.none _
      | refine LeO.ite ?_ ?_
      | refine LeO.bind ?_ (fun _ => ?_)
set_option maxHeartbeats 8000000 in
set_option maxRecDepth 100000 in
theorem impl_FirstOut.calls (k : Nat) (a0 : Int) (A1 : Option Addr) (c1 : Nat) (l1 : List (S38)) (a2 : Int) (r : Int) (w : World) (hr1 : Kd.C k38 w A1 l1.length l1) (hc1 : l1.length ≤ c1) (h : impl_FirstOut.f k a0 l1 a2 = some r) :
    Calls Try.prog 23 #[.int .i64 a0, .slice A1 l1.length c1, .int .i64 a2] w fun e w' => e = .returned (.int .i64 r) ∧ Below w.heap.size w w' := by
  have HR1 := Aside0.mk hr1
  have HC1 := Aside0.mk hc1
  clear hr1 hc1
  have HB := Aside0.mk (Below.refl w.heap.size w)
  have H : ((impl_ContestsOk.f k a0 l1).bind fun t240 => (if t240 = true then ((impl_within.f a2 0 (wrap64 ((l1.length : Int) - 1))).bind fun t241 => (impl_FirstOut.j0 k a0 l1 a2 (!t241))) else (impl_FirstOut.j0 k a0 l1 a2 true))) = some r := h
  clear h
  have HC4 := Aside0.mk H
  clear H
  go_enter Try.func23, Try.ntmps23
  go_upto_region 1 with (fail)
  go_cut [20] (fun v20 wc => ∃ (kq : Nat) (x20_3 : Bool), v20 = .bool x20_3 ∧ Aside0 (impl_FirstOut.j0 kq a0 l1 a2 x20_3 = some r) ∧ Aside0 (kq ≤ k) ∧ Aside0 (Below w.heap.size w wc))
  case first =>
    have H := HC4.out
    clear HC4
    replace H := Option.bind_eq_some_iff.mp H
    obtain ⟨t240, A50, H⟩ := H
    replace H : (if t240 = true then ((impl_within.f a2 0 (wrap64 ((l1.length : Int) - 1))).bind fun t241 => (impl_FirstOut.j0 k a0 l1 a2 (!t241))) else (impl_FirstOut.j0 k a0 l1 a2 true)) = some r := H
    have A5 := Aside0.mk A50
    clear A50
    by_cases c6 : t240 = true
    · subst c6
      have H1 : ((impl_within.f a2 0 (wrap64 ((l1.length : Int) - 1))).bind fun t241 => (impl_FirstOut.j0 k a0 l1 a2 (!t241))) = some r := by rw [if_pos rfl] at H; exact H
      clear H
      have H := H1
      clear H1
      replace H := Option.bind_eq_some_iff.mp H
      obtain ⟨t241, A70, H⟩ := H
      replace H : (impl_FirstOut.j0 k a0 l1 a2 (!t241)) = some r := H
      have A7 := Aside0.mk A70
      clear A70
      have H' := Aside0.mk H
      clear H
      go_wp2_with (first | ((with_reducible refine gate_callee (f := 15) rfl ?_); refine goesL_ (some 11) rfl rfl Try.func15 (by kernel_rfl) rfl #[.int .i64 a0, .slice A1 l1.length c1] rfl ga ?_; (with_reducible refine (impl_ContestsOk.calls k a0 _ _ l1 true _ ?side1 ?side2 A5.out).mono ?_); (case side1 => exact ck (Kd.C_below HR1.out HB.out)); (case side2 => exact HC1.out); rintro e w8 ⟨rfl, hb⟩; refine ⟨_, rfl, ?_⟩; replace HB := Aside0.mk (below_step bel hb); (try clear hb)) | (go_at_call 42; (with_reducible refine (impl_within.calls a2 0 (wrap64 ((l1.length : Int) - 1)) t241 _ A7.out).mono ?_); rintro e w' ⟨rfl, ⟨nd, rfl⟩⟩))
      go_meet
      case rel => exact ⟨_, (!t241), (es), H', ⟨by first | omega | exact Nat.le_refl _⟩, ⟨bel⟩⟩
    · replace c6 := Bool.eq_false_iff.mpr c6
      subst c6
      have H1 : (impl_FirstOut.j0 k a0 l1 a2 true) = some r := by rw [if_neg (show ¬ (false = true) by decide)] at H; exact H
      clear H
      have H := H1
      clear H1
      have H' := Aside0.mk H
      clear H
      go_wp2_with (first | ((with_reducible refine gate_callee (f := 15) rfl ?_); refine goesL_ (some 11) rfl rfl Try.func15 (by kernel_rfl) rfl #[.int .i64 a0, .slice A1 l1.length c1] rfl ga ?_; (with_reducible refine (impl_ContestsOk.calls k a0 _ _ l1 false _ ?side1 ?side2 A5.out).mono ?_); (case side1 => exact ck (Kd.C_below HR1.out HB.out)); (case side2 => exact HC1.out); rintro e w9 ⟨rfl, hb⟩; refine ⟨_, rfl, ?_⟩; replace HB := Aside0.mk (below_step bel hb); (try clear hb)))
      go_meet
      case rel => exact ⟨_, (true), (es), H', ⟨by first | omega | exact Nat.le_refl _⟩, ⟨bel⟩⟩
  case rest =>
    clear HC4
    try clear c1; try clear c2; try clear p2; try clear c6; try clear p6
    obtain ⟨kq, x20_3, rfl, HA, HJ3, HB⟩ := hcut
    cases kq with
    | zero => exact absurd HA.out (by simp [impl_FirstOut.j0])
    | succ kj3 =>
      have H := HA.out
      clear HA
      simp only [impl_FirstOut.j0] at H
      by_cases c10 : x20_3 = true
      · subst c10
        have H1 : (some (-1)) = some r := by rw [if_pos rfl] at H; exact H
        clear H
        have H := H1
        clear H1
        obtain rfl := Option.some.inj H
        go_wp2
        go_ret
        exact ⟨er, bel⟩
      · replace c10 := Bool.eq_false_iff.mpr c10
        subst c10
        have H1 : (if 0 ≤ a2 then (if a2 < (l1.length : Int) then (impl_FirstOut.l0 kj3 a0 l1 ((rd_T38 l1 a2).f0) (((rd_T38 l1 a2).f0).length : Int) 0) else (none)) else (none)) = some r := by rw [if_neg (show ¬ (false = true) by decide)] at H; exact H
        clear H
        have H := H1
        clear H1
        by_cases c11 : 0 ≤ a2
        · rw [if_pos c11] at H
          have c11b0 : decide (0 ≤ a2) = true := decide_eq_true c11
          clear c11
          by_cases c12 : a2 < (l1.length : Int)
          · rw [if_pos c12] at H
            have c12b0 : decide (a2 < (l1.length : Int)) = true := decide_eq_true c12
            clear c12
            have H' := Aside0.mk H
            clear H
            have p242 : 0 ≤ (a2 : Int) := asm
            have q242 : a2 < (l1.length : Int) := asm
            obtain ⟨ad242, A242_0, c242_0, e242, hx242_0, hx242_1, hx242_2, hl242_0, hi242_0⟩ := at_T38 HR1.out a2 p242 q242
            cases e242
            replace hx242_0 := hcl HB.out hx242_0
            replace hx242_1 := hcl HB.out hx242_1
            replace hx242_2 := hcl HB.out hx242_2
            have HR242_0 := Aside0.mk hi242_0
            have HC242_0 := Aside0.mk hl242_0
            clear hi242_0 hl242_0
            replace p242 := eq_true p242
            replace q242 := eq_true q242
            go_wp2
            go_loopg [27] kj3 (fun kq v27 w' => ∃ (x27_2 : Int), v27 = .int .i64 x27_2 ∧ Aside0 (impl_FirstOut.l0 kq a0 l1 ((rd_T38 l1 a2).f0) (((rd_T38 l1 a2).f0).length : Int) x27_2 = some r) ∧ Aside0 (kq ≤ kj3) ∧ Aside0 (Below w.heap.size w w'))
            case atStart => exact ⟨(0), (es), H', ⟨Nat.le_refl _⟩, ⟨bel⟩⟩
            case round =>
              clear H'
              try clear c1; try clear c2; try clear p2; try clear q2; try clear hx2; try clear c6; try clear p6; try clear c10; try clear c11; try clear c11b0; try clear c12; try clear c12b0; try clear hx242_0; try clear hx242_1; try clear hx242_2; try clear p2; try clear p242; try clear p6; try clear q242
              obtain ⟨x27_2, rfl, HA, HK2, HB⟩ := hrel
              cases gk with
              | zero => exact absurd HA.out (by simp [impl_FirstOut.l0])
              | succ k2 =>
                have H := HA.out
                clear HA
                simp only [impl_FirstOut.l0] at H
                by_cases c13 : x27_2 < (((rd_T38 l1 a2).f0).length : Int)
                · rw [if_pos c13] at H
                  have c13b0 : decide (x27_2 < (((rd_T38 l1 a2).f0).length : Int)) = true := decide_eq_true c13
                  clear c13
                  by_cases c14 : 0 ≤ x27_2
                  · rw [if_pos c14] at H
                    have c14b0 : decide (0 ≤ x27_2) = true := decide_eq_true c14
                    clear c14
                    by_cases c15 : x27_2 < (((rd_T38 l1 a2).f0).length : Int)
                    · rw [if_pos c15] at H
                      have c15b0 : decide (x27_2 < (((rd_T38 l1 a2).f0).length : Int)) = true := decide_eq_true c15
                      clear c15
                      replace H := Option.bind_eq_some_iff.mp H
                      obtain ⟨t244, A160, H⟩ := H
                      replace H : (if t244 < 0 then (some (rd ((rd_T38 l1 a2).f0) x27_2)) else (impl_FirstOut.l0 k2 a0 l1 ((rd_T38 l1 a2).f0) (((rd_T38 l1 a2).f0).length : Int) (wrap64 (x27_2 + 1)))) = some r := H
                      have A16 := Aside0.mk A160
                      clear A160
                      by_cases c17 : t244 < 0
                      · rw [if_pos c17] at H
                        have c17b0 : decide (t244 < 0) = true := decide_eq_true c17
                        clear c17
                        obtain rfl := Option.some.inj H
                        have p243 : 0 ≤ (x27_2 : Int) := asm
                        have q243 : x27_2 < (((rd_T38 l1 a2).f0).length : Int) := asm
                        obtain ⟨ad243, e243, hx243_0⟩ := Kd.at_int HR242_0.out x27_2 p243 q243
                        cases e243
                        replace hx243_0 := hcl HB.out hx243_0
                        replace p243 := eq_true p243
                        replace q243 := eq_true q243
                        go_wp2_with (first | ((with_reducible refine gate_callee (f := 21) rfl ?_); refine goesL_ (some 34) rfl rfl Try.func21 (by kernel_rfl) rfl #[.int .i64 a0, .slice (some ad242) l1.length c1, .int .i64 (rd ((rd_T38 l1 a2).f0) x27_2)] rfl ga ?_; (with_reducible refine (impl_ContestOf.calls k2 a0 _ _ l1 (rd ((rd_T38 l1 a2).f0) x27_2) t244 _ ?side1 ?side2 A16.out).mono ?_); (case side1 => exact ck (Kd.C_below HR1.out HB.out)); (case side2 => exact HC1.out); rintro e w18 ⟨rfl, hb⟩; refine ⟨_, rfl, ?_⟩; replace HB := Aside0.mk (below_step bel hb); (try clear hb)))
                        go_ret
                        exact ⟨er, bel⟩
                      · rw [if_neg c17] at H
                        have c17b0 : decide (t244 < 0) = false := decide_eq_false c17
                        clear c17
                        have H' := Aside0.mk H
                        clear H
                        have p243 : 0 ≤ (x27_2 : Int) := asm
                        have q243 : x27_2 < (((rd_T38 l1 a2).f0).length : Int) := asm
                        obtain ⟨ad243, e243, hx243_0⟩ := Kd.at_int HR242_0.out x27_2 p243 q243
                        cases e243
                        replace hx243_0 := hcl HB.out hx243_0
                        replace p243 := eq_true p243
                        replace q243 := eq_true q243
                        go_wp2_with (first | ((with_reducible refine gate_callee (f := 21) rfl ?_); refine goesL_ (some 34) rfl rfl Try.func21 (by kernel_rfl) rfl #[.int .i64 a0, .slice (some ad242) l1.length c1, .int .i64 (rd ((rd_T38 l1 a2).f0) x27_2)] rfl ga ?_; (with_reducible refine (impl_ContestOf.calls k2 a0 _ _ l1 (rd ((rd_T38 l1 a2).f0) x27_2) t244 _ ?side1 ?side2 A16.out).mono ?_); (case side1 => exact ck (Kd.C_below HR1.out HB.out)); (case side2 => exact HC1.out); rintro e w19 ⟨rfl, hb⟩; refine ⟨_, rfl, ?_⟩; replace HB := Aside0.mk (below_step bel hb); (try clear hb)))
                        go_roundg k2
                        case measure => have := HJ3.out; have := HK2.out; omega
                        case rel => exact ⟨(wrap64 (x27_2 + 1)), (es), H', ⟨by have := HJ3.out; have := HK2.out; omega⟩, ⟨bel⟩⟩
                    · rw [if_neg c15] at H
                      exact absurd H (by simp)
                  · rw [if_neg c14] at H
                    exact absurd H (by simp)
                · rw [if_neg c13] at H
                  have c13b0 : decide (x27_2 < (((rd_T38 l1 a2).f0).length : Int)) = false := decide_eq_false c13
                  clear c13
                  obtain rfl := Option.some.inj H
                  go_wp2
                  go_ret
                  exact ⟨er, bel⟩
          · rw [if_neg c12] at H
            exact absurd H (by simp)
        · rw [if_neg c11] at H
          exact absurd H (by simp)

/-! ### impl_Contest: function 50 -/
def impl_Contest.f (l0 : List (S38)) : Option ((List (S38))) := (some (([] : List (S38)) : List (S38))).bind fun y245 => (if y245.length + l0.length < 3518437208883 then (some (y245 ++ l0)) else (none))
set_option maxHeartbeats 8000000 in
set_option maxRecDepth 100000 in
theorem impl_Contest.calls_some (P0_ : Nat → Prop) (B0 : Addr) (c0 : Nat) (l0 : List (S38)) (r : List (S38)) (w : World) (hs0 : Kd.V k38 38 w w.heap.size (fun k_ => P0_ k_) (.slice (some B0) l0.length c0) l0) (h : impl_Contest.f l0 = some r) :
    Calls Try.prog 50 #[.slice (some B0) l0.length c0] w fun e w' => ∃ v0_ : Value, e = .returned (v0_) ∧ Kd.N k38 38 w' w.heap.size (fun k_ => (P0_ k_ ∨ w.heap.size ≤ k_)) v0_ r ∧ Below w.heap.size w w' := by
  have HO0 := Aside0.mk (show Kd.V k38 38 w w.heap.size (fun k_ => (P0_ k_ ∨ w.heap.size ≤ k_)) (.slice (some B0) l0.length c0) l0 from Kd.V_mono hs0 (fun k_ hk => .inl hk))
  have HB := Aside0.mk (Below.refl w.heap.size w)
  have H : ((some (([] : List (S38)) : List (S38))).bind fun y245 => (if y245.length + l0.length < 3518437208883 then (some (y245 ++ l0)) else (none))) = some r := h
  clear h
  obtain ⟨y245, hy245⟩ : ∃ y_ : List (S38), y_ = (([] : List (S38))) := ⟨_, rfl⟩
  replace H : (if y245.length + l0.length < 3518437208883 then (some (y245 ++ l0)) else (none)) = some r := by first | (rw [hy245]; with_reducible exact H) | (have H2_ := (Option.bind_some _ _).symm.trans H; rw [hy245]; with_reducible exact H2_) | (have H2_ := (Option.bind_some _ _).symm.trans H; with_reducible exact H2_) | with_reducible exact H | (rw [hy245]; exact H) | exact H
  have Ny245 := Aside0.mk hy245
  clear hy245
  by_cases c2 : y245.length + l0.length < 3518437208883
  · rw [if_pos c2] at H
    have LMc2 := Aside0.mk c2
    clear c2
    obtain ⟨y248, hy248⟩ : ∃ y_ : List (S38), y_ = (y245 ++ l0) := ⟨_, rfl⟩
    replace H : (some y248) = some r := by first | (rw [hy248]; with_reducible exact H) | (have H2_ := (Option.bind_some _ _).symm.trans H; rw [hy248]; with_reducible exact H2_) | (have H2_ := (Option.bind_some _ _).symm.trans H; with_reducible exact H2_) | with_reducible exact H | (rw [hy248]; exact H) | exact H
    have Ny248 := Aside0.mk hy248
    clear hy248
    obtain rfl := Option.some.inj H
    have hnil := fun (W : World) (a : Option Addr) (n c n' c' : Nat) => Lib.run_eql_slice_nil (P := Try.prog) W _ _ a n c n' c' Try.underlying25
    go_enter Try.func50, Try.ntmps50
    go_wp2_with (first | ((with_reducible refine gate_dst (N := 5) rfl ?_); refine Kd.N_lit k38 _ 38 ?hg (N' := 5) ?hd (xs := ([] : List (S38))) (inner := []) (ok := (fun k_ => (P0_ k_ ∨ w.heap.size ≤ k_))) (okp := (fun k_ => (P0_ k_ ∨ w.heap.size ≤ k_))) ?hr ?hp (fun _ hk => hk) ((show ∀ k_, w.heap.size ≤ k_ → (fun k_ => (P0_ k_ ∨ w.heap.size ≤ k_)) k_ from fun k_ hk => (.inr (Nat.le_trans (below_size bel) hk))) _ (Nat.le_refl _)) (Below.refl _ _) (Nat.le_refl _) (by simp) ?_; (case hd => rfl); (case hg => rfl); (case hr => first | (go_simp; done) | (go_simp; rfl)); (case hp => exact (Reps.none _ _)); intro v246 w3 ho4 hb hg_ hnew_; clear hg_ hnew_; (first | rw [← Ny245.out] at ho4 | (simp only [Int.reduceToNat] at ho4; rw [← Ny245.out] at ho4)); have HO247 := Aside0.mk (Kd.N_lower ho4 (below_size bel)); replace HO0 := Aside0.mk (Kd.V_elder' (by (with_reducible repeat (first | apply Kd.V_alloc | apply Kd.V_drewN | apply Kd.V_drew)); exact HO0.out) (Kd.N_base ho4) hb); replace HB := Aside0.mk (below_step bel hb); clear hb ho4) | ((with_reducible refine gate_builtin (b := .append) (xs := #[.tmp 5, .tmp 6]) rfl ?_); at_builtin; refine Kd.N_append_rows k38 (w0 := w) w.heap.size rfl (.tmp 5) (.tmp 6) 25 38 (.agg #[(.slice none 0 0), (.int .i64 0), (.int .i64 0)]) 40 rfl Try.underlying25 info38 rfl (by decide) (by omega) v246 y245 l0 _ _ _ (fun k_ => (P0_ k_ ∨ w.heap.size ≤ k_)) (fun k_ => ((fun k_ => (P0_ k_ ∨ w.heap.size ≤ k_))) k_ ∧ some k_ ≠ (v246 : Value).ownBlock) rfl rfl ?aO ?aR (fun _ hk => hk) ?aF ?aB ?aS ?aL ?_; (case aR => exact (by skip; exact Kd.V_F (Kd.V_mono (ok' := (fun k_ => ((fun k_ => (P0_ k_ ∨ w.heap.size ≤ k_))) k_ ∧ some k_ ≠ (v246 : Value).ownBlock)) (HO0.out) (fun k_ hk => ⟨hk.1, hk.2⟩)))); (case aB => exact bel); (case aF => exact (fun k_ hk => (.inr (Nat.le_trans (below_size bel) hk)))); (case aO => exact (by (with_reducible repeat (first | apply Kd.N_alloc | apply Kd.N_drewN | apply Kd.N_drew)); exact HO247.out)); (case aS => exact (below_size bel)); (case aL => have := LMc2.out; omega); intro v249 w5 ho hb hg hat; rw [← Ny248.out] at ho; have n0_ := Aside0.mk (Kd.V_afterv (ok := (fun k_ => (P0_ k_ ∨ w.heap.size ≤ k_))) (by (with_reducible repeat (first | apply Kd.V_alloc | apply Kd.V_drewN | apply Kd.V_drew)); exact HO0.out) hg hat); have n1_ := Aside0.mk (hb); have n2_ := Aside0.mk (ho); clear HO0; clear HB; clear HO247; have HO0 := n0_; have HB := n1_; have HO250 := n2_; clear n0_ n1_ n2_; clear ho hb hg hat))
    go_ret
    exact ⟨_, er, by (with_reducible repeat (first | apply Kd.N_alloc | apply Kd.N_drewN | apply Kd.N_drew)); exact HO250.out, bel⟩
  · rw [if_neg c2] at H
    exact absurd H (by simp)

theorem impl_Contest.calls (P0_ : Nat → Prop) (A0 : Option Addr) (c0 : Nat) (l0 : List (S38)) (r : List (S38)) (w : World) (hs0 : Kd.V k38 38 w w.heap.size (fun k_ => P0_ k_) (.slice A0 l0.length c0) l0) (h : impl_Contest.f l0 = some r) :
    Calls Try.prog 50 #[.slice A0 l0.length c0] w fun e w' => ∃ v0_ : Value, e = .returned (v0_) ∧ Kd.N k38 38 w' w.heap.size (fun k_ => (P0_ k_ ∨ w.heap.size ≤ k_)) v0_ r ∧ Below w.heap.size w w' := by
  cases A0 with
  | some B0 => exact impl_Contest.calls_some P0_ B0 c0 l0 r w hs0 h
  | none =>
    obtain rfl : l0 = [] := by
      cases l0 with
      | nil => rfl
      | cons x xs => obtain ⟨ad, h1, _⟩ := (Kd.V_reads' hs0).2.2.2.2 (by simp); cases h1
    obtain rfl : [] = r := by simpa [impl_Contest.f] using h
    have HB := Aside0.mk (Below.refl w.heap.size w)
    clear hs0 h
    have hnil := fun (W : World) (a : Option Addr) (n c n' c' : Nat) => Lib.run_eql_slice_nil (P := Try.prog) W _ _ a n c n' c' Try.underlying25
    go_enter Try.func50, Try.ntmps50
    go_wp2
    go_ret
    exact ⟨_, rfl, Kd.N_nil _ _ _ _ _, by repeat (first | exact HB.out | apply below_drew1 | apply pw_below_drewN)⟩

end Go.Proofs.Ytaopcamaceddnaa.Y
