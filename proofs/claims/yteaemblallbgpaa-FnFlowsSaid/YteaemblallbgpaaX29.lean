-- Written by a program of this session (wip/xp.py, over the kit's print) out of the translation: functions, and the walks that show them.
import Derived.Test.YteaemblallbgpaaX0
import Derived.Test.YteaemblallbgpaaX3
import Derived.Test.YteaemblallbgpaaX4
import Derived.Test.YteaemblallbgpaaX28
namespace Go.Proofs.Yteaemblallbgpaa.X
open Go.RowKit Go.Proofs.YteaemblallbgpaaW.PrintWords Go.Proofs.YteaemblallbgpaaW.PrintLast Go.Proofs.YteaemblallbgpaaW.PrintMore
attribute [local go_sem] max2_int min2_int max_two min_two max_three min_three max_four min_four   -- for this text's walks alone
set_option linter.unusedVariables false
set_option linter.unusedSimpArgs false

/-! ### impl_SourceSide: function 29 -/
mutual
def impl_SourceSide.j0 : Nat → Int → List Int → Bool → Int → List (S60) → Option (List Bool)
  | 0, _, _, _, _, _ => none
  | k + 1, x1, x2, x28, x401000, x401001 => if x28 = true then (some ([] : List Bool)) else ((impl_reach.f k x401000 x401001 x1 x2).bind fun t406 => (impl_SourceSide.l0 k (([] : List Bool)) t406 (t406.length : Int) 0))
def impl_SourceSide.l0 : Nat → List Bool → List (S69) → Int → Int → Option (List Bool)
  | 0, _, _, _, _ => none
  | k + 1, x7, x33, x34, x35 => if x35 < x34 then (if 0 ≤ x35 then (if x35 < (x33.length : Int) then (if x7.length < 140737488355328 then (impl_SourceSide.l0 k (x7 ++ [(rd_T69 x33 x35).f2]) x33 x34 (wrap64 (x35 + 1))) else (none)) else (none)) else (none)) else (some x7)
end
def impl_SourceSide.f (k : Nat) (a0_0 : Int) (l0_1 : List (S60)) (a1 : Int) (l2 : List Int) : Option (List Bool) := (impl_NetOk.f k a0_0 l0_1).bind fun t401 => (if t401 = true then ((impl_within.f a1 0 (wrap64 (a0_0 - 1))).bind fun t402 => (if t402 = true then (impl_SourceSide.j0 k a1 l2 ((l2.length : Int) != (l0_1.length : Int)) a0_0 l0_1) else (impl_SourceSide.j0 k a1 l2 true a0_0 l0_1))) else (impl_SourceSide.j0 k a1 l2 true a0_0 l0_1))
theorem impl_SourceSide.mono_l : ∀ k, (∀ y0 y1 y2 y3 y4, LeO (impl_SourceSide.j0 k y0 y1 y2 y3 y4) (impl_SourceSide.j0 (k + 1) y0 y1 y2 y3 y4)) ∧ (∀ y0 y1 y2 y3, LeO (impl_SourceSide.l0 k y0 y1 y2 y3) (impl_SourceSide.l0 (k + 1) y0 y1 y2 y3))
  | 0 => ⟨fun _ _ _ _ _ r h => by simp [impl_SourceSide.j0] at h, fun _ _ _ _ r h => by simp [impl_SourceSide.l0] at h⟩
  | k + 1 => by
    obtain ⟨ih0, ih1⟩ := impl_SourceSide.mono_l k
    refine ⟨?_, ?_⟩
    · intro y0 y1 y2 y3 y4
      unfold impl_SourceSide.j0
      repeat' first
      | (with_reducible exact ih0 _ _ _ _ _)
      | (with_reducible exact ih1 _ _ _ _)
      | (with_reducible exact impl_NetOk.mono _ _ _)
      | (with_reducible exact impl_reach.mono _ _ _ _ _)
      | (with_reducible exact LeO.refl _)
      | (with_reducible exact LeO.none _)
      | (with_reducible refine LeO.ite ?_ ?_)
      | (with_reducible refine LeO.bind ?_ (fun _ => ?_))
      | exact ih0 _ _ _ _ _
      | exact ih1 _ _ _ _
      | exact impl_NetOk.mono _ _ _
      | exact impl_reach.mono _ _ _ _ _
      | exact LeO.none _
      | refine LeO.ite ?_ ?_
      | refine LeO.bind ?_ (fun _ => ?_)
    · intro y0 y1 y2 y3
      unfold impl_SourceSide.l0
      repeat' first
      | (with_reducible exact ih0 _ _ _ _ _)
      | (with_reducible exact ih1 _ _ _ _)
      | (with_reducible exact impl_NetOk.mono _ _ _)
      | (with_reducible exact impl_reach.mono _ _ _ _ _)
      | (with_reducible exact LeO.refl _)
      | (with_reducible exact LeO.none _)
      | (with_reducible refine LeO.ite ?_ ?_)
      | (with_reducible refine LeO.bind ?_ (fun _ => ?_))
      | exact ih0 _ _ _ _ _
      | exact ih1 _ _ _ _
      | exact impl_NetOk.mono _ _ _
      | exact impl_reach.mono _ _ _ _ _
      | exact LeO.none _
      | refine LeO.ite ?_ ?_
      | refine LeO.bind ?_ (fun _ => ?_)
theorem impl_SourceSide.mono : ∀ a0 a1 a2 a3 k, LeO (impl_SourceSide.f k a0 a1 a2 a3) (impl_SourceSide.f (k + 1) a0 a1 a2 a3) := by
  intro a0 a1 a2 a3 k
  obtain ⟨ih0, ih1⟩ := impl_SourceSide.mono_l k
  unfold impl_SourceSide.f
  repeat' first
      | (with_reducible exact ih0 _ _ _ _ _)
      | (with_reducible exact ih1 _ _ _ _)
      | (with_reducible exact impl_NetOk.mono _ _ _)
      | (with_reducible exact impl_reach.mono _ _ _ _ _)
      | (with_reducible exact LeO.refl _)
      | (with_reducible exact LeO.none _)
      | (with_reducible refine LeO.ite ?_ ?_)
      | (with_reducible refine LeO.bind ?_ (fun _ => ?_))
      | exact ih0 _ _ _ _ _
      | exact ih1 _ _ _ _
      | exact impl_NetOk.mono _ _ _
      | exact impl_reach.mono _ _ _ _ _
      | exact LeO.none _
      | refine LeO.ite ?_ ?_
      | refine LeO.bind ?_ (fun _ => ?_)
set_option maxHeartbeats 8000000 in
set_option maxRecDepth 100000 in
theorem impl_SourceSide.calls (k : Nat) (a0_0 : Int) (A0_1 : Option Addr) (c0_1 : Nat) (l0_1 : List (S60)) (a1 : Int) (A2 : Option Addr) (c2 : Nat) (l2 : List Int) (r : List Bool) (w : World) (hr0_1 : Kd.C k60 w A0_1 l0_1.length l0_1) (hc0_1 : l0_1.length ≤ c0_1) (hr2 : Kd.C (Kd.int .i64) w A2 l2.length l2) (hc2 : l2.length ≤ c2) (h : impl_SourceSide.f k a0_0 l0_1 a1 l2 = some r) :
    Calls Try.prog 29 #[.agg #[.int .i64 a0_0, .slice A0_1 l0_1.length c0_1], .int .i64 a1, .slice A2 l2.length c2] w fun e w' => ∃ v0_ : Value, e = .returned (v0_) ∧ Kd.R Kd.bool 4 w' w.heap.size (fun _ => True) v0_ r ∧ Below w.heap.size w w' := by
  have hu29 := Try.underlying29
  have hu69 := Try.underlying69
  have HR0_1 := Aside0.mk hr0_1
  have HC0_1 := Aside0.mk hc0_1
  clear hr0_1 hc0_1
  have HR2 := Aside0.mk hr2
  have HC2 := Aside0.mk hc2
  clear hr2 hc2
  have HB := Aside0.mk (Below.refl w.heap.size w)
  have H : ((impl_NetOk.f k a0_0 l0_1).bind fun t401 => (if t401 = true then ((impl_within.f a1 0 (wrap64 (a0_0 - 1))).bind fun t402 => (if t402 = true then (impl_SourceSide.j0 k a1 l2 ((l2.length : Int) != (l0_1.length : Int)) a0_0 l0_1) else (impl_SourceSide.j0 k a1 l2 true a0_0 l0_1))) else (impl_SourceSide.j0 k a1 l2 true a0_0 l0_1))) = some r := h
  clear h
  have HC4 := Aside0.mk H
  clear H
  go_enter Try.func29, Try.ntmps29
  go_upto_region 1 with (first | ((with_reducible refine gate_dst (N := 3) rfl ?_); refine box_event ?hg (N := 3) ?hd (cs := #[.int .i64 a0_0, .slice A0_1 l0_1.length c0_1]) (t := 29) ?hr ?_; (case hd => rfl); (case hg => rfl); (case hr => first | (go_simp; done) | (go_simp; rfl)); intro gb400 hg w5 hbox hb; have BK400 := Aside0.mk (hbox); have GW400 := Aside0.mk ((bsz hg : w.heap.size ≤ gb400)); have GE400 := Aside0.mk ((bsz hg : w.heap.size ≤ gb400)); replace HB := Aside0.mk (below_step bel hb); clear hb hbox hg))
  (try simp only [Act.put, List.setIfInBounds_toArray, List.set_cons_zero, List.set_cons_succ])
  go_cut [28] (fun v28 wc => ∃ (kq : Nat) (x28_3 : Bool), v28 = .bool x28_3 ∧ Aside0 (impl_SourceSide.j0 kq a1 l2 x28_3 a0_0 l0_1 = some r) ∧ Aside0 (kq ≤ k) ∧ Aside0 (wc.heap[gb400]? = some (.cells #[.int .i64 a0_0, (.slice A0_1 l0_1.length c0_1)] 29 (0, 0))) ∧ Aside0 (Below w.heap.size w wc))
  case first =>
    have H := HC4.out
    clear HC4
    replace H := Option.bind_eq_some_iff.mp H
    obtain ⟨t401, A60, H⟩ := H
    replace H : (if t401 = true then ((impl_within.f a1 0 (wrap64 (a0_0 - 1))).bind fun t402 => (if t402 = true then (impl_SourceSide.j0 k a1 l2 ((l2.length : Int) != (l0_1.length : Int)) a0_0 l0_1) else (impl_SourceSide.j0 k a1 l2 true a0_0 l0_1))) else (impl_SourceSide.j0 k a1 l2 true a0_0 l0_1)) = some r := H
    have A6 := Aside0.mk A60
    clear A60
    by_cases c7 : t401 = true
    · subst c7
      have H1 : ((impl_within.f a1 0 (wrap64 (a0_0 - 1))).bind fun t402 => (if t402 = true then (impl_SourceSide.j0 k a1 l2 ((l2.length : Int) != (l0_1.length : Int)) a0_0 l0_1) else (impl_SourceSide.j0 k a1 l2 true a0_0 l0_1))) = some r := by rw [if_pos rfl] at H; exact H
      clear H
      have H := H1
      clear H1
      replace H := Option.bind_eq_some_iff.mp H
      obtain ⟨t402, A80, H⟩ := H
      replace H : (if t402 = true then (impl_SourceSide.j0 k a1 l2 ((l2.length : Int) != (l0_1.length : Int)) a0_0 l0_1) else (impl_SourceSide.j0 k a1 l2 true a0_0 l0_1)) = some r := H
      have A8 := Aside0.mk A80
      clear A80
      by_cases c9 : t402 = true
      · subst c9
        have H1 : (impl_SourceSide.j0 k a1 l2 ((l2.length : Int) != (l0_1.length : Int)) a0_0 l0_1) = some r := by rw [if_pos rfl] at H; exact H
        clear H
        have H := H1
        clear H1
        have H' := Aside0.mk H
        clear H
        obtain ⟨hcz10_0, hcz10_1, hfz10_0, hfz10_1⟩ := cf2 BK400.out
        go_wp2_with (first | ((with_reducible refine gate_callee (f := 14) rfl ?_); refine goesL_ (some 11) rfl rfl Try.func14 (by kernel_rfl) rfl #[.agg #[.int .i64 a0_0, .slice A0_1 l0_1.length c0_1]] rfl ga ?_; (with_reducible refine (impl_NetOk.calls k a0_0 _ _ l0_1 true _ ?side1 ?side2 A6.out).mono ?_); (case side1 => exact ck (Kd.C_below HR0_1.out HB.out)); (case side2 => exact HC0_1.out); rintro e w11 ⟨rfl, hb⟩; refine ⟨_, rfl, ?_⟩; replace BK400 := Aside0.mk (bb BK400.out hb); replace HB := Aside0.mk (below_step bel hb); (try clear hb); obtain ⟨hcz12_0, hcz12_1, hfz12_0, hfz12_1⟩ := cf2 BK400.out) | (go_at_call 41; (with_reducible refine (impl_within.calls a1 0 (wrap64 (a0_0 - 1)) true _ A8.out).mono ?_); rintro e w' ⟨rfl, ⟨nd, rfl⟩⟩))
        go_meet
        case rel => exact ⟨_, (((l2.length : Int) != (l0_1.length : Int))), (es), H', ⟨by first | omega | exact Nat.le_refl _⟩, ⟨bk BK400.out⟩, ⟨bel⟩⟩
      · replace c9 := Bool.eq_false_iff.mpr c9
        subst c9
        have H1 : (impl_SourceSide.j0 k a1 l2 true a0_0 l0_1) = some r := by rw [if_neg (show ¬ (false = true) by decide)] at H; exact H
        clear H
        have H := H1
        clear H1
        have H' := Aside0.mk H
        clear H
        obtain ⟨hcz13_0, hcz13_1, hfz13_0, hfz13_1⟩ := cf2 BK400.out
        go_wp2_with (first | ((with_reducible refine gate_callee (f := 14) rfl ?_); refine goesL_ (some 11) rfl rfl Try.func14 (by kernel_rfl) rfl #[.agg #[.int .i64 a0_0, .slice A0_1 l0_1.length c0_1]] rfl ga ?_; (with_reducible refine (impl_NetOk.calls k a0_0 _ _ l0_1 true _ ?side1 ?side2 A6.out).mono ?_); (case side1 => exact ck (Kd.C_below HR0_1.out HB.out)); (case side2 => exact HC0_1.out); rintro e w14 ⟨rfl, hb⟩; refine ⟨_, rfl, ?_⟩; replace BK400 := Aside0.mk (bb BK400.out hb); replace HB := Aside0.mk (below_step bel hb); (try clear hb); obtain ⟨hcz15_0, hcz15_1, hfz15_0, hfz15_1⟩ := cf2 BK400.out) | (go_at_call 41; (with_reducible refine (impl_within.calls a1 0 (wrap64 (a0_0 - 1)) false _ A8.out).mono ?_); rintro e w' ⟨rfl, ⟨nd, rfl⟩⟩))
        go_meet
        case rel => exact ⟨_, (true), (es), H', ⟨by first | omega | exact Nat.le_refl _⟩, ⟨bk BK400.out⟩, ⟨bel⟩⟩
    · replace c7 := Bool.eq_false_iff.mpr c7
      subst c7
      have H1 : (impl_SourceSide.j0 k a1 l2 true a0_0 l0_1) = some r := by rw [if_neg (show ¬ (false = true) by decide)] at H; exact H
      clear H
      have H := H1
      clear H1
      have H' := Aside0.mk H
      clear H
      obtain ⟨hcz16_0, hcz16_1, hfz16_0, hfz16_1⟩ := cf2 BK400.out
      go_wp2_with (first | ((with_reducible refine gate_callee (f := 14) rfl ?_); refine goesL_ (some 11) rfl rfl Try.func14 (by kernel_rfl) rfl #[.agg #[.int .i64 a0_0, .slice A0_1 l0_1.length c0_1]] rfl ga ?_; (with_reducible refine (impl_NetOk.calls k a0_0 _ _ l0_1 false _ ?side1 ?side2 A6.out).mono ?_); (case side1 => exact ck (Kd.C_below HR0_1.out HB.out)); (case side2 => exact HC0_1.out); rintro e w17 ⟨rfl, hb⟩; refine ⟨_, rfl, ?_⟩; replace BK400 := Aside0.mk (bb BK400.out hb); replace HB := Aside0.mk (below_step bel hb); (try clear hb)))
      go_meet
      case rel => exact ⟨_, (true), (es), H', ⟨by first | omega | exact Nat.le_refl _⟩, ⟨bk BK400.out⟩, ⟨bel⟩⟩
  case rest =>
    clear HC4
    try clear c1; try clear c2; try clear p2; try clear p6; try clear c7; try clear c9; try clear c14; try clear hcz10_0; try clear hcz10_1; try clear hcz12_0; try clear hcz12_1; try clear hcz13_0; try clear hcz13_1; try clear hcz15_0; try clear hcz15_1; try clear hcz16_0; try clear hcz16_1; try clear hfz10_0; try clear hfz10_1; try clear hfz12_0; try clear hfz12_1; try clear hfz13_0; try clear hfz13_1; try clear hfz15_0; try clear hfz15_1; try clear hfz16_0; try clear hfz16_1
    obtain ⟨kq, x28_3, rfl, HA, HJ3, BK400, HB⟩ := hcut
    cases kq with
    | zero => exact absurd HA.out (by simp [impl_SourceSide.j0])
    | succ kj3 =>
      have H := HA.out
      clear HA
      simp only [impl_SourceSide.j0] at H
      by_cases c18 : x28_3 = true
      · subst c18
        have H1 : (some ([] : List Bool)) = some r := by rw [if_pos rfl] at H; exact H
        clear H
        have H := H1
        clear H1
        obtain rfl := Option.some.inj H
        go_wp2
        go_ret
        exact ⟨_, er, by first | exact Kd.R_nil _ _ _ _ _ | exact Kd.N_nil _ _ _ _ _ | exact Kd.V_nil _ _ _ _ _ | exact Kd.Q_nil _ _ _ _ _ | exact Kd.S_nil _ _ _ _ _, bel⟩
      · replace c18 := Bool.eq_false_iff.mpr c18
        subst c18
        have H1 : ((impl_reach.f kj3 a0_0 l0_1 a1 l2).bind fun t406 => (impl_SourceSide.l0 kj3 (([] : List Bool)) t406 (t406.length : Int) 0)) = some r := by rw [if_neg (show ¬ (false = true) by decide)] at H; exact H
        clear H
        have H := H1
        clear H1
        obtain ⟨y403, hy403⟩ : ∃ y_ : List Bool, y_ = (([] : List Bool)) := ⟨_, rfl⟩
        replace H : ((impl_reach.f kj3 a0_0 l0_1 a1 l2).bind fun t406 => (impl_SourceSide.l0 kj3 y403 t406 (t406.length : Int) 0)) = some r := by first | (rw [hy403]; with_reducible exact H) | (have H2_ := (Option.bind_some _ _).symm.trans H; rw [hy403]; with_reducible exact H2_) | (have H2_ := (Option.bind_some _ _).symm.trans H; with_reducible exact H2_) | with_reducible exact H | (rw [hy403]; exact H) | exact H
        have Ny403 := Aside0.mk hy403
        clear hy403
        replace H := Option.bind_eq_some_iff.mp H
        obtain ⟨t406, A190, H⟩ := H
        replace H : (impl_SourceSide.l0 kj3 y403 t406 (t406.length : Int) 0) = some r := H
        have A19 := Aside0.mk A190
        clear A190
        have H' := Aside0.mk H
        clear H
        go_wp2_with (first | ((with_reducible refine gate_dst (N := 29) rfl ?_); refine Kd.R_lit Kd.bool _ 4 ?hg (N := 29) ?hd (xs := ([] : List Bool)) (inner := []) (ok := fun _ => True) (okp := fun _ => True) ?hr ?hp (fun _ hk => hk) trivial (Below.refl _ _) (Nat.le_refl _) (by simp) ?_; (case hd => rfl); (case hg => rfl); (case hr => first | (go_simp; done) | (go_simp; rfl)); (case hp => exact (Reps.none _ _)); intro v404 w20 ho21 hb hg_ hnew_; clear hg_ hnew_; (first | rw [← Ny403.out] at ho21 | (simp only [Int.reduceToNat] at ho21; rw [← Ny403.out] at ho21)); have HO405 := Aside0.mk (Kd.R_lower ho21 (below_size bel)); replace BK400 := Aside0.mk (bb BK400.out hb); replace HB := Aside0.mk (below_step bel hb); clear hb ho21; obtain ⟨hcz22_0, hcz22_1, hfz22_0, hfz22_1⟩ := cf2 BK400.out) | ((with_reducible refine gate_callee (f := 46) rfl ?_); refine goesL_ (some 33) rfl rfl Try.func46 (by kernel_rfl) rfl #[.agg #[.int .i64 a0_0, .slice A0_1 l0_1.length c0_1], .int .i64 a1, .slice A2 l2.length c2] rfl ga ?_; (with_reducible refine (impl_reach.calls kj3 a0_0 _ _ l0_1 a1 _ _ l2 t406 _ ?side1 ?side2 ?side3 ?side4 A19.out).mono ?_); (case side1 => exact ck (Kd.C_below HR0_1.out HB.out)); (case side2 => exact HC0_1.out); (case side3 => exact ck (Kd.C_below HR2.out HB.out)); (case side4 => exact HC2.out); rintro e w23 ⟨v407, rfl, ho0, hb⟩; refine ⟨_, rfl, ?_⟩; have HO408 := Aside0.mk (Kd.R_lower ho0 (below_size bel)); replace HO405 := Aside0.mk (Kd.R_below (rk HO405.out) hb); replace BK400 := Aside0.mk (bb BK400.out hb); replace HB := Aside0.mk (below_step bel hb); (try clear hb); (try clear ho0); obtain ⟨Ao24, co24, eo24⟩ := Kd.R_slice HO408.out; subst eo24))
        go_loopg [7, 35] kj3 (fun kq v7 v35 w' => ∃ (x7_2 : List Bool) (x35_2 : Int), v35 = .int .i64 x35_2 ∧ Aside0 (impl_SourceSide.l0 kq x7_2 t406 (t406.length : Int) x35_2 = some r) ∧ Aside0 (kq ≤ kj3) ∧ Aside0 (Kd.R Kd.bool 4 w' w.heap.size (fun _ => True) v7 x7_2) ∧ Aside0 (Kd.R k69 69 w' w.heap.size (fun _ => True) (.slice Ao24 t406.length co24) t406) ∧ Aside0 (w'.heap[gb400]? = some (.cells #[.int .i64 a0_0, (.slice A0_1 l0_1.length c0_1)] 29 (0, 0))) ∧ Aside0 (Below w.heap.size w w'))
        case atStart => exact ⟨(y403), (0), (es), H', ⟨Nat.le_refl _⟩, ⟨rk HO405.out⟩, ⟨rk HO408.out⟩, ⟨bk BK400.out⟩, ⟨bel⟩⟩
        case round =>
          clear H'
          try clear c1; try clear c2; try clear p2; try clear c4; try clear p6; try clear c7; try clear c9; try clear c14; try clear c18; try clear hcz10_0; try clear hcz10_1; try clear hcz12_0; try clear hcz12_1; try clear hcz13_0; try clear hcz13_1; try clear hcz15_0; try clear hcz15_1; try clear hcz16_0; try clear hcz16_1; try clear hcz22_0; try clear hcz22_1; try clear hfz10_0; try clear hfz10_1; try clear hfz12_0; try clear hfz12_1; try clear hfz13_0; try clear hfz13_1; try clear hfz15_0; try clear hfz15_1; try clear hfz16_0; try clear hfz16_1; try clear hfz22_0; try clear hfz22_1; try clear p2; try clear p6
          obtain ⟨x7_2, x35_2, rfl, HA, HK2, HO_7, HO_33, BK400, HB⟩ := hrel
          cases gk with
          | zero => exact absurd HA.out (by simp [impl_SourceSide.l0])
          | succ k2 =>
            have H := HA.out
            clear HA
            simp only [impl_SourceSide.l0] at H
            by_cases c25 : x35_2 < (t406.length : Int)
            · rw [if_pos c25] at H
              have c25b0 : decide (x35_2 < (t406.length : Int)) = true := decide_eq_true c25
              clear c25
              by_cases c26 : 0 ≤ x35_2
              · rw [if_pos c26] at H
                have c26b0 : decide (0 ≤ x35_2) = true := decide_eq_true c26
                clear c26
                by_cases c27 : x35_2 < (t406.length : Int)
                · rw [if_pos c27] at H
                  have c27b0 : decide (x35_2 < (t406.length : Int)) = true := decide_eq_true c27
                  clear c27
                  by_cases c28 : x7_2.length < 140737488355328
                  · rw [if_pos c28] at H
                    have LMc28 := Aside0.mk c28
                    clear c28
                    obtain ⟨y411, hy411⟩ : ∃ y_ : List Bool, y_ = (x7_2 ++ [(rd_T69 t406 x35_2).f2]) := ⟨_, rfl⟩
                    replace H : (impl_SourceSide.l0 k2 y411 t406 (t406.length : Int) (wrap64 (x35_2 + 1))) = some r := by first | (rw [hy411]; with_reducible exact H) | (have H2_ := (Option.bind_some _ _).symm.trans H; rw [hy411]; with_reducible exact H2_) | (have H2_ := (Option.bind_some _ _).symm.trans H; with_reducible exact H2_) | with_reducible exact H | (rw [hy411]; exact H) | exact H
                    have Ny411 := Aside0.mk hy411
                    clear hy411
                    have H' := Aside0.mk H
                    clear H
                    have p409 : 0 ≤ (x35_2 : Int) := asm
                    have q409 : x35_2 < (t406.length : Int) := asm
                    obtain ⟨ad409, e409, hx409_0, hx409_1, hx409_2⟩ := at_T69 (Kd.R_reads' HO_33.out).2.2 x35_2 p409 q409
                    cases e409
                    replace p409 := eq_true p409
                    replace q409 := eq_true q409
                    go_wp2_with (first | ((with_reducible refine gate_dst (N := 9) rfl ?_); refine box_event ?hg (N := 9) ?hd (cs := #[.int .i64 0, .bool false, .bool false]) (t := 69) ?hr ?_; (case hd => rfl); (case hg => rfl); (case hr => first | (go_simp; done) | (go_simp; rfl)); intro gb410 hg w29 hbox hb; have BK410 := Aside0.mk (hbox); have GW410 := Aside0.mk ((bsz hg : w.heap.size ≤ gb410)); have GE410 := Aside0.mk ((bsz hg : w.heap.size ≤ gb410)); have NB400_410 := Aside0.mk ((nlt hg BK400.out : gb400 ≠ gb410)); have NB410_400 := Aside0.mk ((ngt hg BK400.out : gb410 ≠ gb400)); replace HO_7 := Aside0.mk (Kd.R_below (rk HO_7.out) hb); replace HO_33 := Aside0.mk (Kd.R_below (Kd.R_elderB (rk HO_33.out) gb410 (Nat.le_of_eq hg.symm)) hb); replace BK400 := Aside0.mk (bb BK400.out hb); replace HB := Aside0.mk (below_step bel hb); clear hb hbox hg; have hnb30 := NB410_400.out; have hnc30 := NB400_410.out; obtain ⟨hcz31_0, hcz31_1, hcz31_2, hfz31_0, hfz31_1, hfz31_2⟩ := cf3 BK410.out) | ((with_reducible refine gate_builtin (b := .append) (xs := #[.tmp 39, .tmp 42]) rfl ?_); at_builtin; refine Kd.R_append Kd.bool (w0 := w) w.heap.size rfl (.tmp 39) (.tmp 42) 38 4 (.bool false) 1 rfl Try.underlying38 info4 rfl (by decide) (by omega) u7 x7_2 ((rd_T69 t406 x35_2).f2) [.bool ((rd_T69 t406 x35_2).f2)] (fun _ => True) (fun _ => False) rfl (by first | (go_simp; done) | (go_simp; rfl)) ?aP (fun _ hk => hk.elim) ?aF ?aO ?aB ?aS ?aL ?_; (case aP => exact rfl); (case aB => exact bel); (case aF => exact (fun _ _ => trivial)); (case aO => exact (by (with_reducible repeat (first | apply Kd.R_alloc | apply Kd.R_drewN | apply Kd.R_drew)); exact Kd.R_mono (Kd.R_far (p := ⟨gb410, 2, none⟩) (Kd.R_far (p := ⟨gb410, 1, none⟩) (Kd.R_far (p := ⟨gb410, 0, none⟩) (Kd.R_types HO_7.out BK410.out (by decide)) (fun _ hk => hk.2) (.int .i64 ((rd_T69 t406 x35_2).f0))) (fun _ hk => hk.2) (.bool ((rd_T69 t406 x35_2).f1))) (fun _ hk => hk.2) (.bool ((rd_T69 t406 x35_2).f2))) (fun _ hk => trivial))); (case aS => exact (below_size bel)); (case aL => have := LMc28.out; omega); intro v412 w32 ho hb hg hat; rw [← Ny411.out] at ho; have n0_ := Aside0.mk (Kd.R_over' (by exact rk (Kd.R_mono (Kd.R_far (p := ⟨gb410, 2, none⟩) (Kd.R_far (p := ⟨gb410, 1, none⟩) (Kd.R_far (p := ⟨gb410, 0, none⟩) (Kd.R_mono HO_33.out (fun k_ hk => (⟨hk, hk.2⟩ : _ ∧ k_ ≠ gb410))) (fun _ hk => hk.2) (.int .i64 ((rd_T69 t406 x35_2).f0))) (fun _ hk => hk.2) (.bool ((rd_T69 t406 x35_2).f1))) (fun _ hk => hk.2) (.bool ((rd_T69 t406 x35_2).f2))) (fun _ h_ => h_.1))) (Kd.R_typed (by exact rk (Kd.R_mono (Kd.R_far (p := ⟨gb410, 2, none⟩) (Kd.R_far (p := ⟨gb410, 1, none⟩) (Kd.R_far (p := ⟨gb410, 0, none⟩) (Kd.R_types HO_7.out BK410.out (by decide)) (fun _ hk => hk.2) (.int .i64 ((rd_T69 t406 x35_2).f0))) (fun _ hk => hk.2) (.bool ((rd_T69 t406 x35_2).f1))) (fun _ hk => hk.2) (.bool ((rd_T69 t406 x35_2).f2))) (fun _ h_ => h_.1)))) (by decide) hg); have n1_ := Aside0.mk (blk_grown (g := gb400) (o := .cells #[.int .i64 a0_0, .slice A0_1 l0_1.length c0_1] 29 (0, 0)) (bk BK400.out) hg (Kd.R_ne HO_7.out BK400.out (by decide))); have n2_ := Aside0.mk (blk_grown (g := gb410) (o := .cells #[.int .i64 ((rd_T69 t406 x35_2).f0), .bool ((rd_T69 t406 x35_2).f1), .bool ((rd_T69 t406 x35_2).f2)] 69 (0, 0)) (by (with_reducible repeat (first | refine blk_drewN ?_ _ | refine blk_drew ?_ | refine blk_alloc ?_ _)); refine blk_put (cs := #[.int .i64 ((rd_T69 t406 x35_2).f0), .bool ((rd_T69 t406 x35_2).f1), .bool false]) ?_ 2 _ rfl; (with_reducible repeat (first | refine blk_drewN ?_ _ | refine blk_drew ?_ | refine blk_alloc ?_ _)); refine blk_put (cs := #[.int .i64 ((rd_T69 t406 x35_2).f0), .bool false, .bool false]) ?_ 1 _ rfl; (with_reducible repeat (first | refine blk_drewN ?_ _ | refine blk_drew ?_ | refine blk_alloc ?_ _)); refine blk_put (cs := #[.int .i64 0, .bool false, .bool false]) ?_ 0 _ rfl; (with_reducible repeat (first | refine blk_drewN ?_ _ | refine blk_drew ?_ | refine blk_alloc ?_ _)); exact BK410.out) hg (Kd.R_ne HO_7.out BK410.out (by decide))); have n3_ := Aside0.mk (hb); have n4_ := Aside0.mk (ho); clear HO_33; clear BK400; clear BK410; clear HB; clear HO_7; have HO_33 := n0_; have BK400 := n1_; have BK410 := n2_; have HB := n3_; have HO413 := n4_; clear n0_ n1_ n2_ n3_ n4_; clear ho hb hg hat))
                    go_roundg k2
                    case measure => have := HJ3.out; have := HK2.out; omega
                    case rel => exact ⟨(y411), (wrap64 (x35_2 + 1)), (es), H', ⟨by have := HJ3.out; have := HK2.out; omega⟩, ⟨rk HO413.out⟩, ⟨by (with_reducible repeat (first | apply Kd.R_alloc | apply Kd.R_drewN | apply Kd.R_drew)); exact Kd.R_mono HO_33.out (fun _ hk => trivial)⟩, ⟨bk BK400.out⟩, ⟨bel⟩⟩
                  · rw [if_neg c28] at H
                    exact absurd H (by simp)
                · rw [if_neg c27] at H
                  exact absurd H (by simp)
              · rw [if_neg c26] at H
                exact absurd H (by simp)
            · rw [if_neg c25] at H
              have c25b0 : decide (x35_2 < (t406.length : Int)) = false := decide_eq_false c25
              clear c25
              obtain rfl := Option.some.inj H
              go_wp2
              go_ret
              exact ⟨_, er, rk HO_7.out, bel⟩

end Go.Proofs.Yteaemblallbgpaa.X
