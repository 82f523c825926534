-- Written by a program of this session (wip/xp.py, over the kit's print) out of the translation: functions, and the walks that show them.
import Derived.Test.YteaemblallbgpaaX0
import Derived.Test.YteaemblallbgpaaX1
import Derived.Test.YteaemblallbgpaaX21
namespace Go.Proofs.Yteaemblallbgpaa.X
open Go.RowKit Go.Proofs.YteaemblallbgpaaW.PrintWords Go.Proofs.YteaemblallbgpaaW.PrintLast Go.Proofs.YteaemblallbgpaaW.PrintMore
attribute [local go_sem] max2_int min2_int max_two min_two max_three min_three max_four min_four   -- for this text's walks alone
set_option linter.unusedVariables false
set_option linter.unusedSimpArgs false

/-! ### spec_IsFlow: function 26 -/
mutual
def spec_IsFlow.j0 : Nat → Int → Int → List Int → Bool → Int → List (S60) → Option (Bool)
  | 0, _, _, _, _, _, _ => none
  | k + 1, x1, x2, x3, x26, x302000, x302001 => if x26 = true then (some false) else (if 0 ≤ x302000 then (if (x302000 : Int).toNat ≤ 35184372088832 then (spec_IsFlow.l0 k x1 x2 x3 (List.replicate (x302000 : Int).toNat 0) x302001 (x302001.length : Int) 0) else (none)) else (none))
def spec_IsFlow.l0 : Nat → Int → Int → List Int → List Int → List (S60) → Int → Int → Option (Bool)
  | 0, _, _, _, _, _, _, _ => none
  | k + 1, x1, x2, x3, x9, x31, x32, x33 => if x33 < x32 then (if 0 ≤ x33 then (if x33 < (x31.length : Int) then (if x33 < (x3.length : Int) then ((spec_l01In.f (rd x3 x33) 0 ((rd_T60 x31 x33).f2)).bind fun t309 => (if t309 = true then (if 0 ≤ ((rd_T60 x31 x33).f0) then (if ((rd_T60 x31 x33).f0) < (x9.length : Int) then ((some (x9.set (((rd_T60 x31 x33).f0) : Int).toNat (wrap64 ((rd x9 ((rd_T60 x31 x33).f0)) - (rd x3 x33))) : List Int)).bind fun y312 => (if 0 ≤ ((rd_T60 x31 x33).f1) then (if ((rd_T60 x31 x33).f1) < (x9.length : Int) then (spec_IsFlow.l0 k x1 x2 x3 (y312.set (((rd_T60 x31 x33).f1) : Int).toNat (wrap64 ((rd y312 ((rd_T60 x31 x33).f1)) + (rd x3 x33)))) x31 x32 (wrap64 (x33 + 1))) else (none)) else (none))) else (none)) else (none)) else (some false))) else (none)) else (none)) else (none)) else (spec_IsFlow.l1 k x1 x2 x9 (x9.length : Int) 0)
def spec_IsFlow.l1 : Nat → Int → Int → List Int → Int → Int → Option (Bool)
  | 0, _, _, _, _, _ => none
  | k + 1, x1, x2, x75, x76, x77 => if x77 < x76 then (if 0 ≤ x77 then (if x77 < (x75.length : Int) then (if x77 = x1 then (spec_IsFlow.l1 k x1 x2 x75 x76 (wrap64 (x77 + 1))) else (if x77 = x2 then (spec_IsFlow.l1 k x1 x2 x75 x76 (wrap64 (x77 + 1))) else (if (rd x75 x77) = 0 then (spec_IsFlow.l1 k x1 x2 x75 x76 (wrap64 (x77 + 1))) else (some false)))) else (none)) else (none)) else (some true)
end
def spec_IsFlow.f (k : Nat) (a0_0 : Int) (l0_1 : List (S60)) (a1 : Int) (a2 : Int) (l3 : List Int) : Option (Bool) := (spec_l17Ends.f k a0_0 l0_1 a1 a2).bind fun t302 => (if t302 = true then (spec_IsFlow.j0 k a1 a2 l3 ((l3.length : Int) != (l0_1.length : Int)) a0_0 l0_1) else (spec_IsFlow.j0 k a1 a2 l3 true a0_0 l0_1))
theorem spec_IsFlow.mono_l : ∀ k, (∀ y0 y1 y2 y3 y4 y5, LeO (spec_IsFlow.j0 k y0 y1 y2 y3 y4 y5) (spec_IsFlow.j0 (k + 1) y0 y1 y2 y3 y4 y5)) ∧ (∀ y0 y1 y2 y3 y4 y5 y6, LeO (spec_IsFlow.l0 k y0 y1 y2 y3 y4 y5 y6) (spec_IsFlow.l0 (k + 1) y0 y1 y2 y3 y4 y5 y6)) ∧ (∀ y0 y1 y2 y3 y4, LeO (spec_IsFlow.l1 k y0 y1 y2 y3 y4) (spec_IsFlow.l1 (k + 1) y0 y1 y2 y3 y4))
  | 0 => ⟨fun _ _ _ _ _ _ r h => by simp [spec_IsFlow.j0] at h, fun _ _ _ _ _ _ _ r h => by simp [spec_IsFlow.l0] at h, fun _ _ _ _ _ r h => by simp [spec_IsFlow.l1] at h⟩
  | k + 1 => by
    obtain ⟨ih0, ih1, ih2⟩ := spec_IsFlow.mono_l k
    refine ⟨?_, ?_, ?_⟩
    · intro y0 y1 y2 y3 y4 y5
      unfold spec_IsFlow.j0
      repeat' first
      | (with_reducible exact ih0 _ _ _ _ _ _)
      | (with_reducible exact ih1 _ _ _ _ _ _ _)
      | (with_reducible exact ih2 _ _ _ _ _)
      | (with_reducible exact spec_l17Ends.mono _ _ _ _ _)
      | (with_reducible exact LeO.refl _)
      | (with_reducible exact LeO.none _)
      | (with_reducible refine LeO.ite ?_ ?_)
      | (with_reducible refine LeO.bind ?_ (fun _ => ?_))
      | exact ih0 _ _ _ _ _ _
      | exact ih1 _ _ _ _ _ _ _
      | exact ih2 _ _ _ _ _
      | exact spec_l17Ends.mono _ _ _ _ _
      | exact LeO.none _
      | refine LeO.ite ?_ ?_
      | refine LeO.bind ?_ (fun _ => ?_)
    · intro y0 y1 y2 y3 y4 y5 y6
      unfold spec_IsFlow.l0
      repeat' first
      | (with_reducible exact ih0 _ _ _ _ _ _)
      | (with_reducible exact ih1 _ _ _ _ _ _ _)
      | (with_reducible exact ih2 _ _ _ _ _)
      | (with_reducible exact spec_l17Ends.mono _ _ _ _ _)
      | (with_reducible exact LeO.refl _)
      | (with_reducible exact LeO.none _)
      | (with_reducible refine LeO.ite ?_ ?_)
      | (with_reducible refine LeO.bind ?_ (fun _ => ?_))
      | exact ih0 _ _ _ _ _ _
      | exact ih1 _ _ _ _ _ _ _
      | exact ih2 _ _ _ _ _
      | exact spec_l17Ends.mono _ _ _ _ _
      | exact LeO.none _
      | refine LeO.ite ?_ ?_
      | refine LeO.bind ?_ (fun _ => ?_)
    · intro y0 y1 y2 y3 y4
      unfold spec_IsFlow.l1
      repeat' first
      | (with_reducible exact ih0 _ _ _ _ _ _)
      | (with_reducible exact ih1 _ _ _ _ _ _ _)
      | (with_reducible exact ih2 _ _ _ _ _)
      | (with_reducible exact spec_l17Ends.mono _ _ _ _ _)
      | (with_reducible exact LeO.refl _)
      | (with_reducible exact LeO.none _)
      | (with_reducible refine LeO.ite ?_ ?_)
      | (with_reducible refine LeO.bind ?_ (fun _ => ?_))
      | exact ih0 _ _ _ _ _ _
      | exact ih1 _ _ _ _ _ _ _
      | exact ih2 _ _ _ _ _
      | exact spec_l17Ends.mono _ _ _ _ _
      | exact LeO.none _
      | refine LeO.ite ?_ ?_
      | refine LeO.bind ?_ (fun _ => ?_)
theorem spec_IsFlow.mono : ∀ a0 a1 a2 a3 a4 k, LeO (spec_IsFlow.f k a0 a1 a2 a3 a4) (spec_IsFlow.f (k + 1) a0 a1 a2 a3 a4) := by
  intro a0 a1 a2 a3 a4 k
  obtain ⟨ih0, ih1, ih2⟩ := spec_IsFlow.mono_l k
  unfold spec_IsFlow.f
  repeat' first
      | (with_reducible exact ih0 _ _ _ _ _ _)
      | (with_reducible exact ih1 _ _ _ _ _ _ _)
      | (with_reducible exact ih2 _ _ _ _ _)
      | (with_reducible exact spec_l17Ends.mono _ _ _ _ _)
      | (with_reducible exact LeO.refl _)
      | (with_reducible exact LeO.none _)
      | (with_reducible refine LeO.ite ?_ ?_)
      | (with_reducible refine LeO.bind ?_ (fun _ => ?_))
      | exact ih0 _ _ _ _ _ _
      | exact ih1 _ _ _ _ _ _ _
      | exact ih2 _ _ _ _ _
      | exact spec_l17Ends.mono _ _ _ _ _
      | exact LeO.none _
      | refine LeO.ite ?_ ?_
      | refine LeO.bind ?_ (fun _ => ?_)
def spec_IsFlow.T7 : Bool × List (List Nat × List Nat) := (true, [([], []), ([], []), ([0, 1], [0, 1]), ([2], [2]), ([], []), ([4], [4]), ([3, 5], [3, 5]), ([6], [6])])
def spec_IsFlow.B7 : List Nat := [0, 0, 3, 7, 0, 16, 63, 127]
theorem spec_IsFlow.tab7 : rtab .any (opsOf Try.f26 7) = spec_IsFlow.T7 := by kernel_rfl
theorem spec_IsFlow.bits7 : waitsOk spec_IsFlow.T7.2 spec_IsFlow.B7 = true := by kernel_rfl
def spec_IsFlow.T9 : Bool × List (List Nat × List Nat) := (true, [([], []), ([], []), ([1], [1]), ([], []), ([], []), ([4], [4]), ([3, 5], [3, 5]), ([6], [6]), ([], []), ([], []), ([8, 9], [8, 9]), ([10], [10]), ([7, 11], [7, 11]), ([0, 2, 0, 1, 2, 3, 4, 5, 6, 7, 8, 9, 10, 11, 12], [0, 2]), ([13, 12, 0, 1, 2, 3, 4, 5, 6, 7, 8, 9, 10, 11, 12], [12, 13])])
def spec_IsFlow.B9 : List Nat := [0, 0, 2, 0, 0, 16, 56, 120, 0, 0, 768, 1792, 4088, 8191, 16383]
theorem spec_IsFlow.tab9 : rtab .any (opsOf Try.f26 9) = spec_IsFlow.T9 := by kernel_rfl
theorem spec_IsFlow.bits9 : waitsOk spec_IsFlow.T9.2 spec_IsFlow.B9 = true := by kernel_rfl
def spec_IsFlow.T10 : Bool × List (List Nat × List Nat) := (true, [([], []), ([], []), ([1], [1]), ([], []), ([], []), ([4], [4]), ([3, 5], [3, 5]), ([6], [6]), ([], []), ([], []), ([8, 9], [8, 9]), ([10], [10]), ([7, 11], [7, 11]), ([0, 2, 0, 1, 2, 3, 4, 5, 6, 7, 8, 9, 10, 11, 12], [0, 2]), ([13, 12, 0, 1, 2, 3, 4, 5, 6, 7, 8, 9, 10, 11, 12], [12, 13])])
def spec_IsFlow.B10 : List Nat := [0, 0, 2, 0, 0, 16, 56, 120, 0, 0, 768, 1792, 4088, 8191, 16383]
theorem spec_IsFlow.tab10 : rtab .any (opsOf Try.f26 10) = spec_IsFlow.T10 := by kernel_rfl
theorem spec_IsFlow.bits10 : waitsOk spec_IsFlow.T10.2 spec_IsFlow.B10 = true := by kernel_rfl
set_option maxHeartbeats 8000000 in
set_option maxRecDepth 100000 in
theorem spec_IsFlow.calls (k : Nat) (a0_0 : Int) (A0_1 : Option Addr) (c0_1 : Nat) (l0_1 : List (S60)) (a1 : Int) (a2 : Int) (A3 : Option Addr) (c3 : Nat) (l3 : List Int) (r : Bool) (w : World) (hr0_1 : Kd.C k60 w A0_1 l0_1.length l0_1) (hc0_1 : l0_1.length ≤ c0_1) (hr3 : Kd.C (Kd.int .i64) w A3 l3.length l3) (hc3 : l3.length ≤ c3) (h : spec_IsFlow.f k a0_0 l0_1 a1 a2 l3 = some r) :
    Calls Try.prog 26 #[.agg #[.int .i64 a0_0, .slice A0_1 l0_1.length c0_1], .int .i64 a1, .int .i64 a2, .slice A3 l3.length c3] w fun e w' => e = .returned (.bool r) ∧ Below w.heap.size w w' := by
  have hu29 := Try.underlying29
  have hu60 := Try.underlying60
  have HR0_1 := Aside0.mk hr0_1
  have HC0_1 := Aside0.mk hc0_1
  clear hr0_1 hc0_1
  have HR3 := Aside0.mk hr3
  have HC3 := Aside0.mk hc3
  clear hr3 hc3
  have HB := Aside0.mk (Below.refl w.heap.size w)
  have H : ((spec_l17Ends.f k a0_0 l0_1 a1 a2).bind fun t302 => (if t302 = true then (spec_IsFlow.j0 k a1 a2 l3 ((l3.length : Int) != (l0_1.length : Int)) a0_0 l0_1) else (spec_IsFlow.j0 k a1 a2 l3 true a0_0 l0_1))) = some r := h
  clear h
  have HC5 := Aside0.mk H
  clear H
  go_enter Try.func26, Try.ntmps26
  go_upto_region 1 with (first | ((with_reducible refine gate_dst (N := 4) rfl ?_); refine box_event ?hg (N := 4) ?hd (cs := #[.int .i64 a0_0, .slice A0_1 l0_1.length c0_1]) (t := 29) ?hr ?_; (case hd => rfl); (case hg => rfl); (case hr => first | (go_simp; done) | (go_simp; rfl)); intro gb301 hg w6 hbox hb; have BK301 := Aside0.mk (hbox); have GW301 := Aside0.mk ((bsz hg : w.heap.size ≤ gb301)); have GE301 := Aside0.mk ((bsz hg : w.heap.size ≤ gb301)); replace HB := Aside0.mk (below_step bel hb); clear hb hbox hg))
  (try simp only [Act.put, List.setIfInBounds_toArray, List.set_cons_zero, List.set_cons_succ])
  go_cut [26] (fun v26 wc => ∃ (kq : Nat) (x26_4 : Bool), v26 = .bool x26_4 ∧ Aside0 (spec_IsFlow.j0 kq a1 a2 l3 x26_4 a0_0 l0_1 = some r) ∧ Aside0 (kq ≤ k) ∧ Aside0 (wc.heap[gb301]? = some (.cells #[.int .i64 a0_0, (.slice A0_1 l0_1.length c0_1)] 29 (0, 0))) ∧ Aside0 (Below w.heap.size w wc))
  case first =>
    have H := HC5.out
    clear HC5
    replace H := Option.bind_eq_some_iff.mp H
    obtain ⟨t302, A70, H⟩ := H
    replace H : (if t302 = true then (spec_IsFlow.j0 k a1 a2 l3 ((l3.length : Int) != (l0_1.length : Int)) a0_0 l0_1) else (spec_IsFlow.j0 k a1 a2 l3 true a0_0 l0_1)) = some r := H
    have A7 := Aside0.mk A70
    clear A70
    by_cases c8 : t302 = true
    · subst c8
      have H1 : (spec_IsFlow.j0 k a1 a2 l3 ((l3.length : Int) != (l0_1.length : Int)) a0_0 l0_1) = some r := by rw [if_pos rfl] at H; exact H
      clear H
      have H := H1
      clear H1
      have H' := Aside0.mk H
      clear H
      obtain ⟨hcz9_0, hcz9_1, hfz9_0, hfz9_1⟩ := cf2 BK301.out
      go_wp2_with (first | ((with_reducible refine gate_callee (f := 43) rfl ?_); refine goesL_ (some 17) rfl rfl Try.func43 (by kernel_rfl) rfl #[.agg #[.int .i64 a0_0, .slice A0_1 l0_1.length c0_1], .int .i64 a1, .int .i64 a2] rfl ga ?_; (with_reducible refine (spec_l17Ends.calls k a0_0 _ _ l0_1 a1 a2 true _ ?side1 ?side2 A7.out).mono ?_); (case side1 => exact ck (Kd.C_below HR0_1.out HB.out)); (case side2 => exact HC0_1.out); rintro e w10 ⟨rfl, hb⟩; refine ⟨_, rfl, ?_⟩; replace BK301 := Aside0.mk (bb BK301.out hb); replace HB := Aside0.mk (below_step bel hb); (try clear hb); obtain ⟨hcz11_0, hcz11_1, hfz11_0, hfz11_1⟩ := cf2 BK301.out))
      go_meet
      case rel => exact ⟨_, (((l3.length : Int) != (l0_1.length : Int))), (es), H', ⟨by first | omega | exact Nat.le_refl _⟩, ⟨bk BK301.out⟩, ⟨bel⟩⟩
    · replace c8 := Bool.eq_false_iff.mpr c8
      subst c8
      have H1 : (spec_IsFlow.j0 k a1 a2 l3 true a0_0 l0_1) = some r := by rw [if_neg (show ¬ (false = true) by decide)] at H; exact H
      clear H
      have H := H1
      clear H1
      have H' := Aside0.mk H
      clear H
      obtain ⟨hcz12_0, hcz12_1, hfz12_0, hfz12_1⟩ := cf2 BK301.out
      go_wp2_with (first | ((with_reducible refine gate_callee (f := 43) rfl ?_); refine goesL_ (some 17) rfl rfl Try.func43 (by kernel_rfl) rfl #[.agg #[.int .i64 a0_0, .slice A0_1 l0_1.length c0_1], .int .i64 a1, .int .i64 a2] rfl ga ?_; (with_reducible refine (spec_l17Ends.calls k a0_0 _ _ l0_1 a1 a2 false _ ?side1 ?side2 A7.out).mono ?_); (case side1 => exact ck (Kd.C_below HR0_1.out HB.out)); (case side2 => exact HC0_1.out); rintro e w13 ⟨rfl, hb⟩; refine ⟨_, rfl, ?_⟩; replace BK301 := Aside0.mk (bb BK301.out hb); replace HB := Aside0.mk (below_step bel hb); (try clear hb)))
      go_meet
      case rel => exact ⟨_, (true), (es), H', ⟨by first | omega | exact Nat.le_refl _⟩, ⟨bk BK301.out⟩, ⟨bel⟩⟩
  case rest =>
    clear HC5
    try clear c2; try clear p2; try clear c3; try clear c4; try clear c8; try clear hcz11_0; try clear hcz11_1; try clear hcz12_0; try clear hcz12_1; try clear hcz9_0; try clear hcz9_1; try clear hfz11_0; try clear hfz11_1; try clear hfz12_0; try clear hfz12_1; try clear hfz9_0; try clear hfz9_1
    obtain ⟨kq, x26_4, rfl, HA, HJ4, BK301, HB⟩ := hcut
    cases kq with
    | zero => exact absurd HA.out (by simp [spec_IsFlow.j0])
    | succ kj4 =>
      have H := HA.out
      clear HA
      simp only [spec_IsFlow.j0] at H
      by_cases c14 : x26_4 = true
      · subst c14
        have H1 : (some false) = some r := by rw [if_pos rfl] at H; exact H
        clear H
        have H := H1
        clear H1
        obtain rfl := Option.some.inj H
        go_wp2
        go_ret
        exact ⟨er, bel⟩
      · replace c14 := Bool.eq_false_iff.mpr c14
        subst c14
        have H1 : (if 0 ≤ a0_0 then (if (a0_0 : Int).toNat ≤ 35184372088832 then (spec_IsFlow.l0 kj4 a1 a2 l3 (List.replicate (a0_0 : Int).toNat 0) l0_1 (l0_1.length : Int) 0) else (none)) else (none)) = some r := by rw [if_neg (show ¬ (false = true) by decide)] at H; exact H
        clear H
        have H := H1
        clear H1
        by_cases c15 : 0 ≤ a0_0
        · rw [if_pos c15] at H
          have c15b0 := eq_true c15
          have c15b1 : decide (0 ≤ a0_0) = true := decide_eq_true c15
          clear c15
          by_cases c16 : (a0_0 : Int).toNat ≤ 35184372088832
          · rw [if_pos c16] at H
            have c16b0 := eq_true c16
            have c16b1 : decide ((a0_0 : Int).toNat ≤ 35184372088832) = true := decide_eq_true c16
            clear c16
            obtain ⟨y303, hy303⟩ : ∃ y_ : List Int, y_ = (List.replicate (a0_0 : Int).toNat 0) := ⟨_, rfl⟩
            replace H : (spec_IsFlow.l0 kj4 a1 a2 l3 y303 l0_1 (l0_1.length : Int) 0) = some r := by first | (rw [hy303]; with_reducible exact H) | (have H2_ := (Option.bind_some _ _).symm.trans H; rw [hy303]; with_reducible exact H2_) | (have H2_ := (Option.bind_some _ _).symm.trans H; with_reducible exact H2_) | with_reducible exact H | (rw [hy303]; exact H) | exact H
            have Ny303 := Aside0.mk hy303
            clear hy303
            have H' := Aside0.mk H
            clear H
            obtain ⟨hcz17_0, hcz17_1, hfz17_0, hfz17_1⟩ := cf2 BK301.out
            go_wp2_with (first | ((with_reducible refine gate_dst (N := 29) rfl ?_); refine Kd.R_make (Kd.int .i64) _ 3 rfl (N := 29) rfl 33 _ _ rfl a0_0 rfl rfl Try.underlying33 (.int .i64 0) 8 info3 rfl (by decide) (by omega) 0 (ok := fun _ => True) (okp := fun _ => True) rfl (fun _ hk => hk) trivial (asm) (Nat.le_trans (Nat.mul_le_mul_right _ (asm : a0_0.toNat ≤ 35184372088832)) (by omega)) (Below.refl _ _) (Nat.le_refl _) ?_; intro v304 w18 ho19 hb hg_ hnew_; clear hg_ hnew_; (first | rw [← Ny303.out] at ho19 | (simp only [Int.reduceToNat] at ho19; rw [← Ny303.out] at ho19)); have HO305 := Aside0.mk (Kd.R_lower ho19 (below_size bel)); replace BK301 := Aside0.mk (bb BK301.out hb); replace HB := Aside0.mk (below_step bel hb); clear hb ho19; obtain ⟨hcz20_0, hcz20_1, hfz20_0, hfz20_1⟩ := cf2 BK301.out))
            go_loopg [33] kj4 (fun kq v33 w' => ∃ (x9_2 : List Int) (x33_2 : Int), v33 = .int .i64 x33_2 ∧ Aside0 (spec_IsFlow.l0 kq a1 a2 l3 x9_2 l0_1 (l0_1.length : Int) x33_2 = some r) ∧ Aside0 (kq ≤ kj4) ∧ Aside0 (Kd.R (Kd.int .i64) 3 w' w.heap.size (fun _ => True) v304 x9_2) ∧ Aside0 (w'.heap[gb301]? = some (.cells #[.int .i64 a0_0, (.slice A0_1 l0_1.length c0_1)] 29 (0, 0))) ∧ Aside0 (Below w.heap.size w w'))
            case atStart => exact ⟨(y303), (0), (es), H', ⟨Nat.le_refl _⟩, ⟨rk HO305.out⟩, ⟨bk BK301.out⟩, ⟨bel⟩⟩
            case round =>
              clear H'
              try clear c1; try clear c2; try clear p2; try clear c3; try clear c4; try clear c8; try clear c14; try clear c15; try clear c15b0; try clear c15b1; try clear c16; try clear c16b0; try clear c16b1; try clear hcz11_0; try clear hcz11_1; try clear hcz12_0; try clear hcz12_1; try clear hcz17_0; try clear hcz17_1; try clear hcz20_0; try clear hcz20_1; try clear hcz9_0; try clear hcz9_1; try clear hfz11_0; try clear hfz11_1; try clear hfz12_0; try clear hfz12_1; try clear hfz17_0; try clear hfz17_1; try clear hfz20_0; try clear hfz20_1; try clear hfz9_0; try clear hfz9_1; try clear p2
              obtain ⟨x9_2, x33_2, rfl, HA, HK2, HO_9, BK301, HB⟩ := hrel
              cases gk with
              | zero => exact absurd HA.out (by simp [spec_IsFlow.l0])
              | succ k2 =>
                have H := HA.out
                clear HA
                simp only [spec_IsFlow.l0] at H
                by_cases c21 : x33_2 < (l0_1.length : Int)
                · rw [if_pos c21] at H
                  have c21b0 : decide (x33_2 < (l0_1.length : Int)) = true := decide_eq_true c21
                  clear c21
                  by_cases c22 : 0 ≤ x33_2
                  · rw [if_pos c22] at H
                    have c22b0 : decide (0 ≤ x33_2) = true := decide_eq_true c22
                    clear c22
                    by_cases c23 : x33_2 < (l0_1.length : Int)
                    · rw [if_pos c23] at H
                      have c23b0 : decide (x33_2 < (l0_1.length : Int)) = true := decide_eq_true c23
                      clear c23
                      by_cases c24 : x33_2 < (l3.length : Int)
                      · rw [if_pos c24] at H
                        have c24b0 : decide (x33_2 < (l3.length : Int)) = true := decide_eq_true c24
                        clear c24
                        replace H := Option.bind_eq_some_iff.mp H
                        obtain ⟨t309, A250, H⟩ := H
                        replace H : (if t309 = true then (if 0 ≤ ((rd_T60 l0_1 x33_2).f0) then (if ((rd_T60 l0_1 x33_2).f0) < (x9_2.length : Int) then ((some (x9_2.set (((rd_T60 l0_1 x33_2).f0) : Int).toNat (wrap64 ((rd x9_2 ((rd_T60 l0_1 x33_2).f0)) - (rd l3 x33_2))) : List Int)).bind fun y312 => (if 0 ≤ ((rd_T60 l0_1 x33_2).f1) then (if ((rd_T60 l0_1 x33_2).f1) < (x9_2.length : Int) then (spec_IsFlow.l0 k2 a1 a2 l3 (y312.set (((rd_T60 l0_1 x33_2).f1) : Int).toNat (wrap64 ((rd y312 ((rd_T60 l0_1 x33_2).f1)) + (rd l3 x33_2)))) l0_1 (l0_1.length : Int) (wrap64 (x33_2 + 1))) else (none)) else (none))) else (none)) else (none)) else (some false)) = some r := H
                        have A25 := Aside0.mk A250
                        clear A250
                        by_cases c26 : t309 = true
                        · subst c26
                          have H1 : (if 0 ≤ ((rd_T60 l0_1 x33_2).f0) then (if ((rd_T60 l0_1 x33_2).f0) < (x9_2.length : Int) then ((some (x9_2.set (((rd_T60 l0_1 x33_2).f0) : Int).toNat (wrap64 ((rd x9_2 ((rd_T60 l0_1 x33_2).f0)) - (rd l3 x33_2))) : List Int)).bind fun y312 => (if 0 ≤ ((rd_T60 l0_1 x33_2).f1) then (if ((rd_T60 l0_1 x33_2).f1) < (x9_2.length : Int) then (spec_IsFlow.l0 k2 a1 a2 l3 (y312.set (((rd_T60 l0_1 x33_2).f1) : Int).toNat (wrap64 ((rd y312 ((rd_T60 l0_1 x33_2).f1)) + (rd l3 x33_2)))) l0_1 (l0_1.length : Int) (wrap64 (x33_2 + 1))) else (none)) else (none))) else (none)) else (none)) = some r := by rw [if_pos rfl] at H; exact H
                          clear H
                          have H := H1
                          clear H1
                          by_cases c27 : 0 ≤ ((rd_T60 l0_1 x33_2).f0)
                          · rw [if_pos c27] at H
                            have c27b0 : decide (0 ≤ ((rd_T60 l0_1 x33_2).f0)) = true := decide_eq_true c27
                            clear c27
                            by_cases c28 : ((rd_T60 l0_1 x33_2).f0) < (x9_2.length : Int)
                            · rw [if_pos c28] at H
                              have c28b0 : decide (((rd_T60 l0_1 x33_2).f0) < (x9_2.length : Int)) = true := decide_eq_true c28
                              clear c28
                              obtain ⟨y312, hy312⟩ : ∃ y_ : List Int, y_ = (x9_2.set (((rd_T60 l0_1 x33_2).f0) : Int).toNat (wrap64 ((rd x9_2 ((rd_T60 l0_1 x33_2).f0)) - (rd l3 x33_2)))) := ⟨_, rfl⟩
                              replace H : (if 0 ≤ ((rd_T60 l0_1 x33_2).f1) then (if ((rd_T60 l0_1 x33_2).f1) < (x9_2.length : Int) then (spec_IsFlow.l0 k2 a1 a2 l3 (y312.set (((rd_T60 l0_1 x33_2).f1) : Int).toNat (wrap64 ((rd y312 ((rd_T60 l0_1 x33_2).f1)) + (rd l3 x33_2)))) l0_1 (l0_1.length : Int) (wrap64 (x33_2 + 1))) else (none)) else (none)) = some r := by first | (rw [hy312]; with_reducible exact H) | (have H2_ := (Option.bind_some _ _).symm.trans H; rw [hy312]; with_reducible exact H2_) | (have H2_ := (Option.bind_some _ _).symm.trans H; with_reducible exact H2_) | with_reducible exact H | (rw [hy312]; exact H) | exact H
                              have Ny312 := Aside0.mk hy312
                              clear hy312
                              by_cases c30 : 0 ≤ ((rd_T60 l0_1 x33_2).f1)
                              · rw [if_pos c30] at H
                                have c30b0 : decide (0 ≤ ((rd_T60 l0_1 x33_2).f1)) = true := decide_eq_true c30
                                clear c30
                                by_cases c31 : ((rd_T60 l0_1 x33_2).f1) < (x9_2.length : Int)
                                · rw [if_pos c31] at H
                                  have c31b0 : decide (((rd_T60 l0_1 x33_2).f1) < (x9_2.length : Int)) = true := decide_eq_true c31
                                  clear c31
                                  obtain ⟨y315, hy315⟩ : ∃ y_ : List Int, y_ = (y312.set (((rd_T60 l0_1 x33_2).f1) : Int).toNat (wrap64 ((rd y312 ((rd_T60 l0_1 x33_2).f1)) + (rd l3 x33_2)))) := ⟨_, rfl⟩
                                  replace H : (spec_IsFlow.l0 k2 a1 a2 l3 y315 l0_1 (l0_1.length : Int) (wrap64 (x33_2 + 1))) = some r := by first | (rw [hy315]; with_reducible exact H) | (have H2_ := (Option.bind_some _ _).symm.trans H; rw [hy315]; with_reducible exact H2_) | (have H2_ := (Option.bind_some _ _).symm.trans H; with_reducible exact H2_) | with_reducible exact H | (rw [hy315]; exact H) | exact H
                                  have Ny315 := Aside0.mk hy315
                                  clear hy315
                                  have H' := Aside0.mk H
                                  clear H
                                  have p306 : 0 ≤ (x33_2 : Int) := asm
                                  have q306 : x33_2 < (l0_1.length : Int) := asm
                                  obtain ⟨ad306, e306, hx306_0, hx306_1, hx306_2⟩ := at_T60 HR0_1.out x33_2 p306 q306
                                  cases e306
                                  replace hx306_0 := hcl HB.out hx306_0
                                  replace hx306_1 := hcl HB.out hx306_1
                                  replace hx306_2 := hcl HB.out hx306_2
                                  replace p306 := eq_true p306
                                  replace q306 := eq_true q306
                                  try go_wp2_with (first | ((with_reducible refine gate_dst (N := 11) rfl ?_); refine box_event ?hg (N := 11) ?hd (cs := #[.int .i64 0, .int .i64 0, .int .i64 0]) (t := 60) ?hr ?_; (case hd => rfl); (case hg => rfl); (case hr => first | (go_simp; done) | (go_simp; rfl)); intro gb307 hg w33 hbox hb; have BK307 := Aside0.mk (hbox); have GW307 := Aside0.mk ((bsz hg : w.heap.size ≤ gb307)); have GE307 := Aside0.mk ((bsz hg : w.heap.size ≤ gb307)); have NB301_307 := Aside0.mk ((nlt hg BK301.out : gb301 ≠ gb307)); have NB307_301 := Aside0.mk ((ngt hg BK301.out : gb307 ≠ gb301)); replace HO_9 := Aside0.mk (Kd.R_below (rk HO_9.out) hb); replace BK301 := Aside0.mk (bb BK301.out hb); replace HB := Aside0.mk (below_step bel hb); clear hb hbox hg; have hnb34 := NB307_301.out; have hnc34 := NB301_307.out; obtain ⟨hcz35_0, hcz35_1, hcz35_2, hfz35_0, hfz35_1, hfz35_2⟩ := cf3 BK307.out))
                                  have n0_ : Aside0 (Kd.R (Kd.int .i64) 3 (((w33.setCell ⟨gb307, 0, none⟩ (.int .i64 ((rd_T60 l0_1 x33_2).f0))).setCell ⟨gb307, 1, none⟩ (.int .i64 ((rd_T60 l0_1 x33_2).f1))).setCell ⟨gb307, 2, none⟩ (.int .i64 ((rd_T60 l0_1 x33_2).f2))) w.heap.size (fun _ => True) v304 x9_2) := ⟨by (with_reducible repeat (first | apply Kd.R_alloc | apply Kd.R_drewN | apply Kd.R_drew)); exact Kd.R_mono (Kd.R_far (p := ⟨gb307, 2, none⟩) (Kd.R_far (p := ⟨gb307, 1, none⟩) (Kd.R_far (p := ⟨gb307, 0, none⟩) (Kd.R_types HO_9.out BK307.out (by decide)) (fun _ hk => hk.2) (.int .i64 ((rd_T60 l0_1 x33_2).f0))) (fun _ hk => hk.2) (.int .i64 ((rd_T60 l0_1 x33_2).f1))) (fun _ hk => hk.2) (.int .i64 ((rd_T60 l0_1 x33_2).f2))) (fun _ hk => trivial)⟩
                                  have n1_ : Aside0 ((((w33.setCell ⟨gb307, 0, none⟩ (.int .i64 ((rd_T60 l0_1 x33_2).f0))).setCell ⟨gb307, 1, none⟩ (.int .i64 ((rd_T60 l0_1 x33_2).f1))).setCell ⟨gb307, 2, none⟩ (.int .i64 ((rd_T60 l0_1 x33_2).f2))).heap[gb301]? = some (.cells #[.int .i64 a0_0, .slice (some ad306) l0_1.length c0_1] 29 (0, 0))) := ⟨bk BK301.out⟩
                                  have n2_ : Aside0 ((((w33.setCell ⟨gb307, 0, none⟩ (.int .i64 ((rd_T60 l0_1 x33_2).f0))).setCell ⟨gb307, 1, none⟩ (.int .i64 ((rd_T60 l0_1 x33_2).f1))).setCell ⟨gb307, 2, none⟩ (.int .i64 ((rd_T60 l0_1 x33_2).f2))).heap[gb307]? = some (.cells #[.int .i64 ((rd_T60 l0_1 x33_2).f0), .int .i64 ((rd_T60 l0_1 x33_2).f1), .int .i64 ((rd_T60 l0_1 x33_2).f2)] 60 (0, 0))) := ⟨by (with_reducible repeat (first | refine blk_drewN ?_ _ | refine blk_drew ?_ | refine blk_alloc ?_ _)); refine blk_put (cs := #[.int .i64 ((rd_T60 l0_1 x33_2).f0), .int .i64 ((rd_T60 l0_1 x33_2).f1), .int .i64 0]) ?_ 2 _ rfl; (with_reducible repeat (first | refine blk_drewN ?_ _ | refine blk_drew ?_ | refine blk_alloc ?_ _)); refine blk_put (cs := #[.int .i64 ((rd_T60 l0_1 x33_2).f0), .int .i64 0, .int .i64 0]) ?_ 1 _ rfl; (with_reducible repeat (first | refine blk_drewN ?_ _ | refine blk_drew ?_ | refine blk_alloc ?_ _)); refine blk_put (cs := #[.int .i64 0, .int .i64 0, .int .i64 0]) ?_ 0 _ rfl; (with_reducible repeat (first | refine blk_drewN ?_ _ | refine blk_drew ?_ | refine blk_alloc ?_ _)); exact BK307.out⟩
                                  have n3_ : Aside0 (Below w.heap.size w (((w33.setCell ⟨gb307, 0, none⟩ (.int .i64 ((rd_T60 l0_1 x33_2).f0))).setCell ⟨gb307, 1, none⟩ (.int .i64 ((rd_T60 l0_1 x33_2).f1))).setCell ⟨gb307, 2, none⟩ (.int .i64 ((rd_T60 l0_1 x33_2).f2)))) := ⟨bel⟩
                                  (try clear HO_9)
                                  (try clear BK301)
                                  (try clear BK307)
                                  (try clear HB)
                                  generalize (((w33.setCell ⟨gb307, 0, none⟩ (.int .i64 ((rd_T60 l0_1 x33_2).f0))).setCell ⟨gb307, 1, none⟩ (.int .i64 ((rd_T60 l0_1 x33_2).f1))).setCell ⟨gb307, 2, none⟩ (.int .i64 ((rd_T60 l0_1 x33_2).f2))) = w36 at n0_ n1_ n2_ n3_ ⊢
                                  have HO_9 := n0_
                                  have BK301 := n1_
                                  have BK307 := n2_
                                  have HB := n3_
                                  clear n0_ n1_ n2_ n3_
                                  replace HO_9 := Aside0.mk (Kd.R_drew HO_9.out)
                                  replace BK301 := Aside0.mk (blk_drew BK301.out)
                                  replace BK307 := Aside0.mk (blk_drew BK307.out)
                                  replace HB := Aside0.mk (below_drew1 HB.out)
                                  have p308 : 0 ≤ (x33_2 : Int) := asm
                                  have q308 : x33_2 < (l3.length : Int) := asm
                                  obtain ⟨ad308, e308, hx308_0⟩ := Kd.at_int HR3.out x33_2 p308 q308
                                  have hw308_0 := hx308_0
                                  cases e308
                                  replace hx308_0 := hcl HB.out hx308_0
                                  replace p308 := eq_true p308
                                  replace q308 := eq_true q308
                                  refine start_ (n := 8) (S := fun w' => w'.cell? ⟨gb307, 0, none⟩ = some (.int .i64 ((rd_T60 l0_1 x33_2).f0)) ∧ w'.cell? ⟨gb307, 1, none⟩ = some (.int .i64 ((rd_T60 l0_1 x33_2).f1)) ∧ w'.cell? ⟨gb307, 2, none⟩ = some (.int .i64 ((rd_T60 l0_1 x33_2).f2)) ∧ w'.cell? (ad308.add (x33_2).toNat) = some (.int .i64 (rd l3 x33_2))) (ds := []) #[false, false, false, false, false, false, false, false] (by kernel_rfl) rfl rfl ⟨(blk_cell BK307.out 0).trans rfl, (blk_cell BK307.out 1).trans rfl, (blk_cell BK307.out 2).trans rfl, ((HB.out.cell (World.block_lt_of_cell? w _ hw308_0)).trans hw308_0)⟩ (fun hHeld => ?_); refine with_tabW spec_IsFlow.tab7 spec_IsFlow.bits7 (fun HT_ HW_ => ?_)
                                  generalize w36.drew = w37 at HO_9 BK301 BK307 HB hx308_0 hHeld ⊢
                                  refine pure_ (i := 0) (N := some 38) (v := ?_) (a' := ?_) #[true, false, false, false, false, false, false, false] rfl rfl (any_of HT_.out (by kernel_rfl)) (fun _ _ _ h => h) (Or.inl ⟨by rfl, ?_⟩) ?_ ?_
                                  rotate_left
                                  · intro w'
                                    go_simp
                                    with_reducible rfl
                                  rotate_left
                                  · simp only [Act.put, List.setIfInBounds_toArray, List.set_cons_zero, List.set_cons_succ, i64_w, i32_w]
                                    rfl
                                  refine pure_ (i := 1) (N := some 39) (v := ?_) (a' := ?_) #[true, true, false, false, false, false, false, false] rfl rfl (any_of HT_.out (by kernel_rfl)) (fun _ _ _ h => h) (Or.inl ⟨by rfl, ?_⟩) ?_ ?_
                                  rotate_left
                                  · intro w'
                                    go_simp
                                    with_reducible rfl
                                  rotate_left
                                  · simp only [Act.put, List.setIfInBounds_toArray, List.set_cons_zero, List.set_cons_succ, i64_w, i32_w]
                                    rfl
                                  refine pure_ (i := 2) (N := some 40) (v := ?_) (a' := ?_) #[true, true, true, false, false, false, false, false] rfl rfl (any_of HT_.out (by kernel_rfl)) (fun _ _ _ h => h) (Or.inl ⟨by rfl, ?_⟩) ?_ ?_
                                  rotate_left
                                  · intro w'
                                    go_simp
                                    with_reducible rfl
                                  rotate_left
                                  · simp only [Act.put, List.setIfInBounds_toArray, List.set_cons_zero, List.set_cons_succ, i64_w, i32_w]
                                    rfl
                                  refine pure_ (i := 4) (N := some 42) (v := ?_) (a' := ?_) #[true, true, true, false, true, false, false, false] rfl rfl (any_of HT_.out (by kernel_rfl)) (fun _ _ _ h => h) (Or.inl ⟨by rfl, ?_⟩) ?_ ?_
                                  rotate_left
                                  · intro w'
                                    go_simp
                                    with_reducible rfl
                                  rotate_left
                                  · simp only [Act.put, List.setIfInBounds_toArray, List.set_cons_zero, List.set_cons_succ, i64_w, i32_w]
                                    rfl
                                  refine take_ (i := 3) (N := some 41) (v := ?_) (a' := ?_) #[true, true, true, true, true, false, false, false] rfl rfl (take_ofW HT_.out HW_.out (by kernel_rfl)) (fun _ _ _ h => h) (Or.inl ⟨by rfl, ?_⟩) hHeld ?_ ?_
                                  rotate_left
                                  · rintro w' ⟨s0, s1, s2, s3⟩
                                    go_simp
                                    with_reducible rfl
                                  rotate_left
                                  · simp only [Act.put, List.setIfInBounds_toArray, List.set_cons_zero, List.set_cons_succ, i64_w, i32_w]
                                    rfl
                                  refine take_ (i := 5) (N := some 43) (v := ?_) (a' := ?_) #[true, true, true, true, true, true, false, false] rfl rfl (take_ofW HT_.out HW_.out (by kernel_rfl)) (fun _ _ _ h => h) (Or.inl ⟨by rfl, ?_⟩) hHeld ?_ ?_
                                  rotate_left
                                  · rintro w' ⟨s0, s1, s2, s3⟩
                                    go_simp
                                    with_reducible rfl
                                  rotate_left
                                  · simp only [Act.put, List.setIfInBounds_toArray, List.set_cons_zero, List.set_cons_succ, i64_w, i32_w]
                                    rfl
                                  refine one_ (i := 6) (N := some 44) #[true, true, true, true, true, true, true, false] rfl rfl (one_of HT_.out (by kernel_rfl)) (by decide) (fun K hK => ?_)
                                  refine goes_ Try.func39 (by kernel_rfl) rfl #[.int .i64 (rd l3 x33_2), .int .i64 0, .int .i64 ((rd_T60 l0_1 x33_2).f2)] (by rfl) rfl rfl ga ?_
                                  with_reducible refine (spec_l01In.calls (rd l3 x33_2) 0 ((rd_T60 l0_1 x33_2).f2) true _ A25.out).mono ?_
                                  rintro e w' ⟨rfl, ⟨nd, rfl⟩⟩
                                  refine ⟨_, rfl, ?_⟩
                                  refine hK.out _ _ ⟨(blk_cell BK307.out 0).trans rfl, (blk_cell BK307.out 1).trans rfl, (blk_cell BK307.out 2).trans rfl, ((HB.out.cell (World.block_lt_of_cell? w _ hw308_0)).trans hw308_0)⟩ (fun hHeld => ?_)
                                  clear hK K
                                  refine norm_ (a' := ?_) ?_ ?_
                                  rotate_left
                                  · show Act.put _ (some 44) _ = _
                                    simp only [Act.put, List.setIfInBounds_toArray, List.set_cons_zero, List.set_cons_succ, i64_w, i32_w]
                                    rfl
                                  refine pure_ (i := 7) (N := some 45) (v := ?_) (a' := ?_) #[true, true, true, true, true, true, true, true] rfl rfl (any_of HT_.out (by kernel_rfl)) (fun _ _ _ h => h) (Or.inl ⟨by rfl, ?_⟩) ?_ ?_
                                  rotate_left
                                  · intro w'
                                    go_simp
                                    with_reducible rfl
                                  rotate_left
                                  · simp only [Act.put, List.setIfInBounds_toArray, List.set_cons_zero, List.set_cons_succ, i64_w, i32_w]
                                    rfl
                                  refine done_ (done_of HT_.out (by kernel_rfl)) ?_
                                  try go_wp2
                                  (try (rw [drewN_self w37]; generalize hq_ : World.drewN w37 _ = w37; have n0_ : Aside0 (Kd.R (Kd.int .i64) 3 w37 w.heap.size (fun _ => True) v304 x9_2) := ⟨by rw [← hq_]; exact (rk HO_9.out)⟩; have n1_ : Aside0 (w37.heap[gb301]? = some (.cells #[.int .i64 a0_0, .slice (some ad306) l0_1.length c0_1] 29 (0, 0))) := ⟨by rw [← hq_]; exact (bk BK301.out)⟩; have n2_ : Aside0 (w37.heap[gb307]? = some (.cells #[.int .i64 ((rd_T60 l0_1 x33_2).f0), .int .i64 ((rd_T60 l0_1 x33_2).f1), .int .i64 ((rd_T60 l0_1 x33_2).f2)] 60 (0, 0))) := ⟨by rw [← hq_]; exact (bk BK307.out)⟩; have n3_ : Aside0 (Below w.heap.size w w37) := ⟨by rw [← hq_]; exact bel⟩; clear HO_9 BK301 BK307 HB hq_; have HO_9 := n0_; have BK301 := n1_; have BK307 := n2_; have HB := n3_; clear n0_ n1_ n2_ n3_))
                                  replace HO_9 := Aside0.mk (Kd.R_drew HO_9.out)
                                  replace BK301 := Aside0.mk (blk_drew BK301.out)
                                  replace BK307 := Aside0.mk (blk_drew BK307.out)
                                  replace HB := Aside0.mk (below_drew1 HB.out)
                                  obtain ⟨Ao39, co39, eo39⟩ := Kd.R_slice HO_9.out
                                  (first | subst eo39 | (injection eo39 with f1_ f2_ f3_; have f4_ := f1_.symm; have f5_ := f3_.symm; clear f1_ f2_ f3_; subst f4_; subst f5_))
                                  have p310 : 0 ≤ (((rd_T60 l0_1 x33_2).f0) : Int) := asm
                                  have q310 : ((rd_T60 l0_1 x33_2).f0) < (x9_2.length : Int) := asm
                                  obtain ⟨ad310, e310, hx310_0⟩ := Kd.at_int (Kd.R_reads' HO_9.out).2.2 ((rd_T60 l0_1 x33_2).f0) p310 q310
                                  cases e310
                                  replace p310 := eq_true p310
                                  replace q310 := eq_true q310
                                  have p311 : 0 ≤ (x33_2 : Int) := asm
                                  have q311 : x33_2 < (l3.length : Int) := asm
                                  obtain ⟨ad311, e311, hx311_0⟩ := Kd.at_int HR3.out x33_2 p311 q311
                                  have hw311_0 := hx311_0
                                  obtain rfl : ad308 = ad311 := (by injection e311)
                                  replace hx311_0 := hcl HB.out hx311_0
                                  replace p311 := eq_true p311
                                  replace q311 := eq_true q311
                                  have p29 : 0 ≤ (((rd_T60 l0_1 x33_2).f0) : Int) := asm
                                  have q29 : (((rd_T60 l0_1 x33_2).f0) : Int) < ((x9_2.length : Int) : Int) := asm
                                  obtain ⟨go29, co29, eo29, gb29, gl29, cl29, HG29⟩ := Kd.R_form HO_9.out (by omega)
                                  (first | cases eo29 | (injection eo29 with ea_ en_ ec_; (first | subst ea_ | (injection ea_ with ea_; subst ea_)); subst ec_; clear en_))
                                  have GB29 := Aside0.mk gb29
                                  have GG29 := Aside0.mk HG29
                                  clear gb29 gl29 HG29
                                  (first | simp only [add_plain] at hx310_0 | skip)
                                  obtain ⟨hx29_0, hf29_0⟩ := Kd.R_celln 0 HO_9.out (((rd_T60 l0_1 x33_2).f0) : Int) p29 q29
                                  replace p29 := eq_true p29
                                  replace q29 := eq_true q29
                                  have HP40 := Kd.R_putn HO_9.out (((rd_T60 l0_1 x33_2).f0) : Int) (wrap64 ((rd x9_2 ((rd_T60 l0_1 x33_2).f0)) - (rd l3 x33_2)))
                                  rw [← Ny312.out] at HP40
                                  have HQ40 := Aside0.mk HP40
                                  clear HP40
                                  refine start_ (n := 15) (S := fun w' => w'.cell? ⟨gb307, 0, none⟩ = some (.int .i64 ((rd_T60 l0_1 x33_2).f0)) ∧ w'.cell? ⟨gb307, 1, none⟩ = some (.int .i64 ((rd_T60 l0_1 x33_2).f1)) ∧ w'.cell? ⟨gb307, 2, none⟩ = some (.int .i64 ((rd_T60 l0_1 x33_2).f2)) ∧ w'.cell? ⟨go29, (((rd_T60 l0_1 x33_2).f0)).toNat, none⟩ = some (.int .i64 (rd x9_2 ((rd_T60 l0_1 x33_2).f0))) ∧ w'.cell? (ad308.add (x33_2).toNat) = some (.int .i64 (rd l3 x33_2))) (ds := [14]) #[false, false, false, false, false, false, false, false, false, false, false, false, false, false, false] (by kernel_rfl) rfl rfl ⟨(blk_cell BK307.out 0).trans rfl, (blk_cell BK307.out 1).trans rfl, (blk_cell BK307.out 2).trans rfl, hx310_0, ((HB.out.cell (World.block_lt_of_cell? w _ hw311_0)).trans hw311_0)⟩ (fun hHeld => ?_); refine with_tabW spec_IsFlow.tab9 spec_IsFlow.bits9 (fun HT_ HW_ => ?_)
                                  generalize w37.drew = w38 at HO_9 BK301 BK307 HB GG29 HQ40 hf29_0 hx29_0 hx310_0 hx311_0 hHeld ⊢
                                  refine pure_ (i := 0) (N := some 46) (v := ?_) (a' := ?_) #[true, false, false, false, false, false, false, false, false, false, false, false, false, false, false] rfl rfl (any_of HT_.out (by kernel_rfl)) (fun _ _ _ h => h) (Or.inl ⟨by rfl, ?_⟩) ?_ ?_
                                  rotate_left
                                  · intro w'
                                    go_simp
                                    with_reducible rfl
                                  rotate_left
                                  · simp only [Act.put, List.setIfInBounds_toArray, List.set_cons_zero, List.set_cons_succ, i64_w, i32_w]
                                    rfl
                                  refine pure_ (i := 1) (N := some 47) (v := ?_) (a' := ?_) #[true, true, false, false, false, false, false, false, false, false, false, false, false, false, false] rfl rfl (any_of HT_.out (by kernel_rfl)) (fun _ _ _ h => h) (Or.inl ⟨by rfl, ?_⟩) ?_ ?_
                                  rotate_left
                                  · intro w'
                                    go_simp
                                    with_reducible rfl
                                  rotate_left
                                  · simp only [Act.put, List.setIfInBounds_toArray, List.set_cons_zero, List.set_cons_succ, i64_w, i32_w]
                                    rfl
                                  refine pure_ (i := 3) (N := some 49) (v := ?_) (a' := ?_) #[true, true, false, true, false, false, false, false, false, false, false, false, false, false, false] rfl rfl (any_of HT_.out (by kernel_rfl)) (fun _ _ _ h => h) (Or.inl ⟨by rfl, ?_⟩) ?_ ?_
                                  rotate_left
                                  · intro w'
                                    go_simp
                                    with_reducible rfl
                                  rotate_left
                                  · simp only [Act.put, List.setIfInBounds_toArray, List.set_cons_zero, List.set_cons_succ, i64_w, i32_w]
                                    rfl
                                  refine pure_ (i := 4) (N := some 50) (v := ?_) (a' := ?_) #[true, true, false, true, true, false, false, false, false, false, false, false, false, false, false] rfl rfl (any_of HT_.out (by kernel_rfl)) (fun _ _ _ h => h) (Or.inl ⟨by rfl, ?_⟩) ?_ ?_
                                  rotate_left
                                  · intro w'
                                    go_simp
                                    with_reducible rfl
                                  rotate_left
                                  · simp only [Act.put, List.setIfInBounds_toArray, List.set_cons_zero, List.set_cons_succ, i64_w, i32_w]
                                    rfl
                                  refine pure_ (i := 8) (N := some 54) (v := ?_) (a' := ?_) #[true, true, false, true, true, false, false, false, true, false, false, false, false, false, false] rfl rfl (any_of HT_.out (by kernel_rfl)) (fun _ _ _ h => h) (Or.inl ⟨by rfl, ?_⟩) ?_ ?_
                                  rotate_left
                                  · intro w'
                                    go_simp
                                    with_reducible rfl
                                  rotate_left
                                  · simp only [Act.put, List.setIfInBounds_toArray, List.set_cons_zero, List.set_cons_succ, i64_w, i32_w]
                                    rfl
                                  refine pure_ (i := 9) (N := some 55) (v := ?_) (a' := ?_) #[true, true, false, true, true, false, false, false, true, true, false, false, false, false, false] rfl rfl (any_of HT_.out (by kernel_rfl)) (fun _ _ _ h => h) (Or.inl ⟨by rfl, ?_⟩) ?_ ?_
                                  rotate_left
                                  · intro w'
                                    go_simp
                                    with_reducible rfl
                                  rotate_left
                                  · simp only [Act.put, List.setIfInBounds_toArray, List.set_cons_zero, List.set_cons_succ, i64_w, i32_w]
                                    rfl
                                  refine pure_ (i := 10) (N := some 56) (v := ?_) (a' := ?_) #[true, true, false, true, true, false, false, false, true, true, true, false, false, false, false] rfl rfl (any_of HT_.out (by kernel_rfl)) (fun _ _ _ h => h) (Or.inl ⟨by rfl, ?_⟩) ?_ ?_
                                  rotate_left
                                  · intro w'
                                    go_simp
                                    with_reducible rfl
                                  rotate_left
                                  · simp only [Act.put, List.setIfInBounds_toArray, List.set_cons_zero, List.set_cons_succ, i64_w, i32_w]
                                    rfl
                                  refine take_ (i := 2) (N := some 48) (v := ?_) (a' := ?_) #[true, true, true, true, true, false, false, false, true, true, true, false, false, false, false] rfl rfl (take_ofW HT_.out HW_.out (by kernel_rfl)) (fun _ _ _ h => h) (Or.inl ⟨by rfl, ?_⟩) hHeld ?_ ?_
                                  rotate_left
                                  · rintro w' ⟨s0, s1, s2, s3, s4⟩
                                    go_simp
                                    with_reducible rfl
                                  rotate_left
                                  · simp only [Act.put, List.setIfInBounds_toArray, List.set_cons_zero, List.set_cons_succ, i64_w, i32_w]
                                    rfl
                                  refine take_ (i := 5) (N := some 51) (v := ?_) (a' := ?_) #[true, true, true, true, true, true, false, false, true, true, true, false, false, false, false] rfl rfl (take_ofW HT_.out HW_.out (by kernel_rfl)) (fun _ _ _ h => h) (Or.inl ⟨by rfl, ?_⟩) hHeld ?_ ?_
                                  rotate_left
                                  · rintro w' ⟨s0, s1, s2, s3, s4⟩
                                    go_simp
                                    with_reducible rfl
                                  rotate_left
                                  · simp only [Act.put, List.setIfInBounds_toArray, List.set_cons_zero, List.set_cons_succ, i64_w, i32_w]
                                    rfl
                                  refine pure_ (i := 6) (N := some 52) (v := ?_) (a' := ?_) #[true, true, true, true, true, true, true, false, true, true, true, false, false, false, false] rfl rfl (any_of HT_.out (by kernel_rfl)) (fun _ _ _ h => h) (Or.inl ⟨by rfl, ?_⟩) ?_ ?_
                                  rotate_left
                                  · intro w'
                                    go_simp
                                    with_reducible rfl
                                  rotate_left
                                  · simp only [Act.put, List.setIfInBounds_toArray, List.set_cons_zero, List.set_cons_succ, i64_w, i32_w]
                                    rfl
                                  refine take_ (i := 7) (N := some 53) (v := ?_) (a' := ?_) #[true, true, true, true, true, true, true, true, true, true, true, false, false, false, false] rfl rfl (take_ofW HT_.out HW_.out (by kernel_rfl)) (fun _ _ _ h => h) (Or.inl ⟨by rfl, ?_⟩) hHeld ?_ ?_
                                  rotate_left
                                  · rintro w' ⟨s0, s1, s2, s3, s4⟩
                                    go_simp
                                    with_reducible rfl
                                  rotate_left
                                  · simp only [Act.put, List.setIfInBounds_toArray, List.set_cons_zero, List.set_cons_succ, i64_w, i32_w]
                                    rfl
                                  refine take_ (i := 11) (N := some 57) (v := ?_) (a' := ?_) #[true, true, true, true, true, true, true, true, true, true, true, true, false, false, false] rfl rfl (take_ofW HT_.out HW_.out (by kernel_rfl)) (fun _ _ _ h => h) (Or.inl ⟨by rfl, ?_⟩) hHeld ?_ ?_
                                  rotate_left
                                  · rintro w' ⟨s0, s1, s2, s3, s4⟩
                                    go_simp
                                    with_reducible rfl
                                  rotate_left
                                  · simp only [Act.put, List.setIfInBounds_toArray, List.set_cons_zero, List.set_cons_succ, i64_w, i32_w]
                                    rfl
                                  refine pure_ (i := 12) (N := some 58) (v := ?_) (a' := ?_) #[true, true, true, true, true, true, true, true, true, true, true, true, true, false, false] rfl rfl (any_of HT_.out (by kernel_rfl)) (fun _ _ _ h => h) (Or.inl ⟨by rfl, ?_⟩) ?_ ?_
                                  rotate_left
                                  · intro w'
                                    go_simp
                                    with_reducible rfl
                                  rotate_left
                                  · simp only [Act.put, List.setIfInBounds_toArray, List.set_cons_zero, List.set_cons_succ, i64_w, i32_w]
                                    rfl
                                  refine pure_ (i := 13) (N := some 59) (v := ?_) (a' := ?_) #[true, true, true, true, true, true, true, true, true, true, true, true, true, true, false] rfl rfl (any_of HT_.out (by kernel_rfl)) (fun _ _ _ h => h) (Or.inl ⟨by rfl, ?_⟩) ?_ ?_
                                  rotate_left
                                  · intro w'
                                    go_simp
                                    with_reducible rfl
                                  rotate_left
                                  · simp only [Act.put, List.setIfInBounds_toArray, List.set_cons_zero, List.set_cons_succ, i64_w, i32_w]
                                    rfl
                                  refine last_ (i := 14) (N := none) #[true, true, true, true, true, true, true, true, true, true, true, true, true, true, true] rfl rfl (one_of HT_.out (by kernel_rfl)) (by decide) (fun K hK => ?_)
                                  refine skip_ (w1 := ?_) (by rfl) rfl ?_ ?_
                                  rotate_left
                                  · go_simp
                                    rfl
                                  refine hK.out _ _ ?_
                                  clear hK K
                                  refine done_ (done_of HT_.out (by kernel_rfl)) ?_
                                  try go_wp2
                                  have n0_ : Aside0 (Kd.R (Kd.int .i64) 3 (w38.setCell ⟨go29, (((rd_T60 l0_1 x33_2).f0) : Int).toNat, none⟩ (.int .i64 (wrap64 ((rd x9_2 ((rd_T60 l0_1 x33_2).f0)) - (rd l3 x33_2))))) w.heap.size (fun _ => True) (.slice (some ⟨go29, 0, none⟩) x9_2.length co39) y312) := ⟨by (with_reducible repeat (first | apply Kd.R_alloc | apply Kd.R_drewN | apply Kd.R_drew)); exact HQ40.out⟩
                                  have n1_ : Aside0 ((w38.setCell ⟨go29, (((rd_T60 l0_1 x33_2).f0) : Int).toNat, none⟩ (.int .i64 (wrap64 ((rd x9_2 ((rd_T60 l0_1 x33_2).f0)) - (rd l3 x33_2))))).heap[gb301]? = some (.cells #[.int .i64 a0_0, .slice (some ad306) l0_1.length c0_1] 29 (0, 0))) := ⟨by (with_reducible repeat (first | refine blk_drewN ?_ _ | refine blk_drew ?_ | refine blk_alloc ?_ _)); refine blk_far ?_ (by have h_ := Kd.R_ne HO_9.out BK301.out (by decide); intro e_; exact h_ (by rw [e_]; rfl)) _; (with_reducible repeat (first | refine blk_drewN ?_ _ | refine blk_drew ?_ | refine blk_alloc ?_ _)); exact BK301.out⟩
                                  have n2_ : Aside0 ((w38.setCell ⟨go29, (((rd_T60 l0_1 x33_2).f0) : Int).toNat, none⟩ (.int .i64 (wrap64 ((rd x9_2 ((rd_T60 l0_1 x33_2).f0)) - (rd l3 x33_2))))).heap[gb307]? = some (.cells #[.int .i64 ((rd_T60 l0_1 x33_2).f0), .int .i64 ((rd_T60 l0_1 x33_2).f1), .int .i64 ((rd_T60 l0_1 x33_2).f2)] 60 (0, 0))) := ⟨by (with_reducible repeat (first | refine blk_drewN ?_ _ | refine blk_drew ?_ | refine blk_alloc ?_ _)); refine blk_far ?_ (by have h_ := Kd.R_ne HO_9.out BK307.out (by decide); intro e_; exact h_ (by rw [e_]; rfl)) _; (with_reducible repeat (first | refine blk_drewN ?_ _ | refine blk_drew ?_ | refine blk_alloc ?_ _)); exact BK307.out⟩
                                  have n3_ : Aside0 (Below w.heap.size w (w38.setCell ⟨go29, (((rd_T60 l0_1 x33_2).f0) : Int).toNat, none⟩ (.int .i64 (wrap64 ((rd x9_2 ((rd_T60 l0_1 x33_2).f0)) - (rd l3 x33_2)))))) := ⟨by repeat (first | (with_reducible first | exact HB.out | apply below_alloc | apply pw_below_drewN | apply below_drew1 | refine below_set ?_ GB29.out | refine below_set ?_ GE301.out | refine below_set ?_ GE307.out) | exact HB.out)⟩
                                  (try clear HO_9)
                                  (try clear BK301)
                                  (try clear BK307)
                                  (try clear HB)
                                  generalize (w38.setCell ⟨go29, (((rd_T60 l0_1 x33_2).f0) : Int).toNat, none⟩ (.int .i64 (wrap64 ((rd x9_2 ((rd_T60 l0_1 x33_2).f0)) - (rd l3 x33_2))))) = w41 at n0_ n1_ n2_ n3_ ⊢
                                  have HO_9 := n0_
                                  have BK301 := n1_
                                  have BK307 := n2_
                                  have HB := n3_
                                  clear n0_ n1_ n2_ n3_
                                  replace HO_9 := Aside0.mk (Kd.R_drew HO_9.out)
                                  replace BK301 := Aside0.mk (blk_drew BK301.out)
                                  replace BK307 := Aside0.mk (blk_drew BK307.out)
                                  replace HB := Aside0.mk (below_drew1 HB.out)
                                  have p313 : 0 ≤ (((rd_T60 l0_1 x33_2).f1) : Int) := asm
                                  have q313 : ((rd_T60 l0_1 x33_2).f1) < (y312.length : Int) := (by have h_ : (((rd_T60 l0_1 x33_2).f1) : Int) < ((x9_2.length : Int) : Int) := asm; first | (have e_ := (Kd.R_reads' HO_9.out).1; omega) | simpa only [Ny312.out, List.length_set] using h_)
                                  have ql313 : ((((rd_T60 l0_1 x33_2).f1) : Int) < ((x9_2.length : Int) : Int)) = True := eq_true (asm)
                                  obtain ⟨ad313, e313, hx313_0⟩ := Kd.at_int (Kd.R_reads' HO_9.out).2.2 ((rd_T60 l0_1 x33_2).f1) p313 q313
                                  obtain rfl : (⟨go29, 0, none⟩ : Addr) = ad313 := (by injection e313)
                                  (first | simp only [add_plain] at hx313_0 | simp only [add_at] at hx313_0 | simp only [Addr.add, Nat.zero_add] at hx313_0 | skip)
                                  replace p313 := eq_true p313
                                  replace q313 := eq_true q313
                                  have p314 : 0 ≤ (x33_2 : Int) := asm
                                  have q314 : x33_2 < (l3.length : Int) := asm
                                  obtain ⟨ad314, e314, hx314_0⟩ := Kd.at_int HR3.out x33_2 p314 q314
                                  have hw314_0 := hx314_0
                                  obtain rfl : ad308 = ad314 := (by injection e314)
                                  replace hx314_0 := hcl HB.out hx314_0
                                  replace p314 := eq_true p314
                                  replace q314 := eq_true q314
                                  have p32 : 0 ≤ (((rd_T60 l0_1 x33_2).f1) : Int) := asm
                                  have q32 : (((rd_T60 l0_1 x33_2).f1) : Int) < ((x9_2.length : Int) : Int) := asm
                                  obtain ⟨hx32_0, hf32_0⟩ := Kd.R_celln 0 HO_9.out (((rd_T60 l0_1 x33_2).f1) : Int) p32 q32
                                  replace p32 := eq_true p32
                                  replace q32 := eq_true q32
                                  have HP43 := Kd.R_putn HO_9.out (((rd_T60 l0_1 x33_2).f1) : Int) (wrap64 ((rd y312 ((rd_T60 l0_1 x33_2).f1)) + (rd l3 x33_2)))
                                  rw [← Ny315.out] at HP43
                                  have HQ43 := Aside0.mk HP43
                                  clear HP43
                                  refine start_ (n := 15) (S := fun w' => w'.cell? ⟨gb307, 0, none⟩ = some (.int .i64 ((rd_T60 l0_1 x33_2).f0)) ∧ w'.cell? ⟨gb307, 1, none⟩ = some (.int .i64 ((rd_T60 l0_1 x33_2).f1)) ∧ w'.cell? ⟨gb307, 2, none⟩ = some (.int .i64 ((rd_T60 l0_1 x33_2).f2)) ∧ w'.cell? ⟨go29, (((rd_T60 l0_1 x33_2).f1)).toNat, none⟩ = some (.int .i64 (rd y312 ((rd_T60 l0_1 x33_2).f1))) ∧ w'.cell? (ad308.add (x33_2).toNat) = some (.int .i64 (rd l3 x33_2))) (ds := [14]) #[false, false, false, false, false, false, false, false, false, false, false, false, false, false, false] (by kernel_rfl) rfl rfl ⟨(blk_cell BK307.out 0).trans rfl, (blk_cell BK307.out 1).trans rfl, (blk_cell BK307.out 2).trans rfl, hx313_0, ((HB.out.cell (World.block_lt_of_cell? w _ hw314_0)).trans hw314_0)⟩ (fun hHeld => ?_); refine with_tabW spec_IsFlow.tab10 spec_IsFlow.bits10 (fun HT_ HW_ => ?_)
                                  generalize w41.drew = w42 at HO_9 BK301 BK307 HB HQ40 HQ43 hf32_0 hx313_0 hx314_0 hx32_0 hHeld ⊢
                                  refine pure_ (i := 0) (N := some 60) (v := ?_) (a' := ?_) #[true, false, false, false, false, false, false, false, false, false, false, false, false, false, false] rfl rfl (any_of HT_.out (by kernel_rfl)) (fun _ _ _ h => h) (Or.inl ⟨by rfl, ?_⟩) ?_ ?_
                                  rotate_left
                                  · intro w'
                                    go_simp
                                    with_reducible rfl
                                  rotate_left
                                  · simp only [Act.put, List.setIfInBounds_toArray, List.set_cons_zero, List.set_cons_succ, i64_w, i32_w]
                                    rfl
                                  refine pure_ (i := 1) (N := some 61) (v := ?_) (a' := ?_) #[true, true, false, false, false, false, false, false, false, false, false, false, false, false, false] rfl rfl (any_of HT_.out (by kernel_rfl)) (fun _ _ _ h => h) (Or.inl ⟨by rfl, ?_⟩) ?_ ?_
                                  rotate_left
                                  · intro w'
                                    go_simp
                                    with_reducible rfl
                                  rotate_left
                                  · simp only [Act.put, List.setIfInBounds_toArray, List.set_cons_zero, List.set_cons_succ, i64_w, i32_w]
                                    rfl
                                  refine pure_ (i := 3) (N := some 63) (v := ?_) (a' := ?_) #[true, true, false, true, false, false, false, false, false, false, false, false, false, false, false] rfl rfl (any_of HT_.out (by kernel_rfl)) (fun _ _ _ h => h) (Or.inl ⟨by rfl, ?_⟩) ?_ ?_
                                  rotate_left
                                  · intro w'
                                    go_simp
                                    with_reducible rfl
                                  rotate_left
                                  · simp only [Act.put, List.setIfInBounds_toArray, List.set_cons_zero, List.set_cons_succ, i64_w, i32_w]
                                    rfl
                                  refine pure_ (i := 4) (N := some 64) (v := ?_) (a' := ?_) #[true, true, false, true, true, false, false, false, false, false, false, false, false, false, false] rfl rfl (any_of HT_.out (by kernel_rfl)) (fun _ _ _ h => h) (Or.inl ⟨by rfl, ?_⟩) ?_ ?_
                                  rotate_left
                                  · intro w'
                                    go_simp
                                    with_reducible rfl
                                  rotate_left
                                  · simp only [Act.put, List.setIfInBounds_toArray, List.set_cons_zero, List.set_cons_succ, i64_w, i32_w]
                                    rfl
                                  refine pure_ (i := 8) (N := some 68) (v := ?_) (a' := ?_) #[true, true, false, true, true, false, false, false, true, false, false, false, false, false, false] rfl rfl (any_of HT_.out (by kernel_rfl)) (fun _ _ _ h => h) (Or.inl ⟨by rfl, ?_⟩) ?_ ?_
                                  rotate_left
                                  · intro w'
                                    go_simp
                                    with_reducible rfl
                                  rotate_left
                                  · simp only [Act.put, List.setIfInBounds_toArray, List.set_cons_zero, List.set_cons_succ, i64_w, i32_w]
                                    rfl
                                  refine pure_ (i := 9) (N := some 69) (v := ?_) (a' := ?_) #[true, true, false, true, true, false, false, false, true, true, false, false, false, false, false] rfl rfl (any_of HT_.out (by kernel_rfl)) (fun _ _ _ h => h) (Or.inl ⟨by rfl, ?_⟩) ?_ ?_
                                  rotate_left
                                  · intro w'
                                    go_simp
                                    with_reducible rfl
                                  rotate_left
                                  · simp only [Act.put, List.setIfInBounds_toArray, List.set_cons_zero, List.set_cons_succ, i64_w, i32_w]
                                    rfl
                                  refine pure_ (i := 10) (N := some 70) (v := ?_) (a' := ?_) #[true, true, false, true, true, false, false, false, true, true, true, false, false, false, false] rfl rfl (any_of HT_.out (by kernel_rfl)) (fun _ _ _ h => h) (Or.inl ⟨by rfl, ?_⟩) ?_ ?_
                                  rotate_left
                                  · intro w'
                                    go_simp
                                    with_reducible rfl
                                  rotate_left
                                  · simp only [Act.put, List.setIfInBounds_toArray, List.set_cons_zero, List.set_cons_succ, i64_w, i32_w]
                                    rfl
                                  refine take_ (i := 2) (N := some 62) (v := ?_) (a' := ?_) #[true, true, true, true, true, false, false, false, true, true, true, false, false, false, false] rfl rfl (take_ofW HT_.out HW_.out (by kernel_rfl)) (fun _ _ _ h => h) (Or.inl ⟨by rfl, ?_⟩) hHeld ?_ ?_
                                  rotate_left
                                  · rintro w' ⟨s0, s1, s2, s3, s4⟩
                                    go_simp
                                    with_reducible rfl
                                  rotate_left
                                  · simp only [Act.put, List.setIfInBounds_toArray, List.set_cons_zero, List.set_cons_succ, i64_w, i32_w]
                                    rfl
                                  refine take_ (i := 5) (N := some 65) (v := ?_) (a' := ?_) #[true, true, true, true, true, true, false, false, true, true, true, false, false, false, false] rfl rfl (take_ofW HT_.out HW_.out (by kernel_rfl)) (fun _ _ _ h => h) (Or.inl ⟨by rfl, ?_⟩) hHeld ?_ ?_
                                  rotate_left
                                  · rintro w' ⟨s0, s1, s2, s3, s4⟩
                                    go_simp
                                    with_reducible rfl
                                  rotate_left
                                  · simp only [Act.put, List.setIfInBounds_toArray, List.set_cons_zero, List.set_cons_succ, i64_w, i32_w]
                                    rfl
                                  refine pure_ (i := 6) (N := some 66) (v := ?_) (a' := ?_) #[true, true, true, true, true, true, true, false, true, true, true, false, false, false, false] rfl rfl (any_of HT_.out (by kernel_rfl)) (fun _ _ _ h => h) (Or.inl ⟨by rfl, ?_⟩) ?_ ?_
                                  rotate_left
                                  · intro w'
                                    go_simp
                                    with_reducible rfl
                                  rotate_left
                                  · simp only [Act.put, List.setIfInBounds_toArray, List.set_cons_zero, List.set_cons_succ, i64_w, i32_w]
                                    rfl
                                  refine take_ (i := 7) (N := some 67) (v := ?_) (a' := ?_) #[true, true, true, true, true, true, true, true, true, true, true, false, false, false, false] rfl rfl (take_ofW HT_.out HW_.out (by kernel_rfl)) (fun _ _ _ h => h) (Or.inl ⟨by rfl, ?_⟩) hHeld ?_ ?_
                                  rotate_left
                                  · rintro w' ⟨s0, s1, s2, s3, s4⟩
                                    go_simp
                                    with_reducible rfl
                                  rotate_left
                                  · simp only [Act.put, List.setIfInBounds_toArray, List.set_cons_zero, List.set_cons_succ, i64_w, i32_w]
                                    rfl
                                  refine take_ (i := 11) (N := some 71) (v := ?_) (a' := ?_) #[true, true, true, true, true, true, true, true, true, true, true, true, false, false, false] rfl rfl (take_ofW HT_.out HW_.out (by kernel_rfl)) (fun _ _ _ h => h) (Or.inl ⟨by rfl, ?_⟩) hHeld ?_ ?_
                                  rotate_left
                                  · rintro w' ⟨s0, s1, s2, s3, s4⟩
                                    go_simp
                                    with_reducible rfl
                                  rotate_left
                                  · simp only [Act.put, List.setIfInBounds_toArray, List.set_cons_zero, List.set_cons_succ, i64_w, i32_w]
                                    rfl
                                  refine pure_ (i := 12) (N := some 72) (v := ?_) (a' := ?_) #[true, true, true, true, true, true, true, true, true, true, true, true, true, false, false] rfl rfl (any_of HT_.out (by kernel_rfl)) (fun _ _ _ h => h) (Or.inl ⟨by rfl, ?_⟩) ?_ ?_
                                  rotate_left
                                  · intro w'
                                    go_simp
                                    with_reducible rfl
                                  rotate_left
                                  · simp only [Act.put, List.setIfInBounds_toArray, List.set_cons_zero, List.set_cons_succ, i64_w, i32_w]
                                    rfl
                                  refine pure_ (i := 13) (N := some 73) (v := ?_) (a' := ?_) #[true, true, true, true, true, true, true, true, true, true, true, true, true, true, false] rfl rfl (any_of HT_.out (by kernel_rfl)) (fun _ _ _ h => h) (Or.inl ⟨by rfl, ?_⟩) ?_ ?_
                                  rotate_left
                                  · intro w'
                                    go_simp
                                    with_reducible rfl
                                  rotate_left
                                  · simp only [Act.put, List.setIfInBounds_toArray, List.set_cons_zero, List.set_cons_succ, i64_w, i32_w]
                                    rfl
                                  refine last_ (i := 14) (N := none) #[true, true, true, true, true, true, true, true, true, true, true, true, true, true, true] rfl rfl (one_of HT_.out (by kernel_rfl)) (by decide) (fun K hK => ?_)
                                  refine skip_ (w1 := ?_) (by rfl) rfl ?_ ?_
                                  rotate_left
                                  · go_simp
                                    rfl
                                  refine hK.out _ _ ?_
                                  clear hK K
                                  refine done_ (done_of HT_.out (by kernel_rfl)) ?_
                                  try go_wp2
                                  go_roundg k2
                                  case measure => have := HJ4.out; have := HK2.out; omega
                                  case rel => exact ⟨(y315), (wrap64 (x33_2 + 1)), (es), H', ⟨by have := HJ4.out; have := HK2.out; omega⟩, ⟨by (with_reducible repeat (first | apply Kd.R_alloc | apply Kd.R_drewN | apply Kd.R_drew)); exact HQ43.out⟩, ⟨by (with_reducible repeat (first | refine blk_drewN ?_ _ | refine blk_drew ?_ | refine blk_alloc ?_ _)); refine blk_far ?_ (by have h_ := Kd.R_ne HO_9.out BK301.out (by decide); intro e_; exact h_ (by rw [e_]; rfl)) _; (with_reducible repeat (first | refine blk_drewN ?_ _ | refine blk_drew ?_ | refine blk_alloc ?_ _)); exact BK301.out⟩, ⟨by repeat (first | (with_reducible first | exact HB.out | apply below_alloc | apply pw_below_drewN | apply below_drew1 | refine below_set ?_ GB29.out | refine below_set ?_ GE301.out | refine below_set ?_ GE307.out) | exact HB.out)⟩⟩
                                · rw [if_neg c31] at H
                                  exact absurd H (by simp)
                              · rw [if_neg c30] at H
                                exact absurd H (by simp)
                            · rw [if_neg c28] at H
                              exact absurd H (by simp)
                          · rw [if_neg c27] at H
                            exact absurd H (by simp)
                        · replace c26 := Bool.eq_false_iff.mpr c26
                          subst c26
                          have H1 : (some false) = some r := by rw [if_neg (show ¬ (false = true) by decide)] at H; exact H
                          clear H
                          have H := H1
                          clear H1
                          obtain rfl := Option.some.inj H
                          have p306 : 0 ≤ (x33_2 : Int) := asm
                          have q306 : x33_2 < (l0_1.length : Int) := asm
                          obtain ⟨ad306, e306, hx306_0, hx306_1, hx306_2⟩ := at_T60 HR0_1.out x33_2 p306 q306
                          cases e306
                          replace hx306_0 := hcl HB.out hx306_0
                          replace hx306_1 := hcl HB.out hx306_1
                          replace hx306_2 := hcl HB.out hx306_2
                          replace p306 := eq_true p306
                          replace q306 := eq_true q306
                          try go_wp2_with (first | ((with_reducible refine gate_dst (N := 11) rfl ?_); refine box_event ?hg (N := 11) ?hd (cs := #[.int .i64 0, .int .i64 0, .int .i64 0]) (t := 60) ?hr ?_; (case hd => rfl); (case hg => rfl); (case hr => first | (go_simp; done) | (go_simp; rfl)); intro gb307 hg w44 hbox hb; have BK307 := Aside0.mk (hbox); have GW307 := Aside0.mk ((bsz hg : w.heap.size ≤ gb307)); have GE307 := Aside0.mk ((bsz hg : w.heap.size ≤ gb307)); have NB301_307 := Aside0.mk ((nlt hg BK301.out : gb301 ≠ gb307)); have NB307_301 := Aside0.mk ((ngt hg BK301.out : gb307 ≠ gb301)); replace HO_9 := Aside0.mk (Kd.R_below (rk HO_9.out) hb); replace BK301 := Aside0.mk (bb BK301.out hb); replace HB := Aside0.mk (below_step bel hb); clear hb hbox hg; have hnb45 := NB307_301.out; have hnc45 := NB301_307.out; obtain ⟨hcz46_0, hcz46_1, hcz46_2, hfz46_0, hfz46_1, hfz46_2⟩ := cf3 BK307.out))
                          have n0_ : Aside0 (Kd.R (Kd.int .i64) 3 (((w44.setCell ⟨gb307, 0, none⟩ (.int .i64 ((rd_T60 l0_1 x33_2).f0))).setCell ⟨gb307, 1, none⟩ (.int .i64 ((rd_T60 l0_1 x33_2).f1))).setCell ⟨gb307, 2, none⟩ (.int .i64 ((rd_T60 l0_1 x33_2).f2))) w.heap.size (fun _ => True) v304 x9_2) := ⟨by (with_reducible repeat (first | apply Kd.R_alloc | apply Kd.R_drewN | apply Kd.R_drew)); exact Kd.R_mono (Kd.R_far (p := ⟨gb307, 2, none⟩) (Kd.R_far (p := ⟨gb307, 1, none⟩) (Kd.R_far (p := ⟨gb307, 0, none⟩) (Kd.R_types HO_9.out BK307.out (by decide)) (fun _ hk => hk.2) (.int .i64 ((rd_T60 l0_1 x33_2).f0))) (fun _ hk => hk.2) (.int .i64 ((rd_T60 l0_1 x33_2).f1))) (fun _ hk => hk.2) (.int .i64 ((rd_T60 l0_1 x33_2).f2))) (fun _ hk => trivial)⟩
                          have n1_ : Aside0 ((((w44.setCell ⟨gb307, 0, none⟩ (.int .i64 ((rd_T60 l0_1 x33_2).f0))).setCell ⟨gb307, 1, none⟩ (.int .i64 ((rd_T60 l0_1 x33_2).f1))).setCell ⟨gb307, 2, none⟩ (.int .i64 ((rd_T60 l0_1 x33_2).f2))).heap[gb301]? = some (.cells #[.int .i64 a0_0, .slice (some ad306) l0_1.length c0_1] 29 (0, 0))) := ⟨bk BK301.out⟩
                          have n2_ : Aside0 ((((w44.setCell ⟨gb307, 0, none⟩ (.int .i64 ((rd_T60 l0_1 x33_2).f0))).setCell ⟨gb307, 1, none⟩ (.int .i64 ((rd_T60 l0_1 x33_2).f1))).setCell ⟨gb307, 2, none⟩ (.int .i64 ((rd_T60 l0_1 x33_2).f2))).heap[gb307]? = some (.cells #[.int .i64 ((rd_T60 l0_1 x33_2).f0), .int .i64 ((rd_T60 l0_1 x33_2).f1), .int .i64 ((rd_T60 l0_1 x33_2).f2)] 60 (0, 0))) := ⟨by (with_reducible repeat (first | refine blk_drewN ?_ _ | refine blk_drew ?_ | refine blk_alloc ?_ _)); refine blk_put (cs := #[.int .i64 ((rd_T60 l0_1 x33_2).f0), .int .i64 ((rd_T60 l0_1 x33_2).f1), .int .i64 0]) ?_ 2 _ rfl; (with_reducible repeat (first | refine blk_drewN ?_ _ | refine blk_drew ?_ | refine blk_alloc ?_ _)); refine blk_put (cs := #[.int .i64 ((rd_T60 l0_1 x33_2).f0), .int .i64 0, .int .i64 0]) ?_ 1 _ rfl; (with_reducible repeat (first | refine blk_drewN ?_ _ | refine blk_drew ?_ | refine blk_alloc ?_ _)); refine blk_put (cs := #[.int .i64 0, .int .i64 0, .int .i64 0]) ?_ 0 _ rfl; (with_reducible repeat (first | refine blk_drewN ?_ _ | refine blk_drew ?_ | refine blk_alloc ?_ _)); exact BK307.out⟩
                          have n3_ : Aside0 (Below w.heap.size w (((w44.setCell ⟨gb307, 0, none⟩ (.int .i64 ((rd_T60 l0_1 x33_2).f0))).setCell ⟨gb307, 1, none⟩ (.int .i64 ((rd_T60 l0_1 x33_2).f1))).setCell ⟨gb307, 2, none⟩ (.int .i64 ((rd_T60 l0_1 x33_2).f2)))) := ⟨bel⟩
                          (try clear HO_9)
                          (try clear BK301)
                          (try clear BK307)
                          (try clear HB)
                          generalize (((w44.setCell ⟨gb307, 0, none⟩ (.int .i64 ((rd_T60 l0_1 x33_2).f0))).setCell ⟨gb307, 1, none⟩ (.int .i64 ((rd_T60 l0_1 x33_2).f1))).setCell ⟨gb307, 2, none⟩ (.int .i64 ((rd_T60 l0_1 x33_2).f2))) = w47 at n0_ n1_ n2_ n3_ ⊢
                          have HO_9 := n0_
                          have BK301 := n1_
                          have BK307 := n2_
                          have HB := n3_
                          clear n0_ n1_ n2_ n3_
                          replace HO_9 := Aside0.mk (Kd.R_drew HO_9.out)
                          replace BK301 := Aside0.mk (blk_drew BK301.out)
                          replace BK307 := Aside0.mk (blk_drew BK307.out)
                          replace HB := Aside0.mk (below_drew1 HB.out)
                          have p308 : 0 ≤ (x33_2 : Int) := asm
                          have q308 : x33_2 < (l3.length : Int) := asm
                          obtain ⟨ad308, e308, hx308_0⟩ := Kd.at_int HR3.out x33_2 p308 q308
                          have hw308_0 := hx308_0
                          cases e308
                          replace hx308_0 := hcl HB.out hx308_0
                          replace p308 := eq_true p308
                          replace q308 := eq_true q308
                          refine start_ (n := 8) (S := fun w' => w'.cell? ⟨gb307, 0, none⟩ = some (.int .i64 ((rd_T60 l0_1 x33_2).f0)) ∧ w'.cell? ⟨gb307, 1, none⟩ = some (.int .i64 ((rd_T60 l0_1 x33_2).f1)) ∧ w'.cell? ⟨gb307, 2, none⟩ = some (.int .i64 ((rd_T60 l0_1 x33_2).f2)) ∧ w'.cell? (ad308.add (x33_2).toNat) = some (.int .i64 (rd l3 x33_2))) (ds := []) #[false, false, false, false, false, false, false, false] (by kernel_rfl) rfl rfl ⟨(blk_cell BK307.out 0).trans rfl, (blk_cell BK307.out 1).trans rfl, (blk_cell BK307.out 2).trans rfl, ((HB.out.cell (World.block_lt_of_cell? w _ hw308_0)).trans hw308_0)⟩ (fun hHeld => ?_); refine with_tabW spec_IsFlow.tab7 spec_IsFlow.bits7 (fun HT_ HW_ => ?_)
                          generalize w47.drew = w48 at HO_9 BK301 BK307 HB hx308_0 hHeld ⊢
                          refine pure_ (i := 0) (N := some 38) (v := ?_) (a' := ?_) #[true, false, false, false, false, false, false, false] rfl rfl (any_of HT_.out (by kernel_rfl)) (fun _ _ _ h => h) (Or.inl ⟨by rfl, ?_⟩) ?_ ?_
                          rotate_left
                          · intro w'
                            go_simp
                            with_reducible rfl
                          rotate_left
                          · simp only [Act.put, List.setIfInBounds_toArray, List.set_cons_zero, List.set_cons_succ, i64_w, i32_w]
                            rfl
                          refine pure_ (i := 1) (N := some 39) (v := ?_) (a' := ?_) #[true, true, false, false, false, false, false, false] rfl rfl (any_of HT_.out (by kernel_rfl)) (fun _ _ _ h => h) (Or.inl ⟨by rfl, ?_⟩) ?_ ?_
                          rotate_left
                          · intro w'
                            go_simp
                            with_reducible rfl
                          rotate_left
                          · simp only [Act.put, List.setIfInBounds_toArray, List.set_cons_zero, List.set_cons_succ, i64_w, i32_w]
                            rfl
                          refine pure_ (i := 2) (N := some 40) (v := ?_) (a' := ?_) #[true, true, true, false, false, false, false, false] rfl rfl (any_of HT_.out (by kernel_rfl)) (fun _ _ _ h => h) (Or.inl ⟨by rfl, ?_⟩) ?_ ?_
                          rotate_left
                          · intro w'
                            go_simp
                            with_reducible rfl
                          rotate_left
                          · simp only [Act.put, List.setIfInBounds_toArray, List.set_cons_zero, List.set_cons_succ, i64_w, i32_w]
                            rfl
                          refine pure_ (i := 4) (N := some 42) (v := ?_) (a' := ?_) #[true, true, true, false, true, false, false, false] rfl rfl (any_of HT_.out (by kernel_rfl)) (fun _ _ _ h => h) (Or.inl ⟨by rfl, ?_⟩) ?_ ?_
                          rotate_left
                          · intro w'
                            go_simp
                            with_reducible rfl
                          rotate_left
                          · simp only [Act.put, List.setIfInBounds_toArray, List.set_cons_zero, List.set_cons_succ, i64_w, i32_w]
                            rfl
                          refine take_ (i := 3) (N := some 41) (v := ?_) (a' := ?_) #[true, true, true, true, true, false, false, false] rfl rfl (take_ofW HT_.out HW_.out (by kernel_rfl)) (fun _ _ _ h => h) (Or.inl ⟨by rfl, ?_⟩) hHeld ?_ ?_
                          rotate_left
                          · rintro w' ⟨s0, s1, s2, s3⟩
                            go_simp
                            with_reducible rfl
                          rotate_left
                          · simp only [Act.put, List.setIfInBounds_toArray, List.set_cons_zero, List.set_cons_succ, i64_w, i32_w]
                            rfl
                          refine take_ (i := 5) (N := some 43) (v := ?_) (a' := ?_) #[true, true, true, true, true, true, false, false] rfl rfl (take_ofW HT_.out HW_.out (by kernel_rfl)) (fun _ _ _ h => h) (Or.inl ⟨by rfl, ?_⟩) hHeld ?_ ?_
                          rotate_left
                          · rintro w' ⟨s0, s1, s2, s3⟩
                            go_simp
                            with_reducible rfl
                          rotate_left
                          · simp only [Act.put, List.setIfInBounds_toArray, List.set_cons_zero, List.set_cons_succ, i64_w, i32_w]
                            rfl
                          refine one_ (i := 6) (N := some 44) #[true, true, true, true, true, true, true, false] rfl rfl (one_of HT_.out (by kernel_rfl)) (by decide) (fun K hK => ?_)
                          refine goes_ Try.func39 (by kernel_rfl) rfl #[.int .i64 (rd l3 x33_2), .int .i64 0, .int .i64 ((rd_T60 l0_1 x33_2).f2)] (by rfl) rfl rfl ga ?_
                          with_reducible refine (spec_l01In.calls (rd l3 x33_2) 0 ((rd_T60 l0_1 x33_2).f2) false _ A25.out).mono ?_
                          rintro e w' ⟨rfl, ⟨nd, rfl⟩⟩
                          refine ⟨_, rfl, ?_⟩
                          refine hK.out _ _ ⟨(blk_cell BK307.out 0).trans rfl, (blk_cell BK307.out 1).trans rfl, (blk_cell BK307.out 2).trans rfl, ((HB.out.cell (World.block_lt_of_cell? w _ hw308_0)).trans hw308_0)⟩ (fun hHeld => ?_)
                          clear hK K
                          refine norm_ (a' := ?_) ?_ ?_
                          rotate_left
                          · show Act.put _ (some 44) _ = _
                            simp only [Act.put, List.setIfInBounds_toArray, List.set_cons_zero, List.set_cons_succ, i64_w, i32_w]
                            rfl
                          refine pure_ (i := 7) (N := some 45) (v := ?_) (a' := ?_) #[true, true, true, true, true, true, true, true] rfl rfl (any_of HT_.out (by kernel_rfl)) (fun _ _ _ h => h) (Or.inl ⟨by rfl, ?_⟩) ?_ ?_
                          rotate_left
                          · intro w'
                            go_simp
                            with_reducible rfl
                          rotate_left
                          · simp only [Act.put, List.setIfInBounds_toArray, List.set_cons_zero, List.set_cons_succ, i64_w, i32_w]
                            rfl
                          refine done_ (done_of HT_.out (by kernel_rfl)) ?_
                          try go_wp2
                          go_ret
                          exact ⟨er, bel⟩
                      · rw [if_neg c24] at H
                        exact absurd H (by simp)
                    · rw [if_neg c23] at H
                      exact absurd H (by simp)
                  · rw [if_neg c22] at H
                    exact absurd H (by simp)
                · rw [if_neg c21] at H
                  have c21b0 : decide (x33_2 < (l0_1.length : Int)) = false := decide_eq_false c21
                  clear c21
                  have H' := Aside0.mk H
                  clear H
                  obtain ⟨Ao49, co49, eo49⟩ := Kd.R_slice HO_9.out
                  subst eo49
                  go_wp2
                  go_loopg [77] k2 (fun kq v77 w' => ∃ (x77_3 : Int), v77 = .int .i64 x77_3 ∧ Aside0 (spec_IsFlow.l1 kq a1 a2 x9_2 (x9_2.length : Int) x77_3 = some r) ∧ Aside0 (kq ≤ k2) ∧ Aside0 (Kd.R (Kd.int .i64) 3 w' w.heap.size (fun _ => True) (.slice Ao49 x9_2.length co49) x9_2) ∧ Aside0 (w'.heap[gb301]? = some (.cells #[.int .i64 a0_0, (.slice A0_1 l0_1.length c0_1)] 29 (0, 0))) ∧ Aside0 (Below w.heap.size w w'))
                  case atStart => exact ⟨(0), (es), H', ⟨Nat.le_refl _⟩, ⟨rk HO_9.out⟩, ⟨bk BK301.out⟩, ⟨bel⟩⟩
                  case round =>
                    clear H'
                    try clear c2; try clear p2; try clear q2; try clear hx2; try clear c3; try clear p3; try clear q3; try clear hx3; try clear c4; try clear p6; try clear c21; try clear c21b0; try clear c22; try clear c23; try clear c24; try clear c26; try clear c27; try clear c28; try clear p29; try clear q29; try clear hx29; try clear hf29; try clear c30; try clear p30; try clear q30; try clear hx30; try clear c31; try clear p31; try clear q31; try clear hx31; try clear p32; try clear q32; try clear hx32; try clear hf32; try clear c39; try clear c45; try clear hcz46_0; try clear hcz46_1; try clear hcz46_2; try clear hfz46_0; try clear hfz46_1; try clear hfz46_2; try clear hx29_0; try clear hx306_0; try clear hx306_1; try clear hx306_2; try clear hx308_0; try clear hx310_0; try clear hx311_0; try clear hx313_0; try clear hx314_0; try clear hx32_0; try clear p29; try clear p306; try clear p308; try clear p310; try clear p311; try clear p313; try clear p314; try clear p32; try clear q29; try clear q306; try clear q308; try clear q310; try clear q311; try clear q313; try clear q314; try clear q32
                    obtain ⟨x77_3, rfl, HA, HK3, HO_75, BK301, HB⟩ := hrel
                    cases gk with
                    | zero => exact absurd HA.out (by simp [spec_IsFlow.l1])
                    | succ k3 =>
                      have H := HA.out
                      clear HA
                      simp only [spec_IsFlow.l1] at H
                      by_cases c50 : x77_3 < (x9_2.length : Int)
                      · rw [if_pos c50] at H
                        have c50b0 : decide (x77_3 < (x9_2.length : Int)) = true := decide_eq_true c50
                        clear c50
                        by_cases c51 : 0 ≤ x77_3
                        · rw [if_pos c51] at H
                          have c51b0 : decide (0 ≤ x77_3) = true := decide_eq_true c51
                          clear c51
                          by_cases c52 : x77_3 < (x9_2.length : Int)
                          · rw [if_pos c52] at H
                            have c52b0 : decide (x77_3 < (x9_2.length : Int)) = true := decide_eq_true c52
                            clear c52
                            by_cases c53 : x77_3 = a1
                            · rw [if_pos c53] at H
                              have c53b0 : (x77_3 == a1) = true := beq_iff_eq.mpr c53
                              have c53b1 : (x77_3 != a1) = false := bne_eq_false_iff_eq.mpr c53
                              clear c53
                              have H' := Aside0.mk H
                              clear H
                              have p316 : 0 ≤ (x77_3 : Int) := asm
                              have q316 : x77_3 < (x9_2.length : Int) := asm
                              obtain ⟨ad316, e316, hx316_0⟩ := Kd.at_int (Kd.R_reads' HO_75.out).2.2 x77_3 p316 q316
                              cases e316
                              replace p316 := eq_true p316
                              replace q316 := eq_true q316
                              go_wp2
                              go_roundg k3
                              case measure => have := HJ4.out; have := HK2.out; have := HK3.out; omega
                              case rel => exact ⟨(wrap64 (x77_3 + 1)), (es), H', ⟨by have := HJ4.out; have := HK2.out; have := HK3.out; omega⟩, ⟨rk HO_75.out⟩, ⟨bk BK301.out⟩, ⟨bel⟩⟩
                            · rw [if_neg c53] at H
                              have c53b0 : (x77_3 == a1) = false := beq_eq_false_iff_ne.mpr c53
                              have c53b1 : (x77_3 != a1) = true := bne_iff_ne.mpr c53
                              by_cases c54 : x77_3 = a2
                              · rw [if_pos c54] at H
                                have c54b0 : (x77_3 == a2) = true := beq_iff_eq.mpr c54
                                have c54b1 : (x77_3 != a2) = false := bne_eq_false_iff_eq.mpr c54
                                clear c54
                                have H' := Aside0.mk H
                                clear H
                                have p316 : 0 ≤ (x77_3 : Int) := asm
                                have q316 : x77_3 < (x9_2.length : Int) := asm
                                obtain ⟨ad316, e316, hx316_0⟩ := Kd.at_int (Kd.R_reads' HO_75.out).2.2 x77_3 p316 q316
                                cases e316
                                replace p316 := eq_true p316
                                replace q316 := eq_true q316
                                go_wp2
                                go_roundg k3
                                case measure => have := HJ4.out; have := HK2.out; have := HK3.out; omega
                                case rel => exact ⟨(wrap64 (x77_3 + 1)), (es), H', ⟨by have := HJ4.out; have := HK2.out; have := HK3.out; omega⟩, ⟨rk HO_75.out⟩, ⟨bk BK301.out⟩, ⟨bel⟩⟩
                              · rw [if_neg c54] at H
                                have c54b0 : (x77_3 == a2) = false := beq_eq_false_iff_ne.mpr c54
                                have c54b1 : (x77_3 != a2) = true := bne_iff_ne.mpr c54
                                by_cases c55 : (rd x9_2 x77_3) = 0
                                · rw [if_pos c55] at H
                                  have c55b0 : ((rd x9_2 x77_3) == 0) = true := beq_iff_eq.mpr c55
                                  have c55b1 : ((rd x9_2 x77_3) != 0) = false := bne_eq_false_iff_eq.mpr c55
                                  clear c55
                                  have H' := Aside0.mk H
                                  clear H
                                  have p316 : 0 ≤ (x77_3 : Int) := asm
                                  have q316 : x77_3 < (x9_2.length : Int) := asm
                                  obtain ⟨ad316, e316, hx316_0⟩ := Kd.at_int (Kd.R_reads' HO_75.out).2.2 x77_3 p316 q316
                                  cases e316
                                  replace p316 := eq_true p316
                                  replace q316 := eq_true q316
                                  go_wp2
                                  go_roundg k3
                                  case measure => have := HJ4.out; have := HK2.out; have := HK3.out; omega
                                  case rel => exact ⟨(wrap64 (x77_3 + 1)), (es), H', ⟨by have := HJ4.out; have := HK2.out; have := HK3.out; omega⟩, ⟨rk HO_75.out⟩, ⟨bk BK301.out⟩, ⟨bel⟩⟩
                                · rw [if_neg c55] at H
                                  have c55b0 : ((rd x9_2 x77_3) == 0) = false := beq_eq_false_iff_ne.mpr c55
                                  have c55b1 : ((rd x9_2 x77_3) != 0) = true := bne_iff_ne.mpr c55
                                  obtain rfl := Option.some.inj H
                                  have p316 : 0 ≤ (x77_3 : Int) := asm
                                  have q316 : x77_3 < (x9_2.length : Int) := asm
                                  obtain ⟨ad316, e316, hx316_0⟩ := Kd.at_int (Kd.R_reads' HO_75.out).2.2 x77_3 p316 q316
                                  cases e316
                                  replace p316 := eq_true p316
                                  replace q316 := eq_true q316
                                  go_wp2
                                  go_ret
                                  exact ⟨er, bel⟩
                          · rw [if_neg c52] at H
                            exact absurd H (by simp)
                        · rw [if_neg c51] at H
                          exact absurd H (by simp)
                      · rw [if_neg c50] at H
                        have c50b0 : decide (x77_3 < (x9_2.length : Int)) = false := decide_eq_false c50
                        clear c50
                        obtain rfl := Option.some.inj H
                        go_wp2
                        go_ret
                        exact ⟨er, bel⟩
          · rw [if_neg c16] at H
            exact absurd H (by simp)
        · rw [if_neg c15] at H
          exact absurd H (by simp)

end Go.Proofs.Yteaemblallbgpaa.X
