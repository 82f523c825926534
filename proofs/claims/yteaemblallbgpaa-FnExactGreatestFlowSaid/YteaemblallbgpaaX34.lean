-- Written by a program of this session (wip/xp.py, over the kit's print) out of the translation: functions, and the walks that show them.
import Derived.Test.YteaemblallbgpaaX0
import Derived.Test.YteaemblallbgpaaX21
import Derived.Test.YteaemblallbgpaaX26
import Derived.Test.YteaemblallbgpaaX33
namespace Go.Proofs.Yteaemblallbgpaa.X
open Go.RowKit Go.Proofs.YteaemblallbgpaaW.PrintWords Go.Proofs.YteaemblallbgpaaW.PrintLast Go.Proofs.YteaemblallbgpaaW.PrintMore
attribute [local go_sem] max2_int min2_int max_two min_two max_three min_three max_four min_four   -- for this text's walks alone
set_option linter.unusedVariables false
set_option linter.unusedSimpArgs false

/-! ### spec_GreatestFlow: function 34 -/
mutual
def spec_GreatestFlow.l0 : Nat → Int → Int → List Int → Int → List (S60) → Option (List Int × Bool)
  | 0, _, _, _, _, _ => none
  | k + 1, x1, x2, x8, x430000, x430001 => (spec_l17Reach.f k x430000 x430001 x1 x8).bind fun bt434 => (if 0 ≤ x2 then (if x2 < (bt434.2.length : Int) then (if rdOf false bt434.2 x2 = true then (spec_GreatestFlow.l1 k x1 x2 x8 bt434.1 1000 x2 x430000 x430001) else (some (x8, true))) else (none)) else (none))
def spec_GreatestFlow.l1 : Nat → Int → Int → List Int → List Int → Int → Int → Int → List (S60) → Option (List Int × Bool)
  | 0, _, _, _, _, _, _, _, _ => none
  | k + 1, x1, x2, x8, x9, x11, x12, x430000, x430001 => if x12 = x1 then (spec_GreatestFlow.l2 k x1 x2 x8 x9 x11 x2 x430000 x430001) else (if 0 ≤ x12 then (if x12 < (x9.length : Int) then ((spec_l17Back.f x430000 x430001 x8 (rd x9 x12)).bind fun bt442 => (spec_GreatestFlow.l1 k x1 x2 x8 x9 (mn x11 bt442.2) bt442.1 x430000 x430001)) else (none)) else (none))
def spec_GreatestFlow.l2 : Nat → Int → Int → List Int → List Int → Int → Int → Int → List (S60) → Option (List Int × Bool)
  | 0, _, _, _, _, _, _, _, _ => none
  | k + 1, x1, x2, x8, x9, x11, x15, x430000, x430001 => if x15 = x1 then (spec_GreatestFlow.l0 k x1 x2 x8 x430000 x430001) else (if 0 ≤ x15 then (if x15 < (x9.length : Int) then ((spec_l17Back.f x430000 x430001 x8 (rd x9 x15)).bind fun bt445 => (if (rd x9 x15) > 0 then (if 0 ≤ (wrap64 ((rd x9 x15) - 1)) then (if (wrap64 ((rd x9 x15) - 1)) < (x8.length : Int) then (spec_GreatestFlow.l2 k x1 x2 (x8.set ((wrap64 ((rd x9 x15) - 1)) : Int).toNat (wrap64 ((rd x8 (wrap64 ((rd x9 x15) - 1))) + x11))) x9 x11 bt445.1 x430000 x430001) else (none)) else (none)) else (if 0 ≤ (wrap64 ((wrap64 (-(rd x9 x15))) - 1)) then (if (wrap64 ((wrap64 (-(rd x9 x15))) - 1)) < (x8.length : Int) then (spec_GreatestFlow.l2 k x1 x2 (x8.set ((wrap64 ((wrap64 (-(rd x9 x15))) - 1)) : Int).toNat (wrap64 ((rd x8 (wrap64 ((wrap64 (-(rd x9 x15))) - 1))) - x11))) x9 x11 bt445.1 x430000 x430001) else (none)) else (none)))) else (none)) else (none))
end
def spec_GreatestFlow.f (k : Nat) (a0_0 : Int) (l0_1 : List (S60)) (a1 : Int) (a2 : Int) : Option (List Int × Bool) := (spec_l17Ends.f k a0_0 l0_1 a1 a2).bind fun t430 => (if t430 = true then (if 0 ≤ (l0_1.length : Int) then (if ((l0_1.length : Int) : Int).toNat ≤ 35184372088832 then (spec_GreatestFlow.l0 k a1 a2 (List.replicate ((l0_1.length : Int) : Int).toNat 0) a0_0 l0_1) else (none)) else (none)) else (some (([] : List Int), false)))
theorem spec_GreatestFlow.mono_l : ∀ k, (∀ y0 y1 y2 y3 y4, LeO (spec_GreatestFlow.l0 k y0 y1 y2 y3 y4) (spec_GreatestFlow.l0 (k + 1) y0 y1 y2 y3 y4)) ∧ (∀ y0 y1 y2 y3 y4 y5 y6 y7, LeO (spec_GreatestFlow.l1 k y0 y1 y2 y3 y4 y5 y6 y7) (spec_GreatestFlow.l1 (k + 1) y0 y1 y2 y3 y4 y5 y6 y7)) ∧ (∀ y0 y1 y2 y3 y4 y5 y6 y7, LeO (spec_GreatestFlow.l2 k y0 y1 y2 y3 y4 y5 y6 y7) (spec_GreatestFlow.l2 (k + 1) y0 y1 y2 y3 y4 y5 y6 y7))
  | 0 => ⟨fun _ _ _ _ _ r h => by simp [spec_GreatestFlow.l0] at h, fun _ _ _ _ _ _ _ _ r h => by simp [spec_GreatestFlow.l1] at h, fun _ _ _ _ _ _ _ _ r h => by simp [spec_GreatestFlow.l2] at h⟩
  | k + 1 => by
    obtain ⟨ih0, ih1, ih2⟩ := spec_GreatestFlow.mono_l k
    refine ⟨?_, ?_, ?_⟩
    · intro y0 y1 y2 y3 y4
      unfold spec_GreatestFlow.l0
      repeat' first
      | (with_reducible exact ih0 _ _ _ _ _)
      | (with_reducible exact ih1 _ _ _ _ _ _ _ _)
      | (with_reducible exact ih2 _ _ _ _ _ _ _ _)
      | (with_reducible exact spec_l17Ends.mono _ _ _ _ _)
      | (with_reducible exact spec_l17Reach.mono _ _ _ _ _)
      | (with_reducible exact LeO.refl _)
      | (with_reducible exact LeO.none _)
      | (with_reducible refine LeO.ite ?_ ?_)
      | (with_reducible refine LeO.bind ?_ (fun _ => ?_))
      | exact ih0 _ _ _ _ _
      | exact ih1 _ _ _ _ _ _ _ _
      | exact ih2 _ _ _ _ _ _ _ _
      | exact spec_l17Ends.mono _ _ _ _ _
      | exact spec_l17Reach.mono _ _ _ _ _
      | exact LeO.none _
      | refine LeO.ite ?_ ?_
      | refine LeO.bind ?_ (fun _ => ?_)
    · intro y0 y1 y2 y3 y4 y5 y6 y7
      unfold spec_GreatestFlow.l1
      repeat' first
      | (with_reducible exact ih0 _ _ _ _ _)
      | (with_reducible exact ih1 _ _ _ _ _ _ _ _)
      | (with_reducible exact ih2 _ _ _ _ _ _ _ _)
      | (with_reducible exact spec_l17Ends.mono _ _ _ _ _)
      | (with_reducible exact spec_l17Reach.mono _ _ _ _ _)
      | (with_reducible exact LeO.refl _)
      | (with_reducible exact LeO.none _)
      | (with_reducible refine LeO.ite ?_ ?_)
      | (with_reducible refine LeO.bind ?_ (fun _ => ?_))
      | exact ih0 _ _ _ _ _
      | exact ih1 _ _ _ _ _ _ _ _
      | exact ih2 _ _ _ _ _ _ _ _
      | exact spec_l17Ends.mono _ _ _ _ _
      | exact spec_l17Reach.mono _ _ _ _ _
      | exact LeO.none _
      | refine LeO.ite ?_ ?_
      | refine LeO.bind ?_ (fun _ => ?_)
    · intro y0 y1 y2 y3 y4 y5 y6 y7
      unfold spec_GreatestFlow.l2
      repeat' first
      | (with_reducible exact ih0 _ _ _ _ _)
      | (with_reducible exact ih1 _ _ _ _ _ _ _ _)
      | (with_reducible exact ih2 _ _ _ _ _ _ _ _)
      | (with_reducible exact spec_l17Ends.mono _ _ _ _ _)
      | (with_reducible exact spec_l17Reach.mono _ _ _ _ _)
      | (with_reducible exact LeO.refl _)
      | (with_reducible exact LeO.none _)
      | (with_reducible refine LeO.ite ?_ ?_)
      | (with_reducible refine LeO.bind ?_ (fun _ => ?_))
      | exact ih0 _ _ _ _ _
      | exact ih1 _ _ _ _ _ _ _ _
      | exact ih2 _ _ _ _ _ _ _ _
      | exact spec_l17Ends.mono _ _ _ _ _
      | exact spec_l17Reach.mono _ _ _ _ _
      | exact LeO.none _
      | refine LeO.ite ?_ ?_
      | refine LeO.bind ?_ (fun _ => ?_)
theorem spec_GreatestFlow.mono : ∀ a0 a1 a2 a3 k, LeO (spec_GreatestFlow.f k a0 a1 a2 a3) (spec_GreatestFlow.f (k + 1) a0 a1 a2 a3) := by
  intro a0 a1 a2 a3 k
  obtain ⟨ih0, ih1, ih2⟩ := spec_GreatestFlow.mono_l k
  unfold spec_GreatestFlow.f
  repeat' first
      | (with_reducible exact ih0 _ _ _ _ _)
      | (with_reducible exact ih1 _ _ _ _ _ _ _ _)
      | (with_reducible exact ih2 _ _ _ _ _ _ _ _)
      | (with_reducible exact spec_l17Ends.mono _ _ _ _ _)
      | (with_reducible exact spec_l17Reach.mono _ _ _ _ _)
      | (with_reducible exact LeO.refl _)
      | (with_reducible exact LeO.none _)
      | (with_reducible refine LeO.ite ?_ ?_)
      | (with_reducible refine LeO.bind ?_ (fun _ => ?_))
      | exact ih0 _ _ _ _ _
      | exact ih1 _ _ _ _ _ _ _ _
      | exact ih2 _ _ _ _ _ _ _ _
      | exact spec_l17Ends.mono _ _ _ _ _
      | exact spec_l17Reach.mono _ _ _ _ _
      | exact LeO.none _
      | refine LeO.ite ?_ ?_
      | refine LeO.bind ?_ (fun _ => ?_)
def spec_GreatestFlow.T10 : Bool × List (List Nat × List Nat) := (true, [([], []), ([], []), ([], []), ([], []), ([2, 3], [2, 3]), ([4], [4]), ([0, 1, 5], [0, 1, 5]), ([6], [6]), ([7], [7]), ([7], [7]), ([8, 6, 0, 1, 2, 3, 4, 5, 6, 7, 8], [8]), ([9, 10, 0, 1, 2, 3, 4, 5, 6, 7, 8, 9, 10], [9])])
def spec_GreatestFlow.B10 : List Nat := [0, 0, 0, 0, 12, 28, 63, 127, 255, 255, 511, 2047]
theorem spec_GreatestFlow.tab10 : rtab .any (opsOf Try.f34 10) = spec_GreatestFlow.T10 := by kernel_rfl
theorem spec_GreatestFlow.bits10 : waitsOk spec_GreatestFlow.T10.2 spec_GreatestFlow.B10 = true := by kernel_rfl
def spec_GreatestFlow.T15 : Bool × List (List Nat × List Nat) := (true, [([], []), ([], []), ([], []), ([], []), ([2, 3], [2, 3]), ([4], [4]), ([0, 1, 5], [0, 1, 5]), ([6], [6]), ([7], [7]), ([7], [7]), ([8, 6, 0, 1, 2, 3, 4, 5, 6, 7, 8], [8]), ([9, 10, 0, 1, 2, 3, 4, 5, 6, 7, 8, 9, 10], [9])])
def spec_GreatestFlow.B15 : List Nat := [0, 0, 0, 0, 12, 28, 63, 127, 255, 255, 511, 2047]
theorem spec_GreatestFlow.tab15 : rtab .any (opsOf Try.f34 15) = spec_GreatestFlow.T15 := by kernel_rfl
theorem spec_GreatestFlow.bits15 : waitsOk spec_GreatestFlow.T15.2 spec_GreatestFlow.B15 = true := by kernel_rfl
def spec_GreatestFlow.T17 : Bool × List (List Nat × List Nat) := (true, [([], []), ([], []), ([], []), ([1, 2], [1, 2]), ([3], [3]), ([4], [4]), ([], []), ([], []), ([], []), ([7, 8], [7, 8]), ([9], [9]), ([10], [10]), ([6, 11], [6, 11]), ([12], [12]), ([], []), ([13, 14], [13, 14]), ([0, 5, 0, 1, 2, 3, 4, 5, 6, 7, 8, 9, 10, 11, 12, 13, 14, 15], [0, 5]), ([16, 15, 0, 1, 2, 3, 4, 5, 6, 7, 8, 9, 10, 11, 12, 13, 14, 15], [15, 16])])
def spec_GreatestFlow.B17 : List Nat := [0, 0, 0, 6, 14, 30, 0, 0, 0, 384, 896, 1920, 4032, 8128, 0, 32704, 65535, 131071]
theorem spec_GreatestFlow.tab17 : rtab .any (opsOf Try.f34 17) = spec_GreatestFlow.T17 := by kernel_rfl
theorem spec_GreatestFlow.bits17 : waitsOk spec_GreatestFlow.T17.2 spec_GreatestFlow.B17 = true := by kernel_rfl
def spec_GreatestFlow.T18 : Bool × List (List Nat × List Nat) := (true, [([], []), ([], []), ([], []), ([1, 2], [1, 2]), ([3], [3]), ([4], [4]), ([5], [5]), ([], []), ([], []), ([], []), ([8, 9], [8, 9]), ([10], [10]), ([11], [11]), ([12], [12]), ([7, 13], [7, 13]), ([14], [14]), ([], []), ([15, 16], [15, 16]), ([0, 6, 0, 1, 2, 3, 4, 5, 6, 7, 8, 9, 10, 11, 12, 13, 14, 15, 16, 17], [0, 6]), ([18, 17, 0, 1, 2, 3, 4, 5, 6, 7, 8, 9, 10, 11, 12, 13, 14, 15, 16, 17], [17, 18])])
def spec_GreatestFlow.B18 : List Nat := [0, 0, 0, 6, 14, 30, 62, 0, 0, 0, 768, 1792, 3840, 7936, 16256, 32640, 0, 130944, 262143, 524287]
theorem spec_GreatestFlow.tab18 : rtab .any (opsOf Try.f34 18) = spec_GreatestFlow.T18 := by kernel_rfl
theorem spec_GreatestFlow.bits18 : waitsOk spec_GreatestFlow.T18.2 spec_GreatestFlow.B18 = true := by kernel_rfl
set_option maxHeartbeats 8000000 in
set_option maxRecDepth 100000 in
theorem spec_GreatestFlow.calls (k : Nat) (a0_0 : Int) (A0_1 : Option Addr) (c0_1 : Nat) (l0_1 : List (S60)) (a1 : Int) (a2 : Int) (r1 : List Int) (r2 : Bool) (w : World) (hr0_1 : Kd.C k60 w A0_1 l0_1.length l0_1) (hc0_1 : l0_1.length ≤ c0_1) (h : spec_GreatestFlow.f k a0_0 l0_1 a1 a2 = some (r1, r2)) :
    Calls Try.prog 34 #[.agg #[.int .i64 a0_0, .slice A0_1 l0_1.length c0_1], .int .i64 a1, .int .i64 a2] w fun e w' => ∃ v0_ : Value, e = .returned (.tuple #[v0_, .bool r2]) ∧ Kd.R (Kd.int .i64) 3 w' w.heap.size (fun _ => True) v0_ r1 ∧ Below w.heap.size w w' := by
  have hu29 := Try.underlying29
  have HR0_1 := Aside0.mk hr0_1
  have HC0_1 := Aside0.mk hc0_1
  clear hr0_1 hc0_1
  have HB := Aside0.mk (Below.refl w.heap.size w)
  have H : ((spec_l17Ends.f k a0_0 l0_1 a1 a2).bind fun t430 => (if t430 = true then (if 0 ≤ (l0_1.length : Int) then (if ((l0_1.length : Int) : Int).toNat ≤ 35184372088832 then (spec_GreatestFlow.l0 k a1 a2 (List.replicate ((l0_1.length : Int) : Int).toNat 0) a0_0 l0_1) else (none)) else (none)) else (some (([] : List Int), false)))) = some (r1, r2) := h
  clear h
  replace H := Option.bind_eq_some_iff.mp H
  obtain ⟨t430, A40, H⟩ := H
  replace H : (if t430 = true then (if 0 ≤ (l0_1.length : Int) then (if ((l0_1.length : Int) : Int).toNat ≤ 35184372088832 then (spec_GreatestFlow.l0 k a1 a2 (List.replicate ((l0_1.length : Int) : Int).toNat 0) a0_0 l0_1) else (none)) else (none)) else (some (([] : List Int), false))) = some (r1, r2) := H
  have A4 := Aside0.mk A40
  clear A40
  by_cases c5 : t430 = true
  · subst c5
    have H1 : (if 0 ≤ (l0_1.length : Int) then (if ((l0_1.length : Int) : Int).toNat ≤ 35184372088832 then (spec_GreatestFlow.l0 k a1 a2 (List.replicate ((l0_1.length : Int) : Int).toNat 0) a0_0 l0_1) else (none)) else (none)) = some (r1, r2) := by rw [if_pos rfl] at H; exact H
    clear H
    have H := H1
    clear H1
    by_cases c6 : 0 ≤ (l0_1.length : Int)
    · rw [if_pos c6] at H
      have c6b0 := eq_true c6
      have c6b1 : decide (0 ≤ (l0_1.length : Int)) = true := decide_eq_true c6
      clear c6
      by_cases c7 : ((l0_1.length : Int) : Int).toNat ≤ 35184372088832
      · rw [if_pos c7] at H
        have c7b0 := eq_true c7
        have c7b1 : decide (((l0_1.length : Int) : Int).toNat ≤ 35184372088832) = true := decide_eq_true c7
        clear c7
        obtain ⟨y431, hy431⟩ : ∃ y_ : List Int, y_ = (List.replicate ((l0_1.length : Int) : Int).toNat 0) := ⟨_, rfl⟩
        replace H : (spec_GreatestFlow.l0 k a1 a2 y431 a0_0 l0_1) = some (r1, r2) := by first | (rw [hy431]; with_reducible exact H) | (have H2_ := (Option.bind_some _ _).symm.trans H; rw [hy431]; with_reducible exact H2_) | (have H2_ := (Option.bind_some _ _).symm.trans H; with_reducible exact H2_) | with_reducible exact H | (rw [hy431]; exact H) | exact H
        have Ny431 := Aside0.mk hy431
        clear hy431
        have H' := Aside0.mk H
        clear H
        go_enter Try.func34, Try.ntmps34
        go_wp2_with (first | ((with_reducible refine gate_dst (N := 3) rfl ?_); refine box_event ?hg (N := 3) ?hd (cs := #[.int .i64 a0_0, .slice A0_1 l0_1.length c0_1]) (t := 29) ?hr ?_; (case hd => rfl); (case hg => rfl); (case hr => first | (go_simp; done) | (go_simp; rfl)); intro gb429 hg w8 hbox hb; have BK429 := Aside0.mk (hbox); have GW429 := Aside0.mk ((bsz hg : w.heap.size ≤ gb429)); have GE429 := Aside0.mk ((bsz hg : w.heap.size ≤ gb429)); replace HB := Aside0.mk (below_step bel hb); clear hb hbox hg; obtain ⟨hcz9_0, hcz9_1, hfz9_0, hfz9_1⟩ := cf2 BK429.out) | ((with_reducible refine gate_callee (f := 43) rfl ?_); refine goesL_ (some 21) rfl rfl Try.func43 (by kernel_rfl) rfl #[.agg #[.int .i64 a0_0, .slice A0_1 l0_1.length c0_1], .int .i64 a1, .int .i64 a2] rfl ga ?_; (with_reducible refine (spec_l17Ends.calls k a0_0 _ _ l0_1 a1 a2 true _ ?side1 ?side2 A4.out).mono ?_); (case side1 => exact ck (Kd.C_below HR0_1.out HB.out)); (case side2 => exact HC0_1.out); rintro e w10 ⟨rfl, hb⟩; refine ⟨_, rfl, ?_⟩; replace BK429 := Aside0.mk (bb BK429.out hb); replace HB := Aside0.mk (below_step bel hb); (try clear hb); obtain ⟨hcz11_0, hcz11_1, hfz11_0, hfz11_1⟩ := cf2 BK429.out) | ((with_reducible refine gate_dst (N := 26) rfl ?_); refine Kd.R_make (Kd.int .i64) _ 3 rfl (N := 26) rfl 33 _ _ rfl (l0_1.length : Int) rfl rfl Try.underlying33 (.int .i64 0) 8 info3 rfl (by decide) (by omega) 0 (ok := fun _ => True) (okp := fun _ => True) rfl (fun _ hk => hk) trivial (asm) (Nat.le_trans (Nat.mul_le_mul_right _ (asm : (l0_1.length : Int).toNat ≤ 35184372088832)) (by omega)) (Below.refl _ _) (Nat.le_refl _) ?_; intro v432 w12 ho13 hb hg_ hnew_; clear hg_ hnew_; (first | rw [← Ny431.out] at ho13 | (simp only [Int.reduceToNat] at ho13; rw [← Ny431.out] at ho13)); have HO433 := Aside0.mk (Kd.R_lower ho13 (below_size bel)); replace BK429 := Aside0.mk (bb BK429.out hb); replace HB := Aside0.mk (below_step bel hb); clear hb ho13))
        go_loopg [] k (fun kq w' => ∃ (x8_1 : List Int), Aside0 (spec_GreatestFlow.l0 kq a1 a2 x8_1 a0_0 l0_1 = some (r1, r2)) ∧ Aside0 (kq ≤ k) ∧ Aside0 (Kd.R (Kd.int .i64) 3 w' w.heap.size (fun _ => True) v432 x8_1) ∧ Aside0 (w'.heap[gb429]? = some (.cells #[.int .i64 a0_0, (.slice A0_1 l0_1.length c0_1)] 29 (0, 0))) ∧ Aside0 (Below w.heap.size w w'))
        case atStart => exact ⟨(y431), H', ⟨Nat.le_refl _⟩, ⟨rk HO433.out⟩, ⟨bk BK429.out⟩, ⟨bel⟩⟩
        case round =>
          clear H'
          try clear p2; try clear c3; try clear c4; try clear c5; try clear c6; try clear c6b0; try clear c6b1; try clear c7; try clear c7b0; try clear c7b1; try clear hcz11_0; try clear hcz11_1; try clear hcz9_0; try clear hcz9_1; try clear hfz11_0; try clear hfz11_1; try clear hfz9_0; try clear hfz9_1
          obtain ⟨x8_1, HA, HK1, HO_8, BK429, HB⟩ := hrel
          cases gk with
          | zero => exact absurd HA.out (by simp [spec_GreatestFlow.l0])
          | succ k1 =>
            have H := HA.out
            clear HA
            simp only [spec_GreatestFlow.l0] at H
            replace H := Option.bind_eq_some_iff.mp H
            obtain ⟨⟨t434, t437⟩, A140, H⟩ := H
            replace H : (if 0 ≤ a2 then (if a2 < (t437.length : Int) then (if rdOf false t437 a2 = true then (spec_GreatestFlow.l1 k1 a1 a2 x8_1 t434 1000 a2 a0_0 l0_1) else (some (x8_1, true))) else (none)) else (none)) = some (r1, r2) := H
            have A14 := Aside0.mk A140
            clear A140
            by_cases c15 : 0 ≤ a2
            · rw [if_pos c15] at H
              have c15b0 : decide (0 ≤ a2) = true := decide_eq_true c15
              clear c15
              by_cases c16 : a2 < (t437.length : Int)
              · rw [if_pos c16] at H
                have c16b0 : decide (a2 < (t437.length : Int)) = true := decide_eq_true c16
                clear c16
                obtain ⟨bq17, hbq17⟩ : ∃ b_ : Bool, b_ = (rdOf false t437 a2) := ⟨_, rfl⟩
                replace H : (if bq17 = true then (spec_GreatestFlow.l1 k1 a1 a2 x8_1 t434 1000 a2 a0_0 l0_1) else (some (x8_1, true))) = some (r1, r2) := by rw [← hbq17] at H; exact H
                have Nbq17 := Aside0.mk hbq17
                clear hbq17
                by_cases c18 : bq17 = true
                · subst c18
                  have H1 : (spec_GreatestFlow.l1 k1 a1 a2 x8_1 t434 1000 a2 a0_0 l0_1) = some (r1, r2) := by rw [if_pos rfl] at H; exact H
                  clear H
                  have H := H1
                  clear H1
                  have H' := Aside0.mk H
                  clear H
                  obtain ⟨hcz19_0, hcz19_1, hfz19_0, hfz19_1⟩ := cf2 BK429.out
                  obtain ⟨Ao20, co20, eo20⟩ := Kd.R_slice HO_8.out
                  subst eo20
                  go_wp2_with (first | ((with_reducible refine gate_callee (f := 45) rfl ?_); refine goesL_ (some 31) rfl rfl Try.func45 (by kernel_rfl) rfl #[.agg #[.int .i64 a0_0, .slice A0_1 l0_1.length c0_1], .int .i64 a1, .slice Ao20 x8_1.length co20] rfl ga ?_; (with_reducible refine (spec_l17Reach.calls k1 a0_0 _ _ l0_1 a1 _ _ x8_1 t434 t437 _ ?side1 ?side2 ?side3 ?side4 A14.out).mono ?_); (case side1 => exact ck (Kd.C_below HR0_1.out HB.out)); (case side2 => exact HC0_1.out); (case side3 => exact ck (Kd.R_reads' HO_8.out).2.2); (case side4 => exact (Kd.R_reads' HO_8.out).2.1); rintro e w21 ⟨v435, v438, rfl, ho0, ho1, hb⟩; refine ⟨_, rfl, ?_⟩; have HO436 := Aside0.mk (Kd.R_lower (Kd.R_new' ho0 (Kd.R_lt (rk HO_8.out))) (below_size bel)); have HO439 := Aside0.mk (Kd.R_lower ho1 (below_size bel)); replace HO_8 := Aside0.mk (Kd.R_elder' (rk HO_8.out) (Kd.R_base ho0) hb); replace BK429 := Aside0.mk (bb BK429.out hb); replace HB := Aside0.mk (below_step bel hb); (try clear hb); (try clear ho0); (try clear ho1); obtain ⟨Ao22, co22, eo22⟩ := Kd.R_slice HO439.out; subst eo22; have p440 : 0 ≤ (a2 : Int) := asm; have q440 : a2 < (t437.length : Int) := asm; obtain ⟨ad440, e440, hx440_0⟩ := Kd.at_bool (Kd.R_reads' HO439.out).2.2 a2 p440 q440; (try rw [← Nbq17.out] at hx440_0); cases e440; replace p440 := eq_true p440; replace q440 := eq_true q440))
                  go_loopg [11, 12] k1 (fun kq v11 v12 w' => ∃ (x11_2 : Int) (x12_2 : Int), v11 = .int .i64 x11_2 ∧ v12 = .int .i64 x12_2 ∧ Aside0 (spec_GreatestFlow.l1 kq a1 a2 x8_1 t434 x11_2 x12_2 a0_0 l0_1 = some (r1, r2)) ∧ Aside0 (kq ≤ k1) ∧ Aside0 (Kd.R (Kd.int .i64) 3 w' w.heap.size (fun k_ => some k_ ≠ (v435 : Value).ownBlock) (.slice Ao20 x8_1.length co20) x8_1) ∧ Aside0 (Kd.R (Kd.int .i64) 3 w' w.heap.size (fun k_ => some k_ ≠ ((.slice Ao20 x8_1.length co20) : Value).ownBlock) v435 t434) ∧ Aside0 (w'.heap[gb429]? = some (.cells #[.int .i64 a0_0, (.slice A0_1 l0_1.length c0_1)] 29 (0, 0))) ∧ Aside0 (Below w.heap.size w w'))
                  case atStart => exact ⟨(1000), (a2), (es), (es), H', ⟨Nat.le_refl _⟩, ⟨by (with_reducible repeat (first | apply Kd.R_alloc | apply Kd.R_drewN | apply Kd.R_drew)); exact Kd.R_mono HO_8.out (fun _ hk => hk.2)⟩, ⟨by (with_reducible repeat (first | apply Kd.R_alloc | apply Kd.R_drewN | apply Kd.R_drew)); exact Kd.R_mono HO436.out (fun _ hk => hk.2)⟩, ⟨bk BK429.out⟩, ⟨bel⟩⟩
                  case round =>
                    clear H'
                    try clear c1; try clear q1; try clear p2; try clear c3; try clear c4; try clear p4; try clear q4; try clear hx4; try clear c5; try clear c6; try clear c6b0; try clear c6b1; try clear c7; try clear c7b0; try clear c7b1; try clear c15; try clear c15b0; try clear c16; try clear c16b0; try clear q17; try clear c18; try clear hcz11_0; try clear hcz11_1; try clear hcz19_0; try clear hcz19_1; try clear hcz9_0; try clear hcz9_1; try clear hfz11_0; try clear hfz11_1; try clear hfz19_0; try clear hfz19_1; try clear hfz9_0; try clear hfz9_1; try clear hx440_0; try clear p2; try clear p440; try clear q440
                    obtain ⟨x11_2, x12_2, rfl, rfl, HA, HK2, HO_8, HO_9, BK429, HB⟩ := hrel
                    cases gk with
                    | zero => exact absurd HA.out (by simp [spec_GreatestFlow.l1])
                    | succ k2 =>
                      have H := HA.out
                      clear HA
                      simp only [spec_GreatestFlow.l1] at H
                      by_cases c23 : x12_2 = a1
                      · rw [if_pos c23] at H
                        have c23b0 : (x12_2 == a1) = true := beq_iff_eq.mpr c23
                        have c23b1 : (x12_2 != a1) = false := bne_eq_false_iff_eq.mpr c23
                        clear c23
                        have H' := Aside0.mk H
                        clear H
                        go_wp2
                        go_loopg [15] k2 (fun kq v15 w' => ∃ (x8_3 : List Int) (x15_3 : Int), v15 = .int .i64 x15_3 ∧ Aside0 (spec_GreatestFlow.l2 kq a1 a2 x8_3 t434 x11_2 x15_3 a0_0 l0_1 = some (r1, r2)) ∧ Aside0 (kq ≤ k2) ∧ Aside0 (Kd.R (Kd.int .i64) 3 w' w.heap.size (fun k_ => some k_ ≠ (v435 : Value).ownBlock) (.slice Ao20 x8_1.length co20) x8_3) ∧ Aside0 (Kd.R (Kd.int .i64) 3 w' w.heap.size (fun k_ => some k_ ≠ ((.slice Ao20 x8_1.length co20) : Value).ownBlock) v435 t434) ∧ Aside0 (w'.heap[gb429]? = some (.cells #[.int .i64 a0_0, (.slice A0_1 l0_1.length c0_1)] 29 (0, 0))) ∧ Aside0 (Below w.heap.size w w'))
                        case atStart => exact ⟨(x8_1), (a2), (es), H', ⟨Nat.le_refl _⟩, ⟨rk HO_8.out⟩, ⟨rk HO_9.out⟩, ⟨bk BK429.out⟩, ⟨bel⟩⟩
                        case round =>
                          clear H'
                          try clear c1; try clear q1; try clear c2; try clear p2; try clear c3; try clear c4; try clear p4; try clear q4; try clear hx4; try clear c5; try clear c6; try clear c6b0; try clear c6b1; try clear c7; try clear c7b0; try clear c7b1; try clear c15; try clear c15b0; try clear c16; try clear c16b0; try clear q17; try clear c18; try clear c23; try clear c23b0; try clear c23b1; try clear hcz11_0; try clear hcz11_1; try clear hcz19_0; try clear hcz19_1; try clear hcz9_0; try clear hcz9_1; try clear hfz11_0; try clear hfz11_1; try clear hfz19_0; try clear hfz19_1; try clear hfz9_0; try clear hfz9_1; try clear hx440_0; try clear p2; try clear p4; try clear p440; try clear q1; try clear q17; try clear q4; try clear q440
                          obtain ⟨x8_3, x15_3, rfl, HA, HK3, HO_8, HO_9, BK429, HB⟩ := hrel
                          have hl8_3 := (Kd.R_reads' HO_8.out).1
                          rw [hl8_3] at HO_8
                          (try simp only [hl8_3])
                          (try simp only [hl8_3] at BK429)
                          (try simp only [hl8_3] at HO_9)
                          cases gk with
                          | zero => exact absurd HA.out (by simp [spec_GreatestFlow.l2])
                          | succ k3 =>
                            have H := HA.out
                            clear HA
                            simp only [spec_GreatestFlow.l2] at H
                            by_cases c24 : x15_3 = a1
                            · rw [if_pos c24] at H
                              have c24b0 : (x15_3 == a1) = true := beq_iff_eq.mpr c24
                              have c24b1 : (x15_3 != a1) = false := bne_eq_false_iff_eq.mpr c24
                              clear c24
                              have H' := Aside0.mk H
                              clear H
                              go_wp2
                              (try simp only [← hl8_3])
                              go_roundg k3
                              case measure => have := HK1.out; have := HK2.out; have := HK3.out; omega
                              case rel => exact ⟨(x8_3), H', ⟨by have := HK1.out; have := HK2.out; have := HK3.out; omega⟩, ⟨by (try simp only [hl8_3]); (with_reducible repeat (first | apply Kd.R_alloc | apply Kd.R_drewN | apply Kd.R_drew)); exact Kd.R_mono HO_8.out (fun _ hk => trivial)⟩, ⟨by (try simp only [hl8_3]); (with_reducible repeat (first | refine blk_drewN ?_ _ | refine blk_drew ?_ | refine blk_alloc ?_ _)); exact BK429.out⟩, ⟨bel⟩⟩
                            · rw [if_neg c24] at H
                              have c24b0 : (x15_3 == a1) = false := beq_eq_false_iff_ne.mpr c24
                              have c24b1 : (x15_3 != a1) = true := bne_iff_ne.mpr c24
                              by_cases c25 : 0 ≤ x15_3
                              · rw [if_pos c25] at H
                                have c25b0 : decide (0 ≤ x15_3) = true := decide_eq_true c25
                                clear c25
                                by_cases c26 : x15_3 < (t434.length : Int)
                                · rw [if_pos c26] at H
                                  have c26b0 : decide (x15_3 < (t434.length : Int)) = true := decide_eq_true c26
                                  clear c26
                                  replace H := Option.bind_eq_some_iff.mp H
                                  obtain ⟨⟨t445, t446⟩, A270, H⟩ := H
                                  replace H : (if (rd t434 x15_3) > 0 then (if 0 ≤ (wrap64 ((rd t434 x15_3) - 1)) then (if (wrap64 ((rd t434 x15_3) - 1)) < (x8_3.length : Int) then (spec_GreatestFlow.l2 k3 a1 a2 (x8_3.set ((wrap64 ((rd t434 x15_3) - 1)) : Int).toNat (wrap64 ((rd x8_3 (wrap64 ((rd t434 x15_3) - 1))) + x11_2))) t434 x11_2 t445 a0_0 l0_1) else (none)) else (none)) else (if 0 ≤ (wrap64 ((wrap64 (-(rd t434 x15_3))) - 1)) then (if (wrap64 ((wrap64 (-(rd t434 x15_3))) - 1)) < (x8_3.length : Int) then (spec_GreatestFlow.l2 k3 a1 a2 (x8_3.set ((wrap64 ((wrap64 (-(rd t434 x15_3))) - 1)) : Int).toNat (wrap64 ((rd x8_3 (wrap64 ((wrap64 (-(rd t434 x15_3))) - 1))) - x11_2))) t434 x11_2 t445 a0_0 l0_1) else (none)) else (none))) = some (r1, r2) := H
                                  have A27 := Aside0.mk A270
                                  clear A270
                                  by_cases c28 : (rd t434 x15_3) > 0
                                  · rw [if_pos c28] at H
                                    have c28b0 : decide (0 < (rd t434 x15_3)) = true := decide_eq_true c28
                                    clear c28
                                    obtain ⟨ji29, hji29⟩ : ∃ j_ : Int, (wrap64 ((rd t434 x15_3) - 1)) = j_ := ⟨_, rfl⟩
                                    replace H : (if 0 ≤ (ji29) then (if (ji29) < (x8_3.length : Int) then (spec_GreatestFlow.l2 k3 a1 a2 (x8_3.set ((ji29) : Int).toNat (wrap64 ((rd x8_3 (ji29)) + x11_2))) t434 x11_2 t445 a0_0 l0_1) else (none)) else (none)) = some (r1, r2) := by first | (rw [hji29] at H; exact H) | (simp only [hji29] at H ⊢; exact H)
                                    (try rw [hji29] at A27)
                                    have hji29w : (IntKind.i64.wrap ((rd t434 x15_3) - 1)) = ji29 := (i64_w _).trans hji29
                                    by_cases c30 : 0 ≤ (ji29)
                                    · rw [if_pos c30] at H
                                      have c30b0 : decide (0 ≤ (ji29)) = true := decide_eq_true c30
                                      clear c30
                                      by_cases c31 : (ji29) < (x8_3.length : Int)
                                      · rw [if_pos c31] at H
                                        have c31b0 : decide ((ji29) < (x8_3.length : Int)) = true := decide_eq_true c31
                                        clear c31
                                        obtain ⟨y451, hy451⟩ : ∃ y_ : List Int, y_ = (x8_3.set ((ji29) : Int).toNat (wrap64 ((rd x8_3 (ji29)) + x11_2))) := ⟨_, rfl⟩
                                        replace H : (spec_GreatestFlow.l2 k3 a1 a2 y451 t434 x11_2 t445 a0_0 l0_1) = some (r1, r2) := by first | (rw [hy451]; with_reducible exact H) | (have H2_ := (Option.bind_some _ _).symm.trans H; rw [hy451]; with_reducible exact H2_) | (have H2_ := (Option.bind_some _ _).symm.trans H; with_reducible exact H2_) | with_reducible exact H | (rw [hy451]; exact H) | exact H
                                        have Ny451 := Aside0.mk hy451
                                        clear hy451
                                        have H' := Aside0.mk H
                                        clear H
                                        try go_wp2
                                        replace HO_8 := Aside0.mk (Kd.R_drew HO_8.out)
                                        replace HO_9 := Aside0.mk (Kd.R_drew HO_9.out)
                                        replace BK429 := Aside0.mk (blk_drew BK429.out)
                                        replace HB := Aside0.mk (below_drew1 HB.out)
                                        obtain ⟨Ao34, co34, eo34⟩ := Kd.R_slice HO_9.out
                                        (first | subst eo34 | (injection eo34 with f1_ f2_ f3_; have f4_ := f1_.symm; have f5_ := f3_.symm; clear f1_ f2_ f3_; subst f4_; subst f5_))
                                        have p444 : 0 ≤ (x15_3 : Int) := asm
                                        have q444 : x15_3 < (t434.length : Int) := asm
                                        obtain ⟨ad444, e444, hx444_0⟩ := Kd.at_int (Kd.R_reads' HO_9.out).2.2 x15_3 p444 q444
                                        cases e444
                                        replace p444 := eq_true p444
                                        replace q444 := eq_true q444
                                        refine start_ (n := 12) (S := fun w' => w'.cell? ⟨gb429, 0, none⟩ = some (.int .i64 a0_0) ∧ w'.cell? ⟨gb429, 1, none⟩ = some (.slice A0_1 l0_1.length c0_1) ∧ w'.cell? (ad444.add (x15_3).toNat) = some (.int .i64 (rd t434 x15_3))) (ds := []) #[false, false, false, false, false, false, false, false, false, false, false, false] (by kernel_rfl) rfl rfl ⟨(blk_cell BK429.out 0).trans rfl, (blk_cell BK429.out 1).trans rfl, hx444_0⟩ (fun hHeld => ?_); refine with_tabW spec_GreatestFlow.tab15 spec_GreatestFlow.bits15 (fun HT_ HW_ => ?_)
                                        generalize wr.drew = w33 at HO_8 HO_9 BK429 HB hx444_0 hHeld ⊢
                                        refine pure_ (i := 1) (N := some 64) (v := ?_) (a' := ?_) #[false, true, false, false, false, false, false, false, false, false, false, false] rfl rfl (any_of HT_.out (by kernel_rfl)) (fun _ _ _ h => h) (Or.inl ⟨by rfl, ?_⟩) ?_ ?_
                                        rotate_left
                                        · intro w'
                                          go_simp
                                          with_reducible rfl
                                        rotate_left
                                        · simp only [Act.put, List.setIfInBounds_toArray, List.set_cons_zero, List.set_cons_succ, i64_w, i32_w]
                                          rfl
                                        refine pure_ (i := 2) (N := some 65) (v := ?_) (a' := ?_) #[false, true, true, false, false, false, false, false, false, false, false, false] rfl rfl (any_of HT_.out (by kernel_rfl)) (fun _ _ _ h => h) (Or.inl ⟨by rfl, ?_⟩) ?_ ?_
                                        rotate_left
                                        · intro w'
                                          go_simp
                                          with_reducible rfl
                                        rotate_left
                                        · simp only [Act.put, List.setIfInBounds_toArray, List.set_cons_zero, List.set_cons_succ, i64_w, i32_w]
                                          rfl
                                        refine pure_ (i := 3) (N := some 66) (v := ?_) (a' := ?_) #[false, true, true, true, false, false, false, false, false, false, false, false] rfl rfl (any_of HT_.out (by kernel_rfl)) (fun _ _ _ h => h) (Or.inl ⟨by rfl, ?_⟩) ?_ ?_
                                        rotate_left
                                        · intro w'
                                          go_simp
                                          with_reducible rfl
                                        rotate_left
                                        · simp only [Act.put, List.setIfInBounds_toArray, List.set_cons_zero, List.set_cons_succ, i64_w, i32_w]
                                          rfl
                                        refine pure_ (i := 4) (N := some 67) (v := ?_) (a' := ?_) #[false, true, true, true, true, false, false, false, false, false, false, false] rfl rfl (any_of HT_.out (by kernel_rfl)) (fun _ _ _ h => h) (Or.inl ⟨by rfl, ?_⟩) ?_ ?_
                                        rotate_left
                                        · intro w'
                                          go_simp
                                          with_reducible rfl
                                        rotate_left
                                        · simp only [Act.put, List.setIfInBounds_toArray, List.set_cons_zero, List.set_cons_succ, i64_w, i32_w]
                                          rfl
                                        refine take_ (i := 0) (N := some 63) (v := ?_) (a' := ?_) #[true, true, true, true, true, false, false, false, false, false, false, false] rfl rfl (take_ofW HT_.out HW_.out (by kernel_rfl)) (fun _ _ _ h => h) (Or.inl ⟨by rfl, ?_⟩) hHeld ?_ ?_
                                        rotate_left
                                        · rintro w' ⟨s0, s1, s2⟩
                                          go_simp
                                          with_reducible rfl
                                        rotate_left
                                        · simp only [Act.put, List.setIfInBounds_toArray, List.set_cons_zero, List.set_cons_succ, i64_w, i32_w]
                                          rfl
                                        refine take_ (i := 5) (N := some 68) (v := ?_) (a' := ?_) #[true, true, true, true, true, true, false, false, false, false, false, false] rfl rfl (take_ofW HT_.out HW_.out (by kernel_rfl)) (fun _ _ _ h => h) (Or.inl ⟨by rfl, ?_⟩) hHeld ?_ ?_
                                        rotate_left
                                        · rintro w' ⟨s0, s1, s2⟩
                                          go_simp
                                          with_reducible rfl
                                        rotate_left
                                        · simp only [Act.put, List.setIfInBounds_toArray, List.set_cons_zero, List.set_cons_succ, i64_w, i32_w]
                                          rfl
                                        refine one_ (i := 6) (N := some 69) #[true, true, true, true, true, true, true, false, false, false, false, false] rfl rfl (one_of HT_.out (by kernel_rfl)) (by decide) (fun K hK => ?_)
                                        refine goes_ Try.func48 (by kernel_rfl) rfl #[.agg #[.int .i64 a0_0, .slice A0_1 l0_1.length c0_1], .slice Ao20 x8_3.length co20, .int .i64 (rd t434 x15_3)] (by rfl) rfl rfl ga ?_
                                        with_reducible refine (spec_l17Back.calls a0_0 _ _ l0_1 _ _ x8_3 (rd t434 x15_3) t445 t446 _ ?side1 ?side2 ?side3 ?side4 A27.out).mono ?_
                                        (case side1 => exact ck (Kd.C_below HR0_1.out HB.out))
                                        (case side2 => exact HC0_1.out)
                                        (case side3 => exact ck (Kd.R_reads' HO_8.out).2.2)
                                        (case side4 => exact (Kd.R_reads' HO_8.out).2.1)
                                        rintro e w35 ⟨rfl, hb⟩
                                        have HS2_ := (hb.cell (World.block_lt_of_cell? _ _ (hHeld.2.2))).trans (hHeld.2.2)
                                        refine ⟨_, rfl, ?_⟩
                                        replace HO_8 := Aside0.mk (Kd.R_below (rk HO_8.out) hb)
                                        replace HO_9 := Aside0.mk (Kd.R_below (rk HO_9.out) hb)
                                        replace BK429 := Aside0.mk (bb BK429.out hb)
                                        replace HB := Aside0.mk (below_step bel hb)
                                        (try clear hb)
                                        (try clear hb2)
                                        (try clear hk)
                                        (try clear hi)
                                        refine hK.out _ _ ⟨(blk_cell BK429.out 0).trans rfl, (blk_cell BK429.out 1).trans rfl, HS2_⟩ (fun hHeld => ?_)
                                        clear hK K
                                        refine norm_ (a' := ?_) ?_ ?_
                                        rotate_left
                                        · show Act.put _ (some 69) _ = _
                                          simp only [Act.put, List.setIfInBounds_toArray, List.set_cons_zero, List.set_cons_succ, i64_w, i32_w]
                                          rfl
                                        refine pure_ (i := 7) (N := some 62) (v := ?_) (a' := ?_) #[true, true, true, true, true, true, true, true, false, false, false, false] rfl rfl (any_of HT_.out (by kernel_rfl)) (fun _ _ _ h => h) (Or.inl ⟨by rfl, ?_⟩) ?_ ?_
                                        rotate_left
                                        · intro w'
                                          go_simp
                                          with_reducible rfl
                                        rotate_left
                                        · simp only [Act.put, List.setIfInBounds_toArray, List.set_cons_zero, List.set_cons_succ, i64_w, i32_w]
                                          rfl
                                        refine pure_ (i := 8) (N := some 70) (v := ?_) (a' := ?_) #[true, true, true, true, true, true, true, true, true, false, false, false] rfl rfl (any_of HT_.out (by kernel_rfl)) (fun _ _ _ h => h) (Or.inl ⟨by rfl, ?_⟩) ?_ ?_
                                        rotate_left
                                        · intro w'
                                          go_simp
                                          with_reducible rfl
                                        rotate_left
                                        · simp only [Act.put, List.setIfInBounds_toArray, List.set_cons_zero, List.set_cons_succ, i64_w, i32_w]
                                          rfl
                                        refine pure_ (i := 9) (N := some 71) (v := ?_) (a' := ?_) #[true, true, true, true, true, true, true, true, true, true, false, false] rfl rfl (any_of HT_.out (by kernel_rfl)) (fun _ _ _ h => h) (Or.inl ⟨by rfl, ?_⟩) ?_ ?_
                                        rotate_left
                                        · intro w'
                                          go_simp
                                          with_reducible rfl
                                        rotate_left
                                        · simp only [Act.put, List.setIfInBounds_toArray, List.set_cons_zero, List.set_cons_succ, i64_w, i32_w]
                                          rfl
                                        refine pure_ (i := 10) (N := some 16) (v := ?_) (a' := ?_) #[true, true, true, true, true, true, true, true, true, true, true, false] rfl rfl (any_of HT_.out (by kernel_rfl)) (fun _ _ _ h => h) (Or.inl ⟨by rfl, ?_⟩) ?_ ?_
                                        rotate_left
                                        · intro w'
                                          go_simp
                                          with_reducible rfl
                                        rotate_left
                                        · simp only [Act.put, List.setIfInBounds_toArray, List.set_cons_zero, List.set_cons_succ, i64_w, i32_w]
                                          rfl
                                        refine pure_ (i := 11) (N := some 17) (v := ?_) (a' := ?_) #[true, true, true, true, true, true, true, true, true, true, true, true] rfl rfl (any_of HT_.out (by kernel_rfl)) (fun _ _ _ h => h) (Or.inl ⟨by rfl, ?_⟩) ?_ ?_
                                        rotate_left
                                        · intro w'
                                          go_simp
                                          with_reducible rfl
                                        rotate_left
                                        · simp only [Act.put, List.setIfInBounds_toArray, List.set_cons_zero, List.set_cons_succ, i64_w, i32_w]
                                          rfl
                                        refine done_ (done_of HT_.out (by kernel_rfl)) ?_
                                        have p447 : 0 ≤ (x15_3 : Int) := asm
                                        have q447 : x15_3 < (t434.length : Int) := asm
                                        obtain ⟨ad447, e447, hx447_0⟩ := Kd.at_int (Kd.R_reads' HO_9.out).2.2 x15_3 p447 q447
                                        obtain rfl : ad444 = ad447 := (by injection e447)
                                        replace p447 := eq_true p447
                                        replace q447 := eq_true q447
                                        try go_wp2
                                        replace HO_8 := Aside0.mk (Kd.R_drew HO_8.out)
                                        replace HO_9 := Aside0.mk (Kd.R_drew HO_9.out)
                                        replace BK429 := Aside0.mk (blk_drew BK429.out)
                                        replace HB := Aside0.mk (below_drew1 HB.out)
                                        have p448 : 0 ≤ (x15_3 : Int) := asm
                                        have q448 : x15_3 < (t434.length : Int) := asm
                                        obtain ⟨ad448, e448, hx448_0⟩ := Kd.at_int (Kd.R_reads' HO_9.out).2.2 x15_3 p448 q448
                                        obtain rfl : ad444 = ad448 := (by injection e448)
                                        replace p448 := eq_true p448
                                        replace q448 := eq_true q448
                                        have p449 : 0 ≤ (x15_3 : Int) := asm
                                        have q449 : x15_3 < (t434.length : Int) := asm
                                        obtain ⟨ad449, e449, hx449_0⟩ := Kd.at_int (Kd.R_reads' HO_9.out).2.2 x15_3 p449 q449
                                        obtain rfl : ad444 = ad449 := (by injection e449)
                                        replace p449 := eq_true p449
                                        replace q449 := eq_true q449
                                        have p450 : 0 ≤ ((ji29) : Int) := asm
                                        have q450 : (ji29) < (x8_3.length : Int) := asm
                                        obtain ⟨ad450, e450, hx450_0⟩ := Kd.at_int (Kd.R_reads' HO_8.out).2.2 (ji29) p450 q450
                                        cases e450
                                        replace p450 := eq_true p450
                                        replace q450 := eq_true q450
                                        have p32 : 0 ≤ ((ji29) : Int) := asm
                                        have q32 : ((ji29) : Int) < ((x8_3.length : Int) : Int) := asm
                                        obtain ⟨go32, co32, eo32, gb32, gl32, cl32, HG32⟩ := Kd.R_form HO_8.out (by omega)
                                        (first | cases eo32 | (injection eo32 with ea_ en_ ec_; (first | subst ea_ | (injection ea_ with ea_; subst ea_)); subst ec_; clear en_))
                                        have GB32 := Aside0.mk gb32
                                        have GG32 := Aside0.mk HG32
                                        clear gb32 gl32 HG32
                                        (first | simp only [add_plain] at hx450_0 | skip)
                                        obtain ⟨hx32_0, hf32_0⟩ := Kd.R_celln 0 HO_8.out ((ji29) : Int) p32 q32
                                        replace p32 := eq_true p32
                                        replace q32 := eq_true q32
                                        have HP37 := Kd.R_putn HO_8.out ((ji29) : Int) (wrap64 ((rd x8_3 (ji29)) + x11_2))
                                        rw [← Ny451.out] at HP37
                                        have HQ37 := Aside0.mk HP37
                                        clear HP37
                                        refine start_ (n := 18) (S := fun w' => w'.cell? (ad444.add (x15_3).toNat) = some (.int .i64 (rd t434 x15_3)) ∧ w'.cell? (ad444.add (x15_3).toNat) = some (.int .i64 (rd t434 x15_3)) ∧ w'.cell? ⟨go32, ((ji29)).toNat, none⟩ = some (.int .i64 (rd x8_3 (ji29)))) (ds := [17]) #[false, false, false, false, false, false, false, false, false, false, false, false, false, false, false, false, false, false] (by kernel_rfl) rfl rfl ⟨hx448_0, hx449_0, hx450_0⟩ (fun hHeld => ?_); refine with_tabW spec_GreatestFlow.tab17 spec_GreatestFlow.bits17 (fun HT_ HW_ => ?_)
                                        generalize w35.drew = w36 at HO_8 HO_9 BK429 HB GG32 HQ37 hf32_0 hx32_0 hx448_0 hx449_0 hx450_0 hHeld ⊢
                                        refine pure_ (i := 0) (N := some 77) (v := ?_) (a' := ?_) #[true, false, false, false, false, false, false, false, false, false, false, false, false, false, false, false, false, false] rfl rfl (any_of HT_.out (by kernel_rfl)) (fun _ _ _ h => h) (Or.inl ⟨by rfl, ?_⟩) ?_ ?_
                                        rotate_left
                                        · intro w'
                                          go_simp
                                          with_reducible rfl
                                        rotate_left
                                        · simp only [Act.put, List.setIfInBounds_toArray, List.set_cons_zero, List.set_cons_succ, i64_w, i32_w]
                                          rfl
                                        refine pure_ (i := 1) (N := some 78) (v := ?_) (a' := ?_) #[true, true, false, false, false, false, false, false, false, false, false, false, false, false, false, false, false, false] rfl rfl (any_of HT_.out (by kernel_rfl)) (fun _ _ _ h => h) (Or.inl ⟨by rfl, ?_⟩) ?_ ?_
                                        rotate_left
                                        · intro w'
                                          go_simp
                                          with_reducible rfl
                                        rotate_left
                                        · simp only [Act.put, List.setIfInBounds_toArray, List.set_cons_zero, List.set_cons_succ, i64_w, i32_w]
                                          rfl
                                        refine pure_ (i := 2) (N := some 79) (v := ?_) (a' := ?_) #[true, true, true, false, false, false, false, false, false, false, false, false, false, false, false, false, false, false] rfl rfl (any_of HT_.out (by kernel_rfl)) (fun _ _ _ h => h) (Or.inl ⟨by rfl, ?_⟩) ?_ ?_
                                        rotate_left
                                        · intro w'
                                          go_simp
                                          with_reducible rfl
                                        rotate_left
                                        · simp only [Act.put, List.setIfInBounds_toArray, List.set_cons_zero, List.set_cons_succ, i64_w, i32_w]
                                          rfl
                                        refine pure_ (i := 3) (N := some 80) (v := ?_) (a' := ?_) #[true, true, true, true, false, false, false, false, false, false, false, false, false, false, false, false, false, false] rfl rfl (any_of HT_.out (by kernel_rfl)) (fun _ _ _ h => h) (Or.inl ⟨by rfl, ?_⟩) ?_ ?_
                                        rotate_left
                                        · intro w'
                                          go_simp
                                          with_reducible rfl
                                        rotate_left
                                        · simp only [Act.put, List.setIfInBounds_toArray, List.set_cons_zero, List.set_cons_succ, i64_w, i32_w]
                                          rfl
                                        refine pure_ (i := 6) (N := some 83) (v := ?_) (a' := ?_) #[true, true, true, true, false, false, true, false, false, false, false, false, false, false, false, false, false, false] rfl rfl (any_of HT_.out (by kernel_rfl)) (fun _ _ _ h => h) (Or.inl ⟨by rfl, ?_⟩) ?_ ?_
                                        rotate_left
                                        · intro w'
                                          go_simp
                                          with_reducible rfl
                                        rotate_left
                                        · simp only [Act.put, List.setIfInBounds_toArray, List.set_cons_zero, List.set_cons_succ, i64_w, i32_w]
                                          rfl
                                        refine pure_ (i := 7) (N := some 84) (v := ?_) (a' := ?_) #[true, true, true, true, false, false, true, true, false, false, false, false, false, false, false, false, false, false] rfl rfl (any_of HT_.out (by kernel_rfl)) (fun _ _ _ h => h) (Or.inl ⟨by rfl, ?_⟩) ?_ ?_
                                        rotate_left
                                        · intro w'
                                          go_simp
                                          with_reducible rfl
                                        rotate_left
                                        · simp only [Act.put, List.setIfInBounds_toArray, List.set_cons_zero, List.set_cons_succ, i64_w, i32_w]
                                          rfl
                                        refine pure_ (i := 8) (N := some 85) (v := ?_) (a' := ?_) #[true, true, true, true, false, false, true, true, true, false, false, false, false, false, false, false, false, false] rfl rfl (any_of HT_.out (by kernel_rfl)) (fun _ _ _ h => h) (Or.inl ⟨by rfl, ?_⟩) ?_ ?_
                                        rotate_left
                                        · intro w'
                                          go_simp
                                          with_reducible rfl
                                        rotate_left
                                        · simp only [Act.put, List.setIfInBounds_toArray, List.set_cons_zero, List.set_cons_succ, i64_w, i32_w]
                                          rfl
                                        refine pure_ (i := 9) (N := some 86) (v := ?_) (a' := ?_) #[true, true, true, true, false, false, true, true, true, true, false, false, false, false, false, false, false, false] rfl rfl (any_of HT_.out (by kernel_rfl)) (fun _ _ _ h => h) (Or.inl ⟨by rfl, ?_⟩) ?_ ?_
                                        rotate_left
                                        · intro w'
                                          go_simp
                                          with_reducible rfl
                                        rotate_left
                                        · simp only [Act.put, List.setIfInBounds_toArray, List.set_cons_zero, List.set_cons_succ, i64_w, i32_w]
                                          rfl
                                        refine pure_ (i := 14) (N := some 91) (v := ?_) (a' := ?_) #[true, true, true, true, false, false, true, true, true, true, false, false, false, false, true, false, false, false] rfl rfl (any_of HT_.out (by kernel_rfl)) (fun _ _ _ h => h) (Or.inl ⟨by rfl, ?_⟩) ?_ ?_
                                        rotate_left
                                        · intro w'
                                          go_simp
                                          with_reducible rfl
                                        rotate_left
                                        · simp only [Act.put, List.setIfInBounds_toArray, List.set_cons_zero, List.set_cons_succ, i64_w, i32_w]
                                          rfl
                                        refine take_ (i := 4) (N := some 81) (v := ?_) (a' := ?_) #[true, true, true, true, true, false, true, true, true, true, false, false, false, false, true, false, false, false] rfl rfl (take_ofW HT_.out HW_.out (by kernel_rfl)) (fun _ _ _ h => h) (Or.inl ⟨by rfl, ?_⟩) hHeld ?_ ?_
                                        rotate_left
                                        · rintro w' ⟨s0, s1, s2⟩
                                          go_simp
                                          with_reducible rfl
                                        rotate_left
                                        · simp only [Act.put, List.setIfInBounds_toArray, List.set_cons_zero, List.set_cons_succ, i64_w, i32_w]
                                          rfl
                                        refine pure_ (i := 5) (N := some 82) (v := ?_) (a' := ?_) #[true, true, true, true, true, true, true, true, true, true, false, false, false, false, true, false, false, false] rfl rfl (any_of HT_.out (by kernel_rfl)) (fun _ _ _ h => h) (Or.inl ⟨by rfl, ?_⟩) ?_ ?_
                                        rotate_left
                                        · intro w'
                                          go_simp
                                          with_reducible rfl
                                        rotate_left
                                        · simp only [Act.put, List.setIfInBounds_toArray, List.set_cons_zero, List.set_cons_succ, i64_w, i32_w]
                                          rfl
                                        refine take_ (i := 10) (N := some 87) (v := ?_) (a' := ?_) #[true, true, true, true, true, true, true, true, true, true, true, false, false, false, true, false, false, false] rfl rfl (take_ofW HT_.out HW_.out (by kernel_rfl)) (fun _ _ _ h => h) (Or.inl ⟨by rfl, ?_⟩) hHeld ?_ ?_
                                        rotate_left
                                        · rintro w' ⟨s0, s1, s2⟩
                                          go_simp
                                          with_reducible rfl
                                        rotate_left
                                        · simp only [Act.put, List.setIfInBounds_toArray, List.set_cons_zero, List.set_cons_succ, i64_w, i32_w]
                                          rfl
                                        refine pure_ (i := 11) (N := some 88) (v := ?_) (a' := ?_) #[true, true, true, true, true, true, true, true, true, true, true, true, false, false, true, false, false, false] rfl rfl (any_of HT_.out (by kernel_rfl)) (fun _ _ _ h => h) (Or.inl ⟨by rfl, ?_⟩) ?_ ?_
                                        rotate_left
                                        · intro w'
                                          go_simp
                                          with_reducible rfl
                                        rotate_left
                                        · simp only [Act.put, List.setIfInBounds_toArray, List.set_cons_zero, List.set_cons_succ, i64_w, i32_w]
                                          rfl
                                        refine pure_ (i := 12) (N := some 89) (v := ?_) (a' := ?_) #[true, true, true, true, true, true, true, true, true, true, true, true, true, false, true, false, false, false] rfl rfl (any_of HT_.out (by kernel_rfl)) (fun _ _ _ h => h) (Or.inl ⟨by rfl, ?_⟩) ?_ ?_
                                        rotate_left
                                        · intro w'
                                          go_simp
                                          with_reducible rfl
                                        rotate_left
                                        · simp only [Act.put, List.setIfInBounds_toArray, List.set_cons_zero, List.set_cons_succ, i64_w, i32_w]
                                          rfl
                                        refine take_ (i := 13) (N := some 90) (v := ?_) (a' := ?_) #[true, true, true, true, true, true, true, true, true, true, true, true, true, true, true, false, false, false] rfl rfl (take_ofW HT_.out HW_.out (by kernel_rfl)) (fun _ _ _ h => h) (Or.inl ⟨by rfl, ?_⟩) hHeld ?_ ?_
                                        rotate_left
                                        · rintro w' ⟨s0, s1, s2⟩
                                          go_simp
                                          with_reducible rfl
                                        rotate_left
                                        · simp only [Act.put, List.setIfInBounds_toArray, List.set_cons_zero, List.set_cons_succ, i64_w, i32_w]
                                          rfl
                                        refine pure_ (i := 15) (N := some 92) (v := ?_) (a' := ?_) #[true, true, true, true, true, true, true, true, true, true, true, true, true, true, true, true, false, false] rfl rfl (any_of HT_.out (by kernel_rfl)) (fun _ _ _ h => h) (Or.inl ⟨by rfl, ?_⟩) ?_ ?_
                                        rotate_left
                                        · intro w'
                                          go_simp
                                          with_reducible rfl
                                        rotate_left
                                        · simp only [Act.put, List.setIfInBounds_toArray, List.set_cons_zero, List.set_cons_succ, i64_w, i32_w]
                                          rfl
                                        refine pure_ (i := 16) (N := some 93) (v := ?_) (a' := ?_) #[true, true, true, true, true, true, true, true, true, true, true, true, true, true, true, true, true, false] rfl rfl (any_of HT_.out (by kernel_rfl)) (fun _ _ _ h => h) (Or.inl ⟨by rfl, ?_⟩) ?_ ?_
                                        rotate_left
                                        · intro w'
                                          go_simp
                                          with_reducible rfl
                                        rotate_left
                                        · simp only [Act.put, List.setIfInBounds_toArray, List.set_cons_zero, List.set_cons_succ, i64_w, i32_w]
                                          rfl
                                        refine last_ (i := 17) (N := none) #[true, true, true, true, true, true, true, true, true, true, true, true, true, true, true, true, true, true] rfl rfl (one_of HT_.out (by kernel_rfl)) (by decide) (fun K hK => ?_)
                                        refine skip_ (w1 := ?_) (by rfl) rfl ?_ ?_
                                        rotate_left
                                        · go_simp
                                          rfl
                                        refine hK.out _ _ ?_
                                        clear hK K
                                        refine done_ (done_of HT_.out (by kernel_rfl)) ?_
                                        try go_wp2
                                        (try simp only [← hl8_3])
                                        go_roundg k3
                                        case measure => have := HK1.out; have := HK2.out; have := HK3.out; omega
                                        case rel => exact ⟨(y451), (t445), (es), H', ⟨by have := HK1.out; have := HK2.out; have := HK3.out; omega⟩, ⟨by (try simp only [hl8_3]); (with_reducible repeat (first | apply Kd.R_alloc | apply Kd.R_drewN | apply Kd.R_drew)); exact HQ37.out⟩, ⟨by (try simp only [hl8_3]); (with_reducible repeat (first | apply Kd.R_alloc | apply Kd.R_drewN | apply Kd.R_drew)); exact Kd.R_mono (Kd.R_far (p := ⟨go32, ((ji29) : Int).toNat, none⟩) (Kd.R_mono HO_9.out (fun k_ hk => (⟨hk, fun e_ => hk (by rw [e_]; rfl)⟩ : _ ∧ k_ ≠ go32))) (fun _ hk => hk.2) (.int .i64 (wrap64 ((rd x8_3 (ji29)) + x11_2)))) (fun _ hk => hk.1)⟩, ⟨by (try simp only [hl8_3]); (with_reducible repeat (first | refine blk_drewN ?_ _ | refine blk_drew ?_ | refine blk_alloc ?_ _)); refine blk_far ?_ (by have h_ := Kd.R_ne HO_8.out BK429.out (by decide); intro e_; exact h_ (by rw [e_]; rfl)) _; (with_reducible repeat (first | refine blk_drewN ?_ _ | refine blk_drew ?_ | refine blk_alloc ?_ _)); exact BK429.out⟩, ⟨by repeat (first | (with_reducible first | exact HB.out | apply below_alloc | apply pw_below_drewN | apply below_drew1 | refine below_set ?_ GB32.out | refine below_set ?_ GE429.out) | exact HB.out)⟩⟩
                                      · rw [if_neg c31] at H
                                        exact absurd H (by simp)
                                    · rw [if_neg c30] at H
                                      exact absurd H (by simp)
                                  · rw [if_neg c28] at H
                                    have c28b0 : decide (0 < (rd t434 x15_3)) = false := decide_eq_false c28
                                    clear c28
                                    obtain ⟨ji38, hji38⟩ : ∃ j_ : Int, (wrap64 ((wrap64 (-(rd t434 x15_3))) - 1)) = j_ := ⟨_, rfl⟩
                                    replace H : (if 0 ≤ (ji38) then (if (ji38) < (x8_3.length : Int) then (spec_GreatestFlow.l2 k3 a1 a2 (x8_3.set ((ji38) : Int).toNat (wrap64 ((rd x8_3 (ji38)) - x11_2))) t434 x11_2 t445 a0_0 l0_1) else (none)) else (none)) = some (r1, r2) := by first | (rw [hji38] at H; exact H) | (simp only [hji38] at H ⊢; exact H)
                                    (try rw [hji38] at A27)
                                    have hji38w : (IntKind.i64.wrap ((wrap64 (-(rd t434 x15_3))) - 1)) = ji38 := (i64_w _).trans hji38
                                    by_cases c39 : 0 ≤ (ji38)
                                    · rw [if_pos c39] at H
                                      have c39b0 : decide (0 ≤ (ji38)) = true := decide_eq_true c39
                                      clear c39
                                      by_cases c40 : (ji38) < (x8_3.length : Int)
                                      · rw [if_pos c40] at H
                                        have c40b0 : decide ((ji38) < (x8_3.length : Int)) = true := decide_eq_true c40
                                        clear c40
                                        obtain ⟨y455, hy455⟩ : ∃ y_ : List Int, y_ = (x8_3.set ((ji38) : Int).toNat (wrap64 ((rd x8_3 (ji38)) - x11_2))) := ⟨_, rfl⟩
                                        replace H : (spec_GreatestFlow.l2 k3 a1 a2 y455 t434 x11_2 t445 a0_0 l0_1) = some (r1, r2) := by first | (rw [hy455]; with_reducible exact H) | (have H2_ := (Option.bind_some _ _).symm.trans H; rw [hy455]; with_reducible exact H2_) | (have H2_ := (Option.bind_some _ _).symm.trans H; with_reducible exact H2_) | with_reducible exact H | (rw [hy455]; exact H) | exact H
                                        have Ny455 := Aside0.mk hy455
                                        clear hy455
                                        have H' := Aside0.mk H
                                        clear H
                                        try go_wp2
                                        replace HO_8 := Aside0.mk (Kd.R_drew HO_8.out)
                                        replace HO_9 := Aside0.mk (Kd.R_drew HO_9.out)
                                        replace BK429 := Aside0.mk (blk_drew BK429.out)
                                        replace HB := Aside0.mk (below_drew1 HB.out)
                                        obtain ⟨Ao43, co43, eo43⟩ := Kd.R_slice HO_9.out
                                        (first | subst eo43 | (injection eo43 with f1_ f2_ f3_; have f4_ := f1_.symm; have f5_ := f3_.symm; clear f1_ f2_ f3_; subst f4_; subst f5_))
                                        have p444 : 0 ≤ (x15_3 : Int) := asm
                                        have q444 : x15_3 < (t434.length : Int) := asm
                                        obtain ⟨ad444, e444, hx444_0⟩ := Kd.at_int (Kd.R_reads' HO_9.out).2.2 x15_3 p444 q444
                                        cases e444
                                        replace p444 := eq_true p444
                                        replace q444 := eq_true q444
                                        refine start_ (n := 12) (S := fun w' => w'.cell? ⟨gb429, 0, none⟩ = some (.int .i64 a0_0) ∧ w'.cell? ⟨gb429, 1, none⟩ = some (.slice A0_1 l0_1.length c0_1) ∧ w'.cell? (ad444.add (x15_3).toNat) = some (.int .i64 (rd t434 x15_3))) (ds := []) #[false, false, false, false, false, false, false, false, false, false, false, false] (by kernel_rfl) rfl rfl ⟨(blk_cell BK429.out 0).trans rfl, (blk_cell BK429.out 1).trans rfl, hx444_0⟩ (fun hHeld => ?_); refine with_tabW spec_GreatestFlow.tab15 spec_GreatestFlow.bits15 (fun HT_ HW_ => ?_)
                                        generalize wr.drew = w42 at HO_8 HO_9 BK429 HB hx444_0 hHeld ⊢
                                        refine pure_ (i := 1) (N := some 64) (v := ?_) (a' := ?_) #[false, true, false, false, false, false, false, false, false, false, false, false] rfl rfl (any_of HT_.out (by kernel_rfl)) (fun _ _ _ h => h) (Or.inl ⟨by rfl, ?_⟩) ?_ ?_
                                        rotate_left
                                        · intro w'
                                          go_simp
                                          with_reducible rfl
                                        rotate_left
                                        · simp only [Act.put, List.setIfInBounds_toArray, List.set_cons_zero, List.set_cons_succ, i64_w, i32_w]
                                          rfl
                                        refine pure_ (i := 2) (N := some 65) (v := ?_) (a' := ?_) #[false, true, true, false, false, false, false, false, false, false, false, false] rfl rfl (any_of HT_.out (by kernel_rfl)) (fun _ _ _ h => h) (Or.inl ⟨by rfl, ?_⟩) ?_ ?_
                                        rotate_left
                                        · intro w'
                                          go_simp
                                          with_reducible rfl
                                        rotate_left
                                        · simp only [Act.put, List.setIfInBounds_toArray, List.set_cons_zero, List.set_cons_succ, i64_w, i32_w]
                                          rfl
                                        refine pure_ (i := 3) (N := some 66) (v := ?_) (a' := ?_) #[false, true, true, true, false, false, false, false, false, false, false, false] rfl rfl (any_of HT_.out (by kernel_rfl)) (fun _ _ _ h => h) (Or.inl ⟨by rfl, ?_⟩) ?_ ?_
                                        rotate_left
                                        · intro w'
                                          go_simp
                                          with_reducible rfl
                                        rotate_left
                                        · simp only [Act.put, List.setIfInBounds_toArray, List.set_cons_zero, List.set_cons_succ, i64_w, i32_w]
                                          rfl
                                        refine pure_ (i := 4) (N := some 67) (v := ?_) (a' := ?_) #[false, true, true, true, true, false, false, false, false, false, false, false] rfl rfl (any_of HT_.out (by kernel_rfl)) (fun _ _ _ h => h) (Or.inl ⟨by rfl, ?_⟩) ?_ ?_
                                        rotate_left
                                        · intro w'
                                          go_simp
                                          with_reducible rfl
                                        rotate_left
                                        · simp only [Act.put, List.setIfInBounds_toArray, List.set_cons_zero, List.set_cons_succ, i64_w, i32_w]
                                          rfl
                                        refine take_ (i := 0) (N := some 63) (v := ?_) (a' := ?_) #[true, true, true, true, true, false, false, false, false, false, false, false] rfl rfl (take_ofW HT_.out HW_.out (by kernel_rfl)) (fun _ _ _ h => h) (Or.inl ⟨by rfl, ?_⟩) hHeld ?_ ?_
                                        rotate_left
                                        · rintro w' ⟨s0, s1, s2⟩
                                          go_simp
                                          with_reducible rfl
                                        rotate_left
                                        · simp only [Act.put, List.setIfInBounds_toArray, List.set_cons_zero, List.set_cons_succ, i64_w, i32_w]
                                          rfl
                                        refine take_ (i := 5) (N := some 68) (v := ?_) (a' := ?_) #[true, true, true, true, true, true, false, false, false, false, false, false] rfl rfl (take_ofW HT_.out HW_.out (by kernel_rfl)) (fun _ _ _ h => h) (Or.inl ⟨by rfl, ?_⟩) hHeld ?_ ?_
                                        rotate_left
                                        · rintro w' ⟨s0, s1, s2⟩
                                          go_simp
                                          with_reducible rfl
                                        rotate_left
                                        · simp only [Act.put, List.setIfInBounds_toArray, List.set_cons_zero, List.set_cons_succ, i64_w, i32_w]
                                          rfl
                                        refine one_ (i := 6) (N := some 69) #[true, true, true, true, true, true, true, false, false, false, false, false] rfl rfl (one_of HT_.out (by kernel_rfl)) (by decide) (fun K hK => ?_)
                                        refine goes_ Try.func48 (by kernel_rfl) rfl #[.agg #[.int .i64 a0_0, .slice A0_1 l0_1.length c0_1], .slice Ao20 x8_3.length co20, .int .i64 (rd t434 x15_3)] (by rfl) rfl rfl ga ?_
                                        with_reducible refine (spec_l17Back.calls a0_0 _ _ l0_1 _ _ x8_3 (rd t434 x15_3) t445 t446 _ ?side1 ?side2 ?side3 ?side4 A27.out).mono ?_
                                        (case side1 => exact ck (Kd.C_below HR0_1.out HB.out))
                                        (case side2 => exact HC0_1.out)
                                        (case side3 => exact ck (Kd.R_reads' HO_8.out).2.2)
                                        (case side4 => exact (Kd.R_reads' HO_8.out).2.1)
                                        rintro e w44 ⟨rfl, hb⟩
                                        have HS2_ := (hb.cell (World.block_lt_of_cell? _ _ (hHeld.2.2))).trans (hHeld.2.2)
                                        refine ⟨_, rfl, ?_⟩
                                        replace HO_8 := Aside0.mk (Kd.R_below (rk HO_8.out) hb)
                                        replace HO_9 := Aside0.mk (Kd.R_below (rk HO_9.out) hb)
                                        replace BK429 := Aside0.mk (bb BK429.out hb)
                                        replace HB := Aside0.mk (below_step bel hb)
                                        (try clear hb)
                                        (try clear hb2)
                                        (try clear hk)
                                        (try clear hi)
                                        refine hK.out _ _ ⟨(blk_cell BK429.out 0).trans rfl, (blk_cell BK429.out 1).trans rfl, HS2_⟩ (fun hHeld => ?_)
                                        clear hK K
                                        refine norm_ (a' := ?_) ?_ ?_
                                        rotate_left
                                        · show Act.put _ (some 69) _ = _
                                          simp only [Act.put, List.setIfInBounds_toArray, List.set_cons_zero, List.set_cons_succ, i64_w, i32_w]
                                          rfl
                                        refine pure_ (i := 7) (N := some 62) (v := ?_) (a' := ?_) #[true, true, true, true, true, true, true, true, false, false, false, false] rfl rfl (any_of HT_.out (by kernel_rfl)) (fun _ _ _ h => h) (Or.inl ⟨by rfl, ?_⟩) ?_ ?_
                                        rotate_left
                                        · intro w'
                                          go_simp
                                          with_reducible rfl
                                        rotate_left
                                        · simp only [Act.put, List.setIfInBounds_toArray, List.set_cons_zero, List.set_cons_succ, i64_w, i32_w]
                                          rfl
                                        refine pure_ (i := 8) (N := some 70) (v := ?_) (a' := ?_) #[true, true, true, true, true, true, true, true, true, false, false, false] rfl rfl (any_of HT_.out (by kernel_rfl)) (fun _ _ _ h => h) (Or.inl ⟨by rfl, ?_⟩) ?_ ?_
                                        rotate_left
                                        · intro w'
                                          go_simp
                                          with_reducible rfl
                                        rotate_left
                                        · simp only [Act.put, List.setIfInBounds_toArray, List.set_cons_zero, List.set_cons_succ, i64_w, i32_w]
                                          rfl
                                        refine pure_ (i := 9) (N := some 71) (v := ?_) (a' := ?_) #[true, true, true, true, true, true, true, true, true, true, false, false] rfl rfl (any_of HT_.out (by kernel_rfl)) (fun _ _ _ h => h) (Or.inl ⟨by rfl, ?_⟩) ?_ ?_
                                        rotate_left
                                        · intro w'
                                          go_simp
                                          with_reducible rfl
                                        rotate_left
                                        · simp only [Act.put, List.setIfInBounds_toArray, List.set_cons_zero, List.set_cons_succ, i64_w, i32_w]
                                          rfl
                                        refine pure_ (i := 10) (N := some 16) (v := ?_) (a' := ?_) #[true, true, true, true, true, true, true, true, true, true, true, false] rfl rfl (any_of HT_.out (by kernel_rfl)) (fun _ _ _ h => h) (Or.inl ⟨by rfl, ?_⟩) ?_ ?_
                                        rotate_left
                                        · intro w'
                                          go_simp
                                          with_reducible rfl
                                        rotate_left
                                        · simp only [Act.put, List.setIfInBounds_toArray, List.set_cons_zero, List.set_cons_succ, i64_w, i32_w]
                                          rfl
                                        refine pure_ (i := 11) (N := some 17) (v := ?_) (a' := ?_) #[true, true, true, true, true, true, true, true, true, true, true, true] rfl rfl (any_of HT_.out (by kernel_rfl)) (fun _ _ _ h => h) (Or.inl ⟨by rfl, ?_⟩) ?_ ?_
                                        rotate_left
                                        · intro w'
                                          go_simp
                                          with_reducible rfl
                                        rotate_left
                                        · simp only [Act.put, List.setIfInBounds_toArray, List.set_cons_zero, List.set_cons_succ, i64_w, i32_w]
                                          rfl
                                        refine done_ (done_of HT_.out (by kernel_rfl)) ?_
                                        have p447 : 0 ≤ (x15_3 : Int) := asm
                                        have q447 : x15_3 < (t434.length : Int) := asm
                                        obtain ⟨ad447, e447, hx447_0⟩ := Kd.at_int (Kd.R_reads' HO_9.out).2.2 x15_3 p447 q447
                                        obtain rfl : ad444 = ad447 := (by injection e447)
                                        replace p447 := eq_true p447
                                        replace q447 := eq_true q447
                                        try go_wp2
                                        replace HO_8 := Aside0.mk (Kd.R_drew HO_8.out)
                                        replace HO_9 := Aside0.mk (Kd.R_drew HO_9.out)
                                        replace BK429 := Aside0.mk (blk_drew BK429.out)
                                        replace HB := Aside0.mk (below_drew1 HB.out)
                                        have p452 : 0 ≤ (x15_3 : Int) := asm
                                        have q452 : x15_3 < (t434.length : Int) := asm
                                        obtain ⟨ad452, e452, hx452_0⟩ := Kd.at_int (Kd.R_reads' HO_9.out).2.2 x15_3 p452 q452
                                        obtain rfl : ad444 = ad452 := (by injection e452)
                                        replace p452 := eq_true p452
                                        replace q452 := eq_true q452
                                        have p453 : 0 ≤ (x15_3 : Int) := asm
                                        have q453 : x15_3 < (t434.length : Int) := asm
                                        obtain ⟨ad453, e453, hx453_0⟩ := Kd.at_int (Kd.R_reads' HO_9.out).2.2 x15_3 p453 q453
                                        obtain rfl : ad444 = ad453 := (by injection e453)
                                        replace p453 := eq_true p453
                                        replace q453 := eq_true q453
                                        have p454 : 0 ≤ ((ji38) : Int) := asm
                                        have q454 : (ji38) < (x8_3.length : Int) := asm
                                        obtain ⟨ad454, e454, hx454_0⟩ := Kd.at_int (Kd.R_reads' HO_8.out).2.2 (ji38) p454 q454
                                        cases e454
                                        replace p454 := eq_true p454
                                        replace q454 := eq_true q454
                                        have p41 : 0 ≤ ((ji38) : Int) := asm
                                        have q41 : ((ji38) : Int) < ((x8_3.length : Int) : Int) := asm
                                        obtain ⟨go41, co41, eo41, gb41, gl41, cl41, HG41⟩ := Kd.R_form HO_8.out (by omega)
                                        (first | cases eo41 | (injection eo41 with ea_ en_ ec_; (first | subst ea_ | (injection ea_ with ea_; subst ea_)); subst ec_; clear en_))
                                        have GB41 := Aside0.mk gb41
                                        have GG41 := Aside0.mk HG41
                                        clear gb41 gl41 HG41
                                        (first | simp only [add_plain] at hx454_0 | skip)
                                        obtain ⟨hx41_0, hf41_0⟩ := Kd.R_celln 0 HO_8.out ((ji38) : Int) p41 q41
                                        replace p41 := eq_true p41
                                        replace q41 := eq_true q41
                                        have HP46 := Kd.R_putn HO_8.out ((ji38) : Int) (wrap64 ((rd x8_3 (ji38)) - x11_2))
                                        rw [← Ny455.out] at HP46
                                        have HQ46 := Aside0.mk HP46
                                        clear HP46
                                        refine start_ (n := 20) (S := fun w' => w'.cell? (ad444.add (x15_3).toNat) = some (.int .i64 (rd t434 x15_3)) ∧ w'.cell? (ad444.add (x15_3).toNat) = some (.int .i64 (rd t434 x15_3)) ∧ w'.cell? ⟨go41, ((ji38)).toNat, none⟩ = some (.int .i64 (rd x8_3 (ji38)))) (ds := [19]) #[false, false, false, false, false, false, false, false, false, false, false, false, false, false, false, false, false, false, false, false] (by kernel_rfl) rfl rfl ⟨hx452_0, hx453_0, hx454_0⟩ (fun hHeld => ?_); refine with_tabW spec_GreatestFlow.tab18 spec_GreatestFlow.bits18 (fun HT_ HW_ => ?_)
                                        generalize w44.drew = w45 at HO_8 HO_9 BK429 HB GG41 HQ46 hf41_0 hx41_0 hx452_0 hx453_0 hx454_0 hHeld ⊢
                                        refine pure_ (i := 0) (N := some 94) (v := ?_) (a' := ?_) #[true, false, false, false, false, false, false, false, false, false, false, false, false, false, false, false, false, false, false, false] rfl rfl (any_of HT_.out (by kernel_rfl)) (fun _ _ _ h => h) (Or.inl ⟨by rfl, ?_⟩) ?_ ?_
                                        rotate_left
                                        · intro w'
                                          go_simp
                                          with_reducible rfl
                                        rotate_left
                                        · simp only [Act.put, List.setIfInBounds_toArray, List.set_cons_zero, List.set_cons_succ, i64_w, i32_w]
                                          rfl
                                        refine pure_ (i := 1) (N := some 95) (v := ?_) (a' := ?_) #[true, true, false, false, false, false, false, false, false, false, false, false, false, false, false, false, false, false, false, false] rfl rfl (any_of HT_.out (by kernel_rfl)) (fun _ _ _ h => h) (Or.inl ⟨by rfl, ?_⟩) ?_ ?_
                                        rotate_left
                                        · intro w'
                                          go_simp
                                          with_reducible rfl
                                        rotate_left
                                        · simp only [Act.put, List.setIfInBounds_toArray, List.set_cons_zero, List.set_cons_succ, i64_w, i32_w]
                                          rfl
                                        refine pure_ (i := 2) (N := some 96) (v := ?_) (a' := ?_) #[true, true, true, false, false, false, false, false, false, false, false, false, false, false, false, false, false, false, false, false] rfl rfl (any_of HT_.out (by kernel_rfl)) (fun _ _ _ h => h) (Or.inl ⟨by rfl, ?_⟩) ?_ ?_
                                        rotate_left
                                        · intro w'
                                          go_simp
                                          with_reducible rfl
                                        rotate_left
                                        · simp only [Act.put, List.setIfInBounds_toArray, List.set_cons_zero, List.set_cons_succ, i64_w, i32_w]
                                          rfl
                                        refine pure_ (i := 3) (N := some 97) (v := ?_) (a' := ?_) #[true, true, true, true, false, false, false, false, false, false, false, false, false, false, false, false, false, false, false, false] rfl rfl (any_of HT_.out (by kernel_rfl)) (fun _ _ _ h => h) (Or.inl ⟨by rfl, ?_⟩) ?_ ?_
                                        rotate_left
                                        · intro w'
                                          go_simp
                                          with_reducible rfl
                                        rotate_left
                                        · simp only [Act.put, List.setIfInBounds_toArray, List.set_cons_zero, List.set_cons_succ, i64_w, i32_w]
                                          rfl
                                        refine pure_ (i := 7) (N := some 101) (v := ?_) (a' := ?_) #[true, true, true, true, false, false, false, true, false, false, false, false, false, false, false, false, false, false, false, false] rfl rfl (any_of HT_.out (by kernel_rfl)) (fun _ _ _ h => h) (Or.inl ⟨by rfl, ?_⟩) ?_ ?_
                                        rotate_left
                                        · intro w'
                                          go_simp
                                          with_reducible rfl
                                        rotate_left
                                        · simp only [Act.put, List.setIfInBounds_toArray, List.set_cons_zero, List.set_cons_succ, i64_w, i32_w]
                                          rfl
                                        refine pure_ (i := 8) (N := some 102) (v := ?_) (a' := ?_) #[true, true, true, true, false, false, false, true, true, false, false, false, false, false, false, false, false, false, false, false] rfl rfl (any_of HT_.out (by kernel_rfl)) (fun _ _ _ h => h) (Or.inl ⟨by rfl, ?_⟩) ?_ ?_
                                        rotate_left
                                        · intro w'
                                          go_simp
                                          with_reducible rfl
                                        rotate_left
                                        · simp only [Act.put, List.setIfInBounds_toArray, List.set_cons_zero, List.set_cons_succ, i64_w, i32_w]
                                          rfl
                                        refine pure_ (i := 9) (N := some 103) (v := ?_) (a' := ?_) #[true, true, true, true, false, false, false, true, true, true, false, false, false, false, false, false, false, false, false, false] rfl rfl (any_of HT_.out (by kernel_rfl)) (fun _ _ _ h => h) (Or.inl ⟨by rfl, ?_⟩) ?_ ?_
                                        rotate_left
                                        · intro w'
                                          go_simp
                                          with_reducible rfl
                                        rotate_left
                                        · simp only [Act.put, List.setIfInBounds_toArray, List.set_cons_zero, List.set_cons_succ, i64_w, i32_w]
                                          rfl
                                        refine pure_ (i := 10) (N := some 104) (v := ?_) (a' := ?_) #[true, true, true, true, false, false, false, true, true, true, true, false, false, false, false, false, false, false, false, false] rfl rfl (any_of HT_.out (by kernel_rfl)) (fun _ _ _ h => h) (Or.inl ⟨by rfl, ?_⟩) ?_ ?_
                                        rotate_left
                                        · intro w'
                                          go_simp
                                          with_reducible rfl
                                        rotate_left
                                        · simp only [Act.put, List.setIfInBounds_toArray, List.set_cons_zero, List.set_cons_succ, i64_w, i32_w]
                                          rfl
                                        refine pure_ (i := 16) (N := some 110) (v := ?_) (a' := ?_) #[true, true, true, true, false, false, false, true, true, true, true, false, false, false, false, false, true, false, false, false] rfl rfl (any_of HT_.out (by kernel_rfl)) (fun _ _ _ h => h) (Or.inl ⟨by rfl, ?_⟩) ?_ ?_
                                        rotate_left
                                        · intro w'
                                          go_simp
                                          with_reducible rfl
                                        rotate_left
                                        · simp only [Act.put, List.setIfInBounds_toArray, List.set_cons_zero, List.set_cons_succ, i64_w, i32_w]
                                          rfl
                                        refine take_ (i := 4) (N := some 98) (v := ?_) (a' := ?_) #[true, true, true, true, true, false, false, true, true, true, true, false, false, false, false, false, true, false, false, false] rfl rfl (take_ofW HT_.out HW_.out (by kernel_rfl)) (fun _ _ _ h => h) (Or.inl ⟨by rfl, ?_⟩) hHeld ?_ ?_
                                        rotate_left
                                        · rintro w' ⟨s0, s1, s2⟩
                                          go_simp
                                          with_reducible rfl
                                        rotate_left
                                        · simp only [Act.put, List.setIfInBounds_toArray, List.set_cons_zero, List.set_cons_succ, i64_w, i32_w]
                                          rfl
                                        refine pure_ (i := 5) (N := some 99) (v := ?_) (a' := ?_) #[true, true, true, true, true, true, false, true, true, true, true, false, false, false, false, false, true, false, false, false] rfl rfl (any_of HT_.out (by kernel_rfl)) (fun _ _ _ h => h) (Or.inl ⟨by rfl, ?_⟩) ?_ ?_
                                        rotate_left
                                        · intro w'
                                          go_simp
                                          with_reducible rfl
                                        rotate_left
                                        · simp only [Act.put, List.setIfInBounds_toArray, List.set_cons_zero, List.set_cons_succ, i64_w, i32_w]
                                          rfl
                                        refine pure_ (i := 6) (N := some 100) (v := ?_) (a' := ?_) #[true, true, true, true, true, true, true, true, true, true, true, false, false, false, false, false, true, false, false, false] rfl rfl (any_of HT_.out (by kernel_rfl)) (fun _ _ _ h => h) (Or.inl ⟨by rfl, ?_⟩) ?_ ?_
                                        rotate_left
                                        · intro w'
                                          go_simp
                                          with_reducible rfl
                                        rotate_left
                                        · simp only [Act.put, List.setIfInBounds_toArray, List.set_cons_zero, List.set_cons_succ, i64_w, i32_w]
                                          rfl
                                        refine take_ (i := 11) (N := some 105) (v := ?_) (a' := ?_) #[true, true, true, true, true, true, true, true, true, true, true, true, false, false, false, false, true, false, false, false] rfl rfl (take_ofW HT_.out HW_.out (by kernel_rfl)) (fun _ _ _ h => h) (Or.inl ⟨by rfl, ?_⟩) hHeld ?_ ?_
                                        rotate_left
                                        · rintro w' ⟨s0, s1, s2⟩
                                          go_simp
                                          with_reducible rfl
                                        rotate_left
                                        · simp only [Act.put, List.setIfInBounds_toArray, List.set_cons_zero, List.set_cons_succ, i64_w, i32_w]
                                          rfl
                                        refine pure_ (i := 12) (N := some 106) (v := ?_) (a' := ?_) #[true, true, true, true, true, true, true, true, true, true, true, true, true, false, false, false, true, false, false, false] rfl rfl (any_of HT_.out (by kernel_rfl)) (fun _ _ _ h => h) (Or.inl ⟨by rfl, ?_⟩) ?_ ?_
                                        rotate_left
                                        · intro w'
                                          go_simp
                                          with_reducible rfl
                                        rotate_left
                                        · simp only [Act.put, List.setIfInBounds_toArray, List.set_cons_zero, List.set_cons_succ, i64_w, i32_w]
                                          rfl
                                        refine pure_ (i := 13) (N := some 107) (v := ?_) (a' := ?_) #[true, true, true, true, true, true, true, true, true, true, true, true, true, true, false, false, true, false, false, false] rfl rfl (any_of HT_.out (by kernel_rfl)) (fun _ _ _ h => h) (Or.inl ⟨by rfl, ?_⟩) ?_ ?_
                                        rotate_left
                                        · intro w'
                                          go_simp
                                          with_reducible rfl
                                        rotate_left
                                        · simp only [Act.put, List.setIfInBounds_toArray, List.set_cons_zero, List.set_cons_succ, i64_w, i32_w]
                                          rfl
                                        refine pure_ (i := 14) (N := some 108) (v := ?_) (a' := ?_) #[true, true, true, true, true, true, true, true, true, true, true, true, true, true, true, false, true, false, false, false] rfl rfl (any_of HT_.out (by kernel_rfl)) (fun _ _ _ h => h) (Or.inl ⟨by rfl, ?_⟩) ?_ ?_
                                        rotate_left
                                        · intro w'
                                          go_simp
                                          with_reducible rfl
                                        rotate_left
                                        · simp only [Act.put, List.setIfInBounds_toArray, List.set_cons_zero, List.set_cons_succ, i64_w, i32_w]
                                          rfl
                                        refine take_ (i := 15) (N := some 109) (v := ?_) (a' := ?_) #[true, true, true, true, true, true, true, true, true, true, true, true, true, true, true, true, true, false, false, false] rfl rfl (take_ofW HT_.out HW_.out (by kernel_rfl)) (fun _ _ _ h => h) (Or.inl ⟨by rfl, ?_⟩) hHeld ?_ ?_
                                        rotate_left
                                        · rintro w' ⟨s0, s1, s2⟩
                                          go_simp
                                          with_reducible rfl
                                        rotate_left
                                        · simp only [Act.put, List.setIfInBounds_toArray, List.set_cons_zero, List.set_cons_succ, i64_w, i32_w]
                                          rfl
                                        refine pure_ (i := 17) (N := some 111) (v := ?_) (a' := ?_) #[true, true, true, true, true, true, true, true, true, true, true, true, true, true, true, true, true, true, false, false] rfl rfl (any_of HT_.out (by kernel_rfl)) (fun _ _ _ h => h) (Or.inl ⟨by rfl, ?_⟩) ?_ ?_
                                        rotate_left
                                        · intro w'
                                          go_simp
                                          with_reducible rfl
                                        rotate_left
                                        · simp only [Act.put, List.setIfInBounds_toArray, List.set_cons_zero, List.set_cons_succ, i64_w, i32_w]
                                          rfl
                                        refine pure_ (i := 18) (N := some 112) (v := ?_) (a' := ?_) #[true, true, true, true, true, true, true, true, true, true, true, true, true, true, true, true, true, true, true, false] rfl rfl (any_of HT_.out (by kernel_rfl)) (fun _ _ _ h => h) (Or.inl ⟨by rfl, ?_⟩) ?_ ?_
                                        rotate_left
                                        · intro w'
                                          go_simp
                                          with_reducible rfl
                                        rotate_left
                                        · simp only [Act.put, List.setIfInBounds_toArray, List.set_cons_zero, List.set_cons_succ, i64_w, i32_w]
                                          rfl
                                        refine last_ (i := 19) (N := none) #[true, true, true, true, true, true, true, true, true, true, true, true, true, true, true, true, true, true, true, true] rfl rfl (one_of HT_.out (by kernel_rfl)) (by decide) (fun K hK => ?_)
                                        refine skip_ (w1 := ?_) (by rfl) rfl ?_ ?_
                                        rotate_left
                                        · go_simp
                                          rfl
                                        refine hK.out _ _ ?_
                                        clear hK K
                                        refine done_ (done_of HT_.out (by kernel_rfl)) ?_
                                        try go_wp2
                                        (try simp only [← hl8_3])
                                        go_roundg k3
                                        case measure => have := HK1.out; have := HK2.out; have := HK3.out; omega
                                        case rel => exact ⟨(y455), (t445), (es), H', ⟨by have := HK1.out; have := HK2.out; have := HK3.out; omega⟩, ⟨by (try simp only [hl8_3]); (with_reducible repeat (first | apply Kd.R_alloc | apply Kd.R_drewN | apply Kd.R_drew)); exact HQ46.out⟩, ⟨by (try simp only [hl8_3]); (with_reducible repeat (first | apply Kd.R_alloc | apply Kd.R_drewN | apply Kd.R_drew)); exact Kd.R_mono (Kd.R_far (p := ⟨go41, ((ji38) : Int).toNat, none⟩) (Kd.R_mono HO_9.out (fun k_ hk => (⟨hk, fun e_ => hk (by rw [e_]; rfl)⟩ : _ ∧ k_ ≠ go41))) (fun _ hk => hk.2) (.int .i64 (wrap64 ((rd x8_3 (ji38)) - x11_2)))) (fun _ hk => hk.1)⟩, ⟨by (try simp only [hl8_3]); (with_reducible repeat (first | refine blk_drewN ?_ _ | refine blk_drew ?_ | refine blk_alloc ?_ _)); refine blk_far ?_ (by have h_ := Kd.R_ne HO_8.out BK429.out (by decide); intro e_; exact h_ (by rw [e_]; rfl)) _; (with_reducible repeat (first | refine blk_drewN ?_ _ | refine blk_drew ?_ | refine blk_alloc ?_ _)); exact BK429.out⟩, ⟨by repeat (first | (with_reducible first | exact HB.out | apply below_alloc | apply pw_below_drewN | apply below_drew1 | refine below_set ?_ GB41.out | refine below_set ?_ GE429.out) | exact HB.out)⟩⟩
                                      · rw [if_neg c40] at H
                                        exact absurd H (by simp)
                                    · rw [if_neg c39] at H
                                      exact absurd H (by simp)
                                · rw [if_neg c26] at H
                                  exact absurd H (by simp)
                              · rw [if_neg c25] at H
                                exact absurd H (by simp)
                      · rw [if_neg c23] at H
                        have c23b0 : (x12_2 == a1) = false := beq_eq_false_iff_ne.mpr c23
                        have c23b1 : (x12_2 != a1) = true := bne_iff_ne.mpr c23
                        by_cases c47 : 0 ≤ x12_2
                        · rw [if_pos c47] at H
                          have c47b0 : decide (0 ≤ x12_2) = true := decide_eq_true c47
                          clear c47
                          by_cases c48 : x12_2 < (t434.length : Int)
                          · rw [if_pos c48] at H
                            have c48b0 : decide (x12_2 < (t434.length : Int)) = true := decide_eq_true c48
                            clear c48
                            replace H := Option.bind_eq_some_iff.mp H
                            obtain ⟨⟨t442, t443⟩, A490, H⟩ := H
                            replace H : (spec_GreatestFlow.l1 k2 a1 a2 x8_1 t434 (mn x11_2 t443) t442 a0_0 l0_1) = some (r1, r2) := H
                            have A49 := Aside0.mk A490
                            clear A490
                            obtain ⟨ji50, hji50⟩ : ∃ j_ : Int, (mn x11_2 t443) = j_ := ⟨_, rfl⟩
                            replace H : (spec_GreatestFlow.l1 k2 a1 a2 x8_1 t434 ji50 t442 a0_0 l0_1) = some (r1, r2) := by first | (rw [hji50] at H; exact H) | (simp only [hji50] at H ⊢; exact H)
                            (try rw [hji50] at A49)
                            have hji50_ : (if t443 < x11_2 then t443 else x11_2) = ji50 := hji50
                            have H' := Aside0.mk H
                            clear H
                            try go_wp2
                            replace HO_8 := Aside0.mk (Kd.R_drew HO_8.out)
                            replace HO_9 := Aside0.mk (Kd.R_drew HO_9.out)
                            replace BK429 := Aside0.mk (blk_drew BK429.out)
                            replace HB := Aside0.mk (below_drew1 HB.out)
                            obtain ⟨Ao52, co52, eo52⟩ := Kd.R_slice HO_9.out
                            (first | subst eo52 | (injection eo52 with f1_ f2_ f3_; have f4_ := f1_.symm; have f5_ := f3_.symm; clear f1_ f2_ f3_; subst f4_; subst f5_))
                            have p441 : 0 ≤ (x12_2 : Int) := asm
                            have q441 : x12_2 < (t434.length : Int) := asm
                            obtain ⟨ad441, e441, hx441_0⟩ := Kd.at_int (Kd.R_reads' HO_9.out).2.2 x12_2 p441 q441
                            cases e441
                            replace p441 := eq_true p441
                            replace q441 := eq_true q441
                            refine start_ (n := 12) (S := fun w' => w'.cell? ⟨gb429, 0, none⟩ = some (.int .i64 a0_0) ∧ w'.cell? ⟨gb429, 1, none⟩ = some (.slice A0_1 l0_1.length c0_1) ∧ w'.cell? (ad441.add (x12_2).toNat) = some (.int .i64 (rd t434 x12_2))) (ds := []) #[false, false, false, false, false, false, false, false, false, false, false, false] (by kernel_rfl) rfl rfl ⟨(blk_cell BK429.out 0).trans rfl, (blk_cell BK429.out 1).trans rfl, hx441_0⟩ (fun hHeld => ?_); refine with_tabW spec_GreatestFlow.tab10 spec_GreatestFlow.bits10 (fun HT_ HW_ => ?_)
                            generalize wr.drew = w51 at HO_8 HO_9 BK429 HB hx441_0 hHeld ⊢
                            refine pure_ (i := 1) (N := some 46) (v := ?_) (a' := ?_) #[false, true, false, false, false, false, false, false, false, false, false, false] rfl rfl (any_of HT_.out (by kernel_rfl)) (fun _ _ _ h => h) (Or.inl ⟨by rfl, ?_⟩) ?_ ?_
                            rotate_left
                            · intro w'
                              go_simp
                              with_reducible rfl
                            rotate_left
                            · simp only [Act.put, List.setIfInBounds_toArray, List.set_cons_zero, List.set_cons_succ, i64_w, i32_w]
                              rfl
                            refine pure_ (i := 2) (N := some 47) (v := ?_) (a' := ?_) #[false, true, true, false, false, false, false, false, false, false, false, false] rfl rfl (any_of HT_.out (by kernel_rfl)) (fun _ _ _ h => h) (Or.inl ⟨by rfl, ?_⟩) ?_ ?_
                            rotate_left
                            · intro w'
                              go_simp
                              with_reducible rfl
                            rotate_left
                            · simp only [Act.put, List.setIfInBounds_toArray, List.set_cons_zero, List.set_cons_succ, i64_w, i32_w]
                              rfl
                            refine pure_ (i := 3) (N := some 48) (v := ?_) (a' := ?_) #[false, true, true, true, false, false, false, false, false, false, false, false] rfl rfl (any_of HT_.out (by kernel_rfl)) (fun _ _ _ h => h) (Or.inl ⟨by rfl, ?_⟩) ?_ ?_
                            rotate_left
                            · intro w'
                              go_simp
                              with_reducible rfl
                            rotate_left
                            · simp only [Act.put, List.setIfInBounds_toArray, List.set_cons_zero, List.set_cons_succ, i64_w, i32_w]
                              rfl
                            refine pure_ (i := 4) (N := some 49) (v := ?_) (a' := ?_) #[false, true, true, true, true, false, false, false, false, false, false, false] rfl rfl (any_of HT_.out (by kernel_rfl)) (fun _ _ _ h => h) (Or.inl ⟨by rfl, ?_⟩) ?_ ?_
                            rotate_left
                            · intro w'
                              go_simp
                              with_reducible rfl
                            rotate_left
                            · simp only [Act.put, List.setIfInBounds_toArray, List.set_cons_zero, List.set_cons_succ, i64_w, i32_w]
                              rfl
                            refine take_ (i := 0) (N := some 45) (v := ?_) (a' := ?_) #[true, true, true, true, true, false, false, false, false, false, false, false] rfl rfl (take_ofW HT_.out HW_.out (by kernel_rfl)) (fun _ _ _ h => h) (Or.inl ⟨by rfl, ?_⟩) hHeld ?_ ?_
                            rotate_left
                            · rintro w' ⟨s0, s1, s2⟩
                              go_simp
                              with_reducible rfl
                            rotate_left
                            · simp only [Act.put, List.setIfInBounds_toArray, List.set_cons_zero, List.set_cons_succ, i64_w, i32_w]
                              rfl
                            refine take_ (i := 5) (N := some 50) (v := ?_) (a' := ?_) #[true, true, true, true, true, true, false, false, false, false, false, false] rfl rfl (take_ofW HT_.out HW_.out (by kernel_rfl)) (fun _ _ _ h => h) (Or.inl ⟨by rfl, ?_⟩) hHeld ?_ ?_
                            rotate_left
                            · rintro w' ⟨s0, s1, s2⟩
                              go_simp
                              with_reducible rfl
                            rotate_left
                            · simp only [Act.put, List.setIfInBounds_toArray, List.set_cons_zero, List.set_cons_succ, i64_w, i32_w]
                              rfl
                            refine one_ (i := 6) (N := some 51) #[true, true, true, true, true, true, true, false, false, false, false, false] rfl rfl (one_of HT_.out (by kernel_rfl)) (by decide) (fun K hK => ?_)
                            refine goes_ Try.func48 (by kernel_rfl) rfl #[.agg #[.int .i64 a0_0, .slice A0_1 l0_1.length c0_1], .slice Ao20 x8_1.length co20, .int .i64 (rd t434 x12_2)] (by rfl) rfl rfl ga ?_
                            with_reducible refine (spec_l17Back.calls a0_0 _ _ l0_1 _ _ x8_1 (rd t434 x12_2) t442 t443 _ ?side1 ?side2 ?side3 ?side4 A49.out).mono ?_
                            (case side1 => exact ck (Kd.C_below HR0_1.out HB.out))
                            (case side2 => exact HC0_1.out)
                            (case side3 => exact ck (Kd.R_reads' HO_8.out).2.2)
                            (case side4 => exact (Kd.R_reads' HO_8.out).2.1)
                            rintro e w53 ⟨rfl, hb⟩
                            have HS2_ := (hb.cell (World.block_lt_of_cell? _ _ (hHeld.2.2))).trans (hHeld.2.2)
                            refine ⟨_, rfl, ?_⟩
                            replace HO_8 := Aside0.mk (Kd.R_below (rk HO_8.out) hb)
                            replace HO_9 := Aside0.mk (Kd.R_below (rk HO_9.out) hb)
                            replace BK429 := Aside0.mk (bb BK429.out hb)
                            replace HB := Aside0.mk (below_step bel hb)
                            (try clear hb)
                            (try clear hb2)
                            (try clear hk)
                            (try clear hi)
                            refine hK.out _ _ ⟨(blk_cell BK429.out 0).trans rfl, (blk_cell BK429.out 1).trans rfl, HS2_⟩ (fun hHeld => ?_)
                            clear hK K
                            refine norm_ (a' := ?_) ?_ ?_
                            rotate_left
                            · show Act.put _ (some 51) _ = _
                              simp only [Act.put, List.setIfInBounds_toArray, List.set_cons_zero, List.set_cons_succ, i64_w, i32_w]
                              rfl
                            refine pure_ (i := 7) (N := some 44) (v := ?_) (a' := ?_) #[true, true, true, true, true, true, true, true, false, false, false, false] rfl rfl (any_of HT_.out (by kernel_rfl)) (fun _ _ _ h => h) (Or.inl ⟨by rfl, ?_⟩) ?_ ?_
                            rotate_left
                            · intro w'
                              go_simp
                              with_reducible rfl
                            rotate_left
                            · simp only [Act.put, List.setIfInBounds_toArray, List.set_cons_zero, List.set_cons_succ, i64_w, i32_w]
                              rfl
                            refine pure_ (i := 8) (N := some 52) (v := ?_) (a' := ?_) #[true, true, true, true, true, true, true, true, true, false, false, false] rfl rfl (any_of HT_.out (by kernel_rfl)) (fun _ _ _ h => h) (Or.inl ⟨by rfl, ?_⟩) ?_ ?_
                            rotate_left
                            · intro w'
                              go_simp
                              with_reducible rfl
                            rotate_left
                            · simp only [Act.put, List.setIfInBounds_toArray, List.set_cons_zero, List.set_cons_succ, i64_w, i32_w]
                              rfl
                            refine pure_ (i := 9) (N := some 53) (v := ?_) (a' := ?_) #[true, true, true, true, true, true, true, true, true, true, false, false] rfl rfl (any_of HT_.out (by kernel_rfl)) (fun _ _ _ h => h) (Or.inl ⟨by rfl, ?_⟩) ?_ ?_
                            rotate_left
                            · intro w'
                              go_simp
                              with_reducible rfl
                            rotate_left
                            · simp only [Act.put, List.setIfInBounds_toArray, List.set_cons_zero, List.set_cons_succ, i64_w, i32_w]
                              rfl
                            refine pure_ (i := 10) (N := some 13) (v := ?_) (a' := ?_) #[true, true, true, true, true, true, true, true, true, true, true, false] rfl rfl (any_of HT_.out (by kernel_rfl)) (fun _ _ _ h => h) (Or.inl ⟨by rfl, ?_⟩) ?_ ?_
                            rotate_left
                            · intro w'
                              go_simp
                              with_reducible rfl
                            rotate_left
                            · simp only [Act.put, List.setIfInBounds_toArray, List.set_cons_zero, List.set_cons_succ, i64_w, i32_w]
                              rfl
                            refine pure_ (i := 11) (N := some 14) (v := ?_) (a' := ?_) #[true, true, true, true, true, true, true, true, true, true, true, true] rfl rfl (any_of HT_.out (by kernel_rfl)) (fun _ _ _ h => h) (Or.inl ⟨by rfl, ?_⟩) ?_ ?_
                            rotate_left
                            · intro w'
                              go_simp
                              with_reducible rfl
                            rotate_left
                            · simp only [Act.put, List.setIfInBounds_toArray, List.set_cons_zero, List.set_cons_succ, i64_w, i32_w]
                              rfl
                            refine done_ (done_of HT_.out (by kernel_rfl)) ?_
                            try go_wp2
                            go_roundg k2
                            case measure => have := HK1.out; have := HK2.out; omega
                            case rel => exact ⟨(ji50), (t442), (by first | rfl | (simp; done) | (simp only [← hji50] <;> (first | rfl | simp)) | (simp [*]; done)), (es), H', ⟨by have := HK1.out; have := HK2.out; omega⟩, ⟨rk HO_8.out⟩, ⟨rk HO_9.out⟩, ⟨bk BK429.out⟩, ⟨bel⟩⟩
                          · rw [if_neg c48] at H
                            exact absurd H (by simp)
                        · rw [if_neg c47] at H
                          exact absurd H (by simp)
                · replace c18 := Bool.eq_false_iff.mpr c18
                  subst c18
                  have H1 : (some (x8_1, true)) = some (r1, r2) := by rw [if_neg (show ¬ (false = true) by decide)] at H; exact H
                  clear H
                  have H := H1
                  clear H1
                  simp only [Option.some.injEq, Prod.mk.injEq] at H
                  obtain ⟨rfl, rfl⟩ := H
                  obtain ⟨hcz54_0, hcz54_1, hfz54_0, hfz54_1⟩ := cf2 BK429.out
                  obtain ⟨Ao55, co55, eo55⟩ := Kd.R_slice HO_8.out
                  subst eo55
                  go_wp2_with (first | ((with_reducible refine gate_callee (f := 45) rfl ?_); refine goesL_ (some 31) rfl rfl Try.func45 (by kernel_rfl) rfl #[.agg #[.int .i64 a0_0, .slice A0_1 l0_1.length c0_1], .int .i64 a1, .slice Ao55 x8_1.length co55] rfl ga ?_; (with_reducible refine (spec_l17Reach.calls k1 a0_0 _ _ l0_1 a1 _ _ x8_1 t434 t437 _ ?side1 ?side2 ?side3 ?side4 A14.out).mono ?_); (case side1 => exact ck (Kd.C_below HR0_1.out HB.out)); (case side2 => exact HC0_1.out); (case side3 => exact ck (Kd.R_reads' HO_8.out).2.2); (case side4 => exact (Kd.R_reads' HO_8.out).2.1); rintro e w56 ⟨v435, v438, rfl, ho0, ho1, hb⟩; refine ⟨_, rfl, ?_⟩; have HO436 := Aside0.mk (Kd.R_lower (Kd.R_new' ho0 (Kd.R_lt (rk HO_8.out))) (below_size bel)); have HO439 := Aside0.mk (Kd.R_lower ho1 (below_size bel)); replace HO_8 := Aside0.mk (Kd.R_elder' (rk HO_8.out) (Kd.R_base ho0) hb); replace BK429 := Aside0.mk (bb BK429.out hb); replace HB := Aside0.mk (below_step bel hb); (try clear hb); (try clear ho0); (try clear ho1); obtain ⟨Ao57, co57, eo57⟩ := Kd.R_slice HO439.out; subst eo57; have p440 : 0 ≤ (a2 : Int) := asm; have q440 : a2 < (t437.length : Int) := asm; obtain ⟨ad440, e440, hx440_0⟩ := Kd.at_bool (Kd.R_reads' HO439.out).2.2 a2 p440 q440; (try rw [← Nbq17.out] at hx440_0); cases e440; replace p440 := eq_true p440; replace q440 := eq_true q440))
                  go_ret2
                  exact ⟨_, er, by (with_reducible repeat (first | apply Kd.R_alloc | apply Kd.R_drewN | apply Kd.R_drew)); exact Kd.R_mono HO_8.out (fun _ hk => trivial), bel⟩
              · rw [if_neg c16] at H
                exact absurd H (by simp)
            · rw [if_neg c15] at H
              exact absurd H (by simp)
      · rw [if_neg c7] at H
        exact absurd H (by simp)
    · rw [if_neg c6] at H
      exact absurd H (by simp)
  · replace c5 := Bool.eq_false_iff.mpr c5
    subst c5
    have H1 : (some (([] : List Int), false)) = some (r1, r2) := by rw [if_neg (show ¬ (false = true) by decide)] at H; exact H
    clear H
    have H := H1
    clear H1
    simp only [Option.some.injEq, Prod.mk.injEq] at H
    obtain ⟨rfl, rfl⟩ := H
    go_enter Try.func34, Try.ntmps34
    go_wp2_with (first | ((with_reducible refine gate_dst (N := 3) rfl ?_); refine box_event ?hg (N := 3) ?hd (cs := #[.int .i64 a0_0, .slice A0_1 l0_1.length c0_1]) (t := 29) ?hr ?_; (case hd => rfl); (case hg => rfl); (case hr => first | (go_simp; done) | (go_simp; rfl)); intro gb429 hg w58 hbox hb; have BK429 := Aside0.mk (hbox); have GW429 := Aside0.mk ((bsz hg : w.heap.size ≤ gb429)); have GE429 := Aside0.mk ((bsz hg : w.heap.size ≤ gb429)); replace HB := Aside0.mk (below_step bel hb); clear hb hbox hg; obtain ⟨hcz59_0, hcz59_1, hfz59_0, hfz59_1⟩ := cf2 BK429.out) | ((with_reducible refine gate_callee (f := 43) rfl ?_); refine goesL_ (some 21) rfl rfl Try.func43 (by kernel_rfl) rfl #[.agg #[.int .i64 a0_0, .slice A0_1 l0_1.length c0_1], .int .i64 a1, .int .i64 a2] rfl ga ?_; (with_reducible refine (spec_l17Ends.calls k a0_0 _ _ l0_1 a1 a2 false _ ?side1 ?side2 A4.out).mono ?_); (case side1 => exact ck (Kd.C_below HR0_1.out HB.out)); (case side2 => exact HC0_1.out); rintro e w60 ⟨rfl, hb⟩; refine ⟨_, rfl, ?_⟩; replace BK429 := Aside0.mk (bb BK429.out hb); replace HB := Aside0.mk (below_step bel hb); (try clear hb)))
    go_ret2
    exact ⟨_, er, by first | exact Kd.R_nil _ _ _ _ _ | exact Kd.N_nil _ _ _ _ _ | exact Kd.V_nil _ _ _ _ _ | exact Kd.Q_nil _ _ _ _ _ | exact Kd.S_nil _ _ _ _ _, bel⟩

end Go.Proofs.Yteaemblallbgpaa.X
