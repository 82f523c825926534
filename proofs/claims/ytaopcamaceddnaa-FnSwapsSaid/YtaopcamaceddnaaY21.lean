-- Written by a program of this session (wip/xp.py, over the kit's print) out of the translation: functions, and the walks that show them.
import Derived.Test.YtaopcamaceddnaaY0
import Derived.Test.YtaopcamaceddnaaY19
namespace Go.Proofs.Ytaopcamaceddnaa.Y
open Go.RowKit Go.Proofs.YtaopcamaceddnaaW.PrintWords Go.Proofs.YtaopcamaceddnaaW.PrintLast Go.Proofs.YtaopcamaceddnaaW.PrintMore
attribute [local go_sem] max2_int min2_int max_two min_two max_three min_three max_four min_four   -- for this text's walks alone
set_option linter.unusedVariables false
set_option linter.unusedSimpArgs false

/-! ### spec_l20Run: function 55 -/
mutual
def spec_l20Run.l0 : Nat → List (S38) → List Int → List (S38) → Int → Int → Option ((List (List Int)) × List Int × Int)
  | 0, _, _, _, _, _ => none
  | k + 1, x0, x5, x17, x18, x19 => if x19 < x18 then (if 0 ≤ x19 then (if x19 < (x17.length : Int) then (if x5.length < 17592186044416 then (spec_l20Run.l0 k x0 (x5 ++ [(rd_T38 x17 x19).f1]) x17 x18 (wrap64 (x19 + 1))) else (none)) else (none)) else (none)) else (spec_l20Run.l1 k x5 (([] : List (List Int))) (([] : List Int)) 0 x0 (x0.length : Int) 0)
def spec_l20Run.l1 : Nat → List Int → List (List Int) → List Int → Int → List (S38) → Int → Int → Option ((List (List Int)) × List Int × Int)
  | 0, _, _, _, _, _, _, _ => none
  | k + 1, x5, x8, x9, x10, x31, x32, x33 => if x33 < x32 then (if 0 ≤ x33 then (if x33 < (x31.length : Int) then (spec_l20Run.l2 k x5 x8 x9 x10 x33 (([] : List Int)) x31 x32 x33 ((rd_T38 x31 x33).f0) (((rd_T38 x31 x33).f0).length : Int) 0 ((rd_T38 x31 x33).f0) ((rd_T38 x31 x33).f1) ((rd_T38 x31 x33).f2)) else (none)) else (none)) else (some (x8, x5, x10))
def spec_l20Run.l2 : Nat → List Int → List (List Int) → List Int → Int → Int → List Int → List (S38) → Int → Int → List Int → Int → Int → List Int → Int → Int → Option ((List (List Int)) × List Int × Int)
  | 0, _, _, _, _, _, _, _, _, _, _, _, _, _, _, _ => none
  | k + 1, x5, x8, x9, x10, x11, x13, x31, x32, x33, x40, x41, x42, x370000, x370001, x370002 => if x42 < x41 then (if 0 ≤ x42 then (if x42 < (x40.length : Int) then (if 0 ≤ x11 then (if x11 < (x5.length : Int) then (if (x13.length : Int) < (rd x5 x11) then ((spec_l02Has.f k x9 (rd x40 x42)).bind fun t375 => (if t375 = true then (spec_l20Run.l2 k x5 x8 x9 x10 x11 x13 x31 x32 x33 x40 x41 (wrap64 (x42 + 1)) x370000 x370001 x370002) else (if x13.length < 17592186044416 then (if x9.length < 17592186044416 then (spec_l20Run.l2 k x5 x8 (x9 ++ [rd x40 x42]) x10 x11 (x13 ++ [rd x40 x42]) x31 x32 x33 x40 x41 (wrap64 (x42 + 1)) x370000 x370001 x370002) else (none)) else (none)))) else (spec_l20Run.l2 k x5 x8 x9 x10 x11 x13 x31 x32 x33 x40 x41 (wrap64 (x42 + 1)) x370000 x370001 x370002)) else (none)) else (none)) else (none)) else (none)) else (if x8.length < 5864062014805 then ((some (x8 ++ [x13] : List (List Int))).bind fun y382 => (if x370002 < 0 then (if 0 ≤ x11 then (if x11 < (x5.length : Int) then (spec_l20Run.l1 k x5 y382 x9 (wrap64 ((wrap64 (x10 + (rd x5 x11))) - (x13.length : Int))) x31 x32 (wrap64 (x33 + 1))) else (none)) else (none)) else (if 0 ≤ x370002 then (if x370002 < (x5.length : Int) then (if 0 ≤ x11 then (if x11 < (x5.length : Int) then (spec_l20Run.l1 k (x5.set (x370002 : Int).toNat (wrap64 ((wrap64 ((rd x5 x370002) + (rd x5 x11))) - (x13.length : Int)))) y382 x9 x10 x31 x32 (wrap64 (x33 + 1))) else (none)) else (none)) else (none)) else (none)))) else (none))
end
def spec_l20Run.f (k : Nat) (l0 : List (S38)) : Option ((List (List Int)) × List Int × Int) := spec_l20Run.l0 k l0 (([] : List Int)) l0 (l0.length : Int) 0
theorem spec_l20Run.mono_l : ∀ k, (∀ y0 y1 y2 y3 y4, LeO (spec_l20Run.l0 k y0 y1 y2 y3 y4) (spec_l20Run.l0 (k + 1) y0 y1 y2 y3 y4)) ∧ (∀ y0 y1 y2 y3 y4 y5 y6, LeO (spec_l20Run.l1 k y0 y1 y2 y3 y4 y5 y6) (spec_l20Run.l1 (k + 1) y0 y1 y2 y3 y4 y5 y6)) ∧ (∀ y0 y1 y2 y3 y4 y5 y6 y7 y8 y9 y10 y11 y12 y13 y14, LeO (spec_l20Run.l2 k y0 y1 y2 y3 y4 y5 y6 y7 y8 y9 y10 y11 y12 y13 y14) (spec_l20Run.l2 (k + 1) y0 y1 y2 y3 y4 y5 y6 y7 y8 y9 y10 y11 y12 y13 y14))
  | 0 => ⟨fun _ _ _ _ _ r h => by simp [spec_l20Run.l0] at h, fun _ _ _ _ _ _ _ r h => by simp [spec_l20Run.l1] at h, fun _ _ _ _ _ _ _ _ _ _ _ _ _ _ _ r h => by simp [spec_l20Run.l2] at h⟩
  | k + 1 => by
    obtain ⟨ih0, ih1, ih2⟩ := spec_l20Run.mono_l k
    refine ⟨?_, ?_, ?_⟩
    · intro y0 y1 y2 y3 y4
      unfold spec_l20Run.l0
      repeat' first
      | (with_reducible exact ih0 _ _ _ _ _)
      | (with_reducible exact ih1 _ _ _ _ _ _ _)
      | (with_reducible exact ih2 _ _ _ _ _ _ _ _ _ _ _ _ _ _ _)
      | (with_reducible exact spec_l02Has.mono _ _ _)
      | (with_reducible exact LeO.refl _)
      | (with_reducible exact LeO.none _)
      | (with_reducible refine LeO.ite ?_ ?_)
      | (with_reducible refine LeO.bind ?_ (fun _ => ?_))
      | exact ih0 _ _ _ _ _
      | exact ih1 _ _ _ _ _ _ _
      | exact ih2 _ _ _ _ _ _ _ _ _ _ _ _ _ _ _
      | exact spec_l02Has.mono _ _ _
      | exact LeO.none _
      | refine LeO.ite ?_ ?_
      | refine LeO.bind ?_ (fun _ => ?_)
    · intro y0 y1 y2 y3 y4 y5 y6
      unfold spec_l20Run.l1
      repeat' first
      | (with_reducible exact ih0 _ _ _ _ _)
      | (with_reducible exact ih1 _ _ _ _ _ _ _)
      | (with_reducible exact ih2 _ _ _ _ _ _ _ _ _ _ _ _ _ _ _)
      | (with_reducible exact spec_l02Has.mono _ _ _)
      | (with_reducible exact LeO.refl _)
      | (with_reducible exact LeO.none _)
      | (with_reducible refine LeO.ite ?_ ?_)
      | (with_reducible refine LeO.bind ?_ (fun _ => ?_))
      | exact ih0 _ _ _ _ _
      | exact ih1 _ _ _ _ _ _ _
      | exact ih2 _ _ _ _ _ _ _ _ _ _ _ _ _ _ _
      | exact spec_l02Has.mono _ _ _
      | exact LeO.none _
      | refine LeO.ite ?_ ?_
      | refine LeO.bind ?_ (fun _ => ?_)
    · intro y0 y1 y2 y3 y4 y5 y6 y7 y8 y9 y10 y11 y12 y13 y14
      unfold spec_l20Run.l2
      repeat' first
      | (with_reducible exact ih0 _ _ _ _ _)
      | (with_reducible exact ih1 _ _ _ _ _ _ _)
      | (with_reducible exact ih2 _ _ _ _ _ _ _ _ _ _ _ _ _ _ _)
      | (with_reducible exact spec_l02Has.mono _ _ _)
      | (with_reducible exact LeO.refl _)
      | (with_reducible exact LeO.none _)
      | (with_reducible refine LeO.ite ?_ ?_)
      | (with_reducible refine LeO.bind ?_ (fun _ => ?_))
      | exact ih0 _ _ _ _ _
      | exact ih1 _ _ _ _ _ _ _
      | exact ih2 _ _ _ _ _ _ _ _ _ _ _ _ _ _ _
      | exact spec_l02Has.mono _ _ _
      | exact LeO.none _
      | refine LeO.ite ?_ ?_
      | refine LeO.bind ?_ (fun _ => ?_)
theorem spec_l20Run.mono : ∀ a0 k, LeO (spec_l20Run.f k a0) (spec_l20Run.f (k + 1) a0) := by
  intro a0 k
  obtain ⟨ih0, ih1, ih2⟩ := spec_l20Run.mono_l k
  unfold spec_l20Run.f
  repeat' first
      | (with_reducible exact ih0 _ _ _ _ _)
      | (with_reducible exact ih1 _ _ _ _ _ _ _)
      | (with_reducible exact ih2 _ _ _ _ _ _ _ _ _ _ _ _ _ _ _)
      | (with_reducible exact spec_l02Has.mono _ _ _)
      | (with_reducible exact LeO.refl _)
      | (with_reducible exact LeO.none _)
      | (with_reducible refine LeO.ite ?_ ?_)
      | (with_reducible refine LeO.bind ?_ (fun _ => ?_))
      | exact ih0 _ _ _ _ _
      | exact ih1 _ _ _ _ _ _ _
      | exact ih2 _ _ _ _ _ _ _ _ _ _ _ _ _ _ _
      | exact spec_l02Has.mono _ _ _
      | exact LeO.none _
      | refine LeO.ite ?_ ?_
      | refine LeO.bind ?_ (fun _ => ?_)
def spec_l20Run.T24 : Bool × List (List Nat × List Nat) := (true, [([], []), ([], []), ([1], [1]), ([], []), ([], []), ([4], [4]), ([3, 5], [3, 5]), ([6], [6]), ([], []), ([], []), ([8, 9], [8, 9]), ([10], [10]), ([7, 11], [7, 11]), ([], []), ([13], [13]), ([12, 14], [12, 14]), ([0, 2, 0, 1, 2, 3, 4, 5, 6, 7, 8, 9, 10, 11, 12, 13, 14, 15], [0, 2]), ([16, 15, 0, 1, 2, 3, 4, 5, 6, 7, 8, 9, 10, 11, 12, 13, 14, 15], [15, 16])])
def spec_l20Run.B24 : List Nat := [0, 0, 2, 0, 0, 16, 56, 120, 0, 0, 768, 1792, 4088, 0, 8192, 32760, 65535, 131071]
theorem spec_l20Run.tab24 : rtab .any (opsOf Try.f55 24) = spec_l20Run.T24 := by kernel_rfl
theorem spec_l20Run.bits24 : waitsOk spec_l20Run.T24.2 spec_l20Run.B24 = true := by kernel_rfl
set_option maxHeartbeats 8000000 in
set_option maxRecDepth 100000 in
theorem spec_l20Run.calls (k : Nat) (A0 : Option Addr) (c0 : Nat) (l0 : List (S38)) (r1 : List (List Int)) (r2 : List Int) (r3 : Int) (w : World) (hr0 : Kd.C k38 w A0 l0.length l0) (hc0 : l0.length ≤ c0) (h : spec_l20Run.f k l0 = some (r1, r2, r3)) :
    Calls Try.prog 55 #[.slice A0 l0.length c0] w fun e w' => ∃ v0_ v1_ : Value, e = .returned (.tuple #[v0_, v1_, .int .i64 r3]) ∧ Kd.S (Kd.slice 3 (Kd.int .i64)) 35 w' w.heap.size (fun k_ => some k_ ≠ (v1_ : Value).ownBlock) v0_ r1 ∧ Kd.R (Kd.int .i64) 3 w' w.heap.size (fun _ => True) v1_ r2 ∧ Below w.heap.size w w' := by
  have hu38 := Try.underlying38
  have HR0 := Aside0.mk hr0
  have HC0 := Aside0.mk hc0
  clear hr0 hc0
  have HB := Aside0.mk (Below.refl w.heap.size w)
  have H : (spec_l20Run.l0 k l0 (([] : List Int)) l0 (l0.length : Int) 0) = some (r1, r2, r3) := h
  clear h
  obtain ⟨y354, hy354⟩ : ∃ y_ : List Int, y_ = (([] : List Int)) := ⟨_, rfl⟩
  replace H : (spec_l20Run.l0 k l0 y354 l0 (l0.length : Int) 0) = some (r1, r2, r3) := by first | (rw [hy354]; with_reducible exact H) | (have H2_ := (Option.bind_some _ _).symm.trans H; rw [hy354]; with_reducible exact H2_) | (have H2_ := (Option.bind_some _ _).symm.trans H; with_reducible exact H2_) | with_reducible exact H | (rw [hy354]; exact H) | exact H
  have Ny354 := Aside0.mk hy354
  clear hy354
  have H' := Aside0.mk H
  clear H
  go_enter Try.func55, Try.ntmps55
  go_wp2_with (first | ((with_reducible refine gate_dst (N := 16) rfl ?_); refine Kd.R_lit (Kd.int .i64) _ 3 ?hg (N := 16) ?hd (xs := ([] : List Int)) (inner := []) (ok := fun _ => True) (okp := fun _ => True) ?hr ?hp (fun _ hk => hk) trivial (Below.refl _ _) (Nat.le_refl _) (by simp) ?_; (case hd => rfl); (case hg => rfl); (case hr => first | (go_simp; done) | (go_simp; rfl)); (case hp => exact (Reps.none _ _)); intro v355 w2 ho3 hb hg_ hnew_; clear hg_ hnew_; (first | rw [← Ny354.out] at ho3 | (simp only [Int.reduceToNat] at ho3; rw [← Ny354.out] at ho3)); have HO356 := Aside0.mk (Kd.R_lower ho3 (below_size bel)); replace HB := Aside0.mk (below_step bel hb); clear hb ho3))
  go_loopg [5, 19] k (fun kq v5 v19 w' => ∃ (x5_1 : List Int) (x19_1 : Int), v19 = .int .i64 x19_1 ∧ Aside0 (spec_l20Run.l0 kq l0 x5_1 l0 (l0.length : Int) x19_1 = some (r1, r2, r3)) ∧ Aside0 (kq ≤ k) ∧ Aside0 (Kd.R (Kd.int .i64) 3 w' w.heap.size (fun _ => True) v5 x5_1) ∧ Aside0 (Below w.heap.size w w'))
  case atStart => exact ⟨(y354), (0), (es), H', ⟨Nat.le_refl _⟩, ⟨rk HO356.out⟩, ⟨bel⟩⟩
  case round =>
    clear H'
    try clear p2
    obtain ⟨x5_1, x19_1, rfl, HA, HK1, HO_5, HB⟩ := hrel
    cases gk with
    | zero => exact absurd HA.out (by simp [spec_l20Run.l0])
    | succ k1 =>
      have H := HA.out
      clear HA
      simp only [spec_l20Run.l0] at H
      by_cases c4 : x19_1 < (l0.length : Int)
      · rw [if_pos c4] at H
        have c4b0 : decide (x19_1 < (l0.length : Int)) = true := decide_eq_true c4
        clear c4
        by_cases c5 : 0 ≤ x19_1
        · rw [if_pos c5] at H
          have c5b0 : decide (0 ≤ x19_1) = true := decide_eq_true c5
          clear c5
          by_cases c6 : x19_1 < (l0.length : Int)
          · rw [if_pos c6] at H
            have c6b0 : decide (x19_1 < (l0.length : Int)) = true := decide_eq_true c6
            clear c6
            by_cases c7 : x5_1.length < 17592186044416
            · rw [if_pos c7] at H
              have LMc7 := Aside0.mk c7
              clear c7
              obtain ⟨y359, hy359⟩ : ∃ y_ : List Int, y_ = (x5_1 ++ [(rd_T38 l0 x19_1).f1]) := ⟨_, rfl⟩
              replace H : (spec_l20Run.l0 k1 l0 y359 l0 (l0.length : Int) (wrap64 (x19_1 + 1))) = some (r1, r2, r3) := by first | (rw [hy359]; with_reducible exact H) | (have H2_ := (Option.bind_some _ _).symm.trans H; rw [hy359]; with_reducible exact H2_) | (have H2_ := (Option.bind_some _ _).symm.trans H; with_reducible exact H2_) | with_reducible exact H | (rw [hy359]; exact H) | exact H
              have Ny359 := Aside0.mk hy359
              clear hy359
              have H' := Aside0.mk H
              clear H
              have p357 : 0 ≤ (x19_1 : Int) := asm
              have q357 : x19_1 < (l0.length : Int) := asm
              obtain ⟨ad357, A357_0, c357_0, e357, hx357_0, hx357_1, hx357_2, hl357_0, hi357_0⟩ := at_T38 HR0.out x19_1 p357 q357
              cases e357
              replace hx357_0 := hcl HB.out hx357_0
              replace hx357_1 := hcl HB.out hx357_1
              replace hx357_2 := hcl HB.out hx357_2
              have HR357_0 := Aside0.mk hi357_0
              have HC357_0 := Aside0.mk hl357_0
              clear hi357_0 hl357_0
              replace p357 := eq_true p357
              replace q357 := eq_true q357
              go_wp2_with (first | ((with_reducible refine gate_dst (N := 7) rfl ?_); refine box_event ?hg (N := 7) ?hd (cs := #[.slice none 0 0, .int .i64 0, .int .i64 0]) (t := 38) ?hr ?_; (case hd => rfl); (case hg => rfl); (case hr => first | (go_simp; done) | (go_simp; rfl)); intro gb358 hg w8 hbox hb; have BK358 := Aside0.mk (hbox); have GW358 := Aside0.mk ((bsz hg : w.heap.size ≤ gb358)); have GE358 := Aside0.mk ((bsz hg : w.heap.size ≤ gb358)); replace HO_5 := Aside0.mk (Kd.R_below (rk HO_5.out) hb); replace HB := Aside0.mk (below_step bel hb); clear hb hbox hg; obtain ⟨hcz9_0, hcz9_1, hcz9_2, hfz9_0, hfz9_1, hfz9_2⟩ := cf3 BK358.out) | ((with_reducible refine gate_builtin (b := .append) (xs := #[.tmp 23, .tmp 26]) rfl ?_); at_builtin; refine Kd.R_append (Kd.int .i64) (w0 := w) w.heap.size rfl (.tmp 23) (.tmp 26) 35 3 (.int .i64 0) 8 rfl Try.underlying35 info3 rfl (by decide) (by omega) u5 x5_1 ((rd_T38 l0 x19_1).f1) [.int .i64 ((rd_T38 l0 x19_1).f1)] (fun _ => True) (fun _ => False) rfl (by first | (go_simp; done) | (go_simp; rfl)) ?aP (fun _ hk => hk.elim) ?aF ?aO ?aB ?aS ?aL ?_; (case aP => exact rfl); (case aB => exact bel); (case aF => exact (fun _ _ => trivial)); (case aO => exact (by (with_reducible repeat (first | apply Kd.R_alloc | apply Kd.R_drewN | apply Kd.R_drew)); exact Kd.R_mono (Kd.R_far (p := ⟨gb358, 2, none⟩) (Kd.R_far (p := ⟨gb358, 1, none⟩) (Kd.R_far (p := ⟨gb358, 0, none⟩) (Kd.R_types HO_5.out BK358.out (by decide)) (fun _ hk => hk.2) (.slice A357_0 ((rd_T38 l0 x19_1).f0).length c357_0)) (fun _ hk => hk.2) (.int .i64 ((rd_T38 l0 x19_1).f1))) (fun _ hk => hk.2) (.int .i64 ((rd_T38 l0 x19_1).f2))) (fun _ hk => trivial))); (case aS => exact (below_size bel)); (case aL => have := LMc7.out; omega); intro v360 w10 ho hb hg hat; rw [← Ny359.out] at ho; have n0_ := Aside0.mk (blk_grown (g := gb358) (o := .cells #[.slice A357_0 ((rd_T38 l0 x19_1).f0).length c357_0, .int .i64 ((rd_T38 l0 x19_1).f1), .int .i64 ((rd_T38 l0 x19_1).f2)] 38 (0, 0)) (by (with_reducible repeat (first | refine blk_drewN ?_ _ | refine blk_drew ?_ | refine blk_alloc ?_ _)); refine blk_put (cs := #[.slice A357_0 ((rd_T38 l0 x19_1).f0).length c357_0, .int .i64 ((rd_T38 l0 x19_1).f1), .int .i64 0]) ?_ 2 _ rfl; (with_reducible repeat (first | refine blk_drewN ?_ _ | refine blk_drew ?_ | refine blk_alloc ?_ _)); refine blk_put (cs := #[.slice A357_0 ((rd_T38 l0 x19_1).f0).length c357_0, .int .i64 0, .int .i64 0]) ?_ 1 _ rfl; (with_reducible repeat (first | refine blk_drewN ?_ _ | refine blk_drew ?_ | refine blk_alloc ?_ _)); refine blk_put (cs := #[.slice none 0 0, .int .i64 0, .int .i64 0]) ?_ 0 _ rfl; (with_reducible repeat (first | refine blk_drewN ?_ _ | refine blk_drew ?_ | refine blk_alloc ?_ _)); exact BK358.out) hg (Kd.R_ne HO_5.out BK358.out (by decide))); have n1_ := Aside0.mk (hb); have n2_ := Aside0.mk (ho); clear BK358; clear HB; clear HO_5; have BK358 := n0_; have HB := n1_; have HO361 := n2_; clear n0_ n1_ n2_; clear ho hb hg hat))
              go_roundg k1
              case measure => have := HK1.out; omega
              case rel => exact ⟨(y359), (wrap64 (x19_1 + 1)), (es), H', ⟨by have := HK1.out; omega⟩, ⟨rk HO361.out⟩, ⟨bel⟩⟩
            · rw [if_neg c7] at H
              exact absurd H (by simp)
          · rw [if_neg c6] at H
            exact absurd H (by simp)
        · rw [if_neg c5] at H
          exact absurd H (by simp)
      · rw [if_neg c4] at H
        have c4b0 : decide (x19_1 < (l0.length : Int)) = false := decide_eq_false c4
        clear c4
        obtain ⟨y362, hy362⟩ : ∃ y_ : List (List Int), y_ = (([] : List (List Int))) := ⟨_, rfl⟩
        replace H : (spec_l20Run.l1 k1 x5_1 y362 (([] : List Int)) 0 l0 (l0.length : Int) 0) = some (r1, r2, r3) := by first | (rw [hy362]; with_reducible exact H) | (have H2_ := (Option.bind_some _ _).symm.trans H; rw [hy362]; with_reducible exact H2_) | (have H2_ := (Option.bind_some _ _).symm.trans H; with_reducible exact H2_) | with_reducible exact H | (rw [hy362]; exact H) | exact H
        have Ny362 := Aside0.mk hy362
        clear hy362
        obtain ⟨y365, hy365⟩ : ∃ y_ : List Int, y_ = (([] : List Int)) := ⟨_, rfl⟩
        replace H : (spec_l20Run.l1 k1 x5_1 y362 y365 0 l0 (l0.length : Int) 0) = some (r1, r2, r3) := by first | (rw [hy365]; with_reducible exact H) | (have H2_ := (Option.bind_some _ _).symm.trans H; rw [hy365]; with_reducible exact H2_) | (have H2_ := (Option.bind_some _ _).symm.trans H; with_reducible exact H2_) | with_reducible exact H | (rw [hy365]; exact H) | exact H
        have Ny365 := Aside0.mk hy365
        clear hy365
        have H' := Aside0.mk H
        clear H
        go_wp2_with (first | ((with_reducible refine gate_dst (N := 29) rfl ?_); refine Kd.S_lit (Kd.slice 3 (Kd.int .i64)) _ 35 ?hg (N := 29) ?hd (xs := ([] : List (List Int))) (inner := []) (ok := fun _ => True) (okp := fun _ => True) ?hr ?hp (fun _ hk => hk) trivial (Below.refl _ _) (Nat.le_refl _) (by simp) ?_; (case hd => rfl); (case hg => rfl); (case hr => first | (go_simp; done) | (go_simp; rfl)); (case hp => exact (Reps.none _ _)); intro v363 w11 ho12 hb hg_ hnew_; clear hg_ hnew_; (first | rw [← Ny362.out] at ho12 | (simp only [Int.reduceToNat] at ho12; rw [← Ny362.out] at ho12)); have HO364 := Aside0.mk (Kd.S_lower (Kd.S_new' ho12 (Kd.R_lt (rk HO_5.out))) (below_size bel)); replace HO_5 := Aside0.mk (Kd.R_below (rk HO_5.out) hb); replace HB := Aside0.mk (below_step bel hb); clear hb ho12) | ((with_reducible refine gate_dst (N := 30) rfl ?_); refine Kd.R_lit (Kd.int .i64) _ 3 ?hg (N := 30) ?hd (xs := ([] : List Int)) (inner := []) (ok := fun _ => True) (okp := fun _ => True) ?hr ?hp (fun _ hk => hk) trivial (Below.refl _ _) (Nat.le_refl _) (by simp) ?_; (case hd => rfl); (case hg => rfl); (case hr => first | (go_simp; done) | (go_simp; rfl)); (case hp => exact (Reps.none _ _)); intro v366 w13 ho14 hb hg_ hnew_; clear hg_ hnew_; (first | rw [← Ny365.out] at ho14 | (simp only [Int.reduceToNat] at ho14; rw [← Ny365.out] at ho14)); have HO367 := Aside0.mk (Kd.R_lower (Kd.R_new' ho14 (Kd.R_lt (rk HO_5.out))) (below_size bel)); replace HO_5 := Aside0.mk (Kd.R_elder' (rk HO_5.out) (Kd.R_base ho14) hb); replace HO364 := Aside0.mk (Kd.S_elder' (by (with_reducible repeat (first | apply Kd.S_alloc | apply Kd.S_drewN | apply Kd.S_drew)); exact HO364.out) (Kd.R_base ho14) hb); replace HB := Aside0.mk (below_step bel hb); clear hb ho14))
        go_loopg [8, 9, 10, 33] k1 (fun kq v8 v9 v10 v33 w' => ∃ (x5_2 : List Int) (x8_2 : List (List Int)) (x9_2 : List Int) (x10_2 : Int) (x33_2 : Int), v10 = .int .i64 x10_2 ∧ v33 = .int .i64 x33_2 ∧ Aside0 (spec_l20Run.l1 kq x5_2 x8_2 x9_2 x10_2 l0 (l0.length : Int) x33_2 = some (r1, r2, r3)) ∧ Aside0 (kq ≤ k1) ∧ Aside0 (Kd.R (Kd.int .i64) 3 w' w.heap.size (fun k_ => some k_ ≠ (v9 : Value).ownBlock) u5 x5_2) ∧ Aside0 (Kd.S (Kd.slice 3 (Kd.int .i64)) 35 w' w.heap.size (fun k_ => some k_ ≠ (u5 : Value).ownBlock ∧ some k_ ≠ (v9 : Value).ownBlock) v8 x8_2) ∧ Aside0 (Kd.R (Kd.int .i64) 3 w' w.heap.size (fun k_ => some k_ ≠ (u5 : Value).ownBlock) v9 x9_2) ∧ Aside0 (Below w.heap.size w w'))
        case atStart => exact ⟨(x5_1), (y362), (y365), (0), (0), (es), (es), H', ⟨Nat.le_refl _⟩, ⟨by (with_reducible repeat (first | apply Kd.R_alloc | apply Kd.R_drewN | apply Kd.R_drew)); exact Kd.R_mono HO_5.out (fun _ hk => hk.2)⟩, ⟨by (with_reducible repeat (first | apply Kd.S_alloc | apply Kd.S_drewN | apply Kd.S_drew)); exact Kd.S_mono HO364.out (fun _ hk => ⟨hk.1.2, hk.2⟩)⟩, ⟨by (with_reducible repeat (first | apply Kd.R_alloc | apply Kd.R_drewN | apply Kd.R_drew)); exact Kd.R_mono HO367.out (fun _ hk => hk.2)⟩, ⟨bel⟩⟩
        case round =>
          clear H'
          try clear p2; try clear c3; try clear p3; try clear q3; try clear hx3; try clear c4; try clear c4b0; try clear c5; try clear c5b0; try clear c6; try clear c6b0; try clear p6; try clear c7; try clear hcz9_0; try clear hcz9_1; try clear hcz9_2; try clear hfz9_0; try clear hfz9_1; try clear hfz9_2; try clear hx357_0; try clear hx357_1; try clear hx357_2; try clear p2; try clear p357; try clear q357
          obtain ⟨x5_2, x8_2, x9_2, x10_2, x33_2, rfl, rfl, HA, HK2, HO_5, HO_8, HO_9, HB⟩ := hrel
          cases gk with
          | zero => exact absurd HA.out (by simp [spec_l20Run.l1])
          | succ k2 =>
            have H := HA.out
            clear HA
            simp only [spec_l20Run.l1] at H
            by_cases c15 : x33_2 < (l0.length : Int)
            · rw [if_pos c15] at H
              have c15b0 : decide (x33_2 < (l0.length : Int)) = true := decide_eq_true c15
              clear c15
              by_cases c16 : 0 ≤ x33_2
              · rw [if_pos c16] at H
                have c16b0 : decide (0 ≤ x33_2) = true := decide_eq_true c16
                clear c16
                by_cases c17 : x33_2 < (l0.length : Int)
                · rw [if_pos c17] at H
                  have c17b0 : decide (x33_2 < (l0.length : Int)) = true := decide_eq_true c17
                  clear c17
                  obtain ⟨y370, hy370⟩ : ∃ y_ : List Int, y_ = (([] : List Int)) := ⟨_, rfl⟩
                  replace H : (spec_l20Run.l2 k2 x5_2 x8_2 x9_2 x10_2 x33_2 y370 l0 (l0.length : Int) x33_2 ((rd_T38 l0 x33_2).f0) (((rd_T38 l0 x33_2).f0).length : Int) 0 ((rd_T38 l0 x33_2).f0) ((rd_T38 l0 x33_2).f1) ((rd_T38 l0 x33_2).f2)) = some (r1, r2, r3) := by first | (rw [hy370]; with_reducible exact H) | (have H2_ := (Option.bind_some _ _).symm.trans H; rw [hy370]; with_reducible exact H2_) | (have H2_ := (Option.bind_some _ _).symm.trans H; with_reducible exact H2_) | with_reducible exact H | (rw [hy370]; exact H) | exact H
                  have Ny370 := Aside0.mk hy370
                  clear hy370
                  have H' := Aside0.mk H
                  clear H
                  have p368 : 0 ≤ (x33_2 : Int) := asm
                  have q368 : x33_2 < (l0.length : Int) := asm
                  obtain ⟨ad368, A368_0, c368_0, e368, hx368_0, hx368_1, hx368_2, hl368_0, hi368_0⟩ := at_T38 HR0.out x33_2 p368 q368
                  cases e368
                  replace hx368_0 := hcl HB.out hx368_0
                  replace hx368_1 := hcl HB.out hx368_1
                  replace hx368_2 := hcl HB.out hx368_2
                  have HR368_0 := Aside0.mk hi368_0
                  have HC368_0 := Aside0.mk hl368_0
                  clear hi368_0 hl368_0
                  replace p368 := eq_true p368
                  replace q368 := eq_true q368
                  go_wp2_with (first | ((with_reducible refine gate_dst (N := 12) rfl ?_); refine box_event ?hg (N := 12) ?hd (cs := #[.slice none 0 0, .int .i64 0, .int .i64 0]) (t := 38) ?hr ?_; (case hd => rfl); (case hg => rfl); (case hr => first | (go_simp; done) | (go_simp; rfl)); intro gb369 hg w18 hbox hb; have BK369 := Aside0.mk (hbox); have GW369 := Aside0.mk ((bsz hg : w.heap.size ≤ gb369)); have GE369 := Aside0.mk ((bsz hg : w.heap.size ≤ gb369)); replace HO_5 := Aside0.mk (Kd.R_below (rk HO_5.out) hb); replace HO_8 := Aside0.mk (Kd.S_below (by (with_reducible repeat (first | apply Kd.S_alloc | apply Kd.S_drewN | apply Kd.S_drew)); exact HO_8.out) hb); replace HO_9 := Aside0.mk (Kd.R_below (rk HO_9.out) hb); replace HB := Aside0.mk (below_step bel hb); clear hb hbox hg; obtain ⟨hcz19_0, hcz19_1, hcz19_2, hfz19_0, hfz19_1, hfz19_2⟩ := cf3 BK369.out) | ((with_reducible refine gate_dst (N := 38) rfl ?_); refine Kd.R_lit (Kd.int .i64) _ 3 ?hg (N := 38) ?hd (xs := ([] : List Int)) (inner := []) (ok := fun _ => True) (okp := fun _ => True) ?hr ?hp (fun _ hk => hk) trivial (Below.refl _ _) (Nat.le_refl _) (by simp) ?_; (case hd => rfl); (case hg => rfl); (case hr => first | (go_simp; done) | (go_simp; rfl)); (case hp => exact (Reps.none _ _)); intro v371 w20 ho21 hb hg_ hnew_; clear hg_ hnew_; (first | rw [← Ny370.out] at ho21 | (simp only [Int.reduceToNat] at ho21; rw [← Ny370.out] at ho21)); have HO372 := Aside0.mk (Kd.R_lower (Kd.R_new' (Kd.R_new' ho21 (Kd.R_lt (by exact rk (Kd.R_mono (Kd.R_far (p := ⟨gb369, 2, none⟩) (Kd.R_far (p := ⟨gb369, 1, none⟩) (Kd.R_far (p := ⟨gb369, 0, none⟩) (Kd.R_types HO_5.out BK369.out (by decide)) (fun _ hk => hk.2) (.slice A368_0 ((rd_T38 l0 x33_2).f0).length c368_0)) (fun _ hk => hk.2) (.int .i64 ((rd_T38 l0 x33_2).f1))) (fun _ hk => hk.2) (.int .i64 ((rd_T38 l0 x33_2).f2))) (fun _ h_ => h_.1))))) (Kd.R_lt (by exact rk (Kd.R_mono (Kd.R_far (p := ⟨gb369, 2, none⟩) (Kd.R_far (p := ⟨gb369, 1, none⟩) (Kd.R_far (p := ⟨gb369, 0, none⟩) (Kd.R_types HO_9.out BK369.out (by decide)) (fun _ hk => hk.2) (.slice A368_0 ((rd_T38 l0 x33_2).f0).length c368_0)) (fun _ hk => hk.2) (.int .i64 ((rd_T38 l0 x33_2).f1))) (fun _ hk => hk.2) (.int .i64 ((rd_T38 l0 x33_2).f2))) (fun _ h_ => h_.1))))) (below_size bel)); replace HO_5 := Aside0.mk (Kd.R_elder' (by exact rk (Kd.R_mono (Kd.R_far (p := ⟨gb369, 2, none⟩) (Kd.R_far (p := ⟨gb369, 1, none⟩) (Kd.R_far (p := ⟨gb369, 0, none⟩) (Kd.R_types HO_5.out BK369.out (by decide)) (fun _ hk => hk.2) (.slice A368_0 ((rd_T38 l0 x33_2).f0).length c368_0)) (fun _ hk => hk.2) (.int .i64 ((rd_T38 l0 x33_2).f1))) (fun _ hk => hk.2) (.int .i64 ((rd_T38 l0 x33_2).f2))) (fun _ h_ => h_.1))) (Kd.R_base ho21) hb); replace HO_8 := Aside0.mk (Kd.S_elder' (by (with_reducible repeat (first | apply Kd.S_alloc | apply Kd.S_drewN | apply Kd.S_drew)); exact (Kd.S_mono (Kd.S_far (p := ⟨gb369, 2, none⟩) (Kd.S_far (p := ⟨gb369, 1, none⟩) (Kd.S_far (p := ⟨gb369, 0, none⟩) (Kd.S_types HO_8.out BK369.out (by decide)) (fun _ hk => hk.2) (.slice A368_0 ((rd_T38 l0 x33_2).f0).length c368_0)) (fun _ hk => hk.2) (.int .i64 ((rd_T38 l0 x33_2).f1))) (fun _ hk => hk.2) (.int .i64 ((rd_T38 l0 x33_2).f2))) (fun _ h_ => h_.1))) (Kd.R_base ho21) hb); replace HO_9 := Aside0.mk (Kd.R_elder' (by exact rk (Kd.R_mono (Kd.R_far (p := ⟨gb369, 2, none⟩) (Kd.R_far (p := ⟨gb369, 1, none⟩) (Kd.R_far (p := ⟨gb369, 0, none⟩) (Kd.R_types HO_9.out BK369.out (by decide)) (fun _ hk => hk.2) (.slice A368_0 ((rd_T38 l0 x33_2).f0).length c368_0)) (fun _ hk => hk.2) (.int .i64 ((rd_T38 l0 x33_2).f1))) (fun _ hk => hk.2) (.int .i64 ((rd_T38 l0 x33_2).f2))) (fun _ h_ => h_.1))) (Kd.R_base ho21) hb); replace BK369 := Aside0.mk (blk_below (g := gb369) (o := .cells #[.slice A368_0 ((rd_T38 l0 x33_2).f0).length c368_0, .int .i64 ((rd_T38 l0 x33_2).f1), .int .i64 ((rd_T38 l0 x33_2).f2)] 38 (0, 0)) (by (with_reducible repeat (first | refine blk_drewN ?_ _ | refine blk_drew ?_ | refine blk_alloc ?_ _)); refine blk_put (cs := #[.slice A368_0 ((rd_T38 l0 x33_2).f0).length c368_0, .int .i64 ((rd_T38 l0 x33_2).f1), .int .i64 0]) ?_ 2 _ rfl; (with_reducible repeat (first | refine blk_drewN ?_ _ | refine blk_drew ?_ | refine blk_alloc ?_ _)); refine blk_put (cs := #[.slice A368_0 ((rd_T38 l0 x33_2).f0).length c368_0, .int .i64 0, .int .i64 0]) ?_ 1 _ rfl; (with_reducible repeat (first | refine blk_drewN ?_ _ | refine blk_drew ?_ | refine blk_alloc ?_ _)); refine blk_put (cs := #[.slice none 0 0, .int .i64 0, .int .i64 0]) ?_ 0 _ rfl; (with_reducible repeat (first | refine blk_drewN ?_ _ | refine blk_drew ?_ | refine blk_alloc ?_ _)); exact BK369.out) hb); replace HB := Aside0.mk (below_step bel hb); clear hb ho21; obtain ⟨hcz22_0, hcz22_1, hcz22_2, hfz22_0, hfz22_1, hfz22_2⟩ := cf3 BK369.out))
                  go_loopg [9, 13, 42] k2 (fun kq v9 v13 v42 w' => ∃ (x9_3 : List Int) (x13_3 : List Int) (x42_3 : Int), v42 = .int .i64 x42_3 ∧ Aside0 (spec_l20Run.l2 kq x5_2 x8_2 x9_3 x10_2 x33_2 x13_3 l0 (l0.length : Int) x33_2 ((rd_T38 l0 x33_2).f0) (((rd_T38 l0 x33_2).f0).length : Int) x42_3 ((rd_T38 l0 x33_2).f0) ((rd_T38 l0 x33_2).f1) ((rd_T38 l0 x33_2).f2) = some (r1, r2, r3)) ∧ Aside0 (kq ≤ k2) ∧ Aside0 (Kd.R (Kd.int .i64) 3 w' w.heap.size (fun k_ => some k_ ≠ (v9 : Value).ownBlock ∧ some k_ ≠ (v13 : Value).ownBlock) u5 x5_2) ∧ Aside0 (Kd.S (Kd.slice 3 (Kd.int .i64)) 35 w' w.heap.size (fun k_ => some k_ ≠ (u5 : Value).ownBlock ∧ some k_ ≠ (v9 : Value).ownBlock ∧ some k_ ≠ (v13 : Value).ownBlock) u8 x8_2) ∧ Aside0 (Kd.R (Kd.int .i64) 3 w' w.heap.size (fun k_ => some k_ ≠ (u5 : Value).ownBlock ∧ some k_ ≠ (v13 : Value).ownBlock) v9 x9_3) ∧ Aside0 (Kd.R (Kd.int .i64) 3 w' w.heap.size (fun k_ => some k_ ≠ (u5 : Value).ownBlock ∧ some k_ ≠ (v9 : Value).ownBlock) v13 x13_3) ∧ Aside0 (w'.heap[gb369]? = some (.cells #[(.slice A368_0 ((rd_T38 l0 x33_2).f0).length c368_0), .int .i64 ((rd_T38 l0 x33_2).f1), .int .i64 ((rd_T38 l0 x33_2).f2)] 38 (0, 0))) ∧ Aside0 (Below w.heap.size w w'))
                  case atStart => exact ⟨(x9_2), (y370), (0), (es), H', ⟨Nat.le_refl _⟩, ⟨rk HO_5.out⟩, ⟨by (with_reducible repeat (first | apply Kd.S_alloc | apply Kd.S_drewN | apply Kd.S_drew)); exact Kd.S_mono HO_8.out (fun _ hk => ⟨hk.1.1, ⟨hk.1.2, hk.2⟩⟩)⟩, ⟨rk HO_9.out⟩, ⟨by (with_reducible repeat (first | apply Kd.R_alloc | apply Kd.R_drewN | apply Kd.R_drew)); exact Kd.R_mono HO372.out (fun _ hk => ⟨hk.1.2, hk.2⟩)⟩, ⟨bk BK369.out⟩, ⟨bel⟩⟩
                  case round =>
                    clear H'
                    try clear c1; try clear p2; try clear c3; try clear p3; try clear q3; try clear hx3; try clear c4; try clear c4b0; try clear c5; try clear c5b0; try clear c6; try clear c6b0; try clear p6; try clear c7; try clear c15; try clear c15b0; try clear c16; try clear c16b0; try clear c17; try clear c17b0; try clear hcz19_0; try clear hcz19_1; try clear hcz19_2; try clear hcz22_0; try clear hcz22_1; try clear hcz22_2; try clear hcz9_0; try clear hcz9_1; try clear hcz9_2; try clear hfz19_0; try clear hfz19_1; try clear hfz19_2; try clear hfz22_0; try clear hfz22_1; try clear hfz22_2; try clear hfz9_0; try clear hfz9_1; try clear hfz9_2; try clear hx357_0; try clear hx357_1; try clear hx357_2; try clear hx368_0; try clear hx368_1; try clear hx368_2; try clear p2; try clear p3; try clear p357; try clear p368; try clear p6; try clear q3; try clear q357; try clear q368
                    obtain ⟨x9_3, x13_3, x42_3, rfl, HA, HK3, HO_5, HO_8, HO_9, HO_13, BK369, HB⟩ := hrel
                    cases gk with
                    | zero => exact absurd HA.out (by simp [spec_l20Run.l2])
                    | succ k3 =>
                      have H := HA.out
                      clear HA
                      simp only [spec_l20Run.l2] at H
                      by_cases c23 : x42_3 < (((rd_T38 l0 x33_2).f0).length : Int)
                      · rw [if_pos c23] at H
                        have c23b0 : decide (x42_3 < (((rd_T38 l0 x33_2).f0).length : Int)) = true := decide_eq_true c23
                        clear c23
                        by_cases c24 : 0 ≤ x42_3
                        · rw [if_pos c24] at H
                          have c24b0 : decide (0 ≤ x42_3) = true := decide_eq_true c24
                          clear c24
                          by_cases c25 : x42_3 < (((rd_T38 l0 x33_2).f0).length : Int)
                          · rw [if_pos c25] at H
                            have c25b0 : decide (x42_3 < (((rd_T38 l0 x33_2).f0).length : Int)) = true := decide_eq_true c25
                            clear c25
                            by_cases c26 : 0 ≤ x33_2
                            · rw [if_pos c26] at H
                              have c26b0 : decide (0 ≤ x33_2) = true := decide_eq_true c26
                              clear c26
                              by_cases c27 : x33_2 < (x5_2.length : Int)
                              · rw [if_pos c27] at H
                                have c27b0 : decide (x33_2 < (x5_2.length : Int)) = true := decide_eq_true c27
                                clear c27
                                by_cases c28 : (x13_3.length : Int) < (rd x5_2 x33_2)
                                · rw [if_pos c28] at H
                                  have c28b0 : decide ((x13_3.length : Int) < (rd x5_2 x33_2)) = true := decide_eq_true c28
                                  clear c28
                                  replace H := Option.bind_eq_some_iff.mp H
                                  obtain ⟨t375, A290, H⟩ := H
                                  replace H : (if t375 = true then (spec_l20Run.l2 k3 x5_2 x8_2 x9_3 x10_2 x33_2 x13_3 l0 (l0.length : Int) x33_2 ((rd_T38 l0 x33_2).f0) (((rd_T38 l0 x33_2).f0).length : Int) (wrap64 (x42_3 + 1)) ((rd_T38 l0 x33_2).f0) ((rd_T38 l0 x33_2).f1) ((rd_T38 l0 x33_2).f2)) else (if x13_3.length < 17592186044416 then (if x9_3.length < 17592186044416 then (spec_l20Run.l2 k3 x5_2 x8_2 (x9_3 ++ [rd ((rd_T38 l0 x33_2).f0) x42_3]) x10_2 x33_2 (x13_3 ++ [rd ((rd_T38 l0 x33_2).f0) x42_3]) l0 (l0.length : Int) x33_2 ((rd_T38 l0 x33_2).f0) (((rd_T38 l0 x33_2).f0).length : Int) (wrap64 (x42_3 + 1)) ((rd_T38 l0 x33_2).f0) ((rd_T38 l0 x33_2).f1) ((rd_T38 l0 x33_2).f2)) else (none)) else (none))) = some (r1, r2, r3) := H
                                  have A29 := Aside0.mk A290
                                  clear A290
                                  by_cases c30 : t375 = true
                                  · subst c30
                                    have H1 : (spec_l20Run.l2 k3 x5_2 x8_2 x9_3 x10_2 x33_2 x13_3 l0 (l0.length : Int) x33_2 ((rd_T38 l0 x33_2).f0) (((rd_T38 l0 x33_2).f0).length : Int) (wrap64 (x42_3 + 1)) ((rd_T38 l0 x33_2).f0) ((rd_T38 l0 x33_2).f1) ((rd_T38 l0 x33_2).f2)) = some (r1, r2, r3) := by rw [if_pos rfl] at H; exact H
                                    clear H
                                    have H := H1
                                    clear H1
                                    have H' := Aside0.mk H
                                    clear H
                                    have p373 : 0 ≤ (x42_3 : Int) := asm
                                    have q373 : x42_3 < (((rd_T38 l0 x33_2).f0).length : Int) := asm
                                    obtain ⟨ad373, e373, hx373_0⟩ := Kd.at_int HR368_0.out x42_3 p373 q373
                                    cases e373
                                    replace hx373_0 := hcl HB.out hx373_0
                                    replace p373 := eq_true p373
                                    replace q373 := eq_true q373
                                    obtain ⟨Ao31, co31, eo31⟩ := Kd.R_slice HO_13.out
                                    subst eo31
                                    obtain ⟨Ao32, co32, eo32⟩ := Kd.R_slice HO_5.out
                                    subst eo32
                                    have p374 : 0 ≤ (x33_2 : Int) := asm
                                    have q374 : x33_2 < (x5_2.length : Int) := asm
                                    obtain ⟨ad374, e374, hx374_0⟩ := Kd.at_int (Kd.R_reads' HO_5.out).2.2 x33_2 p374 q374
                                    cases e374
                                    replace p374 := eq_true p374
                                    replace q374 := eq_true q374
                                    obtain ⟨Ao33, co33, eo33⟩ := Kd.R_slice HO_9.out
                                    subst eo33
                                    go_wp2_with (first | (go_at_call 40; (with_reducible refine (spec_l02Has.calls k3 _ _ x9_3 (rd ((rd_T38 l0 x33_2).f0) x42_3) true _ ?side1 ?side2 A29.out).mono ?_); (case side1 => exact ck (Kd.R_reads' HO_9.out).2.2); (case side2 => exact (Kd.R_reads' HO_9.out).2.1); rintro e w' ⟨rfl, ⟨nd, rfl⟩⟩))
                                    go_roundg k3
                                    case measure => have := HK1.out; have := HK2.out; have := HK3.out; omega
                                    case rel => exact ⟨(x9_3), (x13_3), (wrap64 (x42_3 + 1)), (es), H', ⟨by have := HK1.out; have := HK2.out; have := HK3.out; omega⟩, ⟨rk HO_5.out⟩, ⟨by (with_reducible repeat (first | apply Kd.S_alloc | apply Kd.S_drewN | apply Kd.S_drew)); exact HO_8.out⟩, ⟨rk HO_9.out⟩, ⟨rk HO_13.out⟩, ⟨bk BK369.out⟩, ⟨bel⟩⟩
                                  · replace c30 := Bool.eq_false_iff.mpr c30
                                    subst c30
                                    have H1 : (if x13_3.length < 17592186044416 then (if x9_3.length < 17592186044416 then (spec_l20Run.l2 k3 x5_2 x8_2 (x9_3 ++ [rd ((rd_T38 l0 x33_2).f0) x42_3]) x10_2 x33_2 (x13_3 ++ [rd ((rd_T38 l0 x33_2).f0) x42_3]) l0 (l0.length : Int) x33_2 ((rd_T38 l0 x33_2).f0) (((rd_T38 l0 x33_2).f0).length : Int) (wrap64 (x42_3 + 1)) ((rd_T38 l0 x33_2).f0) ((rd_T38 l0 x33_2).f1) ((rd_T38 l0 x33_2).f2)) else (none)) else (none)) = some (r1, r2, r3) := by rw [if_neg (show ¬ (false = true) by decide)] at H; exact H
                                    clear H
                                    have H := H1
                                    clear H1
                                    by_cases c34 : x13_3.length < 17592186044416
                                    · rw [if_pos c34] at H
                                      have LMc34 := Aside0.mk c34
                                      clear c34
                                      obtain ⟨y376, hy376⟩ : ∃ y_ : List Int, y_ = (x13_3 ++ [rd ((rd_T38 l0 x33_2).f0) x42_3]) := ⟨_, rfl⟩
                                      replace H : (if x9_3.length < 17592186044416 then (spec_l20Run.l2 k3 x5_2 x8_2 (x9_3 ++ [rd ((rd_T38 l0 x33_2).f0) x42_3]) x10_2 x33_2 y376 l0 (l0.length : Int) x33_2 ((rd_T38 l0 x33_2).f0) (((rd_T38 l0 x33_2).f0).length : Int) (wrap64 (x42_3 + 1)) ((rd_T38 l0 x33_2).f0) ((rd_T38 l0 x33_2).f1) ((rd_T38 l0 x33_2).f2)) else (none)) = some (r1, r2, r3) := by first | (rw [hy376]; with_reducible exact H) | (have H2_ := (Option.bind_some _ _).symm.trans H; rw [hy376]; with_reducible exact H2_) | (have H2_ := (Option.bind_some _ _).symm.trans H; with_reducible exact H2_) | with_reducible exact H | (rw [hy376]; exact H) | exact H
                                      have Ny376 := Aside0.mk hy376
                                      clear hy376
                                      by_cases c35 : x9_3.length < 17592186044416
                                      · rw [if_pos c35] at H
                                        have LMc35 := Aside0.mk c35
                                        clear c35
                                        obtain ⟨y379, hy379⟩ : ∃ y_ : List Int, y_ = (x9_3 ++ [rd ((rd_T38 l0 x33_2).f0) x42_3]) := ⟨_, rfl⟩
                                        replace H : (spec_l20Run.l2 k3 x5_2 x8_2 y379 x10_2 x33_2 y376 l0 (l0.length : Int) x33_2 ((rd_T38 l0 x33_2).f0) (((rd_T38 l0 x33_2).f0).length : Int) (wrap64 (x42_3 + 1)) ((rd_T38 l0 x33_2).f0) ((rd_T38 l0 x33_2).f1) ((rd_T38 l0 x33_2).f2)) = some (r1, r2, r3) := by first | (rw [hy379]; with_reducible exact H) | (have H2_ := (Option.bind_some _ _).symm.trans H; rw [hy379]; with_reducible exact H2_) | (have H2_ := (Option.bind_some _ _).symm.trans H; with_reducible exact H2_) | with_reducible exact H | (rw [hy379]; exact H) | exact H
                                        have Ny379 := Aside0.mk hy379
                                        clear hy379
                                        have H' := Aside0.mk H
                                        clear H
                                        have p373 : 0 ≤ (x42_3 : Int) := asm
                                        have q373 : x42_3 < (((rd_T38 l0 x33_2).f0).length : Int) := asm
                                        obtain ⟨ad373, e373, hx373_0⟩ := Kd.at_int HR368_0.out x42_3 p373 q373
                                        cases e373
                                        replace hx373_0 := hcl HB.out hx373_0
                                        replace p373 := eq_true p373
                                        replace q373 := eq_true q373
                                        obtain ⟨Ao36, co36, eo36⟩ := Kd.R_slice HO_13.out
                                        subst eo36
                                        obtain ⟨Ao37, co37, eo37⟩ := Kd.R_slice HO_5.out
                                        subst eo37
                                        have p374 : 0 ≤ (x33_2 : Int) := asm
                                        have q374 : x33_2 < (x5_2.length : Int) := asm
                                        obtain ⟨ad374, e374, hx374_0⟩ := Kd.at_int (Kd.R_reads' HO_5.out).2.2 x33_2 p374 q374
                                        cases e374
                                        replace p374 := eq_true p374
                                        replace q374 := eq_true q374
                                        obtain ⟨Ao38, co38, eo38⟩ := Kd.R_slice HO_9.out
                                        subst eo38
                                        go_wp2_with (first | (go_at_call 40; (with_reducible refine (spec_l02Has.calls k3 _ _ x9_3 (rd ((rd_T38 l0 x33_2).f0) x42_3) false _ ?side1 ?side2 A29.out).mono ?_); (case side1 => exact ck (Kd.R_reads' HO_9.out).2.2); (case side2 => exact (Kd.R_reads' HO_9.out).2.1); rintro e w' ⟨rfl, ⟨nd, rfl⟩⟩) | ((with_reducible refine gate_builtin (b := .append) (xs := #[.tmp 59, .tmp 61]) rfl ?_); at_builtin; refine Kd.R_append (Kd.int .i64) (w0 := w) w.heap.size rfl (.tmp 59) (.tmp 61) 35 3 (.int .i64 0) 8 rfl Try.underlying35 info3 rfl (by decide) (by omega) (.slice Ao36 x13_3.length co36) x13_3 (rd ((rd_T38 l0 x33_2).f0) x42_3) [.int .i64 (rd ((rd_T38 l0 x33_2).f0) x42_3)] (fun k_ => some k_ ≠ (.slice (some ad374) x5_2.length co37 : Value).ownBlock ∧ some k_ ≠ (.slice Ao38 x9_3.length co38 : Value).ownBlock) (fun _ => False) rfl rfl ?aP (fun _ hk => hk.elim) ?aF ?aO ?aB ?aS ?aL ?_; (case aP => exact rfl); (case aB => exact bel); (case aF => exact (fun k_ hk => ⟨Kd.fresh' (Kd.R_lt (rk HO_5.out)) k_ hk, Kd.fresh' (Kd.R_lt (rk HO_9.out)) k_ hk⟩)); (case aO => exact (rk HO_13.out)); (case aS => exact (below_size bel)); (case aL => have := LMc34.out; omega); intro v377 w39 ho hb hg hat; rw [← Ny376.out] at ho; have n0_ := Aside0.mk (Kd.R_after (ok := (fun k_ => some k_ ≠ (.slice Ao38 x9_3.length co38 : Value).ownBlock)) (rk HO_5.out) hg hat); have n1_ := Aside0.mk (Kd.S_after (ok := (fun k_ => some k_ ≠ (.slice (some ad374) x5_2.length co37 : Value).ownBlock ∧ some k_ ≠ (.slice Ao38 x9_3.length co38 : Value).ownBlock)) (by (with_reducible repeat (first | apply Kd.S_alloc | apply Kd.S_drewN | apply Kd.S_drew)); exact Kd.S_mono HO_8.out (fun _ hk => ⟨⟨hk.1, hk.2.1⟩, hk.2.2⟩)) hg hat); have n2_ := Aside0.mk (Kd.R_after (ok := (fun k_ => some k_ ≠ (.slice (some ad374) x5_2.length co37 : Value).ownBlock)) (rk HO_9.out) hg hat); have n3_ := Aside0.mk (blk_grown (g := gb369) (o := .cells #[.slice (some ad373) ((rd_T38 l0 x33_2).f0).length c368_0, .int .i64 ((rd_T38 l0 x33_2).f1), .int .i64 ((rd_T38 l0 x33_2).f2)] 38 (0, 0)) (bk BK369.out) hg (Kd.R_ne HO_13.out BK369.out (by decide))); have n4_ := Aside0.mk (hb); have n5_ := Aside0.mk (ho); clear HO_5; clear HO_8; clear HO_9; clear BK369; clear HB; clear HO_13; have HO_5 := n0_; have HO_8 := n1_; have HO_9 := n2_; have BK369 := n3_; have HB := n4_; have HO378 := n5_; clear n0_ n1_ n2_ n3_ n4_ n5_; clear ho hb hg hat) | ((with_reducible refine gate_builtin (b := .append) (xs := #[.tmp 63, .tmp 65]) rfl ?_); at_builtin; refine Kd.R_append (Kd.int .i64) (w0 := w) w.heap.size rfl (.tmp 63) (.tmp 65) 35 3 (.int .i64 0) 8 rfl Try.underlying35 info3 rfl (by decide) (by omega) (.slice Ao38 x9_3.length co38) x9_3 (rd ((rd_T38 l0 x33_2).f0) x42_3) [.int .i64 (rd ((rd_T38 l0 x33_2).f0) x42_3)] (fun k_ => some k_ ≠ (.slice (some ad374) x5_2.length co37 : Value).ownBlock ∧ some k_ ≠ (v377 : Value).ownBlock) (fun _ => False) rfl rfl ?aP (fun _ hk => hk.elim) ?aF ?aO ?aB ?aS ?aL ?_; (case aP => exact rfl); (case aB => exact bel); (case aF => exact (fun k_ hk => ⟨Kd.fresh' (Kd.R_lt (rk HO_5.out)) k_ hk, Kd.fresh' (Kd.R_lt (rk HO378.out)) k_ hk⟩)); (case aO => exact (rk HO_9.out)); (case aS => exact (below_size bel)); (case aL => have := LMc35.out; omega); intro v380 w40 ho hb hg hat; rw [← Ny379.out] at ho; have n0_ := Aside0.mk (Kd.R_after (ok := (fun k_ => some k_ ≠ (v377 : Value).ownBlock)) (by (with_reducible repeat (first | apply Kd.R_alloc | apply Kd.R_drewN | apply Kd.R_drew)); exact Kd.R_mono HO_5.out (fun _ hk => ⟨hk.2, hk.1⟩)) hg hat); have n1_ := Aside0.mk (Kd.S_after (ok := (fun k_ => some k_ ≠ (.slice (some ad374) x5_2.length co37 : Value).ownBlock ∧ some k_ ≠ (v377 : Value).ownBlock)) (by (with_reducible repeat (first | apply Kd.S_alloc | apply Kd.S_drewN | apply Kd.S_drew)); exact Kd.S_mono HO_8.out (fun _ hk => ⟨⟨hk.1.1, hk.2⟩, hk.1.2⟩)) hg hat); have n2_ := Aside0.mk (blk_grown (g := gb369) (o := .cells #[.slice (some ad373) ((rd_T38 l0 x33_2).f0).length c368_0, .int .i64 ((rd_T38 l0 x33_2).f1), .int .i64 ((rd_T38 l0 x33_2).f2)] 38 (0, 0)) (bk BK369.out) hg (Kd.R_ne HO_9.out BK369.out (by decide))); have n3_ := Aside0.mk (Kd.R_after (ok := (fun k_ => some k_ ≠ (.slice (some ad374) x5_2.length co37 : Value).ownBlock)) (rk HO378.out) hg hat); have n4_ := Aside0.mk (hb); have n5_ := Aside0.mk (ho); clear HO_5; clear HO_8; clear BK369; clear HO378; clear HB; clear HO_9; have HO_5 := n0_; have HO_8 := n1_; have BK369 := n2_; have HO378 := n3_; have HB := n4_; have HO381 := n5_; clear n0_ n1_ n2_ n3_ n4_ n5_; clear ho hb hg hat))
                                        go_roundg k3
                                        case measure => have := HK1.out; have := HK2.out; have := HK3.out; omega
                                        case rel => exact ⟨(y379), (y376), (wrap64 (x42_3 + 1)), (es), H', ⟨by have := HK1.out; have := HK2.out; have := HK3.out; omega⟩, ⟨by (with_reducible repeat (first | apply Kd.R_alloc | apply Kd.R_drewN | apply Kd.R_drew)); exact Kd.R_mono HO_5.out (fun _ hk => ⟨hk.2, hk.1⟩)⟩, ⟨by (with_reducible repeat (first | apply Kd.S_alloc | apply Kd.S_drewN | apply Kd.S_drew)); exact Kd.S_mono HO_8.out (fun _ hk => ⟨hk.1.1, ⟨hk.2, hk.1.2⟩⟩)⟩, ⟨rk HO381.out⟩, ⟨rk HO378.out⟩, ⟨bk BK369.out⟩, ⟨bel⟩⟩
                                      · rw [if_neg c35] at H
                                        exact absurd H (by simp)
                                    · rw [if_neg c34] at H
                                      exact absurd H (by simp)
                                · rw [if_neg c28] at H
                                  have c28b0 : decide ((x13_3.length : Int) < (rd x5_2 x33_2)) = false := decide_eq_false c28
                                  clear c28
                                  have H' := Aside0.mk H
                                  clear H
                                  have p373 : 0 ≤ (x42_3 : Int) := asm
                                  have q373 : x42_3 < (((rd_T38 l0 x33_2).f0).length : Int) := asm
                                  obtain ⟨ad373, e373, hx373_0⟩ := Kd.at_int HR368_0.out x42_3 p373 q373
                                  cases e373
                                  replace hx373_0 := hcl HB.out hx373_0
                                  replace p373 := eq_true p373
                                  replace q373 := eq_true q373
                                  obtain ⟨Ao41, co41, eo41⟩ := Kd.R_slice HO_13.out
                                  subst eo41
                                  obtain ⟨Ao42, co42, eo42⟩ := Kd.R_slice HO_5.out
                                  subst eo42
                                  have p374 : 0 ≤ (x33_2 : Int) := asm
                                  have q374 : x33_2 < (x5_2.length : Int) := asm
                                  obtain ⟨ad374, e374, hx374_0⟩ := Kd.at_int (Kd.R_reads' HO_5.out).2.2 x33_2 p374 q374
                                  cases e374
                                  replace p374 := eq_true p374
                                  replace q374 := eq_true q374
                                  go_wp2
                                  go_roundg k3
                                  case measure => have := HK1.out; have := HK2.out; have := HK3.out; omega
                                  case rel => exact ⟨(x9_3), (x13_3), (wrap64 (x42_3 + 1)), (es), H', ⟨by have := HK1.out; have := HK2.out; have := HK3.out; omega⟩, ⟨rk HO_5.out⟩, ⟨by (with_reducible repeat (first | apply Kd.S_alloc | apply Kd.S_drewN | apply Kd.S_drew)); exact HO_8.out⟩, ⟨rk HO_9.out⟩, ⟨rk HO_13.out⟩, ⟨bk BK369.out⟩, ⟨bel⟩⟩
                              · rw [if_neg c27] at H
                                exact absurd H (by simp)
                            · rw [if_neg c26] at H
                              exact absurd H (by simp)
                          · rw [if_neg c25] at H
                            exact absurd H (by simp)
                        · rw [if_neg c24] at H
                          exact absurd H (by simp)
                      · rw [if_neg c23] at H
                        have c23b0 : decide (x42_3 < (((rd_T38 l0 x33_2).f0).length : Int)) = false := decide_eq_false c23
                        clear c23
                        by_cases c43 : x8_2.length < 5864062014805
                        · rw [if_pos c43] at H
                          have LMc43 := Aside0.mk c43
                          clear c43
                          obtain ⟨y382, hy382⟩ : ∃ y_ : List (List Int), y_ = (x8_2 ++ [x13_3]) := ⟨_, rfl⟩
                          replace H : (if ((rd_T38 l0 x33_2).f2) < 0 then (if 0 ≤ x33_2 then (if x33_2 < (x5_2.length : Int) then (spec_l20Run.l1 k3 x5_2 y382 x9_3 (wrap64 ((wrap64 (x10_2 + (rd x5_2 x33_2))) - (x13_3.length : Int))) l0 (l0.length : Int) (wrap64 (x33_2 + 1))) else (none)) else (none)) else (if 0 ≤ ((rd_T38 l0 x33_2).f2) then (if ((rd_T38 l0 x33_2).f2) < (x5_2.length : Int) then (if 0 ≤ x33_2 then (if x33_2 < (x5_2.length : Int) then (spec_l20Run.l1 k3 (x5_2.set (((rd_T38 l0 x33_2).f2) : Int).toNat (wrap64 ((wrap64 ((rd x5_2 ((rd_T38 l0 x33_2).f2)) + (rd x5_2 x33_2))) - (x13_3.length : Int)))) y382 x9_3 x10_2 l0 (l0.length : Int) (wrap64 (x33_2 + 1))) else (none)) else (none)) else (none)) else (none))) = some (r1, r2, r3) := by first | (rw [hy382]; with_reducible exact H) | (have H2_ := (Option.bind_some _ _).symm.trans H; rw [hy382]; with_reducible exact H2_) | (have H2_ := (Option.bind_some _ _).symm.trans H; with_reducible exact H2_) | with_reducible exact H | (rw [hy382]; exact H) | exact H
                          have Ny382 := Aside0.mk hy382
                          clear hy382
                          by_cases c44 : ((rd_T38 l0 x33_2).f2) < 0
                          · rw [if_pos c44] at H
                            have c44b0 : decide (((rd_T38 l0 x33_2).f2) < 0) = true := decide_eq_true c44
                            clear c44
                            by_cases c45 : 0 ≤ x33_2
                            · rw [if_pos c45] at H
                              have c45b0 : decide (0 ≤ x33_2) = true := decide_eq_true c45
                              clear c45
                              by_cases c46 : x33_2 < (x5_2.length : Int)
                              · rw [if_pos c46] at H
                                have c46b0 : decide (x33_2 < (x5_2.length : Int)) = true := decide_eq_true c46
                                clear c46
                                have H' := Aside0.mk H
                                clear H
                                obtain ⟨Ao48, co48, eo48⟩ := Kd.R_slice HO_13.out
                                subst eo48
                                go_wp2_with (first | ((with_reducible refine gate_builtin (b := .append) (xs := #[.tmp 68, .tmp 70]) rfl ?_); at_builtin; refine Kd.S_append (Kd.slice 3 (Kd.int .i64)) (w0 := w) w.heap.size rfl (.tmp 68) (.tmp 70) 32 35 (.slice none 0 0) 24 rfl Try.underlying32 info35 rfl (by decide) (by omega) u8 x8_2 x13_3 [.slice Ao48 x13_3.length co48] (fun k_ => some k_ ≠ (u5 : Value).ownBlock ∧ some k_ ≠ (u9 : Value).ownBlock) (fun k_ => some k_ = (.slice Ao48 x13_3.length co48 : Value).ownBlock) rfl rfl ?aP (fun k_ hk_ => ((Kd.R_mono (ok' := fun k_ => ((fun k_ => some k_ ≠ (u5 : Value).ownBlock ∧ some k_ ≠ (u9 : Value).ownBlock)) k_ ∧ some k_ ≠ (u8 : Value).ownBlock) (Kd.R_apart' (HO_13.out) (Kd.S_typed HO_8.out) (by decide)) (fun k_ hk => ⟨⟨hk.1.1, hk.1.2⟩, hk.2⟩))).1 k_ hk_.symm) ?aF ?aO ?aB ?aS ?aL ?_; (case aP => exact Kd.M_row (Kd.R_mono (Kd.R_tight rfl (Kd.R_mono (ok' := fun k_ => ((fun k_ => some k_ ≠ (u5 : Value).ownBlock ∧ some k_ ≠ (u9 : Value).ownBlock)) k_ ∧ some k_ ≠ (u8 : Value).ownBlock) (Kd.R_apart' (HO_13.out) (Kd.S_typed HO_8.out) (by decide)) (fun k_ hk => ⟨⟨hk.1.1, hk.1.2⟩, hk.2⟩))) (fun _ h_ => h_))); (case aB => exact bel); (case aF => exact (fun k_ hk => ⟨Kd.fresh' (Kd.R_lt (rk HO_5.out)) k_ hk, Kd.fresh' (Kd.R_lt (rk HO_9.out)) k_ hk⟩)); (case aO => exact (by (with_reducible repeat (first | apply Kd.S_alloc | apply Kd.S_drewN | apply Kd.S_drew)); exact Kd.S_mono HO_8.out (fun k_ hk => ⟨⟨hk.1, hk.2.1⟩, fun e_ => hk.2.2 e_⟩))); (case aS => exact (below_size bel)); (case aL => have := LMc43.out; omega); intro v383 w47 ho hb hg hat; rw [← Ny382.out] at ho; have n0_ := Aside0.mk (Kd.R_over' (rk HO_5.out) (Kd.S_typed (by (with_reducible repeat (first | apply Kd.S_alloc | apply Kd.S_drewN | apply Kd.S_drew)); exact HO_8.out)) (by decide) hg); have n1_ := Aside0.mk (Kd.R_over' (rk HO_9.out) (Kd.S_typed (by (with_reducible repeat (first | apply Kd.S_alloc | apply Kd.S_drewN | apply Kd.S_drew)); exact HO_8.out)) (by decide) hg); have n2_ := Aside0.mk (blk_grown (g := gb369) (o := .cells #[.slice A368_0 ((rd_T38 l0 x33_2).f0).length c368_0, .int .i64 ((rd_T38 l0 x33_2).f1), .int .i64 ((rd_T38 l0 x33_2).f2)] 38 (0, 0)) (bk BK369.out) hg (Kd.S_ne HO_8.out BK369.out (by decide))); have n3_ := Aside0.mk (hb); have n4_ := Aside0.mk (ho); clear HO_5; clear HO_9; clear BK369; clear HB; clear HO_8; clear HO_13; have HO_5 := n0_; have HO_9 := n1_; have BK369 := n2_; have HB := n3_; have HO384 := n4_; clear n0_ n1_ n2_ n3_ n4_; clear ho hb hg hat; obtain ⟨hcz49_0, hcz49_1, hcz49_2, hfz49_0, hfz49_1, hfz49_2⟩ := cf3 BK369.out; obtain ⟨Ao50, co50, eo50⟩ := Kd.R_slice HO_5.out; subst eo50; have p385 : 0 ≤ (x33_2 : Int) := asm; have q385 : x33_2 < (x5_2.length : Int) := asm; obtain ⟨ad385, e385, hx385_0⟩ := Kd.at_int (Kd.R_reads' HO_5.out).2.2 x33_2 p385 q385; cases e385; replace p385 := eq_true p385; replace q385 := eq_true q385))
                                go_roundg k3
                                case measure => have := HK1.out; have := HK2.out; have := HK3.out; omega
                                case rel => exact ⟨(x5_2), (y382), (x9_3), (wrap64 ((wrap64 (x10_2 + (rd x5_2 x33_2))) - (x13_3.length : Int))), (wrap64 (x33_2 + 1)), (es), (es), H', ⟨by have := HK1.out; have := HK2.out; have := HK3.out; omega⟩, ⟨by (with_reducible repeat (first | apply Kd.R_alloc | apply Kd.R_drewN | apply Kd.R_drew)); exact Kd.R_mono HO_5.out (fun _ hk => hk.1)⟩, ⟨by (with_reducible repeat (first | apply Kd.S_alloc | apply Kd.S_drewN | apply Kd.S_drew)); exact HO384.out⟩, ⟨by (with_reducible repeat (first | apply Kd.R_alloc | apply Kd.R_drewN | apply Kd.R_drew)); exact Kd.R_mono HO_9.out (fun _ hk => hk.1)⟩, ⟨bel⟩⟩
                              · rw [if_neg c46] at H
                                exact absurd H (by simp)
                            · rw [if_neg c45] at H
                              exact absurd H (by simp)
                          · rw [if_neg c44] at H
                            have c44b0 : decide (((rd_T38 l0 x33_2).f2) < 0) = false := decide_eq_false c44
                            clear c44
                            by_cases c51 : 0 ≤ ((rd_T38 l0 x33_2).f2)
                            · rw [if_pos c51] at H
                              have c51b0 : decide (0 ≤ ((rd_T38 l0 x33_2).f2)) = true := decide_eq_true c51
                              clear c51
                              by_cases c52 : ((rd_T38 l0 x33_2).f2) < (x5_2.length : Int)
                              · rw [if_pos c52] at H
                                have c52b0 : decide (((rd_T38 l0 x33_2).f2) < (x5_2.length : Int)) = true := decide_eq_true c52
                                clear c52
                                by_cases c53 : 0 ≤ x33_2
                                · rw [if_pos c53] at H
                                  have c53b0 : decide (0 ≤ x33_2) = true := decide_eq_true c53
                                  clear c53
                                  by_cases c54 : x33_2 < (x5_2.length : Int)
                                  · rw [if_pos c54] at H
                                    have c54b0 : decide (x33_2 < (x5_2.length : Int)) = true := decide_eq_true c54
                                    clear c54
                                    obtain ⟨y388, hy388⟩ : ∃ y_ : List Int, y_ = (x5_2.set (((rd_T38 l0 x33_2).f2) : Int).toNat (wrap64 ((wrap64 ((rd x5_2 ((rd_T38 l0 x33_2).f2)) + (rd x5_2 x33_2))) - (x13_3.length : Int)))) := ⟨_, rfl⟩
                                    replace H : (spec_l20Run.l1 k3 y388 y382 x9_3 x10_2 l0 (l0.length : Int) (wrap64 (x33_2 + 1))) = some (r1, r2, r3) := by first | (rw [hy388]; with_reducible exact H) | (have H2_ := (Option.bind_some _ _).symm.trans H; rw [hy388]; with_reducible exact H2_) | (have H2_ := (Option.bind_some _ _).symm.trans H; with_reducible exact H2_) | with_reducible exact H | (rw [hy388]; exact H) | exact H
                                    have Ny388 := Aside0.mk hy388
                                    clear hy388
                                    have H' := Aside0.mk H
                                    clear H
                                    obtain ⟨Ao57, co57, eo57⟩ := Kd.R_slice HO_13.out
                                    subst eo57
                                    try go_wp2_with (first | ((with_reducible refine gate_builtin (b := .append) (xs := #[.tmp 68, .tmp 70]) rfl ?_); at_builtin; refine Kd.S_append (Kd.slice 3 (Kd.int .i64)) (w0 := w) w.heap.size rfl (.tmp 68) (.tmp 70) 32 35 (.slice none 0 0) 24 rfl Try.underlying32 info35 rfl (by decide) (by omega) u8 x8_2 x13_3 [.slice Ao57 x13_3.length co57] (fun k_ => some k_ ≠ (u5 : Value).ownBlock ∧ some k_ ≠ (u9 : Value).ownBlock) (fun k_ => some k_ = (.slice Ao57 x13_3.length co57 : Value).ownBlock) rfl rfl ?aP (fun k_ hk_ => ((Kd.R_mono (ok' := fun k_ => ((fun k_ => some k_ ≠ (u5 : Value).ownBlock ∧ some k_ ≠ (u9 : Value).ownBlock)) k_ ∧ some k_ ≠ (u8 : Value).ownBlock) (Kd.R_apart' (HO_13.out) (Kd.S_typed HO_8.out) (by decide)) (fun k_ hk => ⟨⟨hk.1.1, hk.1.2⟩, hk.2⟩))).1 k_ hk_.symm) ?aF ?aO ?aB ?aS ?aL ?_; (case aP => exact Kd.M_row (Kd.R_mono (Kd.R_tight rfl (Kd.R_mono (ok' := fun k_ => ((fun k_ => some k_ ≠ (u5 : Value).ownBlock ∧ some k_ ≠ (u9 : Value).ownBlock)) k_ ∧ some k_ ≠ (u8 : Value).ownBlock) (Kd.R_apart' (HO_13.out) (Kd.S_typed HO_8.out) (by decide)) (fun k_ hk => ⟨⟨hk.1.1, hk.1.2⟩, hk.2⟩))) (fun _ h_ => h_))); (case aB => exact bel); (case aF => exact (fun k_ hk => ⟨Kd.fresh' (Kd.R_lt (rk HO_5.out)) k_ hk, Kd.fresh' (Kd.R_lt (rk HO_9.out)) k_ hk⟩)); (case aO => exact (by (with_reducible repeat (first | apply Kd.S_alloc | apply Kd.S_drewN | apply Kd.S_drew)); exact Kd.S_mono HO_8.out (fun k_ hk => ⟨⟨hk.1, hk.2.1⟩, fun e_ => hk.2.2 e_⟩))); (case aS => exact (below_size bel)); (case aL => have := LMc43.out; omega); intro v383 w56 ho hb hg hat; rw [← Ny382.out] at ho; have n0_ := Aside0.mk (Kd.R_over' (rk HO_5.out) (Kd.S_typed (by (with_reducible repeat (first | apply Kd.S_alloc | apply Kd.S_drewN | apply Kd.S_drew)); exact HO_8.out)) (by decide) hg); have n1_ := Aside0.mk (Kd.R_over' (rk HO_9.out) (Kd.S_typed (by (with_reducible repeat (first | apply Kd.S_alloc | apply Kd.S_drewN | apply Kd.S_drew)); exact HO_8.out)) (by decide) hg); have n2_ := Aside0.mk (blk_grown (g := gb369) (o := .cells #[.slice A368_0 ((rd_T38 l0 x33_2).f0).length c368_0, .int .i64 ((rd_T38 l0 x33_2).f1), .int .i64 ((rd_T38 l0 x33_2).f2)] 38 (0, 0)) (bk BK369.out) hg (Kd.S_ne HO_8.out BK369.out (by decide))); have n3_ := Aside0.mk (hb); have n4_ := Aside0.mk (ho); clear HO_5; clear HO_9; clear BK369; clear HB; clear HO_8; clear HO_13; have HO_5 := n0_; have HO_9 := n1_; have BK369 := n2_; have HB := n3_; have HO384 := n4_; clear n0_ n1_ n2_ n3_ n4_; clear ho hb hg hat; obtain ⟨hcz58_0, hcz58_1, hcz58_2, hfz58_0, hfz58_1, hfz58_2⟩ := cf3 BK369.out))
                                    replace HO_5 := Aside0.mk (Kd.R_drew HO_5.out)
                                    replace HO_9 := Aside0.mk (Kd.R_drew HO_9.out)
                                    replace HO384 := Aside0.mk (Kd.S_drew HO384.out)
                                    replace BK369 := Aside0.mk (blk_drew BK369.out)
                                    replace HB := Aside0.mk (below_drew1 HB.out)
                                    obtain ⟨Ao60, co60, eo60⟩ := Kd.R_slice HO_5.out
                                    (first | subst eo60 | (injection eo60 with f1_ f2_ f3_; have f4_ := f1_.symm; have f5_ := f3_.symm; clear f1_ f2_ f3_; subst f4_; subst f5_))
                                    have p386 : 0 ≤ (((rd_T38 l0 x33_2).f2) : Int) := asm
                                    have q386 : ((rd_T38 l0 x33_2).f2) < (x5_2.length : Int) := asm
                                    obtain ⟨ad386, e386, hx386_0⟩ := Kd.at_int (Kd.R_reads' HO_5.out).2.2 ((rd_T38 l0 x33_2).f2) p386 q386
                                    cases e386
                                    replace p386 := eq_true p386
                                    replace q386 := eq_true q386
                                    have p387 : 0 ≤ (x33_2 : Int) := asm
                                    have q387 : x33_2 < (x5_2.length : Int) := asm
                                    obtain ⟨ad387, e387, hx387_0⟩ := Kd.at_int (Kd.R_reads' HO_5.out).2.2 x33_2 p387 q387
                                    obtain rfl : ad386 = ad387 := (by injection e387)
                                    replace p387 := eq_true p387
                                    replace q387 := eq_true q387
                                    have p55 : 0 ≤ (((rd_T38 l0 x33_2).f2) : Int) := asm
                                    have q55 : (((rd_T38 l0 x33_2).f2) : Int) < ((x5_2.length : Int) : Int) := asm
                                    obtain ⟨go55, co55, eo55, gb55, gl55, cl55, HG55⟩ := Kd.R_form HO_5.out (by omega)
                                    (first | cases eo55 | (injection eo55 with ea_ en_ ec_; (first | subst ea_ | (injection ea_ with ea_; subst ea_)); subst ec_; clear en_))
                                    have GB55 := Aside0.mk gb55
                                    have GG55 := Aside0.mk HG55
                                    clear gb55 gl55 HG55
                                    (first | simp only [add_plain] at hx386_0 | skip)
                                    (first | simp only [add_plain] at hx387_0 | skip)
                                    obtain ⟨hx55_0, hf55_0⟩ := Kd.R_celln 0 HO_5.out (((rd_T38 l0 x33_2).f2) : Int) p55 q55
                                    replace p55 := eq_true p55
                                    replace q55 := eq_true q55
                                    have HP61 := Kd.R_putn HO_5.out (((rd_T38 l0 x33_2).f2) : Int) (wrap64 ((wrap64 ((rd x5_2 ((rd_T38 l0 x33_2).f2)) + (rd x5_2 x33_2))) - (x13_3.length : Int)))
                                    rw [← Ny388.out] at HP61
                                    have HQ61 := Aside0.mk HP61
                                    clear HP61
                                    refine start_ (n := 18) (S := fun w' => w'.cell? ⟨gb369, 0, none⟩ = some (.slice A368_0 ((rd_T38 l0 x33_2).f0).length c368_0) ∧ w'.cell? ⟨gb369, 1, none⟩ = some (.int .i64 ((rd_T38 l0 x33_2).f1)) ∧ w'.cell? ⟨gb369, 2, none⟩ = some (.int .i64 ((rd_T38 l0 x33_2).f2)) ∧ w'.cell? ⟨go55, (((rd_T38 l0 x33_2).f2)).toNat, none⟩ = some (.int .i64 (rd x5_2 ((rd_T38 l0 x33_2).f2))) ∧ w'.cell? ⟨go55, (x33_2).toNat, none⟩ = some (.int .i64 (rd x5_2 x33_2))) (ds := [17]) #[false, false, false, false, false, false, false, false, false, false, false, false, false, false, false, false, false, false] (by kernel_rfl) rfl rfl ⟨(blk_cell BK369.out 0).trans rfl, (blk_cell BK369.out 1).trans rfl, (blk_cell BK369.out 2).trans rfl, hx386_0, hx387_0⟩ (fun hHeld => ?_); refine with_tabW spec_l20Run.tab24 spec_l20Run.bits24 (fun HT_ HW_ => ?_)
                                    generalize w56.drew = w59 at HO_5 HO_9 HO384 BK369 HB GG55 HQ61 hf55_0 hx386_0 hx387_0 hx55_0 hHeld ⊢
                                    refine pure_ (i := 0) (N := some 84) (v := ?_) (a' := ?_) #[true, false, false, false, false, false, false, false, false, false, false, false, false, false, false, false, false, false] rfl rfl (any_of HT_.out (by kernel_rfl)) (fun _ _ _ h => h) (Or.inl ⟨by rfl, ?_⟩) ?_ ?_
                                    rotate_left
                                    · intro w'
                                      go_simp
                                      with_reducible rfl
                                    rotate_left
                                    · simp only [Act.put, List.setIfInBounds_toArray, List.set_cons_zero, List.set_cons_succ, i64_w, i32_w]
                                      rfl
                                    refine pure_ (i := 1) (N := some 85) (v := ?_) (a' := ?_) #[true, true, false, false, false, false, false, false, false, false, false, false, false, false, false, false, false, false] rfl rfl (any_of HT_.out (by kernel_rfl)) (fun _ _ _ h => h) (Or.inl ⟨by rfl, ?_⟩) ?_ ?_
                                    rotate_left
                                    · intro w'
                                      go_simp
                                      with_reducible rfl
                                    rotate_left
                                    · simp only [Act.put, List.setIfInBounds_toArray, List.set_cons_zero, List.set_cons_succ, i64_w, i32_w]
                                      rfl
                                    refine pure_ (i := 3) (N := some 87) (v := ?_) (a' := ?_) #[true, true, false, true, false, false, false, false, false, false, false, false, false, false, false, false, false, false] rfl rfl (any_of HT_.out (by kernel_rfl)) (fun _ _ _ h => h) (Or.inl ⟨by rfl, ?_⟩) ?_ ?_
                                    rotate_left
                                    · intro w'
                                      go_simp
                                      with_reducible rfl
                                    rotate_left
                                    · simp only [Act.put, List.setIfInBounds_toArray, List.set_cons_zero, List.set_cons_succ, i64_w, i32_w]
                                      rfl
                                    refine pure_ (i := 4) (N := some 88) (v := ?_) (a' := ?_) #[true, true, false, true, true, false, false, false, false, false, false, false, false, false, false, false, false, false] rfl rfl (any_of HT_.out (by kernel_rfl)) (fun _ _ _ h => h) (Or.inl ⟨by rfl, ?_⟩) ?_ ?_
                                    rotate_left
                                    · intro w'
                                      go_simp
                                      with_reducible rfl
                                    rotate_left
                                    · simp only [Act.put, List.setIfInBounds_toArray, List.set_cons_zero, List.set_cons_succ, i64_w, i32_w]
                                      rfl
                                    refine pure_ (i := 8) (N := some 92) (v := ?_) (a' := ?_) #[true, true, false, true, true, false, false, false, true, false, false, false, false, false, false, false, false, false] rfl rfl (any_of HT_.out (by kernel_rfl)) (fun _ _ _ h => h) (Or.inl ⟨by rfl, ?_⟩) ?_ ?_
                                    rotate_left
                                    · intro w'
                                      go_simp
                                      with_reducible rfl
                                    rotate_left
                                    · simp only [Act.put, List.setIfInBounds_toArray, List.set_cons_zero, List.set_cons_succ, i64_w, i32_w]
                                      rfl
                                    refine pure_ (i := 9) (N := some 93) (v := ?_) (a' := ?_) #[true, true, false, true, true, false, false, false, true, true, false, false, false, false, false, false, false, false] rfl rfl (any_of HT_.out (by kernel_rfl)) (fun _ _ _ h => h) (Or.inl ⟨by rfl, ?_⟩) ?_ ?_
                                    rotate_left
                                    · intro w'
                                      go_simp
                                      with_reducible rfl
                                    rotate_left
                                    · simp only [Act.put, List.setIfInBounds_toArray, List.set_cons_zero, List.set_cons_succ, i64_w, i32_w]
                                      rfl
                                    refine pure_ (i := 10) (N := some 94) (v := ?_) (a' := ?_) #[true, true, false, true, true, false, false, false, true, true, true, false, false, false, false, false, false, false] rfl rfl (any_of HT_.out (by kernel_rfl)) (fun _ _ _ h => h) (Or.inl ⟨by rfl, ?_⟩) ?_ ?_
                                    rotate_left
                                    · intro w'
                                      go_simp
                                      with_reducible rfl
                                    rotate_left
                                    · simp only [Act.put, List.setIfInBounds_toArray, List.set_cons_zero, List.set_cons_succ, i64_w, i32_w]
                                      rfl
                                    refine pure_ (i := 13) (N := some 97) (v := ?_) (a' := ?_) #[true, true, false, true, true, false, false, false, true, true, true, false, false, true, false, false, false, false] rfl rfl (any_of HT_.out (by kernel_rfl)) (fun _ _ _ h => h) (Or.inl ⟨by rfl, ?_⟩) ?_ ?_
                                    rotate_left
                                    · intro w'
                                      go_simp
                                      with_reducible rfl
                                    rotate_left
                                    · simp only [Act.put, List.setIfInBounds_toArray, List.set_cons_zero, List.set_cons_succ, i64_w, i32_w]
                                      rfl
                                    refine pure_ (i := 14) (N := some 98) (v := ?_) (a' := ?_) #[true, true, false, true, true, false, false, false, true, true, true, false, false, true, true, false, false, false] rfl rfl (any_of HT_.out (by kernel_rfl)) (fun _ _ _ h => h) (Or.inl ⟨by rfl, ?_⟩) ?_ ?_
                                    rotate_left
                                    · intro w'
                                      go_simp
                                      with_reducible rfl
                                    rotate_left
                                    · simp only [Act.put, List.setIfInBounds_toArray, List.set_cons_zero, List.set_cons_succ, i64_w, i32_w]
                                      rfl
                                    refine take_ (i := 2) (N := some 86) (v := ?_) (a' := ?_) #[true, true, true, true, true, false, false, false, true, true, true, false, false, true, true, false, false, false] rfl rfl (take_ofW HT_.out HW_.out (by kernel_rfl)) (fun _ _ _ h => h) (Or.inl ⟨by rfl, ?_⟩) hHeld ?_ ?_
                                    rotate_left
                                    · rintro w' ⟨s0, s1, s2, s3, s4⟩
                                      go_simp
                                      with_reducible rfl
                                    rotate_left
                                    · simp only [Act.put, List.setIfInBounds_toArray, List.set_cons_zero, List.set_cons_succ, i64_w, i32_w]
                                      rfl
                                    refine take_ (i := 5) (N := some 89) (v := ?_) (a' := ?_) #[true, true, true, true, true, true, false, false, true, true, true, false, false, true, true, false, false, false] rfl rfl (take_ofW HT_.out HW_.out (by kernel_rfl)) (fun _ _ _ h => h) (Or.inl ⟨by rfl, ?_⟩) hHeld ?_ ?_
                                    rotate_left
                                    · rintro w' ⟨s0, s1, s2, s3, s4⟩
                                      go_simp
                                      with_reducible rfl
                                    rotate_left
                                    · simp only [Act.put, List.setIfInBounds_toArray, List.set_cons_zero, List.set_cons_succ, i64_w, i32_w]
                                      rfl
                                    refine pure_ (i := 6) (N := some 90) (v := ?_) (a' := ?_) #[true, true, true, true, true, true, true, false, true, true, true, false, false, true, true, false, false, false] rfl rfl (any_of HT_.out (by kernel_rfl)) (fun _ _ _ h => h) (Or.inl ⟨by rfl, ?_⟩) ?_ ?_
                                    rotate_left
                                    · intro w'
                                      go_simp
                                      with_reducible rfl
                                    rotate_left
                                    · simp only [Act.put, List.setIfInBounds_toArray, List.set_cons_zero, List.set_cons_succ, i64_w, i32_w]
                                      rfl
                                    refine take_ (i := 7) (N := some 91) (v := ?_) (a' := ?_) #[true, true, true, true, true, true, true, true, true, true, true, false, false, true, true, false, false, false] rfl rfl (take_ofW HT_.out HW_.out (by kernel_rfl)) (fun _ _ _ h => h) (Or.inl ⟨by rfl, ?_⟩) hHeld ?_ ?_
                                    rotate_left
                                    · rintro w' ⟨s0, s1, s2, s3, s4⟩
                                      go_simp
                                      with_reducible rfl
                                    rotate_left
                                    · simp only [Act.put, List.setIfInBounds_toArray, List.set_cons_zero, List.set_cons_succ, i64_w, i32_w]
                                      rfl
                                    refine take_ (i := 11) (N := some 95) (v := ?_) (a' := ?_) #[true, true, true, true, true, true, true, true, true, true, true, true, false, true, true, false, false, false] rfl rfl (take_ofW HT_.out HW_.out (by kernel_rfl)) (fun _ _ _ h => h) (Or.inl ⟨by rfl, ?_⟩) hHeld ?_ ?_
                                    rotate_left
                                    · rintro w' ⟨s0, s1, s2, s3, s4⟩
                                      go_simp
                                      with_reducible rfl
                                    rotate_left
                                    · simp only [Act.put, List.setIfInBounds_toArray, List.set_cons_zero, List.set_cons_succ, i64_w, i32_w]
                                      rfl
                                    refine pure_ (i := 12) (N := some 96) (v := ?_) (a' := ?_) #[true, true, true, true, true, true, true, true, true, true, true, true, true, true, true, false, false, false] rfl rfl (any_of HT_.out (by kernel_rfl)) (fun _ _ _ h => h) (Or.inl ⟨by rfl, ?_⟩) ?_ ?_
                                    rotate_left
                                    · intro w'
                                      go_simp
                                      with_reducible rfl
                                    rotate_left
                                    · simp only [Act.put, List.setIfInBounds_toArray, List.set_cons_zero, List.set_cons_succ, i64_w, i32_w]
                                      rfl
                                    refine pure_ (i := 15) (N := some 99) (v := ?_) (a' := ?_) #[true, true, true, true, true, true, true, true, true, true, true, true, true, true, true, true, false, false] rfl rfl (any_of HT_.out (by kernel_rfl)) (fun _ _ _ h => h) (Or.inl ⟨by rfl, ?_⟩) ?_ ?_
                                    rotate_left
                                    · intro w'
                                      go_simp
                                      with_reducible rfl
                                    rotate_left
                                    · simp only [Act.put, List.setIfInBounds_toArray, List.set_cons_zero, List.set_cons_succ, i64_w, i32_w]
                                      rfl
                                    refine pure_ (i := 16) (N := some 100) (v := ?_) (a' := ?_) #[true, true, true, true, true, true, true, true, true, true, true, true, true, true, true, true, true, false] rfl rfl (any_of HT_.out (by kernel_rfl)) (fun _ _ _ h => h) (Or.inl ⟨by rfl, ?_⟩) ?_ ?_
                                    rotate_left
                                    · intro w'
                                      go_simp
                                      with_reducible rfl
                                    rotate_left
                                    · simp only [Act.put, List.setIfInBounds_toArray, List.set_cons_zero, List.set_cons_succ, i64_w, i32_w]
                                      rfl
                                    refine last_ (i := 17) (N := none) #[true, true, true, true, true, true, true, true, true, true, true, true, true, true, true, true, true, true] rfl rfl (one_of HT_.out (by kernel_rfl)) (by decide) (fun K hK => ?_)
                                    refine skip_ (w1 := ?_) (by rfl) rfl ?_ ?_
                                    rotate_left
                                    · go_simp
                                      rfl
                                    refine hK.out _ _ ?_
                                    clear hK K
                                    refine done_ (done_of HT_.out (by kernel_rfl)) ?_
                                    try go_wp2
                                    go_roundg k3
                                    case measure => have := HK1.out; have := HK2.out; have := HK3.out; omega
                                    case rel => exact ⟨(y388), (y382), (x9_3), (x10_2), (wrap64 (x33_2 + 1)), (es), (es), H', ⟨by have := HK1.out; have := HK2.out; have := HK3.out; omega⟩, ⟨by (with_reducible repeat (first | apply Kd.R_alloc | apply Kd.R_drewN | apply Kd.R_drew)); exact Kd.R_mono HQ61.out (fun _ hk => hk.1)⟩, ⟨by (with_reducible repeat (first | apply Kd.S_alloc | apply Kd.S_drewN | apply Kd.S_drew)); exact Kd.S_mono (Kd.S_far (p := ⟨go55, (((rd_T38 l0 x33_2).f2) : Int).toNat, none⟩) (Kd.S_mono HO384.out (fun k_ hk => (⟨hk, fun e_ => hk.1 (by rw [e_]; rfl)⟩ : _ ∧ k_ ≠ go55))) (fun _ hk => hk.2) (.int .i64 (wrap64 ((wrap64 ((rd x5_2 ((rd_T38 l0 x33_2).f2)) + (rd x5_2 x33_2))) - (x13_3.length : Int))))) (fun _ hk => ⟨hk.1.1, hk.1.2⟩)⟩, ⟨by (with_reducible repeat (first | apply Kd.R_alloc | apply Kd.R_drewN | apply Kd.R_drew)); exact Kd.R_mono (Kd.R_far (p := ⟨go55, (((rd_T38 l0 x33_2).f2) : Int).toNat, none⟩) (Kd.R_mono HO_9.out (fun k_ hk => (⟨hk, fun e_ => hk.1 (by rw [e_]; rfl)⟩ : _ ∧ k_ ≠ go55))) (fun _ hk => hk.2) (.int .i64 (wrap64 ((wrap64 ((rd x5_2 ((rd_T38 l0 x33_2).f2)) + (rd x5_2 x33_2))) - (x13_3.length : Int))))) (fun _ hk => hk.1.1)⟩, ⟨by repeat (first | (with_reducible first | exact HB.out | apply below_alloc | apply pw_below_drewN | apply below_drew1 | refine below_set ?_ GB55.out | refine below_set ?_ GE369.out) | exact HB.out)⟩⟩
                                  · rw [if_neg c54] at H
                                    exact absurd H (by simp)
                                · rw [if_neg c53] at H
                                  exact absurd H (by simp)
                              · rw [if_neg c52] at H
                                exact absurd H (by simp)
                            · rw [if_neg c51] at H
                              exact absurd H (by simp)
                        · rw [if_neg c43] at H
                          exact absurd H (by simp)
                · rw [if_neg c17] at H
                  exact absurd H (by simp)
              · rw [if_neg c16] at H
                exact absurd H (by simp)
            · rw [if_neg c15] at H
              have c15b0 : decide (x33_2 < (l0.length : Int)) = false := decide_eq_false c15
              clear c15
              simp only [Option.some.injEq, Prod.mk.injEq] at H
              obtain ⟨rfl, rfl, rfl⟩ := H
              go_wp2
              go_ret3
              exact ⟨_, _, er, by (with_reducible repeat (first | apply Kd.S_alloc | apply Kd.S_drewN | apply Kd.S_drew)); exact Kd.S_mono HO_8.out (fun _ hk => hk.1), by (with_reducible repeat (first | apply Kd.R_alloc | apply Kd.R_drewN | apply Kd.R_drew)); exact Kd.R_mono HO_5.out (fun _ hk => trivial), bel⟩

end Go.Proofs.Ytaopcamaceddnaa.Y
