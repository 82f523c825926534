-- Written by a program of this session (wip/xp.py, over the kit's print) out of the translation: functions, and the walks that show them.
import Derived.Test.YtipojkfkcelejaaX0
namespace Go.Proofs.Ytipojkfkcelejaa.X
open Go.RowKit Go.Proofs.YtipojkfkcelejaaW.PrintWords Go.Proofs.YtipojkfkcelejaaW.PrintLast Go.Proofs.YtipojkfkcelejaaW.PrintMore
attribute [local go_sem] max2_int min2_int max_two min_two max_three min_three max_four min_four   -- for this text's walks alone
set_option linter.unusedVariables false
set_option linter.unusedSimpArgs false

/-! ### spec_l15Kept: function 42 -/
mutual
def spec_l15Kept.l0 : Nat → Int → List Int → Int → Int → List (List Int) → Int → Option (List Int)
  | 0, _, _, _, _, _, _ => none
  | k + 1, x1, x5, x6, x362000, x362001, x362002 => if x6 ≤ (wrap64 (x362000 + 1)) then (spec_l15Kept.l1 k x1 x5 x6 x362001 (x362001.length : Int) 0 x362000 x362001 x362002) else (if 0 ≤ (wrap64 ((x5.length : Int) - x362002)) then (if (wrap64 ((x5.length : Int) - x362002)) ≤ (x5.length : Int) then (some (x5.take ((wrap64 ((x5.length : Int) - x362002)) : Int).toNat)) else (none)) else (none))
def spec_l15Kept.l1 : Nat → Int → List Int → Int → List (List Int) → Int → Int → Int → List (List Int) → Int → Option (List Int)
  | 0, _, _, _, _, _, _, _, _, _ => none
  | k + 1, x1, x5, x6, x18, x19, x20, x362000, x362001, x362002 => if x20 < x19 then (if 0 ≤ x20 then (if x20 < (x18.length : Int) then (if 0 ≤ x1 then (if x1 < ((rd_L1 x18 x20).length : Int) then (if (rd (rd_L1 x18 x20) x1) = x6 then (if x5.length < 17592186044416 then (spec_l15Kept.l1 k x1 (x5 ++ [x6]) x6 x18 x19 (wrap64 (x20 + 1)) x362000 x362001 x362002) else (none)) else (spec_l15Kept.l1 k x1 x5 x6 x18 x19 (wrap64 (x20 + 1)) x362000 x362001 x362002)) else (none)) else (none)) else (none)) else (none)) else (spec_l15Kept.l0 k x1 x5 (wrap64 (x6 + 1)) x362000 x362001 x362002)
end
def spec_l15Kept.f (k : Nat) (a0_0 : Int) (l0_1 : List (List Int)) (a0_2 : Int) (a1 : Int) : Option (List Int) := spec_l15Kept.l0 k a1 (([] : List Int)) 1 a0_0 l0_1 a0_2
theorem spec_l15Kept.mono_l : ∀ k, (∀ y0 y1 y2 y3 y4 y5, LeO (spec_l15Kept.l0 k y0 y1 y2 y3 y4 y5) (spec_l15Kept.l0 (k + 1) y0 y1 y2 y3 y4 y5)) ∧ (∀ y0 y1 y2 y3 y4 y5 y6 y7 y8, LeO (spec_l15Kept.l1 k y0 y1 y2 y3 y4 y5 y6 y7 y8) (spec_l15Kept.l1 (k + 1) y0 y1 y2 y3 y4 y5 y6 y7 y8))
  | 0 => ⟨fun _ _ _ _ _ _ r h => by simp [spec_l15Kept.l0] at h, fun _ _ _ _ _ _ _ _ _ r h => by simp [spec_l15Kept.l1] at h⟩
  | k + 1 => by
    obtain ⟨ih0, ih1⟩ := spec_l15Kept.mono_l k
    refine ⟨?_, ?_⟩
    · intro y0 y1 y2 y3 y4 y5
      unfold spec_l15Kept.l0
      repeat' first
      | (with_reducible exact ih0 _ _ _ _ _ _)
      | (with_reducible exact ih1 _ _ _ _ _ _ _ _ _)
      | (with_reducible exact LeO.refl _)
      | (with_reducible exact LeO.none _)
      | (with_reducible refine LeO.ite ?_ ?_)
      | (with_reducible refine LeO.bind ?_ (fun _ => ?_))
      | exact ih0 _ _ _ _ _ _
      | exact ih1 _ _ _ _ _ _ _ _ _
      | exact LeO.none _
      | refine LeO.ite ?_ ?_
      | refine LeO.bind ?_ (fun _ => ?_)
    · intro y0 y1 y2 y3 y4 y5 y6 y7 y8
      unfold spec_l15Kept.l1
      repeat' first
      | (with_reducible exact ih0 _ _ _ _ _ _)
      | (with_reducible exact ih1 _ _ _ _ _ _ _ _ _)
      | (with_reducible exact LeO.refl _)
      | (with_reducible exact LeO.none _)
      | (with_reducible refine LeO.ite ?_ ?_)
      | (with_reducible refine LeO.bind ?_ (fun _ => ?_))
      | exact ih0 _ _ _ _ _ _
      | exact ih1 _ _ _ _ _ _ _ _ _
      | exact LeO.none _
      | refine LeO.ite ?_ ?_
      | refine LeO.bind ?_ (fun _ => ?_)
theorem spec_l15Kept.mono : ∀ a0 a1 a2 a3 k, LeO (spec_l15Kept.f k a0 a1 a2 a3) (spec_l15Kept.f (k + 1) a0 a1 a2 a3) := by
  intro a0 a1 a2 a3 k
  obtain ⟨ih0, ih1⟩ := spec_l15Kept.mono_l k
  unfold spec_l15Kept.f
  repeat' first
      | (with_reducible exact ih0 _ _ _ _ _ _)
      | (with_reducible exact ih1 _ _ _ _ _ _ _ _ _)
      | (with_reducible exact LeO.refl _)
      | (with_reducible exact LeO.none _)
      | (with_reducible refine LeO.ite ?_ ?_)
      | (with_reducible refine LeO.bind ?_ (fun _ => ?_))
      | exact ih0 _ _ _ _ _ _
      | exact ih1 _ _ _ _ _ _ _ _ _
      | exact LeO.none _
      | refine LeO.ite ?_ ?_
      | refine LeO.bind ?_ (fun _ => ?_)
set_option maxHeartbeats 8000000 in
set_option maxRecDepth 100000 in
theorem spec_l15Kept.calls (k : Nat) (a0_0 : Int) (A0_1 : Option Addr) (c0_1 : Nat) (l0_1 : List (List Int)) (a0_2 : Int) (a1 : Int) (r : List Int) (w : World) (hr0_1 : Kd.C (Kd.slice 3 (Kd.int .i64)) w A0_1 l0_1.length l0_1) (hc0_1 : l0_1.length ≤ c0_1) (h : spec_l15Kept.f k a0_0 l0_1 a0_2 a1 = some r) :
    Calls Try.prog 42 #[.agg #[.int .i64 a0_0, .slice A0_1 l0_1.length c0_1, .int .i64 a0_2], .int .i64 a1] w fun e w' => ∃ v0_ : Value, e = .returned (v0_) ∧ Kd.R (Kd.int .i64) 3 w' w.heap.size (fun _ => True) v0_ r ∧ Below w.heap.size w w' := by
  have hu31 := Try.underlying31
  have HR0_1 := Aside0.mk hr0_1
  have HC0_1 := Aside0.mk hc0_1
  clear hr0_1 hc0_1
  have HB := Aside0.mk (Below.refl w.heap.size w)
  have H : (spec_l15Kept.l0 k a1 (([] : List Int)) 1 a0_0 l0_1 a0_2) = some r := h
  clear h
  obtain ⟨y362, hy362⟩ : ∃ y_ : List Int, y_ = (([] : List Int)) := ⟨_, rfl⟩
  replace H : (spec_l15Kept.l0 k a1 y362 1 a0_0 l0_1 a0_2) = some r := by first | (rw [hy362]; with_reducible exact H) | (have H2_ := (Option.bind_some _ _).symm.trans H; rw [hy362]; with_reducible exact H2_) | (have H2_ := (Option.bind_some _ _).symm.trans H; with_reducible exact H2_) | with_reducible exact H | (rw [hy362]; exact H) | exact H
  have Ny362 := Aside0.mk hy362
  clear hy362
  have H' := Aside0.mk H
  clear H
  go_enter Try.func42, Try.ntmps42
  go_wp2_with (first | ((with_reducible refine gate_dst (N := 2) rfl ?_); refine box_event ?hg (N := 2) ?hd (cs := #[.int .i64 a0_0, .slice A0_1 l0_1.length c0_1, .int .i64 a0_2]) (t := 31) ?hr ?_; (case hd => rfl); (case hg => rfl); (case hr => first | (go_simp; done) | (go_simp; rfl)); intro gb361 hg w3 hbox hb; have BK361 := Aside0.mk (hbox); have GW361 := Aside0.mk ((bsz hg : w.heap.size ≤ gb361)); have GE361 := Aside0.mk ((bsz hg : w.heap.size ≤ gb361)); replace HB := Aside0.mk (below_step bel hb); clear hb hbox hg) | ((with_reducible refine gate_dst (N := 9) rfl ?_); refine Kd.R_lit (Kd.int .i64) _ 3 ?hg (N := 9) ?hd (xs := ([] : List Int)) (inner := []) (ok := fun _ => True) (okp := fun _ => True) ?hr ?hp (fun _ hk => hk) trivial (Below.refl _ _) (Nat.le_refl _) (by simp) ?_; (case hd => rfl); (case hg => rfl); (case hr => first | (go_simp; done) | (go_simp; rfl)); (case hp => exact (Reps.none _ _)); intro v363 w4 ho5 hb hg_ hnew_; clear hg_ hnew_; (first | rw [← Ny362.out] at ho5 | (simp only [Int.reduceToNat] at ho5; rw [← Ny362.out] at ho5)); have HO364 := Aside0.mk (Kd.R_lower ho5 (below_size bel)); replace BK361 := Aside0.mk (bb BK361.out hb); replace HB := Aside0.mk (below_step bel hb); clear hb ho5))
  go_loopg [5, 6] k (fun kq v5 v6 w' => ∃ (x5_1 : List Int) (x6_1 : Int), v6 = .int .i64 x6_1 ∧ Aside0 (spec_l15Kept.l0 kq a1 x5_1 x6_1 a0_0 l0_1 a0_2 = some r) ∧ Aside0 (kq ≤ k) ∧ Aside0 (Kd.R (Kd.int .i64) 3 w' w.heap.size (fun _ => True) v5 x5_1) ∧ Aside0 (w'.heap[gb361]? = some (.cells #[.int .i64 a0_0, (.slice A0_1 l0_1.length c0_1), .int .i64 a0_2] 31 (0, 0))) ∧ Aside0 (Below w.heap.size w w'))
  case atStart => exact ⟨(y362), (1), (es), H', ⟨Nat.le_refl _⟩, ⟨rk HO364.out⟩, ⟨bk BK361.out⟩, ⟨bel⟩⟩
  case round =>
    clear H'
    try clear p2; try clear c4
    obtain ⟨x5_1, x6_1, rfl, HA, HK1, HO_5, BK361, HB⟩ := hrel
    cases gk with
    | zero => exact absurd HA.out (by simp [spec_l15Kept.l0])
    | succ k1 =>
      have H := HA.out
      clear HA
      simp only [spec_l15Kept.l0] at H
      by_cases c6 : x6_1 ≤ (wrap64 (a0_0 + 1))
      · rw [if_pos c6] at H
        have c6b0 : decide (x6_1 ≤ (wrap64 (a0_0 + 1))) = true := decide_eq_true c6
        clear c6
        have H' := Aside0.mk H
        clear H
        obtain ⟨hcz7_0, hcz7_1, hcz7_2, hfz7_0, hfz7_1, hfz7_2⟩ := cf3 BK361.out
        go_wp2
        go_loopg [5, 20] k1 (fun kq v5 v20 w' => ∃ (x5_2 : List Int) (x20_2 : Int), v20 = .int .i64 x20_2 ∧ Aside0 (spec_l15Kept.l1 kq a1 x5_2 x6_1 l0_1 (l0_1.length : Int) x20_2 a0_0 l0_1 a0_2 = some r) ∧ Aside0 (kq ≤ k1) ∧ Aside0 (Kd.R (Kd.int .i64) 3 w' w.heap.size (fun _ => True) v5 x5_2) ∧ Aside0 (w'.heap[gb361]? = some (.cells #[.int .i64 a0_0, (.slice A0_1 l0_1.length c0_1), .int .i64 a0_2] 31 (0, 0))) ∧ Aside0 (Below w.heap.size w w'))
        case atStart => exact ⟨(x5_1), (0), (es), H', ⟨Nat.le_refl _⟩, ⟨rk HO_5.out⟩, ⟨bk BK361.out⟩, ⟨bel⟩⟩
        case round =>
          clear H'
          try clear p2; try clear c4; try clear c6; try clear c6b0; try clear p6; try clear hcz7_0; try clear hcz7_1; try clear hcz7_2; try clear hfz7_0; try clear hfz7_1; try clear hfz7_2; try clear p2
          obtain ⟨x5_2, x20_2, rfl, HA, HK2, HO_5, BK361, HB⟩ := hrel
          cases gk with
          | zero => exact absurd HA.out (by simp [spec_l15Kept.l1])
          | succ k2 =>
            have H := HA.out
            clear HA
            simp only [spec_l15Kept.l1] at H
            by_cases c8 : x20_2 < (l0_1.length : Int)
            · rw [if_pos c8] at H
              have c8b0 : decide (x20_2 < (l0_1.length : Int)) = true := decide_eq_true c8
              clear c8
              by_cases c9 : 0 ≤ x20_2
              · rw [if_pos c9] at H
                have c9b0 : decide (0 ≤ x20_2) = true := decide_eq_true c9
                clear c9
                by_cases c10 : x20_2 < (l0_1.length : Int)
                · rw [if_pos c10] at H
                  have c10b0 : decide (x20_2 < (l0_1.length : Int)) = true := decide_eq_true c10
                  clear c10
                  by_cases c11 : 0 ≤ a1
                  · rw [if_pos c11] at H
                    have c11b0 : decide (0 ≤ a1) = true := decide_eq_true c11
                    clear c11
                    by_cases c12 : a1 < ((rd_L1 l0_1 x20_2).length : Int)
                    · rw [if_pos c12] at H
                      have c12b0 : decide (a1 < ((rd_L1 l0_1 x20_2).length : Int)) = true := decide_eq_true c12
                      clear c12
                      by_cases c13 : (rd (rd_L1 l0_1 x20_2) a1) = x6_1
                      · rw [if_pos c13] at H
                        have c13b0 : ((rd (rd_L1 l0_1 x20_2) a1) == x6_1) = true := beq_iff_eq.mpr c13
                        have c13b1 : ((rd (rd_L1 l0_1 x20_2) a1) != x6_1) = false := bne_eq_false_iff_eq.mpr c13
                        clear c13
                        by_cases c14 : x5_2.length < 17592186044416
                        · rw [if_pos c14] at H
                          have LMc14 := Aside0.mk c14
                          clear c14
                          obtain ⟨y370, hy370⟩ : ∃ y_ : List Int, y_ = (x5_2 ++ [x6_1]) := ⟨_, rfl⟩
                          replace H : (spec_l15Kept.l1 k2 a1 y370 x6_1 l0_1 (l0_1.length : Int) (wrap64 (x20_2 + 1)) a0_0 l0_1 a0_2) = some r := by first | (rw [hy370]; with_reducible exact H) | (have H2_ := (Option.bind_some _ _).symm.trans H; rw [hy370]; with_reducible exact H2_) | (have H2_ := (Option.bind_some _ _).symm.trans H; with_reducible exact H2_) | with_reducible exact H | (rw [hy370]; exact H) | exact H
                          have Ny370 := Aside0.mk hy370
                          clear hy370
                          have H' := Aside0.mk H
                          clear H
                          have p368 : 0 ≤ (x20_2 : Int) := asm
                          have q368 : x20_2 < (l0_1.length : Int) := asm
                          obtain ⟨ad368, A368_0, c368_0, e368, hx368_0, hl368_0, hi368_0⟩ := at_L1 HR0_1.out x20_2 p368 q368
                          cases e368
                          replace hx368_0 := hcl HB.out hx368_0
                          have HR368_0 := Aside0.mk hi368_0
                          have HC368_0 := Aside0.mk hl368_0
                          clear hi368_0 hl368_0
                          replace p368 := eq_true p368
                          replace q368 := eq_true q368
                          have p369 : 0 ≤ (a1 : Int) := asm
                          have q369 : a1 < ((rd_L1 l0_1 x20_2).length : Int) := asm
                          obtain ⟨ad369, e369, hx369_0⟩ := Kd.at_int HR368_0.out a1 p369 q369
                          cases e369
                          replace hx369_0 := hcl HB.out hx369_0
                          replace p369 := eq_true p369
                          replace q369 := eq_true q369
                          go_wp2_with (first | ((with_reducible refine gate_builtin (b := .append) (xs := #[.tmp 30, .tmp 32]) rfl ?_); at_builtin; refine Kd.R_append (Kd.int .i64) (w0 := w) w.heap.size rfl (.tmp 30) (.tmp 32) 22 3 (.int .i64 0) 8 rfl Try.underlying22 info3 rfl (by decide) (by omega) u5 x5_2 x6_1 [.int .i64 x6_1] (fun _ => True) (fun _ => False) rfl rfl ?aP (fun _ hk => hk.elim) ?aF ?aO ?aB ?aS ?aL ?_; (case aP => exact rfl); (case aB => exact bel); (case aF => exact (fun _ _ => trivial)); (case aO => exact (rk HO_5.out)); (case aS => exact (below_size bel)); (case aL => have := LMc14.out; omega); intro v371 w15 ho hb hg hat; rw [← Ny370.out] at ho; have n0_ := Aside0.mk (blk_grown (g := gb361) (o := .cells #[.int .i64 a0_0, .slice (some ad368) l0_1.length c0_1, .int .i64 a0_2] 31 (0, 0)) (bk BK361.out) hg (Kd.R_ne HO_5.out BK361.out (by decide))); have n1_ := Aside0.mk (hb); have n2_ := Aside0.mk (ho); clear BK361; clear HB; clear HO_5; have BK361 := n0_; have HB := n1_; have HO372 := n2_; clear n0_ n1_ n2_; clear ho hb hg hat))
                          go_roundg k2
                          case measure => have := HK1.out; have := HK2.out; omega
                          case rel => exact ⟨(y370), (wrap64 (x20_2 + 1)), (es), H', ⟨by have := HK1.out; have := HK2.out; omega⟩, ⟨rk HO372.out⟩, ⟨bk BK361.out⟩, ⟨bel⟩⟩
                        · rw [if_neg c14] at H
                          exact absurd H (by simp)
                      · rw [if_neg c13] at H
                        have c13b0 : ((rd (rd_L1 l0_1 x20_2) a1) == x6_1) = false := beq_eq_false_iff_ne.mpr c13
                        have c13b1 : ((rd (rd_L1 l0_1 x20_2) a1) != x6_1) = true := bne_iff_ne.mpr c13
                        have H' := Aside0.mk H
                        clear H
                        have p368 : 0 ≤ (x20_2 : Int) := asm
                        have q368 : x20_2 < (l0_1.length : Int) := asm
                        obtain ⟨ad368, A368_0, c368_0, e368, hx368_0, hl368_0, hi368_0⟩ := at_L1 HR0_1.out x20_2 p368 q368
                        cases e368
                        replace hx368_0 := hcl HB.out hx368_0
                        have HR368_0 := Aside0.mk hi368_0
                        have HC368_0 := Aside0.mk hl368_0
                        clear hi368_0 hl368_0
                        replace p368 := eq_true p368
                        replace q368 := eq_true q368
                        have p369 : 0 ≤ (a1 : Int) := asm
                        have q369 : a1 < ((rd_L1 l0_1 x20_2).length : Int) := asm
                        obtain ⟨ad369, e369, hx369_0⟩ := Kd.at_int HR368_0.out a1 p369 q369
                        cases e369
                        replace hx369_0 := hcl HB.out hx369_0
                        replace p369 := eq_true p369
                        replace q369 := eq_true q369
                        go_wp2
                        go_roundg k2
                        case measure => have := HK1.out; have := HK2.out; omega
                        case rel => exact ⟨(x5_2), (wrap64 (x20_2 + 1)), (es), H', ⟨by have := HK1.out; have := HK2.out; omega⟩, ⟨rk HO_5.out⟩, ⟨bk BK361.out⟩, ⟨bel⟩⟩
                    · rw [if_neg c12] at H
                      exact absurd H (by simp)
                  · rw [if_neg c11] at H
                    exact absurd H (by simp)
                · rw [if_neg c10] at H
                  exact absurd H (by simp)
              · rw [if_neg c9] at H
                exact absurd H (by simp)
            · rw [if_neg c8] at H
              have c8b0 : decide (x20_2 < (l0_1.length : Int)) = false := decide_eq_false c8
              clear c8
              have H' := Aside0.mk H
              clear H
              go_wp2
              go_roundg k2
              case measure => have := HK1.out; have := HK2.out; omega
              case rel => exact ⟨(x5_2), (wrap64 (x6_1 + 1)), (es), H', ⟨by have := HK1.out; have := HK2.out; omega⟩, ⟨rk HO_5.out⟩, ⟨bk BK361.out⟩, ⟨bel⟩⟩
      · rw [if_neg c6] at H
        have c6b0 : decide (x6_1 ≤ (wrap64 (a0_0 + 1))) = false := decide_eq_false c6
        clear c6
        obtain ⟨ji16, hji16⟩ : ∃ j_ : Int, (wrap64 ((x5_1.length : Int) - a0_2)) = j_ := ⟨_, rfl⟩
        replace H : (if 0 ≤ (ji16) then (if (ji16) ≤ (x5_1.length : Int) then (some (x5_1.take ((ji16) : Int).toNat)) else (none)) else (none)) = some r := by first | (rw [hji16] at H; exact H) | (simp only [hji16] at H ⊢; exact H)
        have hji16w : (IntKind.i64.wrap ((x5_1.length : Int) - a0_2)) = ji16 := (i64_w _).trans hji16
        (try rw [hji16] at c6b0)
        (try rw [hji16] at c6b0)
        by_cases c17 : 0 ≤ (ji16)
        · rw [if_pos c17] at H
          have c17b0 := eq_true c17
          have c17b1 : decide (0 ≤ (ji16)) = true := decide_eq_true c17
          clear c17
          by_cases c18 : (ji16) ≤ (x5_1.length : Int)
          · rw [if_pos c18] at H
            have c18b0 := eq_true c18
            have c18b1 : decide ((ji16) ≤ (x5_1.length : Int)) = true := decide_eq_true c18
            clear c18
            obtain ⟨y365, hy365⟩ : ∃ y_ : List Int, y_ = (x5_1.take ((ji16) : Int).toNat) := ⟨_, rfl⟩
            replace H : (some y365) = some r := by first | (rw [hy365]; with_reducible exact H) | (have H2_ := (Option.bind_some _ _).symm.trans H; rw [hy365]; with_reducible exact H2_) | (have H2_ := (Option.bind_some _ _).symm.trans H; with_reducible exact H2_) | with_reducible exact H | (rw [hy365]; exact H) | exact H
            have Ny365 := Aside0.mk hy365
            clear hy365
            obtain rfl := Option.some.inj H
            obtain ⟨hcz19_0, hcz19_1, hcz19_2, hfz19_0, hfz19_1, hfz19_2⟩ := cf3 BK361.out
            obtain ⟨Ao20, co20, eo20⟩ := Kd.R_slice HO_5.out
            subst eo20
            have q21 : ((ji16) : Int) ≤ ((x5_1.length : Int) : Int) := asm
            obtain ⟨i021, hi021, _, hsz21, _⟩ := info_parts info3
            have hcut21 := cut_to (P := Try.prog) 22 3 .i64 Try.underlying22 hi021 Ao20 x5_1.length co20 (ji16) (asm) q21 (Kd.R_reads' HO_5.out).2.1
            have hr21 := Kd.R_take (m := ((ji16) : Int).toNat) HO_5.out (by omega)
            have hy21 : y365.length = ((ji16) : Int).toNat := (by rw [Ny365.out, List.length_take]; omega)
            rw [← Ny365.out] at hr21
            rw [← hy21] at hr21 hcut21
            clear hy21 hi021 hsz21 HO_5
            have HO367 := Aside0.mk hr21
            clear hr21
            replace q21 := eq_true q21
            go_wp2
            go_ret
            exact ⟨_, by first | rfl | (simp [errW_none, errW_some] <;> rfl) | (simp only [← hji16]; first | rfl | (simp [errW_none, errW_some] <;> rfl)) | (simp [*, errW_none, errW_some] <;> rfl), rk HO367.out, bel⟩
          · rw [if_neg c18] at H
            exact absurd H (by simp)
        · rw [if_neg c17] at H
          exact absurd H (by simp)

end Go.Proofs.Ytipojkfkcelejaa.X
