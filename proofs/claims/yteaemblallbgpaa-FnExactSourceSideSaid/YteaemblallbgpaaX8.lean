-- Written by a program of this session (wip/xp.py, over the kit's print) out of the translation: functions, and the walks that show them.
import Derived.Test.YteaemblallbgpaaX0
namespace Go.Proofs.Yteaemblallbgpaa.X
open Go.RowKit Go.Proofs.YteaemblallbgpaaW.PrintWords Go.Proofs.YteaemblallbgpaaW.PrintLast Go.Proofs.YteaemblallbgpaaW.PrintMore
attribute [local go_sem] max2_int min2_int max_two min_two max_three min_three max_four min_four   -- for this text's walks alone
set_option linter.unusedVariables false
set_option linter.unusedSimpArgs false

/-! ### spec_FlowValue: function 16 -/
def spec_FlowValue.l0 : Nat → Int → List Int → Int → List (S60) → Int → Int → Option (Int)
  | 0, _, _, _, _, _, _ => none
  | k + 1, x1, x2, x7, x11, x12, x13 => if x13 < x12 then (if 0 ≤ x13 then (if x13 < (x11.length : Int) then (if x13 ≥ (x2.length : Int) then (some x7) else (if ((rd_T60 x11 x13).f0) = x1 then (if x13 < (x2.length : Int) then (if ((rd_T60 x11 x13).f1) = x1 then (spec_FlowValue.l0 k x1 x2 (wrap64 ((wrap64 (x7 + (rd x2 x13))) - (rd x2 x13))) x11 x12 (wrap64 (x13 + 1))) else (spec_FlowValue.l0 k x1 x2 (wrap64 (x7 + (rd x2 x13))) x11 x12 (wrap64 (x13 + 1)))) else (none)) else (if ((rd_T60 x11 x13).f1) = x1 then (if x13 < (x2.length : Int) then (spec_FlowValue.l0 k x1 x2 (wrap64 (x7 - (rd x2 x13))) x11 x12 (wrap64 (x13 + 1))) else (none)) else (spec_FlowValue.l0 k x1 x2 x7 x11 x12 (wrap64 (x13 + 1)))))) else (none)) else (none)) else (some x7)
def spec_FlowValue.f (k : Nat) (a0_0 : Int) (l0_1 : List (S60)) (a1 : Int) (l2 : List Int) : Option (Int) := spec_FlowValue.l0 k a1 l2 0 l0_1 (l0_1.length : Int) 0
theorem spec_FlowValue.mono_l : ∀ k, (∀ y0 y1 y2 y3 y4 y5, LeO (spec_FlowValue.l0 k y0 y1 y2 y3 y4 y5) (spec_FlowValue.l0 (k + 1) y0 y1 y2 y3 y4 y5))
  | 0 => fun _ _ _ _ _ _ r h => by simp [spec_FlowValue.l0] at h
  | k + 1 => by
    have ih0 := spec_FlowValue.mono_l k
    · intro y0 y1 y2 y3 y4 y5
      unfold spec_FlowValue.l0
      repeat' first
      | (with_reducible exact ih0 _ _ _ _ _ _)
      | (with_reducible exact LeO.refl _)
      | (with_reducible exact LeO.none _)
      | (with_reducible refine LeO.ite ?_ ?_)
      | (with_reducible refine LeO.bind ?_ (fun _ => ?_))
      | exact ih0 _ _ _ _ _ _
      | exact LeO.none _
      | refine LeO.ite ?_ ?_
      | refine LeO.bind ?_ (fun _ => ?_)
theorem spec_FlowValue.mono : ∀ a0 a1 a2 a3 k, LeO (spec_FlowValue.f k a0 a1 a2 a3) (spec_FlowValue.f (k + 1) a0 a1 a2 a3) := by
  intro a0 a1 a2 a3 k
  have ih0 := spec_FlowValue.mono_l k
  unfold spec_FlowValue.f
  repeat' first
      | (with_reducible exact ih0 _ _ _ _ _ _)
      | (with_reducible exact LeO.refl _)
      | (with_reducible exact LeO.none _)
      | (with_reducible refine LeO.ite ?_ ?_)
      | (with_reducible refine LeO.bind ?_ (fun _ => ?_))
      | exact ih0 _ _ _ _ _ _
      | exact LeO.none _
      | refine LeO.ite ?_ ?_
      | refine LeO.bind ?_ (fun _ => ?_)
set_option maxHeartbeats 8000000 in
set_option maxRecDepth 100000 in
theorem spec_FlowValue.calls (k : Nat) (a0_0 : Int) (A0_1 : Option Addr) (c0_1 : Nat) (l0_1 : List (S60)) (a1 : Int) (A2 : Option Addr) (c2 : Nat) (l2 : List Int) (r : Int) (w : World) (hr0_1 : Kd.C k60 w A0_1 l0_1.length l0_1) (hc0_1 : l0_1.length ≤ c0_1) (hr2 : Kd.C (Kd.int .i64) w A2 l2.length l2) (hc2 : l2.length ≤ c2) (h : spec_FlowValue.f k a0_0 l0_1 a1 l2 = some r) :
    Calls Try.prog 16 #[.agg #[.int .i64 a0_0, .slice A0_1 l0_1.length c0_1], .int .i64 a1, .slice A2 l2.length c2] w fun e w' => e = .returned (.int .i64 r) ∧ Below w.heap.size w w' := by
  have hu29 := Try.underlying29
  have hu60 := Try.underlying60
  have HR0_1 := Aside0.mk hr0_1
  have HC0_1 := Aside0.mk hc0_1
  clear hr0_1 hc0_1
  have HR2 := Aside0.mk hr2
  have HC2 := Aside0.mk hc2
  clear hr2 hc2
  have HB := Aside0.mk (Below.refl w.heap.size w)
  have H : (spec_FlowValue.l0 k a1 l2 0 l0_1 (l0_1.length : Int) 0) = some r := h
  clear h
  have H' := Aside0.mk H
  clear H
  go_enter Try.func16, Try.ntmps16
  go_wp2_with (first | ((with_reducible refine gate_dst (N := 3) rfl ?_); refine box_event ?hg (N := 3) ?hd (cs := #[.int .i64 a0_0, .slice A0_1 l0_1.length c0_1]) (t := 29) ?hr ?_; (case hd => rfl); (case hg => rfl); (case hr => first | (go_simp; done) | (go_simp; rfl)); intro gb160 hg w4 hbox hb; have BK160 := Aside0.mk (hbox); have GW160 := Aside0.mk ((bsz hg : w.heap.size ≤ gb160)); have GE160 := Aside0.mk ((bsz hg : w.heap.size ≤ gb160)); replace HB := Aside0.mk (below_step bel hb); clear hb hbox hg; obtain ⟨hcz5_0, hcz5_1, hfz5_0, hfz5_1⟩ := cf2 BK160.out))
  go_loopg [7, 13] k (fun kq v7 v13 w' => ∃ (x7_1 : Int) (x13_1 : Int), v7 = .int .i64 x7_1 ∧ v13 = .int .i64 x13_1 ∧ Aside0 (spec_FlowValue.l0 kq a1 l2 x7_1 l0_1 (l0_1.length : Int) x13_1 = some r) ∧ Aside0 (kq ≤ k) ∧ Aside0 (w'.heap[gb160]? = some (.cells #[.int .i64 a0_0, (.slice A0_1 l0_1.length c0_1)] 29 (0, 0))) ∧ Aside0 (Below w.heap.size w w'))
  case atStart => exact ⟨(0), (0), (es), (es), H', ⟨Nat.le_refl _⟩, ⟨bk BK160.out⟩, ⟨bel⟩⟩
  case round =>
    clear H'
    try clear c1; try clear c2; try clear p2; try clear hcz5_0; try clear hcz5_1; try clear hfz5_0; try clear hfz5_1
    obtain ⟨x7_1, x13_1, rfl, rfl, HA, HK1, BK160, HB⟩ := hrel
    cases gk with
    | zero => exact absurd HA.out (by simp [spec_FlowValue.l0])
    | succ k1 =>
      have H := HA.out
      clear HA
      simp only [spec_FlowValue.l0] at H
      by_cases c6 : x13_1 < (l0_1.length : Int)
      · rw [if_pos c6] at H
        have c6b0 : decide (x13_1 < (l0_1.length : Int)) = true := decide_eq_true c6
        clear c6
        by_cases c7 : 0 ≤ x13_1
        · rw [if_pos c7] at H
          have c7b0 : decide (0 ≤ x13_1) = true := decide_eq_true c7
          clear c7
          by_cases c8 : x13_1 < (l0_1.length : Int)
          · rw [if_pos c8] at H
            have c8b0 : decide (x13_1 < (l0_1.length : Int)) = true := decide_eq_true c8
            clear c8
            by_cases c9 : x13_1 ≥ (l2.length : Int)
            · rw [if_pos c9] at H
              have c9b0 : decide ((l2.length : Int) ≤ x13_1) = true := decide_eq_true c9
              clear c9
              obtain rfl := Option.some.inj H
              have p161 : 0 ≤ (x13_1 : Int) := asm
              have q161 : x13_1 < (l0_1.length : Int) := asm
              obtain ⟨ad161, e161, hx161_0, hx161_1, hx161_2⟩ := at_T60 HR0_1.out x13_1 p161 q161
              cases e161
              replace hx161_0 := hcl HB.out hx161_0
              replace hx161_1 := hcl HB.out hx161_1
              replace hx161_2 := hcl HB.out hx161_2
              replace p161 := eq_true p161
              replace q161 := eq_true q161
              go_wp2_with (first | ((with_reducible refine gate_dst (N := 9) rfl ?_); refine box_event ?hg (N := 9) ?hd (cs := #[.int .i64 0, .int .i64 0, .int .i64 0]) (t := 60) ?hr ?_; (case hd => rfl); (case hg => rfl); (case hr => first | (go_simp; done) | (go_simp; rfl)); intro gb162 hg w10 hbox hb; have BK162 := Aside0.mk (hbox); have GW162 := Aside0.mk ((bsz hg : w.heap.size ≤ gb162)); have GE162 := Aside0.mk ((bsz hg : w.heap.size ≤ gb162)); have NB160_162 := Aside0.mk ((nlt hg BK160.out : gb160 ≠ gb162)); have NB162_160 := Aside0.mk ((ngt hg BK160.out : gb162 ≠ gb160)); replace BK160 := Aside0.mk (bb BK160.out hb); replace HB := Aside0.mk (below_step bel hb); clear hb hbox hg; have hnb11 := NB162_160.out; have hnc11 := NB160_162.out; obtain ⟨hcz12_0, hcz12_1, hcz12_2, hfz12_0, hfz12_1, hfz12_2⟩ := cf3 BK162.out))
              go_ret
              exact ⟨er, bel⟩
            · rw [if_neg c9] at H
              have c9b0 : decide ((l2.length : Int) ≤ x13_1) = false := decide_eq_false c9
              clear c9
              by_cases c13 : ((rd_T60 l0_1 x13_1).f0) = a1
              · rw [if_pos c13] at H
                have c13b0 : (((rd_T60 l0_1 x13_1).f0) == a1) = true := beq_iff_eq.mpr c13
                have c13b1 : (((rd_T60 l0_1 x13_1).f0) != a1) = false := bne_eq_false_iff_eq.mpr c13
                clear c13
                by_cases c14 : x13_1 < (l2.length : Int)
                · rw [if_pos c14] at H
                  have c14b0 : decide (x13_1 < (l2.length : Int)) = true := decide_eq_true c14
                  clear c14
                  by_cases c15 : ((rd_T60 l0_1 x13_1).f1) = a1
                  · rw [if_pos c15] at H
                    have c15b0 : (((rd_T60 l0_1 x13_1).f1) == a1) = true := beq_iff_eq.mpr c15
                    have c15b1 : (((rd_T60 l0_1 x13_1).f1) != a1) = false := bne_eq_false_iff_eq.mpr c15
                    clear c15
                    have H' := Aside0.mk H
                    clear H
                    have p161 : 0 ≤ (x13_1 : Int) := asm
                    have q161 : x13_1 < (l0_1.length : Int) := asm
                    obtain ⟨ad161, e161, hx161_0, hx161_1, hx161_2⟩ := at_T60 HR0_1.out x13_1 p161 q161
                    cases e161
                    replace hx161_0 := hcl HB.out hx161_0
                    replace hx161_1 := hcl HB.out hx161_1
                    replace hx161_2 := hcl HB.out hx161_2
                    replace p161 := eq_true p161
                    replace q161 := eq_true q161
                    go_wp2_with (first | ((with_reducible refine gate_dst (N := 9) rfl ?_); refine box_event ?hg (N := 9) ?hd (cs := #[.int .i64 0, .int .i64 0, .int .i64 0]) (t := 60) ?hr ?_; (case hd => rfl); (case hg => rfl); (case hr => first | (go_simp; done) | (go_simp; rfl)); intro gb162 hg w16 hbox hb; have BK162 := Aside0.mk (hbox); have GW162 := Aside0.mk ((bsz hg : w.heap.size ≤ gb162)); have GE162 := Aside0.mk ((bsz hg : w.heap.size ≤ gb162)); have NB160_162 := Aside0.mk ((nlt hg BK160.out : gb160 ≠ gb162)); have NB162_160 := Aside0.mk ((ngt hg BK160.out : gb162 ≠ gb160)); replace BK160 := Aside0.mk (bb BK160.out hb); replace HB := Aside0.mk (below_step bel hb); clear hb hbox hg; have hnb17 := NB162_160.out; have hnc17 := NB160_162.out; obtain ⟨hcz18_0, hcz18_1, hcz18_2, hfz18_0, hfz18_1, hfz18_2⟩ := cf3 BK162.out; have p163 : 0 ≤ (x13_1 : Int) := asm; have q163 : x13_1 < (l2.length : Int) := asm; obtain ⟨ad163, e163, hx163_0⟩ := Kd.at_int HR2.out x13_1 p163 q163; cases e163; have hn163_0 : ad163.block ≠ gb162 := Nat.ne_of_lt (Nat.lt_of_lt_of_le (by have := World.block_lt_of_cell? _ _ hx163_0; first | rwa [add_block] at this | exact this) GW162.out); have hn163_1 : ad163.block ≠ gb162 := Nat.ne_of_lt (Nat.lt_of_lt_of_le (by have := World.block_lt_of_cell? _ _ hx163_0; first | rwa [add_block] at this | exact this) GW162.out); have hn163_2 : ad163.block ≠ gb162 := Nat.ne_of_lt (Nat.lt_of_lt_of_le (by have := World.block_lt_of_cell? _ _ hx163_0; first | rwa [add_block] at this | exact this) GW162.out); replace hx163_0 := hcl HB.out hx163_0; replace hx163_0 := (cell_far (p := ⟨gb162, 0, none⟩) (by first | (rw [add_block]; exact hn163_0) | (show (Addr.add _ _).block ≠ _; rw [add_block]; exact hn163_0) | exact hn163_0) (.int .i64 ((rd_T60 l0_1 x13_1).f0))).trans hx163_0; replace hx163_0 := (cell_far (p := ⟨gb162, 1, none⟩) (by first | (rw [add_block]; exact hn163_1) | (show (Addr.add _ _).block ≠ _; rw [add_block]; exact hn163_1) | exact hn163_1) (.int .i64 ((rd_T60 l0_1 x13_1).f1))).trans hx163_0; replace hx163_0 := (cell_far (p := ⟨gb162, 2, none⟩) (by first | (rw [add_block]; exact hn163_2) | (show (Addr.add _ _).block ≠ _; rw [add_block]; exact hn163_2) | exact hn163_2) (.int .i64 ((rd_T60 l0_1 x13_1).f2))).trans hx163_0; clear hn163_0; clear hn163_1; clear hn163_2; replace p163 := eq_true p163; replace q163 := eq_true q163; have p164 : 0 ≤ (x13_1 : Int) := asm; have q164 : x13_1 < (l2.length : Int) := asm; obtain ⟨ad164, e164, hx164_0⟩ := Kd.at_int HR2.out x13_1 p164 q164; obtain rfl : ad163 = ad164 := (by injection e164); have hn164_0 : ad163.block ≠ gb162 := Nat.ne_of_lt (Nat.lt_of_lt_of_le (by have := World.block_lt_of_cell? _ _ hx164_0; first | rwa [add_block] at this | exact this) GW162.out); have hn164_1 : ad163.block ≠ gb162 := Nat.ne_of_lt (Nat.lt_of_lt_of_le (by have := World.block_lt_of_cell? _ _ hx164_0; first | rwa [add_block] at this | exact this) GW162.out); have hn164_2 : ad163.block ≠ gb162 := Nat.ne_of_lt (Nat.lt_of_lt_of_le (by have := World.block_lt_of_cell? _ _ hx164_0; first | rwa [add_block] at this | exact this) GW162.out); replace hx164_0 := hcl HB.out hx164_0; replace hx164_0 := (cell_far (p := ⟨gb162, 0, none⟩) (by first | (rw [add_block]; exact hn164_0) | (show (Addr.add _ _).block ≠ _; rw [add_block]; exact hn164_0) | exact hn164_0) (.int .i64 ((rd_T60 l0_1 x13_1).f0))).trans hx164_0; replace hx164_0 := (cell_far (p := ⟨gb162, 1, none⟩) (by first | (rw [add_block]; exact hn164_1) | (show (Addr.add _ _).block ≠ _; rw [add_block]; exact hn164_1) | exact hn164_1) (.int .i64 ((rd_T60 l0_1 x13_1).f1))).trans hx164_0; replace hx164_0 := (cell_far (p := ⟨gb162, 2, none⟩) (by first | (rw [add_block]; exact hn164_2) | (show (Addr.add _ _).block ≠ _; rw [add_block]; exact hn164_2) | exact hn164_2) (.int .i64 ((rd_T60 l0_1 x13_1).f2))).trans hx164_0; clear hn164_0; clear hn164_1; clear hn164_2; replace p164 := eq_true p164; replace q164 := eq_true q164))
                    go_roundg k1
                    case measure => have := HK1.out; omega
                    case rel => exact ⟨(wrap64 ((wrap64 (x7_1 + (rd l2 x13_1))) - (rd l2 x13_1))), (wrap64 (x13_1 + 1)), (es), (es), H', ⟨by have := HK1.out; omega⟩, ⟨bk BK160.out⟩, ⟨bel⟩⟩
                  · rw [if_neg c15] at H
                    have c15b0 : (((rd_T60 l0_1 x13_1).f1) == a1) = false := beq_eq_false_iff_ne.mpr c15
                    have c15b1 : (((rd_T60 l0_1 x13_1).f1) != a1) = true := bne_iff_ne.mpr c15
                    have H' := Aside0.mk H
                    clear H
                    have p161 : 0 ≤ (x13_1 : Int) := asm
                    have q161 : x13_1 < (l0_1.length : Int) := asm
                    obtain ⟨ad161, e161, hx161_0, hx161_1, hx161_2⟩ := at_T60 HR0_1.out x13_1 p161 q161
                    cases e161
                    replace hx161_0 := hcl HB.out hx161_0
                    replace hx161_1 := hcl HB.out hx161_1
                    replace hx161_2 := hcl HB.out hx161_2
                    replace p161 := eq_true p161
                    replace q161 := eq_true q161
                    go_wp2_with (first | ((with_reducible refine gate_dst (N := 9) rfl ?_); refine box_event ?hg (N := 9) ?hd (cs := #[.int .i64 0, .int .i64 0, .int .i64 0]) (t := 60) ?hr ?_; (case hd => rfl); (case hg => rfl); (case hr => first | (go_simp; done) | (go_simp; rfl)); intro gb162 hg w19 hbox hb; have BK162 := Aside0.mk (hbox); have GW162 := Aside0.mk ((bsz hg : w.heap.size ≤ gb162)); have GE162 := Aside0.mk ((bsz hg : w.heap.size ≤ gb162)); have NB160_162 := Aside0.mk ((nlt hg BK160.out : gb160 ≠ gb162)); have NB162_160 := Aside0.mk ((ngt hg BK160.out : gb162 ≠ gb160)); replace BK160 := Aside0.mk (bb BK160.out hb); replace HB := Aside0.mk (below_step bel hb); clear hb hbox hg; have hnb20 := NB162_160.out; have hnc20 := NB160_162.out; obtain ⟨hcz21_0, hcz21_1, hcz21_2, hfz21_0, hfz21_1, hfz21_2⟩ := cf3 BK162.out; have p163 : 0 ≤ (x13_1 : Int) := asm; have q163 : x13_1 < (l2.length : Int) := asm; obtain ⟨ad163, e163, hx163_0⟩ := Kd.at_int HR2.out x13_1 p163 q163; cases e163; have hn163_0 : ad163.block ≠ gb162 := Nat.ne_of_lt (Nat.lt_of_lt_of_le (by have := World.block_lt_of_cell? _ _ hx163_0; first | rwa [add_block] at this | exact this) GW162.out); have hn163_1 : ad163.block ≠ gb162 := Nat.ne_of_lt (Nat.lt_of_lt_of_le (by have := World.block_lt_of_cell? _ _ hx163_0; first | rwa [add_block] at this | exact this) GW162.out); have hn163_2 : ad163.block ≠ gb162 := Nat.ne_of_lt (Nat.lt_of_lt_of_le (by have := World.block_lt_of_cell? _ _ hx163_0; first | rwa [add_block] at this | exact this) GW162.out); replace hx163_0 := hcl HB.out hx163_0; replace hx163_0 := (cell_far (p := ⟨gb162, 0, none⟩) (by first | (rw [add_block]; exact hn163_0) | (show (Addr.add _ _).block ≠ _; rw [add_block]; exact hn163_0) | exact hn163_0) (.int .i64 ((rd_T60 l0_1 x13_1).f0))).trans hx163_0; replace hx163_0 := (cell_far (p := ⟨gb162, 1, none⟩) (by first | (rw [add_block]; exact hn163_1) | (show (Addr.add _ _).block ≠ _; rw [add_block]; exact hn163_1) | exact hn163_1) (.int .i64 ((rd_T60 l0_1 x13_1).f1))).trans hx163_0; replace hx163_0 := (cell_far (p := ⟨gb162, 2, none⟩) (by first | (rw [add_block]; exact hn163_2) | (show (Addr.add _ _).block ≠ _; rw [add_block]; exact hn163_2) | exact hn163_2) (.int .i64 ((rd_T60 l0_1 x13_1).f2))).trans hx163_0; clear hn163_0; clear hn163_1; clear hn163_2; replace p163 := eq_true p163; replace q163 := eq_true q163))
                    go_roundg k1
                    case measure => have := HK1.out; omega
                    case rel => exact ⟨(wrap64 (x7_1 + (rd l2 x13_1))), (wrap64 (x13_1 + 1)), (es), (es), H', ⟨by have := HK1.out; omega⟩, ⟨bk BK160.out⟩, ⟨bel⟩⟩
                · rw [if_neg c14] at H
                  exact absurd H (by simp)
              · rw [if_neg c13] at H
                have c13b0 : (((rd_T60 l0_1 x13_1).f0) == a1) = false := beq_eq_false_iff_ne.mpr c13
                have c13b1 : (((rd_T60 l0_1 x13_1).f0) != a1) = true := bne_iff_ne.mpr c13
                by_cases c22 : ((rd_T60 l0_1 x13_1).f1) = a1
                · rw [if_pos c22] at H
                  have c22b0 : (((rd_T60 l0_1 x13_1).f1) == a1) = true := beq_iff_eq.mpr c22
                  have c22b1 : (((rd_T60 l0_1 x13_1).f1) != a1) = false := bne_eq_false_iff_eq.mpr c22
                  clear c22
                  by_cases c23 : x13_1 < (l2.length : Int)
                  · rw [if_pos c23] at H
                    have c23b0 : decide (x13_1 < (l2.length : Int)) = true := decide_eq_true c23
                    clear c23
                    have H' := Aside0.mk H
                    clear H
                    have p161 : 0 ≤ (x13_1 : Int) := asm
                    have q161 : x13_1 < (l0_1.length : Int) := asm
                    obtain ⟨ad161, e161, hx161_0, hx161_1, hx161_2⟩ := at_T60 HR0_1.out x13_1 p161 q161
                    cases e161
                    replace hx161_0 := hcl HB.out hx161_0
                    replace hx161_1 := hcl HB.out hx161_1
                    replace hx161_2 := hcl HB.out hx161_2
                    replace p161 := eq_true p161
                    replace q161 := eq_true q161
                    go_wp2_with (first | ((with_reducible refine gate_dst (N := 9) rfl ?_); refine box_event ?hg (N := 9) ?hd (cs := #[.int .i64 0, .int .i64 0, .int .i64 0]) (t := 60) ?hr ?_; (case hd => rfl); (case hg => rfl); (case hr => first | (go_simp; done) | (go_simp; rfl)); intro gb162 hg w24 hbox hb; have BK162 := Aside0.mk (hbox); have GW162 := Aside0.mk ((bsz hg : w.heap.size ≤ gb162)); have GE162 := Aside0.mk ((bsz hg : w.heap.size ≤ gb162)); have NB160_162 := Aside0.mk ((nlt hg BK160.out : gb160 ≠ gb162)); have NB162_160 := Aside0.mk ((ngt hg BK160.out : gb162 ≠ gb160)); replace BK160 := Aside0.mk (bb BK160.out hb); replace HB := Aside0.mk (below_step bel hb); clear hb hbox hg; have hnb25 := NB162_160.out; have hnc25 := NB160_162.out; obtain ⟨hcz26_0, hcz26_1, hcz26_2, hfz26_0, hfz26_1, hfz26_2⟩ := cf3 BK162.out; have p165 : 0 ≤ (x13_1 : Int) := asm; have q165 : x13_1 < (l2.length : Int) := asm; obtain ⟨ad165, e165, hx165_0⟩ := Kd.at_int HR2.out x13_1 p165 q165; cases e165; have hn165_0 : ad165.block ≠ gb162 := Nat.ne_of_lt (Nat.lt_of_lt_of_le (by have := World.block_lt_of_cell? _ _ hx165_0; first | rwa [add_block] at this | exact this) GW162.out); have hn165_1 : ad165.block ≠ gb162 := Nat.ne_of_lt (Nat.lt_of_lt_of_le (by have := World.block_lt_of_cell? _ _ hx165_0; first | rwa [add_block] at this | exact this) GW162.out); have hn165_2 : ad165.block ≠ gb162 := Nat.ne_of_lt (Nat.lt_of_lt_of_le (by have := World.block_lt_of_cell? _ _ hx165_0; first | rwa [add_block] at this | exact this) GW162.out); replace hx165_0 := hcl HB.out hx165_0; replace hx165_0 := (cell_far (p := ⟨gb162, 0, none⟩) (by first | (rw [add_block]; exact hn165_0) | (show (Addr.add _ _).block ≠ _; rw [add_block]; exact hn165_0) | exact hn165_0) (.int .i64 ((rd_T60 l0_1 x13_1).f0))).trans hx165_0; replace hx165_0 := (cell_far (p := ⟨gb162, 1, none⟩) (by first | (rw [add_block]; exact hn165_1) | (show (Addr.add _ _).block ≠ _; rw [add_block]; exact hn165_1) | exact hn165_1) (.int .i64 ((rd_T60 l0_1 x13_1).f1))).trans hx165_0; replace hx165_0 := (cell_far (p := ⟨gb162, 2, none⟩) (by first | (rw [add_block]; exact hn165_2) | (show (Addr.add _ _).block ≠ _; rw [add_block]; exact hn165_2) | exact hn165_2) (.int .i64 ((rd_T60 l0_1 x13_1).f2))).trans hx165_0; clear hn165_0; clear hn165_1; clear hn165_2; replace p165 := eq_true p165; replace q165 := eq_true q165))
                    go_roundg k1
                    case measure => have := HK1.out; omega
                    case rel => exact ⟨(wrap64 (x7_1 - (rd l2 x13_1))), (wrap64 (x13_1 + 1)), (es), (es), H', ⟨by have := HK1.out; omega⟩, ⟨bk BK160.out⟩, ⟨bel⟩⟩
                  · rw [if_neg c23] at H
                    exact absurd H (by simp)
                · rw [if_neg c22] at H
                  have c22b0 : (((rd_T60 l0_1 x13_1).f1) == a1) = false := beq_eq_false_iff_ne.mpr c22
                  have c22b1 : (((rd_T60 l0_1 x13_1).f1) != a1) = true := bne_iff_ne.mpr c22
                  have H' := Aside0.mk H
                  clear H
                  have p161 : 0 ≤ (x13_1 : Int) := asm
                  have q161 : x13_1 < (l0_1.length : Int) := asm
                  obtain ⟨ad161, e161, hx161_0, hx161_1, hx161_2⟩ := at_T60 HR0_1.out x13_1 p161 q161
                  cases e161
                  replace hx161_0 := hcl HB.out hx161_0
                  replace hx161_1 := hcl HB.out hx161_1
                  replace hx161_2 := hcl HB.out hx161_2
                  replace p161 := eq_true p161
                  replace q161 := eq_true q161
                  go_wp2_with (first | ((with_reducible refine gate_dst (N := 9) rfl ?_); refine box_event ?hg (N := 9) ?hd (cs := #[.int .i64 0, .int .i64 0, .int .i64 0]) (t := 60) ?hr ?_; (case hd => rfl); (case hg => rfl); (case hr => first | (go_simp; done) | (go_simp; rfl)); intro gb162 hg w27 hbox hb; have BK162 := Aside0.mk (hbox); have GW162 := Aside0.mk ((bsz hg : w.heap.size ≤ gb162)); have GE162 := Aside0.mk ((bsz hg : w.heap.size ≤ gb162)); have NB160_162 := Aside0.mk ((nlt hg BK160.out : gb160 ≠ gb162)); have NB162_160 := Aside0.mk ((ngt hg BK160.out : gb162 ≠ gb160)); replace BK160 := Aside0.mk (bb BK160.out hb); replace HB := Aside0.mk (below_step bel hb); clear hb hbox hg; have hnb28 := NB162_160.out; have hnc28 := NB160_162.out; obtain ⟨hcz29_0, hcz29_1, hcz29_2, hfz29_0, hfz29_1, hfz29_2⟩ := cf3 BK162.out))
                  go_roundg k1
                  case measure => have := HK1.out; omega
                  case rel => exact ⟨(x7_1), (wrap64 (x13_1 + 1)), (es), (es), H', ⟨by have := HK1.out; omega⟩, ⟨bk BK160.out⟩, ⟨bel⟩⟩
          · rw [if_neg c8] at H
            exact absurd H (by simp)
        · rw [if_neg c7] at H
          exact absurd H (by simp)
      · rw [if_neg c6] at H
        have c6b0 : decide (x13_1 < (l0_1.length : Int)) = false := decide_eq_false c6
        clear c6
        obtain rfl := Option.some.inj H
        go_wp2
        go_ret
        exact ⟨er, bel⟩

end Go.Proofs.Yteaemblallbgpaa.X
