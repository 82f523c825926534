-- Written by a program of this session (wip/xp.py, over the kit's print) out of the translation: functions, and the walks that show them.
import Derived.Test.YtgalpgakdcfilaaQ0
import Derived.Test.YtgalpgakdcfilaaQ19
import Derived.Test.YtgalpgakdcfilaaQ23
namespace Go.Proofs.Ytgalpgakdcfilaa.Q
open Go.RowKit Go.Proofs.YtgalpgakdcfilaaW.PrintWords Go.Proofs.YtgalpgakdcfilaaW.PrintLast Go.Proofs.YtgalpgakdcfilaaW.PrintMore
attribute [local go_sem] max2_int min2_int max_two min_two max_three min_three max_four min_four   -- for this text's walks alone
set_option linter.unusedVariables false
set_option linter.unusedSimpArgs false

def spec_l18Best.l0 : Nat → Int → Int → List (S71) → Int → Int → Option (Int)
  | 0, _, _, _, _, _ => none
  | k + 1, x1, x5, x14, x15, x16 => if x16 < x15 then (if 0 ≤ x16 then (if x16 < (x14.length : Int) then ((spec_IsOpen.f ((rd_T71 x14 x16).f0) ((rd_T71 x14 x16).f1) ((rd_T71 x14 x16).f2) ((rd_T71 x14 x16).f3) ((rd_T71 x14 x16).f4)).bind fun t362 => (if t362 = true then (if ((rd_T71 x14 x16).f0) = x1 then (spec_l18Best.l0 k x1 (wrap64 (x5 + 2)) x14 x15 (wrap64 (x16 + 1))) else (if ((rd_T71 x14 x16).f1) = x1 then (spec_l18Best.l0 k x1 (wrap64 (x5 + 2)) x14 x15 (wrap64 (x16 + 1))) else (spec_l18Best.l0 k x1 x5 x14 x15 (wrap64 (x16 + 1))))) else (spec_l18Best.l0 k x1 x5 x14 x15 (wrap64 (x16 + 1))))) else (none)) else (none)) else (some x5)
def spec_l18Best.f (k : Nat) (l0_0 : List (S101)) (a0_1 : Int) (a0_2 : Int) (a0_3 : Int) (l0_4 : List Int) (a0_5 : Bool) (l0_6 : List (S71)) (l0_7 : List Int) (l0_8 : List Int) (a1 : Int) : Option (Int) := (spec_l18Points.f k l0_0 a0_1 a0_2 a0_3 l0_4 a0_5 l0_6 l0_7 l0_8).bind fun t356 => (if 0 ≤ a1 then (if a1 < (t356.length : Int) then (spec_l18Best.l0 k a1 (rd t356 a1) l0_6 (l0_6.length : Int) 0) else (none)) else (none))
set_option maxHeartbeats 8000000 in
set_option maxRecDepth 100000 in
theorem spec_l18Best.calls (k : Nat) (A0_0 : Option Addr) (c0_0 : Nat) (l0_0 : List (S101)) (a0_1 : Int) (a0_2 : Int) (a0_3 : Int) (A0_4 : Option Addr) (c0_4 : Nat) (l0_4 : List Int) (a0_5 : Bool) (A0_6 : Option Addr) (c0_6 : Nat) (l0_6 : List (S71)) (A0_7 : Option Addr) (c0_7 : Nat) (l0_7 : List Int) (A0_8 : Option Addr) (c0_8 : Nat) (l0_8 : List Int) (a1 : Int) (r : Int) (w : World) (hr0_0 : Kd.C k101 w A0_0 l0_0.length l0_0) (hc0_0 : l0_0.length ≤ c0_0) (hr0_4 : Kd.C (Kd.int .i64) w A0_4 l0_4.length l0_4) (hc0_4 : l0_4.length ≤ c0_4) (hr0_6 : Kd.C k71 w A0_6 l0_6.length l0_6) (hc0_6 : l0_6.length ≤ c0_6) (hr0_7 : Kd.C (Kd.int .i64) w A0_7 l0_7.length l0_7) (hc0_7 : l0_7.length ≤ c0_7) (hr0_8 : Kd.C (Kd.int .i64) w A0_8 l0_8.length l0_8) (hc0_8 : l0_8.length ≤ c0_8) (h : spec_l18Best.f k l0_0 a0_1 a0_2 a0_3 l0_4 a0_5 l0_6 l0_7 l0_8 a1 = some r) :
    Calls Try.prog 77 #[.agg #[.slice A0_0 l0_0.length c0_0, .int .i64 a0_1, .int .i64 a0_2, .int .i64 a0_3, .slice A0_4 l0_4.length c0_4, .bool a0_5, .slice A0_6 l0_6.length c0_6, .slice A0_7 l0_7.length c0_7, .slice A0_8 l0_8.length c0_8], .int .i64 a1] w fun e w' => e = .returned (.int .i64 r) ∧ Below w.heap.size w w' := by
  have hu37 := Try.underlying37
  have hu71 := Try.underlying71
  have HR0_0 := Aside0.mk hr0_0
  have HC0_0 := Aside0.mk hc0_0
  clear hr0_0 hc0_0
  have HR0_4 := Aside0.mk hr0_4
  have HC0_4 := Aside0.mk hc0_4
  clear hr0_4 hc0_4
  have HR0_6 := Aside0.mk hr0_6
  have HC0_6 := Aside0.mk hc0_6
  clear hr0_6 hc0_6
  have HR0_7 := Aside0.mk hr0_7
  have HC0_7 := Aside0.mk hc0_7
  clear hr0_7 hc0_7
  have HR0_8 := Aside0.mk hr0_8
  have HC0_8 := Aside0.mk hc0_8
  clear hr0_8 hc0_8
  have HB := Aside0.mk (Below.refl w.heap.size w)
  have H : ((spec_l18Points.f k l0_0 a0_1 a0_2 a0_3 l0_4 a0_5 l0_6 l0_7 l0_8).bind fun t356 => (if 0 ≤ a1 then (if a1 < (t356.length : Int) then (spec_l18Best.l0 k a1 (rd t356 a1) l0_6 (l0_6.length : Int) 0) else (none)) else (none))) = some r := h
  clear h
  replace H := Option.bind_eq_some_iff.mp H
  obtain ⟨t356, A30, H⟩ := H
  replace H : (if 0 ≤ a1 then (if a1 < (t356.length : Int) then (spec_l18Best.l0 k a1 (rd t356 a1) l0_6 (l0_6.length : Int) 0) else (none)) else (none)) = some r := H
  have A3 := Aside0.mk A30
  clear A30
  by_cases c4 : 0 ≤ a1
  · rw [if_pos c4] at H
    have c4b0 : decide (0 ≤ a1) = true := decide_eq_true c4
    clear c4
    by_cases c5 : a1 < (t356.length : Int)
    · rw [if_pos c5] at H
      have c5b0 : decide (a1 < (t356.length : Int)) = true := decide_eq_true c5
      clear c5
      have H' := Aside0.mk H
      clear H
      go_enter Try.func77, Try.ntmps77
      go_wp2_with (first | ((with_reducible refine gate_dst (N := 2) rfl ?_); refine box_event ?hg (N := 2) ?hd (cs := #[.slice A0_0 l0_0.length c0_0, .int .i64 a0_1, .int .i64 a0_2, .int .i64 a0_3, .slice A0_4 l0_4.length c0_4, .bool a0_5, .slice A0_6 l0_6.length c0_6, .slice A0_7 l0_7.length c0_7, .slice A0_8 l0_8.length c0_8]) (t := 37) ?hr ?_; (case hd => rfl); (case hg => rfl); (case hr => first | (go_simp; done) | (go_simp; rfl)); intro gb355 hg w6 hbox hb; have BK355 := Aside0.mk (hbox); have GW355 := Aside0.mk ((bsz hg : w.heap.size ≤ gb355)); have GE355 := Aside0.mk ((bsz hg : w.heap.size ≤ gb355)); replace HB := Aside0.mk (below_step bel hb); clear hb hbox hg; obtain ⟨hcz7_0, hcz7_1, hcz7_2, hcz7_3, hcz7_4, hcz7_5, hcz7_6, hcz7_7, hcz7_8, hfz7_0, hfz7_1, hfz7_2, hfz7_3, hfz7_4, hfz7_5, hfz7_6, hfz7_7, hfz7_8⟩ := cf9 BK355.out) | ((with_reducible refine gate_callee (f := 108) rfl ?_); refine goesL_ (some 9) rfl rfl Try.func108 (by kernel_rfl) rfl #[.agg #[.slice A0_0 l0_0.length c0_0, .int .i64 a0_1, .int .i64 a0_2, .int .i64 a0_3, .slice A0_4 l0_4.length c0_4, .bool a0_5, .slice A0_6 l0_6.length c0_6, .slice A0_7 l0_7.length c0_7, .slice A0_8 l0_8.length c0_8]] rfl ga ?_; (with_reducible refine (spec_l18Points.calls k _ _ l0_0 a0_1 a0_2 a0_3 _ _ l0_4 a0_5 _ _ l0_6 _ _ l0_7 _ _ l0_8 t356 _ ?side1 ?side2 ?side3 ?side4 ?side5 ?side6 ?side7 ?side8 ?side9 ?side10 A3.out).mono ?_); (case side1 => exact ck (Kd.C_below HR0_0.out HB.out)); (case side2 => exact HC0_0.out); (case side3 => exact ck (Kd.C_below HR0_4.out HB.out)); (case side4 => exact HC0_4.out); (case side5 => exact ck (Kd.C_below HR0_6.out HB.out)); (case side6 => exact HC0_6.out); (case side7 => exact ck (Kd.C_below HR0_7.out HB.out)); (case side8 => exact HC0_7.out); (case side9 => exact ck (Kd.C_below HR0_8.out HB.out)); (case side10 => exact HC0_8.out); rintro e w8 ⟨v357, rfl, ho0, hb⟩; refine ⟨_, rfl, ?_⟩; have HO358 := Aside0.mk (Kd.R_lower ho0 (below_size bel)); replace BK355 := Aside0.mk (bb BK355.out hb); replace HB := Aside0.mk (below_step bel hb); (try clear hb); (try clear ho0); obtain ⟨Ao9, co9, eo9⟩ := Kd.R_slice HO358.out; subst eo9; have p359 : 0 ≤ (a1 : Int) := asm; have q359 : a1 < (t356.length : Int) := asm; obtain ⟨ad359, e359, hx359_0⟩ := Kd.at_int (Kd.R_reads' HO358.out).2.2 a1 p359 q359; cases e359; replace p359 := eq_true p359; replace q359 := eq_true q359; obtain ⟨hcz10_0, hcz10_1, hcz10_2, hcz10_3, hcz10_4, hcz10_5, hcz10_6, hcz10_7, hcz10_8, hfz10_0, hfz10_1, hfz10_2, hfz10_3, hfz10_4, hfz10_5, hfz10_6, hfz10_7, hfz10_8⟩ := cf9 BK355.out))
      go_loopg [5, 16] k (fun kq v5 v16 w' => ∃ (x5_1 : Int) (x16_1 : Int), v5 = .int .i64 x5_1 ∧ v16 = .int .i64 x16_1 ∧ Aside0 (spec_l18Best.l0 kq a1 x5_1 l0_6 (l0_6.length : Int) x16_1 = some r) ∧ Aside0 (kq ≤ k) ∧ Aside0 (w'.heap[gb355]? = some (.cells #[(.slice A0_0 l0_0.length c0_0), .int .i64 a0_1, .int .i64 a0_2, .int .i64 a0_3, (.slice A0_4 l0_4.length c0_4), .bool a0_5, (.slice A0_6 l0_6.length c0_6), (.slice A0_7 l0_7.length c0_7), (.slice A0_8 l0_8.length c0_8)] 37 (0, 0))) ∧ Aside0 (Below w.heap.size w w'))
      case atStart => exact ⟨(rd t356 a1), (0), (es), (es), H', ⟨Nat.le_refl _⟩, ⟨bk BK355.out⟩, ⟨bel⟩⟩
      case round =>
        clear H'
        try clear c1; try clear p2; try clear p3; try clear q3; try clear hx3; try clear c4; try clear c4b0; try clear c5; try clear c5b0; try clear c7; try clear c10; try clear hcz10_0; try clear hcz10_1; try clear hcz10_2; try clear hcz10_3; try clear hcz10_4; try clear hcz10_5; try clear hcz10_6; try clear hcz10_7; try clear hcz10_8; try clear hcz7_0; try clear hcz7_1; try clear hcz7_2; try clear hcz7_3; try clear hcz7_4; try clear hcz7_5; try clear hcz7_6; try clear hcz7_7; try clear hcz7_8; try clear hfz10_0; try clear hfz10_1; try clear hfz10_2; try clear hfz10_3; try clear hfz10_4; try clear hfz10_5; try clear hfz10_6; try clear hfz10_7; try clear hfz10_8; try clear hfz7_0; try clear hfz7_1; try clear hfz7_2; try clear hfz7_3; try clear hfz7_4; try clear hfz7_5; try clear hfz7_6; try clear hfz7_7; try clear hfz7_8; try clear hx359_0; try clear p359; try clear q359
        obtain ⟨x5_1, x16_1, rfl, rfl, HA, HK1, BK355, HB⟩ := hrel
        cases gk with
        | zero => exact absurd HA.out (by simp [spec_l18Best.l0])
        | succ k1 =>
          have H := HA.out
          clear HA
          simp only [spec_l18Best.l0] at H
          by_cases c11 : x16_1 < (l0_6.length : Int)
          · rw [if_pos c11] at H
            have c11b0 : decide (x16_1 < (l0_6.length : Int)) = true := decide_eq_true c11
            clear c11
            by_cases c12 : 0 ≤ x16_1
            · rw [if_pos c12] at H
              have c12b0 : decide (0 ≤ x16_1) = true := decide_eq_true c12
              clear c12
              by_cases c13 : x16_1 < (l0_6.length : Int)
              · rw [if_pos c13] at H
                have c13b0 : decide (x16_1 < (l0_6.length : Int)) = true := decide_eq_true c13
                clear c13
                replace H := Option.bind_eq_some_iff.mp H
                obtain ⟨t362, A140, H⟩ := H
                replace H : (if t362 = true then (if ((rd_T71 l0_6 x16_1).f0) = a1 then (spec_l18Best.l0 k1 a1 (wrap64 (x5_1 + 2)) l0_6 (l0_6.length : Int) (wrap64 (x16_1 + 1))) else (if ((rd_T71 l0_6 x16_1).f1) = a1 then (spec_l18Best.l0 k1 a1 (wrap64 (x5_1 + 2)) l0_6 (l0_6.length : Int) (wrap64 (x16_1 + 1))) else (spec_l18Best.l0 k1 a1 x5_1 l0_6 (l0_6.length : Int) (wrap64 (x16_1 + 1))))) else (spec_l18Best.l0 k1 a1 x5_1 l0_6 (l0_6.length : Int) (wrap64 (x16_1 + 1)))) = some r := H
                have A14 := Aside0.mk A140
                clear A140
                by_cases c15 : t362 = true
                · subst c15
                  have H1 : (if ((rd_T71 l0_6 x16_1).f0) = a1 then (spec_l18Best.l0 k1 a1 (wrap64 (x5_1 + 2)) l0_6 (l0_6.length : Int) (wrap64 (x16_1 + 1))) else (if ((rd_T71 l0_6 x16_1).f1) = a1 then (spec_l18Best.l0 k1 a1 (wrap64 (x5_1 + 2)) l0_6 (l0_6.length : Int) (wrap64 (x16_1 + 1))) else (spec_l18Best.l0 k1 a1 x5_1 l0_6 (l0_6.length : Int) (wrap64 (x16_1 + 1))))) = some r := by rw [if_pos rfl] at H; exact H
                  clear H
                  have H := H1
                  clear H1
                  by_cases c16 : ((rd_T71 l0_6 x16_1).f0) = a1
                  · rw [if_pos c16] at H
                    have c16b0 : (((rd_T71 l0_6 x16_1).f0) == a1) = true := beq_iff_eq.mpr c16
                    have c16b1 : (((rd_T71 l0_6 x16_1).f0) != a1) = false := bne_eq_false_iff_eq.mpr c16
                    clear c16
                    have H' := Aside0.mk H
                    clear H
                    have p360 : 0 ≤ (x16_1 : Int) := asm
                    have q360 : x16_1 < (l0_6.length : Int) := asm
                    obtain ⟨ad360, e360, hx360_0, hx360_1, hx360_2, hx360_3, hx360_4⟩ := at_T71 HR0_6.out x16_1 p360 q360
                    cases e360
                    replace hx360_0 := hcl HB.out hx360_0
                    replace hx360_1 := hcl HB.out hx360_1
                    replace hx360_2 := hcl HB.out hx360_2
                    replace hx360_3 := hcl HB.out hx360_3
                    replace hx360_4 := hcl HB.out hx360_4
                    replace p360 := eq_true p360
                    replace q360 := eq_true q360
                    go_wp2_with (first | ((with_reducible refine gate_dst (N := 7) rfl ?_); refine box_event ?hg (N := 7) ?hd (cs := #[.int .i64 0, .int .i64 0, .int .i64 0, .int .i64 0, .int .i64 0]) (t := 71) ?hr ?_; (case hd => rfl); (case hg => rfl); (case hr => first | (go_simp; done) | (go_simp; rfl)); intro gb361 hg w17 hbox hb; have BK361 := Aside0.mk (hbox); have GW361 := Aside0.mk ((bsz hg : w.heap.size ≤ gb361)); have GE361 := Aside0.mk ((bsz hg : w.heap.size ≤ gb361)); have NB355_361 := Aside0.mk ((nlt hg BK355.out : gb355 ≠ gb361)); have NB361_355 := Aside0.mk ((ngt hg BK355.out : gb361 ≠ gb355)); replace BK355 := Aside0.mk (bb BK355.out hb); replace HB := Aside0.mk (below_step bel hb); clear hb hbox hg; have hnb18 := NB361_355.out; have hnc18 := NB355_361.out; obtain ⟨hcz19_0, hcz19_1, hcz19_2, hcz19_3, hcz19_4, hfz19_0, hfz19_1, hfz19_2, hfz19_3, hfz19_4⟩ := cf5 BK361.out) | ((with_reducible refine gate_callee (f := 61) rfl ?_); refine goesL_ (some 21) rfl rfl Try.func61 (by kernel_rfl) rfl #[.agg #[.int .i64 ((rd_T71 l0_6 x16_1).f0), .int .i64 ((rd_T71 l0_6 x16_1).f1), .int .i64 ((rd_T71 l0_6 x16_1).f2), .int .i64 ((rd_T71 l0_6 x16_1).f3), .int .i64 ((rd_T71 l0_6 x16_1).f4)]] rfl ga ?_; (with_reducible refine (spec_IsOpen.calls ((rd_T71 l0_6 x16_1).f0) ((rd_T71 l0_6 x16_1).f1) ((rd_T71 l0_6 x16_1).f2) ((rd_T71 l0_6 x16_1).f3) ((rd_T71 l0_6 x16_1).f4) true _ A14.out).mono ?_); rintro e w20 ⟨rfl, hb⟩; refine ⟨_, rfl, ?_⟩; replace BK355 := Aside0.mk (bb BK355.out hb); replace BK361 := Aside0.mk (blk_below (g := gb361) (o := .cells #[.int .i64 ((rd_T71 l0_6 x16_1).f0), .int .i64 ((rd_T71 l0_6 x16_1).f1), .int .i64 ((rd_T71 l0_6 x16_1).f2), .int .i64 ((rd_T71 l0_6 x16_1).f3), .int .i64 ((rd_T71 l0_6 x16_1).f4)] 71 (0, 0)) (by (with_reducible repeat (first | refine blk_drewN ?_ _ | refine blk_drew ?_ | refine blk_alloc ?_ _)); refine blk_put (cs := #[.int .i64 ((rd_T71 l0_6 x16_1).f0), .int .i64 ((rd_T71 l0_6 x16_1).f1), .int .i64 ((rd_T71 l0_6 x16_1).f2), .int .i64 ((rd_T71 l0_6 x16_1).f3), .int .i64 0]) ?_ 4 _ rfl; (with_reducible repeat (first | refine blk_drewN ?_ _ | refine blk_drew ?_ | refine blk_alloc ?_ _)); refine blk_put (cs := #[.int .i64 ((rd_T71 l0_6 x16_1).f0), .int .i64 ((rd_T71 l0_6 x16_1).f1), .int .i64 ((rd_T71 l0_6 x16_1).f2), .int .i64 0, .int .i64 0]) ?_ 3 _ rfl; (with_reducible repeat (first | refine blk_drewN ?_ _ | refine blk_drew ?_ | refine blk_alloc ?_ _)); refine blk_put (cs := #[.int .i64 ((rd_T71 l0_6 x16_1).f0), .int .i64 ((rd_T71 l0_6 x16_1).f1), .int .i64 0, .int .i64 0, .int .i64 0]) ?_ 2 _ rfl; (with_reducible repeat (first | refine blk_drewN ?_ _ | refine blk_drew ?_ | refine blk_alloc ?_ _)); refine blk_put (cs := #[.int .i64 ((rd_T71 l0_6 x16_1).f0), .int .i64 0, .int .i64 0, .int .i64 0, .int .i64 0]) ?_ 1 _ rfl; (with_reducible repeat (first | refine blk_drewN ?_ _ | refine blk_drew ?_ | refine blk_alloc ?_ _)); refine blk_put (cs := #[.int .i64 0, .int .i64 0, .int .i64 0, .int .i64 0, .int .i64 0]) ?_ 0 _ rfl; (with_reducible repeat (first | refine blk_drewN ?_ _ | refine blk_drew ?_ | refine blk_alloc ?_ _)); exact BK361.out) hb); replace HB := Aside0.mk (below_step bel hb); (try clear hb); obtain ⟨hcz21_0, hcz21_1, hcz21_2, hcz21_3, hcz21_4, hfz21_0, hfz21_1, hfz21_2, hfz21_3, hfz21_4⟩ := cf5 BK361.out))
                    go_roundg k1
                    case measure => have := HK1.out; omega
                    case rel => exact ⟨(wrap64 (x5_1 + 2)), (wrap64 (x16_1 + 1)), (es), (es), H', ⟨by have := HK1.out; omega⟩, ⟨bk BK355.out⟩, ⟨bel⟩⟩
                  · rw [if_neg c16] at H
                    have c16b0 : (((rd_T71 l0_6 x16_1).f0) == a1) = false := beq_eq_false_iff_ne.mpr c16
                    have c16b1 : (((rd_T71 l0_6 x16_1).f0) != a1) = true := bne_iff_ne.mpr c16
                    by_cases c22 : ((rd_T71 l0_6 x16_1).f1) = a1
                    · rw [if_pos c22] at H
                      have c22b0 : (((rd_T71 l0_6 x16_1).f1) == a1) = true := beq_iff_eq.mpr c22
                      have c22b1 : (((rd_T71 l0_6 x16_1).f1) != a1) = false := bne_eq_false_iff_eq.mpr c22
                      clear c22
                      have H' := Aside0.mk H
                      clear H
                      have p360 : 0 ≤ (x16_1 : Int) := asm
                      have q360 : x16_1 < (l0_6.length : Int) := asm
                      obtain ⟨ad360, e360, hx360_0, hx360_1, hx360_2, hx360_3, hx360_4⟩ := at_T71 HR0_6.out x16_1 p360 q360
                      cases e360
                      replace hx360_0 := hcl HB.out hx360_0
                      replace hx360_1 := hcl HB.out hx360_1
                      replace hx360_2 := hcl HB.out hx360_2
                      replace hx360_3 := hcl HB.out hx360_3
                      replace hx360_4 := hcl HB.out hx360_4
                      replace p360 := eq_true p360
                      replace q360 := eq_true q360
                      go_wp2_with (first | ((with_reducible refine gate_dst (N := 7) rfl ?_); refine box_event ?hg (N := 7) ?hd (cs := #[.int .i64 0, .int .i64 0, .int .i64 0, .int .i64 0, .int .i64 0]) (t := 71) ?hr ?_; (case hd => rfl); (case hg => rfl); (case hr => first | (go_simp; done) | (go_simp; rfl)); intro gb361 hg w23 hbox hb; have BK361 := Aside0.mk (hbox); have GW361 := Aside0.mk ((bsz hg : w.heap.size ≤ gb361)); have GE361 := Aside0.mk ((bsz hg : w.heap.size ≤ gb361)); have NB355_361 := Aside0.mk ((nlt hg BK355.out : gb355 ≠ gb361)); have NB361_355 := Aside0.mk ((ngt hg BK355.out : gb361 ≠ gb355)); replace BK355 := Aside0.mk (bb BK355.out hb); replace HB := Aside0.mk (below_step bel hb); clear hb hbox hg; have hnb24 := NB361_355.out; have hnc24 := NB355_361.out; obtain ⟨hcz25_0, hcz25_1, hcz25_2, hcz25_3, hcz25_4, hfz25_0, hfz25_1, hfz25_2, hfz25_3, hfz25_4⟩ := cf5 BK361.out) | ((with_reducible refine gate_callee (f := 61) rfl ?_); refine goesL_ (some 21) rfl rfl Try.func61 (by kernel_rfl) rfl #[.agg #[.int .i64 ((rd_T71 l0_6 x16_1).f0), .int .i64 ((rd_T71 l0_6 x16_1).f1), .int .i64 ((rd_T71 l0_6 x16_1).f2), .int .i64 ((rd_T71 l0_6 x16_1).f3), .int .i64 ((rd_T71 l0_6 x16_1).f4)]] rfl ga ?_; (with_reducible refine (spec_IsOpen.calls ((rd_T71 l0_6 x16_1).f0) ((rd_T71 l0_6 x16_1).f1) ((rd_T71 l0_6 x16_1).f2) ((rd_T71 l0_6 x16_1).f3) ((rd_T71 l0_6 x16_1).f4) true _ A14.out).mono ?_); rintro e w26 ⟨rfl, hb⟩; refine ⟨_, rfl, ?_⟩; replace BK355 := Aside0.mk (bb BK355.out hb); replace BK361 := Aside0.mk (blk_below (g := gb361) (o := .cells #[.int .i64 ((rd_T71 l0_6 x16_1).f0), .int .i64 ((rd_T71 l0_6 x16_1).f1), .int .i64 ((rd_T71 l0_6 x16_1).f2), .int .i64 ((rd_T71 l0_6 x16_1).f3), .int .i64 ((rd_T71 l0_6 x16_1).f4)] 71 (0, 0)) (by (with_reducible repeat (first | refine blk_drewN ?_ _ | refine blk_drew ?_ | refine blk_alloc ?_ _)); refine blk_put (cs := #[.int .i64 ((rd_T71 l0_6 x16_1).f0), .int .i64 ((rd_T71 l0_6 x16_1).f1), .int .i64 ((rd_T71 l0_6 x16_1).f2), .int .i64 ((rd_T71 l0_6 x16_1).f3), .int .i64 0]) ?_ 4 _ rfl; (with_reducible repeat (first | refine blk_drewN ?_ _ | refine blk_drew ?_ | refine blk_alloc ?_ _)); refine blk_put (cs := #[.int .i64 ((rd_T71 l0_6 x16_1).f0), .int .i64 ((rd_T71 l0_6 x16_1).f1), .int .i64 ((rd_T71 l0_6 x16_1).f2), .int .i64 0, .int .i64 0]) ?_ 3 _ rfl; (with_reducible repeat (first | refine blk_drewN ?_ _ | refine blk_drew ?_ | refine blk_alloc ?_ _)); refine blk_put (cs := #[.int .i64 ((rd_T71 l0_6 x16_1).f0), .int .i64 ((rd_T71 l0_6 x16_1).f1), .int .i64 0, .int .i64 0, .int .i64 0]) ?_ 2 _ rfl; (with_reducible repeat (first | refine blk_drewN ?_ _ | refine blk_drew ?_ | refine blk_alloc ?_ _)); refine blk_put (cs := #[.int .i64 ((rd_T71 l0_6 x16_1).f0), .int .i64 0, .int .i64 0, .int .i64 0, .int .i64 0]) ?_ 1 _ rfl; (with_reducible repeat (first | refine blk_drewN ?_ _ | refine blk_drew ?_ | refine blk_alloc ?_ _)); refine blk_put (cs := #[.int .i64 0, .int .i64 0, .int .i64 0, .int .i64 0, .int .i64 0]) ?_ 0 _ rfl; (with_reducible repeat (first | refine blk_drewN ?_ _ | refine blk_drew ?_ | refine blk_alloc ?_ _)); exact BK361.out) hb); replace HB := Aside0.mk (below_step bel hb); (try clear hb); obtain ⟨hcz27_0, hcz27_1, hcz27_2, hcz27_3, hcz27_4, hfz27_0, hfz27_1, hfz27_2, hfz27_3, hfz27_4⟩ := cf5 BK361.out))
                      go_roundg k1
                      case measure => have := HK1.out; omega
                      case rel => exact ⟨(wrap64 (x5_1 + 2)), (wrap64 (x16_1 + 1)), (es), (es), H', ⟨by have := HK1.out; omega⟩, ⟨bk BK355.out⟩, ⟨bel⟩⟩
                    · rw [if_neg c22] at H
                      have c22b0 : (((rd_T71 l0_6 x16_1).f1) == a1) = false := beq_eq_false_iff_ne.mpr c22
                      have c22b1 : (((rd_T71 l0_6 x16_1).f1) != a1) = true := bne_iff_ne.mpr c22
                      have H' := Aside0.mk H
                      clear H
                      have p360 : 0 ≤ (x16_1 : Int) := asm
                      have q360 : x16_1 < (l0_6.length : Int) := asm
                      obtain ⟨ad360, e360, hx360_0, hx360_1, hx360_2, hx360_3, hx360_4⟩ := at_T71 HR0_6.out x16_1 p360 q360
                      cases e360
                      replace hx360_0 := hcl HB.out hx360_0
                      replace hx360_1 := hcl HB.out hx360_1
                      replace hx360_2 := hcl HB.out hx360_2
                      replace hx360_3 := hcl HB.out hx360_3
                      replace hx360_4 := hcl HB.out hx360_4
                      replace p360 := eq_true p360
                      replace q360 := eq_true q360
                      go_wp2_with (first | ((with_reducible refine gate_dst (N := 7) rfl ?_); refine box_event ?hg (N := 7) ?hd (cs := #[.int .i64 0, .int .i64 0, .int .i64 0, .int .i64 0, .int .i64 0]) (t := 71) ?hr ?_; (case hd => rfl); (case hg => rfl); (case hr => first | (go_simp; done) | (go_simp; rfl)); intro gb361 hg w28 hbox hb; have BK361 := Aside0.mk (hbox); have GW361 := Aside0.mk ((bsz hg : w.heap.size ≤ gb361)); have GE361 := Aside0.mk ((bsz hg : w.heap.size ≤ gb361)); have NB355_361 := Aside0.mk ((nlt hg BK355.out : gb355 ≠ gb361)); have NB361_355 := Aside0.mk ((ngt hg BK355.out : gb361 ≠ gb355)); replace BK355 := Aside0.mk (bb BK355.out hb); replace HB := Aside0.mk (below_step bel hb); clear hb hbox hg; have hnb29 := NB361_355.out; have hnc29 := NB355_361.out; obtain ⟨hcz30_0, hcz30_1, hcz30_2, hcz30_3, hcz30_4, hfz30_0, hfz30_1, hfz30_2, hfz30_3, hfz30_4⟩ := cf5 BK361.out) | ((with_reducible refine gate_callee (f := 61) rfl ?_); refine goesL_ (some 21) rfl rfl Try.func61 (by kernel_rfl) rfl #[.agg #[.int .i64 ((rd_T71 l0_6 x16_1).f0), .int .i64 ((rd_T71 l0_6 x16_1).f1), .int .i64 ((rd_T71 l0_6 x16_1).f2), .int .i64 ((rd_T71 l0_6 x16_1).f3), .int .i64 ((rd_T71 l0_6 x16_1).f4)]] rfl ga ?_; (with_reducible refine (spec_IsOpen.calls ((rd_T71 l0_6 x16_1).f0) ((rd_T71 l0_6 x16_1).f1) ((rd_T71 l0_6 x16_1).f2) ((rd_T71 l0_6 x16_1).f3) ((rd_T71 l0_6 x16_1).f4) true _ A14.out).mono ?_); rintro e w31 ⟨rfl, hb⟩; refine ⟨_, rfl, ?_⟩; replace BK355 := Aside0.mk (bb BK355.out hb); replace BK361 := Aside0.mk (blk_below (g := gb361) (o := .cells #[.int .i64 ((rd_T71 l0_6 x16_1).f0), .int .i64 ((rd_T71 l0_6 x16_1).f1), .int .i64 ((rd_T71 l0_6 x16_1).f2), .int .i64 ((rd_T71 l0_6 x16_1).f3), .int .i64 ((rd_T71 l0_6 x16_1).f4)] 71 (0, 0)) (by (with_reducible repeat (first | refine blk_drewN ?_ _ | refine blk_drew ?_ | refine blk_alloc ?_ _)); refine blk_put (cs := #[.int .i64 ((rd_T71 l0_6 x16_1).f0), .int .i64 ((rd_T71 l0_6 x16_1).f1), .int .i64 ((rd_T71 l0_6 x16_1).f2), .int .i64 ((rd_T71 l0_6 x16_1).f3), .int .i64 0]) ?_ 4 _ rfl; (with_reducible repeat (first | refine blk_drewN ?_ _ | refine blk_drew ?_ | refine blk_alloc ?_ _)); refine blk_put (cs := #[.int .i64 ((rd_T71 l0_6 x16_1).f0), .int .i64 ((rd_T71 l0_6 x16_1).f1), .int .i64 ((rd_T71 l0_6 x16_1).f2), .int .i64 0, .int .i64 0]) ?_ 3 _ rfl; (with_reducible repeat (first | refine blk_drewN ?_ _ | refine blk_drew ?_ | refine blk_alloc ?_ _)); refine blk_put (cs := #[.int .i64 ((rd_T71 l0_6 x16_1).f0), .int .i64 ((rd_T71 l0_6 x16_1).f1), .int .i64 0, .int .i64 0, .int .i64 0]) ?_ 2 _ rfl; (with_reducible repeat (first | refine blk_drewN ?_ _ | refine blk_drew ?_ | refine blk_alloc ?_ _)); refine blk_put (cs := #[.int .i64 ((rd_T71 l0_6 x16_1).f0), .int .i64 0, .int .i64 0, .int .i64 0, .int .i64 0]) ?_ 1 _ rfl; (with_reducible repeat (first | refine blk_drewN ?_ _ | refine blk_drew ?_ | refine blk_alloc ?_ _)); refine blk_put (cs := #[.int .i64 0, .int .i64 0, .int .i64 0, .int .i64 0, .int .i64 0]) ?_ 0 _ rfl; (with_reducible repeat (first | refine blk_drewN ?_ _ | refine blk_drew ?_ | refine blk_alloc ?_ _)); exact BK361.out) hb); replace HB := Aside0.mk (below_step bel hb); (try clear hb); obtain ⟨hcz32_0, hcz32_1, hcz32_2, hcz32_3, hcz32_4, hfz32_0, hfz32_1, hfz32_2, hfz32_3, hfz32_4⟩ := cf5 BK361.out))
                      go_roundg k1
                      case measure => have := HK1.out; omega
                      case rel => exact ⟨(x5_1), (wrap64 (x16_1 + 1)), (es), (es), H', ⟨by have := HK1.out; omega⟩, ⟨bk BK355.out⟩, ⟨bel⟩⟩
                · replace c15 := Bool.eq_false_iff.mpr c15
                  subst c15
                  have H1 : (spec_l18Best.l0 k1 a1 x5_1 l0_6 (l0_6.length : Int) (wrap64 (x16_1 + 1))) = some r := by rw [if_neg (show ¬ (false = true) by decide)] at H; exact H
                  clear H
                  have H := H1
                  clear H1
                  have H' := Aside0.mk H
                  clear H
                  have p360 : 0 ≤ (x16_1 : Int) := asm
                  have q360 : x16_1 < (l0_6.length : Int) := asm
                  obtain ⟨ad360, e360, hx360_0, hx360_1, hx360_2, hx360_3, hx360_4⟩ := at_T71 HR0_6.out x16_1 p360 q360
                  cases e360
                  replace hx360_0 := hcl HB.out hx360_0
                  replace hx360_1 := hcl HB.out hx360_1
                  replace hx360_2 := hcl HB.out hx360_2
                  replace hx360_3 := hcl HB.out hx360_3
                  replace hx360_4 := hcl HB.out hx360_4
                  replace p360 := eq_true p360
                  replace q360 := eq_true q360
                  go_wp2_with (first | ((with_reducible refine gate_dst (N := 7) rfl ?_); refine box_event ?hg (N := 7) ?hd (cs := #[.int .i64 0, .int .i64 0, .int .i64 0, .int .i64 0, .int .i64 0]) (t := 71) ?hr ?_; (case hd => rfl); (case hg => rfl); (case hr => first | (go_simp; done) | (go_simp; rfl)); intro gb361 hg w33 hbox hb; have BK361 := Aside0.mk (hbox); have GW361 := Aside0.mk ((bsz hg : w.heap.size ≤ gb361)); have GE361 := Aside0.mk ((bsz hg : w.heap.size ≤ gb361)); have NB355_361 := Aside0.mk ((nlt hg BK355.out : gb355 ≠ gb361)); have NB361_355 := Aside0.mk ((ngt hg BK355.out : gb361 ≠ gb355)); replace BK355 := Aside0.mk (bb BK355.out hb); replace HB := Aside0.mk (below_step bel hb); clear hb hbox hg; have hnb34 := NB361_355.out; have hnc34 := NB355_361.out; obtain ⟨hcz35_0, hcz35_1, hcz35_2, hcz35_3, hcz35_4, hfz35_0, hfz35_1, hfz35_2, hfz35_3, hfz35_4⟩ := cf5 BK361.out) | ((with_reducible refine gate_callee (f := 61) rfl ?_); refine goesL_ (some 21) rfl rfl Try.func61 (by kernel_rfl) rfl #[.agg #[.int .i64 ((rd_T71 l0_6 x16_1).f0), .int .i64 ((rd_T71 l0_6 x16_1).f1), .int .i64 ((rd_T71 l0_6 x16_1).f2), .int .i64 ((rd_T71 l0_6 x16_1).f3), .int .i64 ((rd_T71 l0_6 x16_1).f4)]] rfl ga ?_; (with_reducible refine (spec_IsOpen.calls ((rd_T71 l0_6 x16_1).f0) ((rd_T71 l0_6 x16_1).f1) ((rd_T71 l0_6 x16_1).f2) ((rd_T71 l0_6 x16_1).f3) ((rd_T71 l0_6 x16_1).f4) false _ A14.out).mono ?_); rintro e w36 ⟨rfl, hb⟩; refine ⟨_, rfl, ?_⟩; replace BK355 := Aside0.mk (bb BK355.out hb); replace BK361 := Aside0.mk (blk_below (g := gb361) (o := .cells #[.int .i64 ((rd_T71 l0_6 x16_1).f0), .int .i64 ((rd_T71 l0_6 x16_1).f1), .int .i64 ((rd_T71 l0_6 x16_1).f2), .int .i64 ((rd_T71 l0_6 x16_1).f3), .int .i64 ((rd_T71 l0_6 x16_1).f4)] 71 (0, 0)) (by (with_reducible repeat (first | refine blk_drewN ?_ _ | refine blk_drew ?_ | refine blk_alloc ?_ _)); refine blk_put (cs := #[.int .i64 ((rd_T71 l0_6 x16_1).f0), .int .i64 ((rd_T71 l0_6 x16_1).f1), .int .i64 ((rd_T71 l0_6 x16_1).f2), .int .i64 ((rd_T71 l0_6 x16_1).f3), .int .i64 0]) ?_ 4 _ rfl; (with_reducible repeat (first | refine blk_drewN ?_ _ | refine blk_drew ?_ | refine blk_alloc ?_ _)); refine blk_put (cs := #[.int .i64 ((rd_T71 l0_6 x16_1).f0), .int .i64 ((rd_T71 l0_6 x16_1).f1), .int .i64 ((rd_T71 l0_6 x16_1).f2), .int .i64 0, .int .i64 0]) ?_ 3 _ rfl; (with_reducible repeat (first | refine blk_drewN ?_ _ | refine blk_drew ?_ | refine blk_alloc ?_ _)); refine blk_put (cs := #[.int .i64 ((rd_T71 l0_6 x16_1).f0), .int .i64 ((rd_T71 l0_6 x16_1).f1), .int .i64 0, .int .i64 0, .int .i64 0]) ?_ 2 _ rfl; (with_reducible repeat (first | refine blk_drewN ?_ _ | refine blk_drew ?_ | refine blk_alloc ?_ _)); refine blk_put (cs := #[.int .i64 ((rd_T71 l0_6 x16_1).f0), .int .i64 0, .int .i64 0, .int .i64 0, .int .i64 0]) ?_ 1 _ rfl; (with_reducible repeat (first | refine blk_drewN ?_ _ | refine blk_drew ?_ | refine blk_alloc ?_ _)); refine blk_put (cs := #[.int .i64 0, .int .i64 0, .int .i64 0, .int .i64 0, .int .i64 0]) ?_ 0 _ rfl; (with_reducible repeat (first | refine blk_drewN ?_ _ | refine blk_drew ?_ | refine blk_alloc ?_ _)); exact BK361.out) hb); replace HB := Aside0.mk (below_step bel hb); (try clear hb)))
                  go_roundg k1
                  case measure => have := HK1.out; omega
                  case rel => exact ⟨(x5_1), (wrap64 (x16_1 + 1)), (es), (es), H', ⟨by have := HK1.out; omega⟩, ⟨bk BK355.out⟩, ⟨bel⟩⟩
              · rw [if_neg c13] at H
                exact absurd H (by simp)
            · rw [if_neg c12] at H
              exact absurd H (by simp)
          · rw [if_neg c11] at H
            have c11b0 : decide (x16_1 < (l0_6.length : Int)) = false := decide_eq_false c11
            clear c11
            obtain rfl := Option.some.inj H
            go_wp2
            go_ret
            exact ⟨er, bel⟩
    · rw [if_neg c5] at H
      exact absurd H (by simp)
  · rw [if_neg c4] at H
    exact absurd H (by simp)

def spec_BestPoints.f (k : Nat) (l0_0 : List (S101)) (a0_1 : Int) (a0_2 : Int) (a0_3 : Int) (l0_4 : List Int) (a0_5 : Bool) (l0_6 : List (S71)) (l0_7 : List Int) (l0_8 : List Int) (a1 : Int) : Option (Int) := (spec_l18Ok.f k l0_0 a0_1 a0_2 a0_3 l0_4 a0_5 l0_6 l0_7 l0_8 a1).bind fun t364 => (if t364 = true then ((spec_l18Best.f k l0_0 a0_1 a0_2 a0_3 l0_4 a0_5 l0_6 l0_7 l0_8 a1).bind fun t365 => (some t365)) else (some 0))
set_option maxHeartbeats 8000000 in
set_option maxRecDepth 100000 in
theorem spec_BestPoints.calls (k : Nat) (A0_0 : Option Addr) (c0_0 : Nat) (l0_0 : List (S101)) (a0_1 : Int) (a0_2 : Int) (a0_3 : Int) (A0_4 : Option Addr) (c0_4 : Nat) (l0_4 : List Int) (a0_5 : Bool) (A0_6 : Option Addr) (c0_6 : Nat) (l0_6 : List (S71)) (A0_7 : Option Addr) (c0_7 : Nat) (l0_7 : List Int) (A0_8 : Option Addr) (c0_8 : Nat) (l0_8 : List Int) (a1 : Int) (r : Int) (w : World) (hr0_0 : Kd.C k101 w A0_0 l0_0.length l0_0) (hc0_0 : l0_0.length ≤ c0_0) (hr0_4 : Kd.C (Kd.int .i64) w A0_4 l0_4.length l0_4) (hc0_4 : l0_4.length ≤ c0_4) (hr0_6 : Kd.C k71 w A0_6 l0_6.length l0_6) (hc0_6 : l0_6.length ≤ c0_6) (hr0_7 : Kd.C (Kd.int .i64) w A0_7 l0_7.length l0_7) (hc0_7 : l0_7.length ≤ c0_7) (hr0_8 : Kd.C (Kd.int .i64) w A0_8 l0_8.length l0_8) (hc0_8 : l0_8.length ≤ c0_8) (h : spec_BestPoints.f k l0_0 a0_1 a0_2 a0_3 l0_4 a0_5 l0_6 l0_7 l0_8 a1 = some r) :
    Calls Try.prog 36 #[.agg #[.slice A0_0 l0_0.length c0_0, .int .i64 a0_1, .int .i64 a0_2, .int .i64 a0_3, .slice A0_4 l0_4.length c0_4, .bool a0_5, .slice A0_6 l0_6.length c0_6, .slice A0_7 l0_7.length c0_7, .slice A0_8 l0_8.length c0_8], .int .i64 a1] w fun e w' => e = .returned (.int .i64 r) ∧ Below w.heap.size w w' := by
  have hu37 := Try.underlying37
  have HR0_0 := Aside0.mk hr0_0
  have HC0_0 := Aside0.mk hc0_0
  clear hr0_0 hc0_0
  have HR0_4 := Aside0.mk hr0_4
  have HC0_4 := Aside0.mk hc0_4
  clear hr0_4 hc0_4
  have HR0_6 := Aside0.mk hr0_6
  have HC0_6 := Aside0.mk hc0_6
  clear hr0_6 hc0_6
  have HR0_7 := Aside0.mk hr0_7
  have HC0_7 := Aside0.mk hc0_7
  clear hr0_7 hc0_7
  have HR0_8 := Aside0.mk hr0_8
  have HC0_8 := Aside0.mk hc0_8
  clear hr0_8 hc0_8
  have HB := Aside0.mk (Below.refl w.heap.size w)
  have H : ((spec_l18Ok.f k l0_0 a0_1 a0_2 a0_3 l0_4 a0_5 l0_6 l0_7 l0_8 a1).bind fun t364 => (if t364 = true then ((spec_l18Best.f k l0_0 a0_1 a0_2 a0_3 l0_4 a0_5 l0_6 l0_7 l0_8 a1).bind fun t365 => (some t365)) else (some 0))) = some r := h
  clear h
  replace H := Option.bind_eq_some_iff.mp H
  obtain ⟨t364, A30, H⟩ := H
  replace H : (if t364 = true then ((spec_l18Best.f k l0_0 a0_1 a0_2 a0_3 l0_4 a0_5 l0_6 l0_7 l0_8 a1).bind fun t365 => (some t365)) else (some 0)) = some r := H
  have A3 := Aside0.mk A30
  clear A30
  by_cases c4 : t364 = true
  · subst c4
    have H1 : ((spec_l18Best.f k l0_0 a0_1 a0_2 a0_3 l0_4 a0_5 l0_6 l0_7 l0_8 a1).bind fun t365 => (some t365)) = some r := by rw [if_pos rfl] at H; exact H
    clear H
    have H := H1
    clear H1
    replace H := Option.bind_eq_some_iff.mp H
    obtain ⟨t365, A50, H⟩ := H
    replace H : (some t365) = some r := H
    have A5 := Aside0.mk A50
    clear A50
    obtain rfl := Option.some.inj H
    go_enter Try.func36, Try.ntmps36
    go_wp2_with (first | ((with_reducible refine gate_dst (N := 2) rfl ?_); refine box_event ?hg (N := 2) ?hd (cs := #[.slice A0_0 l0_0.length c0_0, .int .i64 a0_1, .int .i64 a0_2, .int .i64 a0_3, .slice A0_4 l0_4.length c0_4, .bool a0_5, .slice A0_6 l0_6.length c0_6, .slice A0_7 l0_7.length c0_7, .slice A0_8 l0_8.length c0_8]) (t := 37) ?hr ?_; (case hd => rfl); (case hg => rfl); (case hr => first | (go_simp; done) | (go_simp; rfl)); intro gb363 hg w6 hbox hb; have BK363 := Aside0.mk (hbox); have GW363 := Aside0.mk ((bsz hg : w.heap.size ≤ gb363)); have GE363 := Aside0.mk ((bsz hg : w.heap.size ≤ gb363)); replace HB := Aside0.mk (below_step bel hb); clear hb hbox hg; obtain ⟨hcz7_0, hcz7_1, hcz7_2, hcz7_3, hcz7_4, hcz7_5, hcz7_6, hcz7_7, hcz7_8, hfz7_0, hfz7_1, hfz7_2, hfz7_3, hfz7_4, hfz7_5, hfz7_6, hfz7_7, hfz7_8⟩ := cf9 BK363.out) | ((with_reducible refine gate_callee (f := 76) rfl ?_); refine goesL_ (some 7) rfl rfl Try.func76 (by kernel_rfl) rfl #[.agg #[.slice A0_0 l0_0.length c0_0, .int .i64 a0_1, .int .i64 a0_2, .int .i64 a0_3, .slice A0_4 l0_4.length c0_4, .bool a0_5, .slice A0_6 l0_6.length c0_6, .slice A0_7 l0_7.length c0_7, .slice A0_8 l0_8.length c0_8], .int .i64 a1] rfl ga ?_; (with_reducible refine (spec_l18Ok.calls k _ _ l0_0 a0_1 a0_2 a0_3 _ _ l0_4 a0_5 _ _ l0_6 _ _ l0_7 _ _ l0_8 a1 true _ ?side1 ?side2 ?side3 ?side4 ?side5 ?side6 ?side7 ?side8 ?side9 ?side10 A3.out).mono ?_); (case side1 => exact ck (Kd.C_below HR0_0.out HB.out)); (case side2 => exact HC0_0.out); (case side3 => exact ck (Kd.C_below HR0_4.out HB.out)); (case side4 => exact HC0_4.out); (case side5 => exact ck (Kd.C_below HR0_6.out HB.out)); (case side6 => exact HC0_6.out); (case side7 => exact ck (Kd.C_below HR0_7.out HB.out)); (case side8 => exact HC0_7.out); (case side9 => exact ck (Kd.C_below HR0_8.out HB.out)); (case side10 => exact HC0_8.out); rintro e w8 ⟨rfl, hb⟩; refine ⟨_, rfl, ?_⟩; replace BK363 := Aside0.mk (bb BK363.out hb); replace HB := Aside0.mk (below_step bel hb); (try clear hb); obtain ⟨hcz9_0, hcz9_1, hcz9_2, hcz9_3, hcz9_4, hcz9_5, hcz9_6, hcz9_7, hcz9_8, hfz9_0, hfz9_1, hfz9_2, hfz9_3, hfz9_4, hfz9_5, hfz9_6, hfz9_7, hfz9_8⟩ := cf9 BK363.out) | ((with_reducible refine gate_callee (f := 77) rfl ?_); refine goesL_ (some 11) rfl rfl Try.func77 (by kernel_rfl) rfl #[.agg #[.slice A0_0 l0_0.length c0_0, .int .i64 a0_1, .int .i64 a0_2, .int .i64 a0_3, .slice A0_4 l0_4.length c0_4, .bool a0_5, .slice A0_6 l0_6.length c0_6, .slice A0_7 l0_7.length c0_7, .slice A0_8 l0_8.length c0_8], .int .i64 a1] rfl ga ?_; (with_reducible refine (spec_l18Best.calls k _ _ l0_0 a0_1 a0_2 a0_3 _ _ l0_4 a0_5 _ _ l0_6 _ _ l0_7 _ _ l0_8 a1 t365 _ ?side1 ?side2 ?side3 ?side4 ?side5 ?side6 ?side7 ?side8 ?side9 ?side10 A5.out).mono ?_); (case side1 => exact ck (Kd.C_below HR0_0.out HB.out)); (case side2 => exact HC0_0.out); (case side3 => exact ck (Kd.C_below HR0_4.out HB.out)); (case side4 => exact HC0_4.out); (case side5 => exact ck (Kd.C_below HR0_6.out HB.out)); (case side6 => exact HC0_6.out); (case side7 => exact ck (Kd.C_below HR0_7.out HB.out)); (case side8 => exact HC0_7.out); (case side9 => exact ck (Kd.C_below HR0_8.out HB.out)); (case side10 => exact HC0_8.out); rintro e w10 ⟨rfl, hb⟩; refine ⟨_, rfl, ?_⟩; replace BK363 := Aside0.mk (bb BK363.out hb); replace HB := Aside0.mk (below_step bel hb); (try clear hb)))
    go_ret
    exact ⟨er, bel⟩
  · replace c4 := Bool.eq_false_iff.mpr c4
    subst c4
    have H1 : (some 0) = some r := by rw [if_neg (show ¬ (false = true) by decide)] at H; exact H
    clear H
    have H := H1
    clear H1
    obtain rfl := Option.some.inj H
    go_enter Try.func36, Try.ntmps36
    go_wp2_with (first | ((with_reducible refine gate_dst (N := 2) rfl ?_); refine box_event ?hg (N := 2) ?hd (cs := #[.slice A0_0 l0_0.length c0_0, .int .i64 a0_1, .int .i64 a0_2, .int .i64 a0_3, .slice A0_4 l0_4.length c0_4, .bool a0_5, .slice A0_6 l0_6.length c0_6, .slice A0_7 l0_7.length c0_7, .slice A0_8 l0_8.length c0_8]) (t := 37) ?hr ?_; (case hd => rfl); (case hg => rfl); (case hr => first | (go_simp; done) | (go_simp; rfl)); intro gb363 hg w11 hbox hb; have BK363 := Aside0.mk (hbox); have GW363 := Aside0.mk ((bsz hg : w.heap.size ≤ gb363)); have GE363 := Aside0.mk ((bsz hg : w.heap.size ≤ gb363)); replace HB := Aside0.mk (below_step bel hb); clear hb hbox hg; obtain ⟨hcz12_0, hcz12_1, hcz12_2, hcz12_3, hcz12_4, hcz12_5, hcz12_6, hcz12_7, hcz12_8, hfz12_0, hfz12_1, hfz12_2, hfz12_3, hfz12_4, hfz12_5, hfz12_6, hfz12_7, hfz12_8⟩ := cf9 BK363.out) | ((with_reducible refine gate_callee (f := 76) rfl ?_); refine goesL_ (some 7) rfl rfl Try.func76 (by kernel_rfl) rfl #[.agg #[.slice A0_0 l0_0.length c0_0, .int .i64 a0_1, .int .i64 a0_2, .int .i64 a0_3, .slice A0_4 l0_4.length c0_4, .bool a0_5, .slice A0_6 l0_6.length c0_6, .slice A0_7 l0_7.length c0_7, .slice A0_8 l0_8.length c0_8], .int .i64 a1] rfl ga ?_; (with_reducible refine (spec_l18Ok.calls k _ _ l0_0 a0_1 a0_2 a0_3 _ _ l0_4 a0_5 _ _ l0_6 _ _ l0_7 _ _ l0_8 a1 false _ ?side1 ?side2 ?side3 ?side4 ?side5 ?side6 ?side7 ?side8 ?side9 ?side10 A3.out).mono ?_); (case side1 => exact ck (Kd.C_below HR0_0.out HB.out)); (case side2 => exact HC0_0.out); (case side3 => exact ck (Kd.C_below HR0_4.out HB.out)); (case side4 => exact HC0_4.out); (case side5 => exact ck (Kd.C_below HR0_6.out HB.out)); (case side6 => exact HC0_6.out); (case side7 => exact ck (Kd.C_below HR0_7.out HB.out)); (case side8 => exact HC0_7.out); (case side9 => exact ck (Kd.C_below HR0_8.out HB.out)); (case side10 => exact HC0_8.out); rintro e w13 ⟨rfl, hb⟩; refine ⟨_, rfl, ?_⟩; replace BK363 := Aside0.mk (bb BK363.out hb); replace HB := Aside0.mk (below_step bel hb); (try clear hb)))
    go_ret
    exact ⟨er, bel⟩

end Go.Proofs.Ytgalpgakdcfilaa.Q
