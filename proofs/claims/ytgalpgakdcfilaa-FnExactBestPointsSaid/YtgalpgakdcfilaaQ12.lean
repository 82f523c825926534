-- Written by a program of this session (wip/xp.py, over the kit's print) out of the translation: functions, and the walks that show them.
import Derived.Test.YtgalpgakdcfilaaQ0
import Derived.Test.YtgalpgakdcfilaaQ9
import Derived.Test.YtgalpgakdcfilaaQ11
namespace Go.Proofs.Ytgalpgakdcfilaa.Q
open Go.RowKit Go.Proofs.YtgalpgakdcfilaaW.PrintWords Go.Proofs.YtgalpgakdcfilaaW.PrintLast Go.Proofs.YtgalpgakdcfilaaW.PrintMore
attribute [local go_sem] max2_int min2_int max_two min_two max_three min_three max_four min_four   -- for this text's walks alone
set_option linter.unusedVariables false
set_option linter.unusedSimpArgs false

mutual
def spec_FieldOk.l0 : Nat → List (S101) → List (S101) → Int → Int → Option (Bool)
  | 0, _, _, _, _ => none
  | k + 1, x0, x11, x12, x13 => if x13 < x12 then (if 0 ≤ x13 then (if x13 < (x11.length : Int) then ((spec_TeamOk.f k ((rd_T101 x11 x13).f0) ((rd_T101 x11 x13).f1) ((rd_T101 x11 x13).f2)).bind fun t199 => (if t199 = true then (if x13 ≤ (x0.length : Int) then ((some (x0.take (x13 : Int).toNat : List (S101))).bind fun y200 => (spec_FieldOk.l1 k x0 x11 x12 x13 y200 (y200.length : Int) 0 ((rd_T101 x11 x13).f0) ((rd_T101 x11 x13).f1) ((rd_T101 x11 x13).f2))) else (none)) else (some false))) else (none)) else (none)) else (some true)
def spec_FieldOk.l1 : Nat → List (S101) → List (S101) → Int → Int → List (S101) → Int → Int → ByteArray → Int → Int → Option (Bool)
  | 0, _, _, _, _, _, _, _, _, _, _ => none
  | k + 1, x0, x11, x12, x13, x23, x24, x25, x199000, x199001, x199002 => if x25 < x24 then (if 0 ≤ x25 then (if x25 < (x23.length : Int) then (if ((rd_T101 x23 x25).f0).toList = x199000.toList then (some false) else (if ((rd_T101 x23 x25).f2) = x199002 then (some false) else (spec_FieldOk.l1 k x0 x11 x12 x13 x23 x24 (wrap64 (x25 + 1)) x199000 x199001 x199002))) else (none)) else (none)) else (spec_FieldOk.l0 k x0 x11 x12 (wrap64 (x13 + 1)))
end
def spec_FieldOk.f (k : Nat) (l0 : List (S101)) : Option (Bool) := (spec_l01In.f (l0.length : Int) 2 8).bind fun t196 => (if t196 = true then (spec_FieldOk.l0 k l0 l0 (l0.length : Int) 0) else (some false))
set_option maxHeartbeats 8000000 in
set_option maxRecDepth 100000 in
theorem spec_FieldOk.calls (k : Nat) (A0 : Option Addr) (c0 : Nat) (l0 : List (S101)) (r : Bool) (w : World) (hr0 : Kd.C k101 w A0 l0.length l0) (hc0 : l0.length ≤ c0) (h : spec_FieldOk.f k l0 = some r) :
    Calls Try.prog 91 #[.slice A0 l0.length c0] w fun e w' => e = .returned (.bool r) ∧ Below w.heap.size w w' := by
  have hu101 := Try.underlying101
  have HR0 := Aside0.mk hr0
  have HC0 := Aside0.mk hc0
  clear hr0 hc0
  have HB := Aside0.mk (Below.refl w.heap.size w)
  have H : ((spec_l01In.f (l0.length : Int) 2 8).bind fun t196 => (if t196 = true then (spec_FieldOk.l0 k l0 l0 (l0.length : Int) 0) else (some false))) = some r := h
  clear h
  replace H := Option.bind_eq_some_iff.mp H
  obtain ⟨t196, A20, H⟩ := H
  replace H : (if t196 = true then (spec_FieldOk.l0 k l0 l0 (l0.length : Int) 0) else (some false)) = some r := H
  have A2 := Aside0.mk A20
  clear A20
  by_cases c3 : t196 = true
  · subst c3
    have H1 : (spec_FieldOk.l0 k l0 l0 (l0.length : Int) 0) = some r := by rw [if_pos rfl] at H; exact H
    clear H
    have H := H1
    clear H1
    have H' := Aside0.mk H
    clear H
    go_enter Try.func91, Try.ntmps91
    go_wp2_with (first | ((with_reducible refine gate_callee (f := 50) rfl ?_); refine goesL_ (some 9) rfl rfl Try.func50 (by kernel_rfl) rfl #[.int .i64 (l0.length : Int), .int .i64 2, .int .i64 8] rfl ga ?_; (with_reducible refine (spec_l01In.calls (l0.length : Int) 2 8 true _ A2.out).mono ?_); rintro e w' ⟨rfl, ⟨nd, rfl⟩⟩; refine ⟨_, rfl, ?_⟩))
    go_loopg [13] k (fun kq v13 w' => ∃ (x13_1 : Int), v13 = .int .i64 x13_1 ∧ Aside0 (spec_FieldOk.l0 kq l0 l0 (l0.length : Int) x13_1 = some r) ∧ Aside0 (kq ≤ k) ∧ Aside0 (Below w.heap.size w w'))
    case atStart => exact ⟨(0), (es), H', ⟨Nat.le_refl _⟩, ⟨bel⟩⟩
    case round =>
      clear H'
      try clear p2; try clear c3
      obtain ⟨x13_1, rfl, HA, HK1, HB⟩ := hrel
      cases gk with
      | zero => exact absurd HA.out (by simp [spec_FieldOk.l0])
      | succ k1 =>
        have H := HA.out
        clear HA
        simp only [spec_FieldOk.l0] at H
        by_cases c4 : x13_1 < (l0.length : Int)
        · rw [if_pos c4] at H
          have c4b0 : decide (x13_1 < (l0.length : Int)) = true := decide_eq_true c4
          clear c4
          by_cases c5 : 0 ≤ x13_1
          · rw [if_pos c5] at H
            have c5b0 : decide (0 ≤ x13_1) = true := decide_eq_true c5
            clear c5
            by_cases c6 : x13_1 < (l0.length : Int)
            · rw [if_pos c6] at H
              have c6b0 : decide (x13_1 < (l0.length : Int)) = true := decide_eq_true c6
              clear c6
              replace H := Option.bind_eq_some_iff.mp H
              obtain ⟨t199, A70, H⟩ := H
              replace H : (if t199 = true then (if x13_1 ≤ (l0.length : Int) then ((some (l0.take (x13_1 : Int).toNat : List (S101))).bind fun y200 => (spec_FieldOk.l1 k1 l0 l0 (l0.length : Int) x13_1 y200 (y200.length : Int) 0 ((rd_T101 l0 x13_1).f0) ((rd_T101 l0 x13_1).f1) ((rd_T101 l0 x13_1).f2))) else (none)) else (some false)) = some r := H
              have A7 := Aside0.mk A70
              clear A70
              by_cases c8 : t199 = true
              · subst c8
                have H1 : (if x13_1 ≤ (l0.length : Int) then ((some (l0.take (x13_1 : Int).toNat : List (S101))).bind fun y200 => (spec_FieldOk.l1 k1 l0 l0 (l0.length : Int) x13_1 y200 (y200.length : Int) 0 ((rd_T101 l0 x13_1).f0) ((rd_T101 l0 x13_1).f1) ((rd_T101 l0 x13_1).f2))) else (none)) = some r := by rw [if_pos rfl] at H; exact H
                clear H
                have H := H1
                clear H1
                have c9b0 := eq_true (asm : 0 ≤ x13_1)
                by_cases c10 : x13_1 ≤ (l0.length : Int)
                · rw [if_pos c10] at H
                  have c10b0 := eq_true c10
                  have c10b1 : decide (x13_1 ≤ (l0.length : Int)) = true := decide_eq_true c10
                  clear c10
                  obtain ⟨y200, hy200⟩ : ∃ y_ : List (S101), y_ = (l0.take (x13_1 : Int).toNat) := ⟨_, rfl⟩
                  replace H : (spec_FieldOk.l1 k1 l0 l0 (l0.length : Int) x13_1 y200 (y200.length : Int) 0 ((rd_T101 l0 x13_1).f0) ((rd_T101 l0 x13_1).f1) ((rd_T101 l0 x13_1).f2)) = some r := by first | (rw [hy200]; with_reducible exact H) | (have H2_ := (Option.bind_some _ _).symm.trans H; rw [hy200]; with_reducible exact H2_) | (have H2_ := (Option.bind_some _ _).symm.trans H; with_reducible exact H2_) | with_reducible exact H | (rw [hy200]; exact H) | exact H
                  have Ny200 := Aside0.mk hy200
                  clear hy200
                  have H' := Aside0.mk H
                  clear H
                  have p197 : 0 ≤ (x13_1 : Int) := asm
                  have q197 : x13_1 < (l0.length : Int) := asm
                  obtain ⟨ad197, e197, hx197_0, hx197_1, hx197_2⟩ := at_T101 HR0.out x13_1 p197 q197
                  cases e197
                  replace hx197_0 := hcl HB.out hx197_0
                  replace hx197_1 := hcl HB.out hx197_1
                  replace hx197_2 := hcl HB.out hx197_2
                  replace p197 := eq_true p197
                  replace q197 := eq_true q197
                  go_wp2_with (first | ((with_reducible refine gate_dst (N := 4) rfl ?_); refine box_event ?hg (N := 4) ?hd (cs := #[.string (⟨#[]⟩ : ByteArray), .int .i64 0, .int .i64 0]) (t := 101) ?hr ?_; (case hd => rfl); (case hg => rfl); (case hr => first | (go_simp; done) | (go_simp; rfl)); intro gb198 hg w11 hbox hb; have BK198 := Aside0.mk (hbox); have GW198 := Aside0.mk ((bsz hg : w.heap.size ≤ gb198)); have GE198 := Aside0.mk ((bsz hg : w.heap.size ≤ gb198)); replace HB := Aside0.mk (below_step bel hb); clear hb hbox hg; obtain ⟨hcz12_0, hcz12_1, hcz12_2, hfz12_0, hfz12_1, hfz12_2⟩ := cf3 BK198.out) | ((with_reducible refine gate_callee (f := 117) rfl ?_); refine goesL_ (some 19) rfl rfl Try.func117 (by kernel_rfl) rfl #[.agg #[.string ((rd_T101 l0 x13_1).f0), .int .i64 ((rd_T101 l0 x13_1).f1), .int .i64 ((rd_T101 l0 x13_1).f2)]] rfl ga ?_; (with_reducible refine (spec_TeamOk.calls k1 ((rd_T101 l0 x13_1).f0) ((rd_T101 l0 x13_1).f1) ((rd_T101 l0 x13_1).f2) true _ A7.out).mono ?_); rintro e w13 ⟨rfl, hb⟩; refine ⟨_, rfl, ?_⟩; replace BK198 := Aside0.mk (blk_below (g := gb198) (o := .cells #[.string ((rd_T101 l0 x13_1).f0), .int .i64 ((rd_T101 l0 x13_1).f1), .int .i64 ((rd_T101 l0 x13_1).f2)] 101 (0, 0)) (by (with_reducible repeat (first | refine blk_drewN ?_ _ | refine blk_drew ?_ | refine blk_alloc ?_ _)); refine blk_put (cs := #[.string ((rd_T101 l0 x13_1).f0), .int .i64 ((rd_T101 l0 x13_1).f1), .int .i64 0]) ?_ 2 _ rfl; (with_reducible repeat (first | refine blk_drewN ?_ _ | refine blk_drew ?_ | refine blk_alloc ?_ _)); refine blk_put (cs := #[.string ((rd_T101 l0 x13_1).f0), .int .i64 0, .int .i64 0]) ?_ 1 _ rfl; (with_reducible repeat (first | refine blk_drewN ?_ _ | refine blk_drew ?_ | refine blk_alloc ?_ _)); refine blk_put (cs := #[.string (⟨#[]⟩ : ByteArray), .int .i64 0, .int .i64 0]) ?_ 0 _ rfl; (with_reducible repeat (first | refine blk_drewN ?_ _ | refine blk_drew ?_ | refine blk_alloc ?_ _)); exact BK198.out) hb); replace HB := Aside0.mk (below_step bel hb); (try clear hb); have q14 : (x13_1 : Int) ≤ ((l0.length : Int) : Int) := asm; obtain ⟨i014, hi014, _, hsz14, _⟩ := info_parts info101; have hroom14 : l0.length ≤ c0 := HC0.out; have hC14 : Kd.C k101 _ (some ad197) l0.length l0 := HR0.out; have hcut14 := cut_to (P := Try.prog) 33 101 .i64 Try.underlying33 hi014 (some ad197) l0.length c0 x13_1 (asm) q14 hroom14; have hr14 := Kd.C_take (m := (x13_1 : Int).toNat) hC14 (by omega); have hy14 : y200.length = (x13_1 : Int).toNat := (by rw [Ny200.out, List.length_take]; omega); rw [← Ny200.out] at hr14; rw [← hy14] at hcut14; have HR203 := Aside0.mk hr14; have HC203 := Aside0.mk (show y200.length ≤ c0 from by omega); clear hr14 hC14 hroom14 hi014 hsz14; have KY14 := Aside0.mk hy14; clear hy14; replace q14 := eq_true q14))
                  go_loopg [25] k1 (fun kq v25 w' => ∃ (x25_2 : Int), v25 = .int .i64 x25_2 ∧ Aside0 (spec_FieldOk.l1 kq l0 l0 (l0.length : Int) x13_1 y200 (y200.length : Int) x25_2 ((rd_T101 l0 x13_1).f0) ((rd_T101 l0 x13_1).f1) ((rd_T101 l0 x13_1).f2) = some r) ∧ Aside0 (kq ≤ k1) ∧ Aside0 (w'.heap[gb198]? = some (.cells #[.string ((rd_T101 l0 x13_1).f0), .int .i64 ((rd_T101 l0 x13_1).f1), .int .i64 ((rd_T101 l0 x13_1).f2)] 101 (0, 0))) ∧ Aside0 (Below w.heap.size w w'))
                  case atStart => exact ⟨(0), (es), H', ⟨Nat.le_refl _⟩, ⟨bk BK198.out⟩, ⟨bel⟩⟩
                  case round =>
                    clear H'
                    try clear c1; try clear p1; try clear q1; try clear hx1; try clear p2; try clear c3; try clear c4; try clear c4b0; try clear c5; try clear c5b0; try clear c6; try clear c6b0; try clear c8; try clear c9; try clear c9b0; try clear c10; try clear c10b0; try clear c10b1; try clear c11; try clear q14; try clear hcz12_0; try clear hcz12_1; try clear hcz12_2; try clear hfz12_0; try clear hfz12_1; try clear hfz12_2; try clear hx197_0; try clear hx197_1; try clear hx197_2; try clear p197; try clear p2; try clear q14; try clear q197
                    obtain ⟨x25_2, rfl, HA, HK2, BK198, HB⟩ := hrel
                    cases gk with
                    | zero => exact absurd HA.out (by simp [spec_FieldOk.l1])
                    | succ k2 =>
                      have H := HA.out
                      clear HA
                      simp only [spec_FieldOk.l1] at H
                      by_cases c15 : x25_2 < (y200.length : Int)
                      · rw [if_pos c15] at H
                        have c15b0 : decide (x25_2 < (y200.length : Int)) = true := decide_eq_true c15
                        clear c15
                        by_cases c16 : 0 ≤ x25_2
                        · rw [if_pos c16] at H
                          have c16b0 : decide (0 ≤ x25_2) = true := decide_eq_true c16
                          clear c16
                          by_cases c17 : x25_2 < (y200.length : Int)
                          · rw [if_pos c17] at H
                            have c17b0 : decide (x25_2 < (y200.length : Int)) = true := decide_eq_true c17
                            clear c17
                            by_cases c18 : ((rd_T101 y200 x25_2).f0).toList = ((rd_T101 l0 x13_1).f0).toList
                            · rw [if_pos c18] at H
                              have c18b0 : (((rd_T101 y200 x25_2).f0).toList == ((rd_T101 l0 x13_1).f0).toList) = true := beq_iff_eq.mpr c18
                              have c18b1 : (((rd_T101 y200 x25_2).f0).toList != ((rd_T101 l0 x13_1).f0).toList) = false := bne_eq_false_iff_eq.mpr c18
                              clear c18
                              obtain rfl := Option.some.inj H
                              have p204 : 0 ≤ (x25_2 : Int) := asm
                              have q204 : x25_2 < (y200.length : Int) := asm
                              obtain ⟨ad204, e204, hx204_0, hx204_1, hx204_2⟩ := at_T101 HR203.out x25_2 p204 q204
                              obtain rfl : ad197 = ad204 := (by injection e204)
                              replace hx204_0 := hcl HB.out hx204_0
                              replace hx204_1 := hcl HB.out hx204_1
                              replace hx204_2 := hcl HB.out hx204_2
                              replace p204 := eq_true p204
                              replace q204 := eq_true q204
                              go_wp2_with (first | ((with_reducible refine gate_dst (N := 6) rfl ?_); refine box_event ?hg (N := 6) ?hd (cs := #[.string (⟨#[]⟩ : ByteArray), .int .i64 0, .int .i64 0]) (t := 101) ?hr ?_; (case hd => rfl); (case hg => rfl); (case hr => first | (go_simp; done) | (go_simp; rfl)); intro gb205 hg w19 hbox hb; have BK205 := Aside0.mk (hbox); have GW205 := Aside0.mk ((bsz hg : w.heap.size ≤ gb205)); have GE205 := Aside0.mk ((bsz hg : w.heap.size ≤ gb205)); have NB198_205 := Aside0.mk ((nlt hg BK198.out : gb198 ≠ gb205)); have NB205_198 := Aside0.mk ((ngt hg BK198.out : gb205 ≠ gb198)); replace BK198 := Aside0.mk (bb BK198.out hb); replace HB := Aside0.mk (below_step bel hb); clear hb hbox hg; have hnb20 := NB205_198.out; have hnc20 := NB198_205.out; obtain ⟨hcz21_0, hcz21_1, hcz21_2, hfz21_0, hfz21_1, hfz21_2⟩ := cf3 BK205.out; obtain ⟨hcz22_0, hcz22_1, hcz22_2, hfz22_0, hfz22_1, hfz22_2⟩ := cf3 BK198.out))
                              go_ret
                              exact ⟨er, bel⟩
                            · rw [if_neg c18] at H
                              have c18b0 : (((rd_T101 y200 x25_2).f0).toList == ((rd_T101 l0 x13_1).f0).toList) = false := beq_eq_false_iff_ne.mpr c18
                              have c18b1 : (((rd_T101 y200 x25_2).f0).toList != ((rd_T101 l0 x13_1).f0).toList) = true := bne_iff_ne.mpr c18
                              by_cases c23 : ((rd_T101 y200 x25_2).f2) = ((rd_T101 l0 x13_1).f2)
                              · rw [if_pos c23] at H
                                have c23b0 : (((rd_T101 y200 x25_2).f2) == ((rd_T101 l0 x13_1).f2)) = true := beq_iff_eq.mpr c23
                                have c23b1 : (((rd_T101 y200 x25_2).f2) != ((rd_T101 l0 x13_1).f2)) = false := bne_eq_false_iff_eq.mpr c23
                                clear c23
                                obtain rfl := Option.some.inj H
                                have p204 : 0 ≤ (x25_2 : Int) := asm
                                have q204 : x25_2 < (y200.length : Int) := asm
                                obtain ⟨ad204, e204, hx204_0, hx204_1, hx204_2⟩ := at_T101 HR203.out x25_2 p204 q204
                                obtain rfl : ad197 = ad204 := (by injection e204)
                                replace hx204_0 := hcl HB.out hx204_0
                                replace hx204_1 := hcl HB.out hx204_1
                                replace hx204_2 := hcl HB.out hx204_2
                                replace p204 := eq_true p204
                                replace q204 := eq_true q204
                                go_wp2_with (first | ((with_reducible refine gate_dst (N := 6) rfl ?_); refine box_event ?hg (N := 6) ?hd (cs := #[.string (⟨#[]⟩ : ByteArray), .int .i64 0, .int .i64 0]) (t := 101) ?hr ?_; (case hd => rfl); (case hg => rfl); (case hr => first | (go_simp; done) | (go_simp; rfl)); intro gb205 hg w24 hbox hb; have BK205 := Aside0.mk (hbox); have GW205 := Aside0.mk ((bsz hg : w.heap.size ≤ gb205)); have GE205 := Aside0.mk ((bsz hg : w.heap.size ≤ gb205)); have NB198_205 := Aside0.mk ((nlt hg BK198.out : gb198 ≠ gb205)); have NB205_198 := Aside0.mk ((ngt hg BK198.out : gb205 ≠ gb198)); replace BK198 := Aside0.mk (bb BK198.out hb); replace HB := Aside0.mk (below_step bel hb); clear hb hbox hg; have hnb25 := NB205_198.out; have hnc25 := NB198_205.out; obtain ⟨hcz26_0, hcz26_1, hcz26_2, hfz26_0, hfz26_1, hfz26_2⟩ := cf3 BK205.out; obtain ⟨hcz27_0, hcz27_1, hcz27_2, hfz27_0, hfz27_1, hfz27_2⟩ := cf3 BK198.out))
                                go_ret
                                exact ⟨er, bel⟩
                              · rw [if_neg c23] at H
                                have c23b0 : (((rd_T101 y200 x25_2).f2) == ((rd_T101 l0 x13_1).f2)) = false := beq_eq_false_iff_ne.mpr c23
                                have c23b1 : (((rd_T101 y200 x25_2).f2) != ((rd_T101 l0 x13_1).f2)) = true := bne_iff_ne.mpr c23
                                have H' := Aside0.mk H
                                clear H
                                have p204 : 0 ≤ (x25_2 : Int) := asm
                                have q204 : x25_2 < (y200.length : Int) := asm
                                obtain ⟨ad204, e204, hx204_0, hx204_1, hx204_2⟩ := at_T101 HR203.out x25_2 p204 q204
                                obtain rfl : ad197 = ad204 := (by injection e204)
                                replace hx204_0 := hcl HB.out hx204_0
                                replace hx204_1 := hcl HB.out hx204_1
                                replace hx204_2 := hcl HB.out hx204_2
                                replace p204 := eq_true p204
                                replace q204 := eq_true q204
                                go_wp2_with (first | ((with_reducible refine gate_dst (N := 6) rfl ?_); refine box_event ?hg (N := 6) ?hd (cs := #[.string (⟨#[]⟩ : ByteArray), .int .i64 0, .int .i64 0]) (t := 101) ?hr ?_; (case hd => rfl); (case hg => rfl); (case hr => first | (go_simp; done) | (go_simp; rfl)); intro gb205 hg w28 hbox hb; have BK205 := Aside0.mk (hbox); have GW205 := Aside0.mk ((bsz hg : w.heap.size ≤ gb205)); have GE205 := Aside0.mk ((bsz hg : w.heap.size ≤ gb205)); have NB198_205 := Aside0.mk ((nlt hg BK198.out : gb198 ≠ gb205)); have NB205_198 := Aside0.mk ((ngt hg BK198.out : gb205 ≠ gb198)); replace BK198 := Aside0.mk (bb BK198.out hb); replace HB := Aside0.mk (below_step bel hb); clear hb hbox hg; have hnb29 := NB205_198.out; have hnc29 := NB198_205.out; obtain ⟨hcz30_0, hcz30_1, hcz30_2, hfz30_0, hfz30_1, hfz30_2⟩ := cf3 BK205.out; obtain ⟨hcz31_0, hcz31_1, hcz31_2, hfz31_0, hfz31_1, hfz31_2⟩ := cf3 BK198.out))
                                go_roundg k2
                                case measure => have := HK1.out; have := HK2.out; omega
                                case rel => exact ⟨(wrap64 (x25_2 + 1)), (es), H', ⟨by have := HK1.out; have := HK2.out; omega⟩, ⟨bk BK198.out⟩, ⟨bel⟩⟩
                          · rw [if_neg c17] at H
                            exact absurd H (by simp)
                        · rw [if_neg c16] at H
                          exact absurd H (by simp)
                      · rw [if_neg c15] at H
                        have c15b0 : decide (x25_2 < (y200.length : Int)) = false := decide_eq_false c15
                        clear c15
                        have H' := Aside0.mk H
                        clear H
                        go_wp2
                        go_roundg k2
                        case measure => have := HK1.out; have := HK2.out; omega
                        case rel => exact ⟨(wrap64 (x13_1 + 1)), (es), H', ⟨by have := HK1.out; have := HK2.out; omega⟩, ⟨bel⟩⟩
                · rw [if_neg c10] at H
                  exact absurd H (by simp)
              · replace c8 := Bool.eq_false_iff.mpr c8
                subst c8
                have H1 : (some false) = some r := by rw [if_neg (show ¬ (false = true) by decide)] at H; exact H
                clear H
                have H := H1
                clear H1
                obtain rfl := Option.some.inj H
                have p197 : 0 ≤ (x13_1 : Int) := asm
                have q197 : x13_1 < (l0.length : Int) := asm
                obtain ⟨ad197, e197, hx197_0, hx197_1, hx197_2⟩ := at_T101 HR0.out x13_1 p197 q197
                cases e197
                replace hx197_0 := hcl HB.out hx197_0
                replace hx197_1 := hcl HB.out hx197_1
                replace hx197_2 := hcl HB.out hx197_2
                replace p197 := eq_true p197
                replace q197 := eq_true q197
                go_wp2_with (first | ((with_reducible refine gate_dst (N := 4) rfl ?_); refine box_event ?hg (N := 4) ?hd (cs := #[.string (⟨#[]⟩ : ByteArray), .int .i64 0, .int .i64 0]) (t := 101) ?hr ?_; (case hd => rfl); (case hg => rfl); (case hr => first | (go_simp; done) | (go_simp; rfl)); intro gb198 hg w32 hbox hb; have BK198 := Aside0.mk (hbox); have GW198 := Aside0.mk ((bsz hg : w.heap.size ≤ gb198)); have GE198 := Aside0.mk ((bsz hg : w.heap.size ≤ gb198)); replace HB := Aside0.mk (below_step bel hb); clear hb hbox hg; obtain ⟨hcz33_0, hcz33_1, hcz33_2, hfz33_0, hfz33_1, hfz33_2⟩ := cf3 BK198.out) | ((with_reducible refine gate_callee (f := 117) rfl ?_); refine goesL_ (some 19) rfl rfl Try.func117 (by kernel_rfl) rfl #[.agg #[.string ((rd_T101 l0 x13_1).f0), .int .i64 ((rd_T101 l0 x13_1).f1), .int .i64 ((rd_T101 l0 x13_1).f2)]] rfl ga ?_; (with_reducible refine (spec_TeamOk.calls k1 ((rd_T101 l0 x13_1).f0) ((rd_T101 l0 x13_1).f1) ((rd_T101 l0 x13_1).f2) false _ A7.out).mono ?_); rintro e w34 ⟨rfl, hb⟩; refine ⟨_, rfl, ?_⟩; replace BK198 := Aside0.mk (blk_below (g := gb198) (o := .cells #[.string ((rd_T101 l0 x13_1).f0), .int .i64 ((rd_T101 l0 x13_1).f1), .int .i64 ((rd_T101 l0 x13_1).f2)] 101 (0, 0)) (by (with_reducible repeat (first | refine blk_drewN ?_ _ | refine blk_drew ?_ | refine blk_alloc ?_ _)); refine blk_put (cs := #[.string ((rd_T101 l0 x13_1).f0), .int .i64 ((rd_T101 l0 x13_1).f1), .int .i64 0]) ?_ 2 _ rfl; (with_reducible repeat (first | refine blk_drewN ?_ _ | refine blk_drew ?_ | refine blk_alloc ?_ _)); refine blk_put (cs := #[.string ((rd_T101 l0 x13_1).f0), .int .i64 0, .int .i64 0]) ?_ 1 _ rfl; (with_reducible repeat (first | refine blk_drewN ?_ _ | refine blk_drew ?_ | refine blk_alloc ?_ _)); refine blk_put (cs := #[.string (⟨#[]⟩ : ByteArray), .int .i64 0, .int .i64 0]) ?_ 0 _ rfl; (with_reducible repeat (first | refine blk_drewN ?_ _ | refine blk_drew ?_ | refine blk_alloc ?_ _)); exact BK198.out) hb); replace HB := Aside0.mk (below_step bel hb); (try clear hb)))
                go_ret
                exact ⟨er, bel⟩
            · rw [if_neg c6] at H
              exact absurd H (by simp)
          · rw [if_neg c5] at H
            exact absurd H (by simp)
        · rw [if_neg c4] at H
          have c4b0 : decide (x13_1 < (l0.length : Int)) = false := decide_eq_false c4
          clear c4
          obtain rfl := Option.some.inj H
          go_wp2
          go_ret
          exact ⟨er, bel⟩
  · replace c3 := Bool.eq_false_iff.mpr c3
    subst c3
    have H1 : (some false) = some r := by rw [if_neg (show ¬ (false = true) by decide)] at H; exact H
    clear H
    have H := H1
    clear H1
    obtain rfl := Option.some.inj H
    go_enter Try.func91, Try.ntmps91
    go_wp2_with (first | ((with_reducible refine gate_callee (f := 50) rfl ?_); refine goesL_ (some 9) rfl rfl Try.func50 (by kernel_rfl) rfl #[.int .i64 (l0.length : Int), .int .i64 2, .int .i64 8] rfl ga ?_; (with_reducible refine (spec_l01In.calls (l0.length : Int) 2 8 false _ A2.out).mono ?_); rintro e w' ⟨rfl, ⟨nd, rfl⟩⟩; refine ⟨_, rfl, ?_⟩))
    go_ret
    exact ⟨er, bel⟩

end Go.Proofs.Ytgalpgakdcfilaa.Q
