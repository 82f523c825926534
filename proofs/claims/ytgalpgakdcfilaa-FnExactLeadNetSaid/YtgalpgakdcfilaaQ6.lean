-- Written by a program of this session (wip/xp.py).
import Derived.Test.YtgalpgakdcfilaaQ0
import Derived.Test.YtgalpgakdcfilaaQ4
namespace Go.Proofs.Ytgalpgakdcfilaa.Q
open Go.RowKit Go.Proofs.YtgalpgakdcfilaaW.PrintWords Go.Proofs.YtgalpgakdcfilaaW.PrintLast Go.Proofs.YtgalpgakdcfilaaW.PrintMore
attribute [local go_sem] max2_int min2_int max_two min_two max_three min_three max_four min_four   -- for this text's walks alone
set_option linter.unusedVariables false
set_option linter.unusedSimpArgs false
set_option maxHeartbeats 8000000
set_option maxRecDepth 100000

def laws_eqTeamS.l0 : Nat → List (S101) → List (S101) → Int → Option (Bool)
  | 0, _, _, _ => none
  | k + 1, x0, x1, x5 => if x5 < (x0.length : Int) then (if 0 ≤ x5 then (if x5 < (x1.length : Int) then ((laws_eqTeam.f ((rd_T101 x0 x5).f0) ((rd_T101 x0 x5).f1) ((rd_T101 x0 x5).f2) ((rd_T101 x1 x5).f0) ((rd_T101 x1 x5).f1) ((rd_T101 x1 x5).f2)).bind fun t175 => (if t175 = true then (laws_eqTeamS.l0 k x0 x1 (wrap64 (x5 + 1))) else (some false))) else (none)) else (none)) else (some true)
def laws_eqTeamS.f (k : Nat) (l0 : List (S101)) (l1 : List (S101)) : Option (Bool) := if (l0.length : Int) = (l1.length : Int) then (laws_eqTeamS.l0 k l0 l1 0) else (some false)
def laws_eqTeamS.T6 : Bool × List (List Nat × List Nat) := (true, [([], []), ([], []), ([0, 1], [0, 1]), ([2], [2]), ([], []), ([], []), ([4, 5], [4, 5]), ([6], [6]), ([3, 7], [3, 7]), ([8], [8])])
def laws_eqTeamS.B6 : List Nat := [0, 0, 3, 7, 0, 0, 48, 112, 255, 511]
theorem laws_eqTeamS.tab6 : rtab .any (opsOf Try.f57 6) = laws_eqTeamS.T6 := by kernel_rfl
theorem laws_eqTeamS.bits6 : waitsOk laws_eqTeamS.T6.2 laws_eqTeamS.B6 = true := by kernel_rfl
theorem laws_eqTeamS.calls (k : Nat) (A0 : Option Addr) (c0 : Nat) (l0 : List (S101)) (A1 : Option Addr) (c1 : Nat) (l1 : List (S101)) (r : Bool) (w : World) (hr0 : Kd.C k101 w A0 l0.length l0) (hc0 : l0.length ≤ c0) (hr1 : Kd.C k101 w A1 l1.length l1) (hc1 : l1.length ≤ c1) (h : laws_eqTeamS.f k l0 l1 = some r) : Calls Try.prog 57 #[.slice A0 l0.length c0, .slice A1 l1.length c1] w fun e w' => e = .returned (.bool r) ∧ Below w.heap.size w w' := by
 have hu101 := Try.underlying101
 have HR0 := am hr0
 have HC0 := am hc0
 clear hr0 hc0
 have HR1 := am hr1
 have HC1 := am hc1
 clear hr1 hc1
 have HB := am (Below.refl w.heap.size w)
 have H : (if (l0.length : Int) = (l1.length : Int) then (laws_eqTeamS.l0 k l0 l1 0) else (some false)) = some r := h
 clear h
 by_cases c3 : (l0.length : Int) = (l1.length : Int)
 ·rw [if_pos c3] at H
  have c3b0 : ((l0.length : Int) == (l1.length : Int)) = true := beq_iff_eq.mpr c3
  have c3b1 : ((l0.length : Int) != (l1.length : Int)) = false := bne_eq_false_iff_eq.mpr c3
  have c3b2 : (l0.length == l1.length) = true := by first | simpa using c3 | (simp at c3 ⊢; omega)
  clear c3
  have H' := am H
  clear H
  go_enter Try.func57, Try.ntmps57
  go_wp2
  go_loopg [5] k (fun kq v5 w' => ∃ (x5_1 : Int), v5 = .int .i64 x5_1 ∧ Aside0 (laws_eqTeamS.l0 kq l0 l1 x5_1 = some r) ∧ Aside0 (kq ≤ k) ∧ Aside0 (Below w.heap.size w w'))
  case atStart => exact ⟨(0), (es), H', ⟨Nat.le_refl _⟩, ⟨bel⟩⟩
  case round =>
   clear H'
   try clear c1; try clear c3; try clear c3b0; try clear c3b1; try clear c3b2
   obtain ⟨x5_1, rfl, HA, HK1, HB⟩ := hrel
   cases gk with
   | zero => exact absurd HA.out (by simp [laws_eqTeamS.l0])
   | succ k1 =>
    have H := HA.out
    clear HA
    simp only [laws_eqTeamS.l0] at H
    replace H := i1 H; obtain ⟨c4b0, H⟩ | ⟨c4b0, H⟩ := H
    ·replace H := i0 H; obtain ⟨c5b0, H⟩ := H
     replace H := i0 H; obtain ⟨c6b0, H⟩ := H
     replace H := bm H; obtain ⟨t175, A7, H⟩ := H
     replace H := ib H; obtain ⟨rfl, H⟩ | ⟨rfl, H⟩ := H
     ·have H' := am H
      clear H
      try go_wp2
      replace HB := am (below_drew1 HB.out)
      have p173 : 0 ≤ (x5_1 : Int) := asm
      have q173 : x5_1 < (l0.length : Int) := asm
      obtain ⟨ad173, e173, hx173_0, hx173_1, hx173_2⟩ := at_T101 HR0.out x5_1 p173 q173
      have hw173_2 := hx173_2
      have hw173_1 := hx173_1
      have hw173_0 := hx173_0
      cases e173
      replace hx173_0 := hcl HB.out hx173_0
      replace hx173_1 := hcl HB.out hx173_1
      replace hx173_2 := hcl HB.out hx173_2
      replace p173 := eq_true p173
      replace q173 := eq_true q173
      have p174 : 0 ≤ (x5_1 : Int) := asm
      have q174 : x5_1 < (l1.length : Int) := asm
      obtain ⟨ad174, e174, hx174_0, hx174_1, hx174_2⟩ := at_T101 HR1.out x5_1 p174 q174
      have hw174_2 := hx174_2
      have hw174_1 := hx174_1
      have hw174_0 := hx174_0
      cases e174
      replace hx174_0 := hcl HB.out hx174_0
      replace hx174_1 := hcl HB.out hx174_1
      replace hx174_2 := hcl HB.out hx174_2
      replace p174 := eq_true p174
      replace q174 := eq_true q174
      refine start_ (n := 10) (S := fun w' => w'.cell? (ad173.add ((x5_1).toNat * 3)) = some (.string ((rd_T101 l0 x5_1).f0)) ∧ w'.cell? ⟨(ad173.add ((x5_1).toNat * 3)).block, (ad173.add ((x5_1).toNat * 3)).off + 1, none⟩ = some (.int .i64 ((rd_T101 l0 x5_1).f1)) ∧ w'.cell? ⟨(ad173.add ((x5_1).toNat * 3)).block, (ad173.add ((x5_1).toNat * 3)).off + 2, none⟩ = some (.int .i64 ((rd_T101 l0 x5_1).f2)) ∧ w'.cell? (ad174.add ((x5_1).toNat * 3)) = some (.string ((rd_T101 l1 x5_1).f0)) ∧ w'.cell? ⟨(ad174.add ((x5_1).toNat * 3)).block, (ad174.add ((x5_1).toNat * 3)).off + 1, none⟩ = some (.int .i64 ((rd_T101 l1 x5_1).f1)) ∧ w'.cell? ⟨(ad174.add ((x5_1).toNat * 3)).block, (ad174.add ((x5_1).toNat * 3)).off + 2, none⟩ = some (.int .i64 ((rd_T101 l1 x5_1).f2))) (ds := []) (lb 10 0) (by kernel_rfl) rfl rfl ⟨((HB.out.cell (World.block_lt_of_cell? w _ hw173_0)).trans hw173_0), ((HB.out.cell (World.block_lt_of_cell? w _ hw173_1)).trans hw173_1), ((HB.out.cell (World.block_lt_of_cell? w _ hw173_2)).trans hw173_2), ((HB.out.cell (World.block_lt_of_cell? w _ hw174_0)).trans hw174_0), ((HB.out.cell (World.block_lt_of_cell? w _ hw174_1)).trans hw174_1), ((HB.out.cell (World.block_lt_of_cell? w _ hw174_2)).trans hw174_2)⟩ (fun hHeld => ?_); refine with_tabW laws_eqTeamS.tab6 laws_eqTeamS.bits6 (fun HT_ HW_ => ?_)
      generalize wr.drew = w9 at HB hx173_0 hx173_1 hx173_2 hx174_0 hx174_1 hx174_2 hHeld ⊢
      refine pu HT_ 0 17 (lb 10 1) ?_
      refine pu HT_ 1 18 (lb 10 3) ?_
      refine pu HT_ 2 19 (lb 10 7) ?_
      refine pu HT_ 4 21 (lb 10 23) ?_
      refine pu HT_ 5 22 (lb 10 55) ?_
      refine pu HT_ 6 23 (lb 10 119) ?_
      refine tk HT_ HW_ hHeld 3 20 (lb 10 127) ?_
      refine tk HT_ HW_ hHeld 7 24 (lb 10 255) ?_
      refine on HT_ 8 25 (lb 10 511) fun K hK => ?_
      refine goes_ Try.func100 (by kernel_rfl) rfl #[.agg #[.string ((rd_T101 l0 x5_1).f0), .int .i64 ((rd_T101 l0 x5_1).f1), .int .i64 ((rd_T101 l0 x5_1).f2)], .agg #[.string ((rd_T101 l1 x5_1).f0), .int .i64 ((rd_T101 l1 x5_1).f1), .int .i64 ((rd_T101 l1 x5_1).f2)]] (by rfl) rfl rfl ga ?_
      with_reducible refine (laws_eqTeam.calls ((rd_T101 l0 x5_1).f0) ((rd_T101 l0 x5_1).f1) ((rd_T101 l0 x5_1).f2) ((rd_T101 l1 x5_1).f0) ((rd_T101 l1 x5_1).f1) ((rd_T101 l1 x5_1).f2) true _ A7.out).mono ?_
      rintro e w10 ⟨rfl, hb⟩
      refine ⟨_, rfl, ?_⟩
      replace HB := b2 hb
      (try clear hb)
      refine hK.out _ _ ⟨((HB.out.cell (World.block_lt_of_cell? w _ hw173_0)).trans hw173_0), ((HB.out.cell (World.block_lt_of_cell? w _ hw173_1)).trans hw173_1), ((HB.out.cell (World.block_lt_of_cell? w _ hw173_2)).trans hw173_2), ((HB.out.cell (World.block_lt_of_cell? w _ hw174_0)).trans hw174_0), ((HB.out.cell (World.block_lt_of_cell? w _ hw174_1)).trans hw174_1), ((HB.out.cell (World.block_lt_of_cell? w _ hw174_2)).trans hw174_2)⟩ (fun hHeld => ?_)
      clear hK K
      refine nm 25 ?_
      refine pu HT_ 9 26 (lb 10 1023) ?_
      refine done_ (done_of HT_.out (by kernel_rfl)) ?_
      try go_wp2
      go_roundg k1
      case measure => have := HK1.out; omega
      case rel => exact ⟨(wrap64 (x5_1 + 1)), (es), H', ⟨by have := HK1.out; omega⟩, ⟨bel⟩⟩
     ·obtain rfl := Option.some.inj H
      try go_wp2
      replace HB := am (below_drew1 HB.out)
      have p173 : 0 ≤ (x5_1 : Int) := asm
      have q173 : x5_1 < (l0.length : Int) := asm
      obtain ⟨ad173, e173, hx173_0, hx173_1, hx173_2⟩ := at_T101 HR0.out x5_1 p173 q173
      have hw173_2 := hx173_2
      have hw173_1 := hx173_1
      have hw173_0 := hx173_0
      cases e173
      replace hx173_0 := hcl HB.out hx173_0
      replace hx173_1 := hcl HB.out hx173_1
      replace hx173_2 := hcl HB.out hx173_2
      replace p173 := eq_true p173
      replace q173 := eq_true q173
      have p174 : 0 ≤ (x5_1 : Int) := asm
      have q174 : x5_1 < (l1.length : Int) := asm
      obtain ⟨ad174, e174, hx174_0, hx174_1, hx174_2⟩ := at_T101 HR1.out x5_1 p174 q174
      have hw174_2 := hx174_2
      have hw174_1 := hx174_1
      have hw174_0 := hx174_0
      cases e174
      replace hx174_0 := hcl HB.out hx174_0
      replace hx174_1 := hcl HB.out hx174_1
      replace hx174_2 := hcl HB.out hx174_2
      replace p174 := eq_true p174
      replace q174 := eq_true q174
      refine start_ (n := 10) (S := fun w' => w'.cell? (ad173.add ((x5_1).toNat * 3)) = some (.string ((rd_T101 l0 x5_1).f0)) ∧ w'.cell? ⟨(ad173.add ((x5_1).toNat * 3)).block, (ad173.add ((x5_1).toNat * 3)).off + 1, none⟩ = some (.int .i64 ((rd_T101 l0 x5_1).f1)) ∧ w'.cell? ⟨(ad173.add ((x5_1).toNat * 3)).block, (ad173.add ((x5_1).toNat * 3)).off + 2, none⟩ = some (.int .i64 ((rd_T101 l0 x5_1).f2)) ∧ w'.cell? (ad174.add ((x5_1).toNat * 3)) = some (.string ((rd_T101 l1 x5_1).f0)) ∧ w'.cell? ⟨(ad174.add ((x5_1).toNat * 3)).block, (ad174.add ((x5_1).toNat * 3)).off + 1, none⟩ = some (.int .i64 ((rd_T101 l1 x5_1).f1)) ∧ w'.cell? ⟨(ad174.add ((x5_1).toNat * 3)).block, (ad174.add ((x5_1).toNat * 3)).off + 2, none⟩ = some (.int .i64 ((rd_T101 l1 x5_1).f2))) (ds := []) (lb 10 0) (by kernel_rfl) rfl rfl ⟨((HB.out.cell (World.block_lt_of_cell? w _ hw173_0)).trans hw173_0), ((HB.out.cell (World.block_lt_of_cell? w _ hw173_1)).trans hw173_1), ((HB.out.cell (World.block_lt_of_cell? w _ hw173_2)).trans hw173_2), ((HB.out.cell (World.block_lt_of_cell? w _ hw174_0)).trans hw174_0), ((HB.out.cell (World.block_lt_of_cell? w _ hw174_1)).trans hw174_1), ((HB.out.cell (World.block_lt_of_cell? w _ hw174_2)).trans hw174_2)⟩ (fun hHeld => ?_); refine with_tabW laws_eqTeamS.tab6 laws_eqTeamS.bits6 (fun HT_ HW_ => ?_)
      generalize wr.drew = w11 at HB hx173_0 hx173_1 hx173_2 hx174_0 hx174_1 hx174_2 hHeld ⊢
      refine pu HT_ 0 17 (lb 10 1) ?_
      refine pu HT_ 1 18 (lb 10 3) ?_
      refine pu HT_ 2 19 (lb 10 7) ?_
      refine pu HT_ 4 21 (lb 10 23) ?_
      refine pu HT_ 5 22 (lb 10 55) ?_
      refine pu HT_ 6 23 (lb 10 119) ?_
      refine tk HT_ HW_ hHeld 3 20 (lb 10 127) ?_
      refine tk HT_ HW_ hHeld 7 24 (lb 10 255) ?_
      refine on HT_ 8 25 (lb 10 511) fun K hK => ?_
      refine goes_ Try.func100 (by kernel_rfl) rfl #[.agg #[.string ((rd_T101 l0 x5_1).f0), .int .i64 ((rd_T101 l0 x5_1).f1), .int .i64 ((rd_T101 l0 x5_1).f2)], .agg #[.string ((rd_T101 l1 x5_1).f0), .int .i64 ((rd_T101 l1 x5_1).f1), .int .i64 ((rd_T101 l1 x5_1).f2)]] (by rfl) rfl rfl ga ?_
      with_reducible refine (laws_eqTeam.calls ((rd_T101 l0 x5_1).f0) ((rd_T101 l0 x5_1).f1) ((rd_T101 l0 x5_1).f2) ((rd_T101 l1 x5_1).f0) ((rd_T101 l1 x5_1).f1) ((rd_T101 l1 x5_1).f2) false _ A7.out).mono ?_
      rintro e w12 ⟨rfl, hb⟩
      refine ⟨_, rfl, ?_⟩
      replace HB := b2 hb
      (try clear hb)
      refine hK.out _ _ ⟨((HB.out.cell (World.block_lt_of_cell? w _ hw173_0)).trans hw173_0), ((HB.out.cell (World.block_lt_of_cell? w _ hw173_1)).trans hw173_1), ((HB.out.cell (World.block_lt_of_cell? w _ hw173_2)).trans hw173_2), ((HB.out.cell (World.block_lt_of_cell? w _ hw174_0)).trans hw174_0), ((HB.out.cell (World.block_lt_of_cell? w _ hw174_1)).trans hw174_1), ((HB.out.cell (World.block_lt_of_cell? w _ hw174_2)).trans hw174_2)⟩ (fun hHeld => ?_)
      clear hK K
      refine nm 25 ?_
      refine pu HT_ 9 26 (lb 10 1023) ?_
      refine done_ (done_of HT_.out (by kernel_rfl)) ?_
      try go_wp2
      go_ret
      exact ⟨er, bel⟩
    ·obtain rfl := Option.some.inj H
     go_wp2
     go_ret
     exact ⟨er, bel⟩
 ·rw [if_neg c3] at H
  have c3b0 : ((l0.length : Int) == (l1.length : Int)) = false := beq_eq_false_iff_ne.mpr c3
  have c3b1 : ((l0.length : Int) != (l1.length : Int)) = true := bne_iff_ne.mpr c3
  have c3b2 : (l0.length == l1.length) = false := by first | simpa using c3 | (simp at c3 ⊢; omega)
  obtain rfl := Option.some.inj H
  go_enter Try.func57, Try.ntmps57
  go_wp2
  go_ret
  exact ⟨er, bel⟩
def laws_eqRules.f (k : Nat) (a0_0 : Int) (a0_1 : Int) (a0_2 : Int) (l0_3 : List Int) (a0_4 : Bool) (a1_0 : Int) (a1_1 : Int) (a1_2 : Int) (l1_3 : List Int) (a1_4 : Bool) : Option (Bool) := if a0_0 = a1_0 then (if a0_1 = a1_1 then (if a0_2 = a1_2 then ((laws_eqIntS.f k l0_3 l1_3).bind fun t178 => (if t178 = true then (if (a0_4 != a1_4) = true then (some false) else (some true)) else (some false))) else (some false)) else (some false)) else (some false)
theorem laws_eqRules.calls (k : Nat) (a0_0 : Int) (a0_1 : Int) (a0_2 : Int) (A0_3 : Option Addr) (c0_3 : Nat) (l0_3 : List Int) (a0_4 : Bool) (a1_0 : Int) (a1_1 : Int) (a1_2 : Int) (A1_3 : Option Addr) (c1_3 : Nat) (l1_3 : List Int) (a1_4 : Bool) (r : Bool) (w : World) (hr0_3 : Kd.C (Kd.int .i64) w A0_3 l0_3.length l0_3) (hc0_3 : l0_3.length ≤ c0_3) (hr1_3 : Kd.C (Kd.int .i64) w A1_3 l1_3.length l1_3) (hc1_3 : l1_3.length ≤ c1_3) (h : laws_eqRules.f k a0_0 a0_1 a0_2 l0_3 a0_4 a1_0 a1_1 a1_2 l1_3 a1_4 = some r) : Calls Try.prog 58 #[.agg #[.int .i64 a0_0, .int .i64 a0_1, .int .i64 a0_2, .slice A0_3 l0_3.length c0_3, .bool a0_4], .agg #[.int .i64 a1_0, .int .i64 a1_1, .int .i64 a1_2, .slice A1_3 l1_3.length c1_3, .bool a1_4]] w fun e w' => e = .returned (.bool r) ∧ Below w.heap.size w w' := by
 have hu34 := Try.underlying34
 have HR0_3 := am hr0_3
 have HC0_3 := am hc0_3
 clear hr0_3 hc0_3
 have HR1_3 := am hr1_3
 have HC1_3 := am hc1_3
 clear hr1_3 hc1_3
 have HB := am (Below.refl w.heap.size w)
 have H : (if a0_0 = a1_0 then (if a0_1 = a1_1 then (if a0_2 = a1_2 then ((laws_eqIntS.f k l0_3 l1_3).bind fun t178 => (if t178 = true then (if (a0_4 != a1_4) = true then (some false) else (some true)) else (some false))) else (some false)) else (some false)) else (some false)) = some r := h
 clear h
 replace H := ie H; obtain ⟨c3b0, c3b1, H⟩ | ⟨⟨c3, c3b0, c3b1⟩, H⟩ := H
 ·replace H := ie H; obtain ⟨c4b0, c4b1, H⟩ | ⟨⟨c4, c4b0, c4b1⟩, H⟩ := H
  ·replace H := ie H; obtain ⟨c5b0, c5b1, H⟩ | ⟨⟨c5, c5b0, c5b1⟩, H⟩ := H
   ·replace H := bm H; obtain ⟨t178, A6, H⟩ := H
    replace H := ib H; obtain ⟨rfl, H⟩ | ⟨rfl, H⟩ := H
    ·by_cases c8 : (a0_4 != a1_4) = true
     ·rw [if_pos c8] at H
      have c8b0 : (a0_4 != a1_4) = true := c8
      (try (have c8b1 : decide (a0_4 = a1_4) = false := by simpa using c8))
      (try (have c8b2 : (a0_4 == a1_4) = false := by simpa using c8))
      (try (have c8b3 : ¬ (a0_4 = a1_4) := by simpa using c8))
      clear c8
      obtain rfl := Option.some.inj H
      go_enter Try.func58, Try.ntmps58
      go_wp2_with (first | ((with_reducible refine gd 2 ?_); refine bx w 2 #[.int .i64 a0_0, .int .i64 a0_1, .int .i64 a0_2, .slice A0_3 l0_3.length c0_3, .bool a0_4] 34 ?_; clear HB; intro gb176 w9 BK176 GE176 HB) | ((with_reducible refine gd 3 ?_); refine by_ w 3 #[.int .i64 a1_0, .int .i64 a1_1, .int .i64 a1_2, .slice A1_3 l1_3.length c1_3, .bool a1_4] 34 ?_; clear HB; intro gb177 hg w10 BK177 GE177 hb HB; have NB176_177 := am ((nlt hg BK176.out : gb176 ≠ gb177)); have NB177_176 := am ((ngt hg BK176.out : gb177 ≠ gb176)); replace BK176 := b1 BK176 hb; clear hb hg; have hnb11 := NB176_177.out; have hnc11 := NB177_176.out; obtain ⟨_, _, _, _, _, _, _, _, _, _⟩ := cf5 BK176.out; obtain ⟨_, _, _, _, _, _, _, _, _, _⟩ := cf5 BK177.out) | ((with_reducible refine gc 26 ?_); refine gl1 24 Try.func26 (laws_eqIntS.calls k _ _ l0_3 _ _ l1_3 true _ (cb HR0_3 HB) HC0_3.out (cb HR1_3 HB) HC1_3.out A6.out) ?_; intro nd))
      go_ret
      exact ⟨er, bel⟩
     ·rw [if_neg c8] at H
      have c8b0 : (a0_4 != a1_4) = false := by simpa using c8
      (try (have c8b1 : decide (a0_4 = a1_4) = true := by simpa using c8))
      (try (have c8b2 : (a0_4 == a1_4) = true := by simpa using c8))
      clear c8
      obtain rfl := Option.some.inj H
      go_enter Try.func58, Try.ntmps58
      go_wp2_with (first | ((with_reducible refine gd 2 ?_); refine bx w 2 #[.int .i64 a0_0, .int .i64 a0_1, .int .i64 a0_2, .slice A0_3 l0_3.length c0_3, .bool a0_4] 34 ?_; clear HB; intro gb176 w14 BK176 GE176 HB) | ((with_reducible refine gd 3 ?_); refine by_ w 3 #[.int .i64 a1_0, .int .i64 a1_1, .int .i64 a1_2, .slice A1_3 l1_3.length c1_3, .bool a1_4] 34 ?_; clear HB; intro gb177 hg w15 BK177 GE177 hb HB; have NB176_177 := am ((nlt hg BK176.out : gb176 ≠ gb177)); have NB177_176 := am ((ngt hg BK176.out : gb177 ≠ gb176)); replace BK176 := b1 BK176 hb; clear hb hg; have hnb16 := NB176_177.out; have hnc16 := NB177_176.out; obtain ⟨_, _, _, _, _, _, _, _, _, _⟩ := cf5 BK176.out; obtain ⟨_, _, _, _, _, _, _, _, _, _⟩ := cf5 BK177.out) | ((with_reducible refine gc 26 ?_); refine gl1 24 Try.func26 (laws_eqIntS.calls k _ _ l0_3 _ _ l1_3 true _ (cb HR0_3 HB) HC0_3.out (cb HR1_3 HB) HC1_3.out A6.out) ?_; intro nd))
      go_ret
      exact ⟨er, bel⟩
    ·obtain rfl := Option.some.inj H
     go_enter Try.func58, Try.ntmps58
     go_wp2_with (first | ((with_reducible refine gd 2 ?_); refine bx w 2 #[.int .i64 a0_0, .int .i64 a0_1, .int .i64 a0_2, .slice A0_3 l0_3.length c0_3, .bool a0_4] 34 ?_; clear HB; intro gb176 w19 BK176 GE176 HB) | ((with_reducible refine gd 3 ?_); refine by_ w 3 #[.int .i64 a1_0, .int .i64 a1_1, .int .i64 a1_2, .slice A1_3 l1_3.length c1_3, .bool a1_4] 34 ?_; clear HB; intro gb177 hg w20 BK177 GE177 hb HB; have NB176_177 := am ((nlt hg BK176.out : gb176 ≠ gb177)); have NB177_176 := am ((ngt hg BK176.out : gb177 ≠ gb176)); replace BK176 := b1 BK176 hb; clear hb hg; have hnb21 := NB176_177.out; have hnc21 := NB177_176.out; obtain ⟨_, _, _, _, _, _, _, _, _, _⟩ := cf5 BK176.out; obtain ⟨_, _, _, _, _, _, _, _, _, _⟩ := cf5 BK177.out) | ((with_reducible refine gc 26 ?_); refine gl1 24 Try.func26 (laws_eqIntS.calls k _ _ l0_3 _ _ l1_3 false _ (cb HR0_3 HB) HC0_3.out (cb HR1_3 HB) HC1_3.out A6.out) ?_; intro nd))
     go_ret
     exact ⟨er, bel⟩
   ·obtain rfl := Option.some.inj H
    go_enter Try.func58, Try.ntmps58
    go_wp2_with (first | ((with_reducible refine gd 2 ?_); refine bx w 2 #[.int .i64 a0_0, .int .i64 a0_1, .int .i64 a0_2, .slice A0_3 l0_3.length c0_3, .bool a0_4] 34 ?_; clear HB; intro gb176 w24 BK176 GE176 HB) | ((with_reducible refine gd 3 ?_); refine by_ w 3 #[.int .i64 a1_0, .int .i64 a1_1, .int .i64 a1_2, .slice A1_3 l1_3.length c1_3, .bool a1_4] 34 ?_; clear HB; intro gb177 hg w25 BK177 GE177 hb HB; have NB176_177 := am ((nlt hg BK176.out : gb176 ≠ gb177)); have NB177_176 := am ((ngt hg BK176.out : gb177 ≠ gb176)); replace BK176 := b1 BK176 hb; clear hb hg; have hnb26 := NB176_177.out; have hnc26 := NB177_176.out; obtain ⟨_, _, _, _, _, _, _, _, _, _⟩ := cf5 BK176.out; obtain ⟨_, _, _, _, _, _, _, _, _, _⟩ := cf5 BK177.out))
    go_ret
    exact ⟨er, bel⟩
  ·obtain rfl := Option.some.inj H
   go_enter Try.func58, Try.ntmps58
   go_wp2_with (first | ((with_reducible refine gd 2 ?_); refine bx w 2 #[.int .i64 a0_0, .int .i64 a0_1, .int .i64 a0_2, .slice A0_3 l0_3.length c0_3, .bool a0_4] 34 ?_; clear HB; intro gb176 w29 BK176 GE176 HB) | ((with_reducible refine gd 3 ?_); refine by_ w 3 #[.int .i64 a1_0, .int .i64 a1_1, .int .i64 a1_2, .slice A1_3 l1_3.length c1_3, .bool a1_4] 34 ?_; clear HB; intro gb177 hg w30 BK177 GE177 hb HB; have NB176_177 := am ((nlt hg BK176.out : gb176 ≠ gb177)); have NB177_176 := am ((ngt hg BK176.out : gb177 ≠ gb176)); replace BK176 := b1 BK176 hb; clear hb hg; have hnb31 := NB176_177.out; have hnc31 := NB177_176.out; obtain ⟨_, _, _, _, _, _, _, _, _, _⟩ := cf5 BK176.out; obtain ⟨_, _, _, _, _, _, _, _, _, _⟩ := cf5 BK177.out))
   go_ret
   exact ⟨er, bel⟩
 ·obtain rfl := Option.some.inj H
  go_enter Try.func58, Try.ntmps58
  go_wp2_with (first | ((with_reducible refine gd 2 ?_); refine bx w 2 #[.int .i64 a0_0, .int .i64 a0_1, .int .i64 a0_2, .slice A0_3 l0_3.length c0_3, .bool a0_4] 34 ?_; clear HB; intro gb176 w34 BK176 GE176 HB) | ((with_reducible refine gd 3 ?_); refine by_ w 3 #[.int .i64 a1_0, .int .i64 a1_1, .int .i64 a1_2, .slice A1_3 l1_3.length c1_3, .bool a1_4] 34 ?_; clear HB; intro gb177 hg w35 BK177 GE177 hb HB; have NB176_177 := am ((nlt hg BK176.out : gb176 ≠ gb177)); have NB177_176 := am ((ngt hg BK176.out : gb177 ≠ gb176)); replace BK176 := b1 BK176 hb; clear hb hg; have hnb36 := NB176_177.out; have hnc36 := NB177_176.out; obtain ⟨_, _, _, _, _, _, _, _, _, _⟩ := cf5 BK176.out; obtain ⟨_, _, _, _, _, _, _, _, _, _⟩ := cf5 BK177.out))
  go_ret
  exact ⟨er, bel⟩
def laws_eqGame.f (a0_0 : Int) (a0_1 : Int) (a0_2 : Int) (a0_3 : Int) (a0_4 : Int) (a1_0 : Int) (a1_1 : Int) (a1_2 : Int) (a1_3 : Int) (a1_4 : Int) : Option (Bool) := if a0_0 = a1_0 then (if a0_1 = a1_1 then (if a0_2 = a1_2 then (if a0_3 = a1_3 then (if a0_4 = a1_4 then (some true) else (some false)) else (some false)) else (some false)) else (some false)) else (some false)
theorem laws_eqGame.calls (a0_0 : Int) (a0_1 : Int) (a0_2 : Int) (a0_3 : Int) (a0_4 : Int) (a1_0 : Int) (a1_1 : Int) (a1_2 : Int) (a1_3 : Int) (a1_4 : Int) (r : Bool) (w : World) (h : laws_eqGame.f a0_0 a0_1 a0_2 a0_3 a0_4 a1_0 a1_1 a1_2 a1_3 a1_4 = some r) : Calls Try.prog 101 #[.agg #[.int .i64 a0_0, .int .i64 a0_1, .int .i64 a0_2, .int .i64 a0_3, .int .i64 a0_4], .agg #[.int .i64 a1_0, .int .i64 a1_1, .int .i64 a1_2, .int .i64 a1_3, .int .i64 a1_4]] w fun e w' => e = .returned (.bool r) ∧ Below w.heap.size w w' := by
 have hu71 := Try.underlying71
 have HB := am (Below.refl w.heap.size w)
 have H : (if a0_0 = a1_0 then (if a0_1 = a1_1 then (if a0_2 = a1_2 then (if a0_3 = a1_3 then (if a0_4 = a1_4 then (some true) else (some false)) else (some false)) else (some false)) else (some false)) else (some false)) = some r := h
 clear h
 replace H := ie H; obtain ⟨c3b0, c3b1, H⟩ | ⟨⟨c3, c3b0, c3b1⟩, H⟩ := H
 ·replace H := ie H; obtain ⟨c4b0, c4b1, H⟩ | ⟨⟨c4, c4b0, c4b1⟩, H⟩ := H
  ·replace H := ie H; obtain ⟨c5b0, c5b1, H⟩ | ⟨⟨c5, c5b0, c5b1⟩, H⟩ := H
   ·replace H := ie H; obtain ⟨c6b0, c6b1, H⟩ | ⟨⟨c6, c6b0, c6b1⟩, H⟩ := H
    ·replace H := ie H; obtain ⟨c7b0, c7b1, H⟩ | ⟨⟨c7, c7b0, c7b1⟩, H⟩ := H
     ·obtain rfl := Option.some.inj H
      go_enter Try.func101, Try.ntmps101
      go_wp2_with (first | ((with_reducible refine gd 2 ?_); refine bx w 2 #[.int .i64 a0_0, .int .i64 a0_1, .int .i64 a0_2, .int .i64 a0_3, .int .i64 a0_4] 71 ?_; clear HB; intro gb179 w8 BK179 GE179 HB) | ((with_reducible refine gd 3 ?_); refine by_ w 3 #[.int .i64 a1_0, .int .i64 a1_1, .int .i64 a1_2, .int .i64 a1_3, .int .i64 a1_4] 71 ?_; clear HB; intro gb180 hg w9 BK180 GE180 hb HB; have NB179_180 := am ((nlt hg BK179.out : gb179 ≠ gb180)); have NB180_179 := am ((ngt hg BK179.out : gb180 ≠ gb179)); replace BK179 := b1 BK179 hb; clear hb hg; have hnb10 := NB179_180.out; have hnc10 := NB180_179.out; obtain ⟨_, _, _, _, _, _, _, _, _, _⟩ := cf5 BK179.out; obtain ⟨_, _, _, _, _, _, _, _, _, _⟩ := cf5 BK180.out))
      go_ret
      exact ⟨er, bel⟩
     ·obtain rfl := Option.some.inj H
      go_enter Try.func101, Try.ntmps101
      go_wp2_with (first | ((with_reducible refine gd 2 ?_); refine bx w 2 #[.int .i64 a0_0, .int .i64 a0_1, .int .i64 a0_2, .int .i64 a0_3, .int .i64 a0_4] 71 ?_; clear HB; intro gb179 w13 BK179 GE179 HB) | ((with_reducible refine gd 3 ?_); refine by_ w 3 #[.int .i64 a1_0, .int .i64 a1_1, .int .i64 a1_2, .int .i64 a1_3, .int .i64 a1_4] 71 ?_; clear HB; intro gb180 hg w14 BK180 GE180 hb HB; have NB179_180 := am ((nlt hg BK179.out : gb179 ≠ gb180)); have NB180_179 := am ((ngt hg BK179.out : gb180 ≠ gb179)); replace BK179 := b1 BK179 hb; clear hb hg; have hnb15 := NB179_180.out; have hnc15 := NB180_179.out; obtain ⟨_, _, _, _, _, _, _, _, _, _⟩ := cf5 BK179.out; obtain ⟨_, _, _, _, _, _, _, _, _, _⟩ := cf5 BK180.out))
      go_ret
      exact ⟨er, bel⟩
    ·obtain rfl := Option.some.inj H
     go_enter Try.func101, Try.ntmps101
     go_wp2_with (first | ((with_reducible refine gd 2 ?_); refine bx w 2 #[.int .i64 a0_0, .int .i64 a0_1, .int .i64 a0_2, .int .i64 a0_3, .int .i64 a0_4] 71 ?_; clear HB; intro gb179 w18 BK179 GE179 HB) | ((with_reducible refine gd 3 ?_); refine by_ w 3 #[.int .i64 a1_0, .int .i64 a1_1, .int .i64 a1_2, .int .i64 a1_3, .int .i64 a1_4] 71 ?_; clear HB; intro gb180 hg w19 BK180 GE180 hb HB; have NB179_180 := am ((nlt hg BK179.out : gb179 ≠ gb180)); have NB180_179 := am ((ngt hg BK179.out : gb180 ≠ gb179)); replace BK179 := b1 BK179 hb; clear hb hg; have hnb20 := NB179_180.out; have hnc20 := NB180_179.out; obtain ⟨_, _, _, _, _, _, _, _, _, _⟩ := cf5 BK179.out; obtain ⟨_, _, _, _, _, _, _, _, _, _⟩ := cf5 BK180.out))
     go_ret
     exact ⟨er, bel⟩
   ·obtain rfl := Option.some.inj H
    go_enter Try.func101, Try.ntmps101
    go_wp2_with (first | ((with_reducible refine gd 2 ?_); refine bx w 2 #[.int .i64 a0_0, .int .i64 a0_1, .int .i64 a0_2, .int .i64 a0_3, .int .i64 a0_4] 71 ?_; clear HB; intro gb179 w23 BK179 GE179 HB) | ((with_reducible refine gd 3 ?_); refine by_ w 3 #[.int .i64 a1_0, .int .i64 a1_1, .int .i64 a1_2, .int .i64 a1_3, .int .i64 a1_4] 71 ?_; clear HB; intro gb180 hg w24 BK180 GE180 hb HB; have NB179_180 := am ((nlt hg BK179.out : gb179 ≠ gb180)); have NB180_179 := am ((ngt hg BK179.out : gb180 ≠ gb179)); replace BK179 := b1 BK179 hb; clear hb hg; have hnb25 := NB179_180.out; have hnc25 := NB180_179.out; obtain ⟨_, _, _, _, _, _, _, _, _, _⟩ := cf5 BK179.out; obtain ⟨_, _, _, _, _, _, _, _, _, _⟩ := cf5 BK180.out))
    go_ret
    exact ⟨er, bel⟩
  ·obtain rfl := Option.some.inj H
   go_enter Try.func101, Try.ntmps101
   go_wp2_with (first | ((with_reducible refine gd 2 ?_); refine bx w 2 #[.int .i64 a0_0, .int .i64 a0_1, .int .i64 a0_2, .int .i64 a0_3, .int .i64 a0_4] 71 ?_; clear HB; intro gb179 w28 BK179 GE179 HB) | ((with_reducible refine gd 3 ?_); refine by_ w 3 #[.int .i64 a1_0, .int .i64 a1_1, .int .i64 a1_2, .int .i64 a1_3, .int .i64 a1_4] 71 ?_; clear HB; intro gb180 hg w29 BK180 GE180 hb HB; have NB179_180 := am ((nlt hg BK179.out : gb179 ≠ gb180)); have NB180_179 := am ((ngt hg BK179.out : gb180 ≠ gb179)); replace BK179 := b1 BK179 hb; clear hb hg; have hnb30 := NB179_180.out; have hnc30 := NB180_179.out; obtain ⟨_, _, _, _, _, _, _, _, _, _⟩ := cf5 BK179.out; obtain ⟨_, _, _, _, _, _, _, _, _, _⟩ := cf5 BK180.out))
   go_ret
   exact ⟨er, bel⟩
 ·obtain rfl := Option.some.inj H
  go_enter Try.func101, Try.ntmps101
  go_wp2_with (first | ((with_reducible refine gd 2 ?_); refine bx w 2 #[.int .i64 a0_0, .int .i64 a0_1, .int .i64 a0_2, .int .i64 a0_3, .int .i64 a0_4] 71 ?_; clear HB; intro gb179 w33 BK179 GE179 HB) | ((with_reducible refine gd 3 ?_); refine by_ w 3 #[.int .i64 a1_0, .int .i64 a1_1, .int .i64 a1_2, .int .i64 a1_3, .int .i64 a1_4] 71 ?_; clear HB; intro gb180 hg w34 BK180 GE180 hb HB; have NB179_180 := am ((nlt hg BK179.out : gb179 ≠ gb180)); have NB180_179 := am ((ngt hg BK179.out : gb180 ≠ gb179)); replace BK179 := b1 BK179 hb; clear hb hg; have hnb35 := NB179_180.out; have hnc35 := NB180_179.out; obtain ⟨_, _, _, _, _, _, _, _, _, _⟩ := cf5 BK179.out; obtain ⟨_, _, _, _, _, _, _, _, _, _⟩ := cf5 BK180.out))
  go_ret
  exact ⟨er, bel⟩
def laws_eqGameS.l0 : Nat → List (S71) → List (S71) → Int → Option (Bool)
  | 0, _, _, _ => none
  | k + 1, x0, x1, x5 => if x5 < (x0.length : Int) then (if 0 ≤ x5 then (if x5 < (x1.length : Int) then ((laws_eqGame.f ((rd_T71 x0 x5).f0) ((rd_T71 x0 x5).f1) ((rd_T71 x0 x5).f2) ((rd_T71 x0 x5).f3) ((rd_T71 x0 x5).f4) ((rd_T71 x1 x5).f0) ((rd_T71 x1 x5).f1) ((rd_T71 x1 x5).f2) ((rd_T71 x1 x5).f3) ((rd_T71 x1 x5).f4)).bind fun t183 => (if t183 = true then (laws_eqGameS.l0 k x0 x1 (wrap64 (x5 + 1))) else (some false))) else (none)) else (none)) else (some true)
def laws_eqGameS.f (k : Nat) (l0 : List (S71)) (l1 : List (S71)) : Option (Bool) := if (l0.length : Int) = (l1.length : Int) then (laws_eqGameS.l0 k l0 l1 0) else (some false)
def laws_eqGameS.T6 : Bool × List (List Nat × List Nat) := (true, [([], []), ([], []), ([0, 1], [0, 1]), ([2], [2]), ([], []), ([], []), ([4, 5], [4, 5]), ([6], [6]), ([3, 7], [3, 7]), ([8], [8])])
def laws_eqGameS.B6 : List Nat := [0, 0, 3, 7, 0, 0, 48, 112, 255, 511]
theorem laws_eqGameS.tab6 : rtab .any (opsOf Try.f59 6) = laws_eqGameS.T6 := by kernel_rfl
theorem laws_eqGameS.bits6 : waitsOk laws_eqGameS.T6.2 laws_eqGameS.B6 = true := by kernel_rfl
theorem laws_eqGameS.calls (k : Nat) (A0 : Option Addr) (c0 : Nat) (l0 : List (S71)) (A1 : Option Addr) (c1 : Nat) (l1 : List (S71)) (r : Bool) (w : World) (hr0 : Kd.C k71 w A0 l0.length l0) (hc0 : l0.length ≤ c0) (hr1 : Kd.C k71 w A1 l1.length l1) (hc1 : l1.length ≤ c1) (h : laws_eqGameS.f k l0 l1 = some r) : Calls Try.prog 59 #[.slice A0 l0.length c0, .slice A1 l1.length c1] w fun e w' => e = .returned (.bool r) ∧ Below w.heap.size w w' := by
 have hu71 := Try.underlying71
 have HR0 := am hr0
 have HC0 := am hc0
 clear hr0 hc0
 have HR1 := am hr1
 have HC1 := am hc1
 clear hr1 hc1
 have HB := am (Below.refl w.heap.size w)
 have H : (if (l0.length : Int) = (l1.length : Int) then (laws_eqGameS.l0 k l0 l1 0) else (some false)) = some r := h
 clear h
 by_cases c3 : (l0.length : Int) = (l1.length : Int)
 ·rw [if_pos c3] at H
  have c3b0 : ((l0.length : Int) == (l1.length : Int)) = true := beq_iff_eq.mpr c3
  have c3b1 : ((l0.length : Int) != (l1.length : Int)) = false := bne_eq_false_iff_eq.mpr c3
  have c3b2 : (l0.length == l1.length) = true := by first | simpa using c3 | (simp at c3 ⊢; omega)
  clear c3
  have H' := am H
  clear H
  go_enter Try.func59, Try.ntmps59
  go_wp2
  go_loopg [5] k (fun kq v5 w' => ∃ (x5_1 : Int), v5 = .int .i64 x5_1 ∧ Aside0 (laws_eqGameS.l0 kq l0 l1 x5_1 = some r) ∧ Aside0 (kq ≤ k) ∧ Aside0 (Below w.heap.size w w'))
  case atStart => exact ⟨(0), (es), H', ⟨Nat.le_refl _⟩, ⟨bel⟩⟩
  case round =>
   clear H'
   try clear c1; try clear c3; try clear c3b0; try clear c3b1; try clear c3b2
   obtain ⟨x5_1, rfl, HA, HK1, HB⟩ := hrel
   cases gk with
   | zero => exact absurd HA.out (by simp [laws_eqGameS.l0])
   | succ k1 =>
    have H := HA.out
    clear HA
    simp only [laws_eqGameS.l0] at H
    replace H := i1 H; obtain ⟨c4b0, H⟩ | ⟨c4b0, H⟩ := H
    ·replace H := i0 H; obtain ⟨c5b0, H⟩ := H
     replace H := i0 H; obtain ⟨c6b0, H⟩ := H
     replace H := bm H; obtain ⟨t183, A7, H⟩ := H
     replace H := ib H; obtain ⟨rfl, H⟩ | ⟨rfl, H⟩ := H
     ·have H' := am H
      clear H
      try go_wp2
      replace HB := am (below_drew1 HB.out)
      have p181 : 0 ≤ (x5_1 : Int) := asm
      have q181 : x5_1 < (l0.length : Int) := asm
      obtain ⟨ad181, e181, hx181_0, hx181_1, hx181_2, hx181_3, hx181_4⟩ := at_T71 HR0.out x5_1 p181 q181
      have hw181_4 := hx181_4
      have hw181_3 := hx181_3
      have hw181_2 := hx181_2
      have hw181_1 := hx181_1
      have hw181_0 := hx181_0
      cases e181
      replace hx181_0 := hcl HB.out hx181_0
      replace hx181_1 := hcl HB.out hx181_1
      replace hx181_2 := hcl HB.out hx181_2
      replace hx181_3 := hcl HB.out hx181_3
      replace hx181_4 := hcl HB.out hx181_4
      replace p181 := eq_true p181
      replace q181 := eq_true q181
      have p182 : 0 ≤ (x5_1 : Int) := asm
      have q182 : x5_1 < (l1.length : Int) := asm
      obtain ⟨ad182, e182, hx182_0, hx182_1, hx182_2, hx182_3, hx182_4⟩ := at_T71 HR1.out x5_1 p182 q182
      have hw182_4 := hx182_4
      have hw182_3 := hx182_3
      have hw182_2 := hx182_2
      have hw182_1 := hx182_1
      have hw182_0 := hx182_0
      cases e182
      replace hx182_0 := hcl HB.out hx182_0
      replace hx182_1 := hcl HB.out hx182_1
      replace hx182_2 := hcl HB.out hx182_2
      replace hx182_3 := hcl HB.out hx182_3
      replace hx182_4 := hcl HB.out hx182_4
      replace p182 := eq_true p182
      replace q182 := eq_true q182
      refine start_ (n := 10) (S := fun w' => w'.cell? (ad181.add ((x5_1).toNat * 5)) = some (.int .i64 ((rd_T71 l0 x5_1).f0)) ∧ w'.cell? ⟨(ad181.add ((x5_1).toNat * 5)).block, (ad181.add ((x5_1).toNat * 5)).off + 1, none⟩ = some (.int .i64 ((rd_T71 l0 x5_1).f1)) ∧ w'.cell? ⟨(ad181.add ((x5_1).toNat * 5)).block, (ad181.add ((x5_1).toNat * 5)).off + 2, none⟩ = some (.int .i64 ((rd_T71 l0 x5_1).f2)) ∧ w'.cell? ⟨(ad181.add ((x5_1).toNat * 5)).block, (ad181.add ((x5_1).toNat * 5)).off + 3, none⟩ = some (.int .i64 ((rd_T71 l0 x5_1).f3)) ∧ w'.cell? ⟨(ad181.add ((x5_1).toNat * 5)).block, (ad181.add ((x5_1).toNat * 5)).off + 4, none⟩ = some (.int .i64 ((rd_T71 l0 x5_1).f4)) ∧ w'.cell? (ad182.add ((x5_1).toNat * 5)) = some (.int .i64 ((rd_T71 l1 x5_1).f0)) ∧ w'.cell? ⟨(ad182.add ((x5_1).toNat * 5)).block, (ad182.add ((x5_1).toNat * 5)).off + 1, none⟩ = some (.int .i64 ((rd_T71 l1 x5_1).f1)) ∧ w'.cell? ⟨(ad182.add ((x5_1).toNat * 5)).block, (ad182.add ((x5_1).toNat * 5)).off + 2, none⟩ = some (.int .i64 ((rd_T71 l1 x5_1).f2)) ∧ w'.cell? ⟨(ad182.add ((x5_1).toNat * 5)).block, (ad182.add ((x5_1).toNat * 5)).off + 3, none⟩ = some (.int .i64 ((rd_T71 l1 x5_1).f3)) ∧ w'.cell? ⟨(ad182.add ((x5_1).toNat * 5)).block, (ad182.add ((x5_1).toNat * 5)).off + 4, none⟩ = some (.int .i64 ((rd_T71 l1 x5_1).f4))) (ds := []) (lb 10 0) (by kernel_rfl) rfl rfl ⟨((HB.out.cell (World.block_lt_of_cell? w _ hw181_0)).trans hw181_0), ((HB.out.cell (World.block_lt_of_cell? w _ hw181_1)).trans hw181_1), ((HB.out.cell (World.block_lt_of_cell? w _ hw181_2)).trans hw181_2), ((HB.out.cell (World.block_lt_of_cell? w _ hw181_3)).trans hw181_3), ((HB.out.cell (World.block_lt_of_cell? w _ hw181_4)).trans hw181_4), ((HB.out.cell (World.block_lt_of_cell? w _ hw182_0)).trans hw182_0), ((HB.out.cell (World.block_lt_of_cell? w _ hw182_1)).trans hw182_1), ((HB.out.cell (World.block_lt_of_cell? w _ hw182_2)).trans hw182_2), ((HB.out.cell (World.block_lt_of_cell? w _ hw182_3)).trans hw182_3), ((HB.out.cell (World.block_lt_of_cell? w _ hw182_4)).trans hw182_4)⟩ (fun hHeld => ?_); refine with_tabW laws_eqGameS.tab6 laws_eqGameS.bits6 (fun HT_ HW_ => ?_)
      generalize wr.drew = w9 at HB hx181_0 hx181_1 hx181_2 hx181_3 hx181_4 hx182_0 hx182_1 hx182_2 hx182_3 hx182_4 hHeld ⊢
      refine pu HT_ 0 17 (lb 10 1) ?_
      refine pu HT_ 1 18 (lb 10 3) ?_
      refine pu HT_ 2 19 (lb 10 7) ?_
      refine pu HT_ 4 21 (lb 10 23) ?_
      refine pu HT_ 5 22 (lb 10 55) ?_
      refine pu HT_ 6 23 (lb 10 119) ?_
      refine tk HT_ HW_ hHeld 3 20 (lb 10 127) ?_
      refine tk HT_ HW_ hHeld 7 24 (lb 10 255) ?_
      refine on HT_ 8 25 (lb 10 511) fun K hK => ?_
      refine goes_ Try.func101 (by kernel_rfl) rfl #[.agg #[.int .i64 ((rd_T71 l0 x5_1).f0), .int .i64 ((rd_T71 l0 x5_1).f1), .int .i64 ((rd_T71 l0 x5_1).f2), .int .i64 ((rd_T71 l0 x5_1).f3), .int .i64 ((rd_T71 l0 x5_1).f4)], .agg #[.int .i64 ((rd_T71 l1 x5_1).f0), .int .i64 ((rd_T71 l1 x5_1).f1), .int .i64 ((rd_T71 l1 x5_1).f2), .int .i64 ((rd_T71 l1 x5_1).f3), .int .i64 ((rd_T71 l1 x5_1).f4)]] (by rfl) rfl rfl ga ?_
      with_reducible refine (laws_eqGame.calls ((rd_T71 l0 x5_1).f0) ((rd_T71 l0 x5_1).f1) ((rd_T71 l0 x5_1).f2) ((rd_T71 l0 x5_1).f3) ((rd_T71 l0 x5_1).f4) ((rd_T71 l1 x5_1).f0) ((rd_T71 l1 x5_1).f1) ((rd_T71 l1 x5_1).f2) ((rd_T71 l1 x5_1).f3) ((rd_T71 l1 x5_1).f4) true _ A7.out).mono ?_
      rintro e w10 ⟨rfl, hb⟩
      refine ⟨_, rfl, ?_⟩
      replace HB := b2 hb
      (try clear hb)
      refine hK.out _ _ ⟨((HB.out.cell (World.block_lt_of_cell? w _ hw181_0)).trans hw181_0), ((HB.out.cell (World.block_lt_of_cell? w _ hw181_1)).trans hw181_1), ((HB.out.cell (World.block_lt_of_cell? w _ hw181_2)).trans hw181_2), ((HB.out.cell (World.block_lt_of_cell? w _ hw181_3)).trans hw181_3), ((HB.out.cell (World.block_lt_of_cell? w _ hw181_4)).trans hw181_4), ((HB.out.cell (World.block_lt_of_cell? w _ hw182_0)).trans hw182_0), ((HB.out.cell (World.block_lt_of_cell? w _ hw182_1)).trans hw182_1), ((HB.out.cell (World.block_lt_of_cell? w _ hw182_2)).trans hw182_2), ((HB.out.cell (World.block_lt_of_cell? w _ hw182_3)).trans hw182_3), ((HB.out.cell (World.block_lt_of_cell? w _ hw182_4)).trans hw182_4)⟩ (fun hHeld => ?_)
      clear hK K
      refine nm 25 ?_
      refine pu HT_ 9 26 (lb 10 1023) ?_
      refine done_ (done_of HT_.out (by kernel_rfl)) ?_
      try go_wp2
      go_roundg k1
      case measure => have := HK1.out; omega
      case rel => exact ⟨(wrap64 (x5_1 + 1)), (es), H', ⟨by have := HK1.out; omega⟩, ⟨bel⟩⟩
     ·obtain rfl := Option.some.inj H
      try go_wp2
      replace HB := am (below_drew1 HB.out)
      have p181 : 0 ≤ (x5_1 : Int) := asm
      have q181 : x5_1 < (l0.length : Int) := asm
      obtain ⟨ad181, e181, hx181_0, hx181_1, hx181_2, hx181_3, hx181_4⟩ := at_T71 HR0.out x5_1 p181 q181
      have hw181_4 := hx181_4
      have hw181_3 := hx181_3
      have hw181_2 := hx181_2
      have hw181_1 := hx181_1
      have hw181_0 := hx181_0
      cases e181
      replace hx181_0 := hcl HB.out hx181_0
      replace hx181_1 := hcl HB.out hx181_1
      replace hx181_2 := hcl HB.out hx181_2
      replace hx181_3 := hcl HB.out hx181_3
      replace hx181_4 := hcl HB.out hx181_4
      replace p181 := eq_true p181
      replace q181 := eq_true q181
      have p182 : 0 ≤ (x5_1 : Int) := asm
      have q182 : x5_1 < (l1.length : Int) := asm
      obtain ⟨ad182, e182, hx182_0, hx182_1, hx182_2, hx182_3, hx182_4⟩ := at_T71 HR1.out x5_1 p182 q182
      have hw182_4 := hx182_4
      have hw182_3 := hx182_3
      have hw182_2 := hx182_2
      have hw182_1 := hx182_1
      have hw182_0 := hx182_0
      cases e182
      replace hx182_0 := hcl HB.out hx182_0
      replace hx182_1 := hcl HB.out hx182_1
      replace hx182_2 := hcl HB.out hx182_2
      replace hx182_3 := hcl HB.out hx182_3
      replace hx182_4 := hcl HB.out hx182_4
      replace p182 := eq_true p182
      replace q182 := eq_true q182
      refine start_ (n := 10) (S := fun w' => w'.cell? (ad181.add ((x5_1).toNat * 5)) = some (.int .i64 ((rd_T71 l0 x5_1).f0)) ∧ w'.cell? ⟨(ad181.add ((x5_1).toNat * 5)).block, (ad181.add ((x5_1).toNat * 5)).off + 1, none⟩ = some (.int .i64 ((rd_T71 l0 x5_1).f1)) ∧ w'.cell? ⟨(ad181.add ((x5_1).toNat * 5)).block, (ad181.add ((x5_1).toNat * 5)).off + 2, none⟩ = some (.int .i64 ((rd_T71 l0 x5_1).f2)) ∧ w'.cell? ⟨(ad181.add ((x5_1).toNat * 5)).block, (ad181.add ((x5_1).toNat * 5)).off + 3, none⟩ = some (.int .i64 ((rd_T71 l0 x5_1).f3)) ∧ w'.cell? ⟨(ad181.add ((x5_1).toNat * 5)).block, (ad181.add ((x5_1).toNat * 5)).off + 4, none⟩ = some (.int .i64 ((rd_T71 l0 x5_1).f4)) ∧ w'.cell? (ad182.add ((x5_1).toNat * 5)) = some (.int .i64 ((rd_T71 l1 x5_1).f0)) ∧ w'.cell? ⟨(ad182.add ((x5_1).toNat * 5)).block, (ad182.add ((x5_1).toNat * 5)).off + 1, none⟩ = some (.int .i64 ((rd_T71 l1 x5_1).f1)) ∧ w'.cell? ⟨(ad182.add ((x5_1).toNat * 5)).block, (ad182.add ((x5_1).toNat * 5)).off + 2, none⟩ = some (.int .i64 ((rd_T71 l1 x5_1).f2)) ∧ w'.cell? ⟨(ad182.add ((x5_1).toNat * 5)).block, (ad182.add ((x5_1).toNat * 5)).off + 3, none⟩ = some (.int .i64 ((rd_T71 l1 x5_1).f3)) ∧ w'.cell? ⟨(ad182.add ((x5_1).toNat * 5)).block, (ad182.add ((x5_1).toNat * 5)).off + 4, none⟩ = some (.int .i64 ((rd_T71 l1 x5_1).f4))) (ds := []) (lb 10 0) (by kernel_rfl) rfl rfl ⟨((HB.out.cell (World.block_lt_of_cell? w _ hw181_0)).trans hw181_0), ((HB.out.cell (World.block_lt_of_cell? w _ hw181_1)).trans hw181_1), ((HB.out.cell (World.block_lt_of_cell? w _ hw181_2)).trans hw181_2), ((HB.out.cell (World.block_lt_of_cell? w _ hw181_3)).trans hw181_3), ((HB.out.cell (World.block_lt_of_cell? w _ hw181_4)).trans hw181_4), ((HB.out.cell (World.block_lt_of_cell? w _ hw182_0)).trans hw182_0), ((HB.out.cell (World.block_lt_of_cell? w _ hw182_1)).trans hw182_1), ((HB.out.cell (World.block_lt_of_cell? w _ hw182_2)).trans hw182_2), ((HB.out.cell (World.block_lt_of_cell? w _ hw182_3)).trans hw182_3), ((HB.out.cell (World.block_lt_of_cell? w _ hw182_4)).trans hw182_4)⟩ (fun hHeld => ?_); refine with_tabW laws_eqGameS.tab6 laws_eqGameS.bits6 (fun HT_ HW_ => ?_)
      generalize wr.drew = w11 at HB hx181_0 hx181_1 hx181_2 hx181_3 hx181_4 hx182_0 hx182_1 hx182_2 hx182_3 hx182_4 hHeld ⊢
      refine pu HT_ 0 17 (lb 10 1) ?_
      refine pu HT_ 1 18 (lb 10 3) ?_
      refine pu HT_ 2 19 (lb 10 7) ?_
      refine pu HT_ 4 21 (lb 10 23) ?_
      refine pu HT_ 5 22 (lb 10 55) ?_
      refine pu HT_ 6 23 (lb 10 119) ?_
      refine tk HT_ HW_ hHeld 3 20 (lb 10 127) ?_
      refine tk HT_ HW_ hHeld 7 24 (lb 10 255) ?_
      refine on HT_ 8 25 (lb 10 511) fun K hK => ?_
      refine goes_ Try.func101 (by kernel_rfl) rfl #[.agg #[.int .i64 ((rd_T71 l0 x5_1).f0), .int .i64 ((rd_T71 l0 x5_1).f1), .int .i64 ((rd_T71 l0 x5_1).f2), .int .i64 ((rd_T71 l0 x5_1).f3), .int .i64 ((rd_T71 l0 x5_1).f4)], .agg #[.int .i64 ((rd_T71 l1 x5_1).f0), .int .i64 ((rd_T71 l1 x5_1).f1), .int .i64 ((rd_T71 l1 x5_1).f2), .int .i64 ((rd_T71 l1 x5_1).f3), .int .i64 ((rd_T71 l1 x5_1).f4)]] (by rfl) rfl rfl ga ?_
      with_reducible refine (laws_eqGame.calls ((rd_T71 l0 x5_1).f0) ((rd_T71 l0 x5_1).f1) ((rd_T71 l0 x5_1).f2) ((rd_T71 l0 x5_1).f3) ((rd_T71 l0 x5_1).f4) ((rd_T71 l1 x5_1).f0) ((rd_T71 l1 x5_1).f1) ((rd_T71 l1 x5_1).f2) ((rd_T71 l1 x5_1).f3) ((rd_T71 l1 x5_1).f4) false _ A7.out).mono ?_
      rintro e w12 ⟨rfl, hb⟩
      refine ⟨_, rfl, ?_⟩
      replace HB := b2 hb
      (try clear hb)
      refine hK.out _ _ ⟨((HB.out.cell (World.block_lt_of_cell? w _ hw181_0)).trans hw181_0), ((HB.out.cell (World.block_lt_of_cell? w _ hw181_1)).trans hw181_1), ((HB.out.cell (World.block_lt_of_cell? w _ hw181_2)).trans hw181_2), ((HB.out.cell (World.block_lt_of_cell? w _ hw181_3)).trans hw181_3), ((HB.out.cell (World.block_lt_of_cell? w _ hw181_4)).trans hw181_4), ((HB.out.cell (World.block_lt_of_cell? w _ hw182_0)).trans hw182_0), ((HB.out.cell (World.block_lt_of_cell? w _ hw182_1)).trans hw182_1), ((HB.out.cell (World.block_lt_of_cell? w _ hw182_2)).trans hw182_2), ((HB.out.cell (World.block_lt_of_cell? w _ hw182_3)).trans hw182_3), ((HB.out.cell (World.block_lt_of_cell? w _ hw182_4)).trans hw182_4)⟩ (fun hHeld => ?_)
      clear hK K
      refine nm 25 ?_
      refine pu HT_ 9 26 (lb 10 1023) ?_
      refine done_ (done_of HT_.out (by kernel_rfl)) ?_
      try go_wp2
      go_ret
      exact ⟨er, bel⟩
    ·obtain rfl := Option.some.inj H
     go_wp2
     go_ret
     exact ⟨er, bel⟩
 ·rw [if_neg c3] at H
  have c3b0 : ((l0.length : Int) == (l1.length : Int)) = false := beq_eq_false_iff_ne.mpr c3
  have c3b1 : ((l0.length : Int) != (l1.length : Int)) = true := bne_iff_ne.mpr c3
  have c3b2 : (l0.length == l1.length) = false := by first | simpa using c3 | (simp at c3 ⊢; omega)
  obtain rfl := Option.some.inj H
  go_enter Try.func59, Try.ntmps59
  go_wp2
  go_ret
  exact ⟨er, bel⟩
end Go.Proofs.Ytgalpgakdcfilaa.Q
