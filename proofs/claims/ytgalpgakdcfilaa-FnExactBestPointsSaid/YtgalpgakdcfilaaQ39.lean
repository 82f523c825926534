-- Written by a program of this session (wip/xp.py, over the kit's print) out of the translation: functions, and the walks that show them.
import Derived.Test.YtgalpgakdcfilaaQ0
import Derived.Test.YtgalpgakdcfilaaQ38
namespace Go.Proofs.Ytgalpgakdcfilaa.Q
open Go.RowKit Go.Proofs.YtgalpgakdcfilaaW.PrintWords Go.Proofs.YtgalpgakdcfilaaW.PrintLast Go.Proofs.YtgalpgakdcfilaaW.PrintMore
attribute [local go_sem] max2_int min2_int max_two min_two max_three min_three max_four min_four   -- for this text's walks alone
set_option linter.unusedVariables false
set_option linter.unusedSimpArgs false

def impl_points.l0 : Nat → List Int → List (S129) → Int → Int → List (S101) → Int → Int → Int → List Int → Bool → List (S71) → List Int → List Int → Option (List Int)
  | 0, _, _, _, _, _, _, _, _, _, _, _, _, _ => none
  | k + 1, x3, x9, x10, x11, x461000, x461001, x461002, x461003, x461004, x461005, x461006, x461007, x461008 => if x11 < x10 then (if 0 ≤ x11 then (if x11 < (x9.length : Int) then (if x11 < (x461008.length : Int) then (if x3.length < 17592186044416 then (impl_points.l0 k (x3 ++ [wrap64 (((rd_T129 x9 x11).f6) - (rd x461008 x11))]) x9 x10 (wrap64 (x11 + 1)) x461000 x461001 x461002 x461003 x461004 x461005 x461006 x461007 x461008) else (none)) else (none)) else (none)) else (none)) else (some x3)
def impl_points.f (k : Nat) (l0_0 : List (S101)) (a0_1 : Int) (a0_2 : Int) (a0_3 : Int) (l0_4 : List Int) (a0_5 : Bool) (l0_6 : List (S71)) (l0_7 : List Int) (l0_8 : List Int) : Option (List Int) := (impl_rankerOf.f k l0_0 a0_1 a0_2 a0_3 l0_4 a0_5 l0_6 l0_7 l0_8).bind fun t464 => (impl_points.l0 k (([] : List Int)) t464 (t464.length : Int) 0 l0_0 a0_1 a0_2 a0_3 l0_4 a0_5 l0_6 l0_7 l0_8)
def impl_points.T5 : Bool × List (List Nat × List Nat) := (true, [([], []), ([], []), ([1], [1]), ([], []), ([3], [3]), ([], []), ([4, 5], [4, 5]), ([6], [6]), ([2, 7], [2, 7]), ([8], [8]), ([0, 9], [0, 9]), ([10, 10, 0, 1, 2, 3, 4, 5, 6, 7, 8, 9, 10], [0, 10])])
def impl_points.B5 : List Nat := [0, 0, 2, 0, 8, 0, 56, 120, 254, 510, 1023, 2047]
theorem impl_points.tab5 : rtab .any (opsOf Try.f110 5) = impl_points.T5 := by kernel_rfl
theorem impl_points.bits5 : waitsOk impl_points.T5.2 impl_points.B5 = true := by kernel_rfl
set_option maxHeartbeats 8000000 in
set_option maxRecDepth 100000 in
theorem impl_points.calls (k : Nat) (A0_0 : Option Addr) (c0_0 : Nat) (l0_0 : List (S101)) (a0_1 : Int) (a0_2 : Int) (a0_3 : Int) (A0_4 : Option Addr) (c0_4 : Nat) (l0_4 : List Int) (a0_5 : Bool) (A0_6 : Option Addr) (c0_6 : Nat) (l0_6 : List (S71)) (A0_7 : Option Addr) (c0_7 : Nat) (l0_7 : List Int) (A0_8 : Option Addr) (c0_8 : Nat) (l0_8 : List Int) (r : List Int) (w : World) (hr0_0 : Kd.C k101 w A0_0 l0_0.length l0_0) (hc0_0 : l0_0.length ≤ c0_0) (hr0_4 : Kd.C (Kd.int .i64) w A0_4 l0_4.length l0_4) (hc0_4 : l0_4.length ≤ c0_4) (hr0_6 : Kd.C k71 w A0_6 l0_6.length l0_6) (hc0_6 : l0_6.length ≤ c0_6) (hr0_7 : Kd.C (Kd.int .i64) w A0_7 l0_7.length l0_7) (hc0_7 : l0_7.length ≤ c0_7) (hr0_8 : Kd.C (Kd.int .i64) w A0_8 l0_8.length l0_8) (hc0_8 : l0_8.length ≤ c0_8) (h : impl_points.f k l0_0 a0_1 a0_2 a0_3 l0_4 a0_5 l0_6 l0_7 l0_8 = some r) :
    Calls Try.prog 110 #[.agg #[.slice A0_0 l0_0.length c0_0, .int .i64 a0_1, .int .i64 a0_2, .int .i64 a0_3, .slice A0_4 l0_4.length c0_4, .bool a0_5, .slice A0_6 l0_6.length c0_6, .slice A0_7 l0_7.length c0_7, .slice A0_8 l0_8.length c0_8]] w fun e w' => ∃ v0_ : Value, e = .returned (v0_) ∧ Kd.R (Kd.int .i64) 3 w' w.heap.size (fun _ => True) v0_ r ∧ Below w.heap.size w w' := by
  have hfd_ : ∀ (x0 x1 x2 x3 x4 x5 x6 x7 x8 x9 : Value) (W_ : World), (Instr.field 119 (.agg #[x0, x1, x2, x3, x4, x5, x6, x7, x8, x9]) 1).run Try.prog W_ = .ok x9 W_ := fun _ _ _ _ _ _ _ _ _ _ _ => by kernel_rfl
  have hu37 := Try.underlying37
  have hu129 := Try.underlying129
  have HR0_0 := Aside0.mk hr0_0
  have HC0_0 := Aside0.mk hc0_0
  clear hr0_0 hc0_0
  have HR0_4 := Aside0.mk hr0_4
  have HC0_4 := Aside0.mk hc0_4
  clear hr0_4 hc0_4
  have HR0_6 := Aside0.mk hr0_6
  have HC0_6 := Aside0.mk hc0_6
  clear hr0_6 hc0_6
  have HR0_7 := Aside0.mk hr0_7
  have HC0_7 := Aside0.mk hc0_7
  clear hr0_7 hc0_7
  have HR0_8 := Aside0.mk hr0_8
  have HC0_8 := Aside0.mk hc0_8
  clear hr0_8 hc0_8
  have HB := Aside0.mk (Below.refl w.heap.size w)
  have H : ((impl_rankerOf.f k l0_0 a0_1 a0_2 a0_3 l0_4 a0_5 l0_6 l0_7 l0_8).bind fun t464 => (impl_points.l0 k (([] : List Int)) t464 (t464.length : Int) 0 l0_0 a0_1 a0_2 a0_3 l0_4 a0_5 l0_6 l0_7 l0_8)) = some r := h
  clear h
  obtain ⟨y461, hy461⟩ : ∃ y_ : List Int, y_ = (([] : List Int)) := ⟨_, rfl⟩
  replace H : ((impl_rankerOf.f k l0_0 a0_1 a0_2 a0_3 l0_4 a0_5 l0_6 l0_7 l0_8).bind fun t464 => (impl_points.l0 k y461 t464 (t464.length : Int) 0 l0_0 a0_1 a0_2 a0_3 l0_4 a0_5 l0_6 l0_7 l0_8)) = some r := by first | (rw [hy461]; with_reducible exact H) | (have H2_ := (Option.bind_some _ _).symm.trans H; rw [hy461]; with_reducible exact H2_) | (have H2_ := (Option.bind_some _ _).symm.trans H; with_reducible exact H2_) | with_reducible exact H | (rw [hy461]; exact H) | exact H
  have Ny461 := Aside0.mk hy461
  clear hy461
  replace H := Option.bind_eq_some_iff.mp H
  obtain ⟨t464, A20, H⟩ := H
  replace H : (impl_points.l0 k y461 t464 (t464.length : Int) 0 l0_0 a0_1 a0_2 a0_3 l0_4 a0_5 l0_6 l0_7 l0_8) = some r := H
  have A2 := Aside0.mk A20
  clear A20
  have H' := Aside0.mk H
  clear H
  go_enter Try.func110, Try.ntmps110
  go_wp2_with (first | ((with_reducible refine gate_dst (N := 1) rfl ?_); refine box_event ?hg (N := 1) ?hd (cs := #[.slice A0_0 l0_0.length c0_0, .int .i64 a0_1, .int .i64 a0_2, .int .i64 a0_3, .slice A0_4 l0_4.length c0_4, .bool a0_5, .slice A0_6 l0_6.length c0_6, .slice A0_7 l0_7.length c0_7, .slice A0_8 l0_8.length c0_8]) (t := 37) ?hr ?_; (case hd => rfl); (case hg => rfl); (case hr => first | (go_simp; done) | (go_simp; rfl)); intro gb460 hg w3 hbox hb; have BK460 := Aside0.mk (hbox); have GW460 := Aside0.mk ((bsz hg : w.heap.size ≤ gb460)); have GE460 := Aside0.mk ((bsz hg : w.heap.size ≤ gb460)); replace HB := Aside0.mk (below_step bel hb); clear hb hbox hg) | ((with_reducible refine gate_dst (N := 6) rfl ?_); refine Kd.R_lit (Kd.int .i64) _ 3 ?hg (N := 6) ?hd (xs := ([] : List Int)) (inner := []) (ok := fun _ => True) (okp := fun _ => True) ?hr ?hp (fun _ hk => hk) trivial (Below.refl _ _) (Nat.le_refl _) (by simp) ?_; (case hd => rfl); (case hg => rfl); (case hr => first | (go_simp; done) | (go_simp; rfl)); (case hp => exact (Reps.none _ _)); intro v462 w4 ho5 hb hg_ hnew_; clear hg_ hnew_; (first | rw [← Ny461.out] at ho5 | (simp only [Int.reduceToNat] at ho5; rw [← Ny461.out] at ho5)); have HO463 := Aside0.mk (Kd.R_lower ho5 (below_size bel)); replace BK460 := Aside0.mk (bb BK460.out hb); replace HB := Aside0.mk (below_step bel hb); clear hb ho5; obtain ⟨hcz6_0, hcz6_1, hcz6_2, hcz6_3, hcz6_4, hcz6_5, hcz6_6, hcz6_7, hcz6_8, hfz6_0, hfz6_1, hfz6_2, hfz6_3, hfz6_4, hfz6_5, hfz6_6, hfz6_7, hfz6_8⟩ := cf9 BK460.out) | ((with_reducible refine gate_callee (f := 115) rfl ?_); refine goesL_ (some 8) rfl rfl Try.func115 (by kernel_rfl) rfl #[.agg #[.slice A0_0 l0_0.length c0_0, .int .i64 a0_1, .int .i64 a0_2, .int .i64 a0_3, .slice A0_4 l0_4.length c0_4, .bool a0_5, .slice A0_6 l0_6.length c0_6, .slice A0_7 l0_7.length c0_7, .slice A0_8 l0_8.length c0_8]] rfl ga ?_; (with_reducible refine (impl_rankerOf.calls k _ _ l0_0 a0_1 a0_2 a0_3 _ _ l0_4 a0_5 _ _ l0_6 _ _ l0_7 _ _ l0_8 t464 _ ?side1 ?side2 ?side3 ?side4 ?side5 ?side6 ?side7 ?side8 ?side9 ?side10 A2.out).mono ?_); (case side1 => exact ck (Kd.C_below HR0_0.out HB.out)); (case side2 => exact HC0_0.out); (case side3 => exact ck (Kd.C_below HR0_4.out HB.out)); (case side4 => exact HC0_4.out); (case side5 => exact ck (Kd.C_below HR0_6.out HB.out)); (case side6 => exact HC0_6.out); (case side7 => exact ck (Kd.C_below HR0_7.out HB.out)); (case side8 => exact HC0_7.out); (case side9 => exact ck (Kd.C_below HR0_8.out HB.out)); (case side10 => exact HC0_8.out); rintro e w7 ⟨v465, rfl, ho0, hb⟩; refine ⟨_, rfl, ?_⟩; have HO466 := Aside0.mk (Kd.R_lower ho0 (below_size bel)); replace HO463 := Aside0.mk (Kd.R_below (rk HO463.out) hb); replace BK460 := Aside0.mk (bb BK460.out hb); replace HB := Aside0.mk (below_step bel hb); (try clear hb); (try clear ho0); obtain ⟨Ao8, co8, eo8⟩ := Kd.R_slice HO466.out; subst eo8))
  go_loopg [3, 11] k (fun kq v3 v11 w' => ∃ (x3_1 : List Int) (x11_1 : Int), v11 = .int .i64 x11_1 ∧ Aside0 (impl_points.l0 kq x3_1 t464 (t464.length : Int) x11_1 l0_0 a0_1 a0_2 a0_3 l0_4 a0_5 l0_6 l0_7 l0_8 = some r) ∧ Aside0 (kq ≤ k) ∧ Aside0 (Kd.R (Kd.int .i64) 3 w' w.heap.size (fun _ => True) v3 x3_1) ∧ Aside0 (Kd.R k129 129 w' w.heap.size (fun _ => True) (.slice Ao8 t464.length co8) t464) ∧ Aside0 (w'.heap[gb460]? = some (.cells #[(.slice A0_0 l0_0.length c0_0), .int .i64 a0_1, .int .i64 a0_2, .int .i64 a0_3, (.slice A0_4 l0_4.length c0_4), .bool a0_5, (.slice A0_6 l0_6.length c0_6), (.slice A0_7 l0_7.length c0_7), (.slice A0_8 l0_8.length c0_8)] 37 (0, 0))) ∧ Aside0 (Below w.heap.size w w'))
  case atStart => exact ⟨(y461), (0), (es), H', ⟨Nat.le_refl _⟩, ⟨rk HO463.out⟩, ⟨rk HO466.out⟩, ⟨bk BK460.out⟩, ⟨bel⟩⟩
  case round =>
    clear H'
    try clear c1; try clear p2; try clear hcz6_0; try clear hcz6_1; try clear hcz6_2; try clear hcz6_3; try clear hcz6_4; try clear hcz6_5; try clear hcz6_6; try clear hcz6_7; try clear hcz6_8; try clear hfz6_0; try clear hfz6_1; try clear hfz6_2; try clear hfz6_3; try clear hfz6_4; try clear hfz6_5; try clear hfz6_6; try clear hfz6_7; try clear hfz6_8
    obtain ⟨x3_1, x11_1, rfl, HA, HK1, HO_3, HO_9, BK460, HB⟩ := hrel
    cases gk with
    | zero => exact absurd HA.out (by simp [impl_points.l0])
    | succ k1 =>
      have H := HA.out
      clear HA
      simp only [impl_points.l0] at H
      by_cases c9 : x11_1 < (t464.length : Int)
      · rw [if_pos c9] at H
        have c9b0 : decide (x11_1 < (t464.length : Int)) = true := decide_eq_true c9
        clear c9
        by_cases c10 : 0 ≤ x11_1
        · rw [if_pos c10] at H
          have c10b0 : decide (0 ≤ x11_1) = true := decide_eq_true c10
          clear c10
          by_cases c11 : x11_1 < (t464.length : Int)
          · rw [if_pos c11] at H
            have c11b0 : decide (x11_1 < (t464.length : Int)) = true := decide_eq_true c11
            clear c11
            by_cases c12 : x11_1 < (l0_8.length : Int)
            · rw [if_pos c12] at H
              have c12b0 : decide (x11_1 < (l0_8.length : Int)) = true := decide_eq_true c12
              clear c12
              by_cases c13 : x3_1.length < 17592186044416
              · rw [if_pos c13] at H
                have LMc13 := Aside0.mk c13
                clear c13
                obtain ⟨y470, hy470⟩ : ∃ y_ : List Int, y_ = (x3_1 ++ [wrap64 (((rd_T129 t464 x11_1).f6) - (rd l0_8 x11_1))]) := ⟨_, rfl⟩
                replace H : (impl_points.l0 k1 y470 t464 (t464.length : Int) (wrap64 (x11_1 + 1)) l0_0 a0_1 a0_2 a0_3 l0_4 a0_5 l0_6 l0_7 l0_8) = some r := by first | (rw [hy470]; with_reducible exact H) | (have H2_ := (Option.bind_some _ _).symm.trans H; rw [hy470]; with_reducible exact H2_) | (have H2_ := (Option.bind_some _ _).symm.trans H; with_reducible exact H2_) | with_reducible exact H | (rw [hy470]; exact H) | exact H
                have Ny470 := Aside0.mk hy470
                clear hy470
                have H' := Aside0.mk H
                clear H
                have p467 : 0 ≤ (x11_1 : Int) := asm
                have q467 : x11_1 < (t464.length : Int) := asm
                obtain ⟨ad467, e467, hx467_0, hx467_1, hx467_2, hx467_3, hx467_4, hx467_5, hx467_6⟩ := at_T129 (Kd.R_reads' HO_9.out).2.2 x11_1 p467 q467
                cases e467
                replace p467 := eq_true p467
                replace q467 := eq_true q467
                try go_wp2_with (first | ((with_reducible refine gate_dst (N := 5) rfl ?_); refine box_event ?hg (N := 5) ?hd (cs := #[.int .i64 0, .int .i64 0, .int .i64 0, .int .i64 0, .int .i64 0, .int .i64 0, .int .i64 0]) (t := 129) ?hr ?_; (case hd => rfl); (case hg => rfl); (case hr => first | (go_simp; done) | (go_simp; rfl)); intro gb468 hg w14 hbox hb; have BK468 := Aside0.mk (hbox); have GW468 := Aside0.mk ((bsz hg : w.heap.size ≤ gb468)); have GE468 := Aside0.mk ((bsz hg : w.heap.size ≤ gb468)); have NB460_468 := Aside0.mk ((nlt hg BK460.out : gb460 ≠ gb468)); have NB468_460 := Aside0.mk ((ngt hg BK460.out : gb468 ≠ gb460)); replace HO_3 := Aside0.mk (Kd.R_below (rk HO_3.out) hb); replace HO_9 := Aside0.mk (Kd.R_below (Kd.R_elderB (rk HO_9.out) gb468 (Nat.le_of_eq hg.symm)) hb); replace BK460 := Aside0.mk (bb BK460.out hb); replace HB := Aside0.mk (below_step bel hb); clear hb hbox hg; have hnb15 := NB468_460.out; have hnc15 := NB460_468.out; obtain ⟨hcz16_0, hcz16_1, hcz16_2, hcz16_3, hcz16_4, hcz16_5, hcz16_6, hfz16_0, hfz16_1, hfz16_2, hfz16_3, hfz16_4, hfz16_5, hfz16_6⟩ := cf7 BK468.out))
                have n0_ : Aside0 (Kd.R (Kd.int .i64) 3 (((((((w14.setCell ⟨gb468, 0, none⟩ (.int .i64 ((rd_T129 t464 x11_1).f0))).setCell ⟨gb468, 1, none⟩ (.int .i64 ((rd_T129 t464 x11_1).f1))).setCell ⟨gb468, 2, none⟩ (.int .i64 ((rd_T129 t464 x11_1).f2))).setCell ⟨gb468, 3, none⟩ (.int .i64 ((rd_T129 t464 x11_1).f3))).setCell ⟨gb468, 4, none⟩ (.int .i64 ((rd_T129 t464 x11_1).f4))).setCell ⟨gb468, 5, none⟩ (.int .i64 ((rd_T129 t464 x11_1).f5))).setCell ⟨gb468, 6, none⟩ (.int .i64 ((rd_T129 t464 x11_1).f6))) w.heap.size (fun _ => True) u3 x3_1) := ⟨by (with_reducible repeat (first | apply Kd.R_alloc | apply Kd.R_drewN | apply Kd.R_drew)); exact Kd.R_mono (Kd.R_far (p := ⟨gb468, 6, none⟩) (Kd.R_far (p := ⟨gb468, 5, none⟩) (Kd.R_far (p := ⟨gb468, 4, none⟩) (Kd.R_far (p := ⟨gb468, 3, none⟩) (Kd.R_far (p := ⟨gb468, 2, none⟩) (Kd.R_far (p := ⟨gb468, 1, none⟩) (Kd.R_far (p := ⟨gb468, 0, none⟩) (Kd.R_types HO_3.out BK468.out (by decide)) (fun _ hk => hk.2) (.int .i64 ((rd_T129 t464 x11_1).f0))) (fun _ hk => hk.2) (.int .i64 ((rd_T129 t464 x11_1).f1))) (fun _ hk => hk.2) (.int .i64 ((rd_T129 t464 x11_1).f2))) (fun _ hk => hk.2) (.int .i64 ((rd_T129 t464 x11_1).f3))) (fun _ hk => hk.2) (.int .i64 ((rd_T129 t464 x11_1).f4))) (fun _ hk => hk.2) (.int .i64 ((rd_T129 t464 x11_1).f5))) (fun _ hk => hk.2) (.int .i64 ((rd_T129 t464 x11_1).f6))) (fun _ hk => trivial)⟩
                have n1_ : Aside0 (Kd.R k129 129 (((((((w14.setCell ⟨gb468, 0, none⟩ (.int .i64 ((rd_T129 t464 x11_1).f0))).setCell ⟨gb468, 1, none⟩ (.int .i64 ((rd_T129 t464 x11_1).f1))).setCell ⟨gb468, 2, none⟩ (.int .i64 ((rd_T129 t464 x11_1).f2))).setCell ⟨gb468, 3, none⟩ (.int .i64 ((rd_T129 t464 x11_1).f3))).setCell ⟨gb468, 4, none⟩ (.int .i64 ((rd_T129 t464 x11_1).f4))).setCell ⟨gb468, 5, none⟩ (.int .i64 ((rd_T129 t464 x11_1).f5))).setCell ⟨gb468, 6, none⟩ (.int .i64 ((rd_T129 t464 x11_1).f6))) w.heap.size (fun k_ => k_ ≠ gb468) (.slice (some ad467) t464.length co8) t464) := ⟨by (with_reducible repeat (first | apply Kd.R_alloc | apply Kd.R_drewN | apply Kd.R_drew)); exact Kd.R_mono (Kd.R_far (p := ⟨gb468, 6, none⟩) (Kd.R_far (p := ⟨gb468, 5, none⟩) (Kd.R_far (p := ⟨gb468, 4, none⟩) (Kd.R_far (p := ⟨gb468, 3, none⟩) (Kd.R_far (p := ⟨gb468, 2, none⟩) (Kd.R_far (p := ⟨gb468, 1, none⟩) (Kd.R_far (p := ⟨gb468, 0, none⟩) (Kd.R_mono HO_9.out (fun k_ hk => (⟨hk, hk.2⟩ : _ ∧ k_ ≠ gb468))) (fun _ hk => hk.2) (.int .i64 ((rd_T129 t464 x11_1).f0))) (fun _ hk => hk.2) (.int .i64 ((rd_T129 t464 x11_1).f1))) (fun _ hk => hk.2) (.int .i64 ((rd_T129 t464 x11_1).f2))) (fun _ hk => hk.2) (.int .i64 ((rd_T129 t464 x11_1).f3))) (fun _ hk => hk.2) (.int .i64 ((rd_T129 t464 x11_1).f4))) (fun _ hk => hk.2) (.int .i64 ((rd_T129 t464 x11_1).f5))) (fun _ hk => hk.2) (.int .i64 ((rd_T129 t464 x11_1).f6))) (fun _ hk => hk.1.2)⟩
                have n2_ : Aside0 ((((((((w14.setCell ⟨gb468, 0, none⟩ (.int .i64 ((rd_T129 t464 x11_1).f0))).setCell ⟨gb468, 1, none⟩ (.int .i64 ((rd_T129 t464 x11_1).f1))).setCell ⟨gb468, 2, none⟩ (.int .i64 ((rd_T129 t464 x11_1).f2))).setCell ⟨gb468, 3, none⟩ (.int .i64 ((rd_T129 t464 x11_1).f3))).setCell ⟨gb468, 4, none⟩ (.int .i64 ((rd_T129 t464 x11_1).f4))).setCell ⟨gb468, 5, none⟩ (.int .i64 ((rd_T129 t464 x11_1).f5))).setCell ⟨gb468, 6, none⟩ (.int .i64 ((rd_T129 t464 x11_1).f6))).heap[gb460]? = some (.cells #[.slice A0_0 l0_0.length c0_0, .int .i64 a0_1, .int .i64 a0_2, .int .i64 a0_3, .slice A0_4 l0_4.length c0_4, .bool a0_5, .slice A0_6 l0_6.length c0_6, .slice A0_7 l0_7.length c0_7, .slice A0_8 l0_8.length c0_8] 37 (0, 0))) := ⟨bk BK460.out⟩
                have n3_ : Aside0 ((((((((w14.setCell ⟨gb468, 0, none⟩ (.int .i64 ((rd_T129 t464 x11_1).f0))).setCell ⟨gb468, 1, none⟩ (.int .i64 ((rd_T129 t464 x11_1).f1))).setCell ⟨gb468, 2, none⟩ (.int .i64 ((rd_T129 t464 x11_1).f2))).setCell ⟨gb468, 3, none⟩ (.int .i64 ((rd_T129 t464 x11_1).f3))).setCell ⟨gb468, 4, none⟩ (.int .i64 ((rd_T129 t464 x11_1).f4))).setCell ⟨gb468, 5, none⟩ (.int .i64 ((rd_T129 t464 x11_1).f5))).setCell ⟨gb468, 6, none⟩ (.int .i64 ((rd_T129 t464 x11_1).f6))).heap[gb468]? = some (.cells #[.int .i64 ((rd_T129 t464 x11_1).f0), .int .i64 ((rd_T129 t464 x11_1).f1), .int .i64 ((rd_T129 t464 x11_1).f2), .int .i64 ((rd_T129 t464 x11_1).f3), .int .i64 ((rd_T129 t464 x11_1).f4), .int .i64 ((rd_T129 t464 x11_1).f5), .int .i64 ((rd_T129 t464 x11_1).f6)] 129 (0, 0))) := ⟨by (with_reducible repeat (first | refine blk_drewN ?_ _ | refine blk_drew ?_ | refine blk_alloc ?_ _)); refine blk_put (cs := #[.int .i64 ((rd_T129 t464 x11_1).f0), .int .i64 ((rd_T129 t464 x11_1).f1), .int .i64 ((rd_T129 t464 x11_1).f2), .int .i64 ((rd_T129 t464 x11_1).f3), .int .i64 ((rd_T129 t464 x11_1).f4), .int .i64 ((rd_T129 t464 x11_1).f5), .int .i64 0]) ?_ 6 _ rfl; (with_reducible repeat (first | refine blk_drewN ?_ _ | refine blk_drew ?_ | refine blk_alloc ?_ _)); refine blk_put (cs := #[.int .i64 ((rd_T129 t464 x11_1).f0), .int .i64 ((rd_T129 t464 x11_1).f1), .int .i64 ((rd_T129 t464 x11_1).f2), .int .i64 ((rd_T129 t464 x11_1).f3), .int .i64 ((rd_T129 t464 x11_1).f4), .int .i64 0, .int .i64 0]) ?_ 5 _ rfl; (with_reducible repeat (first | refine blk_drewN ?_ _ | refine blk_drew ?_ | refine blk_alloc ?_ _)); refine blk_put (cs := #[.int .i64 ((rd_T129 t464 x11_1).f0), .int .i64 ((rd_T129 t464 x11_1).f1), .int .i64 ((rd_T129 t464 x11_1).f2), .int .i64 ((rd_T129 t464 x11_1).f3), .int .i64 0, .int .i64 0, .int .i64 0]) ?_ 4 _ rfl; (with_reducible repeat (first | refine blk_drewN ?_ _ | refine blk_drew ?_ | refine blk_alloc ?_ _)); refine blk_put (cs := #[.int .i64 ((rd_T129 t464 x11_1).f0), .int .i64 ((rd_T129 t464 x11_1).f1), .int .i64 ((rd_T129 t464 x11_1).f2), .int .i64 0, .int .i64 0, .int .i64 0, .int .i64 0]) ?_ 3 _ rfl; (with_reducible repeat (first | refine blk_drewN ?_ _ | refine blk_drew ?_ | refine blk_alloc ?_ _)); refine blk_put (cs := #[.int .i64 ((rd_T129 t464 x11_1).f0), .int .i64 ((rd_T129 t464 x11_1).f1), .int .i64 0, .int .i64 0, .int .i64 0, .int .i64 0, .int .i64 0]) ?_ 2 _ rfl; (with_reducible repeat (first | refine blk_drewN ?_ _ | refine blk_drew ?_ | refine blk_alloc ?_ _)); refine blk_put (cs := #[.int .i64 ((rd_T129 t464 x11_1).f0), .int .i64 0, .int .i64 0, .int .i64 0, .int .i64 0, .int .i64 0, .int .i64 0]) ?_ 1 _ rfl; (with_reducible repeat (first | refine blk_drewN ?_ _ | refine blk_drew ?_ | refine blk_alloc ?_ _)); refine blk_put (cs := #[.int .i64 0, .int .i64 0, .int .i64 0, .int .i64 0, .int .i64 0, .int .i64 0, .int .i64 0]) ?_ 0 _ rfl; (with_reducible repeat (first | refine blk_drewN ?_ _ | refine blk_drew ?_ | refine blk_alloc ?_ _)); exact BK468.out⟩
                have n4_ : Aside0 (Below w.heap.size w (((((((w14.setCell ⟨gb468, 0, none⟩ (.int .i64 ((rd_T129 t464 x11_1).f0))).setCell ⟨gb468, 1, none⟩ (.int .i64 ((rd_T129 t464 x11_1).f1))).setCell ⟨gb468, 2, none⟩ (.int .i64 ((rd_T129 t464 x11_1).f2))).setCell ⟨gb468, 3, none⟩ (.int .i64 ((rd_T129 t464 x11_1).f3))).setCell ⟨gb468, 4, none⟩ (.int .i64 ((rd_T129 t464 x11_1).f4))).setCell ⟨gb468, 5, none⟩ (.int .i64 ((rd_T129 t464 x11_1).f5))).setCell ⟨gb468, 6, none⟩ (.int .i64 ((rd_T129 t464 x11_1).f6)))) := ⟨bel⟩
                (try clear HO_3)
                (try clear HO_9)
                (try clear BK460)
                (try clear BK468)
                (try clear HB)
                generalize (((((((w14.setCell ⟨gb468, 0, none⟩ (.int .i64 ((rd_T129 t464 x11_1).f0))).setCell ⟨gb468, 1, none⟩ (.int .i64 ((rd_T129 t464 x11_1).f1))).setCell ⟨gb468, 2, none⟩ (.int .i64 ((rd_T129 t464 x11_1).f2))).setCell ⟨gb468, 3, none⟩ (.int .i64 ((rd_T129 t464 x11_1).f3))).setCell ⟨gb468, 4, none⟩ (.int .i64 ((rd_T129 t464 x11_1).f4))).setCell ⟨gb468, 5, none⟩ (.int .i64 ((rd_T129 t464 x11_1).f5))).setCell ⟨gb468, 6, none⟩ (.int .i64 ((rd_T129 t464 x11_1).f6))) = w17 at n0_ n1_ n2_ n3_ n4_ ⊢
                have HO_3 := n0_
                have HO_9 := n1_
                have BK460 := n2_
                have BK468 := n3_
                have HB := n4_
                clear n0_ n1_ n2_ n3_ n4_
                replace HO_3 := Aside0.mk (Kd.R_drew HO_3.out)
                replace HO_9 := Aside0.mk (Kd.R_drew HO_9.out)
                replace BK460 := Aside0.mk (blk_drew BK460.out)
                replace BK468 := Aside0.mk (blk_drew BK468.out)
                replace HB := Aside0.mk (below_drew1 HB.out)
                have p469 : 0 ≤ (x11_1 : Int) := asm
                have q469 : x11_1 < (l0_8.length : Int) := asm
                obtain ⟨ad469, e469, hx469_0⟩ := Kd.at_int HR0_8.out x11_1 p469 q469
                have hw469_0 := hx469_0
                cases e469
                replace hx469_0 := hcl HB.out hx469_0
                replace p469 := eq_true p469
                replace q469 := eq_true q469
                refine start_ (n := 12) (S := fun w' => w'.cell? ⟨gb468, 0, none⟩ = some (.int .i64 ((rd_T129 t464 x11_1).f0)) ∧ w'.cell? ⟨gb468, 1, none⟩ = some (.int .i64 ((rd_T129 t464 x11_1).f1)) ∧ w'.cell? ⟨gb468, 2, none⟩ = some (.int .i64 ((rd_T129 t464 x11_1).f2)) ∧ w'.cell? ⟨gb468, 3, none⟩ = some (.int .i64 ((rd_T129 t464 x11_1).f3)) ∧ w'.cell? ⟨gb468, 4, none⟩ = some (.int .i64 ((rd_T129 t464 x11_1).f4)) ∧ w'.cell? ⟨gb468, 5, none⟩ = some (.int .i64 ((rd_T129 t464 x11_1).f5)) ∧ w'.cell? ⟨gb468, 6, none⟩ = some (.int .i64 ((rd_T129 t464 x11_1).f6)) ∧ w'.cell? ⟨gb460, 0, none⟩ = some (.slice A0_0 l0_0.length c0_0) ∧ w'.cell? ⟨gb460, 1, none⟩ = some (.int .i64 a0_1) ∧ w'.cell? ⟨gb460, 2, none⟩ = some (.int .i64 a0_2) ∧ w'.cell? ⟨gb460, 3, none⟩ = some (.int .i64 a0_3) ∧ w'.cell? ⟨gb460, 4, none⟩ = some (.slice A0_4 l0_4.length c0_4) ∧ w'.cell? ⟨gb460, 5, none⟩ = some (.bool a0_5) ∧ w'.cell? ⟨gb460, 6, none⟩ = some (.slice A0_6 l0_6.length c0_6) ∧ w'.cell? ⟨gb460, 7, none⟩ = some (.slice A0_7 l0_7.length c0_7) ∧ w'.cell? ⟨gb460, 8, none⟩ = some (.slice (some ad469) l0_8.length c0_8) ∧ w'.cell? (ad469.add (x11_1).toNat) = some (.int .i64 (rd l0_8 x11_1))) (ds := []) #[false, false, false, false, false, false, false, false, false, false, false, false] (by kernel_rfl) rfl rfl ⟨(blk_cell BK468.out 0).trans rfl, (blk_cell BK468.out 1).trans rfl, (blk_cell BK468.out 2).trans rfl, (blk_cell BK468.out 3).trans rfl, (blk_cell BK468.out 4).trans rfl, (blk_cell BK468.out 5).trans rfl, (blk_cell BK468.out 6).trans rfl, (blk_cell BK460.out 0).trans rfl, (blk_cell BK460.out 1).trans rfl, (blk_cell BK460.out 2).trans rfl, (blk_cell BK460.out 3).trans rfl, (blk_cell BK460.out 4).trans rfl, (blk_cell BK460.out 5).trans rfl, (blk_cell BK460.out 6).trans rfl, (blk_cell BK460.out 7).trans rfl, (blk_cell BK460.out 8).trans rfl, ((HB.out.cell (World.block_lt_of_cell? w _ hw469_0)).trans hw469_0)⟩ (fun hHeld => ?_); refine with_tabW impl_points.tab5 impl_points.bits5 (fun HT_ HW_ => ?_)
                generalize w17.drew = w18 at HO_3 HO_9 BK460 BK468 HB hx469_0 hHeld ⊢
                refine pure_ (i := 0) (N := some 16) (v := ?_) (a' := ?_) #[true, false, false, false, false, false, false, false, false, false, false, false] rfl rfl (any_of HT_.out (by kernel_rfl)) (fun _ _ _ h => h) (Or.inl ⟨by rfl, ?_⟩) ?_ ?_
                rotate_left
                · intro w'
                  go_simp
                  with_reducible rfl
                rotate_left
                · simp only [Act.put, List.setIfInBounds_toArray, List.set_cons_zero, List.set_cons_succ, i64_w, i32_w]
                  rfl
                refine pure_ (i := 1) (N := some 17) (v := ?_) (a' := ?_) #[true, true, false, false, false, false, false, false, false, false, false, false] rfl rfl (any_of HT_.out (by kernel_rfl)) (fun _ _ _ h => h) (Or.inl ⟨by rfl, ?_⟩) ?_ ?_
                rotate_left
                · intro w'
                  go_simp
                  with_reducible rfl
                rotate_left
                · simp only [Act.put, List.setIfInBounds_toArray, List.set_cons_zero, List.set_cons_succ, i64_w, i32_w]
                  rfl
                refine pure_ (i := 3) (N := some 19) (v := ?_) (a' := ?_) #[true, true, false, true, false, false, false, false, false, false, false, false] rfl rfl (any_of HT_.out (by kernel_rfl)) (fun _ _ _ h => h) (Or.inl ⟨by rfl, ?_⟩) ?_ ?_
                rotate_left
                · intro w'
                  go_simp
                  with_reducible rfl
                rotate_left
                · simp only [Act.put, List.setIfInBounds_toArray, List.set_cons_zero, List.set_cons_succ, i64_w, i32_w]
                  rfl
                refine pure_ (i := 5) (N := some 21) (v := ?_) (a' := ?_) #[true, true, false, true, false, true, false, false, false, false, false, false] rfl rfl (any_of HT_.out (by kernel_rfl)) (fun _ _ _ h => h) (Or.inl ⟨by rfl, ?_⟩) ?_ ?_
                rotate_left
                · intro w'
                  go_simp
                  with_reducible rfl
                rotate_left
                · simp only [Act.put, List.setIfInBounds_toArray, List.set_cons_zero, List.set_cons_succ, i64_w, i32_w]
                  rfl
                refine take_ (i := 2) (N := some 18) (v := ?_) (a' := ?_) #[true, true, true, true, false, true, false, false, false, false, false, false] rfl rfl (take_ofW HT_.out HW_.out (by kernel_rfl)) (fun _ _ _ h => h) (Or.inl ⟨by rfl, ?_⟩) hHeld ?_ ?_
                rotate_left
                · rintro w' ⟨s0, s1, s2, s3, s4, s5, s6, s7, s8, s9, s10, s11, s12, s13, s14, s15, s16⟩
                  go_simp
                  with_reducible rfl
                rotate_left
                · simp only [Act.put, List.setIfInBounds_toArray, List.set_cons_zero, List.set_cons_succ, i64_w, i32_w]
                  rfl
                refine take_ (i := 4) (N := some 20) (v := ?_) (a' := ?_) #[true, true, true, true, true, true, false, false, false, false, false, false] rfl rfl (take_ofW HT_.out HW_.out (by kernel_rfl)) (fun _ _ _ h => h) (Or.inl ⟨by rfl, ?_⟩) hHeld ?_ ?_
                rotate_left
                · rintro w' ⟨s0, s1, s2, s3, s4, s5, s6, s7, s8, s9, s10, s11, s12, s13, s14, s15, s16⟩
                  go_simp
                  with_reducible rfl
                rotate_left
                · simp only [Act.put, List.setIfInBounds_toArray, List.set_cons_zero, List.set_cons_succ, i64_w, i32_w]
                  rfl
                refine pure_ (i := 6) (N := some 22) (v := ?_) (a' := ?_) #[true, true, true, true, true, true, true, false, false, false, false, false] rfl rfl (any_of HT_.out (by kernel_rfl)) (fun _ _ _ h => h) (Or.inl ⟨by rfl, ?_⟩) ?_ ?_
                rotate_left
                · intro w'
                  go_simp
                  with_reducible rfl
                rotate_left
                · simp only [Act.put, List.setIfInBounds_toArray, List.set_cons_zero, List.set_cons_succ, i64_w, i32_w]
                  rfl
                refine take_ (i := 7) (N := some 23) (v := ?_) (a' := ?_) #[true, true, true, true, true, true, true, true, false, false, false, false] rfl rfl (take_ofW HT_.out HW_.out (by kernel_rfl)) (fun _ _ _ h => h) (Or.inl ⟨by rfl, ?_⟩) hHeld ?_ ?_
                rotate_left
                · rintro w' ⟨s0, s1, s2, s3, s4, s5, s6, s7, s8, s9, s10, s11, s12, s13, s14, s15, s16⟩
                  go_simp
                  with_reducible rfl
                rotate_left
                · simp only [Act.put, List.setIfInBounds_toArray, List.set_cons_zero, List.set_cons_succ, i64_w, i32_w]
                  rfl
                refine pure_ (i := 8) (N := some 24) (v := ?_) (a' := ?_) #[true, true, true, true, true, true, true, true, true, false, false, false] rfl rfl (any_of HT_.out (by kernel_rfl)) (fun _ _ _ h => h) (Or.inl ⟨by rfl, ?_⟩) ?_ ?_
                rotate_left
                · intro w'
                  go_simp
                  with_reducible rfl
                rotate_left
                · simp only [Act.put, List.setIfInBounds_toArray, List.set_cons_zero, List.set_cons_succ, i64_w, i32_w]
                  rfl
                refine one_ (i := 9) (N := some 25) #[true, true, true, true, true, true, true, true, true, true, false, false] rfl rfl (one_of HT_.out (by kernel_rfl)) (by decide) (fun K hK => ?_)
                refine value_ (w1 := ?_) (v := ?_) (by rfl) rfl ?_ ?_
                rotate_left 2
                · go_simp
                  constructor
                  · rfl
                  · rfl
                refine hK.out _ _ ⟨(blk_cell (blk_alloc BK468.out _) 0).trans rfl, (blk_cell (blk_alloc BK468.out _) 1).trans rfl, (blk_cell (blk_alloc BK468.out _) 2).trans rfl, (blk_cell (blk_alloc BK468.out _) 3).trans rfl, (blk_cell (blk_alloc BK468.out _) 4).trans rfl, (blk_cell (blk_alloc BK468.out _) 5).trans rfl, (blk_cell (blk_alloc BK468.out _) 6).trans rfl, (blk_cell (blk_alloc BK460.out _) 0).trans rfl, (blk_cell (blk_alloc BK460.out _) 1).trans rfl, (blk_cell (blk_alloc BK460.out _) 2).trans rfl, (blk_cell (blk_alloc BK460.out _) 3).trans rfl, (blk_cell (blk_alloc BK460.out _) 4).trans rfl, (blk_cell (blk_alloc BK460.out _) 5).trans rfl, (blk_cell (blk_alloc BK460.out _) 6).trans rfl, (blk_cell (blk_alloc BK460.out _) 7).trans rfl, (blk_cell (blk_alloc BK460.out _) 8).trans rfl, (World.cell?_alloc_lt _ _ _ (World.block_lt_of_cell? _ _ (((HB.out.cell (World.block_lt_of_cell? w _ hw469_0)).trans hw469_0)))).trans (((HB.out.cell (World.block_lt_of_cell? w _ hw469_0)).trans hw469_0))⟩ (fun hHeld => ?_)
                clear hK K
                refine norm_ (a' := ?_) ?_ ?_
                rotate_left
                · show Act.put _ (some 25) _ = _
                  simp only [Act.put, List.setIfInBounds_toArray, List.set_cons_zero, List.set_cons_succ, i64_w, i32_w]
                  rfl
                refine one_ (i := 10) (N := some 26) #[true, true, true, true, true, true, true, true, true, true, true, false] rfl rfl (one_of HT_.out (by kernel_rfl)) (by decide) (fun K hK => ?_)
                refine Kd.R_append_step (Kd.int .i64) (w0 := w) w.heap.size (by rfl) (.tmp 16) (.tmp 25) 23 3 (.int .i64 0) 8 rfl Try.underlying23 info3 rfl (by decide) (by omega) u3 x3_1 (wrap64 (((rd_T129 t464 x11_1).f6) - (rd l0_8 x11_1))) [.int .i64 (wrap64 (((rd_T129 t464 x11_1).f6) - (rd l0_8 x11_1)))] (fun _ => True) (fun _ => False) rfl rfl ?aP (fun _ hk => hk.elim) ?aF ?aO ?aB ?aS ?aL ?_
                (case aP => exact rfl)
                (case aB => exact bel)
                (case aF => exact (fun _ _ => trivial))
                (case aO => exact (rk HO_3.out))
                (case aS => exact (below_size bel))
                (case aL => have := LMc13.out; omega)
                intro v471 w19 ho hb hg hat
                rw [← Ny470.out] at ho
                have n0_ := Aside0.mk (Kd.R_over' (rk HO_9.out) (Kd.R_typed (rk HO_3.out)) (by decide) hg)
                have n1_ := Aside0.mk (blk_grown (g := gb460) (o := .cells #[.slice A0_0 l0_0.length c0_0, .int .i64 a0_1, .int .i64 a0_2, .int .i64 a0_3, .slice A0_4 l0_4.length c0_4, .bool a0_5, .slice A0_6 l0_6.length c0_6, .slice A0_7 l0_7.length c0_7, .slice (some ad469) l0_8.length c0_8] 37 (0, 0)) (bk BK460.out) hg (Kd.R_ne HO_3.out BK460.out (by decide)))
                have n2_ := Aside0.mk (blk_grown (g := gb468) (o := .cells #[.int .i64 ((rd_T129 t464 x11_1).f0), .int .i64 ((rd_T129 t464 x11_1).f1), .int .i64 ((rd_T129 t464 x11_1).f2), .int .i64 ((rd_T129 t464 x11_1).f3), .int .i64 ((rd_T129 t464 x11_1).f4), .int .i64 ((rd_T129 t464 x11_1).f5), .int .i64 ((rd_T129 t464 x11_1).f6)] 129 (0, 0)) (bk BK468.out) hg (Kd.R_ne HO_3.out BK468.out (by decide)))
                have n3_ := Aside0.mk (hb)
                have n4_ := Aside0.mk (ho)
                clear HO_9
                clear BK460
                clear BK468
                clear HB
                clear HO_3
                have HO_9 := n0_
                have BK460 := n1_
                have BK468 := n2_
                have HB := n3_
                have HO472 := n4_
                clear n0_ n1_ n2_ n3_ n4_
                clear ho hb hg hat
                refine hK.out _ _ ⟨(blk_cell BK468.out 0).trans rfl, (blk_cell BK468.out 1).trans rfl, (blk_cell BK468.out 2).trans rfl, (blk_cell BK468.out 3).trans rfl, (blk_cell BK468.out 4).trans rfl, (blk_cell BK468.out 5).trans rfl, (blk_cell BK468.out 6).trans rfl, (blk_cell BK460.out 0).trans rfl, (blk_cell BK460.out 1).trans rfl, (blk_cell BK460.out 2).trans rfl, (blk_cell BK460.out 3).trans rfl, (blk_cell BK460.out 4).trans rfl, (blk_cell BK460.out 5).trans rfl, (blk_cell BK460.out 6).trans rfl, (blk_cell BK460.out 7).trans rfl, (blk_cell BK460.out 8).trans rfl, ((HB.out.cell (World.block_lt_of_cell? w _ hw469_0)).trans hw469_0)⟩ (fun hHeld => ?_)
                clear hK K
                refine norm_ (a' := ?_) ?_ ?_
                rotate_left
                · show Act.put _ (some 26) _ = _
                  simp only [Act.put, List.setIfInBounds_toArray, List.set_cons_zero, List.set_cons_succ, i64_w, i32_w]
                  rfl
                refine pure_ (i := 11) (N := some 3) (v := ?_) (a' := ?_) #[true, true, true, true, true, true, true, true, true, true, true, true] rfl rfl (any_of HT_.out (by kernel_rfl)) (fun _ _ _ h => h) (Or.inl ⟨by rfl, ?_⟩) ?_ ?_
                rotate_left
                · intro w'
                  go_simp
                  with_reducible rfl
                rotate_left
                · simp only [Act.put, List.setIfInBounds_toArray, List.set_cons_zero, List.set_cons_succ, i64_w, i32_w]
                  rfl
                refine done_ (done_of HT_.out (by kernel_rfl)) ?_
                try go_wp2
                go_roundg k1
                case measure => have := HK1.out; omega
                case rel => exact ⟨(y470), (wrap64 (x11_1 + 1)), (es), H', ⟨by have := HK1.out; omega⟩, ⟨rk HO472.out⟩, ⟨by (with_reducible repeat (first | apply Kd.R_alloc | apply Kd.R_drewN | apply Kd.R_drew)); exact Kd.R_mono HO_9.out (fun _ hk => trivial)⟩, ⟨bk BK460.out⟩, ⟨bel⟩⟩
              · rw [if_neg c13] at H
                exact absurd H (by simp)
            · rw [if_neg c12] at H
              exact absurd H (by simp)
          · rw [if_neg c11] at H
            exact absurd H (by simp)
        · rw [if_neg c10] at H
          exact absurd H (by simp)
      · rw [if_neg c9] at H
        have c9b0 : decide (x11_1 < (t464.length : Int)) = false := decide_eq_false c9
        clear c9
        obtain rfl := Option.some.inj H
        go_wp2
        go_ret
        exact ⟨_, er, rk HO_3.out, bel⟩

end Go.Proofs.Ytgalpgakdcfilaa.Q
