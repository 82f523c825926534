-- Written by a program of this session (wip/xp.py, over the kit's print) out of the translation: functions, and the walks that show them.
import Derived.Test.YtgalpgakdcfilaaQ0
import Derived.Test.YtgalpgakdcfilaaQ22
namespace Go.Proofs.Ytgalpgakdcfilaa.Q
open Go.RowKit Go.Proofs.YtgalpgakdcfilaaW.PrintWords Go.Proofs.YtgalpgakdcfilaaW.PrintLast Go.Proofs.YtgalpgakdcfilaaW.PrintMore
attribute [local go_sem] max2_int min2_int max_two min_two max_three min_three max_four min_four   -- for this text's walks alone
set_option linter.unusedVariables false
set_option linter.unusedSimpArgs false

def spec_l18Points.l0 : Nat → List Int → List (S129) → Int → Int → List (S101) → Int → Int → Int → List Int → Bool → List (S71) → List Int → List Int → Option (List Int)
  | 0, _, _, _, _, _, _, _, _, _, _, _, _, _ => none
  | k + 1, x3, x14, x15, x16, x343000, x343001, x343002, x343003, x343004, x343005, x343006, x343007, x343008 => if x16 < x15 then (if 0 ≤ x16 then (if x16 < (x14.length : Int) then (if x16 < (x343008.length : Int) then (if x3.length < 17592186044416 then (spec_l18Points.l0 k (x3 ++ [wrap64 (((rd_T129 x14 x16).f6) - (rd x343008 x16))]) x14 x15 (wrap64 (x16 + 1)) x343000 x343001 x343002 x343003 x343004 x343005 x343006 x343007 x343008) else (none)) else (none)) else (none)) else (none)) else (some x3)
def spec_l18Points.f (k : Nat) (l0_0 : List (S101)) (a0_1 : Int) (a0_2 : Int) (a0_3 : Int) (l0_4 : List Int) (a0_5 : Bool) (l0_6 : List (S71)) (l0_7 : List Int) (l0_8 : List Int) : Option (List Int) := (spec_l06Among.f k a0_1 a0_2 a0_3 l0_4 a0_5 (l0_0.length : Int) l0_6 ([] : List Int) true).bind fun t346 => (spec_l18Points.l0 k (([] : List Int)) t346 (t346.length : Int) 0 l0_0 a0_1 a0_2 a0_3 l0_4 a0_5 l0_6 l0_7 l0_8)
def spec_l18Points.T5 : Bool × List (List Nat × List Nat) := (true, [([], []), ([], []), ([1], [1]), ([], []), ([3], [3]), ([], []), ([4, 5], [4, 5]), ([6], [6]), ([2, 7], [2, 7]), ([8], [8]), ([0, 9], [0, 9]), ([10, 10, 0, 1, 2, 3, 4, 5, 6, 7, 8, 9, 10], [0, 10])])
def spec_l18Points.B5 : List Nat := [0, 0, 2, 0, 8, 0, 56, 120, 254, 510, 1023, 2047]
theorem spec_l18Points.tab5 : rtab .any (opsOf Try.f108 5) = spec_l18Points.T5 := by kernel_rfl
theorem spec_l18Points.bits5 : waitsOk spec_l18Points.T5.2 spec_l18Points.B5 = true := by kernel_rfl
set_option maxHeartbeats 8000000 in
set_option maxRecDepth 100000 in
theorem spec_l18Points.calls (k : Nat) (A0_0 : Option Addr) (c0_0 : Nat) (l0_0 : List (S101)) (a0_1 : Int) (a0_2 : Int) (a0_3 : Int) (A0_4 : Option Addr) (c0_4 : Nat) (l0_4 : List Int) (a0_5 : Bool) (A0_6 : Option Addr) (c0_6 : Nat) (l0_6 : List (S71)) (A0_7 : Option Addr) (c0_7 : Nat) (l0_7 : List Int) (A0_8 : Option Addr) (c0_8 : Nat) (l0_8 : List Int) (r : List Int) (w : World) (hr0_0 : Kd.C k101 w A0_0 l0_0.length l0_0) (hc0_0 : l0_0.length ≤ c0_0) (hr0_4 : Kd.C (Kd.int .i64) w A0_4 l0_4.length l0_4) (hc0_4 : l0_4.length ≤ c0_4) (hr0_6 : Kd.C k71 w A0_6 l0_6.length l0_6) (hc0_6 : l0_6.length ≤ c0_6) (hr0_7 : Kd.C (Kd.int .i64) w A0_7 l0_7.length l0_7) (hc0_7 : l0_7.length ≤ c0_7) (hr0_8 : Kd.C (Kd.int .i64) w A0_8 l0_8.length l0_8) (hc0_8 : l0_8.length ≤ c0_8) (h : spec_l18Points.f k l0_0 a0_1 a0_2 a0_3 l0_4 a0_5 l0_6 l0_7 l0_8 = some r) :
    Calls Try.prog 108 #[.agg #[.slice A0_0 l0_0.length c0_0, .int .i64 a0_1, .int .i64 a0_2, .int .i64 a0_3, .slice A0_4 l0_4.length c0_4, .bool a0_5, .slice A0_6 l0_6.length c0_6, .slice A0_7 l0_7.length c0_7, .slice A0_8 l0_8.length c0_8]] w fun e w' => ∃ v0_ : Value, e = .returned (v0_) ∧ Kd.R (Kd.int .i64) 3 w' w.heap.size (fun _ => True) v0_ r ∧ Below w.heap.size w w' := by
  have hu37 := Try.underlying37
  have hu34 := Try.underlying34
  have hu129 := Try.underlying129
  have HR0_0 := Aside0.mk hr0_0
  have HC0_0 := Aside0.mk hc0_0
  clear hr0_0 hc0_0
  have HR0_4 := Aside0.mk hr0_4
  have HC0_4 := Aside0.mk hc0_4
  clear hr0_4 hc0_4
  have HR0_6 := Aside0.mk hr0_6
  have HC0_6 := Aside0.mk hc0_6
  clear hr0_6 hc0_6
  have HR0_7 := Aside0.mk hr0_7
  have HC0_7 := Aside0.mk hc0_7
  clear hr0_7 hc0_7
  have HR0_8 := Aside0.mk hr0_8
  have HC0_8 := Aside0.mk hc0_8
  clear hr0_8 hc0_8
  have HB := Aside0.mk (Below.refl w.heap.size w)
  have H : ((spec_l06Among.f k a0_1 a0_2 a0_3 l0_4 a0_5 (l0_0.length : Int) l0_6 ([] : List Int) true).bind fun t346 => (spec_l18Points.l0 k (([] : List Int)) t346 (t346.length : Int) 0 l0_0 a0_1 a0_2 a0_3 l0_4 a0_5 l0_6 l0_7 l0_8)) = some r := h
  clear h
  obtain ⟨y343, hy343⟩ : ∃ y_ : List Int, y_ = (([] : List Int)) := ⟨_, rfl⟩
  replace H : ((spec_l06Among.f k a0_1 a0_2 a0_3 l0_4 a0_5 (l0_0.length : Int) l0_6 ([] : List Int) true).bind fun t346 => (spec_l18Points.l0 k y343 t346 (t346.length : Int) 0 l0_0 a0_1 a0_2 a0_3 l0_4 a0_5 l0_6 l0_7 l0_8)) = some r := by first | (rw [hy343]; with_reducible exact H) | (have H2_ := (Option.bind_some _ _).symm.trans H; rw [hy343]; with_reducible exact H2_) | (have H2_ := (Option.bind_some _ _).symm.trans H; with_reducible exact H2_) | with_reducible exact H | (rw [hy343]; exact H) | exact H
  have Ny343 := Aside0.mk hy343
  clear hy343
  replace H := Option.bind_eq_some_iff.mp H
  obtain ⟨t346, A20, H⟩ := H
  replace H : (spec_l18Points.l0 k y343 t346 (t346.length : Int) 0 l0_0 a0_1 a0_2 a0_3 l0_4 a0_5 l0_6 l0_7 l0_8) = some r := H
  have A2 := Aside0.mk A20
  clear A20
  have H' := Aside0.mk H
  clear H
  go_enter Try.func108, Try.ntmps108
  go_wp2_with (first | ((with_reducible refine gate_dst (N := 1) rfl ?_); refine box_event ?hg (N := 1) ?hd (cs := #[.slice A0_0 l0_0.length c0_0, .int .i64 a0_1, .int .i64 a0_2, .int .i64 a0_3, .slice A0_4 l0_4.length c0_4, .bool a0_5, .slice A0_6 l0_6.length c0_6, .slice A0_7 l0_7.length c0_7, .slice A0_8 l0_8.length c0_8]) (t := 37) ?hr ?_; (case hd => rfl); (case hg => rfl); (case hr => first | (go_simp; done) | (go_simp; rfl)); intro gb342 hg w3 hbox hb; have BK342 := Aside0.mk (hbox); have GW342 := Aside0.mk ((bsz hg : w.heap.size ≤ gb342)); have GE342 := Aside0.mk ((bsz hg : w.heap.size ≤ gb342)); replace HB := Aside0.mk (below_step bel hb); clear hb hbox hg) | ((with_reducible refine gate_dst (N := 6) rfl ?_); refine Kd.R_lit (Kd.int .i64) _ 3 ?hg (N := 6) ?hd (xs := ([] : List Int)) (inner := []) (ok := fun _ => True) (okp := fun _ => True) ?hr ?hp (fun _ hk => hk) trivial (Below.refl _ _) (Nat.le_refl _) (by simp) ?_; (case hd => rfl); (case hg => rfl); (case hr => first | (go_simp; done) | (go_simp; rfl)); (case hp => exact (Reps.none _ _)); intro v344 w4 ho5 hb hg_ hnew_; clear hg_ hnew_; (first | rw [← Ny343.out] at ho5 | (simp only [Int.reduceToNat] at ho5; rw [← Ny343.out] at ho5)); have HO345 := Aside0.mk (Kd.R_lower ho5 (below_size bel)); replace BK342 := Aside0.mk (bb BK342.out hb); replace HB := Aside0.mk (below_step bel hb); clear hb ho5; obtain ⟨hcz6_0, hcz6_1, hcz6_2, hcz6_3, hcz6_4, hcz6_5, hcz6_6, hcz6_7, hcz6_8, hfz6_0, hfz6_1, hfz6_2, hfz6_3, hfz6_4, hfz6_5, hfz6_6, hfz6_7, hfz6_8⟩ := cf9 BK342.out) | ((with_reducible refine gate_callee (f := 128) rfl ?_); refine goesL_ (some 14) rfl rfl Try.func128 (by kernel_rfl) rfl #[.agg #[.int .i64 a0_1, .int .i64 a0_2, .int .i64 a0_3, .slice A0_4 l0_4.length c0_4, .bool a0_5], .int .i64 (l0_0.length : Int), .slice A0_6 l0_6.length c0_6, .slice none 0 0, .bool true] rfl ga ?_; (refine (spec_l06Among.calls k a0_1 a0_2 a0_3 _ _ l0_4 a0_5 (l0_0.length : Int) _ _ l0_6 _ _ ([] : List Int) true t346 _ ?side1 ?side2 ?side3 ?side4 ?side5 ?side6 A2.out).mono ?_); (case side1 => exact ck (Kd.C_below HR0_4.out HB.out)); (case side2 => exact HC0_4.out); (case side3 => exact ck (Kd.C_below HR0_6.out HB.out)); (case side4 => exact HC0_6.out); (case side5 => exact Kd.C_nil _ _); (case side6 => exact Nat.le_refl _); rintro e w7 ⟨v347, rfl, ho0, hb⟩; refine ⟨_, rfl, ?_⟩; have HO348 := Aside0.mk (Kd.R_lower ho0 (below_size bel)); replace HO345 := Aside0.mk (Kd.R_below (rk HO345.out) hb); replace BK342 := Aside0.mk (bb BK342.out hb); replace HB := Aside0.mk (below_step bel hb); (try clear hb); (try clear ho0); obtain ⟨Ao8, co8, eo8⟩ := Kd.R_slice HO348.out; subst eo8))
  go_loopg [3, 16] k (fun kq v3 v16 w' => ∃ (x3_1 : List Int) (x16_1 : Int), v16 = .int .i64 x16_1 ∧ Aside0 (spec_l18Points.l0 kq x3_1 t346 (t346.length : Int) x16_1 l0_0 a0_1 a0_2 a0_3 l0_4 a0_5 l0_6 l0_7 l0_8 = some r) ∧ Aside0 (kq ≤ k) ∧ Aside0 (Kd.R (Kd.int .i64) 3 w' w.heap.size (fun _ => True) v3 x3_1) ∧ Aside0 (Kd.R k129 129 w' w.heap.size (fun _ => True) (.slice Ao8 t346.length co8) t346) ∧ Aside0 (w'.heap[gb342]? = some (.cells #[(.slice A0_0 l0_0.length c0_0), .int .i64 a0_1, .int .i64 a0_2, .int .i64 a0_3, (.slice A0_4 l0_4.length c0_4), .bool a0_5, (.slice A0_6 l0_6.length c0_6), (.slice A0_7 l0_7.length c0_7), (.slice A0_8 l0_8.length c0_8)] 37 (0, 0))) ∧ Aside0 (Below w.heap.size w w'))
  case atStart => exact ⟨(y343), (0), (es), H', ⟨Nat.le_refl _⟩, ⟨rk HO345.out⟩, ⟨rk HO348.out⟩, ⟨bk BK342.out⟩, ⟨bel⟩⟩
  case round =>
    clear H'
    try clear c1; try clear p2; try clear hcz6_0; try clear hcz6_1; try clear hcz6_2; try clear hcz6_3; try clear hcz6_4; try clear hcz6_5; try clear hcz6_6; try clear hcz6_7; try clear hcz6_8; try clear hfz6_0; try clear hfz6_1; try clear hfz6_2; try clear hfz6_3; try clear hfz6_4; try clear hfz6_5; try clear hfz6_6; try clear hfz6_7; try clear hfz6_8
    obtain ⟨x3_1, x16_1, rfl, HA, HK1, HO_3, HO_14, BK342, HB⟩ := hrel
    cases gk with
    | zero => exact absurd HA.out (by simp [spec_l18Points.l0])
    | succ k1 =>
      have H := HA.out
      clear HA
      simp only [spec_l18Points.l0] at H
      by_cases c9 : x16_1 < (t346.length : Int)
      · rw [if_pos c9] at H
        have c9b0 : decide (x16_1 < (t346.length : Int)) = true := decide_eq_true c9
        clear c9
        by_cases c10 : 0 ≤ x16_1
        · rw [if_pos c10] at H
          have c10b0 : decide (0 ≤ x16_1) = true := decide_eq_true c10
          clear c10
          by_cases c11 : x16_1 < (t346.length : Int)
          · rw [if_pos c11] at H
            have c11b0 : decide (x16_1 < (t346.length : Int)) = true := decide_eq_true c11
            clear c11
            by_cases c12 : x16_1 < (l0_8.length : Int)
            · rw [if_pos c12] at H
              have c12b0 : decide (x16_1 < (l0_8.length : Int)) = true := decide_eq_true c12
              clear c12
              by_cases c13 : x3_1.length < 17592186044416
              · rw [if_pos c13] at H
                have LMc13 := Aside0.mk c13
                clear c13
                obtain ⟨y352, hy352⟩ : ∃ y_ : List Int, y_ = (x3_1 ++ [wrap64 (((rd_T129 t346 x16_1).f6) - (rd l0_8 x16_1))]) := ⟨_, rfl⟩
                replace H : (spec_l18Points.l0 k1 y352 t346 (t346.length : Int) (wrap64 (x16_1 + 1)) l0_0 a0_1 a0_2 a0_3 l0_4 a0_5 l0_6 l0_7 l0_8) = some r := by first | (rw [hy352]; with_reducible exact H) | (have H2_ := (Option.bind_some _ _).symm.trans H; rw [hy352]; with_reducible exact H2_) | (have H2_ := (Option.bind_some _ _).symm.trans H; with_reducible exact H2_) | with_reducible exact H | (rw [hy352]; exact H) | exact H
                have Ny352 := Aside0.mk hy352
                clear hy352
                have H' := Aside0.mk H
                clear H
                have p349 : 0 ≤ (x16_1 : Int) := asm
                have q349 : x16_1 < (t346.length : Int) := asm
                obtain ⟨ad349, e349, hx349_0, hx349_1, hx349_2, hx349_3, hx349_4, hx349_5, hx349_6⟩ := at_T129 (Kd.R_reads' HO_14.out).2.2 x16_1 p349 q349
                cases e349
                replace p349 := eq_true p349
                replace q349 := eq_true q349
                try go_wp2_with (first | ((with_reducible refine gate_dst (N := 5) rfl ?_); refine box_event ?hg (N := 5) ?hd (cs := #[.int .i64 0, .int .i64 0, .int .i64 0, .int .i64 0, .int .i64 0, .int .i64 0, .int .i64 0]) (t := 129) ?hr ?_; (case hd => rfl); (case hg => rfl); (case hr => first | (go_simp; done) | (go_simp; rfl)); intro gb350 hg w14 hbox hb; have BK350 := Aside0.mk (hbox); have GW350 := Aside0.mk ((bsz hg : w.heap.size ≤ gb350)); have GE350 := Aside0.mk ((bsz hg : w.heap.size ≤ gb350)); have NB342_350 := Aside0.mk ((nlt hg BK342.out : gb342 ≠ gb350)); have NB350_342 := Aside0.mk ((ngt hg BK342.out : gb350 ≠ gb342)); replace HO_3 := Aside0.mk (Kd.R_below (rk HO_3.out) hb); replace HO_14 := Aside0.mk (Kd.R_below (Kd.R_elderB (rk HO_14.out) gb350 (Nat.le_of_eq hg.symm)) hb); replace BK342 := Aside0.mk (bb BK342.out hb); replace HB := Aside0.mk (below_step bel hb); clear hb hbox hg; have hnb15 := NB350_342.out; have hnc15 := NB342_350.out; obtain ⟨hcz16_0, hcz16_1, hcz16_2, hcz16_3, hcz16_4, hcz16_5, hcz16_6, hfz16_0, hfz16_1, hfz16_2, hfz16_3, hfz16_4, hfz16_5, hfz16_6⟩ := cf7 BK350.out))
                have n0_ : Aside0 (Kd.R (Kd.int .i64) 3 (((((((w14.setCell ⟨gb350, 0, none⟩ (.int .i64 ((rd_T129 t346 x16_1).f0))).setCell ⟨gb350, 1, none⟩ (.int .i64 ((rd_T129 t346 x16_1).f1))).setCell ⟨gb350, 2, none⟩ (.int .i64 ((rd_T129 t346 x16_1).f2))).setCell ⟨gb350, 3, none⟩ (.int .i64 ((rd_T129 t346 x16_1).f3))).setCell ⟨gb350, 4, none⟩ (.int .i64 ((rd_T129 t346 x16_1).f4))).setCell ⟨gb350, 5, none⟩ (.int .i64 ((rd_T129 t346 x16_1).f5))).setCell ⟨gb350, 6, none⟩ (.int .i64 ((rd_T129 t346 x16_1).f6))) w.heap.size (fun _ => True) u3 x3_1) := ⟨by (with_reducible repeat (first | apply Kd.R_alloc | apply Kd.R_drewN | apply Kd.R_drew)); exact Kd.R_mono (Kd.R_far (p := ⟨gb350, 6, none⟩) (Kd.R_far (p := ⟨gb350, 5, none⟩) (Kd.R_far (p := ⟨gb350, 4, none⟩) (Kd.R_far (p := ⟨gb350, 3, none⟩) (Kd.R_far (p := ⟨gb350, 2, none⟩) (Kd.R_far (p := ⟨gb350, 1, none⟩) (Kd.R_far (p := ⟨gb350, 0, none⟩) (Kd.R_types HO_3.out BK350.out (by decide)) (fun _ hk => hk.2) (.int .i64 ((rd_T129 t346 x16_1).f0))) (fun _ hk => hk.2) (.int .i64 ((rd_T129 t346 x16_1).f1))) (fun _ hk => hk.2) (.int .i64 ((rd_T129 t346 x16_1).f2))) (fun _ hk => hk.2) (.int .i64 ((rd_T129 t346 x16_1).f3))) (fun _ hk => hk.2) (.int .i64 ((rd_T129 t346 x16_1).f4))) (fun _ hk => hk.2) (.int .i64 ((rd_T129 t346 x16_1).f5))) (fun _ hk => hk.2) (.int .i64 ((rd_T129 t346 x16_1).f6))) (fun _ hk => trivial)⟩
                have n1_ : Aside0 (Kd.R k129 129 (((((((w14.setCell ⟨gb350, 0, none⟩ (.int .i64 ((rd_T129 t346 x16_1).f0))).setCell ⟨gb350, 1, none⟩ (.int .i64 ((rd_T129 t346 x16_1).f1))).setCell ⟨gb350, 2, none⟩ (.int .i64 ((rd_T129 t346 x16_1).f2))).setCell ⟨gb350, 3, none⟩ (.int .i64 ((rd_T129 t346 x16_1).f3))).setCell ⟨gb350, 4, none⟩ (.int .i64 ((rd_T129 t346 x16_1).f4))).setCell ⟨gb350, 5, none⟩ (.int .i64 ((rd_T129 t346 x16_1).f5))).setCell ⟨gb350, 6, none⟩ (.int .i64 ((rd_T129 t346 x16_1).f6))) w.heap.size (fun k_ => k_ ≠ gb350) (.slice (some ad349) t346.length co8) t346) := ⟨by (with_reducible repeat (first | apply Kd.R_alloc | apply Kd.R_drewN | apply Kd.R_drew)); exact Kd.R_mono (Kd.R_far (p := ⟨gb350, 6, none⟩) (Kd.R_far (p := ⟨gb350, 5, none⟩) (Kd.R_far (p := ⟨gb350, 4, none⟩) (Kd.R_far (p := ⟨gb350, 3, none⟩) (Kd.R_far (p := ⟨gb350, 2, none⟩) (Kd.R_far (p := ⟨gb350, 1, none⟩) (Kd.R_far (p := ⟨gb350, 0, none⟩) (Kd.R_mono HO_14.out (fun k_ hk => (⟨hk, hk.2⟩ : _ ∧ k_ ≠ gb350))) (fun _ hk => hk.2) (.int .i64 ((rd_T129 t346 x16_1).f0))) (fun _ hk => hk.2) (.int .i64 ((rd_T129 t346 x16_1).f1))) (fun _ hk => hk.2) (.int .i64 ((rd_T129 t346 x16_1).f2))) (fun _ hk => hk.2) (.int .i64 ((rd_T129 t346 x16_1).f3))) (fun _ hk => hk.2) (.int .i64 ((rd_T129 t346 x16_1).f4))) (fun _ hk => hk.2) (.int .i64 ((rd_T129 t346 x16_1).f5))) (fun _ hk => hk.2) (.int .i64 ((rd_T129 t346 x16_1).f6))) (fun _ hk => hk.1.2)⟩
                have n2_ : Aside0 ((((((((w14.setCell ⟨gb350, 0, none⟩ (.int .i64 ((rd_T129 t346 x16_1).f0))).setCell ⟨gb350, 1, none⟩ (.int .i64 ((rd_T129 t346 x16_1).f1))).setCell ⟨gb350, 2, none⟩ (.int .i64 ((rd_T129 t346 x16_1).f2))).setCell ⟨gb350, 3, none⟩ (.int .i64 ((rd_T129 t346 x16_1).f3))).setCell ⟨gb350, 4, none⟩ (.int .i64 ((rd_T129 t346 x16_1).f4))).setCell ⟨gb350, 5, none⟩ (.int .i64 ((rd_T129 t346 x16_1).f5))).setCell ⟨gb350, 6, none⟩ (.int .i64 ((rd_T129 t346 x16_1).f6))).heap[gb342]? = some (.cells #[.slice A0_0 l0_0.length c0_0, .int .i64 a0_1, .int .i64 a0_2, .int .i64 a0_3, .slice A0_4 l0_4.length c0_4, .bool a0_5, .slice A0_6 l0_6.length c0_6, .slice A0_7 l0_7.length c0_7, .slice A0_8 l0_8.length c0_8] 37 (0, 0))) := ⟨bk BK342.out⟩
                have n3_ : Aside0 ((((((((w14.setCell ⟨gb350, 0, none⟩ (.int .i64 ((rd_T129 t346 x16_1).f0))).setCell ⟨gb350, 1, none⟩ (.int .i64 ((rd_T129 t346 x16_1).f1))).setCell ⟨gb350, 2, none⟩ (.int .i64 ((rd_T129 t346 x16_1).f2))).setCell ⟨gb350, 3, none⟩ (.int .i64 ((rd_T129 t346 x16_1).f3))).setCell ⟨gb350, 4, none⟩ (.int .i64 ((rd_T129 t346 x16_1).f4))).setCell ⟨gb350, 5, none⟩ (.int .i64 ((rd_T129 t346 x16_1).f5))).setCell ⟨gb350, 6, none⟩ (.int .i64 ((rd_T129 t346 x16_1).f6))).heap[gb350]? = some (.cells #[.int .i64 ((rd_T129 t346 x16_1).f0), .int .i64 ((rd_T129 t346 x16_1).f1), .int .i64 ((rd_T129 t346 x16_1).f2), .int .i64 ((rd_T129 t346 x16_1).f3), .int .i64 ((rd_T129 t346 x16_1).f4), .int .i64 ((rd_T129 t346 x16_1).f5), .int .i64 ((rd_T129 t346 x16_1).f6)] 129 (0, 0))) := ⟨by (with_reducible repeat (first | refine blk_drewN ?_ _ | refine blk_drew ?_ | refine blk_alloc ?_ _)); refine blk_put (cs := #[.int .i64 ((rd_T129 t346 x16_1).f0), .int .i64 ((rd_T129 t346 x16_1).f1), .int .i64 ((rd_T129 t346 x16_1).f2), .int .i64 ((rd_T129 t346 x16_1).f3), .int .i64 ((rd_T129 t346 x16_1).f4), .int .i64 ((rd_T129 t346 x16_1).f5), .int .i64 0]) ?_ 6 _ rfl; (with_reducible repeat (first | refine blk_drewN ?_ _ | refine blk_drew ?_ | refine blk_alloc ?_ _)); refine blk_put (cs := #[.int .i64 ((rd_T129 t346 x16_1).f0), .int .i64 ((rd_T129 t346 x16_1).f1), .int .i64 ((rd_T129 t346 x16_1).f2), .int .i64 ((rd_T129 t346 x16_1).f3), .int .i64 ((rd_T129 t346 x16_1).f4), .int .i64 0, .int .i64 0]) ?_ 5 _ rfl; (with_reducible repeat (first | refine blk_drewN ?_ _ | refine blk_drew ?_ | refine blk_alloc ?_ _)); refine blk_put (cs := #[.int .i64 ((rd_T129 t346 x16_1).f0), .int .i64 ((rd_T129 t346 x16_1).f1), .int .i64 ((rd_T129 t346 x16_1).f2), .int .i64 ((rd_T129 t346 x16_1).f3), .int .i64 0, .int .i64 0, .int .i64 0]) ?_ 4 _ rfl; (with_reducible repeat (first | refine blk_drewN ?_ _ | refine blk_drew ?_ | refine blk_alloc ?_ _)); refine blk_put (cs := #[.int .i64 ((rd_T129 t346 x16_1).f0), .int .i64 ((rd_T129 t346 x16_1).f1), .int .i64 ((rd_T129 t346 x16_1).f2), .int .i64 0, .int .i64 0, .int .i64 0, .int .i64 0]) ?_ 3 _ rfl; (with_reducible repeat (first | refine blk_drewN ?_ _ | refine blk_drew ?_ | refine blk_alloc ?_ _)); refine blk_put (cs := #[.int .i64 ((rd_T129 t346 x16_1).f0), .int .i64 ((rd_T129 t346 x16_1).f1), .int .i64 0, .int .i64 0, .int .i64 0, .int .i64 0, .int .i64 0]) ?_ 2 _ rfl; (with_reducible repeat (first | refine blk_drewN ?_ _ | refine blk_drew ?_ | refine blk_alloc ?_ _)); refine blk_put (cs := #[.int .i64 ((rd_T129 t346 x16_1).f0), .int .i64 0, .int .i64 0, .int .i64 0, .int .i64 0, .int .i64 0, .int .i64 0]) ?_ 1 _ rfl; (with_reducible repeat (first | refine blk_drewN ?_ _ | refine blk_drew ?_ | refine blk_alloc ?_ _)); refine blk_put (cs := #[.int .i64 0, .int .i64 0, .int .i64 0, .int .i64 0, .int .i64 0, .int .i64 0, .int .i64 0]) ?_ 0 _ rfl; (with_reducible repeat (first | refine blk_drewN ?_ _ | refine blk_drew ?_ | refine blk_alloc ?_ _)); exact BK350.out⟩
                have n4_ : Aside0 (Below w.heap.size w (((((((w14.setCell ⟨gb350, 0, none⟩ (.int .i64 ((rd_T129 t346 x16_1).f0))).setCell ⟨gb350, 1, none⟩ (.int .i64 ((rd_T129 t346 x16_1).f1))).setCell ⟨gb350, 2, none⟩ (.int .i64 ((rd_T129 t346 x16_1).f2))).setCell ⟨gb350, 3, none⟩ (.int .i64 ((rd_T129 t346 x16_1).f3))).setCell ⟨gb350, 4, none⟩ (.int .i64 ((rd_T129 t346 x16_1).f4))).setCell ⟨gb350, 5, none⟩ (.int .i64 ((rd_T129 t346 x16_1).f5))).setCell ⟨gb350, 6, none⟩ (.int .i64 ((rd_T129 t346 x16_1).f6)))) := ⟨bel⟩
                (try clear HO_3)
                (try clear HO_14)
                (try clear BK342)
                (try clear BK350)
                (try clear HB)
                generalize (((((((w14.setCell ⟨gb350, 0, none⟩ (.int .i64 ((rd_T129 t346 x16_1).f0))).setCell ⟨gb350, 1, none⟩ (.int .i64 ((rd_T129 t346 x16_1).f1))).setCell ⟨gb350, 2, none⟩ (.int .i64 ((rd_T129 t346 x16_1).f2))).setCell ⟨gb350, 3, none⟩ (.int .i64 ((rd_T129 t346 x16_1).f3))).setCell ⟨gb350, 4, none⟩ (.int .i64 ((rd_T129 t346 x16_1).f4))).setCell ⟨gb350, 5, none⟩ (.int .i64 ((rd_T129 t346 x16_1).f5))).setCell ⟨gb350, 6, none⟩ (.int .i64 ((rd_T129 t346 x16_1).f6))) = w17 at n0_ n1_ n2_ n3_ n4_ ⊢
                have HO_3 := n0_
                have HO_14 := n1_
                have BK342 := n2_
                have BK350 := n3_
                have HB := n4_
                clear n0_ n1_ n2_ n3_ n4_
                replace HO_3 := Aside0.mk (Kd.R_drew HO_3.out)
                replace HO_14 := Aside0.mk (Kd.R_drew HO_14.out)
                replace BK342 := Aside0.mk (blk_drew BK342.out)
                replace BK350 := Aside0.mk (blk_drew BK350.out)
                replace HB := Aside0.mk (below_drew1 HB.out)
                have p351 : 0 ≤ (x16_1 : Int) := asm
                have q351 : x16_1 < (l0_8.length : Int) := asm
                obtain ⟨ad351, e351, hx351_0⟩ := Kd.at_int HR0_8.out x16_1 p351 q351
                have hw351_0 := hx351_0
                cases e351
                replace hx351_0 := hcl HB.out hx351_0
                replace p351 := eq_true p351
                replace q351 := eq_true q351
                refine start_ (n := 12) (S := fun w' => w'.cell? ⟨gb350, 0, none⟩ = some (.int .i64 ((rd_T129 t346 x16_1).f0)) ∧ w'.cell? ⟨gb350, 1, none⟩ = some (.int .i64 ((rd_T129 t346 x16_1).f1)) ∧ w'.cell? ⟨gb350, 2, none⟩ = some (.int .i64 ((rd_T129 t346 x16_1).f2)) ∧ w'.cell? ⟨gb350, 3, none⟩ = some (.int .i64 ((rd_T129 t346 x16_1).f3)) ∧ w'.cell? ⟨gb350, 4, none⟩ = some (.int .i64 ((rd_T129 t346 x16_1).f4)) ∧ w'.cell? ⟨gb350, 5, none⟩ = some (.int .i64 ((rd_T129 t346 x16_1).f5)) ∧ w'.cell? ⟨gb350, 6, none⟩ = some (.int .i64 ((rd_T129 t346 x16_1).f6)) ∧ w'.cell? ⟨gb342, 0, none⟩ = some (.slice A0_0 l0_0.length c0_0) ∧ w'.cell? ⟨gb342, 1, none⟩ = some (.int .i64 a0_1) ∧ w'.cell? ⟨gb342, 2, none⟩ = some (.int .i64 a0_2) ∧ w'.cell? ⟨gb342, 3, none⟩ = some (.int .i64 a0_3) ∧ w'.cell? ⟨gb342, 4, none⟩ = some (.slice A0_4 l0_4.length c0_4) ∧ w'.cell? ⟨gb342, 5, none⟩ = some (.bool a0_5) ∧ w'.cell? ⟨gb342, 6, none⟩ = some (.slice A0_6 l0_6.length c0_6) ∧ w'.cell? ⟨gb342, 7, none⟩ = some (.slice A0_7 l0_7.length c0_7) ∧ w'.cell? ⟨gb342, 8, none⟩ = some (.slice (some ad351) l0_8.length c0_8) ∧ w'.cell? (ad351.add (x16_1).toNat) = some (.int .i64 (rd l0_8 x16_1))) (ds := []) #[false, false, false, false, false, false, false, false, false, false, false, false] (by kernel_rfl) rfl rfl ⟨(blk_cell BK350.out 0).trans rfl, (blk_cell BK350.out 1).trans rfl, (blk_cell BK350.out 2).trans rfl, (blk_cell BK350.out 3).trans rfl, (blk_cell BK350.out 4).trans rfl, (blk_cell BK350.out 5).trans rfl, (blk_cell BK350.out 6).trans rfl, (blk_cell BK342.out 0).trans rfl, (blk_cell BK342.out 1).trans rfl, (blk_cell BK342.out 2).trans rfl, (blk_cell BK342.out 3).trans rfl, (blk_cell BK342.out 4).trans rfl, (blk_cell BK342.out 5).trans rfl, (blk_cell BK342.out 6).trans rfl, (blk_cell BK342.out 7).trans rfl, (blk_cell BK342.out 8).trans rfl, ((HB.out.cell (World.block_lt_of_cell? w _ hw351_0)).trans hw351_0)⟩ (fun hHeld => ?_); refine with_tabW spec_l18Points.tab5 spec_l18Points.bits5 (fun HT_ HW_ => ?_)
                generalize w17.drew = w18 at HO_3 HO_14 BK342 BK350 HB hx351_0 hHeld ⊢
                refine pure_ (i := 0) (N := some 21) (v := ?_) (a' := ?_) #[true, false, false, false, false, false, false, false, false, false, false, false] rfl rfl (any_of HT_.out (by kernel_rfl)) (fun _ _ _ h => h) (Or.inl ⟨by rfl, ?_⟩) ?_ ?_
                rotate_left
                · intro w'
                  go_simp
                  with_reducible rfl
                rotate_left
                · simp only [Act.put, List.setIfInBounds_toArray, List.set_cons_zero, List.set_cons_succ, i64_w, i32_w]
                  rfl
                refine pure_ (i := 1) (N := some 22) (v := ?_) (a' := ?_) #[true, true, false, false, false, false, false, false, false, false, false, false] rfl rfl (any_of HT_.out (by kernel_rfl)) (fun _ _ _ h => h) (Or.inl ⟨by rfl, ?_⟩) ?_ ?_
                rotate_left
                · intro w'
                  go_simp
                  with_reducible rfl
                rotate_left
                · simp only [Act.put, List.setIfInBounds_toArray, List.set_cons_zero, List.set_cons_succ, i64_w, i32_w]
                  rfl
                refine pure_ (i := 3) (N := some 24) (v := ?_) (a' := ?_) #[true, true, false, true, false, false, false, false, false, false, false, false] rfl rfl (any_of HT_.out (by kernel_rfl)) (fun _ _ _ h => h) (Or.inl ⟨by rfl, ?_⟩) ?_ ?_
                rotate_left
                · intro w'
                  go_simp
                  with_reducible rfl
                rotate_left
                · simp only [Act.put, List.setIfInBounds_toArray, List.set_cons_zero, List.set_cons_succ, i64_w, i32_w]
                  rfl
                refine pure_ (i := 5) (N := some 26) (v := ?_) (a' := ?_) #[true, true, false, true, false, true, false, false, false, false, false, false] rfl rfl (any_of HT_.out (by kernel_rfl)) (fun _ _ _ h => h) (Or.inl ⟨by rfl, ?_⟩) ?_ ?_
                rotate_left
                · intro w'
                  go_simp
                  with_reducible rfl
                rotate_left
                · simp only [Act.put, List.setIfInBounds_toArray, List.set_cons_zero, List.set_cons_succ, i64_w, i32_w]
                  rfl
                refine take_ (i := 2) (N := some 23) (v := ?_) (a' := ?_) #[true, true, true, true, false, true, false, false, false, false, false, false] rfl rfl (take_ofW HT_.out HW_.out (by kernel_rfl)) (fun _ _ _ h => h) (Or.inl ⟨by rfl, ?_⟩) hHeld ?_ ?_
                rotate_left
                · rintro w' ⟨s0, s1, s2, s3, s4, s5, s6, s7, s8, s9, s10, s11, s12, s13, s14, s15, s16⟩
                  go_simp
                  with_reducible rfl
                rotate_left
                · simp only [Act.put, List.setIfInBounds_toArray, List.set_cons_zero, List.set_cons_succ, i64_w, i32_w]
                  rfl
                refine take_ (i := 4) (N := some 25) (v := ?_) (a' := ?_) #[true, true, true, true, true, true, false, false, false, false, false, false] rfl rfl (take_ofW HT_.out HW_.out (by kernel_rfl)) (fun _ _ _ h => h) (Or.inl ⟨by rfl, ?_⟩) hHeld ?_ ?_
                rotate_left
                · rintro w' ⟨s0, s1, s2, s3, s4, s5, s6, s7, s8, s9, s10, s11, s12, s13, s14, s15, s16⟩
                  go_simp
                  with_reducible rfl
                rotate_left
                · simp only [Act.put, List.setIfInBounds_toArray, List.set_cons_zero, List.set_cons_succ, i64_w, i32_w]
                  rfl
                refine pure_ (i := 6) (N := some 27) (v := ?_) (a' := ?_) #[true, true, true, true, true, true, true, false, false, false, false, false] rfl rfl (any_of HT_.out (by kernel_rfl)) (fun _ _ _ h => h) (Or.inl ⟨by rfl, ?_⟩) ?_ ?_
                rotate_left
                · intro w'
                  go_simp
                  with_reducible rfl
                rotate_left
                · simp only [Act.put, List.setIfInBounds_toArray, List.set_cons_zero, List.set_cons_succ, i64_w, i32_w]
                  rfl
                refine take_ (i := 7) (N := some 28) (v := ?_) (a' := ?_) #[true, true, true, true, true, true, true, true, false, false, false, false] rfl rfl (take_ofW HT_.out HW_.out (by kernel_rfl)) (fun _ _ _ h => h) (Or.inl ⟨by rfl, ?_⟩) hHeld ?_ ?_
                rotate_left
                · rintro w' ⟨s0, s1, s2, s3, s4, s5, s6, s7, s8, s9, s10, s11, s12, s13, s14, s15, s16⟩
                  go_simp
                  with_reducible rfl
                rotate_left
                · simp only [Act.put, List.setIfInBounds_toArray, List.set_cons_zero, List.set_cons_succ, i64_w, i32_w]
                  rfl
                refine pure_ (i := 8) (N := some 29) (v := ?_) (a' := ?_) #[true, true, true, true, true, true, true, true, true, false, false, false] rfl rfl (any_of HT_.out (by kernel_rfl)) (fun _ _ _ h => h) (Or.inl ⟨by rfl, ?_⟩) ?_ ?_
                rotate_left
                · intro w'
                  go_simp
                  with_reducible rfl
                rotate_left
                · simp only [Act.put, List.setIfInBounds_toArray, List.set_cons_zero, List.set_cons_succ, i64_w, i32_w]
                  rfl
                refine one_ (i := 9) (N := some 30) #[true, true, true, true, true, true, true, true, true, true, false, false] rfl rfl (one_of HT_.out (by kernel_rfl)) (by decide) (fun K hK => ?_)
                refine value_ (w1 := ?_) (v := ?_) (by rfl) rfl ?_ ?_
                rotate_left 2
                · go_simp
                  constructor
                  · rfl
                  · rfl
                refine hK.out _ _ ⟨(blk_cell (blk_alloc BK350.out _) 0).trans rfl, (blk_cell (blk_alloc BK350.out _) 1).trans rfl, (blk_cell (blk_alloc BK350.out _) 2).trans rfl, (blk_cell (blk_alloc BK350.out _) 3).trans rfl, (blk_cell (blk_alloc BK350.out _) 4).trans rfl, (blk_cell (blk_alloc BK350.out _) 5).trans rfl, (blk_cell (blk_alloc BK350.out _) 6).trans rfl, (blk_cell (blk_alloc BK342.out _) 0).trans rfl, (blk_cell (blk_alloc BK342.out _) 1).trans rfl, (blk_cell (blk_alloc BK342.out _) 2).trans rfl, (blk_cell (blk_alloc BK342.out _) 3).trans rfl, (blk_cell (blk_alloc BK342.out _) 4).trans rfl, (blk_cell (blk_alloc BK342.out _) 5).trans rfl, (blk_cell (blk_alloc BK342.out _) 6).trans rfl, (blk_cell (blk_alloc BK342.out _) 7).trans rfl, (blk_cell (blk_alloc BK342.out _) 8).trans rfl, (World.cell?_alloc_lt _ _ _ (World.block_lt_of_cell? _ _ (((HB.out.cell (World.block_lt_of_cell? w _ hw351_0)).trans hw351_0)))).trans (((HB.out.cell (World.block_lt_of_cell? w _ hw351_0)).trans hw351_0))⟩ (fun hHeld => ?_)
                clear hK K
                refine norm_ (a' := ?_) ?_ ?_
                rotate_left
                · show Act.put _ (some 30) _ = _
                  simp only [Act.put, List.setIfInBounds_toArray, List.set_cons_zero, List.set_cons_succ, i64_w, i32_w]
                  rfl
                refine one_ (i := 10) (N := some 31) #[true, true, true, true, true, true, true, true, true, true, true, false] rfl rfl (one_of HT_.out (by kernel_rfl)) (by decide) (fun K hK => ?_)
                refine Kd.R_append_step (Kd.int .i64) (w0 := w) w.heap.size (by rfl) (.tmp 21) (.tmp 30) 23 3 (.int .i64 0) 8 rfl Try.underlying23 info3 rfl (by decide) (by omega) u3 x3_1 (wrap64 (((rd_T129 t346 x16_1).f6) - (rd l0_8 x16_1))) [.int .i64 (wrap64 (((rd_T129 t346 x16_1).f6) - (rd l0_8 x16_1)))] (fun _ => True) (fun _ => False) rfl rfl ?aP (fun _ hk => hk.elim) ?aF ?aO ?aB ?aS ?aL ?_
                (case aP => exact rfl)
                (case aB => exact bel)
                (case aF => exact (fun _ _ => trivial))
                (case aO => exact (rk HO_3.out))
                (case aS => exact (below_size bel))
                (case aL => have := LMc13.out; omega)
                intro v353 w19 ho hb hg hat
                rw [← Ny352.out] at ho
                have n0_ := Aside0.mk (Kd.R_over' (rk HO_14.out) (Kd.R_typed (rk HO_3.out)) (by decide) hg)
                have n1_ := Aside0.mk (blk_grown (g := gb342) (o := .cells #[.slice A0_0 l0_0.length c0_0, .int .i64 a0_1, .int .i64 a0_2, .int .i64 a0_3, .slice A0_4 l0_4.length c0_4, .bool a0_5, .slice A0_6 l0_6.length c0_6, .slice A0_7 l0_7.length c0_7, .slice (some ad351) l0_8.length c0_8] 37 (0, 0)) (bk BK342.out) hg (Kd.R_ne HO_3.out BK342.out (by decide)))
                have n2_ := Aside0.mk (blk_grown (g := gb350) (o := .cells #[.int .i64 ((rd_T129 t346 x16_1).f0), .int .i64 ((rd_T129 t346 x16_1).f1), .int .i64 ((rd_T129 t346 x16_1).f2), .int .i64 ((rd_T129 t346 x16_1).f3), .int .i64 ((rd_T129 t346 x16_1).f4), .int .i64 ((rd_T129 t346 x16_1).f5), .int .i64 ((rd_T129 t346 x16_1).f6)] 129 (0, 0)) (bk BK350.out) hg (Kd.R_ne HO_3.out BK350.out (by decide)))
                have n3_ := Aside0.mk (hb)
                have n4_ := Aside0.mk (ho)
                clear HO_14
                clear BK342
                clear BK350
                clear HB
                clear HO_3
                have HO_14 := n0_
                have BK342 := n1_
                have BK350 := n2_
                have HB := n3_
                have HO354 := n4_
                clear n0_ n1_ n2_ n3_ n4_
                clear ho hb hg hat
                refine hK.out _ _ ⟨(blk_cell BK350.out 0).trans rfl, (blk_cell BK350.out 1).trans rfl, (blk_cell BK350.out 2).trans rfl, (blk_cell BK350.out 3).trans rfl, (blk_cell BK350.out 4).trans rfl, (blk_cell BK350.out 5).trans rfl, (blk_cell BK350.out 6).trans rfl, (blk_cell BK342.out 0).trans rfl, (blk_cell BK342.out 1).trans rfl, (blk_cell BK342.out 2).trans rfl, (blk_cell BK342.out 3).trans rfl, (blk_cell BK342.out 4).trans rfl, (blk_cell BK342.out 5).trans rfl, (blk_cell BK342.out 6).trans rfl, (blk_cell BK342.out 7).trans rfl, (blk_cell BK342.out 8).trans rfl, ((HB.out.cell (World.block_lt_of_cell? w _ hw351_0)).trans hw351_0)⟩ (fun hHeld => ?_)
                clear hK K
                refine norm_ (a' := ?_) ?_ ?_
                rotate_left
                · show Act.put _ (some 31) _ = _
                  simp only [Act.put, List.setIfInBounds_toArray, List.set_cons_zero, List.set_cons_succ, i64_w, i32_w]
                  rfl
                refine pure_ (i := 11) (N := some 3) (v := ?_) (a' := ?_) #[true, true, true, true, true, true, true, true, true, true, true, true] rfl rfl (any_of HT_.out (by kernel_rfl)) (fun _ _ _ h => h) (Or.inl ⟨by rfl, ?_⟩) ?_ ?_
                rotate_left
                · intro w'
                  go_simp
                  with_reducible rfl
                rotate_left
                · simp only [Act.put, List.setIfInBounds_toArray, List.set_cons_zero, List.set_cons_succ, i64_w, i32_w]
                  rfl
                refine done_ (done_of HT_.out (by kernel_rfl)) ?_
                try go_wp2
                go_roundg k1
                case measure => have := HK1.out; omega
                case rel => exact ⟨(y352), (wrap64 (x16_1 + 1)), (es), H', ⟨by have := HK1.out; omega⟩, ⟨rk HO354.out⟩, ⟨by (with_reducible repeat (first | apply Kd.R_alloc | apply Kd.R_drewN | apply Kd.R_drew)); exact Kd.R_mono HO_14.out (fun _ hk => trivial)⟩, ⟨bk BK342.out⟩, ⟨bel⟩⟩
              · rw [if_neg c13] at H
                exact absurd H (by simp)
            · rw [if_neg c12] at H
              exact absurd H (by simp)
          · rw [if_neg c11] at H
            exact absurd H (by simp)
        · rw [if_neg c10] at H
          exact absurd H (by simp)
      · rw [if_neg c9] at H
        have c9b0 : decide (x16_1 < (t346.length : Int)) = false := decide_eq_false c9
        clear c9
        obtain rfl := Option.some.inj H
        go_wp2
        go_ret
        exact ⟨_, er, rk HO_3.out, bel⟩

end Go.Proofs.Ytgalpgakdcfilaa.Q
