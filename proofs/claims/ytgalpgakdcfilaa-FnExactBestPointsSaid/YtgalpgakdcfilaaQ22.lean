-- Written by a program of this session (wip/xp.py, over the kit's print) out of the translation: functions, and the walks that show them.
import Derived.Test.YtgalpgakdcfilaaQ0
import Derived.Test.YtgalpgakdcfilaaQ13
import Derived.Test.YtgalpgakdcfilaaQ21
namespace Go.Proofs.Ytgalpgakdcfilaa.Q
open Go.RowKit Go.Proofs.YtgalpgakdcfilaaW.PrintWords Go.Proofs.YtgalpgakdcfilaaW.PrintLast Go.Proofs.YtgalpgakdcfilaaW.PrintMore
attribute [local go_sem] max2_int min2_int max_two min_two max_three min_three max_four min_four   -- for this text's walks alone
set_option linter.unusedVariables false
set_option linter.unusedSimpArgs false

def spec_l06Among.l0 : Nat → List Int → Bool → List (S129) → List (S71) → Int → Int → Int → Int → Int → List Int → Bool → Option ((List (S129)))
  | 0, _, _, _, _, _, _, _, _, _, _, _ => none
  | k + 1, x3, x4, x11, x16, x17, x18, x333000, x333001, x333002, x333003, x333004 => if x18 < x17 then (if 0 ≤ x18 then (if x18 < (x16.length : Int) then (if x4 = true then ((spec_l06Add.f x333000 x333001 x333002 x333003 x333004 x11 ((rd_T71 x16 x18).f0) ((rd_T71 x16 x18).f1) ((rd_T71 x16 x18).f2) ((rd_T71 x16 x18).f3) ((rd_T71 x16 x18).f4)).bind fun t338 => (spec_l06Among.l0 k x3 x4 t338 x16 x17 (wrap64 (x18 + 1)) x333000 x333001 x333002 x333003 x333004)) else ((spec_l02Has.f k x3 ((rd_T71 x16 x18).f0)).bind fun t339 => (if t339 = true then ((spec_l02Has.f k x3 ((rd_T71 x16 x18).f1)).bind fun t340 => (if t340 = true then ((spec_l06Add.f x333000 x333001 x333002 x333003 x333004 x11 ((rd_T71 x16 x18).f0) ((rd_T71 x16 x18).f1) ((rd_T71 x16 x18).f2) ((rd_T71 x16 x18).f3) ((rd_T71 x16 x18).f4)).bind fun t341 => (spec_l06Among.l0 k x3 x4 t341 x16 x17 (wrap64 (x18 + 1)) x333000 x333001 x333002 x333003 x333004)) else (spec_l06Among.l0 k x3 x4 x11 x16 x17 (wrap64 (x18 + 1)) x333000 x333001 x333002 x333003 x333004))) else (spec_l06Among.l0 k x3 x4 x11 x16 x17 (wrap64 (x18 + 1)) x333000 x333001 x333002 x333003 x333004)))) else (none)) else (none)) else (some x11)
def spec_l06Among.f (k : Nat) (a0_0 : Int) (a0_1 : Int) (a0_2 : Int) (l0_3 : List Int) (a0_4 : Bool) (a1 : Int) (l2 : List (S71)) (l3 : List Int) (a4 : Bool) : Option ((List (S129))) := if 0 ≤ a1 then (if (a1 : Int).toNat ≤ 5026338869833 then (spec_l06Among.l0 k l3 a4 (List.replicate (a1 : Int).toNat z129) l2 (l2.length : Int) 0 a0_0 a0_1 a0_2 l0_3 a0_4) else (none)) else (none)
set_option maxHeartbeats 8000000 in
set_option maxRecDepth 100000 in
theorem spec_l06Among.calls (k : Nat) (a0_0 : Int) (a0_1 : Int) (a0_2 : Int) (A0_3 : Option Addr) (c0_3 : Nat) (l0_3 : List Int) (a0_4 : Bool) (a1 : Int) (A2 : Option Addr) (c2 : Nat) (l2 : List (S71)) (A3 : Option Addr) (c3 : Nat) (l3 : List Int) (a4 : Bool) (r : List (S129)) (w : World) (hr0_3 : Kd.C (Kd.int .i64) w A0_3 l0_3.length l0_3) (hc0_3 : l0_3.length ≤ c0_3) (hr2 : Kd.C k71 w A2 l2.length l2) (hc2 : l2.length ≤ c2) (hr3 : Kd.C (Kd.int .i64) w A3 l3.length l3) (hc3 : l3.length ≤ c3) (h : spec_l06Among.f k a0_0 a0_1 a0_2 l0_3 a0_4 a1 l2 l3 a4 = some r) :
    Calls Try.prog 128 #[.agg #[.int .i64 a0_0, .int .i64 a0_1, .int .i64 a0_2, .slice A0_3 l0_3.length c0_3, .bool a0_4], .int .i64 a1, .slice A2 l2.length c2, .slice A3 l3.length c3, .bool a4] w fun e w' => ∃ v0_ : Value, e = .returned (v0_) ∧ Kd.R k129 129 w' w.heap.size (fun _ => True) v0_ r ∧ Below w.heap.size w w' := by
  have hu34 := Try.underlying34
  have hu71 := Try.underlying71
  have HR0_3 := Aside0.mk hr0_3
  have HC0_3 := Aside0.mk hc0_3
  clear hr0_3 hc0_3
  have HR2 := Aside0.mk hr2
  have HC2 := Aside0.mk hc2
  clear hr2 hc2
  have HR3 := Aside0.mk hr3
  have HC3 := Aside0.mk hc3
  clear hr3 hc3
  have HB := Aside0.mk (Below.refl w.heap.size w)
  have H : (if 0 ≤ a1 then (if (a1 : Int).toNat ≤ 5026338869833 then (spec_l06Among.l0 k l3 a4 (List.replicate (a1 : Int).toNat z129) l2 (l2.length : Int) 0 a0_0 a0_1 a0_2 l0_3 a0_4) else (none)) else (none)) = some r := h
  clear h
  by_cases c6 : 0 ≤ a1
  · rw [if_pos c6] at H
    have c6b0 := eq_true c6
    have c6b1 : decide (0 ≤ a1) = true := decide_eq_true c6
    clear c6
    by_cases c7 : (a1 : Int).toNat ≤ 5026338869833
    · rw [if_pos c7] at H
      have c7b0 := eq_true c7
      have c7b1 : decide ((a1 : Int).toNat ≤ 5026338869833) = true := decide_eq_true c7
      clear c7
      obtain ⟨y333, hy333⟩ : ∃ y_ : List (S129), y_ = (List.replicate (a1 : Int).toNat z129) := ⟨_, rfl⟩
      replace H : (spec_l06Among.l0 k l3 a4 y333 l2 (l2.length : Int) 0 a0_0 a0_1 a0_2 l0_3 a0_4) = some r := by first | (rw [hy333]; with_reducible exact H) | (have H2_ := (Option.bind_some _ _).symm.trans H; rw [hy333]; with_reducible exact H2_) | (have H2_ := (Option.bind_some _ _).symm.trans H; with_reducible exact H2_) | with_reducible exact H | (rw [hy333]; exact H) | exact H
      have Ny333 := Aside0.mk hy333
      clear hy333
      have H' := Aside0.mk H
      clear H
      go_enter Try.func128, Try.ntmps128
      go_wp2_with (first | ((with_reducible refine gate_dst (N := 5) rfl ?_); refine box_event ?hg (N := 5) ?hd (cs := #[.int .i64 a0_0, .int .i64 a0_1, .int .i64 a0_2, .slice A0_3 l0_3.length c0_3, .bool a0_4]) (t := 34) ?hr ?_; (case hd => rfl); (case hg => rfl); (case hr => first | (go_simp; done) | (go_simp; rfl)); intro gb332 hg w8 hbox hb; have BK332 := Aside0.mk (hbox); have GW332 := Aside0.mk ((bsz hg : w.heap.size ≤ gb332)); have GE332 := Aside0.mk ((bsz hg : w.heap.size ≤ gb332)); replace HB := Aside0.mk (below_step bel hb); clear hb hbox hg) | ((with_reducible refine gate_dst (N := 15) rfl ?_); refine Kd.R_make k129 _ 129 rfl (N := 15) rfl 117 _ _ rfl a1 rfl rfl Try.underlying117 (.agg #[(.int .i64 0), (.int .i64 0), (.int .i64 0), (.int .i64 0), (.int .i64 0), (.int .i64 0), (.int .i64 0)]) 56 info129 rfl (by decide) (by omega) z129 (ok := fun _ => True) (okp := fun _ => True) (k129_mkM _ _ _ z129 ) (fun _ hk => hk) trivial (asm) (Nat.le_trans (Nat.mul_le_mul_right _ (asm : a1.toNat ≤ 5026338869833)) (by omega)) (Below.refl _ _) (Nat.le_refl _) ?_; intro v334 w9 ho10 hb hg_ hnew_; clear hg_ hnew_; (first | rw [← Ny333.out] at ho10 | (simp only [Int.reduceToNat] at ho10; rw [← Ny333.out] at ho10)); have HO335 := Aside0.mk (Kd.R_lower ho10 (below_size bel)); replace BK332 := Aside0.mk (bb BK332.out hb); replace HB := Aside0.mk (below_step bel hb); clear hb ho10))
      go_loopg [18] k (fun kq v18 w' => ∃ (x11_1 : List (S129)) (x18_1 : Int), v18 = .int .i64 x18_1 ∧ Aside0 (spec_l06Among.l0 kq l3 a4 x11_1 l2 (l2.length : Int) x18_1 a0_0 a0_1 a0_2 l0_3 a0_4 = some r) ∧ Aside0 (kq ≤ k) ∧ Aside0 (Kd.R k129 129 w' w.heap.size (fun _ => True) v334 x11_1) ∧ Aside0 (w'.heap[gb332]? = some (.cells #[.int .i64 a0_0, .int .i64 a0_1, .int .i64 a0_2, (.slice A0_3 l0_3.length c0_3), .bool a0_4] 34 (0, 0))) ∧ Aside0 (Below w.heap.size w w'))
      case atStart => exact ⟨(y333), (0), (es), H', ⟨Nat.le_refl _⟩, ⟨rk HO335.out⟩, ⟨bk BK332.out⟩, ⟨bel⟩⟩
      case round =>
        clear H'
        try clear c1; try clear c2; try clear p2; try clear c3; try clear c6; try clear c6b0; try clear c6b1; try clear c7; try clear c7b0; try clear c7b1
        obtain ⟨x11_1, x18_1, rfl, HA, HK1, HO_11, BK332, HB⟩ := hrel
        cases gk with
        | zero => exact absurd HA.out (by simp [spec_l06Among.l0])
        | succ k1 =>
          have H := HA.out
          clear HA
          simp only [spec_l06Among.l0] at H
          by_cases c11 : x18_1 < (l2.length : Int)
          · rw [if_pos c11] at H
            have c11b0 : decide (x18_1 < (l2.length : Int)) = true := decide_eq_true c11
            clear c11
            by_cases c12 : 0 ≤ x18_1
            · rw [if_pos c12] at H
              have c12b0 : decide (0 ≤ x18_1) = true := decide_eq_true c12
              clear c12
              by_cases c13 : x18_1 < (l2.length : Int)
              · rw [if_pos c13] at H
                have c13b0 : decide (x18_1 < (l2.length : Int)) = true := decide_eq_true c13
                clear c13
                by_cases c14 : a4 = true
                · subst c14
                  have H1 : ((spec_l06Add.f a0_0 a0_1 a0_2 l0_3 a0_4 x11_1 ((rd_T71 l2 x18_1).f0) ((rd_T71 l2 x18_1).f1) ((rd_T71 l2 x18_1).f2) ((rd_T71 l2 x18_1).f3) ((rd_T71 l2 x18_1).f4)).bind fun t338 => (spec_l06Among.l0 k1 l3 true t338 l2 (l2.length : Int) (wrap64 (x18_1 + 1)) a0_0 a0_1 a0_2 l0_3 a0_4)) = some r := by rw [if_pos rfl] at H; exact H
                  clear H
                  have H := H1
                  clear H1
                  replace H := Option.bind_eq_some_iff.mp H
                  obtain ⟨t338, A150, H⟩ := H
                  replace H : (spec_l06Among.l0 k1 l3 true t338 l2 (l2.length : Int) (wrap64 (x18_1 + 1)) a0_0 a0_1 a0_2 l0_3 a0_4) = some r := H
                  have A15 := Aside0.mk A150
                  clear A150
                  have H' := Aside0.mk H
                  clear H
                  have p336 : 0 ≤ (x18_1 : Int) := asm
                  have q336 : x18_1 < (l2.length : Int) := asm
                  obtain ⟨ad336, e336, hx336_0, hx336_1, hx336_2, hx336_3, hx336_4⟩ := at_T71 HR2.out x18_1 p336 q336
                  cases e336
                  replace hx336_0 := hcl HB.out hx336_0
                  replace hx336_1 := hcl HB.out hx336_1
                  replace hx336_2 := hcl HB.out hx336_2
                  replace hx336_3 := hcl HB.out hx336_3
                  replace hx336_4 := hcl HB.out hx336_4
                  replace p336 := eq_true p336
                  replace q336 := eq_true q336
                  go_wp2_with (first | ((with_reducible refine gate_dst (N := 13) rfl ?_); refine box_event ?hg (N := 13) ?hd (cs := #[.int .i64 0, .int .i64 0, .int .i64 0, .int .i64 0, .int .i64 0]) (t := 71) ?hr ?_; (case hd => rfl); (case hg => rfl); (case hr => first | (go_simp; done) | (go_simp; rfl)); intro gb337 hg w16 hbox hb; have BK337 := Aside0.mk (hbox); have GW337 := Aside0.mk ((bsz hg : w.heap.size ≤ gb337)); have GE337 := Aside0.mk ((bsz hg : w.heap.size ≤ gb337)); have NB332_337 := Aside0.mk ((nlt hg BK332.out : gb332 ≠ gb337)); have NB337_332 := Aside0.mk ((ngt hg BK332.out : gb337 ≠ gb332)); replace HO_11 := Aside0.mk (Kd.R_below (rk HO_11.out) hb); replace BK332 := Aside0.mk (bb BK332.out hb); replace HB := Aside0.mk (below_step bel hb); clear hb hbox hg; have hnb17 := NB337_332.out; have hnc17 := NB332_337.out; obtain ⟨hcz18_0, hcz18_1, hcz18_2, hcz18_3, hcz18_4, hfz18_0, hfz18_1, hfz18_2, hfz18_3, hfz18_4⟩ := cf5 BK337.out) | ((with_reducible refine gate_store (t := 71) (p := 13) rfl ?_); refine store_event (t := 71) (p := 13) (v := ?vo_w19) (w1 := (((((w16.setCell ⟨gb337, 0, none⟩ (.int .i64 ((rd_T71 l2 x18_1).f0))).setCell ⟨gb337, 1, none⟩ (.int .i64 ((rd_T71 l2 x18_1).f1))).setCell ⟨gb337, 2, none⟩ (.int .i64 ((rd_T71 l2 x18_1).f2))).setCell ⟨gb337, 3, none⟩ (.int .i64 ((rd_T71 l2 x18_1).f3))).setCell ⟨gb337, 4, none⟩ (.int .i64 ((rd_T71 l2 x18_1).f4)))) ?hg ?ho ?hn ?hr ?_; (case ho => rfl); (case hg => rfl); (case hn => rfl); (case hr => first | (go_simp; done) | (go_simp; rfl)); intro w19 hw; have n0_ : Aside0 (Kd.R k129 129 w19 w.heap.size (fun _ => True) v334 x11_1) := ⟨(by rw [hw]; exact (by (with_reducible repeat (first | apply Kd.R_alloc | apply Kd.R_drewN | apply Kd.R_drew)); exact Kd.R_mono (Kd.R_far (p := ⟨gb337, 4, none⟩) (Kd.R_far (p := ⟨gb337, 3, none⟩) (Kd.R_far (p := ⟨gb337, 2, none⟩) (Kd.R_far (p := ⟨gb337, 1, none⟩) (Kd.R_far (p := ⟨gb337, 0, none⟩) (Kd.R_types HO_11.out BK337.out (by decide)) (fun _ hk => hk.2) (.int .i64 ((rd_T71 l2 x18_1).f0))) (fun _ hk => hk.2) (.int .i64 ((rd_T71 l2 x18_1).f1))) (fun _ hk => hk.2) (.int .i64 ((rd_T71 l2 x18_1).f2))) (fun _ hk => hk.2) (.int .i64 ((rd_T71 l2 x18_1).f3))) (fun _ hk => hk.2) (.int .i64 ((rd_T71 l2 x18_1).f4))) (fun _ hk => trivial)))⟩; have n1_ : Aside0 (w19.heap[gb332]? = some (.cells #[.int .i64 a0_0, .int .i64 a0_1, .int .i64 a0_2, .slice A0_3 l0_3.length c0_3, .bool a0_4] 34 (0, 0))) := ⟨(by rw [hw]; exact (bk BK332.out))⟩; have n2_ : Aside0 (w19.heap[gb337]? = some (.cells #[.int .i64 ((rd_T71 l2 x18_1).f0), .int .i64 ((rd_T71 l2 x18_1).f1), .int .i64 ((rd_T71 l2 x18_1).f2), .int .i64 ((rd_T71 l2 x18_1).f3), .int .i64 ((rd_T71 l2 x18_1).f4)] 71 (0, 0))) := ⟨(by rw [hw]; exact (by (with_reducible repeat (first | refine blk_drewN ?_ _ | refine blk_drew ?_ | refine blk_alloc ?_ _)); refine blk_put (cs := #[.int .i64 ((rd_T71 l2 x18_1).f0), .int .i64 ((rd_T71 l2 x18_1).f1), .int .i64 ((rd_T71 l2 x18_1).f2), .int .i64 ((rd_T71 l2 x18_1).f3), .int .i64 0]) ?_ 4 _ rfl; (with_reducible repeat (first | refine blk_drewN ?_ _ | refine blk_drew ?_ | refine blk_alloc ?_ _)); refine blk_put (cs := #[.int .i64 ((rd_T71 l2 x18_1).f0), .int .i64 ((rd_T71 l2 x18_1).f1), .int .i64 ((rd_T71 l2 x18_1).f2), .int .i64 0, .int .i64 0]) ?_ 3 _ rfl; (with_reducible repeat (first | refine blk_drewN ?_ _ | refine blk_drew ?_ | refine blk_alloc ?_ _)); refine blk_put (cs := #[.int .i64 ((rd_T71 l2 x18_1).f0), .int .i64 ((rd_T71 l2 x18_1).f1), .int .i64 0, .int .i64 0, .int .i64 0]) ?_ 2 _ rfl; (with_reducible repeat (first | refine blk_drewN ?_ _ | refine blk_drew ?_ | refine blk_alloc ?_ _)); refine blk_put (cs := #[.int .i64 ((rd_T71 l2 x18_1).f0), .int .i64 0, .int .i64 0, .int .i64 0, .int .i64 0]) ?_ 1 _ rfl; (with_reducible repeat (first | refine blk_drewN ?_ _ | refine blk_drew ?_ | refine blk_alloc ?_ _)); refine blk_put (cs := #[.int .i64 0, .int .i64 0, .int .i64 0, .int .i64 0, .int .i64 0]) ?_ 0 _ rfl; (with_reducible repeat (first | refine blk_drewN ?_ _ | refine blk_drew ?_ | refine blk_alloc ?_ _)); exact BK337.out))⟩; have n3_ : Aside0 (Below w.heap.size w w19) := ⟨(by rw [hw]; exact bel)⟩; clear hw; clear HO_11; clear BK332; clear BK337; clear HB; have HO_11 := n0_; have BK332 := n1_; have BK337 := n2_; have HB := n3_; clear n0_ n1_ n2_ n3_; obtain ⟨hcz20_0, hcz20_1, hcz20_2, hcz20_3, hcz20_4, hfz20_0, hfz20_1, hfz20_2, hfz20_3, hfz20_4⟩ := cf5 BK332.out; obtain ⟨hcz21_0, hcz21_1, hcz21_2, hcz21_3, hcz21_4, hfz21_0, hfz21_1, hfz21_2, hfz21_3, hfz21_4⟩ := cf5 BK337.out; obtain ⟨Ao22, co22, eo22⟩ := Kd.R_slice HO_11.out; subst eo22) | ((with_reducible refine gate_callee (f := 142) rfl ?_); refine goesL_ (some 38) rfl rfl Try.func142 (by kernel_rfl) rfl #[.agg #[.int .i64 a0_0, .int .i64 a0_1, .int .i64 a0_2, .slice A0_3 l0_3.length c0_3, .bool a0_4], .slice Ao22 x11_1.length co22, .agg #[.int .i64 ((rd_T71 l2 x18_1).f0), .int .i64 ((rd_T71 l2 x18_1).f1), .int .i64 ((rd_T71 l2 x18_1).f2), .int .i64 ((rd_T71 l2 x18_1).f3), .int .i64 ((rd_T71 l2 x18_1).f4)]] rfl ga ?_; (with_reducible refine (spec_l06Add.calls a0_0 a0_1 a0_2 _ _ l0_3 a0_4 (fun k_ => some k_ = (.slice Ao22 x11_1.length co22 : Value).ownBlock) (.slice Ao22 x11_1.length co22) x11_1 ((rd_T71 l2 x18_1).f0) ((rd_T71 l2 x18_1).f1) ((rd_T71 l2 x18_1).f2) ((rd_T71 l2 x18_1).f3) ((rd_T71 l2 x18_1).f4) t338 w _ ?side1 ?side2 ?side3 ?side4 A15.out).mono ?_); (case side1 => exact bel); (case side2 => exact Kd.C_kept_came (Kd.heap_int .i64) HR0_3.out bel (fun k_ hs_ => (fun e_ => Kd.R_base HO_11.out k_ e_.symm) hs_)); (case side3 => exact HC0_3.out); (case side4 => exact Kd.R_tight rfl HO_11.out); rintro e w23 ⟨rfl, hy0, hb, hkp⟩; refine ⟨_, rfl, ?_⟩; have n0_ := Aside0.mk (Kd.R_reok rfl hy0 (fun k_ e_ => HO_11.out.1 k_ e_)); have n1_ := Aside0.mk (blk_kept (bk BK332.out) hkp (fun hs_ => (fun e_ => (Kd.R_ne HO_11.out BK332.out (by decide)) e_) hs_)); have n2_ := Aside0.mk (blk_kept (bk BK337.out) hkp (fun hs_ => (fun e_ => (Kd.R_ne HO_11.out BK337.out (by decide)) e_) hs_)); have n3_ := Aside0.mk (hb); clear HO_11; clear BK332; clear BK337; clear HB; have HO_11 := n0_; have BK332 := n1_; have BK337 := n2_; have HB := n3_; clear n0_ n1_ n2_ n3_; (try clear hb); (try clear hkp); (try clear hy0)))
                  go_roundg k1
                  case measure => have := HK1.out; omega
                  case rel => exact ⟨(t338), (wrap64 (x18_1 + 1)), (es), H', ⟨by have := HK1.out; omega⟩, ⟨rk HO_11.out⟩, ⟨bk BK332.out⟩, ⟨bel⟩⟩
                · replace c14 := Bool.eq_false_iff.mpr c14
                  subst c14
                  have H1 : ((spec_l02Has.f k1 l3 ((rd_T71 l2 x18_1).f0)).bind fun t339 => (if t339 = true then ((spec_l02Has.f k1 l3 ((rd_T71 l2 x18_1).f1)).bind fun t340 => (if t340 = true then ((spec_l06Add.f a0_0 a0_1 a0_2 l0_3 a0_4 x11_1 ((rd_T71 l2 x18_1).f0) ((rd_T71 l2 x18_1).f1) ((rd_T71 l2 x18_1).f2) ((rd_T71 l2 x18_1).f3) ((rd_T71 l2 x18_1).f4)).bind fun t341 => (spec_l06Among.l0 k1 l3 false t341 l2 (l2.length : Int) (wrap64 (x18_1 + 1)) a0_0 a0_1 a0_2 l0_3 a0_4)) else (spec_l06Among.l0 k1 l3 false x11_1 l2 (l2.length : Int) (wrap64 (x18_1 + 1)) a0_0 a0_1 a0_2 l0_3 a0_4))) else (spec_l06Among.l0 k1 l3 false x11_1 l2 (l2.length : Int) (wrap64 (x18_1 + 1)) a0_0 a0_1 a0_2 l0_3 a0_4))) = some r := by rw [if_neg (show ¬ (false = true) by decide)] at H; exact H
                  clear H
                  have H := H1
                  clear H1
                  replace H := Option.bind_eq_some_iff.mp H
                  obtain ⟨t339, A240, H⟩ := H
                  replace H : (if t339 = true then ((spec_l02Has.f k1 l3 ((rd_T71 l2 x18_1).f1)).bind fun t340 => (if t340 = true then ((spec_l06Add.f a0_0 a0_1 a0_2 l0_3 a0_4 x11_1 ((rd_T71 l2 x18_1).f0) ((rd_T71 l2 x18_1).f1) ((rd_T71 l2 x18_1).f2) ((rd_T71 l2 x18_1).f3) ((rd_T71 l2 x18_1).f4)).bind fun t341 => (spec_l06Among.l0 k1 l3 false t341 l2 (l2.length : Int) (wrap64 (x18_1 + 1)) a0_0 a0_1 a0_2 l0_3 a0_4)) else (spec_l06Among.l0 k1 l3 false x11_1 l2 (l2.length : Int) (wrap64 (x18_1 + 1)) a0_0 a0_1 a0_2 l0_3 a0_4))) else (spec_l06Among.l0 k1 l3 false x11_1 l2 (l2.length : Int) (wrap64 (x18_1 + 1)) a0_0 a0_1 a0_2 l0_3 a0_4)) = some r := H
                  have A24 := Aside0.mk A240
                  clear A240
                  by_cases c25 : t339 = true
                  · subst c25
                    have H1 : ((spec_l02Has.f k1 l3 ((rd_T71 l2 x18_1).f1)).bind fun t340 => (if t340 = true then ((spec_l06Add.f a0_0 a0_1 a0_2 l0_3 a0_4 x11_1 ((rd_T71 l2 x18_1).f0) ((rd_T71 l2 x18_1).f1) ((rd_T71 l2 x18_1).f2) ((rd_T71 l2 x18_1).f3) ((rd_T71 l2 x18_1).f4)).bind fun t341 => (spec_l06Among.l0 k1 l3 false t341 l2 (l2.length : Int) (wrap64 (x18_1 + 1)) a0_0 a0_1 a0_2 l0_3 a0_4)) else (spec_l06Among.l0 k1 l3 false x11_1 l2 (l2.length : Int) (wrap64 (x18_1 + 1)) a0_0 a0_1 a0_2 l0_3 a0_4))) = some r := by rw [if_pos rfl] at H; exact H
                    clear H
                    have H := H1
                    clear H1
                    replace H := Option.bind_eq_some_iff.mp H
                    obtain ⟨t340, A260, H⟩ := H
                    replace H : (if t340 = true then ((spec_l06Add.f a0_0 a0_1 a0_2 l0_3 a0_4 x11_1 ((rd_T71 l2 x18_1).f0) ((rd_T71 l2 x18_1).f1) ((rd_T71 l2 x18_1).f2) ((rd_T71 l2 x18_1).f3) ((rd_T71 l2 x18_1).f4)).bind fun t341 => (spec_l06Among.l0 k1 l3 false t341 l2 (l2.length : Int) (wrap64 (x18_1 + 1)) a0_0 a0_1 a0_2 l0_3 a0_4)) else (spec_l06Among.l0 k1 l3 false x11_1 l2 (l2.length : Int) (wrap64 (x18_1 + 1)) a0_0 a0_1 a0_2 l0_3 a0_4)) = some r := H
                    have A26 := Aside0.mk A260
                    clear A260
                    by_cases c27 : t340 = true
                    · subst c27
                      have H1 : ((spec_l06Add.f a0_0 a0_1 a0_2 l0_3 a0_4 x11_1 ((rd_T71 l2 x18_1).f0) ((rd_T71 l2 x18_1).f1) ((rd_T71 l2 x18_1).f2) ((rd_T71 l2 x18_1).f3) ((rd_T71 l2 x18_1).f4)).bind fun t341 => (spec_l06Among.l0 k1 l3 false t341 l2 (l2.length : Int) (wrap64 (x18_1 + 1)) a0_0 a0_1 a0_2 l0_3 a0_4)) = some r := by rw [if_pos rfl] at H; exact H
                      clear H
                      have H := H1
                      clear H1
                      replace H := Option.bind_eq_some_iff.mp H
                      obtain ⟨t341, A280, H⟩ := H
                      replace H : (spec_l06Among.l0 k1 l3 false t341 l2 (l2.length : Int) (wrap64 (x18_1 + 1)) a0_0 a0_1 a0_2 l0_3 a0_4) = some r := H
                      have A28 := Aside0.mk A280
                      clear A280
                      have H' := Aside0.mk H
                      clear H
                      have p336 : 0 ≤ (x18_1 : Int) := asm
                      have q336 : x18_1 < (l2.length : Int) := asm
                      obtain ⟨ad336, e336, hx336_0, hx336_1, hx336_2, hx336_3, hx336_4⟩ := at_T71 HR2.out x18_1 p336 q336
                      cases e336
                      replace hx336_0 := hcl HB.out hx336_0
                      replace hx336_1 := hcl HB.out hx336_1
                      replace hx336_2 := hcl HB.out hx336_2
                      replace hx336_3 := hcl HB.out hx336_3
                      replace hx336_4 := hcl HB.out hx336_4
                      replace p336 := eq_true p336
                      replace q336 := eq_true q336
                      go_wp2_with (first | ((with_reducible refine gate_dst (N := 13) rfl ?_); refine box_event ?hg (N := 13) ?hd (cs := #[.int .i64 0, .int .i64 0, .int .i64 0, .int .i64 0, .int .i64 0]) (t := 71) ?hr ?_; (case hd => rfl); (case hg => rfl); (case hr => first | (go_simp; done) | (go_simp; rfl)); intro gb337 hg w29 hbox hb; have BK337 := Aside0.mk (hbox); have GW337 := Aside0.mk ((bsz hg : w.heap.size ≤ gb337)); have GE337 := Aside0.mk ((bsz hg : w.heap.size ≤ gb337)); have NB332_337 := Aside0.mk ((nlt hg BK332.out : gb332 ≠ gb337)); have NB337_332 := Aside0.mk ((ngt hg BK332.out : gb337 ≠ gb332)); replace HO_11 := Aside0.mk (Kd.R_below (rk HO_11.out) hb); replace BK332 := Aside0.mk (bb BK332.out hb); replace HB := Aside0.mk (below_step bel hb); clear hb hbox hg; have hnb30 := NB337_332.out; have hnc30 := NB332_337.out; obtain ⟨hcz31_0, hcz31_1, hcz31_2, hcz31_3, hcz31_4, hfz31_0, hfz31_1, hfz31_2, hfz31_3, hfz31_4⟩ := cf5 BK337.out) | ((with_reducible refine gate_store (t := 71) (p := 13) rfl ?_); refine store_event (t := 71) (p := 13) (v := ?vo_w32) (w1 := (((((w29.setCell ⟨gb337, 0, none⟩ (.int .i64 ((rd_T71 l2 x18_1).f0))).setCell ⟨gb337, 1, none⟩ (.int .i64 ((rd_T71 l2 x18_1).f1))).setCell ⟨gb337, 2, none⟩ (.int .i64 ((rd_T71 l2 x18_1).f2))).setCell ⟨gb337, 3, none⟩ (.int .i64 ((rd_T71 l2 x18_1).f3))).setCell ⟨gb337, 4, none⟩ (.int .i64 ((rd_T71 l2 x18_1).f4)))) ?hg ?ho ?hn ?hr ?_; (case ho => rfl); (case hg => rfl); (case hn => rfl); (case hr => first | (go_simp; done) | (go_simp; rfl)); intro w32 hw; have n0_ : Aside0 (Kd.R k129 129 w32 w.heap.size (fun _ => True) v334 x11_1) := ⟨(by rw [hw]; exact (by (with_reducible repeat (first | apply Kd.R_alloc | apply Kd.R_drewN | apply Kd.R_drew)); exact Kd.R_mono (Kd.R_far (p := ⟨gb337, 4, none⟩) (Kd.R_far (p := ⟨gb337, 3, none⟩) (Kd.R_far (p := ⟨gb337, 2, none⟩) (Kd.R_far (p := ⟨gb337, 1, none⟩) (Kd.R_far (p := ⟨gb337, 0, none⟩) (Kd.R_types HO_11.out BK337.out (by decide)) (fun _ hk => hk.2) (.int .i64 ((rd_T71 l2 x18_1).f0))) (fun _ hk => hk.2) (.int .i64 ((rd_T71 l2 x18_1).f1))) (fun _ hk => hk.2) (.int .i64 ((rd_T71 l2 x18_1).f2))) (fun _ hk => hk.2) (.int .i64 ((rd_T71 l2 x18_1).f3))) (fun _ hk => hk.2) (.int .i64 ((rd_T71 l2 x18_1).f4))) (fun _ hk => trivial)))⟩; have n1_ : Aside0 (w32.heap[gb332]? = some (.cells #[.int .i64 a0_0, .int .i64 a0_1, .int .i64 a0_2, .slice A0_3 l0_3.length c0_3, .bool a0_4] 34 (0, 0))) := ⟨(by rw [hw]; exact (bk BK332.out))⟩; have n2_ : Aside0 (w32.heap[gb337]? = some (.cells #[.int .i64 ((rd_T71 l2 x18_1).f0), .int .i64 ((rd_T71 l2 x18_1).f1), .int .i64 ((rd_T71 l2 x18_1).f2), .int .i64 ((rd_T71 l2 x18_1).f3), .int .i64 ((rd_T71 l2 x18_1).f4)] 71 (0, 0))) := ⟨(by rw [hw]; exact (by (with_reducible repeat (first | refine blk_drewN ?_ _ | refine blk_drew ?_ | refine blk_alloc ?_ _)); refine blk_put (cs := #[.int .i64 ((rd_T71 l2 x18_1).f0), .int .i64 ((rd_T71 l2 x18_1).f1), .int .i64 ((rd_T71 l2 x18_1).f2), .int .i64 ((rd_T71 l2 x18_1).f3), .int .i64 0]) ?_ 4 _ rfl; (with_reducible repeat (first | refine blk_drewN ?_ _ | refine blk_drew ?_ | refine blk_alloc ?_ _)); refine blk_put (cs := #[.int .i64 ((rd_T71 l2 x18_1).f0), .int .i64 ((rd_T71 l2 x18_1).f1), .int .i64 ((rd_T71 l2 x18_1).f2), .int .i64 0, .int .i64 0]) ?_ 3 _ rfl; (with_reducible repeat (first | refine blk_drewN ?_ _ | refine blk_drew ?_ | refine blk_alloc ?_ _)); refine blk_put (cs := #[.int .i64 ((rd_T71 l2 x18_1).f0), .int .i64 ((rd_T71 l2 x18_1).f1), .int .i64 0, .int .i64 0, .int .i64 0]) ?_ 2 _ rfl; (with_reducible repeat (first | refine blk_drewN ?_ _ | refine blk_drew ?_ | refine blk_alloc ?_ _)); refine blk_put (cs := #[.int .i64 ((rd_T71 l2 x18_1).f0), .int .i64 0, .int .i64 0, .int .i64 0, .int .i64 0]) ?_ 1 _ rfl; (with_reducible repeat (first | refine blk_drewN ?_ _ | refine blk_drew ?_ | refine blk_alloc ?_ _)); refine blk_put (cs := #[.int .i64 0, .int .i64 0, .int .i64 0, .int .i64 0, .int .i64 0]) ?_ 0 _ rfl; (with_reducible repeat (first | refine blk_drewN ?_ _ | refine blk_drew ?_ | refine blk_alloc ?_ _)); exact BK337.out))⟩; have n3_ : Aside0 (Below w.heap.size w w32) := ⟨(by rw [hw]; exact bel)⟩; clear hw; clear HO_11; clear BK332; clear BK337; clear HB; have HO_11 := n0_; have BK332 := n1_; have BK337 := n2_; have HB := n3_; clear n0_ n1_ n2_ n3_; obtain ⟨hcz33_0, hcz33_1, hcz33_2, hcz33_3, hcz33_4, hfz33_0, hfz33_1, hfz33_2, hfz33_3, hfz33_4⟩ := cf5 BK337.out) | (go_at_call 114; (with_reducible refine (spec_l02Has.calls k1 _ _ l3 ((rd_T71 l2 x18_1).f0) true _ ?side1 ?side2 A24.out).mono ?_); (case side1 => exact ck (Kd.C_below HR3.out HB.out)); (case side2 => exact HC3.out); rintro e w' ⟨rfl, ⟨nd, rfl⟩⟩) | (go_at_call 114; (with_reducible refine (spec_l02Has.calls k1 _ _ l3 ((rd_T71 l2 x18_1).f1) true _ ?side1 ?side2 A26.out).mono ?_); (case side1 => exact ck (Kd.C_below HR3.out bel)); (case side2 => exact HC3.out); rintro e w' ⟨rfl, ⟨nd, rfl⟩⟩; obtain ⟨hcz34_0, hcz34_1, hcz34_2, hcz34_3, hcz34_4, hfz34_0, hfz34_1, hfz34_2, hfz34_3, hfz34_4⟩ := cf5 BK332.out; obtain ⟨Ao35, co35, eo35⟩ := Kd.R_slice HO_11.out; subst eo35) | ((with_reducible refine gate_callee (f := 142) rfl ?_); refine goesL_ (some 38) rfl rfl Try.func142 (by kernel_rfl) rfl #[.agg #[.int .i64 a0_0, .int .i64 a0_1, .int .i64 a0_2, .slice A0_3 l0_3.length c0_3, .bool a0_4], .slice Ao35 x11_1.length co35, .agg #[.int .i64 ((rd_T71 l2 x18_1).f0), .int .i64 ((rd_T71 l2 x18_1).f1), .int .i64 ((rd_T71 l2 x18_1).f2), .int .i64 ((rd_T71 l2 x18_1).f3), .int .i64 ((rd_T71 l2 x18_1).f4)]] rfl ga ?_; (with_reducible refine (spec_l06Add.calls a0_0 a0_1 a0_2 _ _ l0_3 a0_4 (fun k_ => some k_ = (.slice Ao35 x11_1.length co35 : Value).ownBlock) (.slice Ao35 x11_1.length co35) x11_1 ((rd_T71 l2 x18_1).f0) ((rd_T71 l2 x18_1).f1) ((rd_T71 l2 x18_1).f2) ((rd_T71 l2 x18_1).f3) ((rd_T71 l2 x18_1).f4) t341 w _ ?side1 ?side2 ?side3 ?side4 A28.out).mono ?_); (case side1 => exact bel); (case side2 => exact Kd.C_kept_came (Kd.heap_int .i64) HR0_3.out bel (fun k_ hs_ => (fun e_ => Kd.R_base HO_11.out k_ e_.symm) hs_)); (case side3 => exact HC0_3.out); (case side4 => exact Kd.R_tight rfl HO_11.out); rintro e w36 ⟨rfl, hy0, hb, hkp⟩; refine ⟨_, rfl, ?_⟩; have n0_ := Aside0.mk (Kd.R_reok rfl hy0 (fun k_ e_ => HO_11.out.1 k_ e_)); have n1_ := Aside0.mk (blk_kept (bk BK332.out) hkp (fun hs_ => (fun e_ => (Kd.R_ne HO_11.out BK332.out (by decide)) e_) hs_)); have n2_ := Aside0.mk (blk_kept (bk BK337.out) hkp (fun hs_ => (fun e_ => (Kd.R_ne HO_11.out BK337.out (by decide)) e_) hs_)); have n3_ := Aside0.mk (hb); clear HO_11; clear BK332; clear BK337; clear HB; have HO_11 := n0_; have BK332 := n1_; have BK337 := n2_; have HB := n3_; clear n0_ n1_ n2_ n3_; (try clear hb); (try clear hkp); (try clear hy0)))
                      go_roundg k1
                      case measure => have := HK1.out; omega
                      case rel => exact ⟨(t341), (wrap64 (x18_1 + 1)), (es), H', ⟨by have := HK1.out; omega⟩, ⟨rk HO_11.out⟩, ⟨bk BK332.out⟩, ⟨bel⟩⟩
                    · replace c27 := Bool.eq_false_iff.mpr c27
                      subst c27
                      have H1 : (spec_l06Among.l0 k1 l3 false x11_1 l2 (l2.length : Int) (wrap64 (x18_1 + 1)) a0_0 a0_1 a0_2 l0_3 a0_4) = some r := by rw [if_neg (show ¬ (false = true) by decide)] at H; exact H
                      clear H
                      have H := H1
                      clear H1
                      have H' := Aside0.mk H
                      clear H
                      have p336 : 0 ≤ (x18_1 : Int) := asm
                      have q336 : x18_1 < (l2.length : Int) := asm
                      obtain ⟨ad336, e336, hx336_0, hx336_1, hx336_2, hx336_3, hx336_4⟩ := at_T71 HR2.out x18_1 p336 q336
                      cases e336
                      replace hx336_0 := hcl HB.out hx336_0
                      replace hx336_1 := hcl HB.out hx336_1
                      replace hx336_2 := hcl HB.out hx336_2
                      replace hx336_3 := hcl HB.out hx336_3
                      replace hx336_4 := hcl HB.out hx336_4
                      replace p336 := eq_true p336
                      replace q336 := eq_true q336
                      go_wp2_with (first | ((with_reducible refine gate_dst (N := 13) rfl ?_); refine box_event ?hg (N := 13) ?hd (cs := #[.int .i64 0, .int .i64 0, .int .i64 0, .int .i64 0, .int .i64 0]) (t := 71) ?hr ?_; (case hd => rfl); (case hg => rfl); (case hr => first | (go_simp; done) | (go_simp; rfl)); intro gb337 hg w37 hbox hb; have BK337 := Aside0.mk (hbox); have GW337 := Aside0.mk ((bsz hg : w.heap.size ≤ gb337)); have GE337 := Aside0.mk ((bsz hg : w.heap.size ≤ gb337)); have NB332_337 := Aside0.mk ((nlt hg BK332.out : gb332 ≠ gb337)); have NB337_332 := Aside0.mk ((ngt hg BK332.out : gb337 ≠ gb332)); replace HO_11 := Aside0.mk (Kd.R_below (rk HO_11.out) hb); replace BK332 := Aside0.mk (bb BK332.out hb); replace HB := Aside0.mk (below_step bel hb); clear hb hbox hg; have hnb38 := NB337_332.out; have hnc38 := NB332_337.out; obtain ⟨hcz39_0, hcz39_1, hcz39_2, hcz39_3, hcz39_4, hfz39_0, hfz39_1, hfz39_2, hfz39_3, hfz39_4⟩ := cf5 BK337.out) | (go_at_call 114; (with_reducible refine (spec_l02Has.calls k1 _ _ l3 ((rd_T71 l2 x18_1).f0) true _ ?side1 ?side2 A24.out).mono ?_); (case side1 => exact Kd.C_below HR3.out bel); (case side2 => exact HC3.out); rintro e w' ⟨rfl, ⟨nd, rfl⟩⟩) | (go_at_call 114; (with_reducible refine (spec_l02Has.calls k1 _ _ l3 ((rd_T71 l2 x18_1).f1) false _ ?side1 ?side2 A26.out).mono ?_); (case side1 => exact Kd.C_below HR3.out bel); (case side2 => exact HC3.out); rintro e w' ⟨rfl, ⟨nd, rfl⟩⟩))
                      go_roundg k1
                      case measure => have := HK1.out; omega
                      case rel => exact ⟨(x11_1), (wrap64 (x18_1 + 1)), (es), H', ⟨by have := HK1.out; omega⟩, ⟨by (with_reducible repeat (first | apply Kd.R_alloc | apply Kd.R_drewN | apply Kd.R_drew)); exact Kd.R_mono (Kd.R_far (p := ⟨gb337, 4, none⟩) (Kd.R_far (p := ⟨gb337, 3, none⟩) (Kd.R_far (p := ⟨gb337, 2, none⟩) (Kd.R_far (p := ⟨gb337, 1, none⟩) (Kd.R_far (p := ⟨gb337, 0, none⟩) (Kd.R_types HO_11.out BK337.out (by decide)) (fun _ hk => hk.2) (.int .i64 ((rd_T71 l2 x18_1).f0))) (fun _ hk => hk.2) (.int .i64 ((rd_T71 l2 x18_1).f1))) (fun _ hk => hk.2) (.int .i64 ((rd_T71 l2 x18_1).f2))) (fun _ hk => hk.2) (.int .i64 ((rd_T71 l2 x18_1).f3))) (fun _ hk => hk.2) (.int .i64 ((rd_T71 l2 x18_1).f4))) (fun _ hk => trivial)⟩, ⟨bk BK332.out⟩, ⟨bel⟩⟩
                  · replace c25 := Bool.eq_false_iff.mpr c25
                    subst c25
                    have H1 : (spec_l06Among.l0 k1 l3 false x11_1 l2 (l2.length : Int) (wrap64 (x18_1 + 1)) a0_0 a0_1 a0_2 l0_3 a0_4) = some r := by rw [if_neg (show ¬ (false = true) by decide)] at H; exact H
                    clear H
                    have H := H1
                    clear H1
                    have H' := Aside0.mk H
                    clear H
                    have p336 : 0 ≤ (x18_1 : Int) := asm
                    have q336 : x18_1 < (l2.length : Int) := asm
                    obtain ⟨ad336, e336, hx336_0, hx336_1, hx336_2, hx336_3, hx336_4⟩ := at_T71 HR2.out x18_1 p336 q336
                    cases e336
                    replace hx336_0 := hcl HB.out hx336_0
                    replace hx336_1 := hcl HB.out hx336_1
                    replace hx336_2 := hcl HB.out hx336_2
                    replace hx336_3 := hcl HB.out hx336_3
                    replace hx336_4 := hcl HB.out hx336_4
                    replace p336 := eq_true p336
                    replace q336 := eq_true q336
                    go_wp2_with (first | ((with_reducible refine gate_dst (N := 13) rfl ?_); refine box_event ?hg (N := 13) ?hd (cs := #[.int .i64 0, .int .i64 0, .int .i64 0, .int .i64 0, .int .i64 0]) (t := 71) ?hr ?_; (case hd => rfl); (case hg => rfl); (case hr => first | (go_simp; done) | (go_simp; rfl)); intro gb337 hg w40 hbox hb; have BK337 := Aside0.mk (hbox); have GW337 := Aside0.mk ((bsz hg : w.heap.size ≤ gb337)); have GE337 := Aside0.mk ((bsz hg : w.heap.size ≤ gb337)); have NB332_337 := Aside0.mk ((nlt hg BK332.out : gb332 ≠ gb337)); have NB337_332 := Aside0.mk ((ngt hg BK332.out : gb337 ≠ gb332)); replace HO_11 := Aside0.mk (Kd.R_below (rk HO_11.out) hb); replace BK332 := Aside0.mk (bb BK332.out hb); replace HB := Aside0.mk (below_step bel hb); clear hb hbox hg; have hnb41 := NB337_332.out; have hnc41 := NB332_337.out; obtain ⟨hcz42_0, hcz42_1, hcz42_2, hcz42_3, hcz42_4, hfz42_0, hfz42_1, hfz42_2, hfz42_3, hfz42_4⟩ := cf5 BK337.out) | (go_at_call 114; (with_reducible refine (spec_l02Has.calls k1 _ _ l3 ((rd_T71 l2 x18_1).f0) false _ ?side1 ?side2 A24.out).mono ?_); (case side1 => exact Kd.C_below HR3.out bel); (case side2 => exact HC3.out); rintro e w' ⟨rfl, ⟨nd, rfl⟩⟩))
                    go_roundg k1
                    case measure => have := HK1.out; omega
                    case rel => exact ⟨(x11_1), (wrap64 (x18_1 + 1)), (es), H', ⟨by have := HK1.out; omega⟩, ⟨by (with_reducible repeat (first | apply Kd.R_alloc | apply Kd.R_drewN | apply Kd.R_drew)); exact Kd.R_mono (Kd.R_far (p := ⟨gb337, 4, none⟩) (Kd.R_far (p := ⟨gb337, 3, none⟩) (Kd.R_far (p := ⟨gb337, 2, none⟩) (Kd.R_far (p := ⟨gb337, 1, none⟩) (Kd.R_far (p := ⟨gb337, 0, none⟩) (Kd.R_types HO_11.out BK337.out (by decide)) (fun _ hk => hk.2) (.int .i64 ((rd_T71 l2 x18_1).f0))) (fun _ hk => hk.2) (.int .i64 ((rd_T71 l2 x18_1).f1))) (fun _ hk => hk.2) (.int .i64 ((rd_T71 l2 x18_1).f2))) (fun _ hk => hk.2) (.int .i64 ((rd_T71 l2 x18_1).f3))) (fun _ hk => hk.2) (.int .i64 ((rd_T71 l2 x18_1).f4))) (fun _ hk => trivial)⟩, ⟨bk BK332.out⟩, ⟨bel⟩⟩
              · rw [if_neg c13] at H
                exact absurd H (by simp)
            · rw [if_neg c12] at H
              exact absurd H (by simp)
          · rw [if_neg c11] at H
            have c11b0 : decide (x18_1 < (l2.length : Int)) = false := decide_eq_false c11
            clear c11
            obtain rfl := Option.some.inj H
            go_wp2
            go_ret
            exact ⟨_, er, rk HO_11.out, bel⟩
    · rw [if_neg c7] at H
      exact absurd H (by simp)
  · rw [if_neg c6] at H
    exact absurd H (by simp)

end Go.Proofs.Ytgalpgakdcfilaa.Q
