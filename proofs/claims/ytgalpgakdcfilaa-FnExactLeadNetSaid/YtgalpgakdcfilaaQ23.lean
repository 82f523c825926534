-- Written by a program of this session (wip/xp.py).
import Derived.Test.YtgalpgakdcfilaaQ0
import Derived.Test.YtgalpgakdcfilaaQ20
namespace Go.Proofs.Ytgalpgakdcfilaa.Q
open Go.RowKit Go.Proofs.YtgalpgakdcfilaaW.PrintWords Go.Proofs.YtgalpgakdcfilaaW.PrintLast Go.Proofs.YtgalpgakdcfilaaW.PrintMore
attribute [local go_sem] max2_int min2_int max_two min_two max_three min_three max_four min_four   -- for this text's walks alone
set_option linter.unusedVariables false
set_option linter.unusedSimpArgs false
set_option maxHeartbeats 8000000
set_option maxRecDepth 100000

def spec_l06Add.fin (l1 : List (S129)) (a2_0 a2_1 p0 p1 p2 p3 p4 p5 p6 q0 q1 q2 q3 q4 q5 q6 : Int) : Option (List (S129)) := (if 0 ≤ a2_0 then (if a2_0 < (l1.length : Int) then ((spec_AddRows.f ((rd_T129 l1 a2_0).f0) ((rd_T129 l1 a2_0).f1) ((rd_T129 l1 a2_0).f2) ((rd_T129 l1 a2_0).f3) ((rd_T129 l1 a2_0).f4) ((rd_T129 l1 a2_0).f5) ((rd_T129 l1 a2_0).f6) p0 p1 p2 p3 p4 p5 p6).bind fun bt288 => ((some (l1.set (a2_0 : Int).toNat (⟨bt288.1, bt288.2.1, bt288.2.2.1, bt288.2.2.2.1, bt288.2.2.2.2.1, bt288.2.2.2.2.2.1, bt288.2.2.2.2.2.2⟩ : S129) : List (S129))).bind fun y295 => (if 0 ≤ a2_1 then (if a2_1 < (l1.length : Int) then ((spec_AddRows.f ((rd_T129 y295 a2_1).f0) ((rd_T129 y295 a2_1).f1) ((rd_T129 y295 a2_1).f2) ((rd_T129 y295 a2_1).f3) ((rd_T129 y295 a2_1).f4) ((rd_T129 y295 a2_1).f5) ((rd_T129 y295 a2_1).f6) q0 q1 q2 q3 q4 q5 q6).bind fun bt297 => (some (y295.set (a2_1 : Int).toNat (⟨bt297.1, bt297.2.1, bt297.2.2.1, bt297.2.2.2.1, bt297.2.2.2.2.1, bt297.2.2.2.2.2.1, bt297.2.2.2.2.2.2⟩ : S129)))) else (none)) else (none)))) else (none)) else (none))
def spec_l06Add.f (a0_0 : Int) (a0_1 : Int) (a0_2 : Int) (l0_3 : List Int) (a0_4 : Bool) (l1 : List (S129)) (a2_0 : Int) (a2_1 : Int) (a2_2 : Int) (a2_3 : Int) (a2_4 : Int) : Option ((List (S129))) := (spec_GoalsOf.f a2_0 a2_1 a2_2 a2_3 a2_4).bind fun bt281 => (if bt281.2.2 = true then ((spec_OutcomeOf.f a2_0 a2_1 a2_2 a2_3 a2_4).bind fun t286 => (if t286 = 1 then (spec_l06Add.fin l1 a2_0 a2_1 1 1 0 0 bt281.1 bt281.2.1 a0_0 1 0 0 1 bt281.2.1 bt281.1 a0_2) else (if t286 = 2 then (spec_l06Add.fin l1 a2_0 a2_1 1 0 1 0 bt281.1 bt281.2.1 a0_1 1 0 1 0 bt281.2.1 bt281.1 a0_1) else (if t286 = 3 then (spec_l06Add.fin l1 a2_0 a2_1 1 0 0 1 bt281.1 bt281.2.1 a0_2 1 1 0 0 bt281.2.1 bt281.1 a0_0) else (spec_l06Add.fin l1 a2_0 a2_1 1 0 0 0 bt281.1 bt281.2.1 0 1 0 0 0 bt281.2.1 bt281.1 0))))) else (some l1))
def spec_l06Add.T21 : Bool × List (List Nat × List Nat) := (true, [([], []), ([], []), ([1], [1]), ([], []), ([], []), ([4], [4]), ([3, 5], [3, 5]), ([6], [6]), ([], []), ([7, 8], [7, 8]), ([0, 2, 0, 1, 2, 3, 4, 5, 6, 7, 8, 9], [0, 2]), ([10, 9, 9, 0, 1, 2, 3, 4, 5, 6, 7, 8, 9], [9, 10])])
def spec_l06Add.B21 : List Nat := [0, 0, 2, 0, 0, 16, 56, 120, 0, 504, 1023, 2047]
theorem spec_l06Add.tab21 : rtab .any (opsOf Try.f142 21) = spec_l06Add.T21 := by kernel_rfl
theorem spec_l06Add.bits21 : waitsOk spec_l06Add.T21.2 spec_l06Add.B21 = true := by kernel_rfl
def spec_l06Add.T22 : Bool × List (List Nat × List Nat) := (true, [([], []), ([], []), ([1], [1]), ([], []), ([], []), ([4], [4]), ([3, 5], [3, 5]), ([6], [6]), ([], []), ([7, 8], [7, 8]), ([0, 2, 0, 1, 2, 3, 4, 5, 6, 7, 8, 9], [0, 2]), ([10, 9, 9, 0, 1, 2, 3, 4, 5, 6, 7, 8, 9], [9, 10])])
def spec_l06Add.B22 : List Nat := [0, 0, 2, 0, 0, 16, 56, 120, 0, 504, 1023, 2047]
theorem spec_l06Add.tab22 : rtab .any (opsOf Try.f142 22) = spec_l06Add.T22 := by kernel_rfl
theorem spec_l06Add.bits22 : waitsOk spec_l06Add.T22.2 spec_l06Add.B22 = true := by kernel_rfl
set_option maxHeartbeats 8000000 in
set_option maxRecDepth 100000 in

theorem spec_l06Add.calls (a0_0 : Int) (a0_1 : Int) (a0_2 : Int) (A0_3 : Option Addr) (c0_3 : Nat) (l0_3 : List Int) (a0_4 : Bool) (P1_ : Nat → Prop) (u9000_ : Value) (l1 : List (S129)) (a2_0 : Int) (a2_1 : Int) (a2_2 : Int) (a2_3 : Int) (a2_4 : Int) (r : List (S129)) (w0 w : World) (hB : Below w0.heap.size w0 w) (hr0_3 : ∀ W_, Kept w W_ (fun k_ => P1_ k_) → Kd.C (Kd.int .i64) W_ A0_3 l0_3.length l0_3) (hc0_3 : l0_3.length ≤ c0_3) (ho1 : Kd.R k129 129 w w0.heap.size P1_ u9000_ l1) (h : spec_l06Add.f a0_0 a0_1 a0_2 l0_3 a0_4 l1 a2_0 a2_1 a2_2 a2_3 a2_4 = some r) :
    Calls Try.prog 142 #[.agg #[.int .i64 a0_0, .int .i64 a0_1, .int .i64 a0_2, .slice A0_3 l0_3.length c0_3, .bool a0_4], u9000_, .agg #[.int .i64 a2_0, .int .i64 a2_1, .int .i64 a2_2, .int .i64 a2_3, .int .i64 a2_4]] w fun e w' => e = .returned (.tuple #[]) ∧ Kd.R k129 129 w' w0.heap.size (fun k_ => (P1_ k_ ∨ w.heap.size ≤ k_)) u9000_ r ∧ Below w0.heap.size w0 w' ∧ Kept w w' (fun k_ => P1_ k_) := by
  have hu34 := Try.underlying34
  have hu71 := Try.underlying71
  have hu129 := Try.underlying129
  have HR0_3 := am hr0_3
  have HC0_3 := am hc0_3
  clear hr0_3 hc0_3
  have HO1 := am (show Kd.R k129 129 w w0.heap.size (fun k_ => (P1_ k_ ∨ w.heap.size ≤ k_)) u9000_ l1 from Kd.R_mono ho1 (fun k_ hk => (.inl hk)))
  have HK := am (Kept.refl w (fun k_ => P1_ k_))
  have HW0 := am hB.size
  have HB := am hB
  clear hB
  have H : ((spec_GoalsOf.f a2_0 a2_1 a2_2 a2_3 a2_4).bind fun bt281 => (if bt281.2.2 = true then ((spec_OutcomeOf.f a2_0 a2_1 a2_2 a2_3 a2_4).bind fun t286 => (if t286 = 1 then (spec_l06Add.fin l1 a2_0 a2_1 1 1 0 0 bt281.1 bt281.2.1 a0_0 1 0 0 1 bt281.2.1 bt281.1 a0_2) else (if t286 = 2 then (spec_l06Add.fin l1 a2_0 a2_1 1 0 1 0 bt281.1 bt281.2.1 a0_1 1 0 1 0 bt281.2.1 bt281.1 a0_1) else (if t286 = 3 then (spec_l06Add.fin l1 a2_0 a2_1 1 0 0 1 bt281.1 bt281.2.1 a0_2 1 1 0 0 bt281.2.1 bt281.1 a0_0) else (spec_l06Add.fin l1 a2_0 a2_1 1 0 0 0 bt281.1 bt281.2.1 0 1 0 0 0 bt281.2.1 bt281.1 0))))) else (some l1))) = some r := h
  clear h
  replace H := Option.bind_eq_some_iff.mp H
  obtain ⟨⟨t281, t282, t283⟩, A40, H⟩ := H
  replace H : (if t283 = true then ((spec_OutcomeOf.f a2_0 a2_1 a2_2 a2_3 a2_4).bind fun t286 => (if t286 = 1 then (spec_l06Add.fin l1 a2_0 a2_1 1 1 0 0 t281 t282 a0_0 1 0 0 1 t282 t281 a0_2) else (if t286 = 2 then (spec_l06Add.fin l1 a2_0 a2_1 1 0 1 0 t281 t282 a0_1 1 0 1 0 t282 t281 a0_1) else (if t286 = 3 then (spec_l06Add.fin l1 a2_0 a2_1 1 0 0 1 t281 t282 a0_2 1 1 0 0 t282 t281 a0_0) else (spec_l06Add.fin l1 a2_0 a2_1 1 0 0 0 t281 t282 0 1 0 0 0 t282 t281 0))))) else (some l1)) = some r := H
  have A4 := am A40
  clear A40
  by_cases c5 : t283 = true
  · subst c5
    have H1 : ((spec_OutcomeOf.f a2_0 a2_1 a2_2 a2_3 a2_4).bind fun t286 => (if t286 = 1 then (spec_l06Add.fin l1 a2_0 a2_1 1 1 0 0 t281 t282 a0_0 1 0 0 1 t282 t281 a0_2) else (if t286 = 2 then (spec_l06Add.fin l1 a2_0 a2_1 1 0 1 0 t281 t282 a0_1 1 0 1 0 t282 t281 a0_1) else (if t286 = 3 then (spec_l06Add.fin l1 a2_0 a2_1 1 0 0 1 t281 t282 a0_2 1 1 0 0 t282 t281 a0_0) else (spec_l06Add.fin l1 a2_0 a2_1 1 0 0 0 t281 t282 0 1 0 0 0 t282 t281 0))))) = some r := by rw [if_pos rfl] at H; exact H
    clear H
    have H := H1
    clear H1
    replace H := Option.bind_eq_some_iff.mp H
    obtain ⟨t286, A60, H⟩ := H
    replace H : (if t286 = 1 then (spec_l06Add.fin l1 a2_0 a2_1 1 1 0 0 t281 t282 a0_0 1 0 0 1 t282 t281 a0_2) else (if t286 = 2 then (spec_l06Add.fin l1 a2_0 a2_1 1 0 1 0 t281 t282 a0_1 1 0 1 0 t282 t281 a0_1) else (if t286 = 3 then (spec_l06Add.fin l1 a2_0 a2_1 1 0 0 1 t281 t282 a0_2 1 1 0 0 t282 t281 a0_0) else (spec_l06Add.fin l1 a2_0 a2_1 1 0 0 0 t281 t282 0 1 0 0 0 t282 t281 0)))) = some r := H
    have A6 := am A60
    clear A60
    have HC_ := Aside0.mk H
    clear H
    go_enter Try.func142, Try.ntmps142
    go_upto_block 0 with (first | ((with_reducible refine gate_dst (N := 3) rfl ?_); refine box_event ?hg (N := 3) ?hd (cs := #[.int .i64 a0_0, .int .i64 a0_1, .int .i64 a0_2, .slice A0_3 l0_3.length c0_3, .bool a0_4]) (t := 34) ?hr ?_; (case hd => rfl); (case hg => rfl); (case hr => first | (go_simp; done) | (go_simp; rfl)); intro gb279 hg w16 hbox hb; have BK279 := am (hbox); have GW279 := am ((by rw [hg]; exact (by first | exact HK.out.1 | exact (show Kept w _ (fun k_ => P1_ k_) from by repeat (first | (with_reducible first | exact HK.out | apply Kept.alloc | apply Kept.drewN | apply Kept.drew) | exact HK.out)).1) : w.heap.size ≤ gb279)); have GE279 := am ((bsz hg : w0.heap.size ≤ gb279)); replace HO1 := rb HO1 hb; replace HK := am (Kept.below (S := (fun k_ => P1_ k_)) (by repeat (first | (with_reducible first | exact HK.out | apply Kept.alloc | apply Kept.drewN | apply Kept.drew) | exact HK.out)) hb); replace HB := am (below_step bel hb); clear hb hbox hg) | ((with_reducible refine gate_dst (N := 5) rfl ?_); refine box_event ?hg (N := 5) ?hd (cs := #[.int .i64 a2_0, .int .i64 a2_1, .int .i64 a2_2, .int .i64 a2_3, .int .i64 a2_4]) (t := 71) ?hr ?_; (case hd => rfl); (case hg => rfl); (case hr => first | (go_simp; done) | (go_simp; rfl)); intro gb280 hg w17 hbox hb; have BK280 := am (hbox); have GW280 := am ((by rw [hg]; exact (by first | exact HK.out.1 | exact (show Kept w _ (fun k_ => P1_ k_) from by repeat (first | (with_reducible first | exact HK.out | apply Kept.alloc | apply Kept.drewN | apply Kept.drew | refine Kept.setCell ?_ (.inr GW279.out) _) | exact HK.out)).1) : w.heap.size ≤ gb280)); have GE280 := am ((bsz hg : w0.heap.size ≤ gb280)); have NB279_280 := am ((nlt hg BK279.out : gb279 ≠ gb280)); have NB280_279 := am ((ngt hg BK279.out : gb280 ≠ gb279)); replace HO1 := rb HO1 hb; replace BK279 := am (bb BK279.out hb); replace HK := am (Kept.below (S := (fun k_ => P1_ k_)) (by repeat (first | (with_reducible first | exact HK.out | apply Kept.alloc | apply Kept.drewN | apply Kept.drew | refine Kept.setCell ?_ (.inr GW279.out) _) | exact HK.out)) hb); replace HB := am (below_step bel hb); clear hb hbox hg; have hnb18 := NB280_279.out; have hnc18 := NB279_280.out; obtain ⟨hcz19_0, hcz19_1, hcz19_2, hcz19_3, hcz19_4, hfz19_0, hfz19_1, hfz19_2, hfz19_3, hfz19_4⟩ := cf5 BK280.out) | ((with_reducible refine gate_callee (f := 149) rfl ?_); refine goesL_ (some 13) rfl rfl Try.func149 (by kernel_rfl) rfl #[.agg #[.int .i64 a2_0, .int .i64 a2_1, .int .i64 a2_2, .int .i64 a2_3, .int .i64 a2_4]] rfl ga ?_; (with_reducible refine (spec_GoalsOf.calls a2_0 a2_1 a2_2 a2_3 a2_4 t281 t282 true _ A4.out).mono ?_); rintro e w20 ⟨rfl, hb⟩; refine ⟨_, rfl, ?_⟩; replace HO1 := rb HO1 hb; replace BK279 := am (bb BK279.out hb); replace BK280 := am (bb BK280.out hb); replace HK := am (Kept.below (S := (fun k_ => P1_ k_)) (by repeat (first | (with_reducible first | exact HK.out | apply Kept.alloc | apply Kept.drewN | apply Kept.drew | refine Kept.setCell ?_ (.inr GW279.out) _ | refine Kept.setCell ?_ (.inr GW280.out) _) | exact HK.out)) hb); replace HB := am (below_step bel hb); (try clear hb)) | ((with_reducible refine gate_dst (N := 9) rfl ?_); refine box_event ?hg (N := 9) ?hd (cs := #[.int .i64 0, .int .i64 0, .int .i64 0, .int .i64 0, .int .i64 0, .int .i64 0, .int .i64 0]) (t := 129) ?hr ?_; (case hd => rfl); (case hg => rfl); (case hr => first | (go_simp; done) | (go_simp; rfl)); intro gb284 hg w21 hbox hb; have BK284 := am (hbox); have GW284 := am ((by rw [hg]; exact (by first | exact HK.out.1 | exact (show Kept w _ (fun k_ => P1_ k_) from by repeat (first | (with_reducible first | exact HK.out | apply Kept.alloc | apply Kept.drewN | apply Kept.drew | refine Kept.setCell ?_ (.inr GW279.out) _ | refine Kept.setCell ?_ (.inr GW280.out) _) | exact HK.out)).1) : w.heap.size ≤ gb284)); have GE284 := am ((bsz hg : w0.heap.size ≤ gb284)); have NB279_284 := am ((nlt hg BK279.out : gb279 ≠ gb284)); have NB284_279 := am ((ngt hg BK279.out : gb284 ≠ gb279)); have NB280_284 := am ((nlt hg BK280.out : gb280 ≠ gb284)); have NB284_280 := am ((ngt hg BK280.out : gb284 ≠ gb280)); replace HO1 := am (Kd.R_below (Kd.R_elderB (rk HO1.out) gb284 (Nat.le_of_eq hg.symm)) hb); replace BK279 := am (bb BK279.out hb); replace BK280 := am (bb BK280.out hb); replace HK := am (Kept.below (S := (fun k_ => P1_ k_)) (by repeat (first | (with_reducible first | exact HK.out | apply Kept.alloc | apply Kept.drewN | apply Kept.drew | refine Kept.setCell ?_ (.inr GW279.out) _ | refine Kept.setCell ?_ (.inr GW280.out) _) | exact HK.out)) hb); replace HB := am (below_step bel hb); clear hb hbox hg; have hnb22 := NB284_279.out; have hnc22 := NB279_284.out; have hnb23 := NB284_280.out; have hnc23 := NB280_284.out; obtain ⟨hcz24_0, hcz24_1, hcz24_2, hcz24_3, hcz24_4, hcz24_5, hcz24_6, hfz24_0, hfz24_1, hfz24_2, hfz24_3, hfz24_4, hfz24_5, hfz24_6⟩ := cf7 BK284.out) | ((with_reducible refine gate_dst (N := 10) rfl ?_); refine box_event ?hg (N := 10) ?hd (cs := #[.int .i64 0, .int .i64 0, .int .i64 0, .int .i64 0, .int .i64 0, .int .i64 0, .int .i64 0]) (t := 129) ?hr ?_; (case hd => rfl); (case hg => rfl); (case hr => first | (go_simp; done) | (go_simp; rfl)); intro gb285 hg w25 hbox hb; have BK285 := am (hbox); have GW285 := am ((by rw [hg]; exact (show Kept w _ (fun k_ => P1_ k_) from by repeat (first | (with_reducible first | exact HK.out | apply Kept.alloc | apply Kept.drewN | apply Kept.drew | refine Kept.setCell ?_ (.inr GW279.out) _ | refine Kept.setCell ?_ (.inr GW280.out) _ | refine Kept.setCell ?_ (.inr GW284.out) _) | exact HK.out)).1 : w.heap.size ≤ gb285)); have GE285 := am ((bsz hg : w0.heap.size ≤ gb285)); have NB279_285 := am ((nlt hg BK279.out : gb279 ≠ gb285)); have NB285_279 := am ((ngt hg BK279.out : gb285 ≠ gb279)); have NB280_285 := am ((nlt hg BK280.out : gb280 ≠ gb285)); have NB285_280 := am ((ngt hg BK280.out : gb285 ≠ gb280)); have NB284_285 := am ((by rw [hg]; exact Nat.ne_of_lt (blk_lt (g := gb284) (o := .cells #[.int .i64 1, .int .i64 0, .int .i64 0, .int .i64 0, .int .i64 t281, .int .i64 t282, .int .i64 0] 129 (0, 0)) (by (with_reducible repeat (first | refine blk_drewN ?_ _ | refine blk_drew ?_ | refine blk_alloc ?_ _)); refine blk_put (cs := #[.int .i64 1, .int .i64 0, .int .i64 0, .int .i64 0, .int .i64 t281, .int .i64 t282, .int .i64 0]) ?_ 6 _ rfl; (with_reducible repeat (first | refine blk_drewN ?_ _ | refine blk_drew ?_ | refine blk_alloc ?_ _)); refine blk_put (cs := #[.int .i64 1, .int .i64 0, .int .i64 0, .int .i64 0, .int .i64 t281, .int .i64 0, .int .i64 0]) ?_ 5 _ rfl; (with_reducible repeat (first | refine blk_drewN ?_ _ | refine blk_drew ?_ | refine blk_alloc ?_ _)); refine blk_put (cs := #[.int .i64 1, .int .i64 0, .int .i64 0, .int .i64 0, .int .i64 0, .int .i64 0, .int .i64 0]) ?_ 4 _ rfl; (with_reducible repeat (first | refine blk_drewN ?_ _ | refine blk_drew ?_ | refine blk_alloc ?_ _)); refine blk_put (cs := #[.int .i64 1, .int .i64 0, .int .i64 0, .int .i64 0, .int .i64 0, .int .i64 0, .int .i64 0]) ?_ 3 _ rfl; (with_reducible repeat (first | refine blk_drewN ?_ _ | refine blk_drew ?_ | refine blk_alloc ?_ _)); refine blk_put (cs := #[.int .i64 1, .int .i64 0, .int .i64 0, .int .i64 0, .int .i64 0, .int .i64 0, .int .i64 0]) ?_ 2 _ rfl; (with_reducible repeat (first | refine blk_drewN ?_ _ | refine blk_drew ?_ | refine blk_alloc ?_ _)); refine blk_put (cs := #[.int .i64 1, .int .i64 0, .int .i64 0, .int .i64 0, .int .i64 0, .int .i64 0, .int .i64 0]) ?_ 1 _ rfl; (with_reducible repeat (first | refine blk_drewN ?_ _ | refine blk_drew ?_ | refine blk_alloc ?_ _)); refine blk_put (cs := #[.int .i64 0, .int .i64 0, .int .i64 0, .int .i64 0, .int .i64 0, .int .i64 0, .int .i64 0]) ?_ 0 _ rfl; (with_reducible repeat (first | refine blk_drewN ?_ _ | refine blk_drew ?_ | refine blk_alloc ?_ _)); exact BK284.out)) : gb284 ≠ gb285)); have NB285_284 := am ((by rw [hg]; exact Nat.ne_of_gt (blk_lt (g := gb284) (o := .cells #[.int .i64 1, .int .i64 0, .int .i64 0, .int .i64 0, .int .i64 t281, .int .i64 t282, .int .i64 0] 129 (0, 0)) (by (with_reducible repeat (first | refine blk_drewN ?_ _ | refine blk_drew ?_ | refine blk_alloc ?_ _)); refine blk_put (cs := #[.int .i64 1, .int .i64 0, .int .i64 0, .int .i64 0, .int .i64 t281, .int .i64 t282, .int .i64 0]) ?_ 6 _ rfl; (with_reducible repeat (first | refine blk_drewN ?_ _ | refine blk_drew ?_ | refine blk_alloc ?_ _)); refine blk_put (cs := #[.int .i64 1, .int .i64 0, .int .i64 0, .int .i64 0, .int .i64 t281, .int .i64 0, .int .i64 0]) ?_ 5 _ rfl; (with_reducible repeat (first | refine blk_drewN ?_ _ | refine blk_drew ?_ | refine blk_alloc ?_ _)); refine blk_put (cs := #[.int .i64 1, .int .i64 0, .int .i64 0, .int .i64 0, .int .i64 0, .int .i64 0, .int .i64 0]) ?_ 4 _ rfl; (with_reducible repeat (first | refine blk_drewN ?_ _ | refine blk_drew ?_ | refine blk_alloc ?_ _)); refine blk_put (cs := #[.int .i64 1, .int .i64 0, .int .i64 0, .int .i64 0, .int .i64 0, .int .i64 0, .int .i64 0]) ?_ 3 _ rfl; (with_reducible repeat (first | refine blk_drewN ?_ _ | refine blk_drew ?_ | refine blk_alloc ?_ _)); refine blk_put (cs := #[.int .i64 1, .int .i64 0, .int .i64 0, .int .i64 0, .int .i64 0, .int .i64 0, .int .i64 0]) ?_ 2 _ rfl; (with_reducible repeat (first | refine blk_drewN ?_ _ | refine blk_drew ?_ | refine blk_alloc ?_ _)); refine blk_put (cs := #[.int .i64 1, .int .i64 0, .int .i64 0, .int .i64 0, .int .i64 0, .int .i64 0, .int .i64 0]) ?_ 1 _ rfl; (with_reducible repeat (first | refine blk_drewN ?_ _ | refine blk_drew ?_ | refine blk_alloc ?_ _)); refine blk_put (cs := #[.int .i64 0, .int .i64 0, .int .i64 0, .int .i64 0, .int .i64 0, .int .i64 0, .int .i64 0]) ?_ 0 _ rfl; (with_reducible repeat (first | refine blk_drewN ?_ _ | refine blk_drew ?_ | refine blk_alloc ?_ _)); exact BK284.out)) : gb285 ≠ gb284)); replace HO1 := am (Kd.R_below (Kd.R_elderB (by exact rk (Kd.R_mono (Kd.R_far (p := ⟨gb284, 6, none⟩) (Kd.R_far (p := ⟨gb284, 5, none⟩) (Kd.R_far (p := ⟨gb284, 4, none⟩) (Kd.R_far (p := ⟨gb284, 3, none⟩) (Kd.R_far (p := ⟨gb284, 2, none⟩) (Kd.R_far (p := ⟨gb284, 1, none⟩) (Kd.R_far (p := ⟨gb284, 0, none⟩) (Kd.R_mono HO1.out (fun k_ hk => (⟨hk, hk.2⟩ : _ ∧ k_ ≠ gb284))) (fun _ hk => hk.2) (.int .i64 1)) (fun _ hk => hk.2) (.int .i64 0)) (fun _ hk => hk.2) (.int .i64 0)) (fun _ hk => hk.2) (.int .i64 0)) (fun _ hk => hk.2) (.int .i64 t281)) (fun _ hk => hk.2) (.int .i64 t282)) (fun _ hk => hk.2) (.int .i64 0)) (fun _ h_ => h_.1))) gb285 (Nat.le_of_eq hg.symm)) hb); replace BK279 := am (bb BK279.out hb); replace BK280 := am (bb BK280.out hb); replace BK284 := am (blk_below (g := gb284) (o := .cells #[.int .i64 1, .int .i64 0, .int .i64 0, .int .i64 0, .int .i64 t281, .int .i64 t282, .int .i64 0] 129 (0, 0)) (by (with_reducible repeat (first | refine blk_drewN ?_ _ | refine blk_drew ?_ | refine blk_alloc ?_ _)); refine blk_put (cs := #[.int .i64 1, .int .i64 0, .int .i64 0, .int .i64 0, .int .i64 t281, .int .i64 t282, .int .i64 0]) ?_ 6 _ rfl; (with_reducible repeat (first | refine blk_drewN ?_ _ | refine blk_drew ?_ | refine blk_alloc ?_ _)); refine blk_put (cs := #[.int .i64 1, .int .i64 0, .int .i64 0, .int .i64 0, .int .i64 t281, .int .i64 0, .int .i64 0]) ?_ 5 _ rfl; (with_reducible repeat (first | refine blk_drewN ?_ _ | refine blk_drew ?_ | refine blk_alloc ?_ _)); refine blk_put (cs := #[.int .i64 1, .int .i64 0, .int .i64 0, .int .i64 0, .int .i64 0, .int .i64 0, .int .i64 0]) ?_ 4 _ rfl; (with_reducible repeat (first | refine blk_drewN ?_ _ | refine blk_drew ?_ | refine blk_alloc ?_ _)); refine blk_put (cs := #[.int .i64 1, .int .i64 0, .int .i64 0, .int .i64 0, .int .i64 0, .int .i64 0, .int .i64 0]) ?_ 3 _ rfl; (with_reducible repeat (first | refine blk_drewN ?_ _ | refine blk_drew ?_ | refine blk_alloc ?_ _)); refine blk_put (cs := #[.int .i64 1, .int .i64 0, .int .i64 0, .int .i64 0, .int .i64 0, .int .i64 0, .int .i64 0]) ?_ 2 _ rfl; (with_reducible repeat (first | refine blk_drewN ?_ _ | refine blk_drew ?_ | refine blk_alloc ?_ _)); refine blk_put (cs := #[.int .i64 1, .int .i64 0, .int .i64 0, .int .i64 0, .int .i64 0, .int .i64 0, .int .i64 0]) ?_ 1 _ rfl; (with_reducible repeat (first | refine blk_drewN ?_ _ | refine blk_drew ?_ | refine blk_alloc ?_ _)); refine blk_put (cs := #[.int .i64 0, .int .i64 0, .int .i64 0, .int .i64 0, .int .i64 0, .int .i64 0, .int .i64 0]) ?_ 0 _ rfl; (with_reducible repeat (first | refine blk_drewN ?_ _ | refine blk_drew ?_ | refine blk_alloc ?_ _)); exact BK284.out) hb); replace HK := am (Kept.below (S := (fun k_ => P1_ k_)) (by repeat (first | (with_reducible first | exact HK.out | apply Kept.alloc | apply Kept.drewN | apply Kept.drew | refine Kept.setCell ?_ (.inr GW279.out) _ | refine Kept.setCell ?_ (.inr GW280.out) _ | refine Kept.setCell ?_ (.inr GW284.out) _) | exact HK.out)) hb); replace HB := am (below_step bel hb); clear hb hbox hg; have hnb26 := NB285_279.out; have hnc26 := NB279_285.out; have hnb27 := NB285_280.out; have hnc27 := NB280_285.out; have hnb28 := NB285_284.out; have hnc28 := NB284_285.out; obtain ⟨hcz29_0, hcz29_1, hcz29_2, hcz29_3, hcz29_4, hcz29_5, hcz29_6, hfz29_0, hfz29_1, hfz29_2, hfz29_3, hfz29_4, hfz29_5, hfz29_6⟩ := cf7 BK285.out; obtain ⟨hcz30_0, hcz30_1, hcz30_2, hcz30_3, hcz30_4, hfz30_0, hfz30_1, hfz30_2, hfz30_3, hfz30_4⟩ := cf5 BK280.out) | ((with_reducible refine gate_callee (f := 150) rfl ?_); refine goesL_ (some 26) rfl rfl Try.func150 (by kernel_rfl) rfl #[.agg #[.int .i64 a2_0, .int .i64 a2_1, .int .i64 a2_2, .int .i64 a2_3, .int .i64 a2_4]] rfl ga ?_; (with_reducible refine (spec_OutcomeOf.calls a2_0 a2_1 a2_2 a2_3 a2_4 t286 _ A6.out).mono ?_); rintro e w31 ⟨rfl, hb⟩; refine ⟨_, rfl, ?_⟩; replace HO1 := am (Kd.R_below (by exact rk (Kd.R_mono (Kd.R_far (p := ⟨gb285, 6, none⟩) (Kd.R_far (p := ⟨gb285, 5, none⟩) (Kd.R_far (p := ⟨gb285, 4, none⟩) (Kd.R_far (p := ⟨gb285, 3, none⟩) (Kd.R_far (p := ⟨gb285, 2, none⟩) (Kd.R_far (p := ⟨gb285, 1, none⟩) (Kd.R_far (p := ⟨gb285, 0, none⟩) (Kd.R_mono HO1.out (fun k_ hk => (⟨hk, hk.2⟩ : _ ∧ k_ ≠ gb285))) (fun _ hk => hk.2) (.int .i64 1)) (fun _ hk => hk.2) (.int .i64 0)) (fun _ hk => hk.2) (.int .i64 0)) (fun _ hk => hk.2) (.int .i64 0)) (fun _ hk => hk.2) (.int .i64 t282)) (fun _ hk => hk.2) (.int .i64 t281)) (fun _ hk => hk.2) (.int .i64 0)) (fun _ h_ => h_.1))) hb); replace BK279 := am (bb BK279.out hb); replace BK280 := am (bb BK280.out hb); replace BK284 := am (bb BK284.out hb); replace BK285 := am (blk_below (g := gb285) (o := .cells #[.int .i64 1, .int .i64 0, .int .i64 0, .int .i64 0, .int .i64 t282, .int .i64 t281, .int .i64 0] 129 (0, 0)) (by (with_reducible repeat (first | refine blk_drewN ?_ _ | refine blk_drew ?_ | refine blk_alloc ?_ _)); refine blk_put (cs := #[.int .i64 1, .int .i64 0, .int .i64 0, .int .i64 0, .int .i64 t282, .int .i64 t281, .int .i64 0]) ?_ 6 _ rfl; (with_reducible repeat (first | refine blk_drewN ?_ _ | refine blk_drew ?_ | refine blk_alloc ?_ _)); refine blk_put (cs := #[.int .i64 1, .int .i64 0, .int .i64 0, .int .i64 0, .int .i64 t282, .int .i64 0, .int .i64 0]) ?_ 5 _ rfl; (with_reducible repeat (first | refine blk_drewN ?_ _ | refine blk_drew ?_ | refine blk_alloc ?_ _)); refine blk_put (cs := #[.int .i64 1, .int .i64 0, .int .i64 0, .int .i64 0, .int .i64 0, .int .i64 0, .int .i64 0]) ?_ 4 _ rfl; (with_reducible repeat (first | refine blk_drewN ?_ _ | refine blk_drew ?_ | refine blk_alloc ?_ _)); refine blk_put (cs := #[.int .i64 1, .int .i64 0, .int .i64 0, .int .i64 0, .int .i64 0, .int .i64 0, .int .i64 0]) ?_ 3 _ rfl; (with_reducible repeat (first | refine blk_drewN ?_ _ | refine blk_drew ?_ | refine blk_alloc ?_ _)); refine blk_put (cs := #[.int .i64 1, .int .i64 0, .int .i64 0, .int .i64 0, .int .i64 0, .int .i64 0, .int .i64 0]) ?_ 2 _ rfl; (with_reducible repeat (first | refine blk_drewN ?_ _ | refine blk_drew ?_ | refine blk_alloc ?_ _)); refine blk_put (cs := #[.int .i64 1, .int .i64 0, .int .i64 0, .int .i64 0, .int .i64 0, .int .i64 0, .int .i64 0]) ?_ 1 _ rfl; (with_reducible repeat (first | refine blk_drewN ?_ _ | refine blk_drew ?_ | refine blk_alloc ?_ _)); refine blk_put (cs := #[.int .i64 0, .int .i64 0, .int .i64 0, .int .i64 0, .int .i64 0, .int .i64 0, .int .i64 0]) ?_ 0 _ rfl; (with_reducible repeat (first | refine blk_drewN ?_ _ | refine blk_drew ?_ | refine blk_alloc ?_ _)); exact BK285.out) hb); replace HK := am (Kept.below (S := (fun k_ => P1_ k_)) (by repeat (first | (with_reducible first | exact HK.out | apply Kept.alloc | apply Kept.drewN | apply Kept.drew | refine Kept.setCell ?_ (.inr GW279.out) _ | refine Kept.setCell ?_ (.inr GW280.out) _ | refine Kept.setCell ?_ (.inr GW284.out) _ | refine Kept.setCell ?_ (.inr GW285.out) _) | exact HK.out)) hb); replace HB := am (below_step bel hb); (try clear hb); obtain ⟨hcz32_0, hcz32_1, hcz32_2, hcz32_3, hcz32_4, hcz32_5, hcz32_6, hfz32_0, hfz32_1, hfz32_2, hfz32_3, hfz32_4, hfz32_5, hfz32_6⟩ := cf7 BK284.out; obtain ⟨hcz33_0, hcz33_1, hcz33_2, hcz33_3, hcz33_4, hcz33_5, hcz33_6, hfz33_0, hfz33_1, hfz33_2, hfz33_3, hfz33_4, hfz33_5, hfz33_6⟩ := cf7 BK285.out; obtain ⟨hcz34_0, hcz34_1, hcz34_2, hcz34_3, hcz34_4, hfz34_0, hfz34_1, hfz34_2, hfz34_3, hfz34_4⟩ := cf5 BK279.out))
    (try simp only [Act.put, List.setIfInBounds_toArray, List.set_cons_zero, List.set_cons_succ])
    go_cut [] (fun wc => ∃ p0 p1 p2 p3 p4 p5 p6 q0 q1 q2 q3 q4 q5 q6 : Int, Aside0 (spec_l06Add.fin l1 a2_0 a2_1 p0 p1 p2 p3 p4 p5 p6 q0 q1 q2 q3 q4 q5 q6 = some r) ∧ Aside0 (Kd.R k129 129 wc w0.heap.size (fun k_ => (P1_ k_ ∨ w.heap.size ≤ k_) ∧ k_ ≠ gb284 ∧ k_ ≠ gb285) u9000_ l1) ∧ Aside0 (wc.heap[gb279]? = some (.cells #[.int .i64 a0_0, .int .i64 a0_1, .int .i64 a0_2, .slice A0_3 l0_3.length c0_3, .bool a0_4] 34 (0, 0))) ∧ Aside0 (wc.heap[gb280]? = some (.cells #[.int .i64 a2_0, .int .i64 a2_1, .int .i64 a2_2, .int .i64 a2_3, .int .i64 a2_4] 71 (0, 0))) ∧ Aside0 (wc.heap[gb284]? = some (.cells #[.int .i64 p0, .int .i64 p1, .int .i64 p2, .int .i64 p3, .int .i64 p4, .int .i64 p5, .int .i64 p6] 129 (0, 0))) ∧ Aside0 (wc.heap[gb285]? = some (.cells #[.int .i64 q0, .int .i64 q1, .int .i64 q2, .int .i64 q3, .int .i64 q4, .int .i64 q5, .int .i64 q6] 129 (0, 0))) ∧ Aside0 (Kept w wc (fun k_ => P1_ k_)) ∧ Aside0 (Below w0.heap.size w0 wc))
    case first =>
      have H := HC_.out
      clear HC_
      by_cases cw1 : t286 = 1
      · rw [if_pos cw1] at H
        have cw1b := (beq_iff_eq (a := t286) (b := 1)).mpr cw1
        have cw1e : (t286 != 1) = false := bne_eq_false_iff_eq.mpr cw1
        clear cw1
        have HF_ := Aside0.mk H
        clear H
        go_wp2
        go_meet
        case rel =>
          exact ⟨1, 1, 0, 0, t281, t282, a0_0, 1, 0, 0, 1, t282, t281, a0_2, HF_, ⟨by (with_reducible repeat (first | apply Kd.R_alloc | apply Kd.R_drewN | apply Kd.R_drew)); exact Kd.R_mono (Kd.R_far (p := ⟨gb285, 6, none⟩) (Kd.R_far (p := ⟨gb284, 6, none⟩) (Kd.R_far (p := ⟨gb285, 3, none⟩) (Kd.R_far (p := ⟨gb284, 1, none⟩) (Kd.R_mono (Kd.R_mono HO1.out (fun k_ hk => (⟨hk, hk.1.2⟩ : _ ∧ k_ ≠ gb284))) (fun k_ hk => (⟨hk, hk.1.2⟩ : _ ∧ k_ ≠ gb285))) (fun _ hk => hk.1.2) (.int .i64 1)) (fun _ hk => hk.2) (.int .i64 1)) (fun _ hk => hk.1.2) (.int .i64 a0_0)) (fun _ hk => hk.2) (.int .i64 a0_2)) (fun _ hk => ⟨hk.1.1.1.1, ⟨hk.1.1.1.2, hk.1.1.2⟩⟩)⟩, ⟨bk BK279.out⟩, ⟨bk BK280.out⟩, ⟨by (with_reducible repeat (first | refine blk_drewN ?_ _ | refine blk_drew ?_ | refine blk_alloc ?_ _)); refine blk_far ?_ NB284_285.out _; (with_reducible repeat (first | refine blk_drewN ?_ _ | refine blk_drew ?_ | refine blk_alloc ?_ _)); refine blk_put (cs := #[.int .i64 1, .int .i64 1, .int .i64 0, .int .i64 0, .int .i64 t281, .int .i64 t282, .int .i64 0]) ?_ 6 _ rfl; (with_reducible repeat (first | refine blk_drewN ?_ _ | refine blk_drew ?_ | refine blk_alloc ?_ _)); refine blk_far ?_ NB284_285.out _; (with_reducible repeat (first | refine blk_drewN ?_ _ | refine blk_drew ?_ | refine blk_alloc ?_ _)); refine blk_put (cs := #[.int .i64 1, .int .i64 0, .int .i64 0, .int .i64 0, .int .i64 t281, .int .i64 t282, .int .i64 0]) ?_ 1 _ rfl; (with_reducible repeat (first | refine blk_drewN ?_ _ | refine blk_drew ?_ | refine blk_alloc ?_ _)); exact BK284.out⟩, ⟨by (with_reducible repeat (first | refine blk_drewN ?_ _ | refine blk_drew ?_ | refine blk_alloc ?_ _)); refine blk_put (cs := #[.int .i64 1, .int .i64 0, .int .i64 0, .int .i64 1, .int .i64 t282, .int .i64 t281, .int .i64 0]) ?_ 6 _ rfl; (with_reducible repeat (first | refine blk_drewN ?_ _ | refine blk_drew ?_ | refine blk_alloc ?_ _)); refine blk_far ?_ NB285_284.out _; (with_reducible repeat (first | refine blk_drewN ?_ _ | refine blk_drew ?_ | refine blk_alloc ?_ _)); refine blk_put (cs := #[.int .i64 1, .int .i64 0, .int .i64 0, .int .i64 0, .int .i64 t282, .int .i64 t281, .int .i64 0]) ?_ 3 _ rfl; (with_reducible repeat (first | refine blk_drewN ?_ _ | refine blk_drew ?_ | refine blk_alloc ?_ _)); refine blk_far ?_ NB285_284.out _; (with_reducible repeat (first | refine blk_drewN ?_ _ | refine blk_drew ?_ | refine blk_alloc ?_ _)); exact BK285.out⟩, ⟨by repeat (first | (with_reducible first | exact HK.out | apply Kept.alloc | apply Kept.drewN | apply Kept.drew | refine Kept.setCell ?_ (.inr GW279.out) _ | refine Kept.setCell ?_ (.inr GW280.out) _ | refine Kept.setCell ?_ (.inr GW284.out) _ | refine Kept.setCell ?_ (.inr GW285.out) _) | exact HK.out)⟩, ⟨bel⟩⟩
      rw [if_neg cw1] at H
      have cw1b : (t286 == 1) = false := beq_eq_false_iff_ne.mpr cw1
      have cw1e : (t286 != 1) = true := bne_iff_ne.mpr cw1
      clear cw1
      by_cases cw2 : t286 = 2
      · rw [if_pos cw2] at H
        have cw2b := (beq_iff_eq (a := t286) (b := 2)).mpr cw2
        have cw2e : (t286 != 2) = false := bne_eq_false_iff_eq.mpr cw2
        clear cw2
        have HF_ := Aside0.mk H
        clear H
        go_wp2
        go_meet
        case rel =>
          exact ⟨1, 0, 1, 0, t281, t282, a0_1, 1, 0, 1, 0, t282, t281, a0_1, HF_, ⟨by (with_reducible repeat (first | apply Kd.R_alloc | apply Kd.R_drewN | apply Kd.R_drew)); exact Kd.R_mono (Kd.R_far (p := ⟨gb285, 6, none⟩) (Kd.R_far (p := ⟨gb284, 6, none⟩) (Kd.R_far (p := ⟨gb285, 2, none⟩) (Kd.R_far (p := ⟨gb284, 2, none⟩) (Kd.R_mono (Kd.R_mono HO1.out (fun k_ hk => (⟨hk, hk.1.2⟩ : _ ∧ k_ ≠ gb284))) (fun k_ hk => (⟨hk, hk.1.2⟩ : _ ∧ k_ ≠ gb285))) (fun _ hk => hk.1.2) (.int .i64 1)) (fun _ hk => hk.2) (.int .i64 1)) (fun _ hk => hk.1.2) (.int .i64 a0_1)) (fun _ hk => hk.2) (.int .i64 a0_1)) (fun _ hk => ⟨hk.1.1.1.1, ⟨hk.1.1.1.2, hk.1.1.2⟩⟩)⟩, ⟨bk BK279.out⟩, ⟨bk BK280.out⟩, ⟨by (with_reducible repeat (first | refine blk_drewN ?_ _ | refine blk_drew ?_ | refine blk_alloc ?_ _)); refine blk_far ?_ NB284_285.out _; (with_reducible repeat (first | refine blk_drewN ?_ _ | refine blk_drew ?_ | refine blk_alloc ?_ _)); refine blk_put (cs := #[.int .i64 1, .int .i64 0, .int .i64 1, .int .i64 0, .int .i64 t281, .int .i64 t282, .int .i64 0]) ?_ 6 _ rfl; (with_reducible repeat (first | refine blk_drewN ?_ _ | refine blk_drew ?_ | refine blk_alloc ?_ _)); refine blk_far ?_ NB284_285.out _; (with_reducible repeat (first | refine blk_drewN ?_ _ | refine blk_drew ?_ | refine blk_alloc ?_ _)); refine blk_put (cs := #[.int .i64 1, .int .i64 0, .int .i64 0, .int .i64 0, .int .i64 t281, .int .i64 t282, .int .i64 0]) ?_ 2 _ rfl; (with_reducible repeat (first | refine blk_drewN ?_ _ | refine blk_drew ?_ | refine blk_alloc ?_ _)); exact BK284.out⟩, ⟨by (with_reducible repeat (first | refine blk_drewN ?_ _ | refine blk_drew ?_ | refine blk_alloc ?_ _)); refine blk_put (cs := #[.int .i64 1, .int .i64 0, .int .i64 1, .int .i64 0, .int .i64 t282, .int .i64 t281, .int .i64 0]) ?_ 6 _ rfl; (with_reducible repeat (first | refine blk_drewN ?_ _ | refine blk_drew ?_ | refine blk_alloc ?_ _)); refine blk_far ?_ NB285_284.out _; (with_reducible repeat (first | refine blk_drewN ?_ _ | refine blk_drew ?_ | refine blk_alloc ?_ _)); refine blk_put (cs := #[.int .i64 1, .int .i64 0, .int .i64 0, .int .i64 0, .int .i64 t282, .int .i64 t281, .int .i64 0]) ?_ 2 _ rfl; (with_reducible repeat (first | refine blk_drewN ?_ _ | refine blk_drew ?_ | refine blk_alloc ?_ _)); refine blk_far ?_ NB285_284.out _; (with_reducible repeat (first | refine blk_drewN ?_ _ | refine blk_drew ?_ | refine blk_alloc ?_ _)); exact BK285.out⟩, ⟨by repeat (first | (with_reducible first | exact HK.out | apply Kept.alloc | apply Kept.drewN | apply Kept.drew | refine Kept.setCell ?_ (.inr GW279.out) _ | refine Kept.setCell ?_ (.inr GW280.out) _ | refine Kept.setCell ?_ (.inr GW284.out) _ | refine Kept.setCell ?_ (.inr GW285.out) _) | exact HK.out)⟩, ⟨bel⟩⟩
      rw [if_neg cw2] at H
      have cw2b : (t286 == 2) = false := beq_eq_false_iff_ne.mpr cw2
      have cw2e : (t286 != 2) = true := bne_iff_ne.mpr cw2
      clear cw2
      by_cases cw3 : t286 = 3
      · rw [if_pos cw3] at H
        have cw3b := (beq_iff_eq (a := t286) (b := 3)).mpr cw3
        have cw3e : (t286 != 3) = false := bne_eq_false_iff_eq.mpr cw3
        clear cw3
        have HF_ := Aside0.mk H
        clear H
        go_wp2
        go_meet
        case rel =>
          exact ⟨1, 0, 0, 1, t281, t282, a0_2, 1, 1, 0, 0, t282, t281, a0_0, HF_, ⟨by (with_reducible repeat (first | apply Kd.R_alloc | apply Kd.R_drewN | apply Kd.R_drew)); exact Kd.R_mono (Kd.R_far (p := ⟨gb285, 6, none⟩) (Kd.R_far (p := ⟨gb284, 6, none⟩) (Kd.R_far (p := ⟨gb285, 1, none⟩) (Kd.R_far (p := ⟨gb284, 3, none⟩) (Kd.R_mono (Kd.R_mono HO1.out (fun k_ hk => (⟨hk, hk.1.2⟩ : _ ∧ k_ ≠ gb284))) (fun k_ hk => (⟨hk, hk.1.2⟩ : _ ∧ k_ ≠ gb285))) (fun _ hk => hk.1.2) (.int .i64 1)) (fun _ hk => hk.2) (.int .i64 1)) (fun _ hk => hk.1.2) (.int .i64 a0_2)) (fun _ hk => hk.2) (.int .i64 a0_0)) (fun _ hk => ⟨hk.1.1.1.1, ⟨hk.1.1.1.2, hk.1.1.2⟩⟩)⟩, ⟨bk BK279.out⟩, ⟨bk BK280.out⟩, ⟨by (with_reducible repeat (first | refine blk_drewN ?_ _ | refine blk_drew ?_ | refine blk_alloc ?_ _)); refine blk_far ?_ NB284_285.out _; (with_reducible repeat (first | refine blk_drewN ?_ _ | refine blk_drew ?_ | refine blk_alloc ?_ _)); refine blk_put (cs := #[.int .i64 1, .int .i64 0, .int .i64 0, .int .i64 1, .int .i64 t281, .int .i64 t282, .int .i64 0]) ?_ 6 _ rfl; (with_reducible repeat (first | refine blk_drewN ?_ _ | refine blk_drew ?_ | refine blk_alloc ?_ _)); refine blk_far ?_ NB284_285.out _; (with_reducible repeat (first | refine blk_drewN ?_ _ | refine blk_drew ?_ | refine blk_alloc ?_ _)); refine blk_put (cs := #[.int .i64 1, .int .i64 0, .int .i64 0, .int .i64 0, .int .i64 t281, .int .i64 t282, .int .i64 0]) ?_ 3 _ rfl; (with_reducible repeat (first | refine blk_drewN ?_ _ | refine blk_drew ?_ | refine blk_alloc ?_ _)); exact BK284.out⟩, ⟨by (with_reducible repeat (first | refine blk_drewN ?_ _ | refine blk_drew ?_ | refine blk_alloc ?_ _)); refine blk_put (cs := #[.int .i64 1, .int .i64 1, .int .i64 0, .int .i64 0, .int .i64 t282, .int .i64 t281, .int .i64 0]) ?_ 6 _ rfl; (with_reducible repeat (first | refine blk_drewN ?_ _ | refine blk_drew ?_ | refine blk_alloc ?_ _)); refine blk_far ?_ NB285_284.out _; (with_reducible repeat (first | refine blk_drewN ?_ _ | refine blk_drew ?_ | refine blk_alloc ?_ _)); refine blk_put (cs := #[.int .i64 1, .int .i64 0, .int .i64 0, .int .i64 0, .int .i64 t282, .int .i64 t281, .int .i64 0]) ?_ 1 _ rfl; (with_reducible repeat (first | refine blk_drewN ?_ _ | refine blk_drew ?_ | refine blk_alloc ?_ _)); refine blk_far ?_ NB285_284.out _; (with_reducible repeat (first | refine blk_drewN ?_ _ | refine blk_drew ?_ | refine blk_alloc ?_ _)); exact BK285.out⟩, ⟨by repeat (first | (with_reducible first | exact HK.out | apply Kept.alloc | apply Kept.drewN | apply Kept.drew | refine Kept.setCell ?_ (.inr GW279.out) _ | refine Kept.setCell ?_ (.inr GW280.out) _ | refine Kept.setCell ?_ (.inr GW284.out) _ | refine Kept.setCell ?_ (.inr GW285.out) _) | exact HK.out)⟩, ⟨bel⟩⟩
      rw [if_neg cw3] at H
      have cw3b : (t286 == 3) = false := beq_eq_false_iff_ne.mpr cw3
      have cw3e : (t286 != 3) = true := bne_iff_ne.mpr cw3
      clear cw3
      have HF_ := Aside0.mk H
      clear H
      go_wp2
      go_meet
      case rel =>
        exact ⟨1, 0, 0, 0, t281, t282, 0, 1, 0, 0, 0, t282, t281, 0, HF_, (by first | exact ⟨rk HO1.out⟩ | exact ⟨Kd.R_mono (rk HO1.out) (fun _ hk => ⟨hk.1.1, hk.1.2, hk.2⟩)⟩), ⟨bk BK279.out⟩, ⟨bk BK280.out⟩, ⟨bk BK284.out⟩, ⟨bk BK285.out⟩, ⟨by repeat (first | (with_reducible first | exact HK.out | apply Kept.alloc | apply Kept.drewN | apply Kept.drew | refine Kept.setCell ?_ (.inr GW279.out) _ | refine Kept.setCell ?_ (.inr GW280.out) _ | refine Kept.setCell ?_ (.inr GW284.out) _ | refine Kept.setCell ?_ (.inr GW285.out) _) | exact HK.out)⟩, ⟨bel⟩⟩
    case rest =>
      (try clear HC_)
      (try clear HC_)
      obtain ⟨p0, p1, p2, p3, p4, p5, p6, q0, q1, q2, q3, q4, q5, q6, HF_, HO1_, BK279_, BK280_, BK284_, BK285_, HK_, HB_⟩ := hcut
      (try clear HO1)
      have HO1 := HO1_
      clear HO1_
      (try clear BK279)
      have BK279 := BK279_
      clear BK279_
      (try clear BK280)
      have BK280 := BK280_
      clear BK280_
      (try clear BK284)
      have BK284 := BK284_
      clear BK284_
      (try clear BK285)
      have BK285 := BK285_
      clear BK285_
      (try clear HK)
      have HK := HK_
      clear HK_
      (try clear HB)
      have HB := HB_
      clear HB_
      go_wp2
      have H := HF_.out
      clear HF_
      unfold spec_l06Add.fin at H
      by_cases c8 : 0 ≤ a2_0
      · rw [if_pos c8] at H
        have c8b0 : decide (0 ≤ a2_0) = true := decide_eq_true c8
        clear c8
        by_cases c9 : a2_0 < (l1.length : Int)
        · rw [if_pos c9] at H
          have c9b0 : decide (a2_0 < (l1.length : Int)) = true := decide_eq_true c9
          clear c9
          replace H := Option.bind_eq_some_iff.mp H
          obtain ⟨⟨t288, t289, t290, t291, t292, t293, t294⟩, A100, H⟩ := H
          replace H : ((some (l1.set (a2_0 : Int).toNat (⟨t288, t289, t290, t291, t292, t293, t294⟩ : S129) : List (S129))).bind fun y295 => (if 0 ≤ a2_1 then (if a2_1 < (l1.length : Int) then ((spec_AddRows.f ((rd_T129 y295 a2_1).f0) ((rd_T129 y295 a2_1).f1) ((rd_T129 y295 a2_1).f2) ((rd_T129 y295 a2_1).f3) ((rd_T129 y295 a2_1).f4) ((rd_T129 y295 a2_1).f5) ((rd_T129 y295 a2_1).f6) q0 q1 q2 q3 q4 q5 q6).bind fun bt297 => (some (y295.set (a2_1 : Int).toNat (⟨bt297.1, bt297.2.1, bt297.2.2.1, bt297.2.2.2.1, bt297.2.2.2.2.1, bt297.2.2.2.2.2.1, bt297.2.2.2.2.2.2⟩ : S129)))) else (none)) else (none))) = some r := H
          have A10 := am A100
          clear A100
          obtain ⟨y295, hy295⟩ : ∃ y_ : List (S129), y_ = (l1.set (a2_0 : Int).toNat (⟨t288, t289, t290, t291, t292, t293, t294⟩ : S129)) := ⟨_, rfl⟩
          replace H : (if 0 ≤ a2_1 then (if a2_1 < (l1.length : Int) then ((spec_AddRows.f ((rd_T129 y295 a2_1).f0) ((rd_T129 y295 a2_1).f1) ((rd_T129 y295 a2_1).f2) ((rd_T129 y295 a2_1).f3) ((rd_T129 y295 a2_1).f4) ((rd_T129 y295 a2_1).f5) ((rd_T129 y295 a2_1).f6) q0 q1 q2 q3 q4 q5 q6).bind fun bt297 => (some (y295.set (a2_1 : Int).toNat (⟨bt297.1, bt297.2.1, bt297.2.2.1, bt297.2.2.2.1, bt297.2.2.2.2.1, bt297.2.2.2.2.2.1, bt297.2.2.2.2.2.2⟩ : S129)))) else (none)) else (none)) = some r := by first | (rw [hy295]; with_reducible exact H) | (have H2_ := (Option.bind_some _ _).symm.trans H; rw [hy295]; with_reducible exact H2_) | (have H2_ := (Option.bind_some _ _).symm.trans H; with_reducible exact H2_) | with_reducible exact H | (rw [hy295]; exact H) | exact H
          have Ny295 := am hy295
          clear hy295
          by_cases c12 : 0 ≤ a2_1
          · rw [if_pos c12] at H
            have c12b0 : decide (0 ≤ a2_1) = true := decide_eq_true c12
            clear c12
            by_cases c13 : a2_1 < (l1.length : Int)
            · rw [if_pos c13] at H
              have c13b0 : decide (a2_1 < (l1.length : Int)) = true := decide_eq_true c13
              clear c13
              replace H := Option.bind_eq_some_iff.mp H
              obtain ⟨⟨t297, t298, t299, t300, t301, t302, t303⟩, A140, H⟩ := H
              replace H : (some (y295.set (a2_1 : Int).toNat (⟨t297, t298, t299, t300, t301, t302, t303⟩ : S129))) = some r := H
              have A14 := am A140
              clear A140
              obtain ⟨y304, hy304⟩ : ∃ y_ : List (S129), y_ = (y295.set (a2_1 : Int).toNat (⟨t297, t298, t299, t300, t301, t302, t303⟩ : S129)) := ⟨_, rfl⟩
              replace H : (some y304) = some r := by first | (rw [hy304]; with_reducible exact H) | (have H2_ := (Option.bind_some _ _).symm.trans H; rw [hy304]; with_reducible exact H2_) | (have H2_ := (Option.bind_some _ _).symm.trans H; with_reducible exact H2_) | with_reducible exact H | (rw [hy304]; exact H) | exact H
              have Ny304 := am hy304
              clear hy304
              obtain rfl := Option.some.inj H
              replace HO1 := rd1 HO1
              replace BK279 := am (blk_drew BK279.out)
              replace BK280 := am (blk_drew BK280.out)
              replace BK284 := am (blk_drew BK284.out)
              replace BK285 := am (blk_drew BK285.out)
              replace HK := am (Kept.drew HK.out)
              replace HB := am (below_drew1 HB.out)
              obtain ⟨Ao37, co37, eo37⟩ := Kd.R_slice HO1.out
              (first | subst eo37 | (injection eo37 with f1_ f2_ f3_; have f4_ := f1_.symm; have f5_ := f3_.symm; clear f1_ f2_ f3_; subst f4_; subst f5_))
              have p287 : 0 ≤ (a2_0 : Int) := asm
              have q287 : a2_0 < (l1.length : Int) := asm
              obtain ⟨ad287, e287, hx287_0, hx287_1, hx287_2, hx287_3, hx287_4, hx287_5, hx287_6⟩ := at_T129 (Kd.R_reads' HO1.out).2.2 a2_0 p287 q287
              cases e287
              replace p287 := eq_true p287
              replace q287 := eq_true q287
              refine start_ (n := 12) (S := fun w' => w'.cell? ⟨gb280, 0, none⟩ = some (.int .i64 a2_0) ∧ w'.cell? ⟨gb280, 1, none⟩ = some (.int .i64 a2_1) ∧ w'.cell? ⟨gb280, 2, none⟩ = some (.int .i64 a2_2) ∧ w'.cell? ⟨gb280, 3, none⟩ = some (.int .i64 a2_3) ∧ w'.cell? ⟨gb280, 4, none⟩ = some (.int .i64 a2_4) ∧ w'.cell? ⟨gb284, 0, none⟩ = some (.int .i64 p0) ∧ w'.cell? ⟨gb284, 1, none⟩ = some (.int .i64 p1) ∧ w'.cell? ⟨gb284, 2, none⟩ = some (.int .i64 p2) ∧ w'.cell? ⟨gb284, 3, none⟩ = some (.int .i64 p3) ∧ w'.cell? ⟨gb284, 4, none⟩ = some (.int .i64 p4) ∧ w'.cell? ⟨gb284, 5, none⟩ = some (.int .i64 p5) ∧ w'.cell? ⟨gb284, 6, none⟩ = some (.int .i64 p6) ∧ w'.cell? (ad287.add ((a2_0).toNat * 7)) = some (.int .i64 ((rd_T129 l1 a2_0).f0)) ∧ w'.cell? ⟨(ad287.add ((a2_0).toNat * 7)).block, (ad287.add ((a2_0).toNat * 7)).off + 1, none⟩ = some (.int .i64 ((rd_T129 l1 a2_0).f1)) ∧ w'.cell? ⟨(ad287.add ((a2_0).toNat * 7)).block, (ad287.add ((a2_0).toNat * 7)).off + 2, none⟩ = some (.int .i64 ((rd_T129 l1 a2_0).f2)) ∧ w'.cell? ⟨(ad287.add ((a2_0).toNat * 7)).block, (ad287.add ((a2_0).toNat * 7)).off + 3, none⟩ = some (.int .i64 ((rd_T129 l1 a2_0).f3)) ∧ w'.cell? ⟨(ad287.add ((a2_0).toNat * 7)).block, (ad287.add ((a2_0).toNat * 7)).off + 4, none⟩ = some (.int .i64 ((rd_T129 l1 a2_0).f4)) ∧ w'.cell? ⟨(ad287.add ((a2_0).toNat * 7)).block, (ad287.add ((a2_0).toNat * 7)).off + 5, none⟩ = some (.int .i64 ((rd_T129 l1 a2_0).f5)) ∧ w'.cell? ⟨(ad287.add ((a2_0).toNat * 7)).block, (ad287.add ((a2_0).toNat * 7)).off + 6, none⟩ = some (.int .i64 ((rd_T129 l1 a2_0).f6))) (ds := [11]) #[false, false, false, false, false, false, false, false, false, false, false, false] (by kernel_rfl) rfl rfl ⟨(blk_cell BK280.out 0).trans rfl, (blk_cell BK280.out 1).trans rfl, (blk_cell BK280.out 2).trans rfl, (blk_cell BK280.out 3).trans rfl, (blk_cell BK280.out 4).trans rfl, (blk_cell BK284.out 0).trans rfl, (blk_cell BK284.out 1).trans rfl, (blk_cell BK284.out 2).trans rfl, (blk_cell BK284.out 3).trans rfl, (blk_cell BK284.out 4).trans rfl, (blk_cell BK284.out 5).trans rfl, (blk_cell BK284.out 6).trans rfl, hx287_0, hx287_1, hx287_2, hx287_3, hx287_4, hx287_5, hx287_6⟩ (fun hHeld => ?_); refine with_tabW spec_l06Add.tab21 spec_l06Add.bits21 (fun HT_ HW_ => ?_)
              generalize wc.drew = w36 at HO1 BK279 BK280 BK284 BK285 HK HB hx287_0 hx287_1 hx287_2 hx287_3 hx287_4 hx287_5 hx287_6 hHeld ⊢
              refine pure_ (i := 0) (N := some 57) (v := ?_) (a' := ?_) #[true, false, false, false, false, false, false, false, false, false, false, false] rfl rfl (any_of HT_.out (by kernel_rfl)) (fun _ _ _ h => h) (Or.inl ⟨by rfl, ?_⟩) ?_ ?_
              rotate_left
              · intro w'
                go_simp
                with_reducible rfl
              rotate_left
              · simp only [Act.put, List.setIfInBounds_toArray, List.set_cons_zero, List.set_cons_succ, i64_w, i32_w]
                rfl
              refine pure_ (i := 1) (N := some 58) (v := ?_) (a' := ?_) #[true, true, false, false, false, false, false, false, false, false, false, false] rfl rfl (any_of HT_.out (by kernel_rfl)) (fun _ _ _ h => h) (Or.inl ⟨by rfl, ?_⟩) ?_ ?_
              rotate_left
              · intro w'
                go_simp
                with_reducible rfl
              rotate_left
              · simp only [Act.put, List.setIfInBounds_toArray, List.set_cons_zero, List.set_cons_succ, i64_w, i32_w]
                rfl
              refine pure_ (i := 3) (N := some 60) (v := ?_) (a' := ?_) #[true, true, false, true, false, false, false, false, false, false, false, false] rfl rfl (any_of HT_.out (by kernel_rfl)) (fun _ _ _ h => h) (Or.inl ⟨by rfl, ?_⟩) ?_ ?_
              rotate_left
              · intro w'
                go_simp
                with_reducible rfl
              rotate_left
              · simp only [Act.put, List.setIfInBounds_toArray, List.set_cons_zero, List.set_cons_succ, i64_w, i32_w]
                rfl
              refine pure_ (i := 4) (N := some 61) (v := ?_) (a' := ?_) #[true, true, false, true, true, false, false, false, false, false, false, false] rfl rfl (any_of HT_.out (by kernel_rfl)) (fun _ _ _ h => h) (Or.inl ⟨by rfl, ?_⟩) ?_ ?_
              rotate_left
              · intro w'
                go_simp
                with_reducible rfl
              rotate_left
              · simp only [Act.put, List.setIfInBounds_toArray, List.set_cons_zero, List.set_cons_succ, i64_w, i32_w]
                rfl
              refine take_ (i := 2) (N := some 59) (v := ?_) (a' := ?_) #[true, true, true, true, true, false, false, false, false, false, false, false] rfl rfl (take_ofW HT_.out HW_.out (by kernel_rfl)) (fun _ _ _ h => h) (Or.inl ⟨by rfl, ?_⟩) hHeld ?_ ?_
              rotate_left
              · rintro w' ⟨s0, s1, s2, s3, s4, s5, s6, s7, s8, s9, s10, s11, s12, s13, s14, s15, s16, s17, s18⟩
                go_simp
                with_reducible rfl
              rotate_left
              · simp only [Act.put, List.setIfInBounds_toArray, List.set_cons_zero, List.set_cons_succ, i64_w, i32_w]
                rfl
              refine take_ (i := 5) (N := some 62) (v := ?_) (a' := ?_) #[true, true, true, true, true, true, false, false, false, false, false, false] rfl rfl (take_ofW HT_.out HW_.out (by kernel_rfl)) (fun _ _ _ h => h) (Or.inl ⟨by rfl, ?_⟩) hHeld ?_ ?_
              rotate_left
              · rintro w' ⟨s0, s1, s2, s3, s4, s5, s6, s7, s8, s9, s10, s11, s12, s13, s14, s15, s16, s17, s18⟩
                go_simp
                with_reducible rfl
              rotate_left
              · simp only [Act.put, List.setIfInBounds_toArray, List.set_cons_zero, List.set_cons_succ, i64_w, i32_w]
                rfl
              refine pure_ (i := 6) (N := some 63) (v := ?_) (a' := ?_) #[true, true, true, true, true, true, true, false, false, false, false, false] rfl rfl (any_of HT_.out (by kernel_rfl)) (fun _ _ _ h => h) (Or.inl ⟨by rfl, ?_⟩) ?_ ?_
              rotate_left
              · intro w'
                go_simp
                with_reducible rfl
              rotate_left
              · simp only [Act.put, List.setIfInBounds_toArray, List.set_cons_zero, List.set_cons_succ, i64_w, i32_w]
                rfl
              refine take_ (i := 7) (N := some 64) (v := ?_) (a' := ?_) #[true, true, true, true, true, true, true, true, false, false, false, false] rfl rfl (take_ofW HT_.out HW_.out (by kernel_rfl)) (fun _ _ _ h => h) (Or.inl ⟨by rfl, ?_⟩) hHeld ?_ ?_
              rotate_left
              · rintro w' ⟨s0, s1, s2, s3, s4, s5, s6, s7, s8, s9, s10, s11, s12, s13, s14, s15, s16, s17, s18⟩
                go_simp
                with_reducible rfl
              rotate_left
              · simp only [Act.put, List.setIfInBounds_toArray, List.set_cons_zero, List.set_cons_succ, i64_w, i32_w]
                rfl
              refine take_ (i := 8) (N := some 65) (v := ?_) (a' := ?_) #[true, true, true, true, true, true, true, true, true, false, false, false] rfl rfl (take_ofW HT_.out HW_.out (by kernel_rfl)) (fun _ _ _ h => h) (Or.inl ⟨by rfl, ?_⟩) hHeld ?_ ?_
              rotate_left
              · rintro w' ⟨s0, s1, s2, s3, s4, s5, s6, s7, s8, s9, s10, s11, s12, s13, s14, s15, s16, s17, s18⟩
                go_simp
                with_reducible rfl
              rotate_left
              · simp only [Act.put, List.setIfInBounds_toArray, List.set_cons_zero, List.set_cons_succ, i64_w, i32_w]
                rfl
              refine one_ (i := 9) (N := some 66) #[true, true, true, true, true, true, true, true, true, true, false, false] rfl rfl (one_of HT_.out (by kernel_rfl)) (by decide) (fun K hK => ?_)
              refine goes_ Try.func151 (by kernel_rfl) rfl #[.agg #[.int .i64 ((rd_T129 l1 a2_0).f0), .int .i64 ((rd_T129 l1 a2_0).f1), .int .i64 ((rd_T129 l1 a2_0).f2), .int .i64 ((rd_T129 l1 a2_0).f3), .int .i64 ((rd_T129 l1 a2_0).f4), .int .i64 ((rd_T129 l1 a2_0).f5), .int .i64 ((rd_T129 l1 a2_0).f6)], .agg #[.int .i64 p0, .int .i64 p1, .int .i64 p2, .int .i64 p3, .int .i64 p4, .int .i64 p5, .int .i64 p6]] (by rfl) rfl rfl ga ?_
              with_reducible refine (spec_AddRows.calls ((rd_T129 l1 a2_0).f0) ((rd_T129 l1 a2_0).f1) ((rd_T129 l1 a2_0).f2) ((rd_T129 l1 a2_0).f3) ((rd_T129 l1 a2_0).f4) ((rd_T129 l1 a2_0).f5) ((rd_T129 l1 a2_0).f6) p0 p1 p2 p3 p4 p5 p6 t288 t289 t290 t291 t292 t293 t294 _ A10.out).mono ?_
              rintro e w38 ⟨rfl, hb⟩
              have HS12_ := (hb.cell (World.block_lt_of_cell? _ _ (hHeld.2.2.2.2.2.2.2.2.2.2.2.2.1))).trans (hHeld.2.2.2.2.2.2.2.2.2.2.2.2.1)
              have HS13_ := (hb.cell (World.block_lt_of_cell? _ _ (hHeld.2.2.2.2.2.2.2.2.2.2.2.2.2.1))).trans (hHeld.2.2.2.2.2.2.2.2.2.2.2.2.2.1)
              have HS14_ := (hb.cell (World.block_lt_of_cell? _ _ (hHeld.2.2.2.2.2.2.2.2.2.2.2.2.2.2.1))).trans (hHeld.2.2.2.2.2.2.2.2.2.2.2.2.2.2.1)
              have HS15_ := (hb.cell (World.block_lt_of_cell? _ _ (hHeld.2.2.2.2.2.2.2.2.2.2.2.2.2.2.2.1))).trans (hHeld.2.2.2.2.2.2.2.2.2.2.2.2.2.2.2.1)
              have HS16_ := (hb.cell (World.block_lt_of_cell? _ _ (hHeld.2.2.2.2.2.2.2.2.2.2.2.2.2.2.2.2.1))).trans (hHeld.2.2.2.2.2.2.2.2.2.2.2.2.2.2.2.2.1)
              have HS17_ := (hb.cell (World.block_lt_of_cell? _ _ (hHeld.2.2.2.2.2.2.2.2.2.2.2.2.2.2.2.2.2.1))).trans (hHeld.2.2.2.2.2.2.2.2.2.2.2.2.2.2.2.2.2.1)
              have HS18_ := (hb.cell (World.block_lt_of_cell? _ _ (hHeld.2.2.2.2.2.2.2.2.2.2.2.2.2.2.2.2.2.2))).trans (hHeld.2.2.2.2.2.2.2.2.2.2.2.2.2.2.2.2.2.2)
              refine ⟨_, rfl, ?_⟩
              replace HO1 := rb HO1 hb
              replace BK279 := am (bb BK279.out hb)
              replace BK280 := am (bb BK280.out hb)
              replace BK284 := am (bb BK284.out hb)
              replace BK285 := am (bb BK285.out hb)
              replace HK := am (Kept.below (S := (fun k_ => P1_ k_)) (by repeat (first | (with_reducible first | exact HK.out | apply Kept.alloc | apply Kept.drewN | apply Kept.drew | refine Kept.setCell ?_ (.inr GW279.out) _ | refine Kept.setCell ?_ (.inr GW280.out) _ | refine Kept.setCell ?_ (.inr GW284.out) _ | refine Kept.setCell ?_ (.inr GW285.out) _) | exact HK.out)) hb)
              replace HB := am (below_step bel hb)
              (try clear hb)
              (try clear hb2)
              (try clear hk)
              (try clear hi)
              have p11 : 0 ≤ (a2_0 : Int) := asm
              have q11 : (a2_0 : Int) < ((l1.length : Int) : Int) := asm
              obtain ⟨go11, co11, eo11, gb11, gl11, cl11, HG11⟩ := Kd.R_form HO1.out (by omega)
              (first | cases eo11 | (injection eo11 with ea_ en_ ec_; (first | subst ea_ | (injection ea_ with ea_; subst ea_)); subst ec_; clear en_))
              have GB11 := am gb11
              have GG11 := am HG11
              clear gb11 gl11 HG11
              have HMgo11 := am (show (P1_ go11 ∨ w.heap.size ≤ go11) from (HO1.out.1 _ rfl).1)
              (first | simp only [add_plain] at hx287_0 | skip)
              (first | simp only [add_plain] at hx287_1 | skip)
              (first | simp only [add_plain] at hx287_2 | skip)
              (first | simp only [add_plain] at hx287_3 | skip)
              (first | simp only [add_plain] at hx287_4 | skip)
              (first | simp only [add_plain] at hx287_5 | skip)
              (first | simp only [add_plain] at hx287_6 | skip)
              obtain ⟨ce11, hcl11, hM11, hcc11, hfr11⟩ := Kd.R_elem HO1.out z129 (a2_0 : Int) p11 q11
              obtain rfl := k129_openM hM11
              have hx11_0 : World.cell? _ ⟨go11, (a2_0 : Int).toNat * 7, none⟩ = some (.int .i64 ((rd_T129 l1 a2_0).f0)) := hcc11 0 _ rfl
              have hx11_1 : World.cell? _ ⟨go11, (a2_0 : Int).toNat * 7 + 1, none⟩ = some (.int .i64 ((rd_T129 l1 a2_0).f1)) := hcc11 1 _ rfl
              have hx11_2 : World.cell? _ ⟨go11, (a2_0 : Int).toNat * 7 + 2, none⟩ = some (.int .i64 ((rd_T129 l1 a2_0).f2)) := hcc11 2 _ rfl
              have hx11_3 : World.cell? _ ⟨go11, (a2_0 : Int).toNat * 7 + 3, none⟩ = some (.int .i64 ((rd_T129 l1 a2_0).f3)) := hcc11 3 _ rfl
              have hx11_4 : World.cell? _ ⟨go11, (a2_0 : Int).toNat * 7 + 4, none⟩ = some (.int .i64 ((rd_T129 l1 a2_0).f4)) := hcc11 4 _ rfl
              have hx11_5 : World.cell? _ ⟨go11, (a2_0 : Int).toNat * 7 + 5, none⟩ = some (.int .i64 ((rd_T129 l1 a2_0).f5)) := hcc11 5 _ rfl
              have hx11_6 : World.cell? _ ⟨go11, (a2_0 : Int).toNat * 7 + 6, none⟩ = some (.int .i64 ((rd_T129 l1 a2_0).f6)) := hcc11 6 _ rfl
              have hf11_0 : World.frozen? _ ⟨go11, (a2_0 : Int).toNat * 7, none⟩ = false := hfr11 0
              have hf11_1 : World.frozen? _ ⟨go11, (a2_0 : Int).toNat * 7 + 1, none⟩ = false := hfr11 1
              have hf11_2 : World.frozen? _ ⟨go11, (a2_0 : Int).toNat * 7 + 2, none⟩ = false := hfr11 2
              have hf11_3 : World.frozen? _ ⟨go11, (a2_0 : Int).toNat * 7 + 3, none⟩ = false := hfr11 3
              have hf11_4 : World.frozen? _ ⟨go11, (a2_0 : Int).toNat * 7 + 4, none⟩ = false := hfr11 4
              have hf11_5 : World.frozen? _ ⟨go11, (a2_0 : Int).toNat * 7 + 5, none⟩ = false := hfr11 5
              have hf11_6 : World.frozen? _ ⟨go11, (a2_0 : Int).toNat * 7 + 6, none⟩ = false := hfr11 6
              clear hcl11 hcc11 hfr11 hM11
              replace p11 := eq_true p11
              replace q11 := eq_true q11
              obtain ⟨ce39, hcl39, hM39, hcc39, hfr39⟩ := Kd.R_elem HO1.out z129 (a2_0 : Int) (asm) (by have h_ : (a2_0 : Int) < ((l1.length : Int) : Int) := asm; first | exact h_ | (have e_ := (Kd.R_reads' HO1.out).1; omega) | simpa using h_)
              obtain rfl := k129_openM hM39
              have HP39 := (Kd.R_seg HO1.out (a2_0 : Int) (asm) (by have h_ : (a2_0 : Int) < ((l1.length : Int) : Int) := asm; first | exact h_ | (have e_ := (Kd.R_reads' HO1.out).1; omega) | simpa using h_) (seg := [.int .i64 t288, .int .i64 t289, .int .i64 t290, .int .i64 t291, .int .i64 t292, .int .i64 t293, .int .i64 t294]) (j := 0) hcl39 hcc39 (show 7 ≤ 7 from by decide) (x' := (⟨t288, t289, t290, t291, t292, t293, t294⟩ : S129)) (k129_mkM _ _ _ (⟨t288, t289, t290, t291, t292, t293, t294⟩ : S129) ) (fun _ hk => hk)).1
              rw [← Ny295.out] at HP39
              have HQ39 := am HP39
              clear hcl39 hcc39 hfr39 hM39 HP39
              refine hK.out _ _ ⟨(blk_cell BK280.out 0).trans rfl, (blk_cell BK280.out 1).trans rfl, (blk_cell BK280.out 2).trans rfl, (blk_cell BK280.out 3).trans rfl, (blk_cell BK280.out 4).trans rfl, (blk_cell BK284.out 0).trans rfl, (blk_cell BK284.out 1).trans rfl, (blk_cell BK284.out 2).trans rfl, (blk_cell BK284.out 3).trans rfl, (blk_cell BK284.out 4).trans rfl, (blk_cell BK284.out 5).trans rfl, (blk_cell BK284.out 6).trans rfl, HS12_, HS13_, HS14_, HS15_, HS16_, HS17_, HS18_⟩ (fun hHeld => ?_)
              clear hK K
              refine norm_ (a' := ?_) ?_ ?_
              rotate_left
              · show Act.put _ (some 66) _ = _
                simp only [Act.put, List.setIfInBounds_toArray, List.set_cons_zero, List.set_cons_succ, i64_w, i32_w]
                rfl
              refine pure_ (i := 10) (N := some 67) (v := ?_) (a' := ?_) #[true, true, true, true, true, true, true, true, true, true, true, false] rfl rfl (any_of HT_.out (by kernel_rfl)) (fun _ _ _ h => h) (Or.inl ⟨by rfl, ?_⟩) ?_ ?_
              rotate_left
              · intro w'
                go_simp
                with_reducible rfl
              rotate_left
              · simp only [Act.put, List.setIfInBounds_toArray, List.set_cons_zero, List.set_cons_succ, i64_w, i32_w]
                rfl
              refine last_ (i := 11) (N := none) #[true, true, true, true, true, true, true, true, true, true, true, true] rfl rfl (one_of HT_.out (by kernel_rfl)) (by decide) (fun K hK => ?_)
              refine skip_ (w1 := ?_) (by rfl) rfl ?_ ?_
              rotate_left
              · go_simp
                rfl
              refine hK.out _ _ ?_
              clear hK K
              refine done_ (done_of HT_.out (by kernel_rfl)) ?_
              try go_wp2
              have n0_ : Aside0 (Kd.R k129 129 (((((((w38.setCell ⟨go11, (a2_0 : Int).toNat * 7, none⟩ (.int .i64 t288)).setCell ⟨go11, (a2_0 : Int).toNat * 7 + 1, none⟩ (.int .i64 t289)).setCell ⟨go11, (a2_0 : Int).toNat * 7 + 2, none⟩ (.int .i64 t290)).setCell ⟨go11, (a2_0 : Int).toNat * 7 + 3, none⟩ (.int .i64 t291)).setCell ⟨go11, (a2_0 : Int).toNat * 7 + 4, none⟩ (.int .i64 t292)).setCell ⟨go11, (a2_0 : Int).toNat * 7 + 5, none⟩ (.int .i64 t293)).setCell ⟨go11, (a2_0 : Int).toNat * 7 + 6, none⟩ (.int .i64 t294)) w0.heap.size (fun k_ => (P1_ k_ ∨ w.heap.size ≤ k_) ∧ k_ ≠ gb284 ∧ k_ ≠ gb285) (.slice (some ⟨go11, 0, none⟩) l1.length co37) y295) := ⟨by (with_reducible repeat (first | apply Kd.R_alloc | apply Kd.R_drewN | apply Kd.R_drew)); exact HQ39.out⟩
              have n1_ : Aside0 ((((((((w38.setCell ⟨go11, (a2_0 : Int).toNat * 7, none⟩ (.int .i64 t288)).setCell ⟨go11, (a2_0 : Int).toNat * 7 + 1, none⟩ (.int .i64 t289)).setCell ⟨go11, (a2_0 : Int).toNat * 7 + 2, none⟩ (.int .i64 t290)).setCell ⟨go11, (a2_0 : Int).toNat * 7 + 3, none⟩ (.int .i64 t291)).setCell ⟨go11, (a2_0 : Int).toNat * 7 + 4, none⟩ (.int .i64 t292)).setCell ⟨go11, (a2_0 : Int).toNat * 7 + 5, none⟩ (.int .i64 t293)).setCell ⟨go11, (a2_0 : Int).toNat * 7 + 6, none⟩ (.int .i64 t294)).heap[gb279]? = some (.cells #[.int .i64 a0_0, .int .i64 a0_1, .int .i64 a0_2, .slice A0_3 l0_3.length c0_3, .bool a0_4] 34 (0, 0))) := ⟨by (with_reducible repeat (first | refine blk_drewN ?_ _ | refine blk_drew ?_ | refine blk_alloc ?_ _)); refine blk_far ?_ (by have h_ := Kd.R_ne HO1.out BK279.out (by decide); intro e_; exact h_ (by rw [e_]; rfl)) _; (with_reducible repeat (first | refine blk_drewN ?_ _ | refine blk_drew ?_ | refine blk_alloc ?_ _)); refine blk_far ?_ (by have h_ := Kd.R_ne HO1.out BK279.out (by decide); intro e_; exact h_ (by rw [e_]; rfl)) _; (with_reducible repeat (first | refine blk_drewN ?_ _ | refine blk_drew ?_ | refine blk_alloc ?_ _)); refine blk_far ?_ (by have h_ := Kd.R_ne HO1.out BK279.out (by decide); intro e_; exact h_ (by rw [e_]; rfl)) _; (with_reducible repeat (first | refine blk_drewN ?_ _ | refine blk_drew ?_ | refine blk_alloc ?_ _)); refine blk_far ?_ (by have h_ := Kd.R_ne HO1.out BK279.out (by decide); intro e_; exact h_ (by rw [e_]; rfl)) _; (with_reducible repeat (first | refine blk_drewN ?_ _ | refine blk_drew ?_ | refine blk_alloc ?_ _)); refine blk_far ?_ (by have h_ := Kd.R_ne HO1.out BK279.out (by decide); intro e_; exact h_ (by rw [e_]; rfl)) _; (with_reducible repeat (first | refine blk_drewN ?_ _ | refine blk_drew ?_ | refine blk_alloc ?_ _)); refine blk_far ?_ (by have h_ := Kd.R_ne HO1.out BK279.out (by decide); intro e_; exact h_ (by rw [e_]; rfl)) _; (with_reducible repeat (first | refine blk_drewN ?_ _ | refine blk_drew ?_ | refine blk_alloc ?_ _)); refine blk_far ?_ (by have h_ := Kd.R_ne HO1.out BK279.out (by decide); intro e_; exact h_ (by rw [e_]; rfl)) _; (with_reducible repeat (first | refine blk_drewN ?_ _ | refine blk_drew ?_ | refine blk_alloc ?_ _)); exact BK279.out⟩
              have n2_ : Aside0 ((((((((w38.setCell ⟨go11, (a2_0 : Int).toNat * 7, none⟩ (.int .i64 t288)).setCell ⟨go11, (a2_0 : Int).toNat * 7 + 1, none⟩ (.int .i64 t289)).setCell ⟨go11, (a2_0 : Int).toNat * 7 + 2, none⟩ (.int .i64 t290)).setCell ⟨go11, (a2_0 : Int).toNat * 7 + 3, none⟩ (.int .i64 t291)).setCell ⟨go11, (a2_0 : Int).toNat * 7 + 4, none⟩ (.int .i64 t292)).setCell ⟨go11, (a2_0 : Int).toNat * 7 + 5, none⟩ (.int .i64 t293)).setCell ⟨go11, (a2_0 : Int).toNat * 7 + 6, none⟩ (.int .i64 t294)).heap[gb280]? = some (.cells #[.int .i64 a2_0, .int .i64 a2_1, .int .i64 a2_2, .int .i64 a2_3, .int .i64 a2_4] 71 (0, 0))) := ⟨by (with_reducible repeat (first | refine blk_drewN ?_ _ | refine blk_drew ?_ | refine blk_alloc ?_ _)); refine blk_far ?_ (by have h_ := Kd.R_ne HO1.out BK280.out (by decide); intro e_; exact h_ (by rw [e_]; rfl)) _; (with_reducible repeat (first | refine blk_drewN ?_ _ | refine blk_drew ?_ | refine blk_alloc ?_ _)); refine blk_far ?_ (by have h_ := Kd.R_ne HO1.out BK280.out (by decide); intro e_; exact h_ (by rw [e_]; rfl)) _; (with_reducible repeat (first | refine blk_drewN ?_ _ | refine blk_drew ?_ | refine blk_alloc ?_ _)); refine blk_far ?_ (by have h_ := Kd.R_ne HO1.out BK280.out (by decide); intro e_; exact h_ (by rw [e_]; rfl)) _; (with_reducible repeat (first | refine blk_drewN ?_ _ | refine blk_drew ?_ | refine blk_alloc ?_ _)); refine blk_far ?_ (by have h_ := Kd.R_ne HO1.out BK280.out (by decide); intro e_; exact h_ (by rw [e_]; rfl)) _; (with_reducible repeat (first | refine blk_drewN ?_ _ | refine blk_drew ?_ | refine blk_alloc ?_ _)); refine blk_far ?_ (by have h_ := Kd.R_ne HO1.out BK280.out (by decide); intro e_; exact h_ (by rw [e_]; rfl)) _; (with_reducible repeat (first | refine blk_drewN ?_ _ | refine blk_drew ?_ | refine blk_alloc ?_ _)); refine blk_far ?_ (by have h_ := Kd.R_ne HO1.out BK280.out (by decide); intro e_; exact h_ (by rw [e_]; rfl)) _; (with_reducible repeat (first | refine blk_drewN ?_ _ | refine blk_drew ?_ | refine blk_alloc ?_ _)); refine blk_far ?_ (by have h_ := Kd.R_ne HO1.out BK280.out (by decide); intro e_; exact h_ (by rw [e_]; rfl)) _; (with_reducible repeat (first | refine blk_drewN ?_ _ | refine blk_drew ?_ | refine blk_alloc ?_ _)); exact BK280.out⟩
              have n3_ : Aside0 ((((((((w38.setCell ⟨go11, (a2_0 : Int).toNat * 7, none⟩ (.int .i64 t288)).setCell ⟨go11, (a2_0 : Int).toNat * 7 + 1, none⟩ (.int .i64 t289)).setCell ⟨go11, (a2_0 : Int).toNat * 7 + 2, none⟩ (.int .i64 t290)).setCell ⟨go11, (a2_0 : Int).toNat * 7 + 3, none⟩ (.int .i64 t291)).setCell ⟨go11, (a2_0 : Int).toNat * 7 + 4, none⟩ (.int .i64 t292)).setCell ⟨go11, (a2_0 : Int).toNat * 7 + 5, none⟩ (.int .i64 t293)).setCell ⟨go11, (a2_0 : Int).toNat * 7 + 6, none⟩ (.int .i64 t294)).heap[gb284]? = some (.cells #[.int .i64 p0, .int .i64 p1, .int .i64 p2, .int .i64 p3, .int .i64 p4, .int .i64 p5, .int .i64 p6] 129 (0, 0))) := ⟨by (with_reducible repeat (first | refine blk_drewN ?_ _ | refine blk_drew ?_ | refine blk_alloc ?_ _)); refine blk_far ?_ (by have h_ := Kd.R_away HO1.out (fun _ hk => hk.2.1); intro e_; exact h_ (by rw [e_]; rfl)) _; (with_reducible repeat (first | refine blk_drewN ?_ _ | refine blk_drew ?_ | refine blk_alloc ?_ _)); refine blk_far ?_ (by have h_ := Kd.R_away HO1.out (fun _ hk => hk.2.1); intro e_; exact h_ (by rw [e_]; rfl)) _; (with_reducible repeat (first | refine blk_drewN ?_ _ | refine blk_drew ?_ | refine blk_alloc ?_ _)); refine blk_far ?_ (by have h_ := Kd.R_away HO1.out (fun _ hk => hk.2.1); intro e_; exact h_ (by rw [e_]; rfl)) _; (with_reducible repeat (first | refine blk_drewN ?_ _ | refine blk_drew ?_ | refine blk_alloc ?_ _)); refine blk_far ?_ (by have h_ := Kd.R_away HO1.out (fun _ hk => hk.2.1); intro e_; exact h_ (by rw [e_]; rfl)) _; (with_reducible repeat (first | refine blk_drewN ?_ _ | refine blk_drew ?_ | refine blk_alloc ?_ _)); refine blk_far ?_ (by have h_ := Kd.R_away HO1.out (fun _ hk => hk.2.1); intro e_; exact h_ (by rw [e_]; rfl)) _; (with_reducible repeat (first | refine blk_drewN ?_ _ | refine blk_drew ?_ | refine blk_alloc ?_ _)); refine blk_far ?_ (by have h_ := Kd.R_away HO1.out (fun _ hk => hk.2.1); intro e_; exact h_ (by rw [e_]; rfl)) _; (with_reducible repeat (first | refine blk_drewN ?_ _ | refine blk_drew ?_ | refine blk_alloc ?_ _)); refine blk_far ?_ (by have h_ := Kd.R_away HO1.out (fun _ hk => hk.2.1); intro e_; exact h_ (by rw [e_]; rfl)) _; (with_reducible repeat (first | refine blk_drewN ?_ _ | refine blk_drew ?_ | refine blk_alloc ?_ _)); exact BK284.out⟩
              have n4_ : Aside0 ((((((((w38.setCell ⟨go11, (a2_0 : Int).toNat * 7, none⟩ (.int .i64 t288)).setCell ⟨go11, (a2_0 : Int).toNat * 7 + 1, none⟩ (.int .i64 t289)).setCell ⟨go11, (a2_0 : Int).toNat * 7 + 2, none⟩ (.int .i64 t290)).setCell ⟨go11, (a2_0 : Int).toNat * 7 + 3, none⟩ (.int .i64 t291)).setCell ⟨go11, (a2_0 : Int).toNat * 7 + 4, none⟩ (.int .i64 t292)).setCell ⟨go11, (a2_0 : Int).toNat * 7 + 5, none⟩ (.int .i64 t293)).setCell ⟨go11, (a2_0 : Int).toNat * 7 + 6, none⟩ (.int .i64 t294)).heap[gb285]? = some (.cells #[.int .i64 q0, .int .i64 q1, .int .i64 q2, .int .i64 q3, .int .i64 q4, .int .i64 q5, .int .i64 q6] 129 (0, 0))) := ⟨by (with_reducible repeat (first | refine blk_drewN ?_ _ | refine blk_drew ?_ | refine blk_alloc ?_ _)); refine blk_far ?_ (by have h_ := Kd.R_away HO1.out (fun _ hk => hk.2.2); intro e_; exact h_ (by rw [e_]; rfl)) _; (with_reducible repeat (first | refine blk_drewN ?_ _ | refine blk_drew ?_ | refine blk_alloc ?_ _)); refine blk_far ?_ (by have h_ := Kd.R_away HO1.out (fun _ hk => hk.2.2); intro e_; exact h_ (by rw [e_]; rfl)) _; (with_reducible repeat (first | refine blk_drewN ?_ _ | refine blk_drew ?_ | refine blk_alloc ?_ _)); refine blk_far ?_ (by have h_ := Kd.R_away HO1.out (fun _ hk => hk.2.2); intro e_; exact h_ (by rw [e_]; rfl)) _; (with_reducible repeat (first | refine blk_drewN ?_ _ | refine blk_drew ?_ | refine blk_alloc ?_ _)); refine blk_far ?_ (by have h_ := Kd.R_away HO1.out (fun _ hk => hk.2.2); intro e_; exact h_ (by rw [e_]; rfl)) _; (with_reducible repeat (first | refine blk_drewN ?_ _ | refine blk_drew ?_ | refine blk_alloc ?_ _)); refine blk_far ?_ (by have h_ := Kd.R_away HO1.out (fun _ hk => hk.2.2); intro e_; exact h_ (by rw [e_]; rfl)) _; (with_reducible repeat (first | refine blk_drewN ?_ _ | refine blk_drew ?_ | refine blk_alloc ?_ _)); refine blk_far ?_ (by have h_ := Kd.R_away HO1.out (fun _ hk => hk.2.2); intro e_; exact h_ (by rw [e_]; rfl)) _; (with_reducible repeat (first | refine blk_drewN ?_ _ | refine blk_drew ?_ | refine blk_alloc ?_ _)); refine blk_far ?_ (by have h_ := Kd.R_away HO1.out (fun _ hk => hk.2.2); intro e_; exact h_ (by rw [e_]; rfl)) _; (with_reducible repeat (first | refine blk_drewN ?_ _ | refine blk_drew ?_ | refine blk_alloc ?_ _)); exact BK285.out⟩
              have n5_ : Aside0 (Kept w (((((((w38.setCell ⟨go11, (a2_0 : Int).toNat * 7, none⟩ (.int .i64 t288)).setCell ⟨go11, (a2_0 : Int).toNat * 7 + 1, none⟩ (.int .i64 t289)).setCell ⟨go11, (a2_0 : Int).toNat * 7 + 2, none⟩ (.int .i64 t290)).setCell ⟨go11, (a2_0 : Int).toNat * 7 + 3, none⟩ (.int .i64 t291)).setCell ⟨go11, (a2_0 : Int).toNat * 7 + 4, none⟩ (.int .i64 t292)).setCell ⟨go11, (a2_0 : Int).toNat * 7 + 5, none⟩ (.int .i64 t293)).setCell ⟨go11, (a2_0 : Int).toNat * 7 + 6, none⟩ (.int .i64 t294)) (fun k_ => P1_ k_)) := ⟨by repeat (first | (with_reducible first | exact HK.out | apply Kept.alloc | apply Kept.drewN | apply Kept.drew | refine Kept.setCell ?_ HMgo11.out _ | refine Kept.setCell ?_ HMgo11.out _ | refine Kept.setCell ?_ HMgo11.out _ | refine Kept.setCell ?_ HMgo11.out _ | refine Kept.setCell ?_ HMgo11.out _ | refine Kept.setCell ?_ HMgo11.out _ | refine Kept.setCell ?_ HMgo11.out _ | refine Kept.setCell ?_ (.inr GW279.out) _ | refine Kept.setCell ?_ (.inr GW280.out) _ | refine Kept.setCell ?_ (.inr GW284.out) _ | refine Kept.setCell ?_ (.inr GW285.out) _) | exact HK.out)⟩
              have n6_ : Aside0 (Below w0.heap.size w0 (((((((w38.setCell ⟨go11, (a2_0 : Int).toNat * 7, none⟩ (.int .i64 t288)).setCell ⟨go11, (a2_0 : Int).toNat * 7 + 1, none⟩ (.int .i64 t289)).setCell ⟨go11, (a2_0 : Int).toNat * 7 + 2, none⟩ (.int .i64 t290)).setCell ⟨go11, (a2_0 : Int).toNat * 7 + 3, none⟩ (.int .i64 t291)).setCell ⟨go11, (a2_0 : Int).toNat * 7 + 4, none⟩ (.int .i64 t292)).setCell ⟨go11, (a2_0 : Int).toNat * 7 + 5, none⟩ (.int .i64 t293)).setCell ⟨go11, (a2_0 : Int).toNat * 7 + 6, none⟩ (.int .i64 t294))) := ⟨by repeat (first | (with_reducible first | exact HB.out | apply below_alloc | apply pw_below_drewN | apply below_drew1 | refine below_set ?_ GB11.out | refine below_set ?_ GB11.out | refine below_set ?_ GB11.out | refine below_set ?_ GB11.out | refine below_set ?_ GB11.out | refine below_set ?_ GB11.out | refine below_set ?_ GB11.out | refine below_set ?_ GE279.out | refine below_set ?_ GE280.out | refine below_set ?_ GE284.out | refine below_set ?_ GE285.out) | exact HB.out)⟩
              (try clear HO1)
              (try clear BK279)
              (try clear BK280)
              (try clear BK284)
              (try clear BK285)
              (try clear HK)
              (try clear HB)
              generalize (((((((w38.setCell ⟨go11, (a2_0 : Int).toNat * 7, none⟩ (.int .i64 t288)).setCell ⟨go11, (a2_0 : Int).toNat * 7 + 1, none⟩ (.int .i64 t289)).setCell ⟨go11, (a2_0 : Int).toNat * 7 + 2, none⟩ (.int .i64 t290)).setCell ⟨go11, (a2_0 : Int).toNat * 7 + 3, none⟩ (.int .i64 t291)).setCell ⟨go11, (a2_0 : Int).toNat * 7 + 4, none⟩ (.int .i64 t292)).setCell ⟨go11, (a2_0 : Int).toNat * 7 + 5, none⟩ (.int .i64 t293)).setCell ⟨go11, (a2_0 : Int).toNat * 7 + 6, none⟩ (.int .i64 t294)) = w40 at n0_ n1_ n2_ n3_ n4_ n5_ n6_ ⊢
              have HO1 := n0_
              have BK279 := n1_
              have BK280 := n2_
              have BK284 := n3_
              have BK285 := n4_
              have HK := n5_
              have HB := n6_
              clear n0_ n1_ n2_ n3_ n4_ n5_ n6_
              replace HO1 := rd1 HO1
              replace BK279 := am (blk_drew BK279.out)
              replace BK280 := am (blk_drew BK280.out)
              replace BK284 := am (blk_drew BK284.out)
              replace BK285 := am (blk_drew BK285.out)
              replace HK := am (Kept.drew HK.out)
              replace HB := am (below_drew1 HB.out)
              have p296 : 0 ≤ (a2_1 : Int) := asm
              have q296 : a2_1 < (y295.length : Int) := (by have h_ : (a2_1 : Int) < ((l1.length : Int) : Int) := asm; first | (have e_ := (Kd.R_reads' HO1.out).1; omega) | simpa only [Ny295.out, List.length_set] using h_)
              have ql296 : ((a2_1 : Int) < ((l1.length : Int) : Int)) = True := eq_true (asm)
              obtain ⟨ad296, e296, hx296_0, hx296_1, hx296_2, hx296_3, hx296_4, hx296_5, hx296_6⟩ := at_T129 (Kd.R_reads' HO1.out).2.2 a2_1 p296 q296
              obtain rfl : (⟨go11, 0, none⟩ : Addr) = ad296 := (by injection e296)
              (first | simp only [add_plain] at hx296_0 | simp only [add_at] at hx296_0 | simp only [Addr.add, Nat.zero_add] at hx296_0 | skip)
              (first | simp only [add_plain] at hx296_1 | simp only [add_at] at hx296_1 | simp only [Addr.add, Nat.zero_add] at hx296_1 | skip)
              (first | simp only [add_plain] at hx296_2 | simp only [add_at] at hx296_2 | simp only [Addr.add, Nat.zero_add] at hx296_2 | skip)
              (first | simp only [add_plain] at hx296_3 | simp only [add_at] at hx296_3 | simp only [Addr.add, Nat.zero_add] at hx296_3 | skip)
              (first | simp only [add_plain] at hx296_4 | simp only [add_at] at hx296_4 | simp only [Addr.add, Nat.zero_add] at hx296_4 | skip)
              (first | simp only [add_plain] at hx296_5 | simp only [add_at] at hx296_5 | simp only [Addr.add, Nat.zero_add] at hx296_5 | skip)
              (first | simp only [add_plain] at hx296_6 | simp only [add_at] at hx296_6 | simp only [Addr.add, Nat.zero_add] at hx296_6 | skip)
              replace p296 := eq_true p296
              replace q296 := eq_true q296
              refine start_ (n := 12) (S := fun w' => w'.cell? ⟨gb280, 0, none⟩ = some (.int .i64 a2_0) ∧ w'.cell? ⟨gb280, 1, none⟩ = some (.int .i64 a2_1) ∧ w'.cell? ⟨gb280, 2, none⟩ = some (.int .i64 a2_2) ∧ w'.cell? ⟨gb280, 3, none⟩ = some (.int .i64 a2_3) ∧ w'.cell? ⟨gb280, 4, none⟩ = some (.int .i64 a2_4) ∧ w'.cell? ⟨gb285, 0, none⟩ = some (.int .i64 q0) ∧ w'.cell? ⟨gb285, 1, none⟩ = some (.int .i64 q1) ∧ w'.cell? ⟨gb285, 2, none⟩ = some (.int .i64 q2) ∧ w'.cell? ⟨gb285, 3, none⟩ = some (.int .i64 q3) ∧ w'.cell? ⟨gb285, 4, none⟩ = some (.int .i64 q4) ∧ w'.cell? ⟨gb285, 5, none⟩ = some (.int .i64 q5) ∧ w'.cell? ⟨gb285, 6, none⟩ = some (.int .i64 q6) ∧ w'.cell? ⟨go11, (a2_1).toNat * 7, none⟩ = some (.int .i64 ((rd_T129 y295 a2_1).f0)) ∧ w'.cell? ⟨go11, (a2_1).toNat * 7 + 1, none⟩ = some (.int .i64 ((rd_T129 y295 a2_1).f1)) ∧ w'.cell? ⟨go11, (a2_1).toNat * 7 + 2, none⟩ = some (.int .i64 ((rd_T129 y295 a2_1).f2)) ∧ w'.cell? ⟨go11, (a2_1).toNat * 7 + 3, none⟩ = some (.int .i64 ((rd_T129 y295 a2_1).f3)) ∧ w'.cell? ⟨go11, (a2_1).toNat * 7 + 4, none⟩ = some (.int .i64 ((rd_T129 y295 a2_1).f4)) ∧ w'.cell? ⟨go11, (a2_1).toNat * 7 + 5, none⟩ = some (.int .i64 ((rd_T129 y295 a2_1).f5)) ∧ w'.cell? ⟨go11, (a2_1).toNat * 7 + 6, none⟩ = some (.int .i64 ((rd_T129 y295 a2_1).f6))) (ds := [11]) #[false, false, false, false, false, false, false, false, false, false, false, false] (by kernel_rfl) rfl rfl ⟨(blk_cell BK280.out 0).trans rfl, (blk_cell BK280.out 1).trans rfl, (blk_cell BK280.out 2).trans rfl, (blk_cell BK280.out 3).trans rfl, (blk_cell BK280.out 4).trans rfl, (blk_cell BK285.out 0).trans rfl, (blk_cell BK285.out 1).trans rfl, (blk_cell BK285.out 2).trans rfl, (blk_cell BK285.out 3).trans rfl, (blk_cell BK285.out 4).trans rfl, (blk_cell BK285.out 5).trans rfl, (blk_cell BK285.out 6).trans rfl, hx296_0, hx296_1, hx296_2, hx296_3, hx296_4, hx296_5, hx296_6⟩ (fun hHeld => ?_); refine with_tabW spec_l06Add.tab22 spec_l06Add.bits22 (fun HT_ HW_ => ?_)
              generalize w40.drew = w41 at HO1 BK279 BK280 BK284 BK285 HK HB HQ39 hx296_0 hx296_1 hx296_2 hx296_3 hx296_4 hx296_5 hx296_6 hHeld ⊢
              refine pure_ (i := 0) (N := some 68) (v := ?_) (a' := ?_) #[true, false, false, false, false, false, false, false, false, false, false, false] rfl rfl (any_of HT_.out (by kernel_rfl)) (fun _ _ _ h => h) (Or.inl ⟨by rfl, ?_⟩) ?_ ?_
              rotate_left
              · intro w'
                go_simp
                with_reducible rfl
              rotate_left
              · simp only [Act.put, List.setIfInBounds_toArray, List.set_cons_zero, List.set_cons_succ, i64_w, i32_w]
                rfl
              refine pure_ (i := 1) (N := some 69) (v := ?_) (a' := ?_) #[true, true, false, false, false, false, false, false, false, false, false, false] rfl rfl (any_of HT_.out (by kernel_rfl)) (fun _ _ _ h => h) (Or.inl ⟨by rfl, ?_⟩) ?_ ?_
              rotate_left
              · intro w'
                go_simp
                with_reducible rfl
              rotate_left
              · simp only [Act.put, List.setIfInBounds_toArray, List.set_cons_zero, List.set_cons_succ, i64_w, i32_w]
                rfl
              refine pure_ (i := 3) (N := some 71) (v := ?_) (a' := ?_) #[true, true, false, true, false, false, false, false, false, false, false, false] rfl rfl (any_of HT_.out (by kernel_rfl)) (fun _ _ _ h => h) (Or.inl ⟨by rfl, ?_⟩) ?_ ?_
              rotate_left
              · intro w'
                go_simp
                with_reducible rfl
              rotate_left
              · simp only [Act.put, List.setIfInBounds_toArray, List.set_cons_zero, List.set_cons_succ, i64_w, i32_w]
                rfl
              refine pure_ (i := 4) (N := some 72) (v := ?_) (a' := ?_) #[true, true, false, true, true, false, false, false, false, false, false, false] rfl rfl (any_of HT_.out (by kernel_rfl)) (fun _ _ _ h => h) (Or.inl ⟨by rfl, ?_⟩) ?_ ?_
              rotate_left
              · intro w'
                go_simp
                with_reducible rfl
              rotate_left
              · simp only [Act.put, List.setIfInBounds_toArray, List.set_cons_zero, List.set_cons_succ, i64_w, i32_w]
                rfl
              refine take_ (i := 2) (N := some 70) (v := ?_) (a' := ?_) #[true, true, true, true, true, false, false, false, false, false, false, false] rfl rfl (take_ofW HT_.out HW_.out (by kernel_rfl)) (fun _ _ _ h => h) (Or.inl ⟨by rfl, ?_⟩) hHeld ?_ ?_
              rotate_left
              · rintro w' ⟨s0, s1, s2, s3, s4, s5, s6, s7, s8, s9, s10, s11, s12, s13, s14, s15, s16, s17, s18⟩
                go_simp
                with_reducible rfl
              rotate_left
              · simp only [Act.put, List.setIfInBounds_toArray, List.set_cons_zero, List.set_cons_succ, i64_w, i32_w]
                rfl
              refine take_ (i := 5) (N := some 73) (v := ?_) (a' := ?_) #[true, true, true, true, true, true, false, false, false, false, false, false] rfl rfl (take_ofW HT_.out HW_.out (by kernel_rfl)) (fun _ _ _ h => h) (Or.inl ⟨by rfl, ?_⟩) hHeld ?_ ?_
              rotate_left
              · rintro w' ⟨s0, s1, s2, s3, s4, s5, s6, s7, s8, s9, s10, s11, s12, s13, s14, s15, s16, s17, s18⟩
                go_simp
                with_reducible rfl
              rotate_left
              · simp only [Act.put, List.setIfInBounds_toArray, List.set_cons_zero, List.set_cons_succ, i64_w, i32_w]
                rfl
              refine pure_ (i := 6) (N := some 74) (v := ?_) (a' := ?_) #[true, true, true, true, true, true, true, false, false, false, false, false] rfl rfl (any_of HT_.out (by kernel_rfl)) (fun _ _ _ h => h) (Or.inl ⟨by rfl, ?_⟩) ?_ ?_
              rotate_left
              · intro w'
                go_simp
                with_reducible rfl
              rotate_left
              · simp only [Act.put, List.setIfInBounds_toArray, List.set_cons_zero, List.set_cons_succ, i64_w, i32_w]
                rfl
              refine take_ (i := 7) (N := some 75) (v := ?_) (a' := ?_) #[true, true, true, true, true, true, true, true, false, false, false, false] rfl rfl (take_ofW HT_.out HW_.out (by kernel_rfl)) (fun _ _ _ h => h) (Or.inl ⟨by rfl, ?_⟩) hHeld ?_ ?_
              rotate_left
              · rintro w' ⟨s0, s1, s2, s3, s4, s5, s6, s7, s8, s9, s10, s11, s12, s13, s14, s15, s16, s17, s18⟩
                go_simp
                with_reducible rfl
              rotate_left
              · simp only [Act.put, List.setIfInBounds_toArray, List.set_cons_zero, List.set_cons_succ, i64_w, i32_w]
                rfl
              refine take_ (i := 8) (N := some 76) (v := ?_) (a' := ?_) #[true, true, true, true, true, true, true, true, true, false, false, false] rfl rfl (take_ofW HT_.out HW_.out (by kernel_rfl)) (fun _ _ _ h => h) (Or.inl ⟨by rfl, ?_⟩) hHeld ?_ ?_
              rotate_left
              · rintro w' ⟨s0, s1, s2, s3, s4, s5, s6, s7, s8, s9, s10, s11, s12, s13, s14, s15, s16, s17, s18⟩
                go_simp
                with_reducible rfl
              rotate_left
              · simp only [Act.put, List.setIfInBounds_toArray, List.set_cons_zero, List.set_cons_succ, i64_w, i32_w]
                rfl
              refine one_ (i := 9) (N := some 77) #[true, true, true, true, true, true, true, true, true, true, false, false] rfl rfl (one_of HT_.out (by kernel_rfl)) (by decide) (fun K hK => ?_)
              refine goes_ Try.func151 (by kernel_rfl) rfl #[.agg #[.int .i64 ((rd_T129 y295 a2_1).f0), .int .i64 ((rd_T129 y295 a2_1).f1), .int .i64 ((rd_T129 y295 a2_1).f2), .int .i64 ((rd_T129 y295 a2_1).f3), .int .i64 ((rd_T129 y295 a2_1).f4), .int .i64 ((rd_T129 y295 a2_1).f5), .int .i64 ((rd_T129 y295 a2_1).f6)], .agg #[.int .i64 q0, .int .i64 q1, .int .i64 q2, .int .i64 q3, .int .i64 q4, .int .i64 q5, .int .i64 q6]] (by rfl) rfl rfl ga ?_
              with_reducible refine (spec_AddRows.calls ((rd_T129 y295 a2_1).f0) ((rd_T129 y295 a2_1).f1) ((rd_T129 y295 a2_1).f2) ((rd_T129 y295 a2_1).f3) ((rd_T129 y295 a2_1).f4) ((rd_T129 y295 a2_1).f5) ((rd_T129 y295 a2_1).f6) q0 q1 q2 q3 q4 q5 q6 t297 t298 t299 t300 t301 t302 t303 _ A14.out).mono ?_
              rintro e w42 ⟨rfl, hb⟩
              have HS12_ := (hb.cell (World.block_lt_of_cell? _ _ (hHeld.2.2.2.2.2.2.2.2.2.2.2.2.1))).trans (hHeld.2.2.2.2.2.2.2.2.2.2.2.2.1)
              have HS13_ := (hb.cell (World.block_lt_of_cell? _ _ (hHeld.2.2.2.2.2.2.2.2.2.2.2.2.2.1))).trans (hHeld.2.2.2.2.2.2.2.2.2.2.2.2.2.1)
              have HS14_ := (hb.cell (World.block_lt_of_cell? _ _ (hHeld.2.2.2.2.2.2.2.2.2.2.2.2.2.2.1))).trans (hHeld.2.2.2.2.2.2.2.2.2.2.2.2.2.2.1)
              have HS15_ := (hb.cell (World.block_lt_of_cell? _ _ (hHeld.2.2.2.2.2.2.2.2.2.2.2.2.2.2.2.1))).trans (hHeld.2.2.2.2.2.2.2.2.2.2.2.2.2.2.2.1)
              have HS16_ := (hb.cell (World.block_lt_of_cell? _ _ (hHeld.2.2.2.2.2.2.2.2.2.2.2.2.2.2.2.2.1))).trans (hHeld.2.2.2.2.2.2.2.2.2.2.2.2.2.2.2.2.1)
              have HS17_ := (hb.cell (World.block_lt_of_cell? _ _ (hHeld.2.2.2.2.2.2.2.2.2.2.2.2.2.2.2.2.2.1))).trans (hHeld.2.2.2.2.2.2.2.2.2.2.2.2.2.2.2.2.2.1)
              have HS18_ := (hb.cell (World.block_lt_of_cell? _ _ (hHeld.2.2.2.2.2.2.2.2.2.2.2.2.2.2.2.2.2.2))).trans (hHeld.2.2.2.2.2.2.2.2.2.2.2.2.2.2.2.2.2.2)
              refine ⟨_, rfl, ?_⟩
              replace HO1 := rb HO1 hb
              replace BK279 := am (bb BK279.out hb)
              replace BK280 := am (bb BK280.out hb)
              replace BK284 := am (bb BK284.out hb)
              replace BK285 := am (bb BK285.out hb)
              replace HK := am (Kept.below (S := (fun k_ => P1_ k_)) (by repeat (first | (with_reducible first | exact HK.out | apply Kept.alloc | apply Kept.drewN | apply Kept.drew | refine Kept.setCell ?_ (.inr GW279.out) _ | refine Kept.setCell ?_ (.inr GW280.out) _ | refine Kept.setCell ?_ (.inr GW284.out) _ | refine Kept.setCell ?_ (.inr GW285.out) _) | exact HK.out)) hb)
              replace HB := am (below_step bel hb)
              (try clear hb)
              (try clear hb2)
              (try clear hk)
              (try clear hi)
              have p15 : 0 ≤ (a2_1 : Int) := asm
              have q15 : (a2_1 : Int) < ((l1.length : Int) : Int) := asm
              obtain ⟨ce15, hcl15, hM15, hcc15, hfr15⟩ := Kd.R_elem HO1.out z129 (a2_1 : Int) p15 q15
              obtain rfl := k129_openM hM15
              have hx15_0 : World.cell? _ ⟨go11, (a2_1 : Int).toNat * 7, none⟩ = some (.int .i64 ((rd_T129 y295 a2_1).f0)) := hcc15 0 _ rfl
              have hx15_1 : World.cell? _ ⟨go11, (a2_1 : Int).toNat * 7 + 1, none⟩ = some (.int .i64 ((rd_T129 y295 a2_1).f1)) := hcc15 1 _ rfl
              have hx15_2 : World.cell? _ ⟨go11, (a2_1 : Int).toNat * 7 + 2, none⟩ = some (.int .i64 ((rd_T129 y295 a2_1).f2)) := hcc15 2 _ rfl
              have hx15_3 : World.cell? _ ⟨go11, (a2_1 : Int).toNat * 7 + 3, none⟩ = some (.int .i64 ((rd_T129 y295 a2_1).f3)) := hcc15 3 _ rfl
              have hx15_4 : World.cell? _ ⟨go11, (a2_1 : Int).toNat * 7 + 4, none⟩ = some (.int .i64 ((rd_T129 y295 a2_1).f4)) := hcc15 4 _ rfl
              have hx15_5 : World.cell? _ ⟨go11, (a2_1 : Int).toNat * 7 + 5, none⟩ = some (.int .i64 ((rd_T129 y295 a2_1).f5)) := hcc15 5 _ rfl
              have hx15_6 : World.cell? _ ⟨go11, (a2_1 : Int).toNat * 7 + 6, none⟩ = some (.int .i64 ((rd_T129 y295 a2_1).f6)) := hcc15 6 _ rfl
              have hf15_0 : World.frozen? _ ⟨go11, (a2_1 : Int).toNat * 7, none⟩ = false := hfr15 0
              have hf15_1 : World.frozen? _ ⟨go11, (a2_1 : Int).toNat * 7 + 1, none⟩ = false := hfr15 1
              have hf15_2 : World.frozen? _ ⟨go11, (a2_1 : Int).toNat * 7 + 2, none⟩ = false := hfr15 2
              have hf15_3 : World.frozen? _ ⟨go11, (a2_1 : Int).toNat * 7 + 3, none⟩ = false := hfr15 3
              have hf15_4 : World.frozen? _ ⟨go11, (a2_1 : Int).toNat * 7 + 4, none⟩ = false := hfr15 4
              have hf15_5 : World.frozen? _ ⟨go11, (a2_1 : Int).toNat * 7 + 5, none⟩ = false := hfr15 5
              have hf15_6 : World.frozen? _ ⟨go11, (a2_1 : Int).toNat * 7 + 6, none⟩ = false := hfr15 6
              clear hcl15 hcc15 hfr15 hM15
              replace p15 := eq_true p15
              replace q15 := eq_true q15
              obtain ⟨ce43, hcl43, hM43, hcc43, hfr43⟩ := Kd.R_elem HO1.out z129 (a2_1 : Int) (asm) (by have h_ : (a2_1 : Int) < ((l1.length : Int) : Int) := asm; first | exact h_ | (have e_ := (Kd.R_reads' HO1.out).1; omega) | simpa using h_)
              obtain rfl := k129_openM hM43
              have HP43 := (Kd.R_seg HO1.out (a2_1 : Int) (asm) (by have h_ : (a2_1 : Int) < ((l1.length : Int) : Int) := asm; first | exact h_ | (have e_ := (Kd.R_reads' HO1.out).1; omega) | simpa using h_) (seg := [.int .i64 t297, .int .i64 t298, .int .i64 t299, .int .i64 t300, .int .i64 t301, .int .i64 t302, .int .i64 t303]) (j := 0) hcl43 hcc43 (show 7 ≤ 7 from by decide) (x' := (⟨t297, t298, t299, t300, t301, t302, t303⟩ : S129)) (k129_mkM _ _ _ (⟨t297, t298, t299, t300, t301, t302, t303⟩ : S129) ) (fun _ hk => hk)).1
              rw [← Ny304.out] at HP43
              have HQ43 := am HP43
              clear hcl43 hcc43 hfr43 hM43 HP43
              refine hK.out _ _ ⟨(blk_cell BK280.out 0).trans rfl, (blk_cell BK280.out 1).trans rfl, (blk_cell BK280.out 2).trans rfl, (blk_cell BK280.out 3).trans rfl, (blk_cell BK280.out 4).trans rfl, (blk_cell BK285.out 0).trans rfl, (blk_cell BK285.out 1).trans rfl, (blk_cell BK285.out 2).trans rfl, (blk_cell BK285.out 3).trans rfl, (blk_cell BK285.out 4).trans rfl, (blk_cell BK285.out 5).trans rfl, (blk_cell BK285.out 6).trans rfl, HS12_, HS13_, HS14_, HS15_, HS16_, HS17_, HS18_⟩ (fun hHeld => ?_)
              clear hK K
              refine norm_ (a' := ?_) ?_ ?_
              rotate_left
              · show Act.put _ (some 77) _ = _
                simp only [Act.put, List.setIfInBounds_toArray, List.set_cons_zero, List.set_cons_succ, i64_w, i32_w]
                rfl
              refine pure_ (i := 10) (N := some 78) (v := ?_) (a' := ?_) #[true, true, true, true, true, true, true, true, true, true, true, false] rfl rfl (any_of HT_.out (by kernel_rfl)) (fun _ _ _ h => h) (Or.inl ⟨by rfl, ?_⟩) ?_ ?_
              rotate_left
              · intro w'
                go_simp
                with_reducible rfl
              rotate_left
              · simp only [Act.put, List.setIfInBounds_toArray, List.set_cons_zero, List.set_cons_succ, i64_w, i32_w]
                rfl
              refine last_ (i := 11) (N := none) #[true, true, true, true, true, true, true, true, true, true, true, true] rfl rfl (one_of HT_.out (by kernel_rfl)) (by decide) (fun K hK => ?_)
              refine skip_ (w1 := ?_) (by rfl) rfl ?_ ?_
              rotate_left
              · go_simp
                rfl
              refine hK.out _ _ ?_
              clear hK K
              refine done_ (done_of HT_.out (by kernel_rfl)) ?_
              try go_wp2
              first | go_end0 | ((try simp only [Exit.inBlock, Exit.then]); refine bodyPost_ret (results_none rfl _ _ _) rfl ?_)
              exact ⟨er, by (with_reducible repeat (first | apply Kd.R_alloc | apply Kd.R_drewN | apply Kd.R_drew)); exact Kd.R_mono HQ43.out (fun _ hk => hk.1), by repeat (first | (with_reducible first | exact HB.out | apply below_alloc | apply pw_below_drewN | apply below_drew1 | refine below_set ?_ GB11.out | refine below_set ?_ GB11.out | refine below_set ?_ GB11.out | refine below_set ?_ GB11.out | refine below_set ?_ GB11.out | refine below_set ?_ GB11.out | refine below_set ?_ GB11.out | refine below_set ?_ GE279.out | refine below_set ?_ GE280.out | refine below_set ?_ GE284.out | refine below_set ?_ GE285.out) | exact HB.out), by repeat (first | (with_reducible first | exact HK.out | apply Kept.alloc | apply Kept.drewN | apply Kept.drew | refine Kept.setCell ?_ HMgo11.out _ | refine Kept.setCell ?_ HMgo11.out _ | refine Kept.setCell ?_ HMgo11.out _ | refine Kept.setCell ?_ HMgo11.out _ | refine Kept.setCell ?_ HMgo11.out _ | refine Kept.setCell ?_ HMgo11.out _ | refine Kept.setCell ?_ HMgo11.out _ | refine Kept.setCell ?_ (.inr GW279.out) _ | refine Kept.setCell ?_ (.inr GW280.out) _ | refine Kept.setCell ?_ (.inr GW284.out) _ | refine Kept.setCell ?_ (.inr GW285.out) _) | exact HK.out)⟩
            · rw [if_neg c13] at H
              exact absurd H (by simp)
          · rw [if_neg c12] at H
            exact absurd H (by simp)
        · rw [if_neg c9] at H
          exact absurd H (by simp)
      · rw [if_neg c8] at H
        exact absurd H (by simp)
  · replace c5 := Bool.eq_false_iff.mpr c5
    subst c5
    have H1 : (some l1) = some r := by rw [if_neg (show ¬ (false = true) by decide)] at H; exact H
    clear H
    have H := H1
    clear H1
    obtain rfl := Option.some.inj H
    go_enter Try.func142, Try.ntmps142
    go_wp2_with (first | ((with_reducible refine gate_dst (N := 3) rfl ?_); refine box_event ?hg (N := 3) ?hd (cs := #[.int .i64 a0_0, .int .i64 a0_1, .int .i64 a0_2, .slice A0_3 l0_3.length c0_3, .bool a0_4]) (t := 34) ?hr ?_; (case hd => rfl); (case hg => rfl); (case hr => first | (go_simp; done) | (go_simp; rfl)); intro gb279 hg w150 hbox hb; have BK279 := am (hbox); have GW279 := am ((by rw [hg]; exact (by first | exact HK.out.1 | exact (show Kept w _ (fun k_ => P1_ k_) from by repeat (first | (with_reducible first | exact HK.out | apply Kept.alloc | apply Kept.drewN | apply Kept.drew) | exact HK.out)).1) : w.heap.size ≤ gb279)); have GE279 := am ((bsz hg : w0.heap.size ≤ gb279)); replace HO1 := rb HO1 hb; replace HK := am (Kept.below (S := (fun k_ => P1_ k_)) (by repeat (first | (with_reducible first | exact HK.out | apply Kept.alloc | apply Kept.drewN | apply Kept.drew) | exact HK.out)) hb); replace HB := am (below_step bel hb); clear hb hbox hg) | ((with_reducible refine gate_dst (N := 5) rfl ?_); refine box_event ?hg (N := 5) ?hd (cs := #[.int .i64 a2_0, .int .i64 a2_1, .int .i64 a2_2, .int .i64 a2_3, .int .i64 a2_4]) (t := 71) ?hr ?_; (case hd => rfl); (case hg => rfl); (case hr => first | (go_simp; done) | (go_simp; rfl)); intro gb280 hg w151 hbox hb; have BK280 := am (hbox); have GW280 := am ((by rw [hg]; exact (by first | exact HK.out.1 | exact (show Kept w _ (fun k_ => P1_ k_) from by repeat (first | (with_reducible first | exact HK.out | apply Kept.alloc | apply Kept.drewN | apply Kept.drew | refine Kept.setCell ?_ (.inr GW279.out) _) | exact HK.out)).1) : w.heap.size ≤ gb280)); have GE280 := am ((bsz hg : w0.heap.size ≤ gb280)); have NB279_280 := am ((nlt hg BK279.out : gb279 ≠ gb280)); have NB280_279 := am ((ngt hg BK279.out : gb280 ≠ gb279)); replace HO1 := rb HO1 hb; replace BK279 := am (bb BK279.out hb); replace HK := am (Kept.below (S := (fun k_ => P1_ k_)) (by repeat (first | (with_reducible first | exact HK.out | apply Kept.alloc | apply Kept.drewN | apply Kept.drew | refine Kept.setCell ?_ (.inr GW279.out) _) | exact HK.out)) hb); replace HB := am (below_step bel hb); clear hb hbox hg; have hnb152 := NB280_279.out; have hnc152 := NB279_280.out; obtain ⟨hcz153_0, hcz153_1, hcz153_2, hcz153_3, hcz153_4, hfz153_0, hfz153_1, hfz153_2, hfz153_3, hfz153_4⟩ := cf5 BK280.out) | ((with_reducible refine gate_callee (f := 149) rfl ?_); refine goesL_ (some 13) rfl rfl Try.func149 (by kernel_rfl) rfl #[.agg #[.int .i64 a2_0, .int .i64 a2_1, .int .i64 a2_2, .int .i64 a2_3, .int .i64 a2_4]] rfl ga ?_; (with_reducible refine (spec_GoalsOf.calls a2_0 a2_1 a2_2 a2_3 a2_4 t281 t282 false _ A4.out).mono ?_); rintro e w154 ⟨rfl, hb⟩; refine ⟨_, rfl, ?_⟩; replace HO1 := rb HO1 hb; replace BK279 := am (bb BK279.out hb); replace BK280 := am (bb BK280.out hb); replace HK := am (Kept.below (S := (fun k_ => P1_ k_)) (by repeat (first | (with_reducible first | exact HK.out | apply Kept.alloc | apply Kept.drewN | apply Kept.drew | refine Kept.setCell ?_ (.inr GW279.out) _ | refine Kept.setCell ?_ (.inr GW280.out) _) | exact HK.out)) hb); replace HB := am (below_step bel hb); (try clear hb)))
    first | go_end0 | ((try simp only [Exit.inBlock, Exit.then]); refine bodyPost_ret (results_none rfl _ _ _) rfl ?_)
    exact ⟨er, rk HO1.out, bel, by repeat (first | (with_reducible first | exact HK.out | apply Kept.alloc | apply Kept.drewN | apply Kept.drew | refine Kept.setCell ?_ (.inr GW279.out) _ | refine Kept.setCell ?_ (.inr GW280.out) _) | exact HK.out)⟩

end Go.Proofs.Ytgalpgakdcfilaa.Q
