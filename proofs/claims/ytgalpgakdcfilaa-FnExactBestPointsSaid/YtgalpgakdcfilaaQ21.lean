-- Written by a program of this session (wip/xp.py, over the kit's print) out of the translation: functions, and the walks that show them.
import Derived.Test.YtgalpgakdcfilaaQ0
import Derived.Test.YtgalpgakdcfilaaQ19
import Derived.Test.YtgalpgakdcfilaaQ20
namespace Go.Proofs.Ytgalpgakdcfilaa.Q
open Go.RowKit Go.Proofs.YtgalpgakdcfilaaW.PrintWords Go.Proofs.YtgalpgakdcfilaaW.PrintLast Go.Proofs.YtgalpgakdcfilaaW.PrintMore
attribute [local go_sem] max2_int min2_int max_two min_two max_three min_three max_four min_four   -- for this text's walks alone
set_option linter.unusedVariables false
set_option linter.unusedSimpArgs false

def spec_l06Add.fin (l1 : List (S129)) (a2_0 a2_1 p0 p1 p2 p3 p4 p5 p6 q0 q1 q2 q3 q4 q5 q6 : Int) : Option (List (S129)) := (if 0 ≤ a2_0 then (if a2_0 < (l1.length : Int) then ((spec_AddRows.f ((rd_T129 l1 a2_0).f0) ((rd_T129 l1 a2_0).f1) ((rd_T129 l1 a2_0).f2) ((rd_T129 l1 a2_0).f3) ((rd_T129 l1 a2_0).f4) ((rd_T129 l1 a2_0).f5) ((rd_T129 l1 a2_0).f6) p0 p1 p2 p3 p4 p5 p6).bind fun bt261 => ((some (l1.set (a2_0 : Int).toNat (⟨bt261.1, bt261.2.1, bt261.2.2.1, bt261.2.2.2.1, bt261.2.2.2.2.1, bt261.2.2.2.2.2.1, bt261.2.2.2.2.2.2⟩ : S129) : List (S129))).bind fun y268 => (if 0 ≤ a2_1 then (if a2_1 < (l1.length : Int) then ((spec_AddRows.f ((rd_T129 y268 a2_1).f0) ((rd_T129 y268 a2_1).f1) ((rd_T129 y268 a2_1).f2) ((rd_T129 y268 a2_1).f3) ((rd_T129 y268 a2_1).f4) ((rd_T129 y268 a2_1).f5) ((rd_T129 y268 a2_1).f6) q0 q1 q2 q3 q4 q5 q6).bind fun bt270 => (some (y268.set (a2_1 : Int).toNat (⟨bt270.1, bt270.2.1, bt270.2.2.1, bt270.2.2.2.1, bt270.2.2.2.2.1, bt270.2.2.2.2.2.1, bt270.2.2.2.2.2.2⟩ : S129)))) else (none)) else (none)))) else (none)) else (none))
def spec_l06Add.f (a0_0 : Int) (a0_1 : Int) (a0_2 : Int) (l0_3 : List Int) (a0_4 : Bool) (l1 : List (S129)) (a2_0 : Int) (a2_1 : Int) (a2_2 : Int) (a2_3 : Int) (a2_4 : Int) : Option ((List (S129))) := (spec_GoalsOf.f a2_0 a2_1 a2_2 a2_3 a2_4).bind fun bt254 => (if bt254.2.2 = true then ((spec_OutcomeOf.f a2_0 a2_1 a2_2 a2_3 a2_4).bind fun t259 => (if t259 = 1 then (spec_l06Add.fin l1 a2_0 a2_1 1 1 0 0 bt254.1 bt254.2.1 a0_0 1 0 0 1 bt254.2.1 bt254.1 a0_2) else (if t259 = 2 then (spec_l06Add.fin l1 a2_0 a2_1 1 0 1 0 bt254.1 bt254.2.1 a0_1 1 0 1 0 bt254.2.1 bt254.1 a0_1) else (if t259 = 3 then (spec_l06Add.fin l1 a2_0 a2_1 1 0 0 1 bt254.1 bt254.2.1 a0_2 1 1 0 0 bt254.2.1 bt254.1 a0_0) else (spec_l06Add.fin l1 a2_0 a2_1 1 0 0 0 bt254.1 bt254.2.1 0 1 0 0 0 bt254.2.1 bt254.1 0))))) else (some l1))
def spec_l06Add.T21 : Bool × List (List Nat × List Nat) := (true, [([], []), ([], []), ([1], [1]), ([], []), ([], []), ([4], [4]), ([3, 5], [3, 5]), ([6], [6]), ([], []), ([7, 8], [7, 8]), ([0, 2, 0, 1, 2, 3, 4, 5, 6, 7, 8, 9], [0, 2]), ([10, 9, 9, 0, 1, 2, 3, 4, 5, 6, 7, 8, 9], [9, 10])])
def spec_l06Add.B21 : List Nat := [0, 0, 2, 0, 0, 16, 56, 120, 0, 504, 1023, 2047]
theorem spec_l06Add.tab21 : rtab .any (opsOf Try.f142 21) = spec_l06Add.T21 := by kernel_rfl
theorem spec_l06Add.bits21 : waitsOk spec_l06Add.T21.2 spec_l06Add.B21 = true := by kernel_rfl
def spec_l06Add.T22 : Bool × List (List Nat × List Nat) := (true, [([], []), ([], []), ([1], [1]), ([], []), ([], []), ([4], [4]), ([3, 5], [3, 5]), ([6], [6]), ([], []), ([7, 8], [7, 8]), ([0, 2, 0, 1, 2, 3, 4, 5, 6, 7, 8, 9], [0, 2]), ([10, 9, 9, 0, 1, 2, 3, 4, 5, 6, 7, 8, 9], [9, 10])])
def spec_l06Add.B22 : List Nat := [0, 0, 2, 0, 0, 16, 56, 120, 0, 504, 1023, 2047]
theorem spec_l06Add.tab22 : rtab .any (opsOf Try.f142 22) = spec_l06Add.T22 := by kernel_rfl
theorem spec_l06Add.bits22 : waitsOk spec_l06Add.T22.2 spec_l06Add.B22 = true := by kernel_rfl
set_option maxHeartbeats 8000000 in
set_option maxRecDepth 100000 in

theorem spec_l06Add.calls (a0_0 : Int) (a0_1 : Int) (a0_2 : Int) (A0_3 : Option Addr) (c0_3 : Nat) (l0_3 : List Int) (a0_4 : Bool) (P1_ : Nat → Prop) (u9000_ : Value) (l1 : List (S129)) (a2_0 : Int) (a2_1 : Int) (a2_2 : Int) (a2_3 : Int) (a2_4 : Int) (r : List (S129)) (w0 w : World) (hB : Below w0.heap.size w0 w) (hr0_3 : ∀ W_, Kept w W_ (fun k_ => P1_ k_) → Kd.C (Kd.int .i64) W_ A0_3 l0_3.length l0_3) (hc0_3 : l0_3.length ≤ c0_3) (ho1 : Kd.R k129 129 w w0.heap.size P1_ u9000_ l1) (h : spec_l06Add.f a0_0 a0_1 a0_2 l0_3 a0_4 l1 a2_0 a2_1 a2_2 a2_3 a2_4 = some r) :
    Calls Try.prog 142 #[.agg #[.int .i64 a0_0, .int .i64 a0_1, .int .i64 a0_2, .slice A0_3 l0_3.length c0_3, .bool a0_4], u9000_, .agg #[.int .i64 a2_0, .int .i64 a2_1, .int .i64 a2_2, .int .i64 a2_3, .int .i64 a2_4]] w fun e w' => e = .returned (.tuple #[]) ∧ Kd.R k129 129 w' w0.heap.size (fun k_ => (P1_ k_ ∨ w.heap.size ≤ k_)) u9000_ r ∧ Below w0.heap.size w0 w' ∧ Kept w w' (fun k_ => P1_ k_) := by
  have hu34 := Try.underlying34
  have hu71 := Try.underlying71
  have hu129 := Try.underlying129
  have HR0_3 := am hr0_3
  have HC0_3 := am hc0_3
  clear hr0_3 hc0_3
  have HO1 := am (show Kd.R k129 129 w w0.heap.size (fun k_ => (P1_ k_ ∨ w.heap.size ≤ k_)) u9000_ l1 from Kd.R_mono ho1 (fun k_ hk => (.inl hk)))
  have HK := am (Kept.refl w (fun k_ => P1_ k_))
  have HW0 := am hB.size
  have HB := am hB
  clear hB
  have H : ((spec_GoalsOf.f a2_0 a2_1 a2_2 a2_3 a2_4).bind fun bt254 => (if bt254.2.2 = true then ((spec_OutcomeOf.f a2_0 a2_1 a2_2 a2_3 a2_4).bind fun t259 => (if t259 = 1 then (spec_l06Add.fin l1 a2_0 a2_1 1 1 0 0 bt254.1 bt254.2.1 a0_0 1 0 0 1 bt254.2.1 bt254.1 a0_2) else (if t259 = 2 then (spec_l06Add.fin l1 a2_0 a2_1 1 0 1 0 bt254.1 bt254.2.1 a0_1 1 0 1 0 bt254.2.1 bt254.1 a0_1) else (if t259 = 3 then (spec_l06Add.fin l1 a2_0 a2_1 1 0 0 1 bt254.1 bt254.2.1 a0_2 1 1 0 0 bt254.2.1 bt254.1 a0_0) else (spec_l06Add.fin l1 a2_0 a2_1 1 0 0 0 bt254.1 bt254.2.1 0 1 0 0 0 bt254.2.1 bt254.1 0))))) else (some l1))) = some r := h
  clear h
  replace H := Option.bind_eq_some_iff.mp H
  obtain ⟨⟨t254, t255, t256⟩, A40, H⟩ := H
  replace H : (if t256 = true then ((spec_OutcomeOf.f a2_0 a2_1 a2_2 a2_3 a2_4).bind fun t259 => (if t259 = 1 then (spec_l06Add.fin l1 a2_0 a2_1 1 1 0 0 t254 t255 a0_0 1 0 0 1 t255 t254 a0_2) else (if t259 = 2 then (spec_l06Add.fin l1 a2_0 a2_1 1 0 1 0 t254 t255 a0_1 1 0 1 0 t255 t254 a0_1) else (if t259 = 3 then (spec_l06Add.fin l1 a2_0 a2_1 1 0 0 1 t254 t255 a0_2 1 1 0 0 t255 t254 a0_0) else (spec_l06Add.fin l1 a2_0 a2_1 1 0 0 0 t254 t255 0 1 0 0 0 t255 t254 0))))) else (some l1)) = some r := H
  have A4 := am A40
  clear A40
  by_cases c5 : t256 = true
  · subst c5
    have H1 : ((spec_OutcomeOf.f a2_0 a2_1 a2_2 a2_3 a2_4).bind fun t259 => (if t259 = 1 then (spec_l06Add.fin l1 a2_0 a2_1 1 1 0 0 t254 t255 a0_0 1 0 0 1 t255 t254 a0_2) else (if t259 = 2 then (spec_l06Add.fin l1 a2_0 a2_1 1 0 1 0 t254 t255 a0_1 1 0 1 0 t255 t254 a0_1) else (if t259 = 3 then (spec_l06Add.fin l1 a2_0 a2_1 1 0 0 1 t254 t255 a0_2 1 1 0 0 t255 t254 a0_0) else (spec_l06Add.fin l1 a2_0 a2_1 1 0 0 0 t254 t255 0 1 0 0 0 t255 t254 0))))) = some r := by rw [if_pos rfl] at H; exact H
    clear H
    have H := H1
    clear H1
    replace H := Option.bind_eq_some_iff.mp H
    obtain ⟨t259, A60, H⟩ := H
    replace H : (if t259 = 1 then (spec_l06Add.fin l1 a2_0 a2_1 1 1 0 0 t254 t255 a0_0 1 0 0 1 t255 t254 a0_2) else (if t259 = 2 then (spec_l06Add.fin l1 a2_0 a2_1 1 0 1 0 t254 t255 a0_1 1 0 1 0 t255 t254 a0_1) else (if t259 = 3 then (spec_l06Add.fin l1 a2_0 a2_1 1 0 0 1 t254 t255 a0_2 1 1 0 0 t255 t254 a0_0) else (spec_l06Add.fin l1 a2_0 a2_1 1 0 0 0 t254 t255 0 1 0 0 0 t255 t254 0)))) = some r := H
    have A6 := am A60
    clear A60
    have HC_ := Aside0.mk H
    clear H
    go_enter Try.func142, Try.ntmps142
    go_upto_block 0 with (first | ((with_reducible refine gate_dst (N := 3) rfl ?_); refine box_event ?hg (N := 3) ?hd (cs := #[.int .i64 a0_0, .int .i64 a0_1, .int .i64 a0_2, .slice A0_3 l0_3.length c0_3, .bool a0_4]) (t := 34) ?hr ?_; (case hd => rfl); (case hg => rfl); (case hr => first | (go_simp; done) | (go_simp; rfl)); intro gb252 hg w16 hbox hb; have BK252 := am (hbox); have GW252 := am ((by rw [hg]; exact (by first | exact HK.out.1 | exact (show Kept w _ (fun k_ => P1_ k_) from by repeat (first | (with_reducible first | exact HK.out | apply Kept.alloc | apply Kept.drewN | apply Kept.drew) | exact HK.out)).1) : w.heap.size ≤ gb252)); have GE252 := am ((bsz hg : w0.heap.size ≤ gb252)); replace HO1 := rb HO1 hb; replace HK := am (Kept.below (S := (fun k_ => P1_ k_)) (by repeat (first | (with_reducible first | exact HK.out | apply Kept.alloc | apply Kept.drewN | apply Kept.drew) | exact HK.out)) hb); replace HB := am (below_step bel hb); clear hb hbox hg) | ((with_reducible refine gate_dst (N := 5) rfl ?_); refine box_event ?hg (N := 5) ?hd (cs := #[.int .i64 a2_0, .int .i64 a2_1, .int .i64 a2_2, .int .i64 a2_3, .int .i64 a2_4]) (t := 71) ?hr ?_; (case hd => rfl); (case hg => rfl); (case hr => first | (go_simp; done) | (go_simp; rfl)); intro gb253 hg w17 hbox hb; have BK253 := am (hbox); have GW253 := am ((by rw [hg]; exact (by first | exact HK.out.1 | exact (show Kept w _ (fun k_ => P1_ k_) from by repeat (first | (with_reducible first | exact HK.out | apply Kept.alloc | apply Kept.drewN | apply Kept.drew | refine Kept.setCell ?_ (.inr GW252.out) _) | exact HK.out)).1) : w.heap.size ≤ gb253)); have GE253 := am ((bsz hg : w0.heap.size ≤ gb253)); have NB252_253 := am ((nlt hg BK252.out : gb252 ≠ gb253)); have NB253_252 := am ((ngt hg BK252.out : gb253 ≠ gb252)); replace HO1 := rb HO1 hb; replace BK252 := am (bb BK252.out hb); replace HK := am (Kept.below (S := (fun k_ => P1_ k_)) (by repeat (first | (with_reducible first | exact HK.out | apply Kept.alloc | apply Kept.drewN | apply Kept.drew | refine Kept.setCell ?_ (.inr GW252.out) _) | exact HK.out)) hb); replace HB := am (below_step bel hb); clear hb hbox hg; have hnb18 := NB253_252.out; have hnc18 := NB252_253.out; obtain ⟨hcz19_0, hcz19_1, hcz19_2, hcz19_3, hcz19_4, hfz19_0, hfz19_1, hfz19_2, hfz19_3, hfz19_4⟩ := cf5 BK253.out) | ((with_reducible refine gate_callee (f := 149) rfl ?_); refine goesL_ (some 13) rfl rfl Try.func149 (by kernel_rfl) rfl #[.agg #[.int .i64 a2_0, .int .i64 a2_1, .int .i64 a2_2, .int .i64 a2_3, .int .i64 a2_4]] rfl ga ?_; (with_reducible refine (spec_GoalsOf.calls a2_0 a2_1 a2_2 a2_3 a2_4 t254 t255 true _ A4.out).mono ?_); rintro e w20 ⟨rfl, hb⟩; refine ⟨_, rfl, ?_⟩; replace HO1 := rb HO1 hb; replace BK252 := am (bb BK252.out hb); replace BK253 := am (bb BK253.out hb); replace HK := am (Kept.below (S := (fun k_ => P1_ k_)) (by repeat (first | (with_reducible first | exact HK.out | apply Kept.alloc | apply Kept.drewN | apply Kept.drew | refine Kept.setCell ?_ (.inr GW252.out) _ | refine Kept.setCell ?_ (.inr GW253.out) _) | exact HK.out)) hb); replace HB := am (below_step bel hb); (try clear hb)) | ((with_reducible refine gate_dst (N := 9) rfl ?_); refine box_event ?hg (N := 9) ?hd (cs := #[.int .i64 0, .int .i64 0, .int .i64 0, .int .i64 0, .int .i64 0, .int .i64 0, .int .i64 0]) (t := 129) ?hr ?_; (case hd => rfl); (case hg => rfl); (case hr => first | (go_simp; done) | (go_simp; rfl)); intro gb257 hg w21 hbox hb; have BK257 := am (hbox); have GW257 := am ((by rw [hg]; exact (by first | exact HK.out.1 | exact (show Kept w _ (fun k_ => P1_ k_) from by repeat (first | (with_reducible first | exact HK.out | apply Kept.alloc | apply Kept.drewN | apply Kept.drew | refine Kept.setCell ?_ (.inr GW252.out) _ | refine Kept.setCell ?_ (.inr GW253.out) _) | exact HK.out)).1) : w.heap.size ≤ gb257)); have GE257 := am ((bsz hg : w0.heap.size ≤ gb257)); have NB252_257 := am ((nlt hg BK252.out : gb252 ≠ gb257)); have NB257_252 := am ((ngt hg BK252.out : gb257 ≠ gb252)); have NB253_257 := am ((nlt hg BK253.out : gb253 ≠ gb257)); have NB257_253 := am ((ngt hg BK253.out : gb257 ≠ gb253)); replace HO1 := am (Kd.R_below (Kd.R_elderB (rk HO1.out) gb257 (Nat.le_of_eq hg.symm)) hb); replace BK252 := am (bb BK252.out hb); replace BK253 := am (bb BK253.out hb); replace HK := am (Kept.below (S := (fun k_ => P1_ k_)) (by repeat (first | (with_reducible first | exact HK.out | apply Kept.alloc | apply Kept.drewN | apply Kept.drew | refine Kept.setCell ?_ (.inr GW252.out) _ | refine Kept.setCell ?_ (.inr GW253.out) _) | exact HK.out)) hb); replace HB := am (below_step bel hb); clear hb hbox hg; have hnb22 := NB257_252.out; have hnc22 := NB252_257.out; have hnb23 := NB257_253.out; have hnc23 := NB253_257.out; obtain ⟨hcz24_0, hcz24_1, hcz24_2, hcz24_3, hcz24_4, hcz24_5, hcz24_6, hfz24_0, hfz24_1, hfz24_2, hfz24_3, hfz24_4, hfz24_5, hfz24_6⟩ := cf7 BK257.out) | ((with_reducible refine gate_dst (N := 10) rfl ?_); refine box_event ?hg (N := 10) ?hd (cs := #[.int .i64 0, .int .i64 0, .int .i64 0, .int .i64 0, .int .i64 0, .int .i64 0, .int .i64 0]) (t := 129) ?hr ?_; (case hd => rfl); (case hg => rfl); (case hr => first | (go_simp; done) | (go_simp; rfl)); intro gb258 hg w25 hbox hb; have BK258 := am (hbox); have GW258 := am ((by rw [hg]; exact (show Kept w _ (fun k_ => P1_ k_) from by repeat (first | (with_reducible first | exact HK.out | apply Kept.alloc | apply Kept.drewN | apply Kept.drew | refine Kept.setCell ?_ (.inr GW252.out) _ | refine Kept.setCell ?_ (.inr GW253.out) _ | refine Kept.setCell ?_ (.inr GW257.out) _) | exact HK.out)).1 : w.heap.size ≤ gb258)); have GE258 := am ((bsz hg : w0.heap.size ≤ gb258)); have NB252_258 := am ((nlt hg BK252.out : gb252 ≠ gb258)); have NB258_252 := am ((ngt hg BK252.out : gb258 ≠ gb252)); have NB253_258 := am ((nlt hg BK253.out : gb253 ≠ gb258)); have NB258_253 := am ((ngt hg BK253.out : gb258 ≠ gb253)); have NB257_258 := am ((by rw [hg]; exact Nat.ne_of_lt (blk_lt (g := gb257) (o := .cells #[.int .i64 1, .int .i64 0, .int .i64 0, .int .i64 0, .int .i64 t254, .int .i64 t255, .int .i64 0] 129 (0, 0)) (by (with_reducible repeat (first | refine blk_drewN ?_ _ | refine blk_drew ?_ | refine blk_alloc ?_ _)); refine blk_put (cs := #[.int .i64 1, .int .i64 0, .int .i64 0, .int .i64 0, .int .i64 t254, .int .i64 t255, .int .i64 0]) ?_ 6 _ rfl; (with_reducible repeat (first | refine blk_drewN ?_ _ | refine blk_drew ?_ | refine blk_alloc ?_ _)); refine blk_put (cs := #[.int .i64 1, .int .i64 0, .int .i64 0, .int .i64 0, .int .i64 t254, .int .i64 0, .int .i64 0]) ?_ 5 _ rfl; (with_reducible repeat (first | refine blk_drewN ?_ _ | refine blk_drew ?_ | refine blk_alloc ?_ _)); refine blk_put (cs := #[.int .i64 1, .int .i64 0, .int .i64 0, .int .i64 0, .int .i64 0, .int .i64 0, .int .i64 0]) ?_ 4 _ rfl; (with_reducible repeat (first | refine blk_drewN ?_ _ | refine blk_drew ?_ | refine blk_alloc ?_ _)); refine blk_put (cs := #[.int .i64 1, .int .i64 0, .int .i64 0, .int .i64 0, .int .i64 0, .int .i64 0, .int .i64 0]) ?_ 3 _ rfl; (with_reducible repeat (first | refine blk_drewN ?_ _ | refine blk_drew ?_ | refine blk_alloc ?_ _)); refine blk_put (cs := #[.int .i64 1, .int .i64 0, .int .i64 0, .int .i64 0, .int .i64 0, .int .i64 0, .int .i64 0]) ?_ 2 _ rfl; (with_reducible repeat (first | refine blk_drewN ?_ _ | refine blk_drew ?_ | refine blk_alloc ?_ _)); refine blk_put (cs := #[.int .i64 1, .int .i64 0, .int .i64 0, .int .i64 0, .int .i64 0, .int .i64 0, .int .i64 0]) ?_ 1 _ rfl; (with_reducible repeat (first | refine blk_drewN ?_ _ | refine blk_drew ?_ | refine blk_alloc ?_ _)); refine blk_put (cs := #[.int .i64 0, .int .i64 0, .int .i64 0, .int .i64 0, .int .i64 0, .int .i64 0, .int .i64 0]) ?_ 0 _ rfl; (with_reducible repeat (first | refine blk_drewN ?_ _ | refine blk_drew ?_ | refine blk_alloc ?_ _)); exact BK257.out)) : gb257 ≠ gb258)); have NB258_257 := am ((by rw [hg]; exact Nat.ne_of_gt (blk_lt (g := gb257) (o := .cells #[.int .i64 1, .int .i64 0, .int .i64 0, .int .i64 0, .int .i64 t254, .int .i64 t255, .int .i64 0] 129 (0, 0)) (by (with_reducible repeat (first | refine blk_drewN ?_ _ | refine blk_drew ?_ | refine blk_alloc ?_ _)); refine blk_put (cs := #[.int .i64 1, .int .i64 0, .int .i64 0, .int .i64 0, .int .i64 t254, .int .i64 t255, .int .i64 0]) ?_ 6 _ rfl; (with_reducible repeat (first | refine blk_drewN ?_ _ | refine blk_drew ?_ | refine blk_alloc ?_ _)); refine blk_put (cs := #[.int .i64 1, .int .i64 0, .int .i64 0, .int .i64 0, .int .i64 t254, .int .i64 0, .int .i64 0]) ?_ 5 _ rfl; (with_reducible repeat (first | refine blk_drewN ?_ _ | refine blk_drew ?_ | refine blk_alloc ?_ _)); refine blk_put (cs := #[.int .i64 1, .int .i64 0, .int .i64 0, .int .i64 0, .int .i64 0, .int .i64 0, .int .i64 0]) ?_ 4 _ rfl; (with_reducible repeat (first | refine blk_drewN ?_ _ | refine blk_drew ?_ | refine blk_alloc ?_ _)); refine blk_put (cs := #[.int .i64 1, .int .i64 0, .int .i64 0, .int .i64 0, .int .i64 0, .int .i64 0, .int .i64 0]) ?_ 3 _ rfl; (with_reducible repeat (first | refine blk_drewN ?_ _ | refine blk_drew ?_ | refine blk_alloc ?_ _)); refine blk_put (cs := #[.int .i64 1, .int .i64 0, .int .i64 0, .int .i64 0, .int .i64 0, .int .i64 0, .int .i64 0]) ?_ 2 _ rfl; (with_reducible repeat (first | refine blk_drewN ?_ _ | refine blk_drew ?_ | refine blk_alloc ?_ _)); refine blk_put (cs := #[.int .i64 1, .int .i64 0, .int .i64 0, .int .i64 0, .int .i64 0, .int .i64 0, .int .i64 0]) ?_ 1 _ rfl; (with_reducible repeat (first | refine blk_drewN ?_ _ | refine blk_drew ?_ | refine blk_alloc ?_ _)); refine blk_put (cs := #[.int .i64 0, .int .i64 0, .int .i64 0, .int .i64 0, .int .i64 0, .int .i64 0, .int .i64 0]) ?_ 0 _ rfl; (with_reducible repeat (first | refine blk_drewN ?_ _ | refine blk_drew ?_ | refine blk_alloc ?_ _)); exact BK257.out)) : gb258 ≠ gb257)); replace HO1 := am (Kd.R_below (Kd.R_elderB (by exact rk (Kd.R_mono (Kd.R_far (p := ⟨gb257, 6, none⟩) (Kd.R_far (p := ⟨gb257, 5, none⟩) (Kd.R_far (p := ⟨gb257, 4, none⟩) (Kd.R_far (p := ⟨gb257, 3, none⟩) (Kd.R_far (p := ⟨gb257, 2, none⟩) (Kd.R_far (p := ⟨gb257, 1, none⟩) (Kd.R_far (p := ⟨gb257, 0, none⟩) (Kd.R_mono HO1.out (fun k_ hk => (⟨hk, hk.2⟩ : _ ∧ k_ ≠ gb257))) (fun _ hk => hk.2) (.int .i64 1)) (fun _ hk => hk.2) (.int .i64 0)) (fun _ hk => hk.2) (.int .i64 0)) (fun _ hk => hk.2) (.int .i64 0)) (fun _ hk => hk.2) (.int .i64 t254)) (fun _ hk => hk.2) (.int .i64 t255)) (fun _ hk => hk.2) (.int .i64 0)) (fun _ h_ => h_.1))) gb258 (Nat.le_of_eq hg.symm)) hb); replace BK252 := am (bb BK252.out hb); replace BK253 := am (bb BK253.out hb); replace BK257 := am (blk_below (g := gb257) (o := .cells #[.int .i64 1, .int .i64 0, .int .i64 0, .int .i64 0, .int .i64 t254, .int .i64 t255, .int .i64 0] 129 (0, 0)) (by (with_reducible repeat (first | refine blk_drewN ?_ _ | refine blk_drew ?_ | refine blk_alloc ?_ _)); refine blk_put (cs := #[.int .i64 1, .int .i64 0, .int .i64 0, .int .i64 0, .int .i64 t254, .int .i64 t255, .int .i64 0]) ?_ 6 _ rfl; (with_reducible repeat (first | refine blk_drewN ?_ _ | refine blk_drew ?_ | refine blk_alloc ?_ _)); refine blk_put (cs := #[.int .i64 1, .int .i64 0, .int .i64 0, .int .i64 0, .int .i64 t254, .int .i64 0, .int .i64 0]) ?_ 5 _ rfl; (with_reducible repeat (first | refine blk_drewN ?_ _ | refine blk_drew ?_ | refine blk_alloc ?_ _)); refine blk_put (cs := #[.int .i64 1, .int .i64 0, .int .i64 0, .int .i64 0, .int .i64 0, .int .i64 0, .int .i64 0]) ?_ 4 _ rfl; (with_reducible repeat (first | refine blk_drewN ?_ _ | refine blk_drew ?_ | refine blk_alloc ?_ _)); refine blk_put (cs := #[.int .i64 1, .int .i64 0, .int .i64 0, .int .i64 0, .int .i64 0, .int .i64 0, .int .i64 0]) ?_ 3 _ rfl; (with_reducible repeat (first | refine blk_drewN ?_ _ | refine blk_drew ?_ | refine blk_alloc ?_ _)); refine blk_put (cs := #[.int .i64 1, .int .i64 0, .int .i64 0, .int .i64 0, .int .i64 0, .int .i64 0, .int .i64 0]) ?_ 2 _ rfl; (with_reducible repeat (first | refine blk_drewN ?_ _ | refine blk_drew ?_ | refine blk_alloc ?_ _)); refine blk_put (cs := #[.int .i64 1, .int .i64 0, .int .i64 0, .int .i64 0, .int .i64 0, .int .i64 0, .int .i64 0]) ?_ 1 _ rfl; (with_reducible repeat (first | refine blk_drewN ?_ _ | refine blk_drew ?_ | refine blk_alloc ?_ _)); refine blk_put (cs := #[.int .i64 0, .int .i64 0, .int .i64 0, .int .i64 0, .int .i64 0, .int .i64 0, .int .i64 0]) ?_ 0 _ rfl; (with_reducible repeat (first | refine blk_drewN ?_ _ | refine blk_drew ?_ | refine blk_alloc ?_ _)); exact BK257.out) hb); replace HK := am (Kept.below (S := (fun k_ => P1_ k_)) (by repeat (first | (with_reducible first | exact HK.out | apply Kept.alloc | apply Kept.drewN | apply Kept.drew | refine Kept.setCell ?_ (.inr GW252.out) _ | refine Kept.setCell ?_ (.inr GW253.out) _ | refine Kept.setCell ?_ (.inr GW257.out) _) | exact HK.out)) hb); replace HB := am (below_step bel hb); clear hb hbox hg; have hnb26 := NB258_252.out; have hnc26 := NB252_258.out; have hnb27 := NB258_253.out; have hnc27 := NB253_258.out; have hnb28 := NB258_257.out; have hnc28 := NB257_258.out; obtain ⟨hcz29_0, hcz29_1, hcz29_2, hcz29_3, hcz29_4, hcz29_5, hcz29_6, hfz29_0, hfz29_1, hfz29_2, hfz29_3, hfz29_4, hfz29_5, hfz29_6⟩ := cf7 BK258.out; obtain ⟨hcz30_0, hcz30_1, hcz30_2, hcz30_3, hcz30_4, hfz30_0, hfz30_1, hfz30_2, hfz30_3, hfz30_4⟩ := cf5 BK253.out) | ((with_reducible refine gate_callee (f := 150) rfl ?_); refine goesL_ (some 26) rfl rfl Try.func150 (by kernel_rfl) rfl #[.agg #[.int .i64 a2_0, .int .i64 a2_1, .int .i64 a2_2, .int .i64 a2_3, .int .i64 a2_4]] rfl ga ?_; (with_reducible refine (spec_OutcomeOf.calls a2_0 a2_1 a2_2 a2_3 a2_4 t259 _ A6.out).mono ?_); rintro e w31 ⟨rfl, hb⟩; refine ⟨_, rfl, ?_⟩; replace HO1 := am (Kd.R_below (by exact rk (Kd.R_mono (Kd.R_far (p := ⟨gb258, 6, none⟩) (Kd.R_far (p := ⟨gb258, 5, none⟩) (Kd.R_far (p := ⟨gb258, 4, none⟩) (Kd.R_far (p := ⟨gb258, 3, none⟩) (Kd.R_far (p := ⟨gb258, 2, none⟩) (Kd.R_far (p := ⟨gb258, 1, none⟩) (Kd.R_far (p := ⟨gb258, 0, none⟩) (Kd.R_mono HO1.out (fun k_ hk => (⟨hk, hk.2⟩ : _ ∧ k_ ≠ gb258))) (fun _ hk => hk.2) (.int .i64 1)) (fun _ hk => hk.2) (.int .i64 0)) (fun _ hk => hk.2) (.int .i64 0)) (fun _ hk => hk.2) (.int .i64 0)) (fun _ hk => hk.2) (.int .i64 t255)) (fun _ hk => hk.2) (.int .i64 t254)) (fun _ hk => hk.2) (.int .i64 0)) (fun _ h_ => h_.1))) hb); replace BK252 := am (bb BK252.out hb); replace BK253 := am (bb BK253.out hb); replace BK257 := am (bb BK257.out hb); replace BK258 := am (blk_below (g := gb258) (o := .cells #[.int .i64 1, .int .i64 0, .int .i64 0, .int .i64 0, .int .i64 t255, .int .i64 t254, .int .i64 0] 129 (0, 0)) (by (with_reducible repeat (first | refine blk_drewN ?_ _ | refine blk_drew ?_ | refine blk_alloc ?_ _)); refine blk_put (cs := #[.int .i64 1, .int .i64 0, .int .i64 0, .int .i64 0, .int .i64 t255, .int .i64 t254, .int .i64 0]) ?_ 6 _ rfl; (with_reducible repeat (first | refine blk_drewN ?_ _ | refine blk_drew ?_ | refine blk_alloc ?_ _)); refine blk_put (cs := #[.int .i64 1, .int .i64 0, .int .i64 0, .int .i64 0, .int .i64 t255, .int .i64 0, .int .i64 0]) ?_ 5 _ rfl; (with_reducible repeat (first | refine blk_drewN ?_ _ | refine blk_drew ?_ | refine blk_alloc ?_ _)); refine blk_put (cs := #[.int .i64 1, .int .i64 0, .int .i64 0, .int .i64 0, .int .i64 0, .int .i64 0, .int .i64 0]) ?_ 4 _ rfl; (with_reducible repeat (first | refine blk_drewN ?_ _ | refine blk_drew ?_ | refine blk_alloc ?_ _)); refine blk_put (cs := #[.int .i64 1, .int .i64 0, .int .i64 0, .int .i64 0, .int .i64 0, .int .i64 0, .int .i64 0]) ?_ 3 _ rfl; (with_reducible repeat (first | refine blk_drewN ?_ _ | refine blk_drew ?_ | refine blk_alloc ?_ _)); refine blk_put (cs := #[.int .i64 1, .int .i64 0, .int .i64 0, .int .i64 0, .int .i64 0, .int .i64 0, .int .i64 0]) ?_ 2 _ rfl; (with_reducible repeat (first | refine blk_drewN ?_ _ | refine blk_drew ?_ | refine blk_alloc ?_ _)); refine blk_put (cs := #[.int .i64 1, .int .i64 0, .int .i64 0, .int .i64 0, .int .i64 0, .int .i64 0, .int .i64 0]) ?_ 1 _ rfl; (with_reducible repeat (first | refine blk_drewN ?_ _ | refine blk_drew ?_ | refine blk_alloc ?_ _)); refine blk_put (cs := #[.int .i64 0, .int .i64 0, .int .i64 0, .int .i64 0, .int .i64 0, .int .i64 0, .int .i64 0]) ?_ 0 _ rfl; (with_reducible repeat (first | refine blk_drewN ?_ _ | refine blk_drew ?_ | refine blk_alloc ?_ _)); exact BK258.out) hb); replace HK := am (Kept.below (S := (fun k_ => P1_ k_)) (by repeat (first | (with_reducible first | exact HK.out | apply Kept.alloc | apply Kept.drewN | apply Kept.drew | refine Kept.setCell ?_ (.inr GW252.out) _ | refine Kept.setCell ?_ (.inr GW253.out) _ | refine Kept.setCell ?_ (.inr GW257.out) _ | refine Kept.setCell ?_ (.inr GW258.out) _) | exact HK.out)) hb); replace HB := am (below_step bel hb); (try clear hb); obtain ⟨hcz32_0, hcz32_1, hcz32_2, hcz32_3, hcz32_4, hcz32_5, hcz32_6, hfz32_0, hfz32_1, hfz32_2, hfz32_3, hfz32_4, hfz32_5, hfz32_6⟩ := cf7 BK257.out; obtain ⟨hcz33_0, hcz33_1, hcz33_2, hcz33_3, hcz33_4, hcz33_5, hcz33_6, hfz33_0, hfz33_1, hfz33_2, hfz33_3, hfz33_4, hfz33_5, hfz33_6⟩ := cf7 BK258.out; obtain ⟨hcz34_0, hcz34_1, hcz34_2, hcz34_3, hcz34_4, hfz34_0, hfz34_1, hfz34_2, hfz34_3, hfz34_4⟩ := cf5 BK252.out))
    (try simp only [Act.put, List.setIfInBounds_toArray, List.set_cons_zero, List.set_cons_succ])
    go_cut [] (fun wc => ∃ p0 p1 p2 p3 p4 p5 p6 q0 q1 q2 q3 q4 q5 q6 : Int, Aside0 (spec_l06Add.fin l1 a2_0 a2_1 p0 p1 p2 p3 p4 p5 p6 q0 q1 q2 q3 q4 q5 q6 = some r) ∧ Aside0 (Kd.R k129 129 wc w0.heap.size (fun k_ => (P1_ k_ ∨ w.heap.size ≤ k_) ∧ k_ ≠ gb257 ∧ k_ ≠ gb258) u9000_ l1) ∧ Aside0 (wc.heap[gb252]? = some (.cells #[.int .i64 a0_0, .int .i64 a0_1, .int .i64 a0_2, .slice A0_3 l0_3.length c0_3, .bool a0_4] 34 (0, 0))) ∧ Aside0 (wc.heap[gb253]? = some (.cells #[.int .i64 a2_0, .int .i64 a2_1, .int .i64 a2_2, .int .i64 a2_3, .int .i64 a2_4] 71 (0, 0))) ∧ Aside0 (wc.heap[gb257]? = some (.cells #[.int .i64 p0, .int .i64 p1, .int .i64 p2, .int .i64 p3, .int .i64 p4, .int .i64 p5, .int .i64 p6] 129 (0, 0))) ∧ Aside0 (wc.heap[gb258]? = some (.cells #[.int .i64 q0, .int .i64 q1, .int .i64 q2, .int .i64 q3, .int .i64 q4, .int .i64 q5, .int .i64 q6] 129 (0, 0))) ∧ Aside0 (Kept w wc (fun k_ => P1_ k_)) ∧ Aside0 (Below w0.heap.size w0 wc))
    case first =>
      have H := HC_.out
      clear HC_
      by_cases cw1 : t259 = 1
      · rw [if_pos cw1] at H
        have cw1b := (beq_iff_eq (a := t259) (b := 1)).mpr cw1
        have cw1e : (t259 != 1) = false := bne_eq_false_iff_eq.mpr cw1
        clear cw1
        have HF_ := Aside0.mk H
        clear H
        go_wp2
        go_meet
        case rel =>
          exact ⟨1, 1, 0, 0, t254, t255, a0_0, 1, 0, 0, 1, t255, t254, a0_2, HF_, ⟨by (with_reducible repeat (first | apply Kd.R_alloc | apply Kd.R_drewN | apply Kd.R_drew)); exact Kd.R_mono (Kd.R_far (p := ⟨gb258, 6, none⟩) (Kd.R_far (p := ⟨gb257, 6, none⟩) (Kd.R_far (p := ⟨gb258, 3, none⟩) (Kd.R_far (p := ⟨gb257, 1, none⟩) (Kd.R_mono (Kd.R_mono HO1.out (fun k_ hk => (⟨hk, hk.1.2⟩ : _ ∧ k_ ≠ gb257))) (fun k_ hk => (⟨hk, hk.1.2⟩ : _ ∧ k_ ≠ gb258))) (fun _ hk => hk.1.2) (.int .i64 1)) (fun _ hk => hk.2) (.int .i64 1)) (fun _ hk => hk.1.2) (.int .i64 a0_0)) (fun _ hk => hk.2) (.int .i64 a0_2)) (fun _ hk => ⟨hk.1.1.1.1, ⟨hk.1.1.1.2, hk.1.1.2⟩⟩)⟩, ⟨bk BK252.out⟩, ⟨bk BK253.out⟩, ⟨by (with_reducible repeat (first | refine blk_drewN ?_ _ | refine blk_drew ?_ | refine blk_alloc ?_ _)); refine blk_far ?_ NB257_258.out _; (with_reducible repeat (first | refine blk_drewN ?_ _ | refine blk_drew ?_ | refine blk_alloc ?_ _)); refine blk_put (cs := #[.int .i64 1, .int .i64 1, .int .i64 0, .int .i64 0, .int .i64 t254, .int .i64 t255, .int .i64 0]) ?_ 6 _ rfl; (with_reducible repeat (first | refine blk_drewN ?_ _ | refine blk_drew ?_ | refine blk_alloc ?_ _)); refine blk_far ?_ NB257_258.out _; (with_reducible repeat (first | refine blk_drewN ?_ _ | refine blk_drew ?_ | refine blk_alloc ?_ _)); refine blk_put (cs := #[.int .i64 1, .int .i64 0, .int .i64 0, .int .i64 0, .int .i64 t254, .int .i64 t255, .int .i64 0]) ?_ 1 _ rfl; (with_reducible repeat (first | refine blk_drewN ?_ _ | refine blk_drew ?_ | refine blk_alloc ?_ _)); exact BK257.out⟩, ⟨by (with_reducible repeat (first | refine blk_drewN ?_ _ | refine blk_drew ?_ | refine blk_alloc ?_ _)); refine blk_put (cs := #[.int .i64 1, .int .i64 0, .int .i64 0, .int .i64 1, .int .i64 t255, .int .i64 t254, .int .i64 0]) ?_ 6 _ rfl; (with_reducible repeat (first | refine blk_drewN ?_ _ | refine blk_drew ?_ | refine blk_alloc ?_ _)); refine blk_far ?_ NB258_257.out _; (with_reducible repeat (first | refine blk_drewN ?_ _ | refine blk_drew ?_ | refine blk_alloc ?_ _)); refine blk_put (cs := #[.int .i64 1, .int .i64 0, .int .i64 0, .int .i64 0, .int .i64 t255, .int .i64 t254, .int .i64 0]) ?_ 3 _ rfl; (with_reducible repeat (first | refine blk_drewN ?_ _ | refine blk_drew ?_ | refine blk_alloc ?_ _)); refine blk_far ?_ NB258_257.out _; (with_reducible repeat (first | refine blk_drewN ?_ _ | refine blk_drew ?_ | refine blk_alloc ?_ _)); exact BK258.out⟩, ⟨by repeat (first | (with_reducible first | exact HK.out | apply Kept.alloc | apply Kept.drewN | apply Kept.drew | refine Kept.setCell ?_ (.inr GW252.out) _ | refine Kept.setCell ?_ (.inr GW253.out) _ | refine Kept.setCell ?_ (.inr GW257.out) _ | refine Kept.setCell ?_ (.inr GW258.out) _) | exact HK.out)⟩, ⟨bel⟩⟩
      rw [if_neg cw1] at H
      have cw1b : (t259 == 1) = false := beq_eq_false_iff_ne.mpr cw1
      have cw1e : (t259 != 1) = true := bne_iff_ne.mpr cw1
      clear cw1
      by_cases cw2 : t259 = 2
      · rw [if_pos cw2] at H
        have cw2b := (beq_iff_eq (a := t259) (b := 2)).mpr cw2
        have cw2e : (t259 != 2) = false := bne_eq_false_iff_eq.mpr cw2
        clear cw2
        have HF_ := Aside0.mk H
        clear H
        go_wp2
        go_meet
        case rel =>
          exact ⟨1, 0, 1, 0, t254, t255, a0_1, 1, 0, 1, 0, t255, t254, a0_1, HF_, ⟨by (with_reducible repeat (first | apply Kd.R_alloc | apply Kd.R_drewN | apply Kd.R_drew)); exact Kd.R_mono (Kd.R_far (p := ⟨gb258, 6, none⟩) (Kd.R_far (p := ⟨gb257, 6, none⟩) (Kd.R_far (p := ⟨gb258, 2, none⟩) (Kd.R_far (p := ⟨gb257, 2, none⟩) (Kd.R_mono (Kd.R_mono HO1.out (fun k_ hk => (⟨hk, hk.1.2⟩ : _ ∧ k_ ≠ gb257))) (fun k_ hk => (⟨hk, hk.1.2⟩ : _ ∧ k_ ≠ gb258))) (fun _ hk => hk.1.2) (.int .i64 1)) (fun _ hk => hk.2) (.int .i64 1)) (fun _ hk => hk.1.2) (.int .i64 a0_1)) (fun _ hk => hk.2) (.int .i64 a0_1)) (fun _ hk => ⟨hk.1.1.1.1, ⟨hk.1.1.1.2, hk.1.1.2⟩⟩)⟩, ⟨bk BK252.out⟩, ⟨bk BK253.out⟩, ⟨by (with_reducible repeat (first | refine blk_drewN ?_ _ | refine blk_drew ?_ | refine blk_alloc ?_ _)); refine blk_far ?_ NB257_258.out _; (with_reducible repeat (first | refine blk_drewN ?_ _ | refine blk_drew ?_ | refine blk_alloc ?_ _)); refine blk_put (cs := #[.int .i64 1, .int .i64 0, .int .i64 1, .int .i64 0, .int .i64 t254, .int .i64 t255, .int .i64 0]) ?_ 6 _ rfl; (with_reducible repeat (first | refine blk_drewN ?_ _ | refine blk_drew ?_ | refine blk_alloc ?_ _)); refine blk_far ?_ NB257_258.out _; (with_reducible repeat (first | refine blk_drewN ?_ _ | refine blk_drew ?_ | refine blk_alloc ?_ _)); refine blk_put (cs := #[.int .i64 1, .int .i64 0, .int .i64 0, .int .i64 0, .int .i64 t254, .int .i64 t255, .int .i64 0]) ?_ 2 _ rfl; (with_reducible repeat (first | refine blk_drewN ?_ _ | refine blk_drew ?_ | refine blk_alloc ?_ _)); exact BK257.out⟩, ⟨by (with_reducible repeat (first | refine blk_drewN ?_ _ | refine blk_drew ?_ | refine blk_alloc ?_ _)); refine blk_put (cs := #[.int .i64 1, .int .i64 0, .int .i64 1, .int .i64 0, .int .i64 t255, .int .i64 t254, .int .i64 0]) ?_ 6 _ rfl; (with_reducible repeat (first | refine blk_drewN ?_ _ | refine blk_drew ?_ | refine blk_alloc ?_ _)); refine blk_far ?_ NB258_257.out _; (with_reducible repeat (first | refine blk_drewN ?_ _ | refine blk_drew ?_ | refine blk_alloc ?_ _)); refine blk_put (cs := #[.int .i64 1, .int .i64 0, .int .i64 0, .int .i64 0, .int .i64 t255, .int .i64 t254, .int .i64 0]) ?_ 2 _ rfl; (with_reducible repeat (first | refine blk_drewN ?_ _ | refine blk_drew ?_ | refine blk_alloc ?_ _)); refine blk_far ?_ NB258_257.out _; (with_reducible repeat (first | refine blk_drewN ?_ _ | refine blk_drew ?_ | refine blk_alloc ?_ _)); exact BK258.out⟩, ⟨by repeat (first | (with_reducible first | exact HK.out | apply Kept.alloc | apply Kept.drewN | apply Kept.drew | refine Kept.setCell ?_ (.inr GW252.out) _ | refine Kept.setCell ?_ (.inr GW253.out) _ | refine Kept.setCell ?_ (.inr GW257.out) _ | refine Kept.setCell ?_ (.inr GW258.out) _) | exact HK.out)⟩, ⟨bel⟩⟩
      rw [if_neg cw2] at H
      have cw2b : (t259 == 2) = false := beq_eq_false_iff_ne.mpr cw2
      have cw2e : (t259 != 2) = true := bne_iff_ne.mpr cw2
      clear cw2
      by_cases cw3 : t259 = 3
      · rw [if_pos cw3] at H
        have cw3b := (beq_iff_eq (a := t259) (b := 3)).mpr cw3
        have cw3e : (t259 != 3) = false := bne_eq_false_iff_eq.mpr cw3
        clear cw3
        have HF_ := Aside0.mk H
        clear H
        go_wp2
        go_meet
        case rel =>
          exact ⟨1, 0, 0, 1, t254, t255, a0_2, 1, 1, 0, 0, t255, t254, a0_0, HF_, ⟨by (with_reducible repeat (first | apply Kd.R_alloc | apply Kd.R_drewN | apply Kd.R_drew)); exact Kd.R_mono (Kd.R_far (p := ⟨gb258, 6, none⟩) (Kd.R_far (p := ⟨gb257, 6, none⟩) (Kd.R_far (p := ⟨gb258, 1, none⟩) (Kd.R_far (p := ⟨gb257, 3, none⟩) (Kd.R_mono (Kd.R_mono HO1.out (fun k_ hk => (⟨hk, hk.1.2⟩ : _ ∧ k_ ≠ gb257))) (fun k_ hk => (⟨hk, hk.1.2⟩ : _ ∧ k_ ≠ gb258))) (fun _ hk => hk.1.2) (.int .i64 1)) (fun _ hk => hk.2) (.int .i64 1)) (fun _ hk => hk.1.2) (.int .i64 a0_2)) (fun _ hk => hk.2) (.int .i64 a0_0)) (fun _ hk => ⟨hk.1.1.1.1, ⟨hk.1.1.1.2, hk.1.1.2⟩⟩)⟩, ⟨bk BK252.out⟩, ⟨bk BK253.out⟩, ⟨by (with_reducible repeat (first | refine blk_drewN ?_ _ | refine blk_drew ?_ | refine blk_alloc ?_ _)); refine blk_far ?_ NB257_258.out _; (with_reducible repeat (first | refine blk_drewN ?_ _ | refine blk_drew ?_ | refine blk_alloc ?_ _)); refine blk_put (cs := #[.int .i64 1, .int .i64 0, .int .i64 0, .int .i64 1, .int .i64 t254, .int .i64 t255, .int .i64 0]) ?_ 6 _ rfl; (with_reducible repeat (first | refine blk_drewN ?_ _ | refine blk_drew ?_ | refine blk_alloc ?_ _)); refine blk_far ?_ NB257_258.out _; (with_reducible repeat (first | refine blk_drewN ?_ _ | refine blk_drew ?_ | refine blk_alloc ?_ _)); refine blk_put (cs := #[.int .i64 1, .int .i64 0, .int .i64 0, .int .i64 0, .int .i64 t254, .int .i64 t255, .int .i64 0]) ?_ 3 _ rfl; (with_reducible repeat (first | refine blk_drewN ?_ _ | refine blk_drew ?_ | refine blk_alloc ?_ _)); exact BK257.out⟩, ⟨by (with_reducible repeat (first | refine blk_drewN ?_ _ | refine blk_drew ?_ | refine blk_alloc ?_ _)); refine blk_put (cs := #[.int .i64 1, .int .i64 1, .int .i64 0, .int .i64 0, .int .i64 t255, .int .i64 t254, .int .i64 0]) ?_ 6 _ rfl; (with_reducible repeat (first | refine blk_drewN ?_ _ | refine blk_drew ?_ | refine blk_alloc ?_ _)); refine blk_far ?_ NB258_257.out _; (with_reducible repeat (first | refine blk_drewN ?_ _ | refine blk_drew ?_ | refine blk_alloc ?_ _)); refine blk_put (cs := #[.int .i64 1, .int .i64 0, .int .i64 0, .int .i64 0, .int .i64 t255, .int .i64 t254, .int .i64 0]) ?_ 1 _ rfl; (with_reducible repeat (first | refine blk_drewN ?_ _ | refine blk_drew ?_ | refine blk_alloc ?_ _)); refine blk_far ?_ NB258_257.out _; (with_reducible repeat (first | refine blk_drewN ?_ _ | refine blk_drew ?_ | refine blk_alloc ?_ _)); exact BK258.out⟩, ⟨by repeat (first | (with_reducible first | exact HK.out | apply Kept.alloc | apply Kept.drewN | apply Kept.drew | refine Kept.setCell ?_ (.inr GW252.out) _ | refine Kept.setCell ?_ (.inr GW253.out) _ | refine Kept.setCell ?_ (.inr GW257.out) _ | refine Kept.setCell ?_ (.inr GW258.out) _) | exact HK.out)⟩, ⟨bel⟩⟩
      rw [if_neg cw3] at H
      have cw3b : (t259 == 3) = false := beq_eq_false_iff_ne.mpr cw3
      have cw3e : (t259 != 3) = true := bne_iff_ne.mpr cw3
      clear cw3
      have HF_ := Aside0.mk H
      clear H
      go_wp2
      go_meet
      case rel =>
        exact ⟨1, 0, 0, 0, t254, t255, 0, 1, 0, 0, 0, t255, t254, 0, HF_, (by first | exact ⟨rk HO1.out⟩ | exact ⟨Kd.R_mono (rk HO1.out) (fun _ hk => ⟨hk.1.1, hk.1.2, hk.2⟩)⟩), ⟨bk BK252.out⟩, ⟨bk BK253.out⟩, ⟨bk BK257.out⟩, ⟨bk BK258.out⟩, ⟨by repeat (first | (with_reducible first | exact HK.out | apply Kept.alloc | apply Kept.drewN | apply Kept.drew | refine Kept.setCell ?_ (.inr GW252.out) _ | refine Kept.setCell ?_ (.inr GW253.out) _ | refine Kept.setCell ?_ (.inr GW257.out) _ | refine Kept.setCell ?_ (.inr GW258.out) _) | exact HK.out)⟩, ⟨bel⟩⟩
    case rest =>
      (try clear HC_)
      (try clear HC_)
      obtain ⟨p0, p1, p2, p3, p4, p5, p6, q0, q1, q2, q3, q4, q5, q6, HF_, HO1_, BK252_, BK253_, BK257_, BK258_, HK_, HB_⟩ := hcut
      (try clear HO1)
      have HO1 := HO1_
      clear HO1_
      (try clear BK252)
      have BK252 := BK252_
      clear BK252_
      (try clear BK253)
      have BK253 := BK253_
      clear BK253_
      (try clear BK257)
      have BK257 := BK257_
      clear BK257_
      (try clear BK258)
      have BK258 := BK258_
      clear BK258_
      (try clear HK)
      have HK := HK_
      clear HK_
      (try clear HB)
      have HB := HB_
      clear HB_
      go_wp2
      have H := HF_.out
      clear HF_
      unfold spec_l06Add.fin at H
      by_cases c8 : 0 ≤ a2_0
      · rw [if_pos c8] at H
        have c8b0 : decide (0 ≤ a2_0) = true := decide_eq_true c8
        clear c8
        by_cases c9 : a2_0 < (l1.length : Int)
        · rw [if_pos c9] at H
          have c9b0 : decide (a2_0 < (l1.length : Int)) = true := decide_eq_true c9
          clear c9
          replace H := Option.bind_eq_some_iff.mp H
          obtain ⟨⟨t261, t262, t263, t264, t265, t266, t267⟩, A100, H⟩ := H
          replace H : ((some (l1.set (a2_0 : Int).toNat (⟨t261, t262, t263, t264, t265, t266, t267⟩ : S129) : List (S129))).bind fun y268 => (if 0 ≤ a2_1 then (if a2_1 < (l1.length : Int) then ((spec_AddRows.f ((rd_T129 y268 a2_1).f0) ((rd_T129 y268 a2_1).f1) ((rd_T129 y268 a2_1).f2) ((rd_T129 y268 a2_1).f3) ((rd_T129 y268 a2_1).f4) ((rd_T129 y268 a2_1).f5) ((rd_T129 y268 a2_1).f6) q0 q1 q2 q3 q4 q5 q6).bind fun bt270 => (some (y268.set (a2_1 : Int).toNat (⟨bt270.1, bt270.2.1, bt270.2.2.1, bt270.2.2.2.1, bt270.2.2.2.2.1, bt270.2.2.2.2.2.1, bt270.2.2.2.2.2.2⟩ : S129)))) else (none)) else (none))) = some r := H
          have A10 := am A100
          clear A100
          obtain ⟨y268, hy268⟩ : ∃ y_ : List (S129), y_ = (l1.set (a2_0 : Int).toNat (⟨t261, t262, t263, t264, t265, t266, t267⟩ : S129)) := ⟨_, rfl⟩
          replace H : (if 0 ≤ a2_1 then (if a2_1 < (l1.length : Int) then ((spec_AddRows.f ((rd_T129 y268 a2_1).f0) ((rd_T129 y268 a2_1).f1) ((rd_T129 y268 a2_1).f2) ((rd_T129 y268 a2_1).f3) ((rd_T129 y268 a2_1).f4) ((rd_T129 y268 a2_1).f5) ((rd_T129 y268 a2_1).f6) q0 q1 q2 q3 q4 q5 q6).bind fun bt270 => (some (y268.set (a2_1 : Int).toNat (⟨bt270.1, bt270.2.1, bt270.2.2.1, bt270.2.2.2.1, bt270.2.2.2.2.1, bt270.2.2.2.2.2.1, bt270.2.2.2.2.2.2⟩ : S129)))) else (none)) else (none)) = some r := by first | (rw [hy268]; with_reducible exact H) | (have H2_ := (Option.bind_some _ _).symm.trans H; rw [hy268]; with_reducible exact H2_) | (have H2_ := (Option.bind_some _ _).symm.trans H; with_reducible exact H2_) | with_reducible exact H | (rw [hy268]; exact H) | exact H
          have Ny268 := am hy268
          clear hy268
          by_cases c12 : 0 ≤ a2_1
          · rw [if_pos c12] at H
            have c12b0 : decide (0 ≤ a2_1) = true := decide_eq_true c12
            clear c12
            by_cases c13 : a2_1 < (l1.length : Int)
            · rw [if_pos c13] at H
              have c13b0 : decide (a2_1 < (l1.length : Int)) = true := decide_eq_true c13
              clear c13
              replace H := Option.bind_eq_some_iff.mp H
              obtain ⟨⟨t270, t271, t272, t273, t274, t275, t276⟩, A140, H⟩ := H
              replace H : (some (y268.set (a2_1 : Int).toNat (⟨t270, t271, t272, t273, t274, t275, t276⟩ : S129))) = some r := H
              have A14 := am A140
              clear A140
              obtain ⟨y277, hy277⟩ : ∃ y_ : List (S129), y_ = (y268.set (a2_1 : Int).toNat (⟨t270, t271, t272, t273, t274, t275, t276⟩ : S129)) := ⟨_, rfl⟩
              replace H : (some y277) = some r := by first | (rw [hy277]; with_reducible exact H) | (have H2_ := (Option.bind_some _ _).symm.trans H; rw [hy277]; with_reducible exact H2_) | (have H2_ := (Option.bind_some _ _).symm.trans H; with_reducible exact H2_) | with_reducible exact H | (rw [hy277]; exact H) | exact H
              have Ny277 := am hy277
              clear hy277
              obtain rfl := Option.some.inj H
              replace HO1 := rd1 HO1
              replace BK252 := am (blk_drew BK252.out)
              replace BK253 := am (blk_drew BK253.out)
              replace BK257 := am (blk_drew BK257.out)
              replace BK258 := am (blk_drew BK258.out)
              replace HK := am (Kept.drew HK.out)
              replace HB := am (below_drew1 HB.out)
              obtain ⟨Ao37, co37, eo37⟩ := Kd.R_slice HO1.out
              (first | subst eo37 | (injection eo37 with f1_ f2_ f3_; have f4_ := f1_.symm; have f5_ := f3_.symm; clear f1_ f2_ f3_; subst f4_; subst f5_))
              have p260 : 0 ≤ (a2_0 : Int) := asm
              have q260 : a2_0 < (l1.length : Int) := asm
              obtain ⟨ad260, e260, hx260_0, hx260_1, hx260_2, hx260_3, hx260_4, hx260_5, hx260_6⟩ := at_T129 (Kd.R_reads' HO1.out).2.2 a2_0 p260 q260
              cases e260
              replace p260 := eq_true p260
              replace q260 := eq_true q260
              refine start_ (n := 12) (S := fun w' => w'.cell? ⟨gb253, 0, none⟩ = some (.int .i64 a2_0) ∧ w'.cell? ⟨gb253, 1, none⟩ = some (.int .i64 a2_1) ∧ w'.cell? ⟨gb253, 2, none⟩ = some (.int .i64 a2_2) ∧ w'.cell? ⟨gb253, 3, none⟩ = some (.int .i64 a2_3) ∧ w'.cell? ⟨gb253, 4, none⟩ = some (.int .i64 a2_4) ∧ w'.cell? ⟨gb257, 0, none⟩ = some (.int .i64 p0) ∧ w'.cell? ⟨gb257, 1, none⟩ = some (.int .i64 p1) ∧ w'.cell? ⟨gb257, 2, none⟩ = some (.int .i64 p2) ∧ w'.cell? ⟨gb257, 3, none⟩ = some (.int .i64 p3) ∧ w'.cell? ⟨gb257, 4, none⟩ = some (.int .i64 p4) ∧ w'.cell? ⟨gb257, 5, none⟩ = some (.int .i64 p5) ∧ w'.cell? ⟨gb257, 6, none⟩ = some (.int .i64 p6) ∧ w'.cell? (ad260.add ((a2_0).toNat * 7)) = some (.int .i64 ((rd_T129 l1 a2_0).f0)) ∧ w'.cell? ⟨(ad260.add ((a2_0).toNat * 7)).block, (ad260.add ((a2_0).toNat * 7)).off + 1, none⟩ = some (.int .i64 ((rd_T129 l1 a2_0).f1)) ∧ w'.cell? ⟨(ad260.add ((a2_0).toNat * 7)).block, (ad260.add ((a2_0).toNat * 7)).off + 2, none⟩ = some (.int .i64 ((rd_T129 l1 a2_0).f2)) ∧ w'.cell? ⟨(ad260.add ((a2_0).toNat * 7)).block, (ad260.add ((a2_0).toNat * 7)).off + 3, none⟩ = some (.int .i64 ((rd_T129 l1 a2_0).f3)) ∧ w'.cell? ⟨(ad260.add ((a2_0).toNat * 7)).block, (ad260.add ((a2_0).toNat * 7)).off + 4, none⟩ = some (.int .i64 ((rd_T129 l1 a2_0).f4)) ∧ w'.cell? ⟨(ad260.add ((a2_0).toNat * 7)).block, (ad260.add ((a2_0).toNat * 7)).off + 5, none⟩ = some (.int .i64 ((rd_T129 l1 a2_0).f5)) ∧ w'.cell? ⟨(ad260.add ((a2_0).toNat * 7)).block, (ad260.add ((a2_0).toNat * 7)).off + 6, none⟩ = some (.int .i64 ((rd_T129 l1 a2_0).f6))) (ds := [11]) #[false, false, false, false, false, false, false, false, false, false, false, false] (by kernel_rfl) rfl rfl ⟨(blk_cell BK253.out 0).trans rfl, (blk_cell BK253.out 1).trans rfl, (blk_cell BK253.out 2).trans rfl, (blk_cell BK253.out 3).trans rfl, (blk_cell BK253.out 4).trans rfl, (blk_cell BK257.out 0).trans rfl, (blk_cell BK257.out 1).trans rfl, (blk_cell BK257.out 2).trans rfl, (blk_cell BK257.out 3).trans rfl, (blk_cell BK257.out 4).trans rfl, (blk_cell BK257.out 5).trans rfl, (blk_cell BK257.out 6).trans rfl, hx260_0, hx260_1, hx260_2, hx260_3, hx260_4, hx260_5, hx260_6⟩ (fun hHeld => ?_); refine with_tabW spec_l06Add.tab21 spec_l06Add.bits21 (fun HT_ HW_ => ?_)
              generalize wc.drew = w36 at HO1 BK252 BK253 BK257 BK258 HK HB hx260_0 hx260_1 hx260_2 hx260_3 hx260_4 hx260_5 hx260_6 hHeld ⊢
              refine pure_ (i := 0) (N := some 57) (v := ?_) (a' := ?_) #[true, false, false, false, false, false, false, false, false, false, false, false] rfl rfl (any_of HT_.out (by kernel_rfl)) (fun _ _ _ h => h) (Or.inl ⟨by rfl, ?_⟩) ?_ ?_
              rotate_left
              · intro w'
                go_simp
                with_reducible rfl
              rotate_left
              · simp only [Act.put, List.setIfInBounds_toArray, List.set_cons_zero, List.set_cons_succ, i64_w, i32_w]
                rfl
              refine pure_ (i := 1) (N := some 58) (v := ?_) (a' := ?_) #[true, true, false, false, false, false, false, false, false, false, false, false] rfl rfl (any_of HT_.out (by kernel_rfl)) (fun _ _ _ h => h) (Or.inl ⟨by rfl, ?_⟩) ?_ ?_
              rotate_left
              · intro w'
                go_simp
                with_reducible rfl
              rotate_left
              · simp only [Act.put, List.setIfInBounds_toArray, List.set_cons_zero, List.set_cons_succ, i64_w, i32_w]
                rfl
              refine pure_ (i := 3) (N := some 60) (v := ?_) (a' := ?_) #[true, true, false, true, false, false, false, false, false, false, false, false] rfl rfl (any_of HT_.out (by kernel_rfl)) (fun _ _ _ h => h) (Or.inl ⟨by rfl, ?_⟩) ?_ ?_
              rotate_left
              · intro w'
                go_simp
                with_reducible rfl
              rotate_left
              · simp only [Act.put, List.setIfInBounds_toArray, List.set_cons_zero, List.set_cons_succ, i64_w, i32_w]
                rfl
              refine pure_ (i := 4) (N := some 61) (v := ?_) (a' := ?_) #[true, true, false, true, true, false, false, false, false, false, false, false] rfl rfl (any_of HT_.out (by kernel_rfl)) (fun _ _ _ h => h) (Or.inl ⟨by rfl, ?_⟩) ?_ ?_
              rotate_left
              · intro w'
                go_simp
                with_reducible rfl
              rotate_left
              · simp only [Act.put, List.setIfInBounds_toArray, List.set_cons_zero, List.set_cons_succ, i64_w, i32_w]
                rfl
              refine take_ (i := 2) (N := some 59) (v := ?_) (a' := ?_) #[true, true, true, true, true, false, false, false, false, false, false, false] rfl rfl (take_ofW HT_.out HW_.out (by kernel_rfl)) (fun _ _ _ h => h) (Or.inl ⟨by rfl, ?_⟩) hHeld ?_ ?_
              rotate_left
              · rintro w' ⟨s0, s1, s2, s3, s4, s5, s6, s7, s8, s9, s10, s11, s12, s13, s14, s15, s16, s17, s18⟩
                go_simp
                with_reducible rfl
              rotate_left
              · simp only [Act.put, List.setIfInBounds_toArray, List.set_cons_zero, List.set_cons_succ, i64_w, i32_w]
                rfl
              refine take_ (i := 5) (N := some 62) (v := ?_) (a' := ?_) #[true, true, true, true, true, true, false, false, false, false, false, false] rfl rfl (take_ofW HT_.out HW_.out (by kernel_rfl)) (fun _ _ _ h => h) (Or.inl ⟨by rfl, ?_⟩) hHeld ?_ ?_
              rotate_left
              · rintro w' ⟨s0, s1, s2, s3, s4, s5, s6, s7, s8, s9, s10, s11, s12, s13, s14, s15, s16, s17, s18⟩
                go_simp
                with_reducible rfl
              rotate_left
              · simp only [Act.put, List.setIfInBounds_toArray, List.set_cons_zero, List.set_cons_succ, i64_w, i32_w]
                rfl
              refine pure_ (i := 6) (N := some 63) (v := ?_) (a' := ?_) #[true, true, true, true, true, true, true, false, false, false, false, false] rfl rfl (any_of HT_.out (by kernel_rfl)) (fun _ _ _ h => h) (Or.inl ⟨by rfl, ?_⟩) ?_ ?_
              rotate_left
              · intro w'
                go_simp
                with_reducible rfl
              rotate_left
              · simp only [Act.put, List.setIfInBounds_toArray, List.set_cons_zero, List.set_cons_succ, i64_w, i32_w]
                rfl
              refine take_ (i := 7) (N := some 64) (v := ?_) (a' := ?_) #[true, true, true, true, true, true, true, true, false, false, false, false] rfl rfl (take_ofW HT_.out HW_.out (by kernel_rfl)) (fun _ _ _ h => h) (Or.inl ⟨by rfl, ?_⟩) hHeld ?_ ?_
              rotate_left
              · rintro w' ⟨s0, s1, s2, s3, s4, s5, s6, s7, s8, s9, s10, s11, s12, s13, s14, s15, s16, s17, s18⟩
                go_simp
                with_reducible rfl
              rotate_left
              · simp only [Act.put, List.setIfInBounds_toArray, List.set_cons_zero, List.set_cons_succ, i64_w, i32_w]
                rfl
              refine take_ (i := 8) (N := some 65) (v := ?_) (a' := ?_) #[true, true, true, true, true, true, true, true, true, false, false, false] rfl rfl (take_ofW HT_.out HW_.out (by kernel_rfl)) (fun _ _ _ h => h) (Or.inl ⟨by rfl, ?_⟩) hHeld ?_ ?_
              rotate_left
              · rintro w' ⟨s0, s1, s2, s3, s4, s5, s6, s7, s8, s9, s10, s11, s12, s13, s14, s15, s16, s17, s18⟩
                go_simp
                with_reducible rfl
              rotate_left
              · simp only [Act.put, List.setIfInBounds_toArray, List.set_cons_zero, List.set_cons_succ, i64_w, i32_w]
                rfl
              refine one_ (i := 9) (N := some 66) #[true, true, true, true, true, true, true, true, true, true, false, false] rfl rfl (one_of HT_.out (by kernel_rfl)) (by decide) (fun K hK => ?_)
              refine goes_ Try.func151 (by kernel_rfl) rfl #[.agg #[.int .i64 ((rd_T129 l1 a2_0).f0), .int .i64 ((rd_T129 l1 a2_0).f1), .int .i64 ((rd_T129 l1 a2_0).f2), .int .i64 ((rd_T129 l1 a2_0).f3), .int .i64 ((rd_T129 l1 a2_0).f4), .int .i64 ((rd_T129 l1 a2_0).f5), .int .i64 ((rd_T129 l1 a2_0).f6)], .agg #[.int .i64 p0, .int .i64 p1, .int .i64 p2, .int .i64 p3, .int .i64 p4, .int .i64 p5, .int .i64 p6]] (by rfl) rfl rfl ga ?_
              with_reducible refine (spec_AddRows.calls ((rd_T129 l1 a2_0).f0) ((rd_T129 l1 a2_0).f1) ((rd_T129 l1 a2_0).f2) ((rd_T129 l1 a2_0).f3) ((rd_T129 l1 a2_0).f4) ((rd_T129 l1 a2_0).f5) ((rd_T129 l1 a2_0).f6) p0 p1 p2 p3 p4 p5 p6 t261 t262 t263 t264 t265 t266 t267 _ A10.out).mono ?_
              rintro e w38 ⟨rfl, hb⟩
              have HS12_ := (hb.cell (World.block_lt_of_cell? _ _ (hHeld.2.2.2.2.2.2.2.2.2.2.2.2.1))).trans (hHeld.2.2.2.2.2.2.2.2.2.2.2.2.1)
              have HS13_ := (hb.cell (World.block_lt_of_cell? _ _ (hHeld.2.2.2.2.2.2.2.2.2.2.2.2.2.1))).trans (hHeld.2.2.2.2.2.2.2.2.2.2.2.2.2.1)
              have HS14_ := (hb.cell (World.block_lt_of_cell? _ _ (hHeld.2.2.2.2.2.2.2.2.2.2.2.2.2.2.1))).trans (hHeld.2.2.2.2.2.2.2.2.2.2.2.2.2.2.1)
              have HS15_ := (hb.cell (World.block_lt_of_cell? _ _ (hHeld.2.2.2.2.2.2.2.2.2.2.2.2.2.2.2.1))).trans (hHeld.2.2.2.2.2.2.2.2.2.2.2.2.2.2.2.1)
              have HS16_ := (hb.cell (World.block_lt_of_cell? _ _ (hHeld.2.2.2.2.2.2.2.2.2.2.2.2.2.2.2.2.1))).trans (hHeld.2.2.2.2.2.2.2.2.2.2.2.2.2.2.2.2.1)
              have HS17_ := (hb.cell (World.block_lt_of_cell? _ _ (hHeld.2.2.2.2.2.2.2.2.2.2.2.2.2.2.2.2.2.1))).trans (hHeld.2.2.2.2.2.2.2.2.2.2.2.2.2.2.2.2.2.1)
              have HS18_ := (hb.cell (World.block_lt_of_cell? _ _ (hHeld.2.2.2.2.2.2.2.2.2.2.2.2.2.2.2.2.2.2))).trans (hHeld.2.2.2.2.2.2.2.2.2.2.2.2.2.2.2.2.2.2)
              refine ⟨_, rfl, ?_⟩
              replace HO1 := rb HO1 hb
              replace BK252 := am (bb BK252.out hb)
              replace BK253 := am (bb BK253.out hb)
              replace BK257 := am (bb BK257.out hb)
              replace BK258 := am (bb BK258.out hb)
              replace HK := am (Kept.below (S := (fun k_ => P1_ k_)) (by repeat (first | (with_reducible first | exact HK.out | apply Kept.alloc | apply Kept.drewN | apply Kept.drew | refine Kept.setCell ?_ (.inr GW252.out) _ | refine Kept.setCell ?_ (.inr GW253.out) _ | refine Kept.setCell ?_ (.inr GW257.out) _ | refine Kept.setCell ?_ (.inr GW258.out) _) | exact HK.out)) hb)
              replace HB := am (below_step bel hb)
              (try clear hb)
              (try clear hb2)
              (try clear hk)
              (try clear hi)
              have p11 : 0 ≤ (a2_0 : Int) := asm
              have q11 : (a2_0 : Int) < ((l1.length : Int) : Int) := asm
              obtain ⟨go11, co11, eo11, gb11, gl11, cl11, HG11⟩ := Kd.R_form HO1.out (by omega)
              (first | cases eo11 | (injection eo11 with ea_ en_ ec_; (first | subst ea_ | (injection ea_ with ea_; subst ea_)); subst ec_; clear en_))
              have GB11 := am gb11
              have GG11 := am HG11
              clear gb11 gl11 HG11
              have HMgo11 := am (show (P1_ go11 ∨ w.heap.size ≤ go11) from (HO1.out.1 _ rfl).1)
              (first | simp only [add_plain] at hx260_0 | skip)
              (first | simp only [add_plain] at hx260_1 | skip)
              (first | simp only [add_plain] at hx260_2 | skip)
              (first | simp only [add_plain] at hx260_3 | skip)
              (first | simp only [add_plain] at hx260_4 | skip)
              (first | simp only [add_plain] at hx260_5 | skip)
              (first | simp only [add_plain] at hx260_6 | skip)
              obtain ⟨ce11, hcl11, hM11, hcc11, hfr11⟩ := Kd.R_elem HO1.out z129 (a2_0 : Int) p11 q11
              obtain rfl := k129_openM hM11
              have hx11_0 : World.cell? _ ⟨go11, (a2_0 : Int).toNat * 7, none⟩ = some (.int .i64 ((rd_T129 l1 a2_0).f0)) := hcc11 0 _ rfl
              have hx11_1 : World.cell? _ ⟨go11, (a2_0 : Int).toNat * 7 + 1, none⟩ = some (.int .i64 ((rd_T129 l1 a2_0).f1)) := hcc11 1 _ rfl
              have hx11_2 : World.cell? _ ⟨go11, (a2_0 : Int).toNat * 7 + 2, none⟩ = some (.int .i64 ((rd_T129 l1 a2_0).f2)) := hcc11 2 _ rfl
              have hx11_3 : World.cell? _ ⟨go11, (a2_0 : Int).toNat * 7 + 3, none⟩ = some (.int .i64 ((rd_T129 l1 a2_0).f3)) := hcc11 3 _ rfl
              have hx11_4 : World.cell? _ ⟨go11, (a2_0 : Int).toNat * 7 + 4, none⟩ = some (.int .i64 ((rd_T129 l1 a2_0).f4)) := hcc11 4 _ rfl
              have hx11_5 : World.cell? _ ⟨go11, (a2_0 : Int).toNat * 7 + 5, none⟩ = some (.int .i64 ((rd_T129 l1 a2_0).f5)) := hcc11 5 _ rfl
              have hx11_6 : World.cell? _ ⟨go11, (a2_0 : Int).toNat * 7 + 6, none⟩ = some (.int .i64 ((rd_T129 l1 a2_0).f6)) := hcc11 6 _ rfl
              have hf11_0 : World.frozen? _ ⟨go11, (a2_0 : Int).toNat * 7, none⟩ = false := hfr11 0
              have hf11_1 : World.frozen? _ ⟨go11, (a2_0 : Int).toNat * 7 + 1, none⟩ = false := hfr11 1
              have hf11_2 : World.frozen? _ ⟨go11, (a2_0 : Int).toNat * 7 + 2, none⟩ = false := hfr11 2
              have hf11_3 : World.frozen? _ ⟨go11, (a2_0 : Int).toNat * 7 + 3, none⟩ = false := hfr11 3
              have hf11_4 : World.frozen? _ ⟨go11, (a2_0 : Int).toNat * 7 + 4, none⟩ = false := hfr11 4
              have hf11_5 : World.frozen? _ ⟨go11, (a2_0 : Int).toNat * 7 + 5, none⟩ = false := hfr11 5
              have hf11_6 : World.frozen? _ ⟨go11, (a2_0 : Int).toNat * 7 + 6, none⟩ = false := hfr11 6
              clear hcl11 hcc11 hfr11 hM11
              replace p11 := eq_true p11
              replace q11 := eq_true q11
              obtain ⟨ce39, hcl39, hM39, hcc39, hfr39⟩ := Kd.R_elem HO1.out z129 (a2_0 : Int) (asm) (by have h_ : (a2_0 : Int) < ((l1.length : Int) : Int) := asm; first | exact h_ | (have e_ := (Kd.R_reads' HO1.out).1; omega) | simpa using h_)
              obtain rfl := k129_openM hM39
              have HP39 := (Kd.R_seg HO1.out (a2_0 : Int) (asm) (by have h_ : (a2_0 : Int) < ((l1.length : Int) : Int) := asm; first | exact h_ | (have e_ := (Kd.R_reads' HO1.out).1; omega) | simpa using h_) (seg := [.int .i64 t261, .int .i64 t262, .int .i64 t263, .int .i64 t264, .int .i64 t265, .int .i64 t266, .int .i64 t267]) (j := 0) hcl39 hcc39 (show 7 ≤ 7 from by decide) (x' := (⟨t261, t262, t263, t264, t265, t266, t267⟩ : S129)) (k129_mkM _ _ _ (⟨t261, t262, t263, t264, t265, t266, t267⟩ : S129) ) (fun _ hk => hk)).1
              rw [← Ny268.out] at HP39
              have HQ39 := am HP39
              clear hcl39 hcc39 hfr39 hM39 HP39
              refine hK.out _ _ ⟨(blk_cell BK253.out 0).trans rfl, (blk_cell BK253.out 1).trans rfl, (blk_cell BK253.out 2).trans rfl, (blk_cell BK253.out 3).trans rfl, (blk_cell BK253.out 4).trans rfl, (blk_cell BK257.out 0).trans rfl, (blk_cell BK257.out 1).trans rfl, (blk_cell BK257.out 2).trans rfl, (blk_cell BK257.out 3).trans rfl, (blk_cell BK257.out 4).trans rfl, (blk_cell BK257.out 5).trans rfl, (blk_cell BK257.out 6).trans rfl, HS12_, HS13_, HS14_, HS15_, HS16_, HS17_, HS18_⟩ (fun hHeld => ?_)
              clear hK K
              refine norm_ (a' := ?_) ?_ ?_
              rotate_left
              · show Act.put _ (some 66) _ = _
                simp only [Act.put, List.setIfInBounds_toArray, List.set_cons_zero, List.set_cons_succ, i64_w, i32_w]
                rfl
              refine pure_ (i := 10) (N := some 67) (v := ?_) (a' := ?_) #[true, true, true, true, true, true, true, true, true, true, true, false] rfl rfl (any_of HT_.out (by kernel_rfl)) (fun _ _ _ h => h) (Or.inl ⟨by rfl, ?_⟩) ?_ ?_
              rotate_left
              · intro w'
                go_simp
                with_reducible rfl
              rotate_left
              · simp only [Act.put, List.setIfInBounds_toArray, List.set_cons_zero, List.set_cons_succ, i64_w, i32_w]
                rfl
              refine last_ (i := 11) (N := none) #[true, true, true, true, true, true, true, true, true, true, true, true] rfl rfl (one_of HT_.out (by kernel_rfl)) (by decide) (fun K hK => ?_)
              refine skip_ (w1 := ?_) (by rfl) rfl ?_ ?_
              rotate_left
              · go_simp
                rfl
              refine hK.out _ _ ?_
              clear hK K
              refine done_ (done_of HT_.out (by kernel_rfl)) ?_
              try go_wp2
              have n0_ : Aside0 (Kd.R k129 129 (((((((w38.setCell ⟨go11, (a2_0 : Int).toNat * 7, none⟩ (.int .i64 t261)).setCell ⟨go11, (a2_0 : Int).toNat * 7 + 1, none⟩ (.int .i64 t262)).setCell ⟨go11, (a2_0 : Int).toNat * 7 + 2, none⟩ (.int .i64 t263)).setCell ⟨go11, (a2_0 : Int).toNat * 7 + 3, none⟩ (.int .i64 t264)).setCell ⟨go11, (a2_0 : Int).toNat * 7 + 4, none⟩ (.int .i64 t265)).setCell ⟨go11, (a2_0 : Int).toNat * 7 + 5, none⟩ (.int .i64 t266)).setCell ⟨go11, (a2_0 : Int).toNat * 7 + 6, none⟩ (.int .i64 t267)) w0.heap.size (fun k_ => (P1_ k_ ∨ w.heap.size ≤ k_) ∧ k_ ≠ gb257 ∧ k_ ≠ gb258) (.slice (some ⟨go11, 0, none⟩) l1.length co37) y268) := ⟨by (with_reducible repeat (first | apply Kd.R_alloc | apply Kd.R_drewN | apply Kd.R_drew)); exact HQ39.out⟩
              have n1_ : Aside0 ((((((((w38.setCell ⟨go11, (a2_0 : Int).toNat * 7, none⟩ (.int .i64 t261)).setCell ⟨go11, (a2_0 : Int).toNat * 7 + 1, none⟩ (.int .i64 t262)).setCell ⟨go11, (a2_0 : Int).toNat * 7 + 2, none⟩ (.int .i64 t263)).setCell ⟨go11, (a2_0 : Int).toNat * 7 + 3, none⟩ (.int .i64 t264)).setCell ⟨go11, (a2_0 : Int).toNat * 7 + 4, none⟩ (.int .i64 t265)).setCell ⟨go11, (a2_0 : Int).toNat * 7 + 5, none⟩ (.int .i64 t266)).setCell ⟨go11, (a2_0 : Int).toNat * 7 + 6, none⟩ (.int .i64 t267)).heap[gb252]? = some (.cells #[.int .i64 a0_0, .int .i64 a0_1, .int .i64 a0_2, .slice A0_3 l0_3.length c0_3, .bool a0_4] 34 (0, 0))) := ⟨by (with_reducible repeat (first | refine blk_drewN ?_ _ | refine blk_drew ?_ | refine blk_alloc ?_ _)); refine blk_far ?_ (by have h_ := Kd.R_ne HO1.out BK252.out (by decide); intro e_; exact h_ (by rw [e_]; rfl)) _; (with_reducible repeat (first | refine blk_drewN ?_ _ | refine blk_drew ?_ | refine blk_alloc ?_ _)); refine blk_far ?_ (by have h_ := Kd.R_ne HO1.out BK252.out (by decide); intro e_; exact h_ (by rw [e_]; rfl)) _; (with_reducible repeat (first | refine blk_drewN ?_ _ | refine blk_drew ?_ | refine blk_alloc ?_ _)); refine blk_far ?_ (by have h_ := Kd.R_ne HO1.out BK252.out (by decide); intro e_; exact h_ (by rw [e_]; rfl)) _; (with_reducible repeat (first | refine blk_drewN ?_ _ | refine blk_drew ?_ | refine blk_alloc ?_ _)); refine blk_far ?_ (by have h_ := Kd.R_ne HO1.out BK252.out (by decide); intro e_; exact h_ (by rw [e_]; rfl)) _; (with_reducible repeat (first | refine blk_drewN ?_ _ | refine blk_drew ?_ | refine blk_alloc ?_ _)); refine blk_far ?_ (by have h_ := Kd.R_ne HO1.out BK252.out (by decide); intro e_; exact h_ (by rw [e_]; rfl)) _; (with_reducible repeat (first | refine blk_drewN ?_ _ | refine blk_drew ?_ | refine blk_alloc ?_ _)); refine blk_far ?_ (by have h_ := Kd.R_ne HO1.out BK252.out (by decide); intro e_; exact h_ (by rw [e_]; rfl)) _; (with_reducible repeat (first | refine blk_drewN ?_ _ | refine blk_drew ?_ | refine blk_alloc ?_ _)); refine blk_far ?_ (by have h_ := Kd.R_ne HO1.out BK252.out (by decide); intro e_; exact h_ (by rw [e_]; rfl)) _; (with_reducible repeat (first | refine blk_drewN ?_ _ | refine blk_drew ?_ | refine blk_alloc ?_ _)); exact BK252.out⟩
              have n2_ : Aside0 ((((((((w38.setCell ⟨go11, (a2_0 : Int).toNat * 7, none⟩ (.int .i64 t261)).setCell ⟨go11, (a2_0 : Int).toNat * 7 + 1, none⟩ (.int .i64 t262)).setCell ⟨go11, (a2_0 : Int).toNat * 7 + 2, none⟩ (.int .i64 t263)).setCell ⟨go11, (a2_0 : Int).toNat * 7 + 3, none⟩ (.int .i64 t264)).setCell ⟨go11, (a2_0 : Int).toNat * 7 + 4, none⟩ (.int .i64 t265)).setCell ⟨go11, (a2_0 : Int).toNat * 7 + 5, none⟩ (.int .i64 t266)).setCell ⟨go11, (a2_0 : Int).toNat * 7 + 6, none⟩ (.int .i64 t267)).heap[gb253]? = some (.cells #[.int .i64 a2_0, .int .i64 a2_1, .int .i64 a2_2, .int .i64 a2_3, .int .i64 a2_4] 71 (0, 0))) := ⟨by (with_reducible repeat (first | refine blk_drewN ?_ _ | refine blk_drew ?_ | refine blk_alloc ?_ _)); refine blk_far ?_ (by have h_ := Kd.R_ne HO1.out BK253.out (by decide); intro e_; exact h_ (by rw [e_]; rfl)) _; (with_reducible repeat (first | refine blk_drewN ?_ _ | refine blk_drew ?_ | refine blk_alloc ?_ _)); refine blk_far ?_ (by have h_ := Kd.R_ne HO1.out BK253.out (by decide); intro e_; exact h_ (by rw [e_]; rfl)) _; (with_reducible repeat (first | refine blk_drewN ?_ _ | refine blk_drew ?_ | refine blk_alloc ?_ _)); refine blk_far ?_ (by have h_ := Kd.R_ne HO1.out BK253.out (by decide); intro e_; exact h_ (by rw [e_]; rfl)) _; (with_reducible repeat (first | refine blk_drewN ?_ _ | refine blk_drew ?_ | refine blk_alloc ?_ _)); refine blk_far ?_ (by have h_ := Kd.R_ne HO1.out BK253.out (by decide); intro e_; exact h_ (by rw [e_]; rfl)) _; (with_reducible repeat (first | refine blk_drewN ?_ _ | refine blk_drew ?_ | refine blk_alloc ?_ _)); refine blk_far ?_ (by have h_ := Kd.R_ne HO1.out BK253.out (by decide); intro e_; exact h_ (by rw [e_]; rfl)) _; (with_reducible repeat (first | refine blk_drewN ?_ _ | refine blk_drew ?_ | refine blk_alloc ?_ _)); refine blk_far ?_ (by have h_ := Kd.R_ne HO1.out BK253.out (by decide); intro e_; exact h_ (by rw [e_]; rfl)) _; (with_reducible repeat (first | refine blk_drewN ?_ _ | refine blk_drew ?_ | refine blk_alloc ?_ _)); refine blk_far ?_ (by have h_ := Kd.R_ne HO1.out BK253.out (by decide); intro e_; exact h_ (by rw [e_]; rfl)) _; (with_reducible repeat (first | refine blk_drewN ?_ _ | refine blk_drew ?_ | refine blk_alloc ?_ _)); exact BK253.out⟩
              have n3_ : Aside0 ((((((((w38.setCell ⟨go11, (a2_0 : Int).toNat * 7, none⟩ (.int .i64 t261)).setCell ⟨go11, (a2_0 : Int).toNat * 7 + 1, none⟩ (.int .i64 t262)).setCell ⟨go11, (a2_0 : Int).toNat * 7 + 2, none⟩ (.int .i64 t263)).setCell ⟨go11, (a2_0 : Int).toNat * 7 + 3, none⟩ (.int .i64 t264)).setCell ⟨go11, (a2_0 : Int).toNat * 7 + 4, none⟩ (.int .i64 t265)).setCell ⟨go11, (a2_0 : Int).toNat * 7 + 5, none⟩ (.int .i64 t266)).setCell ⟨go11, (a2_0 : Int).toNat * 7 + 6, none⟩ (.int .i64 t267)).heap[gb257]? = some (.cells #[.int .i64 p0, .int .i64 p1, .int .i64 p2, .int .i64 p3, .int .i64 p4, .int .i64 p5, .int .i64 p6] 129 (0, 0))) := ⟨by (with_reducible repeat (first | refine blk_drewN ?_ _ | refine blk_drew ?_ | refine blk_alloc ?_ _)); refine blk_far ?_ (by have h_ := Kd.R_away HO1.out (fun _ hk => hk.2.1); intro e_; exact h_ (by rw [e_]; rfl)) _; (with_reducible repeat (first | refine blk_drewN ?_ _ | refine blk_drew ?_ | refine blk_alloc ?_ _)); refine blk_far ?_ (by have h_ := Kd.R_away HO1.out (fun _ hk => hk.2.1); intro e_; exact h_ (by rw [e_]; rfl)) _; (with_reducible repeat (first | refine blk_drewN ?_ _ | refine blk_drew ?_ | refine blk_alloc ?_ _)); refine blk_far ?_ (by have h_ := Kd.R_away HO1.out (fun _ hk => hk.2.1); intro e_; exact h_ (by rw [e_]; rfl)) _; (with_reducible repeat (first | refine blk_drewN ?_ _ | refine blk_drew ?_ | refine blk_alloc ?_ _)); refine blk_far ?_ (by have h_ := Kd.R_away HO1.out (fun _ hk => hk.2.1); intro e_; exact h_ (by rw [e_]; rfl)) _; (with_reducible repeat (first | refine blk_drewN ?_ _ | refine blk_drew ?_ | refine blk_alloc ?_ _)); refine blk_far ?_ (by have h_ := Kd.R_away HO1.out (fun _ hk => hk.2.1); intro e_; exact h_ (by rw [e_]; rfl)) _; (with_reducible repeat (first | refine blk_drewN ?_ _ | refine blk_drew ?_ | refine blk_alloc ?_ _)); refine blk_far ?_ (by have h_ := Kd.R_away HO1.out (fun _ hk => hk.2.1); intro e_; exact h_ (by rw [e_]; rfl)) _; (with_reducible repeat (first | refine blk_drewN ?_ _ | refine blk_drew ?_ | refine blk_alloc ?_ _)); refine blk_far ?_ (by have h_ := Kd.R_away HO1.out (fun _ hk => hk.2.1); intro e_; exact h_ (by rw [e_]; rfl)) _; (with_reducible repeat (first | refine blk_drewN ?_ _ | refine blk_drew ?_ | refine blk_alloc ?_ _)); exact BK257.out⟩
              have n4_ : Aside0 ((((((((w38.setCell ⟨go11, (a2_0 : Int).toNat * 7, none⟩ (.int .i64 t261)).setCell ⟨go11, (a2_0 : Int).toNat * 7 + 1, none⟩ (.int .i64 t262)).setCell ⟨go11, (a2_0 : Int).toNat * 7 + 2, none⟩ (.int .i64 t263)).setCell ⟨go11, (a2_0 : Int).toNat * 7 + 3, none⟩ (.int .i64 t264)).setCell ⟨go11, (a2_0 : Int).toNat * 7 + 4, none⟩ (.int .i64 t265)).setCell ⟨go11, (a2_0 : Int).toNat * 7 + 5, none⟩ (.int .i64 t266)).setCell ⟨go11, (a2_0 : Int).toNat * 7 + 6, none⟩ (.int .i64 t267)).heap[gb258]? = some (.cells #[.int .i64 q0, .int .i64 q1, .int .i64 q2, .int .i64 q3, .int .i64 q4, .int .i64 q5, .int .i64 q6] 129 (0, 0))) := ⟨by (with_reducible repeat (first | refine blk_drewN ?_ _ | refine blk_drew ?_ | refine blk_alloc ?_ _)); refine blk_far ?_ (by have h_ := Kd.R_away HO1.out (fun _ hk => hk.2.2); intro e_; exact h_ (by rw [e_]; rfl)) _; (with_reducible repeat (first | refine blk_drewN ?_ _ | refine blk_drew ?_ | refine blk_alloc ?_ _)); refine blk_far ?_ (by have h_ := Kd.R_away HO1.out (fun _ hk => hk.2.2); intro e_; exact h_ (by rw [e_]; rfl)) _; (with_reducible repeat (first | refine blk_drewN ?_ _ | refine blk_drew ?_ | refine blk_alloc ?_ _)); refine blk_far ?_ (by have h_ := Kd.R_away HO1.out (fun _ hk => hk.2.2); intro e_; exact h_ (by rw [e_]; rfl)) _; (with_reducible repeat (first | refine blk_drewN ?_ _ | refine blk_drew ?_ | refine blk_alloc ?_ _)); refine blk_far ?_ (by have h_ := Kd.R_away HO1.out (fun _ hk => hk.2.2); intro e_; exact h_ (by rw [e_]; rfl)) _; (with_reducible repeat (first | refine blk_drewN ?_ _ | refine blk_drew ?_ | refine blk_alloc ?_ _)); refine blk_far ?_ (by have h_ := Kd.R_away HO1.out (fun _ hk => hk.2.2); intro e_; exact h_ (by rw [e_]; rfl)) _; (with_reducible repeat (first | refine blk_drewN ?_ _ | refine blk_drew ?_ | refine blk_alloc ?_ _)); refine blk_far ?_ (by have h_ := Kd.R_away HO1.out (fun _ hk => hk.2.2); intro e_; exact h_ (by rw [e_]; rfl)) _; (with_reducible repeat (first | refine blk_drewN ?_ _ | refine blk_drew ?_ | refine blk_alloc ?_ _)); refine blk_far ?_ (by have h_ := Kd.R_away HO1.out (fun _ hk => hk.2.2); intro e_; exact h_ (by rw [e_]; rfl)) _; (with_reducible repeat (first | refine blk_drewN ?_ _ | refine blk_drew ?_ | refine blk_alloc ?_ _)); exact BK258.out⟩
              have n5_ : Aside0 (Kept w (((((((w38.setCell ⟨go11, (a2_0 : Int).toNat * 7, none⟩ (.int .i64 t261)).setCell ⟨go11, (a2_0 : Int).toNat * 7 + 1, none⟩ (.int .i64 t262)).setCell ⟨go11, (a2_0 : Int).toNat * 7 + 2, none⟩ (.int .i64 t263)).setCell ⟨go11, (a2_0 : Int).toNat * 7 + 3, none⟩ (.int .i64 t264)).setCell ⟨go11, (a2_0 : Int).toNat * 7 + 4, none⟩ (.int .i64 t265)).setCell ⟨go11, (a2_0 : Int).toNat * 7 + 5, none⟩ (.int .i64 t266)).setCell ⟨go11, (a2_0 : Int).toNat * 7 + 6, none⟩ (.int .i64 t267)) (fun k_ => P1_ k_)) := ⟨by repeat (first | (with_reducible first | exact HK.out | apply Kept.alloc | apply Kept.drewN | apply Kept.drew | refine Kept.setCell ?_ HMgo11.out _ | refine Kept.setCell ?_ HMgo11.out _ | refine Kept.setCell ?_ HMgo11.out _ | refine Kept.setCell ?_ HMgo11.out _ | refine Kept.setCell ?_ HMgo11.out _ | refine Kept.setCell ?_ HMgo11.out _ | refine Kept.setCell ?_ HMgo11.out _ | refine Kept.setCell ?_ (.inr GW252.out) _ | refine Kept.setCell ?_ (.inr GW253.out) _ | refine Kept.setCell ?_ (.inr GW257.out) _ | refine Kept.setCell ?_ (.inr GW258.out) _) | exact HK.out)⟩
              have n6_ : Aside0 (Below w0.heap.size w0 (((((((w38.setCell ⟨go11, (a2_0 : Int).toNat * 7, none⟩ (.int .i64 t261)).setCell ⟨go11, (a2_0 : Int).toNat * 7 + 1, none⟩ (.int .i64 t262)).setCell ⟨go11, (a2_0 : Int).toNat * 7 + 2, none⟩ (.int .i64 t263)).setCell ⟨go11, (a2_0 : Int).toNat * 7 + 3, none⟩ (.int .i64 t264)).setCell ⟨go11, (a2_0 : Int).toNat * 7 + 4, none⟩ (.int .i64 t265)).setCell ⟨go11, (a2_0 : Int).toNat * 7 + 5, none⟩ (.int .i64 t266)).setCell ⟨go11, (a2_0 : Int).toNat * 7 + 6, none⟩ (.int .i64 t267))) := ⟨by repeat (first | (with_reducible first | exact HB.out | apply below_alloc | apply pw_below_drewN | apply below_drew1 | refine below_set ?_ GB11.out | refine below_set ?_ GB11.out | refine below_set ?_ GB11.out | refine below_set ?_ GB11.out | refine below_set ?_ GB11.out | refine below_set ?_ GB11.out | refine below_set ?_ GB11.out | refine below_set ?_ GE252.out | refine below_set ?_ GE253.out | refine below_set ?_ GE257.out | refine below_set ?_ GE258.out) | exact HB.out)⟩
              (try clear HO1)
              (try clear BK252)
              (try clear BK253)
              (try clear BK257)
              (try clear BK258)
              (try clear HK)
              (try clear HB)
              generalize (((((((w38.setCell ⟨go11, (a2_0 : Int).toNat * 7, none⟩ (.int .i64 t261)).setCell ⟨go11, (a2_0 : Int).toNat * 7 + 1, none⟩ (.int .i64 t262)).setCell ⟨go11, (a2_0 : Int).toNat * 7 + 2, none⟩ (.int .i64 t263)).setCell ⟨go11, (a2_0 : Int).toNat * 7 + 3, none⟩ (.int .i64 t264)).setCell ⟨go11, (a2_0 : Int).toNat * 7 + 4, none⟩ (.int .i64 t265)).setCell ⟨go11, (a2_0 : Int).toNat * 7 + 5, none⟩ (.int .i64 t266)).setCell ⟨go11, (a2_0 : Int).toNat * 7 + 6, none⟩ (.int .i64 t267)) = w40 at n0_ n1_ n2_ n3_ n4_ n5_ n6_ ⊢
              have HO1 := n0_
              have BK252 := n1_
              have BK253 := n2_
              have BK257 := n3_
              have BK258 := n4_
              have HK := n5_
              have HB := n6_
              clear n0_ n1_ n2_ n3_ n4_ n5_ n6_
              replace HO1 := rd1 HO1
              replace BK252 := am (blk_drew BK252.out)
              replace BK253 := am (blk_drew BK253.out)
              replace BK257 := am (blk_drew BK257.out)
              replace BK258 := am (blk_drew BK258.out)
              replace HK := am (Kept.drew HK.out)
              replace HB := am (below_drew1 HB.out)
              have p269 : 0 ≤ (a2_1 : Int) := asm
              have q269 : a2_1 < (y268.length : Int) := (by have h_ : (a2_1 : Int) < ((l1.length : Int) : Int) := asm; first | (have e_ := (Kd.R_reads' HO1.out).1; omega) | simpa only [Ny268.out, List.length_set] using h_)
              have ql269 : ((a2_1 : Int) < ((l1.length : Int) : Int)) = True := eq_true (asm)
              obtain ⟨ad269, e269, hx269_0, hx269_1, hx269_2, hx269_3, hx269_4, hx269_5, hx269_6⟩ := at_T129 (Kd.R_reads' HO1.out).2.2 a2_1 p269 q269
              obtain rfl : (⟨go11, 0, none⟩ : Addr) = ad269 := (by injection e269)
              (first | simp only [add_plain] at hx269_0 | simp only [add_at] at hx269_0 | simp only [Addr.add, Nat.zero_add] at hx269_0 | skip)
              (first | simp only [add_plain] at hx269_1 | simp only [add_at] at hx269_1 | simp only [Addr.add, Nat.zero_add] at hx269_1 | skip)
              (first | simp only [add_plain] at hx269_2 | simp only [add_at] at hx269_2 | simp only [Addr.add, Nat.zero_add] at hx269_2 | skip)
              (first | simp only [add_plain] at hx269_3 | simp only [add_at] at hx269_3 | simp only [Addr.add, Nat.zero_add] at hx269_3 | skip)
              (first | simp only [add_plain] at hx269_4 | simp only [add_at] at hx269_4 | simp only [Addr.add, Nat.zero_add] at hx269_4 | skip)
              (first | simp only [add_plain] at hx269_5 | simp only [add_at] at hx269_5 | simp only [Addr.add, Nat.zero_add] at hx269_5 | skip)
              (first | simp only [add_plain] at hx269_6 | simp only [add_at] at hx269_6 | simp only [Addr.add, Nat.zero_add] at hx269_6 | skip)
              replace p269 := eq_true p269
              replace q269 := eq_true q269
              refine start_ (n := 12) (S := fun w' => w'.cell? ⟨gb253, 0, none⟩ = some (.int .i64 a2_0) ∧ w'.cell? ⟨gb253, 1, none⟩ = some (.int .i64 a2_1) ∧ w'.cell? ⟨gb253, 2, none⟩ = some (.int .i64 a2_2) ∧ w'.cell? ⟨gb253, 3, none⟩ = some (.int .i64 a2_3) ∧ w'.cell? ⟨gb253, 4, none⟩ = some (.int .i64 a2_4) ∧ w'.cell? ⟨gb258, 0, none⟩ = some (.int .i64 q0) ∧ w'.cell? ⟨gb258, 1, none⟩ = some (.int .i64 q1) ∧ w'.cell? ⟨gb258, 2, none⟩ = some (.int .i64 q2) ∧ w'.cell? ⟨gb258, 3, none⟩ = some (.int .i64 q3) ∧ w'.cell? ⟨gb258, 4, none⟩ = some (.int .i64 q4) ∧ w'.cell? ⟨gb258, 5, none⟩ = some (.int .i64 q5) ∧ w'.cell? ⟨gb258, 6, none⟩ = some (.int .i64 q6) ∧ w'.cell? ⟨go11, (a2_1).toNat * 7, none⟩ = some (.int .i64 ((rd_T129 y268 a2_1).f0)) ∧ w'.cell? ⟨go11, (a2_1).toNat * 7 + 1, none⟩ = some (.int .i64 ((rd_T129 y268 a2_1).f1)) ∧ w'.cell? ⟨go11, (a2_1).toNat * 7 + 2, none⟩ = some (.int .i64 ((rd_T129 y268 a2_1).f2)) ∧ w'.cell? ⟨go11, (a2_1).toNat * 7 + 3, none⟩ = some (.int .i64 ((rd_T129 y268 a2_1).f3)) ∧ w'.cell? ⟨go11, (a2_1).toNat * 7 + 4, none⟩ = some (.int .i64 ((rd_T129 y268 a2_1).f4)) ∧ w'.cell? ⟨go11, (a2_1).toNat * 7 + 5, none⟩ = some (.int .i64 ((rd_T129 y268 a2_1).f5)) ∧ w'.cell? ⟨go11, (a2_1).toNat * 7 + 6, none⟩ = some (.int .i64 ((rd_T129 y268 a2_1).f6))) (ds := [11]) #[false, false, false, false, false, false, false, false, false, false, false, false] (by kernel_rfl) rfl rfl ⟨(blk_cell BK253.out 0).trans rfl, (blk_cell BK253.out 1).trans rfl, (blk_cell BK253.out 2).trans rfl, (blk_cell BK253.out 3).trans rfl, (blk_cell BK253.out 4).trans rfl, (blk_cell BK258.out 0).trans rfl, (blk_cell BK258.out 1).trans rfl, (blk_cell BK258.out 2).trans rfl, (blk_cell BK258.out 3).trans rfl, (blk_cell BK258.out 4).trans rfl, (blk_cell BK258.out 5).trans rfl, (blk_cell BK258.out 6).trans rfl, hx269_0, hx269_1, hx269_2, hx269_3, hx269_4, hx269_5, hx269_6⟩ (fun hHeld => ?_); refine with_tabW spec_l06Add.tab22 spec_l06Add.bits22 (fun HT_ HW_ => ?_)
              generalize w40.drew = w41 at HO1 BK252 BK253 BK257 BK258 HK HB HQ39 hx269_0 hx269_1 hx269_2 hx269_3 hx269_4 hx269_5 hx269_6 hHeld ⊢
              refine pure_ (i := 0) (N := some 68) (v := ?_) (a' := ?_) #[true, false, false, false, false, false, false, false, false, false, false, false] rfl rfl (any_of HT_.out (by kernel_rfl)) (fun _ _ _ h => h) (Or.inl ⟨by rfl, ?_⟩) ?_ ?_
              rotate_left
              · intro w'
                go_simp
                with_reducible rfl
              rotate_left
              · simp only [Act.put, List.setIfInBounds_toArray, List.set_cons_zero, List.set_cons_succ, i64_w, i32_w]
                rfl
              refine pure_ (i := 1) (N := some 69) (v := ?_) (a' := ?_) #[true, true, false, false, false, false, false, false, false, false, false, false] rfl rfl (any_of HT_.out (by kernel_rfl)) (fun _ _ _ h => h) (Or.inl ⟨by rfl, ?_⟩) ?_ ?_
              rotate_left
              · intro w'
                go_simp
                with_reducible rfl
              rotate_left
              · simp only [Act.put, List.setIfInBounds_toArray, List.set_cons_zero, List.set_cons_succ, i64_w, i32_w]
                rfl
              refine pure_ (i := 3) (N := some 71) (v := ?_) (a' := ?_) #[true, true, false, true, false, false, false, false, false, false, false, false] rfl rfl (any_of HT_.out (by kernel_rfl)) (fun _ _ _ h => h) (Or.inl ⟨by rfl, ?_⟩) ?_ ?_
              rotate_left
              · intro w'
                go_simp
                with_reducible rfl
              rotate_left
              · simp only [Act.put, List.setIfInBounds_toArray, List.set_cons_zero, List.set_cons_succ, i64_w, i32_w]
                rfl
              refine pure_ (i := 4) (N := some 72) (v := ?_) (a' := ?_) #[true, true, false, true, true, false, false, false, false, false, false, false] rfl rfl (any_of HT_.out (by kernel_rfl)) (fun _ _ _ h => h) (Or.inl ⟨by rfl, ?_⟩) ?_ ?_
              rotate_left
              · intro w'
                go_simp
                with_reducible rfl
              rotate_left
              · simp only [Act.put, List.setIfInBounds_toArray, List.set_cons_zero, List.set_cons_succ, i64_w, i32_w]
                rfl
              refine take_ (i := 2) (N := some 70) (v := ?_) (a' := ?_) #[true, true, true, true, true, false, false, false, false, false, false, false] rfl rfl (take_ofW HT_.out HW_.out (by kernel_rfl)) (fun _ _ _ h => h) (Or.inl ⟨by rfl, ?_⟩) hHeld ?_ ?_
              rotate_left
              · rintro w' ⟨s0, s1, s2, s3, s4, s5, s6, s7, s8, s9, s10, s11, s12, s13, s14, s15, s16, s17, s18⟩
                go_simp
                with_reducible rfl
              rotate_left
              · simp only [Act.put, List.setIfInBounds_toArray, List.set_cons_zero, List.set_cons_succ, i64_w, i32_w]
                rfl
              refine take_ (i := 5) (N := some 73) (v := ?_) (a' := ?_) #[true, true, true, true, true, true, false, false, false, false, false, false] rfl rfl (take_ofW HT_.out HW_.out (by kernel_rfl)) (fun _ _ _ h => h) (Or.inl ⟨by rfl, ?_⟩) hHeld ?_ ?_
              rotate_left
              · rintro w' ⟨s0, s1, s2, s3, s4, s5, s6, s7, s8, s9, s10, s11, s12, s13, s14, s15, s16, s17, s18⟩
                go_simp
                with_reducible rfl
              rotate_left
              · simp only [Act.put, List.setIfInBounds_toArray, List.set_cons_zero, List.set_cons_succ, i64_w, i32_w]
                rfl
              refine pure_ (i := 6) (N := some 74) (v := ?_) (a' := ?_) #[true, true, true, true, true, true, true, false, false, false, false, false] rfl rfl (any_of HT_.out (by kernel_rfl)) (fun _ _ _ h => h) (Or.inl ⟨by rfl, ?_⟩) ?_ ?_
              rotate_left
              · intro w'
                go_simp
                with_reducible rfl
              rotate_left
              · simp only [Act.put, List.setIfInBounds_toArray, List.set_cons_zero, List.set_cons_succ, i64_w, i32_w]
                rfl
              refine take_ (i := 7) (N := some 75) (v := ?_) (a' := ?_) #[true, true, true, true, true, true, true, true, false, false, false, false] rfl rfl (take_ofW HT_.out HW_.out (by kernel_rfl)) (fun _ _ _ h => h) (Or.inl ⟨by rfl, ?_⟩) hHeld ?_ ?_
              rotate_left
              · rintro w' ⟨s0, s1, s2, s3, s4, s5, s6, s7, s8, s9, s10, s11, s12, s13, s14, s15, s16, s17, s18⟩
                go_simp
                with_reducible rfl
              rotate_left
              · simp only [Act.put, List.setIfInBounds_toArray, List.set_cons_zero, List.set_cons_succ, i64_w, i32_w]
                rfl
              refine take_ (i := 8) (N := some 76) (v := ?_) (a' := ?_) #[true, true, true, true, true, true, true, true, true, false, false, false] rfl rfl (take_ofW HT_.out HW_.out (by kernel_rfl)) (fun _ _ _ h => h) (Or.inl ⟨by rfl, ?_⟩) hHeld ?_ ?_
              rotate_left
              · rintro w' ⟨s0, s1, s2, s3, s4, s5, s6, s7, s8, s9, s10, s11, s12, s13, s14, s15, s16, s17, s18⟩
                go_simp
                with_reducible rfl
              rotate_left
              · simp only [Act.put, List.setIfInBounds_toArray, List.set_cons_zero, List.set_cons_succ, i64_w, i32_w]
                rfl
              refine one_ (i := 9) (N := some 77) #[true, true, true, true, true, true, true, true, true, true, false, false] rfl rfl (one_of HT_.out (by kernel_rfl)) (by decide) (fun K hK => ?_)
              refine goes_ Try.func151 (by kernel_rfl) rfl #[.agg #[.int .i64 ((rd_T129 y268 a2_1).f0), .int .i64 ((rd_T129 y268 a2_1).f1), .int .i64 ((rd_T129 y268 a2_1).f2), .int .i64 ((rd_T129 y268 a2_1).f3), .int .i64 ((rd_T129 y268 a2_1).f4), .int .i64 ((rd_T129 y268 a2_1).f5), .int .i64 ((rd_T129 y268 a2_1).f6)], .agg #[.int .i64 q0, .int .i64 q1, .int .i64 q2, .int .i64 q3, .int .i64 q4, .int .i64 q5, .int .i64 q6]] (by rfl) rfl rfl ga ?_
              with_reducible refine (spec_AddRows.calls ((rd_T129 y268 a2_1).f0) ((rd_T129 y268 a2_1).f1) ((rd_T129 y268 a2_1).f2) ((rd_T129 y268 a2_1).f3) ((rd_T129 y268 a2_1).f4) ((rd_T129 y268 a2_1).f5) ((rd_T129 y268 a2_1).f6) q0 q1 q2 q3 q4 q5 q6 t270 t271 t272 t273 t274 t275 t276 _ A14.out).mono ?_
              rintro e w42 ⟨rfl, hb⟩
              have HS12_ := (hb.cell (World.block_lt_of_cell? _ _ (hHeld.2.2.2.2.2.2.2.2.2.2.2.2.1))).trans (hHeld.2.2.2.2.2.2.2.2.2.2.2.2.1)
              have HS13_ := (hb.cell (World.block_lt_of_cell? _ _ (hHeld.2.2.2.2.2.2.2.2.2.2.2.2.2.1))).trans (hHeld.2.2.2.2.2.2.2.2.2.2.2.2.2.1)
              have HS14_ := (hb.cell (World.block_lt_of_cell? _ _ (hHeld.2.2.2.2.2.2.2.2.2.2.2.2.2.2.1))).trans (hHeld.2.2.2.2.2.2.2.2.2.2.2.2.2.2.1)
              have HS15_ := (hb.cell (World.block_lt_of_cell? _ _ (hHeld.2.2.2.2.2.2.2.2.2.2.2.2.2.2.2.1))).trans (hHeld.2.2.2.2.2.2.2.2.2.2.2.2.2.2.2.1)
              have HS16_ := (hb.cell (World.block_lt_of_cell? _ _ (hHeld.2.2.2.2.2.2.2.2.2.2.2.2.2.2.2.2.1))).trans (hHeld.2.2.2.2.2.2.2.2.2.2.2.2.2.2.2.2.1)
              have HS17_ := (hb.cell (World.block_lt_of_cell? _ _ (hHeld.2.2.2.2.2.2.2.2.2.2.2.2.2.2.2.2.2.1))).trans (hHeld.2.2.2.2.2.2.2.2.2.2.2.2.2.2.2.2.2.1)
              have HS18_ := (hb.cell (World.block_lt_of_cell? _ _ (hHeld.2.2.2.2.2.2.2.2.2.2.2.2.2.2.2.2.2.2))).trans (hHeld.2.2.2.2.2.2.2.2.2.2.2.2.2.2.2.2.2.2)
              refine ⟨_, rfl, ?_⟩
              replace HO1 := rb HO1 hb
              replace BK252 := am (bb BK252.out hb)
              replace BK253 := am (bb BK253.out hb)
              replace BK257 := am (bb BK257.out hb)
              replace BK258 := am (bb BK258.out hb)
              replace HK := am (Kept.below (S := (fun k_ => P1_ k_)) (by repeat (first | (with_reducible first | exact HK.out | apply Kept.alloc | apply Kept.drewN | apply Kept.drew | refine Kept.setCell ?_ (.inr GW252.out) _ | refine Kept.setCell ?_ (.inr GW253.out) _ | refine Kept.setCell ?_ (.inr GW257.out) _ | refine Kept.setCell ?_ (.inr GW258.out) _) | exact HK.out)) hb)
              replace HB := am (below_step bel hb)
              (try clear hb)
              (try clear hb2)
              (try clear hk)
              (try clear hi)
              have p15 : 0 ≤ (a2_1 : Int) := asm
              have q15 : (a2_1 : Int) < ((l1.length : Int) : Int) := asm
              obtain ⟨ce15, hcl15, hM15, hcc15, hfr15⟩ := Kd.R_elem HO1.out z129 (a2_1 : Int) p15 q15
              obtain rfl := k129_openM hM15
              have hx15_0 : World.cell? _ ⟨go11, (a2_1 : Int).toNat * 7, none⟩ = some (.int .i64 ((rd_T129 y268 a2_1).f0)) := hcc15 0 _ rfl
              have hx15_1 : World.cell? _ ⟨go11, (a2_1 : Int).toNat * 7 + 1, none⟩ = some (.int .i64 ((rd_T129 y268 a2_1).f1)) := hcc15 1 _ rfl
              have hx15_2 : World.cell? _ ⟨go11, (a2_1 : Int).toNat * 7 + 2, none⟩ = some (.int .i64 ((rd_T129 y268 a2_1).f2)) := hcc15 2 _ rfl
              have hx15_3 : World.cell? _ ⟨go11, (a2_1 : Int).toNat * 7 + 3, none⟩ = some (.int .i64 ((rd_T129 y268 a2_1).f3)) := hcc15 3 _ rfl
              have hx15_4 : World.cell? _ ⟨go11, (a2_1 : Int).toNat * 7 + 4, none⟩ = some (.int .i64 ((rd_T129 y268 a2_1).f4)) := hcc15 4 _ rfl
              have hx15_5 : World.cell? _ ⟨go11, (a2_1 : Int).toNat * 7 + 5, none⟩ = some (.int .i64 ((rd_T129 y268 a2_1).f5)) := hcc15 5 _ rfl
              have hx15_6 : World.cell? _ ⟨go11, (a2_1 : Int).toNat * 7 + 6, none⟩ = some (.int .i64 ((rd_T129 y268 a2_1).f6)) := hcc15 6 _ rfl
              have hf15_0 : World.frozen? _ ⟨go11, (a2_1 : Int).toNat * 7, none⟩ = false := hfr15 0
              have hf15_1 : World.frozen? _ ⟨go11, (a2_1 : Int).toNat * 7 + 1, none⟩ = false := hfr15 1
              have hf15_2 : World.frozen? _ ⟨go11, (a2_1 : Int).toNat * 7 + 2, none⟩ = false := hfr15 2
              have hf15_3 : World.frozen? _ ⟨go11, (a2_1 : Int).toNat * 7 + 3, none⟩ = false := hfr15 3
              have hf15_4 : World.frozen? _ ⟨go11, (a2_1 : Int).toNat * 7 + 4, none⟩ = false := hfr15 4
              have hf15_5 : World.frozen? _ ⟨go11, (a2_1 : Int).toNat * 7 + 5, none⟩ = false := hfr15 5
              have hf15_6 : World.frozen? _ ⟨go11, (a2_1 : Int).toNat * 7 + 6, none⟩ = false := hfr15 6
              clear hcl15 hcc15 hfr15 hM15
              replace p15 := eq_true p15
              replace q15 := eq_true q15
              obtain ⟨ce43, hcl43, hM43, hcc43, hfr43⟩ := Kd.R_elem HO1.out z129 (a2_1 : Int) (asm) (by have h_ : (a2_1 : Int) < ((l1.length : Int) : Int) := asm; first | exact h_ | (have e_ := (Kd.R_reads' HO1.out).1; omega) | simpa using h_)
              obtain rfl := k129_openM hM43
              have HP43 := (Kd.R_seg HO1.out (a2_1 : Int) (asm) (by have h_ : (a2_1 : Int) < ((l1.length : Int) : Int) := asm; first | exact h_ | (have e_ := (Kd.R_reads' HO1.out).1; omega) | simpa using h_) (seg := [.int .i64 t270, .int .i64 t271, .int .i64 t272, .int .i64 t273, .int .i64 t274, .int .i64 t275, .int .i64 t276]) (j := 0) hcl43 hcc43 (show 7 ≤ 7 from by decide) (x' := (⟨t270, t271, t272, t273, t274, t275, t276⟩ : S129)) (k129_mkM _ _ _ (⟨t270, t271, t272, t273, t274, t275, t276⟩ : S129) ) (fun _ hk => hk)).1
              rw [← Ny277.out] at HP43
              have HQ43 := am HP43
              clear hcl43 hcc43 hfr43 hM43 HP43
              refine hK.out _ _ ⟨(blk_cell BK253.out 0).trans rfl, (blk_cell BK253.out 1).trans rfl, (blk_cell BK253.out 2).trans rfl, (blk_cell BK253.out 3).trans rfl, (blk_cell BK253.out 4).trans rfl, (blk_cell BK258.out 0).trans rfl, (blk_cell BK258.out 1).trans rfl, (blk_cell BK258.out 2).trans rfl, (blk_cell BK258.out 3).trans rfl, (blk_cell BK258.out 4).trans rfl, (blk_cell BK258.out 5).trans rfl, (blk_cell BK258.out 6).trans rfl, HS12_, HS13_, HS14_, HS15_, HS16_, HS17_, HS18_⟩ (fun hHeld => ?_)
              clear hK K
              refine norm_ (a' := ?_) ?_ ?_
              rotate_left
              · show Act.put _ (some 77) _ = _
                simp only [Act.put, List.setIfInBounds_toArray, List.set_cons_zero, List.set_cons_succ, i64_w, i32_w]
                rfl
              refine pure_ (i := 10) (N := some 78) (v := ?_) (a' := ?_) #[true, true, true, true, true, true, true, true, true, true, true, false] rfl rfl (any_of HT_.out (by kernel_rfl)) (fun _ _ _ h => h) (Or.inl ⟨by rfl, ?_⟩) ?_ ?_
              rotate_left
              · intro w'
                go_simp
                with_reducible rfl
              rotate_left
              · simp only [Act.put, List.setIfInBounds_toArray, List.set_cons_zero, List.set_cons_succ, i64_w, i32_w]
                rfl
              refine last_ (i := 11) (N := none) #[true, true, true, true, true, true, true, true, true, true, true, true] rfl rfl (one_of HT_.out (by kernel_rfl)) (by decide) (fun K hK => ?_)
              refine skip_ (w1 := ?_) (by rfl) rfl ?_ ?_
              rotate_left
              · go_simp
                rfl
              refine hK.out _ _ ?_
              clear hK K
              refine done_ (done_of HT_.out (by kernel_rfl)) ?_
              try go_wp2
              first | go_end0 | ((try simp only [Exit.inBlock, Exit.then]); refine bodyPost_ret (results_none rfl _ _ _) rfl ?_)
              exact ⟨er, by (with_reducible repeat (first | apply Kd.R_alloc | apply Kd.R_drewN | apply Kd.R_drew)); exact Kd.R_mono HQ43.out (fun _ hk => hk.1), by repeat (first | (with_reducible first | exact HB.out | apply below_alloc | apply pw_below_drewN | apply below_drew1 | refine below_set ?_ GB11.out | refine below_set ?_ GB11.out | refine below_set ?_ GB11.out | refine below_set ?_ GB11.out | refine below_set ?_ GB11.out | refine below_set ?_ GB11.out | refine below_set ?_ GB11.out | refine below_set ?_ GE252.out | refine below_set ?_ GE253.out | refine below_set ?_ GE257.out | refine below_set ?_ GE258.out) | exact HB.out), by repeat (first | (with_reducible first | exact HK.out | apply Kept.alloc | apply Kept.drewN | apply Kept.drew | refine Kept.setCell ?_ HMgo11.out _ | refine Kept.setCell ?_ HMgo11.out _ | refine Kept.setCell ?_ HMgo11.out _ | refine Kept.setCell ?_ HMgo11.out _ | refine Kept.setCell ?_ HMgo11.out _ | refine Kept.setCell ?_ HMgo11.out _ | refine Kept.setCell ?_ HMgo11.out _ | refine Kept.setCell ?_ (.inr GW252.out) _ | refine Kept.setCell ?_ (.inr GW253.out) _ | refine Kept.setCell ?_ (.inr GW257.out) _ | refine Kept.setCell ?_ (.inr GW258.out) _) | exact HK.out)⟩
            · rw [if_neg c13] at H
              exact absurd H (by simp)
          · rw [if_neg c12] at H
            exact absurd H (by simp)
        · rw [if_neg c9] at H
          exact absurd H (by simp)
      · rw [if_neg c8] at H
        exact absurd H (by simp)
  · replace c5 := Bool.eq_false_iff.mpr c5
    subst c5
    have H1 : (some l1) = some r := by rw [if_neg (show ¬ (false = true) by decide)] at H; exact H
    clear H
    have H := H1
    clear H1
    obtain rfl := Option.some.inj H
    go_enter Try.func142, Try.ntmps142
    go_wp2_with (first | ((with_reducible refine gate_dst (N := 3) rfl ?_); refine box_event ?hg (N := 3) ?hd (cs := #[.int .i64 a0_0, .int .i64 a0_1, .int .i64 a0_2, .slice A0_3 l0_3.length c0_3, .bool a0_4]) (t := 34) ?hr ?_; (case hd => rfl); (case hg => rfl); (case hr => first | (go_simp; done) | (go_simp; rfl)); intro gb252 hg w150 hbox hb; have BK252 := am (hbox); have GW252 := am ((by rw [hg]; exact (by first | exact HK.out.1 | exact (show Kept w _ (fun k_ => P1_ k_) from by repeat (first | (with_reducible first | exact HK.out | apply Kept.alloc | apply Kept.drewN | apply Kept.drew) | exact HK.out)).1) : w.heap.size ≤ gb252)); have GE252 := am ((bsz hg : w0.heap.size ≤ gb252)); replace HO1 := rb HO1 hb; replace HK := am (Kept.below (S := (fun k_ => P1_ k_)) (by repeat (first | (with_reducible first | exact HK.out | apply Kept.alloc | apply Kept.drewN | apply Kept.drew) | exact HK.out)) hb); replace HB := am (below_step bel hb); clear hb hbox hg) | ((with_reducible refine gate_dst (N := 5) rfl ?_); refine box_event ?hg (N := 5) ?hd (cs := #[.int .i64 a2_0, .int .i64 a2_1, .int .i64 a2_2, .int .i64 a2_3, .int .i64 a2_4]) (t := 71) ?hr ?_; (case hd => rfl); (case hg => rfl); (case hr => first | (go_simp; done) | (go_simp; rfl)); intro gb253 hg w151 hbox hb; have BK253 := am (hbox); have GW253 := am ((by rw [hg]; exact (by first | exact HK.out.1 | exact (show Kept w _ (fun k_ => P1_ k_) from by repeat (first | (with_reducible first | exact HK.out | apply Kept.alloc | apply Kept.drewN | apply Kept.drew | refine Kept.setCell ?_ (.inr GW252.out) _) | exact HK.out)).1) : w.heap.size ≤ gb253)); have GE253 := am ((bsz hg : w0.heap.size ≤ gb253)); have NB252_253 := am ((nlt hg BK252.out : gb252 ≠ gb253)); have NB253_252 := am ((ngt hg BK252.out : gb253 ≠ gb252)); replace HO1 := rb HO1 hb; replace BK252 := am (bb BK252.out hb); replace HK := am (Kept.below (S := (fun k_ => P1_ k_)) (by repeat (first | (with_reducible first | exact HK.out | apply Kept.alloc | apply Kept.drewN | apply Kept.drew | refine Kept.setCell ?_ (.inr GW252.out) _) | exact HK.out)) hb); replace HB := am (below_step bel hb); clear hb hbox hg; have hnb152 := NB253_252.out; have hnc152 := NB252_253.out; obtain ⟨hcz153_0, hcz153_1, hcz153_2, hcz153_3, hcz153_4, hfz153_0, hfz153_1, hfz153_2, hfz153_3, hfz153_4⟩ := cf5 BK253.out) | ((with_reducible refine gate_callee (f := 149) rfl ?_); refine goesL_ (some 13) rfl rfl Try.func149 (by kernel_rfl) rfl #[.agg #[.int .i64 a2_0, .int .i64 a2_1, .int .i64 a2_2, .int .i64 a2_3, .int .i64 a2_4]] rfl ga ?_; (with_reducible refine (spec_GoalsOf.calls a2_0 a2_1 a2_2 a2_3 a2_4 t254 t255 false _ A4.out).mono ?_); rintro e w154 ⟨rfl, hb⟩; refine ⟨_, rfl, ?_⟩; replace HO1 := rb HO1 hb; replace BK252 := am (bb BK252.out hb); replace BK253 := am (bb BK253.out hb); replace HK := am (Kept.below (S := (fun k_ => P1_ k_)) (by repeat (first | (with_reducible first | exact HK.out | apply Kept.alloc | apply Kept.drewN | apply Kept.drew | refine Kept.setCell ?_ (.inr GW252.out) _ | refine Kept.setCell ?_ (.inr GW253.out) _) | exact HK.out)) hb); replace HB := am (below_step bel hb); (try clear hb)))
    first | go_end0 | ((try simp only [Exit.inBlock, Exit.then]); refine bodyPost_ret (results_none rfl _ _ _) rfl ?_)
    exact ⟨er, rk HO1.out, bel, by repeat (first | (with_reducible first | exact HK.out | apply Kept.alloc | apply Kept.drewN | apply Kept.drew | refine Kept.setCell ?_ (.inr GW252.out) _ | refine Kept.setCell ?_ (.inr GW253.out) _) | exact HK.out)⟩

end Go.Proofs.Ytgalpgakdcfilaa.Q
