-- Written by a program of this session (wip/xp.py, over the kit's print) out of the translation: functions, and the walks that show them.
import Derived.Test.YtpacmpppiphfjaaX0
import Derived.Test.YtpacmpppiphfjaaX13
import Derived.Test.YtpacmpppiphfjaaX22
namespace Go.Proofs.Ytpacmpppiphfjaa.X
open Go.RowKit Go.Proofs.YtpacmpppiphfjaaW.PrintWords Go.Proofs.YtpacmpppiphfjaaW.PrintLast Go.Proofs.YtpacmpppiphfjaaW.PrintMore
attribute [local go_sem] max2_int min2_int max_two min_two max_three min_three max_four min_four   -- for this text's walks alone
set_option linter.unusedVariables false
set_option linter.unusedSimpArgs false

/-! ### spec_l14Draw: function 51 -/
def spec_l14Draw.l0 : Nat → Int → List Int → Int → Int → Int → List Int → Option (Int × List Int × Int × Int)
  | 0, _, _, _, _, _, _ => none
  | k + 1, x4, x1000, x1001, x1002, x341000, x341001 => if x4 > 0 then ((spec_OpponentsOf.f k x341000 x341001 (x341001.length : Int)).bind fun bt344 => ((spec_l01Once.f x1000 x1001 x1002 2).bind fun bt347 => (if bt347.1 = true then (if x341001.length < 17592186044416 then (spec_l14Draw.l0 k (wrap64 (x4 - 1)) x1000 bt347.2.1 bt347.2.2 x341000 (x341001 ++ [bt344.2.1])) else (none)) else (if x341001.length < 17592186044416 then (spec_l14Draw.l0 k (wrap64 (x4 - 1)) x1000 bt347.2.1 bt347.2.2 x341000 (x341001 ++ [bt344.1])) else (none))))) else (some (x341000, x341001, x1001, x1002))
def spec_l14Draw.f (k : Nat) (s0_0 : List Int) (s0_1 : Int) (s0_2 : Int) : Option (Int × List Int × Int × Int) := (spec_l01Pick.f s0_0 s0_1 s0_2 (([2, 4, 8] : List Int))).bind fun bt337 => ((spec_l01Below.f s0_0 bt337.2.1 bt337.2.2 bt337.1).bind fun bt341 => (spec_l14Draw.l0 k bt341.1 s0_0 bt341.2.1 bt341.2.2 bt337.1 ([] : List Int)))
theorem spec_l14Draw.mono_l : ∀ k, (∀ y0 y1 y2 y3 y4 y5, LeO (spec_l14Draw.l0 k y0 y1 y2 y3 y4 y5) (spec_l14Draw.l0 (k + 1) y0 y1 y2 y3 y4 y5))
  | 0 => fun _ _ _ _ _ _ r h => by simp [spec_l14Draw.l0] at h
  | k + 1 => by
    have ih0 := spec_l14Draw.mono_l k
    · intro y0 y1 y2 y3 y4 y5
      unfold spec_l14Draw.l0
      repeat' first
      | (with_reducible exact ih0 _ _ _ _ _ _)
      | (with_reducible exact spec_OpponentsOf.mono _ _ _ _)
      | (with_reducible exact LeO.refl _)
      | (with_reducible exact LeO.none _)
      | (with_reducible refine LeO.ite ?_ ?_)
      | (with_reducible refine LeO.bind ?_ (fun _ => ?_))
      | exact ih0 _ _ _ _ _ _
      | exact spec_OpponentsOf.mono _ _ _ _
      | exact LeO.none _
      | refine LeO.ite ?_ ?_
      | refine LeO.bind ?_ (fun _ => ?_)
theorem spec_l14Draw.mono : ∀ a0 a1 a2 k, LeO (spec_l14Draw.f k a0 a1 a2) (spec_l14Draw.f (k + 1) a0 a1 a2) := by
  intro a0 a1 a2 k
  have ih0 := spec_l14Draw.mono_l k
  unfold spec_l14Draw.f
  repeat' first
      | (with_reducible exact ih0 _ _ _ _ _ _)
      | (with_reducible exact spec_OpponentsOf.mono _ _ _ _)
      | (with_reducible exact LeO.refl _)
      | (with_reducible exact LeO.none _)
      | (with_reducible refine LeO.ite ?_ ?_)
      | (with_reducible refine LeO.bind ?_ (fun _ => ?_))
      | exact ih0 _ _ _ _ _ _
      | exact spec_OpponentsOf.mono _ _ _ _
      | exact LeO.none _
      | refine LeO.ite ?_ ?_
      | refine LeO.bind ?_ (fun _ => ?_)
set_option maxHeartbeats 8000000 in
set_option maxRecDepth 100000 in
theorem spec_l14Draw.calls (k : Nat) (g : Nat) (s0_0 : List Int) (s0_1 : Int) (s0_2 : Int) (r1 : Int) (r2 : List Int) (r3 : Int) (r4 : Int) (w0 w : World) (hI : IsS62 w0 w g s0_0 s0_1 s0_2) (hB : Below w0.heap.size w0 w) (h : spec_l14Draw.f k s0_0 s0_1 s0_2 = some (r1, r2, r3, r4)) :
    Calls Try.prog 51 #[.pointer (some ⟨g, 0, none⟩)] w fun e w' => ∃ v1_ : Value, e = .returned (.agg #[.int .i64 r1, v1_]) ∧ Kd.R (Kd.int .i64) 3 w' w.heap.size (fun _ => True) v1_ r2 ∧ IsS62 w0 w' g s0_0 r3 r4 ∧ Below w0.heap.size w0 w' ∧ KeepBut w w' g none := by
  have hu36 := Try.underlying36
  have HI0 := Aside0.mk hI
  have HK := Aside0.mk (KeepBut.refl w g none)
  have HL := Aside0.mk hB.size
  clear hI
  have HW0 := Aside0.mk hB.size
  have HB := Aside0.mk hB
  clear hB
  have H : ((spec_l01Pick.f s0_0 s0_1 s0_2 (([2, 4, 8] : List Int))).bind fun bt337 => ((spec_l01Below.f s0_0 bt337.2.1 bt337.2.2 bt337.1).bind fun bt341 => (spec_l14Draw.l0 k bt341.1 s0_0 bt341.2.1 bt341.2.2 bt337.1 ([] : List Int)))) = some (r1, r2, r3, r4) := h
  clear h
  obtain ⟨y334, hy334⟩ : ∃ y_ : List Int, y_ = (([2, 4, 8] : List Int)) := ⟨_, rfl⟩
  replace H : ((spec_l01Pick.f s0_0 s0_1 s0_2 y334).bind fun bt337 => ((spec_l01Below.f s0_0 bt337.2.1 bt337.2.2 bt337.1).bind fun bt341 => (spec_l14Draw.l0 k bt341.1 s0_0 bt341.2.1 bt341.2.2 bt337.1 ([] : List Int)))) = some (r1, r2, r3, r4) := by first | (rw [hy334]; with_reducible exact H) | (have H2_ := (Option.bind_some _ _).symm.trans H; rw [hy334]; with_reducible exact H2_) | (have H2_ := (Option.bind_some _ _).symm.trans H; with_reducible exact H2_) | with_reducible exact H | (rw [hy334]; exact H) | exact H
  have Ny334 := Aside0.mk hy334
  clear hy334
  replace H := Option.bind_eq_some_iff.mp H
  obtain ⟨⟨t337, t338, t339⟩, A20, H⟩ := H
  replace H : ((spec_l01Below.f s0_0 t338 t339 t337).bind fun bt341 => (spec_l14Draw.l0 k bt341.1 s0_0 bt341.2.1 bt341.2.2 t337 ([] : List Int))) = some (r1, r2, r3, r4) := H
  have A2 := Aside0.mk A20
  clear A20
  replace H := Option.bind_eq_some_iff.mp H
  obtain ⟨⟨t341, t342, t343⟩, A30, H⟩ := H
  replace H : (spec_l14Draw.l0 k t341 s0_0 t342 t343 t337 ([] : List Int)) = some (r1, r2, r3, r4) := H
  have A3 := Aside0.mk A30
  clear A30
  have H' := Aside0.mk H
  clear H
  go_enter Try.func51, Try.ntmps51
  go_wp2_with (first | ((with_reducible refine gate_dst (N := 2) rfl ?_); refine box_event ?hg (N := 2) ?hd (cs := #[.int .i64 0, .slice none 0 0]) (t := 36) ?hr ?_; (case hd => rfl); (case hg => rfl); (case hr => first | (go_simp; done) | (go_simp; rfl)); intro gb333 hg w4 hbox hb; have n0_ := Aside0.mk (IsS62.below (by repeat (first | (with_reducible first | exact HI0.out | apply IsS62.alloc | apply IsS62.drewN | apply IsS62.drew | apply IsS62.set_1 | apply IsS62.set_2) | exact HI0.out)) hb); have n1_ := Aside0.mk (KeepBut.trans (by repeat (first | (with_reducible first | exact HK.out | apply KeepBut.set_ | apply keep_drewN | apply keep_drew | apply keep_alloc) | exact HK.out)) (KeepBut.of_below hb g none) (.inl rfl)); have n2_ := Aside0.mk (below_step (by repeat (first | (with_reducible first | exact HB.out | apply below_alloc | apply pw_below_drewN | apply below_drew1 | refine below_set ?_ (IsS62.ge HI0.out)) | exact HB.out)) hb); have n3_ := Aside0.mk (hbox); have n4_ := Aside0.mk ((by rw [hg]; exact (keep_size (w := w) (g := g) (row := none) (by repeat (first | (with_reducible first | exact HK.out | apply KeepBut.set_ | apply keep_drewN | apply keep_drew | apply keep_alloc) | exact HK.out))) : w.heap.size ≤ gb333)); have n5_ := Aside0.mk ((Nat.le_trans HW0.out (by rw [hg]; exact (keep_size (w := w) (g := g) (row := none) (by repeat (first | (with_reducible first | exact HK.out | apply KeepBut.set_ | apply keep_drewN | apply keep_drew | apply keep_alloc) | exact HK.out))) : w.heap.size ≤ gb333) : w0.heap.size ≤ gb333)); have n6_ := Aside0.mk ((by rw [hg]; exact Nat.ne_of_lt (IsS62.lt (show IsS62 w0 _ g s0_0 s0_1 s0_2 from by repeat (first | (with_reducible first | exact HI0.out | apply IsS62.alloc | apply IsS62.drewN | apply IsS62.drew | apply IsS62.set_1 | apply IsS62.set_2) | exact HI0.out))) : g ≠ gb333)); have n7_ := Aside0.mk ((by rw [hg]; exact Nat.ne_of_gt (IsS62.lt (show IsS62 w0 _ g s0_0 s0_1 s0_2 from by repeat (first | (with_reducible first | exact HI0.out | apply IsS62.alloc | apply IsS62.drewN | apply IsS62.drew | apply IsS62.set_1 | apply IsS62.set_2) | exact HI0.out))) : gb333 ≠ g)); clear HI0; clear HK; clear HB; have HI0 := n0_; have HK := n1_; have HB := n2_; have BK333 := n3_; have GW333 := n4_; have GE333 := n5_; have NB0_333 := n6_; have NB333_0 := n7_; clear n0_ n1_ n2_ n3_ n4_ n5_ n6_ n7_; clear hb hbox hg) | ((with_reducible refine gate_dst (N := 9) rfl ?_); refine Kd.R_lit (Kd.int .i64) _ 3 ?hg (N := 9) ?hd (xs := ([2, 4, 8] : List Int)) (inner := [.int .i64 2, .int .i64 4, .int .i64 8]) (ok := fun _ => True) (okp := fun _ => True) ?hr ?hp (fun _ hk => hk) trivial (Below.refl _ _) (Nat.le_refl _) (by simp) ?_; (case hd => rfl); (case hg => rfl); (case hr => first | (go_simp; done) | (go_simp; rfl)); (case hp => exact (Reps.one (show Kd.M (Kd.int .i64) _ _ _ 2 [.int .i64 2] from rfl) (Reps.one (show Kd.M (Kd.int .i64) _ _ _ 4 [.int .i64 4] from rfl) (Reps.one (show Kd.M (Kd.int .i64) _ _ _ 8 [.int .i64 8] from rfl) (Reps.none _ _))))); intro v335 w5 ho6 hb hg_ hnew_; clear hg_ hnew_; (first | rw [← Ny334.out] at ho6 | (simp only [Int.reduceToNat] at ho6; rw [← Ny334.out] at ho6)); have n0_ := Aside0.mk (Kd.R_lower ho6 (keep_size (w := w) (g := g) (row := none) (by repeat (first | (with_reducible first | exact HK.out | apply KeepBut.set_ | apply keep_drewN | apply keep_drew | apply keep_alloc | refine keep_far ?_ GW333.out _) | exact HK.out)))); have n1_ := Aside0.mk (IsS62.below (by repeat (first | (with_reducible first | exact HI0.out | apply IsS62.alloc | apply IsS62.drewN | apply IsS62.drew | apply IsS62.set_1 | apply IsS62.set_2 | refine IsS62.far ?_ NB0_333.out _) | exact HI0.out)) hb); have n2_ := Aside0.mk (bb BK333.out hb); have n3_ := Aside0.mk (KeepBut.trans (by repeat (first | (with_reducible first | exact HK.out | apply KeepBut.set_ | apply keep_drewN | apply keep_drew | apply keep_alloc | refine keep_far ?_ GW333.out _) | exact HK.out)) (KeepBut.of_below hb g none) (.inl rfl)); have n4_ := Aside0.mk (below_step (by repeat (first | (with_reducible first | exact HB.out | apply below_alloc | apply pw_below_drewN | apply below_drew1 | refine below_set ?_ (IsS62.ge HI0.out) | refine below_set ?_ GE333.out) | exact HB.out)) hb); clear HI0; clear BK333; clear HK; clear HB; have HO336 := n0_; have HI0 := n1_; have BK333 := n2_; have HK := n3_; have HB := n4_; clear n0_ n1_ n2_ n3_ n4_; clear hb ho6; obtain ⟨Ao7, co7, eo7⟩ := Kd.R_slice HO336.out; subst eo7) | ((with_reducible refine gate_callee (f := 58) rfl ?_); refine goesL_ (some 10) rfl rfl Try.func58 (by kernel_rfl) rfl #[.pointer (some ⟨g, 0, none⟩), .slice Ao7 y334.length co7] rfl ga ?_; (with_reducible refine (spec_l01Pick.calls g s0_0 s0_1 s0_2 _ _ y334 t337 t338 t339 w0 _ ?side1 ?side2 ?side3 ?side4 ?side5 A2.out).mono ?_); (case side1 => repeat (first | (with_reducible first | exact HI0.out | apply IsS62.alloc | apply IsS62.drewN | apply IsS62.drew | apply IsS62.set_1 | apply IsS62.set_2 | refine IsS62.far ?_ NB0_333.out _) | exact HI0.out)); (case side2 => repeat (first | (with_reducible first | exact HB.out | apply below_alloc | apply pw_below_drewN | apply below_drew1 | refine below_set ?_ (IsS62.ge HI0.out) | refine below_set ?_ GE333.out) | exact HB.out)); (case side3 => exact ck (Kd.R_reads' HO336.out).2.2); (case side4 => exact (Kd.R_reads' HO336.out).2.1); (case side5 => exact far_slice (IsS62.own_ne HI0.out HO336.out (by decide))); rintro e w8 ⟨rfl, hi, hb, hk⟩; refine ⟨_, rfl, ?_⟩; replace HO336 := Aside0.mk (Kd.R_mono (Kd.R_keep (IsS62.apart (show IsS62 w0 _ g s0_0 s0_1 s0_2 from by repeat (first | (with_reducible first | exact HI0.out | apply IsS62.alloc | apply IsS62.drewN | apply IsS62.drew | apply IsS62.set_1 | apply IsS62.set_2 | refine IsS62.far ?_ NB0_333.out _) | exact HI0.out)) (rk HO336.out) (by decide)) hk (fun _ h => h.2)) (fun _ h => h.1)); replace HI0 := Aside0.mk (hi); replace BK333 := Aside0.mk (KeepBut.blk hk (g' := gb333) (o := .cells #[.int .i64 0, .slice none 0 0] 36 (0, 0)) (bk BK333.out) NB333_0.out (by simp)); replace HK := Aside0.mk (KeepBut.trans (by repeat (first | (with_reducible first | exact HK.out | apply KeepBut.set_ | apply keep_drewN | apply keep_drew | apply keep_alloc | refine keep_far ?_ GW333.out _) | exact HK.out)) hk (.inl rfl)); replace HB := Aside0.mk (hb); (try clear hb); (try clear hk); (try clear hi)) | ((with_reducible refine gate_dst (N := 3) rfl ?_); refine box_event ?hg (N := 3) ?hd (cs := #[.int .i64 0, .slice none 0 0]) (t := 36) ?hr ?_; (case hd => rfl); (case hg => rfl); (case hr => first | (go_simp; done) | (go_simp; rfl)); intro gb340 hg w9 hbox hb; have n0_ := Aside0.mk (Kd.R_below (rk HO336.out) hb); have n1_ := Aside0.mk (IsS62.below (by repeat (first | (with_reducible first | exact HI0.out | apply IsS62.alloc | apply IsS62.drewN | apply IsS62.drew | apply IsS62.set_1 | apply IsS62.set_2 | refine IsS62.far ?_ NB0_333.out _) | exact HI0.out)) hb); have n2_ := Aside0.mk (bb BK333.out hb); have n3_ := Aside0.mk (KeepBut.trans (by repeat (first | (with_reducible first | exact HK.out | apply KeepBut.set_ | apply keep_drewN | apply keep_drew | apply keep_alloc | refine keep_far ?_ GW333.out _) | exact HK.out)) (KeepBut.of_below hb g none) (.inl rfl)); have n4_ := Aside0.mk (below_step (by repeat (first | (with_reducible first | exact HB.out | apply below_alloc | apply pw_below_drewN | apply below_drew1 | refine below_set ?_ (IsS62.ge HI0.out) | refine below_set ?_ GE333.out) | exact HB.out)) hb); have n5_ := Aside0.mk (hbox); have n6_ := Aside0.mk ((by rw [hg]; exact (keep_size (w := w) (g := g) (row := none) (by repeat (first | (with_reducible first | exact HK.out | apply KeepBut.set_ | apply keep_drewN | apply keep_drew | apply keep_alloc | refine keep_far ?_ GW333.out _) | exact HK.out))) : w.heap.size ≤ gb340)); have n7_ := Aside0.mk ((Nat.le_trans HW0.out (by rw [hg]; exact (keep_size (w := w) (g := g) (row := none) (by repeat (first | (with_reducible first | exact HK.out | apply KeepBut.set_ | apply keep_drewN | apply keep_drew | apply keep_alloc | refine keep_far ?_ GW333.out _) | exact HK.out))) : w.heap.size ≤ gb340) : w0.heap.size ≤ gb340)); have n8_ := Aside0.mk ((nlt hg BK333.out : gb333 ≠ gb340)); have n9_ := Aside0.mk ((ngt hg BK333.out : gb340 ≠ gb333)); have n10_ := Aside0.mk ((by rw [hg]; exact Nat.ne_of_lt (IsS62.lt (show IsS62 w0 _ g s0_0 t338 t339 from by repeat (first | (with_reducible first | exact HI0.out | apply IsS62.alloc | apply IsS62.drewN | apply IsS62.drew | apply IsS62.set_1 | apply IsS62.set_2 | refine IsS62.far ?_ NB0_333.out _) | exact HI0.out))) : g ≠ gb340)); have n11_ := Aside0.mk ((by rw [hg]; exact Nat.ne_of_gt (IsS62.lt (show IsS62 w0 _ g s0_0 t338 t339 from by repeat (first | (with_reducible first | exact HI0.out | apply IsS62.alloc | apply IsS62.drewN | apply IsS62.drew | apply IsS62.set_1 | apply IsS62.set_2 | refine IsS62.far ?_ NB0_333.out _) | exact HI0.out))) : gb340 ≠ g)); clear HO336; clear HI0; clear BK333; clear HK; clear HB; have HO336 := n0_; have HI0 := n1_; have BK333 := n2_; have HK := n3_; have HB := n4_; have BK340 := n5_; have GW340 := n6_; have GE340 := n7_; have NB333_340 := n8_; have NB340_333 := n9_; have NB0_340 := n10_; have NB340_0 := n11_; clear n0_ n1_ n2_ n3_ n4_ n5_ n6_ n7_ n8_ n9_ n10_ n11_; clear hb hbox hg; have hnb10 := NB340_333.out; have hnc10 := NB333_340.out; have hnb11 := NB340_0.out; have hnc11 := NB0_340.out; obtain ⟨hcz12_0, hcz12_1, hfz12_0, hfz12_1⟩ := cf2 BK340.out) | ((with_reducible refine gate_callee (f := 59) rfl ?_); refine goesL_ (some 15) rfl rfl Try.func59 (by kernel_rfl) rfl #[.pointer (some ⟨g, 0, none⟩), .int .i64 t337] rfl ga ?_; (with_reducible refine (spec_l01Below.calls g s0_0 t338 t339 t337 t341 t342 t343 w0 _ ?side1 ?side2 A3.out).mono ?_); (case side1 => repeat (first | (with_reducible first | exact HI0.out | apply IsS62.alloc | apply IsS62.drewN | apply IsS62.drew | apply IsS62.set_1 | apply IsS62.set_2 | refine IsS62.far ?_ NB0_333.out _ | refine IsS62.far ?_ NB0_340.out _) | exact HI0.out)); (case side2 => repeat (first | (with_reducible first | exact HB.out | apply below_alloc | apply pw_below_drewN | apply below_drew1 | refine below_set ?_ (IsS62.ge HI0.out) | refine below_set ?_ GE333.out | refine below_set ?_ GE340.out) | exact HB.out)); rintro e w13 ⟨rfl, hi, hb, hk⟩; refine ⟨_, rfl, ?_⟩; replace HO336 := Aside0.mk (Kd.R_mono (Kd.R_keep (IsS62.apart (show IsS62 w0 _ g s0_0 t338 t339 from by repeat (first | (with_reducible first | exact HI0.out | apply IsS62.alloc | apply IsS62.drewN | apply IsS62.drew | apply IsS62.set_1 | apply IsS62.set_2 | refine IsS62.far ?_ NB0_333.out _ | refine IsS62.far ?_ NB0_340.out _) | exact HI0.out)) (by exact rk (Kd.R_mono (Kd.R_far (p := ⟨gb340, 1, none⟩) (Kd.R_far (p := ⟨gb340, 0, none⟩) (Kd.R_types HO336.out BK340.out (by decide)) (fun _ hk => hk.2) (.int .i64 t337)) (fun _ hk => hk.2) (.slice none 0 0)) (fun _ h_ => h_.1))) (by decide)) hk (fun _ h => h.2)) (fun _ h => h.1)); replace HI0 := Aside0.mk (hi); replace BK333 := Aside0.mk (KeepBut.blk hk (g' := gb333) (o := .cells #[.int .i64 0, .slice none 0 0] 36 (0, 0)) (bk BK333.out) NB333_0.out (by simp)); replace BK340 := Aside0.mk (KeepBut.blk hk (g' := gb340) (o := .cells #[.int .i64 t337, .slice none 0 0] 36 (0, 0)) (by (with_reducible repeat (first | refine blk_drewN ?_ _ | refine blk_drew ?_ | refine blk_alloc ?_ _)); refine blk_put (cs := #[.int .i64 t337, .slice none 0 0]) ?_ 1 _ rfl; (with_reducible repeat (first | refine blk_drewN ?_ _ | refine blk_drew ?_ | refine blk_alloc ?_ _)); refine blk_put (cs := #[.int .i64 0, .slice none 0 0]) ?_ 0 _ rfl; (with_reducible repeat (first | refine blk_drewN ?_ _ | refine blk_drew ?_ | refine blk_alloc ?_ _)); exact BK340.out) NB340_0.out (by simp)); replace HK := Aside0.mk (KeepBut.trans (by repeat (first | (with_reducible first | exact HK.out | apply KeepBut.set_ | apply keep_drewN | apply keep_drew | apply keep_alloc | refine keep_far ?_ GW333.out _ | refine keep_far ?_ GW340.out _) | exact HK.out)) hk (.inl rfl)); replace HB := Aside0.mk (hb); (try clear hb); (try clear hk); (try clear hi)))
  go_loopg [4] k (fun kq v4 w' => ∃ (x4_1 : Int) (x1001_1 : Int) (x1002_1 : Int) (x341001_1 : List Int) (u341001 : Value), v4 = .int .i64 x4_1 ∧ Aside0 (spec_l14Draw.l0 kq x4_1 s0_0 x1001_1 x1002_1 t337 x341001_1 = some (r1, r2, r3, r4)) ∧ Aside0 (kq ≤ k) ∧ Aside0 (Kd.R (Kd.int .i64) 3 w' w.heap.size (fun _ => True) u341001 x341001_1) ∧ Aside0 (w'.heap[gb333]? = some (.cells #[.int .i64 0, (.slice none 0 0)] 36 (0, 0))) ∧ Aside0 (w'.heap[gb340]? = some (.cells #[.int .i64 t337, u341001] 36 (0, 0))) ∧ Aside0 (IsS62 w0 w' g s0_0 x1001_1 x1002_1) ∧ Aside0 (KeepBut w w' g none) ∧ Aside0 (Below w0.heap.size w0 w'))
  case atStart => exact ⟨(t341), (t342), (t343), (([] : List Int)), (.slice none 0 0), (es), H', ⟨Nat.le_refl _⟩, ⟨by first | exact Kd.R_nil _ _ _ _ _ | exact Kd.N_nil _ _ _ _ _ | exact Kd.V_nil _ _ _ _ _ | exact Kd.Q_nil _ _ _ _ _ | exact Kd.S_nil _ _ _ _ _⟩, ⟨bk BK333.out⟩, ⟨bk BK340.out⟩, ⟨by repeat (first | (with_reducible first | exact HI0.out | apply IsS62.alloc | apply IsS62.drewN | apply IsS62.drew | apply IsS62.set_1 | apply IsS62.set_2 | refine IsS62.far ?_ NB0_333.out _ | refine IsS62.far ?_ NB0_340.out _) | exact HI0.out)⟩, ⟨by repeat (first | (with_reducible first | exact HK.out | apply KeepBut.set_ | apply keep_drewN | apply keep_drew | apply keep_alloc | refine keep_far ?_ GW333.out _ | refine keep_far ?_ GW340.out _) | exact HK.out)⟩, ⟨by repeat (first | (with_reducible first | exact HB.out | apply below_alloc | apply pw_below_drewN | apply below_drew1 | refine below_set ?_ (IsS62.ge HI0.out) | refine below_set ?_ GE333.out | refine below_set ?_ GE340.out) | exact HB.out)⟩⟩
  case round =>
    clear H'
    try clear c1; try clear p2; try clear c5; try clear c10; try clear c11; try clear hcz12_0; try clear hcz12_1; try clear hfz12_0; try clear hfz12_1
    obtain ⟨x4_1, x1001_1, x1002_1, x341001_1, u341001, rfl, HA, HK1, HO_341001, BK333, BK340, HI0, HK, HB⟩ := hrel
    cases gk with
    | zero => exact absurd HA.out (by simp [spec_l14Draw.l0])
    | succ k1 =>
      have H := HA.out
      clear HA
      simp only [spec_l14Draw.l0] at H
      by_cases c14 : x4_1 > 0
      · rw [if_pos c14] at H
        have c14b0 : decide (0 < x4_1) = true := decide_eq_true c14
        clear c14
        replace H := Option.bind_eq_some_iff.mp H
        obtain ⟨⟨t344, t345, t346⟩, A150, H⟩ := H
        replace H : ((spec_l01Once.f s0_0 x1001_1 x1002_1 2).bind fun bt347 => (if bt347.1 = true then (if x341001_1.length < 17592186044416 then (spec_l14Draw.l0 k1 (wrap64 (x4_1 - 1)) s0_0 bt347.2.1 bt347.2.2 t337 (x341001_1 ++ [t345])) else (none)) else (if x341001_1.length < 17592186044416 then (spec_l14Draw.l0 k1 (wrap64 (x4_1 - 1)) s0_0 bt347.2.1 bt347.2.2 t337 (x341001_1 ++ [t344])) else (none)))) = some (r1, r2, r3, r4) := H
        have A15 := Aside0.mk A150
        clear A150
        replace H := Option.bind_eq_some_iff.mp H
        obtain ⟨⟨t347, t348, t349⟩, A160, H⟩ := H
        replace H : (if t347 = true then (if x341001_1.length < 17592186044416 then (spec_l14Draw.l0 k1 (wrap64 (x4_1 - 1)) s0_0 t348 t349 t337 (x341001_1 ++ [t345])) else (none)) else (if x341001_1.length < 17592186044416 then (spec_l14Draw.l0 k1 (wrap64 (x4_1 - 1)) s0_0 t348 t349 t337 (x341001_1 ++ [t344])) else (none))) = some (r1, r2, r3, r4) := H
        have A16 := Aside0.mk A160
        clear A160
        by_cases c17 : t347 = true
        · subst c17
          have H1 : (if x341001_1.length < 17592186044416 then (spec_l14Draw.l0 k1 (wrap64 (x4_1 - 1)) s0_0 t348 t349 t337 (x341001_1 ++ [t345])) else (none)) = some (r1, r2, r3, r4) := by rw [if_pos rfl] at H; exact H
          clear H
          have H := H1
          clear H1
          by_cases c18 : x341001_1.length < 17592186044416
          · rw [if_pos c18] at H
            have LMc18 := Aside0.mk c18
            clear c18
            obtain ⟨y350, hy350⟩ : ∃ y_ : List Int, y_ = (x341001_1 ++ [t345]) := ⟨_, rfl⟩
            replace H : (spec_l14Draw.l0 k1 (wrap64 (x4_1 - 1)) s0_0 t348 t349 t337 y350) = some (r1, r2, r3, r4) := by first | (rw [hy350]; with_reducible exact H) | (have H2_ := (Option.bind_some _ _).symm.trans H; rw [hy350]; with_reducible exact H2_) | (have H2_ := (Option.bind_some _ _).symm.trans H; with_reducible exact H2_) | with_reducible exact H | (rw [hy350]; exact H) | exact H
            have Ny350 := Aside0.mk hy350
            clear hy350
            have H' := Aside0.mk H
            clear H
            have hnb19 := NB340_333.out
            have hnc19 := NB333_340.out
            have hnb20 := NB340_0.out
            have hnc20 := NB0_340.out
            obtain ⟨hcz21_0, hcz21_1, hfz21_0, hfz21_1⟩ := cf2 BK340.out
            obtain ⟨Ao22, co22, eo22⟩ := Kd.R_slice HO_341001.out
            subst eo22
            go_wp2_with (first | ((with_reducible refine gate_callee (f := 28) rfl ?_); refine goesL_ (some 25) rfl rfl Try.func28 (by kernel_rfl) rfl #[.agg #[.int .i64 t337, .slice Ao22 x341001_1.length co22], .int .i64 (x341001_1.length : Int)] rfl ga ?_; (with_reducible refine (spec_OpponentsOf.calls k1 t337 _ _ x341001_1 (x341001_1.length : Int) t344 t345 t346 _ ?side1 ?side2 A15.out).mono ?_); (case side1 => exact ck (Kd.R_reads' HO_341001.out).2.2); (case side2 => exact (Kd.R_reads' HO_341001.out).2.1); rintro e w23 ⟨rfl, hb⟩; refine ⟨_, rfl, ?_⟩; have n0_ := Aside0.mk (Kd.R_below (rk HO_341001.out) hb); have n1_ := Aside0.mk (bb BK333.out hb); have n2_ := Aside0.mk (bb BK340.out hb); have n3_ := Aside0.mk (IsS62.below (by repeat (first | (with_reducible first | exact HI0.out | apply IsS62.alloc | apply IsS62.drewN | apply IsS62.drew | apply IsS62.set_1 | apply IsS62.set_2 | refine IsS62.far ?_ NB0_333.out _ | refine IsS62.far ?_ NB0_340.out _) | exact HI0.out)) hb); have n4_ := Aside0.mk (KeepBut.trans (by repeat (first | (with_reducible first | exact HK.out | apply KeepBut.set_ | apply keep_drewN | apply keep_drew | apply keep_alloc | refine keep_far ?_ GW333.out _ | refine keep_far ?_ GW340.out _) | exact HK.out)) (KeepBut.of_below hb g none) (.inl rfl)); have n5_ := Aside0.mk (below_step (by repeat (first | (with_reducible first | exact HB.out | apply below_alloc | apply pw_below_drewN | apply below_drew1 | refine below_set ?_ (IsS62.ge HI0.out) | refine below_set ?_ GE333.out | refine below_set ?_ GE340.out) | exact HB.out)) hb); clear HO_341001; clear BK333; clear BK340; clear HI0; clear HK; clear HB; have HO_341001 := n0_; have BK333 := n1_; have BK340 := n2_; have HI0 := n3_; have HK := n4_; have HB := n5_; clear n0_ n1_ n2_ n3_ n4_ n5_; (try clear hb)) | ((with_reducible refine gate_callee (f := 60) rfl ?_); refine goesL_ (some 30) rfl rfl Try.func60 (by kernel_rfl) rfl #[.pointer (some ⟨g, 0, none⟩), .int .i64 2] rfl ga ?_; (with_reducible refine (spec_l01Once.calls g s0_0 x1001_1 x1002_1 2 true t348 t349 w0 _ ?side1 ?side2 A16.out).mono ?_); (case side1 => repeat (first | (with_reducible first | exact HI0.out | apply IsS62.alloc | apply IsS62.drewN | apply IsS62.drew | apply IsS62.set_1 | apply IsS62.set_2 | refine IsS62.far ?_ NB0_333.out _ | refine IsS62.far ?_ NB0_340.out _) | exact HI0.out)); (case side2 => repeat (first | (with_reducible first | exact HB.out | apply below_alloc | apply pw_below_drewN | apply below_drew1 | refine below_set ?_ (IsS62.ge HI0.out) | refine below_set ?_ GE333.out | refine below_set ?_ GE340.out) | exact HB.out)); rintro e w24 ⟨rfl, hi, hb, hk⟩; refine ⟨_, rfl, ?_⟩; replace HO_341001 := Aside0.mk (Kd.R_mono (Kd.R_keep (IsS62.apart (show IsS62 w0 _ g s0_0 x1001_1 x1002_1 from by repeat (first | (with_reducible first | exact HI0.out | apply IsS62.alloc | apply IsS62.drewN | apply IsS62.drew | apply IsS62.set_1 | apply IsS62.set_2 | refine IsS62.far ?_ NB0_333.out _ | refine IsS62.far ?_ NB0_340.out _) | exact HI0.out)) (rk HO_341001.out) (by decide)) hk (fun _ h => h.2)) (fun _ h => h.1)); replace HI0 := Aside0.mk (hi); replace BK333 := Aside0.mk (KeepBut.blk hk (g' := gb333) (o := .cells #[.int .i64 0, .slice none 0 0] 36 (0, 0)) (bk BK333.out) NB333_0.out (by simp)); replace BK340 := Aside0.mk (KeepBut.blk hk (g' := gb340) (o := .cells #[.int .i64 t337, .slice Ao22 x341001_1.length co22] 36 (0, 0)) (bk BK340.out) NB340_0.out (by simp)); replace HK := Aside0.mk (KeepBut.trans (by repeat (first | (with_reducible first | exact HK.out | apply KeepBut.set_ | apply keep_drewN | apply keep_drew | apply keep_alloc | refine keep_far ?_ GW333.out _ | refine keep_far ?_ GW340.out _) | exact HK.out)) hk (.inl rfl)); replace HB := Aside0.mk (hb); (try clear hb); (try clear hk); (try clear hi); obtain ⟨hcz25_0, hcz25_1, hfz25_0, hfz25_1⟩ := cf2 BK340.out) | ((with_reducible refine gate_builtin (b := .append) (xs := #[.tmp 33, .tmp 35]) rfl ?_); at_builtin; refine Kd.R_append (Kd.int .i64) w.heap.size rfl (.tmp 33) (.tmp 35) 25 3 (.int .i64 0) 8 rfl Try.underlying25 info3 rfl (by decide) (by omega) (.slice Ao22 x341001_1.length co22) x341001_1 t345 [.int .i64 t345] (fun _ => True) (fun _ => False) rfl rfl ?aP (fun _ hk => hk.elim) ?aF ?aO (Below.refl _ _) ?aS ?aL ?_; (case aP => exact rfl); (case aF => exact (fun _ _ => trivial)); (case aO => exact (rk HO_341001.out)); (case aS => exact (keep_size (w := w) (g := g) (row := none) (by repeat (first | (with_reducible first | exact HK.out | apply KeepBut.set_ | apply keep_drewN | apply keep_drew | apply keep_alloc | refine keep_far ?_ GW333.out _ | refine keep_far ?_ GW340.out _) | exact HK.out)))); (case aL => have := LMc18.out; omega); intro v351 w26 ho hb hg hat; rw [← Ny350.out] at ho; have n0_ := Aside0.mk (blk_grown (g := gb333) (o := .cells #[.int .i64 0, .slice none 0 0] 36 (0, 0)) (bk BK333.out) hg (Kd.R_ne HO_341001.out BK333.out (by decide))); have n1_ := Aside0.mk (blk_grown (g := gb340) (o := .cells #[.int .i64 t337, .slice Ao22 x341001_1.length co22] 36 (0, 0)) (bk BK340.out) hg (Kd.R_ne HO_341001.out BK340.out (by decide))); have n2_ := Aside0.mk (IsS62.grown (by repeat (first | (with_reducible first | exact HI0.out | apply IsS62.alloc | apply IsS62.drewN | apply IsS62.drew | apply IsS62.set_1 | apply IsS62.set_2 | refine IsS62.far ?_ NB0_333.out _ | refine IsS62.far ?_ NB0_340.out _) | exact HI0.out)) hg (IsS62.own_ne HI0.out HO_341001.out (by decide))); have n3_ := Aside0.mk (below_weaken (by repeat (first | (with_reducible first | exact HB.out | apply below_alloc | apply pw_below_drewN | apply below_drew1 | refine below_set ?_ (IsS62.ge HI0.out) | refine below_set ?_ GE333.out | refine below_set ?_ GE340.out) | exact HB.out)) HL.out hb); have n4_ := Aside0.mk (KeepBut.trans (by repeat (first | (with_reducible first | exact HK.out | apply KeepBut.set_ | apply keep_drewN | apply keep_drew | apply keep_alloc | refine keep_far ?_ GW333.out _ | refine keep_far ?_ GW340.out _) | exact HK.out)) (KeepBut.of_grown hg g) (Kd.R_base2 HO_341001.out)); have n5_ := Aside0.mk (ho); clear BK333; clear BK340; clear HI0; clear HB; clear HK; clear HO_341001; have BK333 := n0_; have BK340 := n1_; have HI0 := n2_; have HB := n3_; have HK := n4_; have HO352 := n5_; clear n0_ n1_ n2_ n3_ n4_ n5_; clear ho hb hg hat; obtain ⟨Ao27, co27, eo27⟩ := Kd.R_slice HO352.out; subst eo27; obtain ⟨hcz28_0, hcz28_1, hfz28_0, hfz28_1⟩ := cf2 BK340.out))
            go_roundg k1
            case measure => have := HK1.out; omega
            case rel => exact ⟨(wrap64 (x4_1 - 1)), (t348), (t349), (y350), (.slice Ao27 y350.length co27), (es), H', ⟨by have := HK1.out; omega⟩, ⟨by (with_reducible repeat (first | apply Kd.R_alloc | apply Kd.R_drewN | apply Kd.R_drew)); exact Kd.R_mono (Kd.R_far (p := ⟨gb340, 1, none⟩) (Kd.R_types HO352.out BK340.out (by decide)) (fun _ hk => hk.2) (.slice Ao27 y350.length co27)) (fun _ hk => trivial)⟩, ⟨bk BK333.out⟩, ⟨by (with_reducible repeat (first | refine blk_drewN ?_ _ | refine blk_drew ?_ | refine blk_alloc ?_ _)); refine blk_put (cs := #[.int .i64 t337, .slice Ao22 x341001_1.length co22]) ?_ 1 _ rfl; (with_reducible repeat (first | refine blk_drewN ?_ _ | refine blk_drew ?_ | refine blk_alloc ?_ _)); exact BK340.out⟩, ⟨by repeat (first | (with_reducible first | exact HI0.out | apply IsS62.alloc | apply IsS62.drewN | apply IsS62.drew | apply IsS62.set_1 | apply IsS62.set_2 | refine IsS62.far ?_ NB0_333.out _ | refine IsS62.far ?_ NB0_340.out _) | exact HI0.out)⟩, ⟨by repeat (first | (with_reducible first | exact HK.out | apply KeepBut.set_ | apply keep_drewN | apply keep_drew | apply keep_alloc | refine keep_far ?_ GW333.out _ | refine keep_far ?_ GW340.out _) | exact HK.out)⟩, ⟨by repeat (first | (with_reducible first | exact HB.out | apply below_alloc | apply pw_below_drewN | apply below_drew1 | refine below_set ?_ (IsS62.ge HI0.out) | refine below_set ?_ GE333.out | refine below_set ?_ GE340.out) | exact HB.out)⟩⟩
          · rw [if_neg c18] at H
            exact absurd H (by simp)
        · replace c17 := Bool.eq_false_iff.mpr c17
          subst c17
          have H1 : (if x341001_1.length < 17592186044416 then (spec_l14Draw.l0 k1 (wrap64 (x4_1 - 1)) s0_0 t348 t349 t337 (x341001_1 ++ [t344])) else (none)) = some (r1, r2, r3, r4) := by rw [if_neg (show ¬ (false = true) by decide)] at H; exact H
          clear H
          have H := H1
          clear H1
          by_cases c29 : x341001_1.length < 17592186044416
          · rw [if_pos c29] at H
            have LMc29 := Aside0.mk c29
            clear c29
            obtain ⟨y353, hy353⟩ : ∃ y_ : List Int, y_ = (x341001_1 ++ [t344]) := ⟨_, rfl⟩
            replace H : (spec_l14Draw.l0 k1 (wrap64 (x4_1 - 1)) s0_0 t348 t349 t337 y353) = some (r1, r2, r3, r4) := by first | (rw [hy353]; with_reducible exact H) | (have H2_ := (Option.bind_some _ _).symm.trans H; rw [hy353]; with_reducible exact H2_) | (have H2_ := (Option.bind_some _ _).symm.trans H; with_reducible exact H2_) | with_reducible exact H | (rw [hy353]; exact H) | exact H
            have Ny353 := Aside0.mk hy353
            clear hy353
            have H' := Aside0.mk H
            clear H
            have hnb30 := NB340_333.out
            have hnc30 := NB333_340.out
            have hnb31 := NB340_0.out
            have hnc31 := NB0_340.out
            obtain ⟨hcz32_0, hcz32_1, hfz32_0, hfz32_1⟩ := cf2 BK340.out
            obtain ⟨Ao33, co33, eo33⟩ := Kd.R_slice HO_341001.out
            subst eo33
            go_wp2_with (first | ((with_reducible refine gate_callee (f := 28) rfl ?_); refine goesL_ (some 25) rfl rfl Try.func28 (by kernel_rfl) rfl #[.agg #[.int .i64 t337, .slice Ao33 x341001_1.length co33], .int .i64 (x341001_1.length : Int)] rfl ga ?_; (with_reducible refine (spec_OpponentsOf.calls k1 t337 _ _ x341001_1 (x341001_1.length : Int) t344 t345 t346 _ ?side1 ?side2 A15.out).mono ?_); (case side1 => exact ck (Kd.R_reads' HO_341001.out).2.2); (case side2 => exact (Kd.R_reads' HO_341001.out).2.1); rintro e w34 ⟨rfl, hb⟩; refine ⟨_, rfl, ?_⟩; have n0_ := Aside0.mk (Kd.R_below (rk HO_341001.out) hb); have n1_ := Aside0.mk (bb BK333.out hb); have n2_ := Aside0.mk (bb BK340.out hb); have n3_ := Aside0.mk (IsS62.below (by repeat (first | (with_reducible first | exact HI0.out | apply IsS62.alloc | apply IsS62.drewN | apply IsS62.drew | apply IsS62.set_1 | apply IsS62.set_2 | refine IsS62.far ?_ NB0_333.out _ | refine IsS62.far ?_ NB0_340.out _) | exact HI0.out)) hb); have n4_ := Aside0.mk (KeepBut.trans (by repeat (first | (with_reducible first | exact HK.out | apply KeepBut.set_ | apply keep_drewN | apply keep_drew | apply keep_alloc | refine keep_far ?_ GW333.out _ | refine keep_far ?_ GW340.out _) | exact HK.out)) (KeepBut.of_below hb g none) (.inl rfl)); have n5_ := Aside0.mk (below_step (by repeat (first | (with_reducible first | exact HB.out | apply below_alloc | apply pw_below_drewN | apply below_drew1 | refine below_set ?_ (IsS62.ge HI0.out) | refine below_set ?_ GE333.out | refine below_set ?_ GE340.out) | exact HB.out)) hb); clear HO_341001; clear BK333; clear BK340; clear HI0; clear HK; clear HB; have HO_341001 := n0_; have BK333 := n1_; have BK340 := n2_; have HI0 := n3_; have HK := n4_; have HB := n5_; clear n0_ n1_ n2_ n3_ n4_ n5_; (try clear hb)) | ((with_reducible refine gate_callee (f := 60) rfl ?_); refine goesL_ (some 30) rfl rfl Try.func60 (by kernel_rfl) rfl #[.pointer (some ⟨g, 0, none⟩), .int .i64 2] rfl ga ?_; (with_reducible refine (spec_l01Once.calls g s0_0 x1001_1 x1002_1 2 false t348 t349 w0 _ ?side1 ?side2 A16.out).mono ?_); (case side1 => repeat (first | (with_reducible first | exact HI0.out | apply IsS62.alloc | apply IsS62.drewN | apply IsS62.drew | apply IsS62.set_1 | apply IsS62.set_2 | refine IsS62.far ?_ NB0_333.out _ | refine IsS62.far ?_ NB0_340.out _) | exact HI0.out)); (case side2 => repeat (first | (with_reducible first | exact HB.out | apply below_alloc | apply pw_below_drewN | apply below_drew1 | refine below_set ?_ (IsS62.ge HI0.out) | refine below_set ?_ GE333.out | refine below_set ?_ GE340.out) | exact HB.out)); rintro e w35 ⟨rfl, hi, hb, hk⟩; refine ⟨_, rfl, ?_⟩; replace HO_341001 := Aside0.mk (Kd.R_mono (Kd.R_keep (IsS62.apart (show IsS62 w0 _ g s0_0 x1001_1 x1002_1 from by repeat (first | (with_reducible first | exact HI0.out | apply IsS62.alloc | apply IsS62.drewN | apply IsS62.drew | apply IsS62.set_1 | apply IsS62.set_2 | refine IsS62.far ?_ NB0_333.out _ | refine IsS62.far ?_ NB0_340.out _) | exact HI0.out)) (rk HO_341001.out) (by decide)) hk (fun _ h => h.2)) (fun _ h => h.1)); replace HI0 := Aside0.mk (hi); replace BK333 := Aside0.mk (KeepBut.blk hk (g' := gb333) (o := .cells #[.int .i64 0, .slice none 0 0] 36 (0, 0)) (bk BK333.out) NB333_0.out (by simp)); replace BK340 := Aside0.mk (KeepBut.blk hk (g' := gb340) (o := .cells #[.int .i64 t337, .slice Ao33 x341001_1.length co33] 36 (0, 0)) (bk BK340.out) NB340_0.out (by simp)); replace HK := Aside0.mk (KeepBut.trans (by repeat (first | (with_reducible first | exact HK.out | apply KeepBut.set_ | apply keep_drewN | apply keep_drew | apply keep_alloc | refine keep_far ?_ GW333.out _ | refine keep_far ?_ GW340.out _) | exact HK.out)) hk (.inl rfl)); replace HB := Aside0.mk (hb); (try clear hb); (try clear hk); (try clear hi); obtain ⟨hcz36_0, hcz36_1, hfz36_0, hfz36_1⟩ := cf2 BK340.out) | ((with_reducible refine gate_builtin (b := .append) (xs := #[.tmp 33, .tmp 35]) rfl ?_); at_builtin; refine Kd.R_append (Kd.int .i64) w.heap.size rfl (.tmp 33) (.tmp 35) 25 3 (.int .i64 0) 8 rfl Try.underlying25 info3 rfl (by decide) (by omega) (.slice Ao33 x341001_1.length co33) x341001_1 t344 [.int .i64 t344] (fun _ => True) (fun _ => False) rfl rfl ?aP (fun _ hk => hk.elim) ?aF ?aO (Below.refl _ _) ?aS ?aL ?_; (case aP => exact rfl); (case aF => exact (fun _ _ => trivial)); (case aO => exact (rk HO_341001.out)); (case aS => exact (keep_size (w := w) (g := g) (row := none) (by repeat (first | (with_reducible first | exact HK.out | apply KeepBut.set_ | apply keep_drewN | apply keep_drew | apply keep_alloc | refine keep_far ?_ GW333.out _ | refine keep_far ?_ GW340.out _) | exact HK.out)))); (case aL => have := LMc29.out; omega); intro v354 w37 ho hb hg hat; rw [← Ny353.out] at ho; have n0_ := Aside0.mk (blk_grown (g := gb333) (o := .cells #[.int .i64 0, .slice none 0 0] 36 (0, 0)) (bk BK333.out) hg (Kd.R_ne HO_341001.out BK333.out (by decide))); have n1_ := Aside0.mk (blk_grown (g := gb340) (o := .cells #[.int .i64 t337, .slice Ao33 x341001_1.length co33] 36 (0, 0)) (bk BK340.out) hg (Kd.R_ne HO_341001.out BK340.out (by decide))); have n2_ := Aside0.mk (IsS62.grown (by repeat (first | (with_reducible first | exact HI0.out | apply IsS62.alloc | apply IsS62.drewN | apply IsS62.drew | apply IsS62.set_1 | apply IsS62.set_2 | refine IsS62.far ?_ NB0_333.out _ | refine IsS62.far ?_ NB0_340.out _) | exact HI0.out)) hg (IsS62.own_ne HI0.out HO_341001.out (by decide))); have n3_ := Aside0.mk (below_weaken (by repeat (first | (with_reducible first | exact HB.out | apply below_alloc | apply pw_below_drewN | apply below_drew1 | refine below_set ?_ (IsS62.ge HI0.out) | refine below_set ?_ GE333.out | refine below_set ?_ GE340.out) | exact HB.out)) HL.out hb); have n4_ := Aside0.mk (KeepBut.trans (by repeat (first | (with_reducible first | exact HK.out | apply KeepBut.set_ | apply keep_drewN | apply keep_drew | apply keep_alloc | refine keep_far ?_ GW333.out _ | refine keep_far ?_ GW340.out _) | exact HK.out)) (KeepBut.of_grown hg g) (Kd.R_base2 HO_341001.out)); have n5_ := Aside0.mk (ho); clear BK333; clear BK340; clear HI0; clear HB; clear HK; clear HO_341001; have BK333 := n0_; have BK340 := n1_; have HI0 := n2_; have HB := n3_; have HK := n4_; have HO355 := n5_; clear n0_ n1_ n2_ n3_ n4_ n5_; clear ho hb hg hat; obtain ⟨Ao38, co38, eo38⟩ := Kd.R_slice HO355.out; subst eo38; obtain ⟨hcz39_0, hcz39_1, hfz39_0, hfz39_1⟩ := cf2 BK340.out))
            go_roundg k1
            case measure => have := HK1.out; omega
            case rel => exact ⟨(wrap64 (x4_1 - 1)), (t348), (t349), (y353), (.slice Ao38 y353.length co38), (es), H', ⟨by have := HK1.out; omega⟩, ⟨by (with_reducible repeat (first | apply Kd.R_alloc | apply Kd.R_drewN | apply Kd.R_drew)); exact Kd.R_mono (Kd.R_far (p := ⟨gb340, 1, none⟩) (Kd.R_types HO355.out BK340.out (by decide)) (fun _ hk => hk.2) (.slice Ao38 y353.length co38)) (fun _ hk => trivial)⟩, ⟨bk BK333.out⟩, ⟨by (with_reducible repeat (first | refine blk_drewN ?_ _ | refine blk_drew ?_ | refine blk_alloc ?_ _)); refine blk_put (cs := #[.int .i64 t337, .slice Ao33 x341001_1.length co33]) ?_ 1 _ rfl; (with_reducible repeat (first | refine blk_drewN ?_ _ | refine blk_drew ?_ | refine blk_alloc ?_ _)); exact BK340.out⟩, ⟨by repeat (first | (with_reducible first | exact HI0.out | apply IsS62.alloc | apply IsS62.drewN | apply IsS62.drew | apply IsS62.set_1 | apply IsS62.set_2 | refine IsS62.far ?_ NB0_333.out _ | refine IsS62.far ?_ NB0_340.out _) | exact HI0.out)⟩, ⟨by repeat (first | (with_reducible first | exact HK.out | apply KeepBut.set_ | apply keep_drewN | apply keep_drew | apply keep_alloc | refine keep_far ?_ GW333.out _ | refine keep_far ?_ GW340.out _) | exact HK.out)⟩, ⟨by repeat (first | (with_reducible first | exact HB.out | apply below_alloc | apply pw_below_drewN | apply below_drew1 | refine below_set ?_ (IsS62.ge HI0.out) | refine below_set ?_ GE333.out | refine below_set ?_ GE340.out) | exact HB.out)⟩⟩
          · rw [if_neg c29] at H
            exact absurd H (by simp)
      · rw [if_neg c14] at H
        have c14b0 : decide (0 < x4_1) = false := decide_eq_false c14
        clear c14
        simp only [Option.some.injEq, Prod.mk.injEq] at H
        obtain ⟨rfl, rfl, rfl, rfl⟩ := H
        have hnb40 := NB340_333.out
        have hnc40 := NB333_340.out
        have hnb41 := NB340_0.out
        have hnc41 := NB0_340.out
        obtain ⟨hcz42_0, hcz42_1, hfz42_0, hfz42_1⟩ := cf2 BK340.out
        have hnb43 := NB333_0.out
        have hnc43 := NB0_333.out
        obtain ⟨hcz44_0, hcz44_1, hfz44_0, hfz44_1⟩ := cf2 BK333.out
        obtain ⟨Ao45, co45, eo45⟩ := Kd.R_slice HO_341001.out
        subst eo45
        go_wp2
        refine bodyPost_ret (results_cell_row rfl _ _ gb333 36 #[.int .i64 t337, .slice Ao45 x341001_1.length co45] (0, 0) _ rfl (by (with_reducible repeat (first | refine blk_drewN ?_ _ | refine blk_drew ?_ | refine blk_alloc ?_ _)); refine blk_put (cs := #[.int .i64 t337, .slice none 0 0]) ?_ 1 _ rfl; (with_reducible repeat (first | refine blk_drewN ?_ _ | refine blk_drew ?_ | refine blk_alloc ?_ _)); refine blk_put (cs := #[.int .i64 0, .slice none 0 0]) ?_ 0 _ rfl; (with_reducible repeat (first | refine blk_drewN ?_ _ | refine blk_drew ?_ | refine blk_alloc ?_ _)); exact BK333.out) Try.underlying36 rfl (by kernel_rfl)) rfl ?_
        exact ⟨_, er, by (with_reducible repeat (first | apply Kd.R_alloc | apply Kd.R_drewN | apply Kd.R_drew)); exact Kd.R_mono (Kd.R_far (p := ⟨gb333, 1, none⟩) (Kd.R_far (p := ⟨gb333, 0, none⟩) (Kd.R_types HO_341001.out BK333.out (by decide)) (fun _ hk => hk.2) (.int .i64 t337)) (fun _ hk => hk.2) (.slice Ao45 x341001_1.length co45)) (fun _ hk => trivial), by repeat (first | (with_reducible first | exact HI0.out | apply IsS62.alloc | apply IsS62.drewN | apply IsS62.drew | apply IsS62.set_1 | apply IsS62.set_2 | refine IsS62.far ?_ NB0_333.out _ | refine IsS62.far ?_ NB0_340.out _) | exact HI0.out), by repeat (first | (with_reducible first | exact HB.out | apply below_alloc | apply pw_below_drewN | apply below_drew1 | refine below_set ?_ (IsS62.ge HI0.out) | refine below_set ?_ GE333.out | refine below_set ?_ GE340.out) | exact HB.out), by repeat (first | (with_reducible first | exact HK.out | apply KeepBut.set_ | apply keep_drewN | apply keep_drew | apply keep_alloc | refine keep_far ?_ GW333.out _ | refine keep_far ?_ GW340.out _) | exact HK.out)⟩

/-! ### spec_l01New: function 52 -/
def spec_l01New.l0 : Nat → List Int → Int → Int → Option (List Int × Int × Int)
  | 0, _, _, _ => none
  | k + 1, x0, x3, x4 => if x4 < (x0.length : Int) then (if x4 < 4000 then (if 0 ≤ x4 then (spec_l01New.l0 k x0 (Go.bits .and .i64 (wrap64 ((wrap64 ((wrap64 (x3 * 89)) + (wrap64 (rd x0 x4)))) + 7)) 1073741823) (wrap64 (x4 + 1))) else (none)) else (some (x0, 0, x3))) else (some (x0, 0, x3))
def spec_l01New.f (k : Nat) (l0 : List Int) : Option (List Int × Int × Int) := spec_l01New.l0 k l0 (wrap64 (1978 + (l0.length : Int))) 0
theorem spec_l01New.mono_l : ∀ k, (∀ y0 y1 y2, LeO (spec_l01New.l0 k y0 y1 y2) (spec_l01New.l0 (k + 1) y0 y1 y2))
  | 0 => fun _ _ _ r h => by simp [spec_l01New.l0] at h
  | k + 1 => by
    have ih0 := spec_l01New.mono_l k
    · intro y0 y1 y2
      unfold spec_l01New.l0
      repeat' first
      | (with_reducible exact ih0 _ _ _)
      | (with_reducible exact LeO.refl _)
      | (with_reducible exact LeO.none _)
      | (with_reducible refine LeO.ite ?_ ?_)
      | (with_reducible refine LeO.bind ?_ (fun _ => ?_))
      | exact ih0 _ _ _
      | exact LeO.none _
      | refine LeO.ite ?_ ?_
      | refine LeO.bind ?_ (fun _ => ?_)
theorem spec_l01New.mono : ∀ a0 k, LeO (spec_l01New.f k a0) (spec_l01New.f (k + 1) a0) := by
  intro a0 k
  have ih0 := spec_l01New.mono_l k
  unfold spec_l01New.f
  repeat' first
      | (with_reducible exact ih0 _ _ _)
      | (with_reducible exact LeO.refl _)
      | (with_reducible exact LeO.none _)
      | (with_reducible refine LeO.ite ?_ ?_)
      | (with_reducible refine LeO.bind ?_ (fun _ => ?_))
      | exact ih0 _ _ _
      | exact LeO.none _
      | refine LeO.ite ?_ ?_
      | refine LeO.bind ?_ (fun _ => ?_)
set_option maxHeartbeats 8000000 in
set_option maxRecDepth 100000 in
theorem spec_l01New.calls (k : Nat) (A0 : Option Addr) (c0 : Nat) (l0 : List Int) (r1 : List Int) (r2 : Int) (r3 : Int) (w0 w : World) (hB : Below w0.heap.size w0 w) (hr0 : Kd.C (Kd.int .u8) w0 A0 l0.length l0) (hc0 : l0.length ≤ c0) (h : spec_l01New.f k l0 = some (r1, r2, r3)) :
    Calls Try.prog 52 #[.slice A0 l0.length c0] w fun e w' => ∃ g_ : Nat, e = .returned (.pointer (some ⟨g_, 0, none⟩)) ∧ IsS62 w0 w' g_ r1 r2 r3 ∧ Below w0.heap.size w0 w' ∧ Below w.heap.size w w' := by
  have hu62 := Try.underlying62
  have HR0 := Aside0.mk hr0
  have HC0 := Aside0.mk hc0
  clear hr0 hc0
  have HBW := Aside0.mk (Below.refl w.heap.size w)
  have HW0 := Aside0.mk hB.size
  have HB := Aside0.mk hB
  clear hB
  have H : (spec_l01New.l0 k l0 (wrap64 (1978 + (l0.length : Int))) 0) = some (r1, r2, r3) := h
  clear h
  have H' := Aside0.mk H
  clear H
  go_enter Try.func52, Try.ntmps52
  go_wp2
  go_loopg [3, 4] k (fun kq v3 v4 w' => ∃ (x3_1 : Int) (x4_1 : Int), v3 = .int .i64 x3_1 ∧ v4 = .int .i64 x4_1 ∧ Aside0 (spec_l01New.l0 kq l0 x3_1 x4_1 = some (r1, r2, r3)) ∧ Aside0 (kq ≤ k) ∧ Aside0 (Below w0.heap.size w0 w') ∧ Aside0 (Below w.heap.size w w'))
  case atStart => exact ⟨(wrap64 (1978 + (l0.length : Int))), (0), (es), (es), H', ⟨Nat.le_refl _⟩, ⟨bel⟩, ⟨bel⟩⟩
  case round =>
    clear H'
    obtain ⟨x3_1, x4_1, rfl, rfl, HA, HK1, HB, HBW⟩ := hrel
    cases gk with
    | zero => exact absurd HA.out (by simp [spec_l01New.l0])
    | succ k1 =>
      have H := HA.out
      clear HA
      simp only [spec_l01New.l0] at H
      by_cases c2 : x4_1 < (l0.length : Int)
      · rw [if_pos c2] at H
        have c2b0 : decide (x4_1 < (l0.length : Int)) = true := decide_eq_true c2
        clear c2
        by_cases c3 : x4_1 < 4000
        · rw [if_pos c3] at H
          have c3b0 : decide (x4_1 < 4000) = true := decide_eq_true c3
          clear c3
          by_cases c4 : 0 ≤ x4_1
          · rw [if_pos c4] at H
            have c4b0 : decide (0 ≤ x4_1) = true := decide_eq_true c4
            clear c4
            have H' := Aside0.mk H
            clear H
            have p356 : 0 ≤ (x4_1 : Int) := asm
            have q356 : x4_1 < (l0.length : Int) := asm
            obtain ⟨ad356, e356, hx356_0⟩ := Kd.at_int HR0.out x4_1 p356 q356
            cases e356
            replace hx356_0 := pw_cell_below HB.out hx356_0
            replace p356 := eq_true p356
            replace q356 := eq_true q356
            go_wp2
            go_roundg k1
            case measure => have := HK1.out; omega
            case rel => exact ⟨(Go.bits .and .i64 (wrap64 ((wrap64 ((wrap64 (x3_1 * 89)) + (wrap64 (rd l0 x4_1)))) + 7)) 1073741823), (wrap64 (x4_1 + 1)), (es), (es), H', ⟨by have := HK1.out; omega⟩, ⟨bel⟩, ⟨bel⟩⟩
          · rw [if_neg c4] at H
            exact absurd H (by simp)
        · rw [if_neg c3] at H
          have c3b0 : decide (x4_1 < 4000) = false := decide_eq_false c3
          clear c3
          simp only [Option.some.injEq, Prod.mk.injEq] at H
          obtain ⟨rfl, rfl, rfl⟩ := H
          go_wp2_with (first | ((with_reducible refine gate_dst (N := 31) rfl ?_); refine box_event ?hg (N := 31) ?hd (cs := #[.slice A0 l0.length c0, .int .i64 0, .int .i64 x3_1]) (t := 62) ?hr ?_; (case hd => rfl); (case hg => rfl); (case hr => first | (go_simp; done) | (go_simp; rfl)); intro gb357 hg w5 hbox hb; have BK357 := Aside0.mk (hbox); have GW357 := Aside0.mk ((bsz hg : w.heap.size ≤ gb357)); have GE357 := Aside0.mk ((Nat.le_trans HW0.out (bsz hg : w.heap.size ≤ gb357) : w0.heap.size ≤ gb357)); replace HBW := Aside0.mk (below_step HBW.out hb); replace HB := Aside0.mk (below_step bel hb); clear hb hbox hg))
          go_ret
          exact ⟨_, rfl, (show IsS62 w0 _ gb357 l0 0 x3_1 from ⟨_, _, bk BK357.out, GE357.out, HR0.out⟩), bel, bel⟩
      · rw [if_neg c2] at H
        have c2b0 : decide (x4_1 < (l0.length : Int)) = false := decide_eq_false c2
        clear c2
        simp only [Option.some.injEq, Prod.mk.injEq] at H
        obtain ⟨rfl, rfl, rfl⟩ := H
        go_wp2_with (first | ((with_reducible refine gate_dst (N := 31) rfl ?_); refine box_event ?hg (N := 31) ?hd (cs := #[.slice A0 l0.length c0, .int .i64 0, .int .i64 x3_1]) (t := 62) ?hr ?_; (case hd => rfl); (case hg => rfl); (case hr => first | (go_simp; done) | (go_simp; rfl)); intro gb358 hg w6 hbox hb; have BK358 := Aside0.mk (hbox); have GW358 := Aside0.mk ((bsz hg : w.heap.size ≤ gb358)); have GE358 := Aside0.mk ((Nat.le_trans HW0.out (bsz hg : w.heap.size ≤ gb358) : w0.heap.size ≤ gb358)); replace HBW := Aside0.mk (below_step HBW.out hb); replace HB := Aside0.mk (below_step bel hb); clear hb hbox hg))
        go_ret
        exact ⟨_, rfl, (show IsS62 w0 _ gb358 l0 0 x3_1 from ⟨_, _, bk BK358.out, GE358.out, HR0.out⟩), bel, bel⟩

end Go.Proofs.Ytpacmpppiphfjaa.X
