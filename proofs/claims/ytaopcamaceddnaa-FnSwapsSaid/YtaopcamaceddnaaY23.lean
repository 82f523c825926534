-- Written by a program of this session (wip/xp.py, over the kit's print) out of the translation: functions, and the walks that show them.
import Derived.Test.YtaopcamaceddnaaY0
namespace Go.Proofs.Ytaopcamaceddnaa.Y
open Go.RowKit Go.Proofs.YtaopcamaceddnaaW.PrintWords Go.Proofs.YtaopcamaceddnaaW.PrintLast Go.Proofs.YtaopcamaceddnaaW.PrintMore
attribute [local go_sem] max2_int min2_int max_two min_two max_three min_three max_four min_four   -- for this text's walks alone
set_option linter.unusedVariables false
set_option linter.unusedSimpArgs false

/-! ### spec_l20Copy: function 56 -/
def spec_l20Copy.l0 : Nat → List (S38) → List (S38) → Int → Int → Option ((List (S38)))
  | 0, _, _, _, _ => none
  | k + 1, x3, x7, x8, x9 => if x9 < x8 then (if 0 ≤ x9 then (if x9 < (x7.length : Int) then ((some (([] : List Int) : List Int)).bind fun y408 => (if y408.length + ((rd_T38 x7 x9).f0).length < 17592186044416 then (if x3.length < 3518437208883 then (spec_l20Copy.l0 k (x3 ++ [(⟨(y408 ++ ((rd_T38 x7 x9).f0)), (rd_T38 x7 x9).f1, (rd_T38 x7 x9).f2⟩ : S38)]) x7 x8 (wrap64 (x9 + 1))) else (none)) else (none))) else (none)) else (none)) else (some x3)
def spec_l20Copy.f (k : Nat) (l0 : List (S38)) : Option ((List (S38))) := spec_l20Copy.l0 k (([] : List (S38))) l0 (l0.length : Int) 0
theorem spec_l20Copy.mono_l : ∀ k, (∀ y0 y1 y2 y3, LeO (spec_l20Copy.l0 k y0 y1 y2 y3) (spec_l20Copy.l0 (k + 1) y0 y1 y2 y3))
  | 0 => fun _ _ _ _ r h => by simp [spec_l20Copy.l0] at h
  | k + 1 => by
    have ih0 := spec_l20Copy.mono_l k
    · intro y0 y1 y2 y3
      unfold spec_l20Copy.l0
      repeat' first
      | (with_reducible exact ih0 _ _ _ _)
      | (with_reducible exact LeO.refl _)
      | (with_reducible exact LeO.none _)
      | (with_reducible refine LeO.ite ?_ ?_)
      | (with_reducible refine LeO.bind ?_ (fun _ => ?_))
      | exact ih0 _ _ _ _
      | exact LeO.none _
      | refine LeO.ite ?_ ?_
      | refine LeO.bind ?_ (fun _ => ?_)
theorem spec_l20Copy.mono : ∀ a0 k, LeO (spec_l20Copy.f k a0) (spec_l20Copy.f (k + 1) a0) := by
  intro a0 k
  have ih0 := spec_l20Copy.mono_l k
  unfold spec_l20Copy.f
  repeat' first
      | (with_reducible exact ih0 _ _ _ _)
      | (with_reducible exact LeO.refl _)
      | (with_reducible exact LeO.none _)
      | (with_reducible refine LeO.ite ?_ ?_)
      | (with_reducible refine LeO.bind ?_ (fun _ => ?_))
      | exact ih0 _ _ _ _
      | exact LeO.none _
      | refine LeO.ite ?_ ?_
      | refine LeO.bind ?_ (fun _ => ?_)
set_option maxHeartbeats 8000000 in
set_option maxRecDepth 100000 in
theorem spec_l20Copy.calls (k : Nat) (A0 : Option Addr) (c0 : Nat) (l0 : List (S38)) (r : List (S38)) (w : World) (hr0 : Kd.C k38 w A0 l0.length l0) (hc0 : l0.length ≤ c0) (h : spec_l20Copy.f k l0 = some r) :
    Calls Try.prog 56 #[.slice A0 l0.length c0] w fun e w' => ∃ v0_ : Value, e = .returned (v0_) ∧ Kd.S k38 38 w' w.heap.size (fun _ => True) v0_ r ∧ Below w.heap.size w w' := by
  have hu38 := Try.underlying38
  have HR0 := Aside0.mk hr0
  have HC0 := Aside0.mk hc0
  clear hr0 hc0
  have HB := Aside0.mk (Below.refl w.heap.size w)
  have H : (spec_l20Copy.l0 k (([] : List (S38))) l0 (l0.length : Int) 0) = some r := h
  clear h
  obtain ⟨y403, hy403⟩ : ∃ y_ : List (S38), y_ = (([] : List (S38))) := ⟨_, rfl⟩
  replace H : (spec_l20Copy.l0 k y403 l0 (l0.length : Int) 0) = some r := by first | (rw [hy403]; with_reducible exact H) | (have H2_ := (Option.bind_some _ _).symm.trans H; rw [hy403]; with_reducible exact H2_) | (have H2_ := (Option.bind_some _ _).symm.trans H; with_reducible exact H2_) | with_reducible exact H | (rw [hy403]; exact H) | exact H
  have Ny403 := Aside0.mk hy403
  clear hy403
  have H' := Aside0.mk H
  clear H
  go_enter Try.func56, Try.ntmps56
  go_wp2_with (first | ((with_reducible refine gate_dst (N := 6) rfl ?_); refine Kd.S_lit k38 _ 38 ?hg (N := 6) ?hd (xs := ([] : List (S38))) (inner := []) (ok := fun _ => True) (okp := fun _ => True) ?hr ?hp (fun _ hk => hk) trivial (Below.refl _ _) (Nat.le_refl _) (by simp) ?_; (case hd => rfl); (case hg => rfl); (case hr => first | (go_simp; done) | (go_simp; rfl)); (case hp => exact (Reps.none _ _)); intro v404 w2 ho3 hb hg_ hnew_; clear hg_ hnew_; (first | rw [← Ny403.out] at ho3 | (simp only [Int.reduceToNat] at ho3; rw [← Ny403.out] at ho3)); have HO405 := Aside0.mk (Kd.S_lower ho3 (below_size bel)); replace HB := Aside0.mk (below_step bel hb); clear hb ho3))
  go_loopg [3, 9] k (fun kq v3 v9 w' => ∃ (x3_1 : List (S38)) (x9_1 : Int), v9 = .int .i64 x9_1 ∧ Aside0 (spec_l20Copy.l0 kq x3_1 l0 (l0.length : Int) x9_1 = some r) ∧ Aside0 (kq ≤ k) ∧ Aside0 (Kd.S k38 38 w' w.heap.size (fun _ => True) v3 x3_1) ∧ Aside0 (Below w.heap.size w w'))
  case atStart => exact ⟨(y403), (0), (es), H', ⟨Nat.le_refl _⟩, ⟨by (with_reducible repeat (first | apply Kd.S_alloc | apply Kd.S_drewN | apply Kd.S_drew)); exact HO405.out⟩, ⟨bel⟩⟩
  case round =>
    clear H'
    try clear p2
    obtain ⟨x3_1, x9_1, rfl, HA, HK1, HO_3, HB⟩ := hrel
    cases gk with
    | zero => exact absurd HA.out (by simp [spec_l20Copy.l0])
    | succ k1 =>
      have H := HA.out
      clear HA
      simp only [spec_l20Copy.l0] at H
      by_cases c4 : x9_1 < (l0.length : Int)
      · rw [if_pos c4] at H
        have c4b0 : decide (x9_1 < (l0.length : Int)) = true := decide_eq_true c4
        clear c4
        by_cases c5 : 0 ≤ x9_1
        · rw [if_pos c5] at H
          have c5b0 : decide (0 ≤ x9_1) = true := decide_eq_true c5
          clear c5
          by_cases c6 : x9_1 < (l0.length : Int)
          · rw [if_pos c6] at H
            have c6b0 : decide (x9_1 < (l0.length : Int)) = true := decide_eq_true c6
            clear c6
            obtain ⟨y408, hy408⟩ : ∃ y_ : List Int, y_ = (([] : List Int)) := ⟨_, rfl⟩
            replace H : (if y408.length + ((rd_T38 l0 x9_1).f0).length < 17592186044416 then (if x3_1.length < 3518437208883 then (spec_l20Copy.l0 k1 (x3_1 ++ [(⟨(y408 ++ ((rd_T38 l0 x9_1).f0)), (rd_T38 l0 x9_1).f1, (rd_T38 l0 x9_1).f2⟩ : S38)]) l0 (l0.length : Int) (wrap64 (x9_1 + 1))) else (none)) else (none)) = some r := by first | (rw [hy408]; with_reducible exact H) | (have H2_ := (Option.bind_some _ _).symm.trans H; rw [hy408]; with_reducible exact H2_) | (have H2_ := (Option.bind_some _ _).symm.trans H; with_reducible exact H2_) | with_reducible exact H | (rw [hy408]; exact H) | exact H
            have Ny408 := Aside0.mk hy408
            clear hy408
            by_cases c7 : y408.length + ((rd_T38 l0 x9_1).f0).length < 17592186044416
            · rw [if_pos c7] at H
              have LMc7 := Aside0.mk c7
              clear c7
              obtain ⟨y411, hy411⟩ : ∃ y_ : List Int, y_ = (y408 ++ ((rd_T38 l0 x9_1).f0)) := ⟨_, rfl⟩
              replace H : (if x3_1.length < 3518437208883 then (spec_l20Copy.l0 k1 (x3_1 ++ [(⟨y411, (rd_T38 l0 x9_1).f1, (rd_T38 l0 x9_1).f2⟩ : S38)]) l0 (l0.length : Int) (wrap64 (x9_1 + 1))) else (none)) = some r := by first | (rw [hy411]; with_reducible exact H) | (have H2_ := (Option.bind_some _ _).symm.trans H; rw [hy411]; with_reducible exact H2_) | (have H2_ := (Option.bind_some _ _).symm.trans H; with_reducible exact H2_) | with_reducible exact H | (rw [hy411]; exact H) | exact H
              have Ny411 := Aside0.mk hy411
              clear hy411
              by_cases c8 : x3_1.length < 3518437208883
              · rw [if_pos c8] at H
                have LMc8 := Aside0.mk c8
                clear c8
                obtain ⟨y414, hy414⟩ : ∃ y_ : List (S38), y_ = (x3_1 ++ [(⟨y411, (rd_T38 l0 x9_1).f1, (rd_T38 l0 x9_1).f2⟩ : S38)]) := ⟨_, rfl⟩
                replace H : (spec_l20Copy.l0 k1 y414 l0 (l0.length : Int) (wrap64 (x9_1 + 1))) = some r := by first | (rw [hy414]; with_reducible exact H) | (have H2_ := (Option.bind_some _ _).symm.trans H; rw [hy414]; with_reducible exact H2_) | (have H2_ := (Option.bind_some _ _).symm.trans H; with_reducible exact H2_) | with_reducible exact H | (rw [hy414]; exact H) | exact H
                have Ny414 := Aside0.mk hy414
                clear hy414
                have H' := Aside0.mk H
                clear H
                have p406 : 0 ≤ (x9_1 : Int) := asm
                have q406 : x9_1 < (l0.length : Int) := asm
                obtain ⟨ad406, A406_0, c406_0, e406, hx406_0, hx406_1, hx406_2, hl406_0, hi406_0⟩ := at_T38 HR0.out x9_1 p406 q406
                cases e406
                replace hx406_0 := hcl HB.out hx406_0
                replace hx406_1 := hcl HB.out hx406_1
                replace hx406_2 := hcl HB.out hx406_2
                have HR406_0 := Aside0.mk hi406_0
                have HC406_0 := Aside0.mk hl406_0
                clear hi406_0 hl406_0
                replace p406 := eq_true p406
                replace q406 := eq_true q406
                go_wp2_with (first | ((with_reducible refine gate_dst (N := 5) rfl ?_); refine box_event ?hg (N := 5) ?hd (cs := #[.slice none 0 0, .int .i64 0, .int .i64 0]) (t := 38) ?hr ?_; (case hd => rfl); (case hg => rfl); (case hr => first | (go_simp; done) | (go_simp; rfl)); intro gb407 hg w9 hbox hb; have BK407 := Aside0.mk (hbox); have GW407 := Aside0.mk ((bsz hg : w.heap.size ≤ gb407)); have GE407 := Aside0.mk ((bsz hg : w.heap.size ≤ gb407)); replace HO_3 := Aside0.mk (Kd.S_below (Kd.S_elderB (by (with_reducible repeat (first | apply Kd.S_alloc | apply Kd.S_drewN | apply Kd.S_drew)); exact HO_3.out) gb407 (Nat.le_of_eq hg.symm)) hb); replace HB := Aside0.mk (below_step bel hb); clear hb hbox hg; obtain ⟨hcz10_0, hcz10_1, hcz10_2, hfz10_0, hfz10_1, hfz10_2⟩ := cf3 BK407.out) | ((with_reducible refine gate_dst (N := 13) rfl ?_); refine Kd.R_lit (Kd.int .i64) _ 3 ?hg (N := 13) ?hd (xs := ([] : List Int)) (inner := []) (ok := fun _ => True) (okp := fun _ => True) ?hr ?hp (fun _ hk => hk) trivial (Below.refl _ _) (Nat.le_refl _) (by simp) ?_; (case hd => rfl); (case hg => rfl); (case hr => first | (go_simp; done) | (go_simp; rfl)); (case hp => exact (Reps.none _ _)); intro v409 w11 ho12 hb hg_ hnew_; clear hg_ hnew_; (first | rw [← Ny408.out] at ho12 | (simp only [Int.reduceToNat] at ho12; rw [← Ny408.out] at ho12)); have HO410 := Aside0.mk (Kd.R_lower ho12 (below_size bel)); replace HO_3 := Aside0.mk (Kd.S_elder' (by (with_reducible repeat (first | apply Kd.S_alloc | apply Kd.S_drewN | apply Kd.S_drew)); exact (Kd.S_mono (Kd.S_far (p := ⟨gb407, 2, none⟩) (Kd.S_far (p := ⟨gb407, 1, none⟩) (Kd.S_far (p := ⟨gb407, 0, none⟩) (Kd.S_mono HO_3.out (fun k_ hk => (⟨hk, hk.2⟩ : _ ∧ k_ ≠ gb407))) (fun _ hk => hk.2) (.slice A406_0 ((rd_T38 l0 x9_1).f0).length c406_0)) (fun _ hk => hk.2) (.int .i64 ((rd_T38 l0 x9_1).f1))) (fun _ hk => hk.2) (.int .i64 ((rd_T38 l0 x9_1).f2))) (fun _ h_ => h_.1))) (Kd.R_base ho12) hb); replace BK407 := Aside0.mk (blk_below (g := gb407) (o := .cells #[.slice A406_0 ((rd_T38 l0 x9_1).f0).length c406_0, .int .i64 ((rd_T38 l0 x9_1).f1), .int .i64 ((rd_T38 l0 x9_1).f2)] 38 (0, 0)) (by (with_reducible repeat (first | refine blk_drewN ?_ _ | refine blk_drew ?_ | refine blk_alloc ?_ _)); refine blk_put (cs := #[.slice A406_0 ((rd_T38 l0 x9_1).f0).length c406_0, .int .i64 ((rd_T38 l0 x9_1).f1), .int .i64 0]) ?_ 2 _ rfl; (with_reducible repeat (first | refine blk_drewN ?_ _ | refine blk_drew ?_ | refine blk_alloc ?_ _)); refine blk_put (cs := #[.slice A406_0 ((rd_T38 l0 x9_1).f0).length c406_0, .int .i64 0, .int .i64 0]) ?_ 1 _ rfl; (with_reducible repeat (first | refine blk_drewN ?_ _ | refine blk_drew ?_ | refine blk_alloc ?_ _)); refine blk_put (cs := #[.slice none 0 0, .int .i64 0, .int .i64 0]) ?_ 0 _ rfl; (with_reducible repeat (first | refine blk_drewN ?_ _ | refine blk_drew ?_ | refine blk_alloc ?_ _)); exact BK407.out) hb); replace HB := Aside0.mk (below_step bel hb); clear hb ho12; obtain ⟨hcz13_0, hcz13_1, hcz13_2, hfz13_0, hfz13_1, hfz13_2⟩ := cf3 BK407.out) | ((with_reducible refine gate_builtin (b := .append) (xs := #[.tmp 13, .tmp 15]) rfl ?_); at_builtin; refine Kd.R_append_rows (Kd.int .i64) (w0 := w) w.heap.size rfl (.tmp 13) (.tmp 15) 35 3 (.int .i64 0) 8 rfl Try.underlying35 info3 rfl (by decide) (by omega) v409 y408 ((rd_T38 l0 x9_1).f0) _ _ _ (fun _ => True) (fun _ => False) rfl rfl ?aO ?aR (fun _ _ h => h) (fun _ h => h.elim) ?aF ?aB ?aS ?aL ?_; (case aR => exact ck (Kd.C_below HR406_0.out HB.out)); (case aB => exact bel); (case aF => exact (fun _ _ => trivial)); (case aO => exact (rk HO410.out)); (case aS => exact (below_size bel)); (case aL => have := LMc7.out; omega); intro v412 w14 ho hb hg hat; rw [← Ny411.out] at ho; have n0_ := Aside0.mk (Kd.S_after (ok := (fun k_ => k_ ≠ gb407)) (by (with_reducible repeat (first | apply Kd.S_alloc | apply Kd.S_drewN | apply Kd.S_drew)); exact Kd.S_mono HO_3.out (fun _ hk => ⟨hk.1.2, hk.2⟩)) hg hat); have n1_ := Aside0.mk (blk_grown (g := gb407) (o := .cells #[.slice A406_0 ((rd_T38 l0 x9_1).f0).length c406_0, .int .i64 ((rd_T38 l0 x9_1).f1), .int .i64 ((rd_T38 l0 x9_1).f2)] 38 (0, 0)) (bk BK407.out) hg (Kd.R_ne HO410.out BK407.out (by decide))); have n2_ := Aside0.mk (hb); have n3_ := Aside0.mk (ho); clear HO_3; clear BK407; clear HB; clear HO410; have HO_3 := n0_; have BK407 := n1_; have HB := n2_; have HO413 := n3_; clear n0_ n1_ n2_ n3_; clear ho hb hg hat; obtain ⟨Ao15, co15, eo15⟩ := Kd.R_slice HO413.out; subst eo15; obtain ⟨hcz16_0, hcz16_1, hcz16_2, hfz16_0, hfz16_1, hfz16_2⟩ := cf3 BK407.out) | ((with_reducible refine gate_store (t := 35) (p := 17) rfl ?_); refine store_event (t := 35) (p := 17) (v := ?vo_w17) (w1 := (w14.setCell ⟨gb407, 0, none⟩ (.slice Ao15 y411.length co15))) ?hg ?ho ?hn ?hr ?_; (case ho => rfl); (case hg => rfl); (case hn => rfl); (case hr => first | (go_simp; done) | (go_simp; rfl)); intro w17 hw; have n0_ : Aside0 (Kd.S k38 38 w17 w.heap.size (fun k_ => some k_ ≠ (.slice Ao15 y411.length co15 : Value).ownBlock ∧ k_ ≠ gb407) u3 x3_1) := ⟨(by rw [hw]; exact (by (with_reducible repeat (first | apply Kd.S_alloc | apply Kd.S_drewN | apply Kd.S_drew)); exact Kd.S_mono (Kd.S_far (p := ⟨gb407, 0, none⟩) (Kd.S_mono HO_3.out (fun k_ hk => (⟨hk, hk.1⟩ : _ ∧ k_ ≠ gb407))) (fun _ hk => hk.2) (.slice Ao15 y411.length co15)) (fun _ hk => ⟨hk.1.2, hk.1.1⟩)))⟩; have n1_ : Aside0 (Kd.R (Kd.int .i64) 3 w17 w.heap.size (fun _ => True) (.slice Ao15 y411.length co15) y411) := ⟨(by rw [hw]; exact (by (with_reducible repeat (first | apply Kd.R_alloc | apply Kd.R_drewN | apply Kd.R_drew)); exact Kd.R_mono (Kd.R_far (p := ⟨gb407, 0, none⟩) (Kd.R_types HO413.out BK407.out (by decide)) (fun _ hk => hk.2) (.slice Ao15 y411.length co15)) (fun _ hk => trivial)))⟩; have n2_ : Aside0 (w17.heap[gb407]? = some (.cells #[.slice Ao15 y411.length co15, .int .i64 ((rd_T38 l0 x9_1).f1), .int .i64 ((rd_T38 l0 x9_1).f2)] 38 (0, 0))) := ⟨(by rw [hw]; exact (by (with_reducible repeat (first | refine blk_drewN ?_ _ | refine blk_drew ?_ | refine blk_alloc ?_ _)); refine blk_put (cs := #[.slice A406_0 ((rd_T38 l0 x9_1).f0).length c406_0, .int .i64 ((rd_T38 l0 x9_1).f1), .int .i64 ((rd_T38 l0 x9_1).f2)]) ?_ 0 _ rfl; (with_reducible repeat (first | refine blk_drewN ?_ _ | refine blk_drew ?_ | refine blk_alloc ?_ _)); exact BK407.out))⟩; have n3_ : Aside0 (Below w.heap.size w w17) := ⟨(by rw [hw]; exact bel)⟩; clear hw; clear HO_3; clear HO413; clear BK407; clear HB; have HO_3 := n0_; have HO413 := n1_; have BK407 := n2_; have HB := n3_; clear n0_ n1_ n2_ n3_; obtain ⟨hcz18_0, hcz18_1, hcz18_2, hfz18_0, hfz18_1, hfz18_2⟩ := cf3 BK407.out) | ((with_reducible refine gate_builtin (b := .append) (xs := #[.tmp 18, .tmp 20]) rfl ?_); at_builtin; refine Kd.S_append k38 (w0 := w) w.heap.size rfl (.tmp 18) (.tmp 20) 25 38 (.agg #[(.slice none 0 0), (.int .i64 0), (.int .i64 0)]) 40 rfl Try.underlying25 info38 rfl (by decide) (by omega) u3 x3_1 (⟨y411, (rd_T38 l0 x9_1).f1, (rd_T38 l0 x9_1).f2⟩ : S38) [.slice Ao15 y411.length co15, .int .i64 ((rd_T38 l0 x9_1).f1), .int .i64 ((rd_T38 l0 x9_1).f2)] (fun k_ => k_ ≠ gb407) (fun k_ => some k_ = (.slice Ao15 y411.length co15 : Value).ownBlock) rfl rfl ?aP (fun k_ hk_ => ((Kd.R_mono (ok' := fun k_ => ((fun k_ => k_ ≠ gb407)) k_ ∧ some k_ ≠ (u3 : Value).ownBlock) (Kd.R_types (Kd.R_apart' (HO413.out) (Kd.S_typed HO_3.out) (by decide)) BK407.out (by decide)) (fun k_ hk => ⟨hk.2, hk.1.2⟩))).1 k_ hk_.symm) ?aF ?aO ?aB ?aS ?aL ?_; (case aP => exact k38_mkM _ _ _ (⟨y411, (rd_T38 l0 x9_1).f1, (rd_T38 l0 x9_1).f2⟩ : S38) (Kd.R_mono (Kd.R_tight rfl (Kd.R_mono (ok' := fun k_ => ((fun k_ => k_ ≠ gb407)) k_ ∧ some k_ ≠ (u3 : Value).ownBlock) (Kd.R_types (Kd.R_apart' (HO413.out) (Kd.S_typed HO_3.out) (by decide)) BK407.out (by decide)) (fun k_ hk => ⟨hk.2, hk.1.2⟩))) (fun _ h_ => h_))); (case aB => exact bel); (case aF => exact (fun k_ hk => Kd.freshB (g := gb407) (o := .cells #[.slice Ao15 y411.length co15, .int .i64 ((rd_T38 l0 x9_1).f1), .int .i64 ((rd_T38 l0 x9_1).f2)] 38 (0, 0)) (bk BK407.out) k_ hk)); (case aO => exact (by (with_reducible repeat (first | apply Kd.S_alloc | apply Kd.S_drewN | apply Kd.S_drew)); exact Kd.S_mono HO_3.out (fun k_ hk => ⟨hk.2, fun e_ => hk.1 e_⟩))); (case aS => exact (below_size bel)); (case aL => have := LMc8.out; omega); intro v415 w19 ho hb hg hat; rw [← Ny414.out] at ho; have n0_ := Aside0.mk (blk_grown (g := gb407) (o := .cells #[.slice Ao15 y411.length co15, .int .i64 ((rd_T38 l0 x9_1).f1), .int .i64 ((rd_T38 l0 x9_1).f2)] 38 (0, 0)) (bk BK407.out) hg (Kd.S_away HO_3.out (fun _ hk => hk.2))); have n1_ := Aside0.mk (hb); have n2_ := Aside0.mk (ho); clear BK407; clear HB; clear HO_3; clear HO413; have BK407 := n0_; have HB := n1_; have HO416 := n2_; clear n0_ n1_ n2_; clear ho hb hg hat))
                go_roundg k1
                case measure => have := HK1.out; omega
                case rel => exact ⟨(y414), (wrap64 (x9_1 + 1)), (es), H', ⟨by have := HK1.out; omega⟩, ⟨by (with_reducible repeat (first | apply Kd.S_alloc | apply Kd.S_drewN | apply Kd.S_drew)); exact Kd.S_mono HO416.out (fun _ hk => trivial)⟩, ⟨bel⟩⟩
              · rw [if_neg c8] at H
                exact absurd H (by simp)
            · rw [if_neg c7] at H
              exact absurd H (by simp)
          · rw [if_neg c6] at H
            exact absurd H (by simp)
        · rw [if_neg c5] at H
          exact absurd H (by simp)
      · rw [if_neg c4] at H
        have c4b0 : decide (x9_1 < (l0.length : Int)) = false := decide_eq_false c4
        clear c4
        obtain rfl := Option.some.inj H
        go_wp2
        go_ret
        exact ⟨_, er, by (with_reducible repeat (first | apply Kd.S_alloc | apply Kd.S_drewN | apply Kd.S_drew)); exact HO_3.out, bel⟩

end Go.Proofs.Ytaopcamaceddnaa.Y
