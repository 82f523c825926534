-- Written by a program of this session (wip/xp.py, over the kit's print) out of the translation: functions, and the walks that show them.
import Derived.Test.YtaopcamaceddnaaZ0
import Derived.Test.YtaopcamaceddnaaZ1
namespace Go.Proofs.Ytaopcamaceddnaa.Z
open Go.RowKit Go.Proofs.YtaopcamaceddnaaW.PrintWords Go.Proofs.YtaopcamaceddnaaW.PrintLast Go.Proofs.YtaopcamaceddnaaW.PrintMore
attribute [local go_sem] max2_int min2_int max_two min_two max_three min_three max_four min_four   -- for this text's walks alone
set_option linter.unusedVariables false
set_option linter.unusedSimpArgs false

mutual
def impl_settle.l0 : Nat → List (S38) → List (List Int) → List Int → Int → List Int → List (S38) → Int → Int → Option ((List (List Int)) × List Int × Int)
  | 0, _, _, _, _, _, _, _, _ => none
  | k + 1, x0, x5, x6, x7, x8, x20, x21, x22 => if x22 < x21 then (if 0 ≤ x22 then (if x22 < (x20.length : Int) then (if x6.length < 17592186044416 then (impl_settle.l0 k x0 x5 (x6 ++ [(rd_T38 x20 x22).f1]) x7 x8 x20 x21 (wrap64 (x22 + 1))) else (none)) else (none)) else (none)) else (impl_settle.l1 k x5 x6 x7 x8 x0 (x0.length : Int) 0)
def impl_settle.l1 : Nat → List (List Int) → List Int → Int → List Int → List (S38) → Int → Int → Option ((List (List Int)) × List Int × Int)
  | 0, _, _, _, _, _, _, _ => none
  | k + 1, x5, x6, x7, x8, x32, x33, x34 => if x34 < x33 then (if 0 ≤ x34 then (if x34 < (x32.length : Int) then (impl_settle.l2 k x5 x6 x7 x8 x34 (([] : List Int)) x32 x33 x34 ((rd_T38 x32 x34).f0) (((rd_T38 x32 x34).f0).length : Int) 0 ((rd_T38 x32 x34).f0) ((rd_T38 x32 x34).f1) ((rd_T38 x32 x34).f2)) else (none)) else (none)) else (some (x5, x6, x7))
def impl_settle.l2 : Nat → List (List Int) → List Int → Int → List Int → Int → List Int → List (S38) → Int → Int → List Int → Int → Int → List Int → Int → Int → Option ((List (List Int)) × List Int × Int)
  | 0, _, _, _, _, _, _, _, _, _, _, _, _, _, _, _ => none
  | k + 1, x5, x6, x7, x8, x11, x13, x32, x33, x34, x41, x42, x43, x213000, x213001, x213002 => if x43 < x42 then (if 0 ≤ x43 then (if x43 < (x41.length : Int) then (if 0 ≤ x11 then (if x11 < (x6.length : Int) then (if (x13.length : Int) < (rd x6 x11) then ((slices_Contains_int_int.f k x8 (rd x41 x43)).bind fun t218 => (if t218 = true then (impl_settle.l2 k x5 x6 x7 x8 x11 x13 x32 x33 x34 x41 x42 (wrap64 (x43 + 1)) x213000 x213001 x213002) else (if x13.length < 17592186044416 then (if x8.length < 17592186044416 then (impl_settle.l2 k x5 x6 x7 (x8 ++ [rd x41 x43]) x11 (x13 ++ [rd x41 x43]) x32 x33 x34 x41 x42 (wrap64 (x43 + 1)) x213000 x213001 x213002) else (none)) else (none)))) else (impl_settle.l2 k x5 x6 x7 x8 x11 x13 x32 x33 x34 x41 x42 (wrap64 (x43 + 1)) x213000 x213001 x213002)) else (none)) else (none)) else (none)) else (none)) else (if x5.length < 5864062014805 then ((some (x5 ++ [x13] : List (List Int))).bind fun y225 => (if 0 ≤ x11 then (if x11 < (x6.length : Int) then (if x213002 < 0 then (impl_settle.l1 k y225 x6 (wrap64 (x7 + (wrap64 ((rd x6 x11) - (x13.length : Int))))) x8 x32 x33 (wrap64 (x34 + 1))) else (if 0 ≤ x213002 then (if x213002 < (x6.length : Int) then (impl_settle.l1 k y225 (x6.set (x213002 : Int).toNat (wrap64 ((rd x6 x213002) + (wrap64 ((rd x6 x11) - (x13.length : Int)))))) x7 x8 x32 x33 (wrap64 (x34 + 1))) else (none)) else (none))) else (none)) else (none))) else (none))
end
def impl_settle.f (k : Nat) (l0 : List (S38)) : Option ((List (List Int)) × List Int × Int) := impl_settle.l0 k l0 (([] : List (List Int))) (([] : List Int)) 0 (([] : List Int)) l0 (l0.length : Int) 0
set_option maxHeartbeats 8000000 in
set_option maxRecDepth 100000 in
theorem impl_settle.calls (k : Nat) (A0 : Option Addr) (c0 : Nat) (l0 : List (S38)) (r1 : List (List Int)) (r2 : List Int) (r3 : Int) (w : World) (hr0 : Kd.C k38 w A0 l0.length l0) (hc0 : l0.length ≤ c0) (h : impl_settle.f k l0 = some (r1, r2, r3)) :
    Calls Try.prog 47 #[.slice A0 l0.length c0] w fun e w' => ∃ v0_ v1_ : Value, e = .returned (.tuple #[v0_, v1_, .int .i64 r3]) ∧ Kd.S (Kd.slice 3 (Kd.int .i64)) 35 w' w.heap.size (fun k_ => some k_ ≠ (v1_ : Value).ownBlock) v0_ r1 ∧ Kd.R (Kd.int .i64) 3 w' w.heap.size (fun _ => True) v1_ r2 ∧ Below w.heap.size w w' := by
  have hu38 := Try.underlying38
  have HR0 := Aside0.mk hr0
  have HC0 := Aside0.mk hc0
  clear hr0 hc0
  have HB := Aside0.mk (Below.refl w.heap.size w)
  have H : (impl_settle.l0 k l0 (([] : List (List Int))) (([] : List Int)) 0 (([] : List Int)) l0 (l0.length : Int) 0) = some (r1, r2, r3) := h
  clear h
  obtain ⟨y197, hy197⟩ : ∃ y_ : List (List Int), y_ = (([] : List (List Int))) := ⟨_, rfl⟩
  replace H : (impl_settle.l0 k l0 y197 (([] : List Int)) 0 (([] : List Int)) l0 (l0.length : Int) 0) = some (r1, r2, r3) := by first | (rw [hy197]; with_reducible exact H) | (have H2_ := (Option.bind_some _ _).symm.trans H; rw [hy197]; with_reducible exact H2_) | (have H2_ := (Option.bind_some _ _).symm.trans H; with_reducible exact H2_) | with_reducible exact H | (rw [hy197]; exact H) | exact H
  have Ny197 := Aside0.mk hy197
  clear hy197
  obtain ⟨y200, hy200⟩ : ∃ y_ : List Int, y_ = (([] : List Int)) := ⟨_, rfl⟩
  replace H : (impl_settle.l0 k l0 y197 y200 0 (([] : List Int)) l0 (l0.length : Int) 0) = some (r1, r2, r3) := by first | (rw [hy200]; with_reducible exact H) | (have H2_ := (Option.bind_some _ _).symm.trans H; rw [hy200]; with_reducible exact H2_) | (have H2_ := (Option.bind_some _ _).symm.trans H; with_reducible exact H2_) | with_reducible exact H | (rw [hy200]; exact H) | exact H
  have Ny200 := Aside0.mk hy200
  clear hy200
  obtain ⟨y203, hy203⟩ : ∃ y_ : List Int, y_ = (([] : List Int)) := ⟨_, rfl⟩
  replace H : (impl_settle.l0 k l0 y197 y200 0 y203 l0 (l0.length : Int) 0) = some (r1, r2, r3) := by first | (rw [hy203]; with_reducible exact H) | (have H2_ := (Option.bind_some _ _).symm.trans H; rw [hy203]; with_reducible exact H2_) | (have H2_ := (Option.bind_some _ _).symm.trans H; with_reducible exact H2_) | with_reducible exact H | (rw [hy203]; exact H) | exact H
  have Ny203 := Aside0.mk hy203
  clear hy203
  have H' := Aside0.mk H
  clear H
  go_enter Try.func47, Try.ntmps47
  go_wp2_with (first | ((with_reducible refine gate_dst (N := 17) rfl ?_); refine Kd.S_lit (Kd.slice 3 (Kd.int .i64)) _ 35 ?hg (N := 17) ?hd (xs := ([] : List (List Int))) (inner := []) (ok := fun _ => True) (okp := fun _ => True) ?hr ?hp (fun _ hk => hk) trivial (Below.refl _ _) (Nat.le_refl _) (by simp) ?_; (case hd => rfl); (case hg => rfl); (case hr => first | (go_simp; done) | (go_simp; rfl)); (case hp => exact (Reps.none _ _)); intro v198 w2 ho3 hb hg_ hnew_; clear hg_ hnew_; (first | rw [← Ny197.out] at ho3 | (simp only [Int.reduceToNat] at ho3; rw [← Ny197.out] at ho3)); have HO199 := Aside0.mk (Kd.S_lower ho3 (below_size bel)); replace HB := Aside0.mk (below_step bel hb); clear hb ho3) | ((with_reducible refine gate_dst (N := 18) rfl ?_); refine Kd.R_lit (Kd.int .i64) _ 3 ?hg (N := 18) ?hd (xs := ([] : List Int)) (inner := []) (ok := fun _ => True) (okp := fun _ => True) ?hr ?hp (fun _ hk => hk) trivial (Below.refl _ _) (Nat.le_refl _) (by simp) ?_; (case hd => rfl); (case hg => rfl); (case hr => first | (go_simp; done) | (go_simp; rfl)); (case hp => exact (Reps.none _ _)); intro v201 w4 ho5 hb hg_ hnew_; clear hg_ hnew_; (first | rw [← Ny200.out] at ho5 | (simp only [Int.reduceToNat] at ho5; rw [← Ny200.out] at ho5)); have HO202 := Aside0.mk (Kd.R_lower ho5 (below_size bel)); replace HO199 := Aside0.mk (Kd.S_elder' (by (with_reducible repeat (first | apply Kd.S_alloc | apply Kd.S_drewN | apply Kd.S_drew)); exact HO199.out) (Kd.R_base ho5) hb); replace HB := Aside0.mk (below_step bel hb); clear hb ho5) | ((with_reducible refine gate_dst (N := 19) rfl ?_); refine Kd.R_lit (Kd.int .i64) _ 3 ?hg (N := 19) ?hd (xs := ([] : List Int)) (inner := []) (ok := fun _ => True) (okp := fun _ => True) ?hr ?hp (fun _ hk => hk) trivial (Below.refl _ _) (Nat.le_refl _) (by simp) ?_; (case hd => rfl); (case hg => rfl); (case hr => first | (go_simp; done) | (go_simp; rfl)); (case hp => exact (Reps.none _ _)); intro v204 w6 ho7 hb hg_ hnew_; clear hg_ hnew_; (first | rw [← Ny203.out] at ho7 | (simp only [Int.reduceToNat] at ho7; rw [← Ny203.out] at ho7)); have HO205 := Aside0.mk (Kd.R_lower (Kd.R_new' ho7 (Kd.R_lt (rk HO202.out))) (below_size bel)); replace HO199 := Aside0.mk (Kd.S_elder' (by (with_reducible repeat (first | apply Kd.S_alloc | apply Kd.S_drewN | apply Kd.S_drew)); exact HO199.out) (Kd.R_base ho7) hb); replace HO202 := Aside0.mk (Kd.R_elder' (rk HO202.out) (Kd.R_base ho7) hb); replace HB := Aside0.mk (below_step bel hb); clear hb ho7))
  go_loopg [6, 22] k (fun kq v6 v22 w' => ∃ (x6_1 : List Int) (x22_1 : Int), v22 = .int .i64 x22_1 ∧ Aside0 (impl_settle.l0 kq l0 y197 x6_1 0 y203 l0 (l0.length : Int) x22_1 = some (r1, r2, r3)) ∧ Aside0 (kq ≤ k) ∧ Aside0 (Kd.S (Kd.slice 3 (Kd.int .i64)) 35 w' w.heap.size (fun k_ => some k_ ≠ (v6 : Value).ownBlock ∧ some k_ ≠ (v204 : Value).ownBlock) v198 y197) ∧ Aside0 (Kd.R (Kd.int .i64) 3 w' w.heap.size (fun k_ => some k_ ≠ (v204 : Value).ownBlock) v6 x6_1) ∧ Aside0 (Kd.R (Kd.int .i64) 3 w' w.heap.size (fun k_ => some k_ ≠ (v6 : Value).ownBlock) v204 y203) ∧ Aside0 (Below w.heap.size w w'))
  case atStart => exact ⟨(y200), (0), (es), H', ⟨Nat.le_refl _⟩, ⟨by (with_reducible repeat (first | apply Kd.S_alloc | apply Kd.S_drewN | apply Kd.S_drew)); exact Kd.S_mono HO199.out (fun _ hk => ⟨hk.1.2, hk.2⟩)⟩, ⟨by (with_reducible repeat (first | apply Kd.R_alloc | apply Kd.R_drewN | apply Kd.R_drew)); exact Kd.R_mono HO202.out (fun _ hk => hk.2)⟩, ⟨by (with_reducible repeat (first | apply Kd.R_alloc | apply Kd.R_drewN | apply Kd.R_drew)); exact Kd.R_mono HO205.out (fun _ hk => hk.2)⟩, ⟨bel⟩⟩
  case round =>
    clear H'
    try clear p2; try clear c4
    obtain ⟨x6_1, x22_1, rfl, HA, HK1, HO_5, HO_6, HO_8, HB⟩ := hrel
    cases gk with
    | zero => exact absurd HA.out (by simp [impl_settle.l0])
    | succ k1 =>
      have H := HA.out
      clear HA
      simp only [impl_settle.l0] at H
      by_cases c8 : x22_1 < (l0.length : Int)
      · rw [if_pos c8] at H
        have c8b0 : decide (x22_1 < (l0.length : Int)) = true := decide_eq_true c8
        clear c8
        by_cases c9 : 0 ≤ x22_1
        · rw [if_pos c9] at H
          have c9b0 : decide (0 ≤ x22_1) = true := decide_eq_true c9
          clear c9
          by_cases c10 : x22_1 < (l0.length : Int)
          · rw [if_pos c10] at H
            have c10b0 : decide (x22_1 < (l0.length : Int)) = true := decide_eq_true c10
            clear c10
            by_cases c11 : x6_1.length < 17592186044416
            · rw [if_pos c11] at H
              have LMc11 := Aside0.mk c11
              clear c11
              obtain ⟨y208, hy208⟩ : ∃ y_ : List Int, y_ = (x6_1 ++ [(rd_T38 l0 x22_1).f1]) := ⟨_, rfl⟩
              replace H : (impl_settle.l0 k1 l0 y197 y208 0 y203 l0 (l0.length : Int) (wrap64 (x22_1 + 1))) = some (r1, r2, r3) := by first | (rw [hy208]; with_reducible exact H) | (have H2_ := (Option.bind_some _ _).symm.trans H; rw [hy208]; with_reducible exact H2_) | (have H2_ := (Option.bind_some _ _).symm.trans H; with_reducible exact H2_) | with_reducible exact H | (rw [hy208]; exact H) | exact H
              have Ny208 := Aside0.mk hy208
              clear hy208
              have H' := Aside0.mk H
              clear H
              have p206 : 0 ≤ (x22_1 : Int) := asm
              have q206 : x22_1 < (l0.length : Int) := asm
              obtain ⟨ad206, A206_0, c206_0, e206, hx206_0, hx206_1, hx206_2, hl206_0, hi206_0⟩ := at_T38 HR0.out x22_1 p206 q206
              cases e206
              replace hx206_0 := hcl HB.out hx206_0
              replace hx206_1 := hcl HB.out hx206_1
              replace hx206_2 := hcl HB.out hx206_2
              have HR206_0 := Aside0.mk hi206_0
              have HC206_0 := Aside0.mk hl206_0
              clear hi206_0 hl206_0
              replace p206 := eq_true p206
              replace q206 := eq_true q206
              go_wp2_with (first | ((with_reducible refine gate_dst (N := 10) rfl ?_); refine box_event ?hg (N := 10) ?hd (cs := #[.slice none 0 0, .int .i64 0, .int .i64 0]) (t := 38) ?hr ?_; (case hd => rfl); (case hg => rfl); (case hr => first | (go_simp; done) | (go_simp; rfl)); intro gb207 hg w12 hbox hb; have BK207 := Aside0.mk (hbox); have GW207 := Aside0.mk ((bsz hg : w.heap.size ≤ gb207)); have GE207 := Aside0.mk ((bsz hg : w.heap.size ≤ gb207)); replace HO_5 := Aside0.mk (Kd.S_below (by (with_reducible repeat (first | apply Kd.S_alloc | apply Kd.S_drewN | apply Kd.S_drew)); exact HO_5.out) hb); replace HO_6 := Aside0.mk (Kd.R_below (rk HO_6.out) hb); replace HO_8 := Aside0.mk (Kd.R_below (rk HO_8.out) hb); replace HB := Aside0.mk (below_step bel hb); clear hb hbox hg; obtain ⟨hcz13_0, hcz13_1, hcz13_2, hfz13_0, hfz13_1, hfz13_2⟩ := cf3 BK207.out) | ((with_reducible refine gate_builtin (b := .append) (xs := #[.tmp 26, .tmp 29]) rfl ?_); at_builtin; refine Kd.R_append (Kd.int .i64) (w0 := w) w.heap.size rfl (.tmp 26) (.tmp 29) 35 3 (.int .i64 0) 8 rfl Try.underlying35 info3 rfl (by decide) (by omega) u6 x6_1 ((rd_T38 l0 x22_1).f1) [.int .i64 ((rd_T38 l0 x22_1).f1)] (fun k_ => some k_ ≠ (v204 : Value).ownBlock) (fun _ => False) rfl (by first | (go_simp; done) | (go_simp; rfl)) ?aP (fun _ hk => hk.elim) ?aF ?aO ?aB ?aS ?aL ?_; (case aP => exact rfl); (case aB => exact bel); (case aF => exact (fun k_ hk => Kd.fresh' (Kd.R_lt (by exact rk (Kd.R_mono (Kd.R_far (p := ⟨gb207, 2, none⟩) (Kd.R_far (p := ⟨gb207, 1, none⟩) (Kd.R_far (p := ⟨gb207, 0, none⟩) (Kd.R_types HO_8.out BK207.out (by decide)) (fun _ hk => hk.2) (.slice A206_0 ((rd_T38 l0 x22_1).f0).length c206_0)) (fun _ hk => hk.2) (.int .i64 ((rd_T38 l0 x22_1).f1))) (fun _ hk => hk.2) (.int .i64 ((rd_T38 l0 x22_1).f2))) (fun _ h_ => h_.1)))) k_ hk)); (case aO => exact (by (with_reducible repeat (first | apply Kd.R_alloc | apply Kd.R_drewN | apply Kd.R_drew)); exact Kd.R_mono (Kd.R_far (p := ⟨gb207, 2, none⟩) (Kd.R_far (p := ⟨gb207, 1, none⟩) (Kd.R_far (p := ⟨gb207, 0, none⟩) (Kd.R_types HO_6.out BK207.out (by decide)) (fun _ hk => hk.2) (.slice A206_0 ((rd_T38 l0 x22_1).f0).length c206_0)) (fun _ hk => hk.2) (.int .i64 ((rd_T38 l0 x22_1).f1))) (fun _ hk => hk.2) (.int .i64 ((rd_T38 l0 x22_1).f2))) (fun _ hk => hk.1))); (case aS => exact (below_size bel)); (case aL => have := LMc11.out; omega); intro v209 w14 ho hb hg hat; rw [← Ny208.out] at ho; have n0_ := Aside0.mk (Kd.S_after (ok := (fun k_ => some k_ ≠ (v204 : Value).ownBlock)) (by (with_reducible repeat (first | apply Kd.S_alloc | apply Kd.S_drewN | apply Kd.S_drew)); exact Kd.S_mono (Kd.S_far (p := ⟨gb207, 2, none⟩) (Kd.S_far (p := ⟨gb207, 1, none⟩) (Kd.S_far (p := ⟨gb207, 0, none⟩) (Kd.S_types HO_5.out BK207.out (by decide)) (fun _ hk => hk.2) (.slice A206_0 ((rd_T38 l0 x22_1).f0).length c206_0)) (fun _ hk => hk.2) (.int .i64 ((rd_T38 l0 x22_1).f1))) (fun _ hk => hk.2) (.int .i64 ((rd_T38 l0 x22_1).f2))) (fun _ hk => ⟨hk.1.2, hk.1.1⟩)) hg hat); have n1_ := Aside0.mk (Kd.R_after (ok := (fun _ => True)) (by (with_reducible repeat (first | apply Kd.R_alloc | apply Kd.R_drewN | apply Kd.R_drew)); exact Kd.R_mono (Kd.R_far (p := ⟨gb207, 2, none⟩) (Kd.R_far (p := ⟨gb207, 1, none⟩) (Kd.R_far (p := ⟨gb207, 0, none⟩) (Kd.R_types HO_8.out BK207.out (by decide)) (fun _ hk => hk.2) (.slice A206_0 ((rd_T38 l0 x22_1).f0).length c206_0)) (fun _ hk => hk.2) (.int .i64 ((rd_T38 l0 x22_1).f1))) (fun _ hk => hk.2) (.int .i64 ((rd_T38 l0 x22_1).f2))) (fun _ hk => ⟨trivial, hk.1⟩)) hg hat); have n2_ := Aside0.mk (blk_grown (g := gb207) (o := .cells #[.slice A206_0 ((rd_T38 l0 x22_1).f0).length c206_0, .int .i64 ((rd_T38 l0 x22_1).f1), .int .i64 ((rd_T38 l0 x22_1).f2)] 38 (0, 0)) (by (with_reducible repeat (first | refine blk_drewN ?_ _ | refine blk_drew ?_ | refine blk_alloc ?_ _)); refine blk_put (cs := #[.slice A206_0 ((rd_T38 l0 x22_1).f0).length c206_0, .int .i64 ((rd_T38 l0 x22_1).f1), .int .i64 0]) ?_ 2 _ rfl; (with_reducible repeat (first | refine blk_drewN ?_ _ | refine blk_drew ?_ | refine blk_alloc ?_ _)); refine blk_put (cs := #[.slice A206_0 ((rd_T38 l0 x22_1).f0).length c206_0, .int .i64 0, .int .i64 0]) ?_ 1 _ rfl; (with_reducible repeat (first | refine blk_drewN ?_ _ | refine blk_drew ?_ | refine blk_alloc ?_ _)); refine blk_put (cs := #[.slice none 0 0, .int .i64 0, .int .i64 0]) ?_ 0 _ rfl; (with_reducible repeat (first | refine blk_drewN ?_ _ | refine blk_drew ?_ | refine blk_alloc ?_ _)); exact BK207.out) hg (Kd.R_ne HO_6.out BK207.out (by decide))); have n3_ := Aside0.mk (hb); have n4_ := Aside0.mk (ho); clear HO_5; clear HO_8; clear BK207; clear HB; clear HO_6; have HO_5 := n0_; have HO_8 := n1_; have BK207 := n2_; have HB := n3_; have HO210 := n4_; clear n0_ n1_ n2_ n3_ n4_; clear ho hb hg hat))
              go_roundg k1
              case measure => have := HK1.out; omega
              case rel => exact ⟨(y208), (wrap64 (x22_1 + 1)), (es), H', ⟨by have := HK1.out; omega⟩, ⟨by (with_reducible repeat (first | apply Kd.S_alloc | apply Kd.S_drewN | apply Kd.S_drew)); exact Kd.S_mono HO_5.out (fun _ hk => ⟨hk.2, hk.1⟩)⟩, ⟨rk HO210.out⟩, ⟨by (with_reducible repeat (first | apply Kd.R_alloc | apply Kd.R_drewN | apply Kd.R_drew)); exact Kd.R_mono HO_8.out (fun _ hk => hk.2)⟩, ⟨bel⟩⟩
            · rw [if_neg c11] at H
              exact absurd H (by simp)
          · rw [if_neg c10] at H
            exact absurd H (by simp)
        · rw [if_neg c9] at H
          exact absurd H (by simp)
      · rw [if_neg c8] at H
        have c8b0 : decide (x22_1 < (l0.length : Int)) = false := decide_eq_false c8
        clear c8
        have H' := Aside0.mk H
        clear H
        go_wp2
        go_loopg [5, 7, 8, 34] k1 (fun kq v5 v7 v8 v34 w' => ∃ (x5_2 : List (List Int)) (x6_2 : List Int) (x7_2 : Int) (x8_2 : List Int) (x34_2 : Int), v7 = .int .i64 x7_2 ∧ v34 = .int .i64 x34_2 ∧ Aside0 (impl_settle.l1 kq x5_2 x6_2 x7_2 x8_2 l0 (l0.length : Int) x34_2 = some (r1, r2, r3)) ∧ Aside0 (kq ≤ k1) ∧ Aside0 (Kd.S (Kd.slice 3 (Kd.int .i64)) 35 w' w.heap.size (fun k_ => some k_ ≠ (u6 : Value).ownBlock ∧ some k_ ≠ (v8 : Value).ownBlock) v5 x5_2) ∧ Aside0 (Kd.R (Kd.int .i64) 3 w' w.heap.size (fun k_ => some k_ ≠ (v8 : Value).ownBlock) u6 x6_2) ∧ Aside0 (Kd.R (Kd.int .i64) 3 w' w.heap.size (fun k_ => some k_ ≠ (u6 : Value).ownBlock) v8 x8_2) ∧ Aside0 (Below w.heap.size w w'))
        case atStart => exact ⟨(y197), (x6_1), (0), (y203), (0), (es), (es), H', ⟨Nat.le_refl _⟩, ⟨by (with_reducible repeat (first | apply Kd.S_alloc | apply Kd.S_drewN | apply Kd.S_drew)); exact HO_5.out⟩, ⟨rk HO_6.out⟩, ⟨rk HO_8.out⟩, ⟨bel⟩⟩
        case round =>
          clear H'
          try clear c1; try clear c2; try clear p2; try clear q2; try clear hx2; try clear c4; try clear p6; try clear c8; try clear c8b0; try clear c9; try clear c9b0; try clear c10; try clear c10b0; try clear c11; try clear hcz13_0; try clear hcz13_1; try clear hcz13_2; try clear hfz13_0; try clear hfz13_1; try clear hfz13_2; try clear hx206_0; try clear hx206_1; try clear hx206_2; try clear p2; try clear p206; try clear q206
          obtain ⟨x5_2, x6_2, x7_2, x8_2, x34_2, rfl, rfl, HA, HK2, HO_5, HO_6, HO_8, HB⟩ := hrel
          cases gk with
          | zero => exact absurd HA.out (by simp [impl_settle.l1])
          | succ k2 =>
            have H := HA.out
            clear HA
            simp only [impl_settle.l1] at H
            by_cases c15 : x34_2 < (l0.length : Int)
            · rw [if_pos c15] at H
              have c15b0 : decide (x34_2 < (l0.length : Int)) = true := decide_eq_true c15
              clear c15
              by_cases c16 : 0 ≤ x34_2
              · rw [if_pos c16] at H
                have c16b0 : decide (0 ≤ x34_2) = true := decide_eq_true c16
                clear c16
                by_cases c17 : x34_2 < (l0.length : Int)
                · rw [if_pos c17] at H
                  have c17b0 : decide (x34_2 < (l0.length : Int)) = true := decide_eq_true c17
                  clear c17
                  obtain ⟨y213, hy213⟩ : ∃ y_ : List Int, y_ = (([] : List Int)) := ⟨_, rfl⟩
                  replace H : (impl_settle.l2 k2 x5_2 x6_2 x7_2 x8_2 x34_2 y213 l0 (l0.length : Int) x34_2 ((rd_T38 l0 x34_2).f0) (((rd_T38 l0 x34_2).f0).length : Int) 0 ((rd_T38 l0 x34_2).f0) ((rd_T38 l0 x34_2).f1) ((rd_T38 l0 x34_2).f2)) = some (r1, r2, r3) := by first | (rw [hy213]; with_reducible exact H) | (have H2_ := (Option.bind_some _ _).symm.trans H; rw [hy213]; with_reducible exact H2_) | (have H2_ := (Option.bind_some _ _).symm.trans H; with_reducible exact H2_) | with_reducible exact H | (rw [hy213]; exact H) | exact H
                  have Ny213 := Aside0.mk hy213
                  clear hy213
                  have H' := Aside0.mk H
                  clear H
                  have p211 : 0 ≤ (x34_2 : Int) := asm
                  have q211 : x34_2 < (l0.length : Int) := asm
                  obtain ⟨ad211, A211_0, c211_0, e211, hx211_0, hx211_1, hx211_2, hl211_0, hi211_0⟩ := at_T38 HR0.out x34_2 p211 q211
                  cases e211
                  replace hx211_0 := hcl HB.out hx211_0
                  replace hx211_1 := hcl HB.out hx211_1
                  replace hx211_2 := hcl HB.out hx211_2
                  have HR211_0 := Aside0.mk hi211_0
                  have HC211_0 := Aside0.mk hl211_0
                  clear hi211_0 hl211_0
                  replace p211 := eq_true p211
                  replace q211 := eq_true q211
                  go_wp2_with (first | ((with_reducible refine gate_dst (N := 12) rfl ?_); refine box_event ?hg (N := 12) ?hd (cs := #[.slice none 0 0, .int .i64 0, .int .i64 0]) (t := 38) ?hr ?_; (case hd => rfl); (case hg => rfl); (case hr => first | (go_simp; done) | (go_simp; rfl)); intro gb212 hg w18 hbox hb; have BK212 := Aside0.mk (hbox); have GW212 := Aside0.mk ((bsz hg : w.heap.size ≤ gb212)); have GE212 := Aside0.mk ((bsz hg : w.heap.size ≤ gb212)); replace HO_5 := Aside0.mk (Kd.S_below (by (with_reducible repeat (first | apply Kd.S_alloc | apply Kd.S_drewN | apply Kd.S_drew)); exact HO_5.out) hb); replace HO_6 := Aside0.mk (Kd.R_below (rk HO_6.out) hb); replace HO_8 := Aside0.mk (Kd.R_below (rk HO_8.out) hb); replace HB := Aside0.mk (below_step bel hb); clear hb hbox hg; obtain ⟨hcz19_0, hcz19_1, hcz19_2, hfz19_0, hfz19_1, hfz19_2⟩ := cf3 BK212.out) | ((with_reducible refine gate_dst (N := 39) rfl ?_); refine Kd.R_lit (Kd.int .i64) _ 3 ?hg (N := 39) ?hd (xs := ([] : List Int)) (inner := []) (ok := fun _ => True) (okp := fun _ => True) ?hr ?hp (fun _ hk => hk) trivial (Below.refl _ _) (Nat.le_refl _) (by simp) ?_; (case hd => rfl); (case hg => rfl); (case hr => first | (go_simp; done) | (go_simp; rfl)); (case hp => exact (Reps.none _ _)); intro v214 w20 ho21 hb hg_ hnew_; clear hg_ hnew_; (first | rw [← Ny213.out] at ho21 | (simp only [Int.reduceToNat] at ho21; rw [← Ny213.out] at ho21)); have HO215 := Aside0.mk (Kd.R_lower (Kd.R_new' (Kd.R_new' ho21 (Kd.R_lt (by exact rk (Kd.R_mono (Kd.R_far (p := ⟨gb212, 2, none⟩) (Kd.R_far (p := ⟨gb212, 1, none⟩) (Kd.R_far (p := ⟨gb212, 0, none⟩) (Kd.R_types HO_6.out BK212.out (by decide)) (fun _ hk => hk.2) (.slice A211_0 ((rd_T38 l0 x34_2).f0).length c211_0)) (fun _ hk => hk.2) (.int .i64 ((rd_T38 l0 x34_2).f1))) (fun _ hk => hk.2) (.int .i64 ((rd_T38 l0 x34_2).f2))) (fun _ h_ => h_.1))))) (Kd.R_lt (by exact rk (Kd.R_mono (Kd.R_far (p := ⟨gb212, 2, none⟩) (Kd.R_far (p := ⟨gb212, 1, none⟩) (Kd.R_far (p := ⟨gb212, 0, none⟩) (Kd.R_types HO_8.out BK212.out (by decide)) (fun _ hk => hk.2) (.slice A211_0 ((rd_T38 l0 x34_2).f0).length c211_0)) (fun _ hk => hk.2) (.int .i64 ((rd_T38 l0 x34_2).f1))) (fun _ hk => hk.2) (.int .i64 ((rd_T38 l0 x34_2).f2))) (fun _ h_ => h_.1))))) (below_size bel)); replace HO_5 := Aside0.mk (Kd.S_elder' (by (with_reducible repeat (first | apply Kd.S_alloc | apply Kd.S_drewN | apply Kd.S_drew)); exact (Kd.S_mono (Kd.S_far (p := ⟨gb212, 2, none⟩) (Kd.S_far (p := ⟨gb212, 1, none⟩) (Kd.S_far (p := ⟨gb212, 0, none⟩) (Kd.S_types HO_5.out BK212.out (by decide)) (fun _ hk => hk.2) (.slice A211_0 ((rd_T38 l0 x34_2).f0).length c211_0)) (fun _ hk => hk.2) (.int .i64 ((rd_T38 l0 x34_2).f1))) (fun _ hk => hk.2) (.int .i64 ((rd_T38 l0 x34_2).f2))) (fun _ h_ => h_.1))) (Kd.R_base ho21) hb); replace HO_6 := Aside0.mk (Kd.R_elder' (by exact rk (Kd.R_mono (Kd.R_far (p := ⟨gb212, 2, none⟩) (Kd.R_far (p := ⟨gb212, 1, none⟩) (Kd.R_far (p := ⟨gb212, 0, none⟩) (Kd.R_types HO_6.out BK212.out (by decide)) (fun _ hk => hk.2) (.slice A211_0 ((rd_T38 l0 x34_2).f0).length c211_0)) (fun _ hk => hk.2) (.int .i64 ((rd_T38 l0 x34_2).f1))) (fun _ hk => hk.2) (.int .i64 ((rd_T38 l0 x34_2).f2))) (fun _ h_ => h_.1))) (Kd.R_base ho21) hb); replace HO_8 := Aside0.mk (Kd.R_elder' (by exact rk (Kd.R_mono (Kd.R_far (p := ⟨gb212, 2, none⟩) (Kd.R_far (p := ⟨gb212, 1, none⟩) (Kd.R_far (p := ⟨gb212, 0, none⟩) (Kd.R_types HO_8.out BK212.out (by decide)) (fun _ hk => hk.2) (.slice A211_0 ((rd_T38 l0 x34_2).f0).length c211_0)) (fun _ hk => hk.2) (.int .i64 ((rd_T38 l0 x34_2).f1))) (fun _ hk => hk.2) (.int .i64 ((rd_T38 l0 x34_2).f2))) (fun _ h_ => h_.1))) (Kd.R_base ho21) hb); replace BK212 := Aside0.mk (blk_below (g := gb212) (o := .cells #[.slice A211_0 ((rd_T38 l0 x34_2).f0).length c211_0, .int .i64 ((rd_T38 l0 x34_2).f1), .int .i64 ((rd_T38 l0 x34_2).f2)] 38 (0, 0)) (by (with_reducible repeat (first | refine blk_drewN ?_ _ | refine blk_drew ?_ | refine blk_alloc ?_ _)); refine blk_put (cs := #[.slice A211_0 ((rd_T38 l0 x34_2).f0).length c211_0, .int .i64 ((rd_T38 l0 x34_2).f1), .int .i64 0]) ?_ 2 _ rfl; (with_reducible repeat (first | refine blk_drewN ?_ _ | refine blk_drew ?_ | refine blk_alloc ?_ _)); refine blk_put (cs := #[.slice A211_0 ((rd_T38 l0 x34_2).f0).length c211_0, .int .i64 0, .int .i64 0]) ?_ 1 _ rfl; (with_reducible repeat (first | refine blk_drewN ?_ _ | refine blk_drew ?_ | refine blk_alloc ?_ _)); refine blk_put (cs := #[.slice none 0 0, .int .i64 0, .int .i64 0]) ?_ 0 _ rfl; (with_reducible repeat (first | refine blk_drewN ?_ _ | refine blk_drew ?_ | refine blk_alloc ?_ _)); exact BK212.out) hb); replace HB := Aside0.mk (below_step bel hb); clear hb ho21; obtain ⟨hcz22_0, hcz22_1, hcz22_2, hfz22_0, hfz22_1, hfz22_2⟩ := cf3 BK212.out))
                  go_loopg [8, 13, 43] k2 (fun kq v8 v13 v43 w' => ∃ (x8_3 : List Int) (x13_3 : List Int) (x43_3 : Int), v43 = .int .i64 x43_3 ∧ Aside0 (impl_settle.l2 kq x5_2 x6_2 x7_2 x8_3 x34_2 x13_3 l0 (l0.length : Int) x34_2 ((rd_T38 l0 x34_2).f0) (((rd_T38 l0 x34_2).f0).length : Int) x43_3 ((rd_T38 l0 x34_2).f0) ((rd_T38 l0 x34_2).f1) ((rd_T38 l0 x34_2).f2) = some (r1, r2, r3)) ∧ Aside0 (kq ≤ k2) ∧ Aside0 (Kd.S (Kd.slice 3 (Kd.int .i64)) 35 w' w.heap.size (fun k_ => some k_ ≠ (u6 : Value).ownBlock ∧ some k_ ≠ (v8 : Value).ownBlock ∧ some k_ ≠ (v13 : Value).ownBlock) u5 x5_2) ∧ Aside0 (Kd.R (Kd.int .i64) 3 w' w.heap.size (fun k_ => some k_ ≠ (v8 : Value).ownBlock ∧ some k_ ≠ (v13 : Value).ownBlock) u6 x6_2) ∧ Aside0 (Kd.R (Kd.int .i64) 3 w' w.heap.size (fun k_ => some k_ ≠ (u6 : Value).ownBlock ∧ some k_ ≠ (v13 : Value).ownBlock) v8 x8_3) ∧ Aside0 (Kd.R (Kd.int .i64) 3 w' w.heap.size (fun k_ => some k_ ≠ (u6 : Value).ownBlock ∧ some k_ ≠ (v8 : Value).ownBlock) v13 x13_3) ∧ Aside0 (w'.heap[gb212]? = some (.cells #[(.slice A211_0 ((rd_T38 l0 x34_2).f0).length c211_0), .int .i64 ((rd_T38 l0 x34_2).f1), .int .i64 ((rd_T38 l0 x34_2).f2)] 38 (0, 0))) ∧ Aside0 (Below w.heap.size w w'))
                  case atStart => exact ⟨(x8_2), (y213), (0), (es), H', ⟨Nat.le_refl _⟩, ⟨by (with_reducible repeat (first | apply Kd.S_alloc | apply Kd.S_drewN | apply Kd.S_drew)); exact Kd.S_mono HO_5.out (fun _ hk => ⟨hk.1.1, ⟨hk.1.2, hk.2⟩⟩)⟩, ⟨rk HO_6.out⟩, ⟨rk HO_8.out⟩, ⟨by (with_reducible repeat (first | apply Kd.R_alloc | apply Kd.R_drewN | apply Kd.R_drew)); exact Kd.R_mono HO215.out (fun _ hk => ⟨hk.1.2, hk.2⟩)⟩, ⟨bk BK212.out⟩, ⟨bel⟩⟩
                  case round =>
                    clear H'
                    try clear c1; try clear c2; try clear p2; try clear q2; try clear hx2; try clear c4; try clear p6; try clear c8; try clear c8b0; try clear c9; try clear c9b0; try clear c10; try clear c10b0; try clear c11; try clear c15; try clear c15b0; try clear c16; try clear c16b0; try clear c17; try clear c17b0; try clear c20; try clear p20; try clear q20; try clear hx20; try clear c21; try clear p21; try clear q21; try clear hx21; try clear hcz13_0; try clear hcz13_1; try clear hcz13_2; try clear hcz19_0; try clear hcz19_1; try clear hcz19_2; try clear hcz22_0; try clear hcz22_1; try clear hcz22_2; try clear hfz13_0; try clear hfz13_1; try clear hfz13_2; try clear hfz19_0; try clear hfz19_1; try clear hfz19_2; try clear hfz22_0; try clear hfz22_1; try clear hfz22_2; try clear hx206_0; try clear hx206_1; try clear hx206_2; try clear hx211_0; try clear hx211_1; try clear hx211_2; try clear p2; try clear p206; try clear p211; try clear p6; try clear q2; try clear q206; try clear q211
                    obtain ⟨x8_3, x13_3, x43_3, rfl, HA, HK3, HO_5, HO_6, HO_8, HO_13, BK212, HB⟩ := hrel
                    cases gk with
                    | zero => exact absurd HA.out (by simp [impl_settle.l2])
                    | succ k3 =>
                      have H := HA.out
                      clear HA
                      simp only [impl_settle.l2] at H
                      by_cases c23 : x43_3 < (((rd_T38 l0 x34_2).f0).length : Int)
                      · rw [if_pos c23] at H
                        have c23b0 : decide (x43_3 < (((rd_T38 l0 x34_2).f0).length : Int)) = true := decide_eq_true c23
                        clear c23
                        by_cases c24 : 0 ≤ x43_3
                        · rw [if_pos c24] at H
                          have c24b0 : decide (0 ≤ x43_3) = true := decide_eq_true c24
                          clear c24
                          by_cases c25 : x43_3 < (((rd_T38 l0 x34_2).f0).length : Int)
                          · rw [if_pos c25] at H
                            have c25b0 : decide (x43_3 < (((rd_T38 l0 x34_2).f0).length : Int)) = true := decide_eq_true c25
                            clear c25
                            by_cases c26 : 0 ≤ x34_2
                            · rw [if_pos c26] at H
                              have c26b0 : decide (0 ≤ x34_2) = true := decide_eq_true c26
                              clear c26
                              by_cases c27 : x34_2 < (x6_2.length : Int)
                              · rw [if_pos c27] at H
                                have c27b0 : decide (x34_2 < (x6_2.length : Int)) = true := decide_eq_true c27
                                clear c27
                                by_cases c28 : (x13_3.length : Int) < (rd x6_2 x34_2)
                                · rw [if_pos c28] at H
                                  have c28b0 : decide ((x13_3.length : Int) < (rd x6_2 x34_2)) = true := decide_eq_true c28
                                  clear c28
                                  replace H := Option.bind_eq_some_iff.mp H
                                  obtain ⟨t218, A290, H⟩ := H
                                  replace H : (if t218 = true then (impl_settle.l2 k3 x5_2 x6_2 x7_2 x8_3 x34_2 x13_3 l0 (l0.length : Int) x34_2 ((rd_T38 l0 x34_2).f0) (((rd_T38 l0 x34_2).f0).length : Int) (wrap64 (x43_3 + 1)) ((rd_T38 l0 x34_2).f0) ((rd_T38 l0 x34_2).f1) ((rd_T38 l0 x34_2).f2)) else (if x13_3.length < 17592186044416 then (if x8_3.length < 17592186044416 then (impl_settle.l2 k3 x5_2 x6_2 x7_2 (x8_3 ++ [rd ((rd_T38 l0 x34_2).f0) x43_3]) x34_2 (x13_3 ++ [rd ((rd_T38 l0 x34_2).f0) x43_3]) l0 (l0.length : Int) x34_2 ((rd_T38 l0 x34_2).f0) (((rd_T38 l0 x34_2).f0).length : Int) (wrap64 (x43_3 + 1)) ((rd_T38 l0 x34_2).f0) ((rd_T38 l0 x34_2).f1) ((rd_T38 l0 x34_2).f2)) else (none)) else (none))) = some (r1, r2, r3) := H
                                  have A29 := Aside0.mk A290
                                  clear A290
                                  by_cases c30 : t218 = true
                                  · subst c30
                                    have H1 : (impl_settle.l2 k3 x5_2 x6_2 x7_2 x8_3 x34_2 x13_3 l0 (l0.length : Int) x34_2 ((rd_T38 l0 x34_2).f0) (((rd_T38 l0 x34_2).f0).length : Int) (wrap64 (x43_3 + 1)) ((rd_T38 l0 x34_2).f0) ((rd_T38 l0 x34_2).f1) ((rd_T38 l0 x34_2).f2)) = some (r1, r2, r3) := by rw [if_pos rfl] at H; exact H
                                    clear H
                                    have H := H1
                                    clear H1
                                    have H' := Aside0.mk H
                                    clear H
                                    have p216 : 0 ≤ (x43_3 : Int) := asm
                                    have q216 : x43_3 < (((rd_T38 l0 x34_2).f0).length : Int) := asm
                                    obtain ⟨ad216, e216, hx216_0⟩ := Kd.at_int HR211_0.out x43_3 p216 q216
                                    cases e216
                                    replace hx216_0 := hcl HB.out hx216_0
                                    replace p216 := eq_true p216
                                    replace q216 := eq_true q216
                                    obtain ⟨Ao31, co31, eo31⟩ := Kd.R_slice HO_13.out
                                    subst eo31
                                    obtain ⟨Ao32, co32, eo32⟩ := Kd.R_slice HO_6.out
                                    subst eo32
                                    have p217 : 0 ≤ (x34_2 : Int) := asm
                                    have q217 : x34_2 < (x6_2.length : Int) := asm
                                    obtain ⟨ad217, e217, hx217_0⟩ := Kd.at_int (Kd.R_reads' HO_6.out).2.2 x34_2 p217 q217
                                    cases e217
                                    replace p217 := eq_true p217
                                    replace q217 := eq_true q217
                                    obtain ⟨Ao33, co33, eo33⟩ := Kd.R_slice HO_8.out
                                    subst eo33
                                    go_wp2_with (first | (go_at_call 43; (with_reducible refine (slices_Contains_int_int.calls k3 _ _ x8_3 (rd ((rd_T38 l0 x34_2).f0) x43_3) true _ ?side1 ?side2 A29.out).mono ?_); (case side1 => exact ck (Kd.R_reads' HO_8.out).2.2); (case side2 => exact (Kd.R_reads' HO_8.out).2.1); rintro e w' ⟨rfl, ⟨nd, rfl⟩⟩))
                                    go_roundg k3
                                    case measure => have := HK1.out; have := HK2.out; have := HK3.out; omega
                                    case rel => exact ⟨(x8_3), (x13_3), (wrap64 (x43_3 + 1)), (es), H', ⟨by have := HK1.out; have := HK2.out; have := HK3.out; omega⟩, ⟨by (with_reducible repeat (first | apply Kd.S_alloc | apply Kd.S_drewN | apply Kd.S_drew)); exact HO_5.out⟩, ⟨rk HO_6.out⟩, ⟨rk HO_8.out⟩, ⟨rk HO_13.out⟩, ⟨bk BK212.out⟩, ⟨bel⟩⟩
                                  · replace c30 := Bool.eq_false_iff.mpr c30
                                    subst c30
                                    have H1 : (if x13_3.length < 17592186044416 then (if x8_3.length < 17592186044416 then (impl_settle.l2 k3 x5_2 x6_2 x7_2 (x8_3 ++ [rd ((rd_T38 l0 x34_2).f0) x43_3]) x34_2 (x13_3 ++ [rd ((rd_T38 l0 x34_2).f0) x43_3]) l0 (l0.length : Int) x34_2 ((rd_T38 l0 x34_2).f0) (((rd_T38 l0 x34_2).f0).length : Int) (wrap64 (x43_3 + 1)) ((rd_T38 l0 x34_2).f0) ((rd_T38 l0 x34_2).f1) ((rd_T38 l0 x34_2).f2)) else (none)) else (none)) = some (r1, r2, r3) := by rw [if_neg (show ¬ (false = true) by decide)] at H; exact H
                                    clear H
                                    have H := H1
                                    clear H1
                                    by_cases c34 : x13_3.length < 17592186044416
                                    · rw [if_pos c34] at H
                                      have LMc34 := Aside0.mk c34
                                      clear c34
                                      obtain ⟨y219, hy219⟩ : ∃ y_ : List Int, y_ = (x13_3 ++ [rd ((rd_T38 l0 x34_2).f0) x43_3]) := ⟨_, rfl⟩
                                      replace H : (if x8_3.length < 17592186044416 then (impl_settle.l2 k3 x5_2 x6_2 x7_2 (x8_3 ++ [rd ((rd_T38 l0 x34_2).f0) x43_3]) x34_2 y219 l0 (l0.length : Int) x34_2 ((rd_T38 l0 x34_2).f0) (((rd_T38 l0 x34_2).f0).length : Int) (wrap64 (x43_3 + 1)) ((rd_T38 l0 x34_2).f0) ((rd_T38 l0 x34_2).f1) ((rd_T38 l0 x34_2).f2)) else (none)) = some (r1, r2, r3) := by first | (rw [hy219]; with_reducible exact H) | (have H2_ := (Option.bind_some _ _).symm.trans H; rw [hy219]; with_reducible exact H2_) | (have H2_ := (Option.bind_some _ _).symm.trans H; with_reducible exact H2_) | with_reducible exact H | (rw [hy219]; exact H) | exact H
                                      have Ny219 := Aside0.mk hy219
                                      clear hy219
                                      by_cases c35 : x8_3.length < 17592186044416
                                      · rw [if_pos c35] at H
                                        have LMc35 := Aside0.mk c35
                                        clear c35
                                        obtain ⟨y222, hy222⟩ : ∃ y_ : List Int, y_ = (x8_3 ++ [rd ((rd_T38 l0 x34_2).f0) x43_3]) := ⟨_, rfl⟩
                                        replace H : (impl_settle.l2 k3 x5_2 x6_2 x7_2 y222 x34_2 y219 l0 (l0.length : Int) x34_2 ((rd_T38 l0 x34_2).f0) (((rd_T38 l0 x34_2).f0).length : Int) (wrap64 (x43_3 + 1)) ((rd_T38 l0 x34_2).f0) ((rd_T38 l0 x34_2).f1) ((rd_T38 l0 x34_2).f2)) = some (r1, r2, r3) := by first | (rw [hy222]; with_reducible exact H) | (have H2_ := (Option.bind_some _ _).symm.trans H; rw [hy222]; with_reducible exact H2_) | (have H2_ := (Option.bind_some _ _).symm.trans H; with_reducible exact H2_) | with_reducible exact H | (rw [hy222]; exact H) | exact H
                                        have Ny222 := Aside0.mk hy222
                                        clear hy222
                                        have H' := Aside0.mk H
                                        clear H
                                        have p216 : 0 ≤ (x43_3 : Int) := asm
                                        have q216 : x43_3 < (((rd_T38 l0 x34_2).f0).length : Int) := asm
                                        obtain ⟨ad216, e216, hx216_0⟩ := Kd.at_int HR211_0.out x43_3 p216 q216
                                        cases e216
                                        replace hx216_0 := hcl HB.out hx216_0
                                        replace p216 := eq_true p216
                                        replace q216 := eq_true q216
                                        obtain ⟨Ao36, co36, eo36⟩ := Kd.R_slice HO_13.out
                                        subst eo36
                                        obtain ⟨Ao37, co37, eo37⟩ := Kd.R_slice HO_6.out
                                        subst eo37
                                        have p217 : 0 ≤ (x34_2 : Int) := asm
                                        have q217 : x34_2 < (x6_2.length : Int) := asm
                                        obtain ⟨ad217, e217, hx217_0⟩ := Kd.at_int (Kd.R_reads' HO_6.out).2.2 x34_2 p217 q217
                                        cases e217
                                        replace p217 := eq_true p217
                                        replace q217 := eq_true q217
                                        obtain ⟨Ao38, co38, eo38⟩ := Kd.R_slice HO_8.out
                                        subst eo38
                                        go_wp2_with (first | (go_at_call 43; (with_reducible refine (slices_Contains_int_int.calls k3 _ _ x8_3 (rd ((rd_T38 l0 x34_2).f0) x43_3) false _ ?side1 ?side2 A29.out).mono ?_); (case side1 => exact ck (Kd.R_reads' HO_8.out).2.2); (case side2 => exact (Kd.R_reads' HO_8.out).2.1); rintro e w' ⟨rfl, ⟨nd, rfl⟩⟩) | ((with_reducible refine gate_builtin (b := .append) (xs := #[.tmp 60, .tmp 62]) rfl ?_); at_builtin; refine Kd.R_append (Kd.int .i64) (w0 := w) w.heap.size rfl (.tmp 60) (.tmp 62) 35 3 (.int .i64 0) 8 rfl Try.underlying35 info3 rfl (by decide) (by omega) (.slice Ao36 x13_3.length co36) x13_3 (rd ((rd_T38 l0 x34_2).f0) x43_3) [.int .i64 (rd ((rd_T38 l0 x34_2).f0) x43_3)] (fun k_ => some k_ ≠ (.slice (some ad217) x6_2.length co37 : Value).ownBlock ∧ some k_ ≠ (.slice Ao38 x8_3.length co38 : Value).ownBlock) (fun _ => False) rfl rfl ?aP (fun _ hk => hk.elim) ?aF ?aO ?aB ?aS ?aL ?_; (case aP => exact rfl); (case aB => exact bel); (case aF => exact (fun k_ hk => ⟨Kd.fresh' (Kd.R_lt (rk HO_6.out)) k_ hk, Kd.fresh' (Kd.R_lt (rk HO_8.out)) k_ hk⟩)); (case aO => exact (rk HO_13.out)); (case aS => exact (below_size bel)); (case aL => have := LMc34.out; omega); intro v220 w39 ho hb hg hat; rw [← Ny219.out] at ho; have n0_ := Aside0.mk (Kd.S_after (ok := (fun k_ => some k_ ≠ (.slice (some ad217) x6_2.length co37 : Value).ownBlock ∧ some k_ ≠ (.slice Ao38 x8_3.length co38 : Value).ownBlock)) (by (with_reducible repeat (first | apply Kd.S_alloc | apply Kd.S_drewN | apply Kd.S_drew)); exact Kd.S_mono HO_5.out (fun _ hk => ⟨⟨hk.1, hk.2.1⟩, hk.2.2⟩)) hg hat); have n1_ := Aside0.mk (Kd.R_after (ok := (fun k_ => some k_ ≠ (.slice Ao38 x8_3.length co38 : Value).ownBlock)) (rk HO_6.out) hg hat); have n2_ := Aside0.mk (Kd.R_after (ok := (fun k_ => some k_ ≠ (.slice (some ad217) x6_2.length co37 : Value).ownBlock)) (rk HO_8.out) hg hat); have n3_ := Aside0.mk (blk_grown (g := gb212) (o := .cells #[.slice (some ad216) ((rd_T38 l0 x34_2).f0).length c211_0, .int .i64 ((rd_T38 l0 x34_2).f1), .int .i64 ((rd_T38 l0 x34_2).f2)] 38 (0, 0)) (bk BK212.out) hg (Kd.R_ne HO_13.out BK212.out (by decide))); have n4_ := Aside0.mk (hb); have n5_ := Aside0.mk (ho); clear HO_5; clear HO_6; clear HO_8; clear BK212; clear HB; clear HO_13; have HO_5 := n0_; have HO_6 := n1_; have HO_8 := n2_; have BK212 := n3_; have HB := n4_; have HO221 := n5_; clear n0_ n1_ n2_ n3_ n4_ n5_; clear ho hb hg hat) | ((with_reducible refine gate_builtin (b := .append) (xs := #[.tmp 64, .tmp 66]) rfl ?_); at_builtin; refine Kd.R_append (Kd.int .i64) (w0 := w) w.heap.size rfl (.tmp 64) (.tmp 66) 35 3 (.int .i64 0) 8 rfl Try.underlying35 info3 rfl (by decide) (by omega) (.slice Ao38 x8_3.length co38) x8_3 (rd ((rd_T38 l0 x34_2).f0) x43_3) [.int .i64 (rd ((rd_T38 l0 x34_2).f0) x43_3)] (fun k_ => some k_ ≠ (.slice (some ad217) x6_2.length co37 : Value).ownBlock ∧ some k_ ≠ (v220 : Value).ownBlock) (fun _ => False) rfl rfl ?aP (fun _ hk => hk.elim) ?aF ?aO ?aB ?aS ?aL ?_; (case aP => exact rfl); (case aB => exact bel); (case aF => exact (fun k_ hk => ⟨Kd.fresh' (Kd.R_lt (rk HO_6.out)) k_ hk, Kd.fresh' (Kd.R_lt (rk HO221.out)) k_ hk⟩)); (case aO => exact (rk HO_8.out)); (case aS => exact (below_size bel)); (case aL => have := LMc35.out; omega); intro v223 w40 ho hb hg hat; rw [← Ny222.out] at ho; have n0_ := Aside0.mk (Kd.S_after (ok := (fun k_ => some k_ ≠ (.slice (some ad217) x6_2.length co37 : Value).ownBlock ∧ some k_ ≠ (v220 : Value).ownBlock)) (by (with_reducible repeat (first | apply Kd.S_alloc | apply Kd.S_drewN | apply Kd.S_drew)); exact Kd.S_mono HO_5.out (fun _ hk => ⟨⟨hk.1.1, hk.2⟩, hk.1.2⟩)) hg hat); have n1_ := Aside0.mk (Kd.R_after (ok := (fun k_ => some k_ ≠ (v220 : Value).ownBlock)) (by (with_reducible repeat (first | apply Kd.R_alloc | apply Kd.R_drewN | apply Kd.R_drew)); exact Kd.R_mono HO_6.out (fun _ hk => ⟨hk.2, hk.1⟩)) hg hat); have n2_ := Aside0.mk (blk_grown (g := gb212) (o := .cells #[.slice (some ad216) ((rd_T38 l0 x34_2).f0).length c211_0, .int .i64 ((rd_T38 l0 x34_2).f1), .int .i64 ((rd_T38 l0 x34_2).f2)] 38 (0, 0)) (bk BK212.out) hg (Kd.R_ne HO_8.out BK212.out (by decide))); have n3_ := Aside0.mk (Kd.R_after (ok := (fun k_ => some k_ ≠ (.slice (some ad217) x6_2.length co37 : Value).ownBlock)) (rk HO221.out) hg hat); have n4_ := Aside0.mk (hb); have n5_ := Aside0.mk (ho); clear HO_5; clear HO_6; clear BK212; clear HO221; clear HB; clear HO_8; have HO_5 := n0_; have HO_6 := n1_; have BK212 := n2_; have HO221 := n3_; have HB := n4_; have HO224 := n5_; clear n0_ n1_ n2_ n3_ n4_ n5_; clear ho hb hg hat))
                                        go_roundg k3
                                        case measure => have := HK1.out; have := HK2.out; have := HK3.out; omega
                                        case rel => exact ⟨(y222), (y219), (wrap64 (x43_3 + 1)), (es), H', ⟨by have := HK1.out; have := HK2.out; have := HK3.out; omega⟩, ⟨by (with_reducible repeat (first | apply Kd.S_alloc | apply Kd.S_drewN | apply Kd.S_drew)); exact Kd.S_mono HO_5.out (fun _ hk => ⟨hk.1.1, ⟨hk.2, hk.1.2⟩⟩)⟩, ⟨by (with_reducible repeat (first | apply Kd.R_alloc | apply Kd.R_drewN | apply Kd.R_drew)); exact Kd.R_mono HO_6.out (fun _ hk => ⟨hk.2, hk.1⟩)⟩, ⟨rk HO224.out⟩, ⟨rk HO221.out⟩, ⟨bk BK212.out⟩, ⟨bel⟩⟩
                                      · rw [if_neg c35] at H
                                        exact absurd H (by simp)
                                    · rw [if_neg c34] at H
                                      exact absurd H (by simp)
                                · rw [if_neg c28] at H
                                  have c28b0 : decide ((x13_3.length : Int) < (rd x6_2 x34_2)) = false := decide_eq_false c28
                                  clear c28
                                  have H' := Aside0.mk H
                                  clear H
                                  have p216 : 0 ≤ (x43_3 : Int) := asm
                                  have q216 : x43_3 < (((rd_T38 l0 x34_2).f0).length : Int) := asm
                                  obtain ⟨ad216, e216, hx216_0⟩ := Kd.at_int HR211_0.out x43_3 p216 q216
                                  cases e216
                                  replace hx216_0 := hcl HB.out hx216_0
                                  replace p216 := eq_true p216
                                  replace q216 := eq_true q216
                                  obtain ⟨Ao41, co41, eo41⟩ := Kd.R_slice HO_13.out
                                  subst eo41
                                  obtain ⟨Ao42, co42, eo42⟩ := Kd.R_slice HO_6.out
                                  subst eo42
                                  have p217 : 0 ≤ (x34_2 : Int) := asm
                                  have q217 : x34_2 < (x6_2.length : Int) := asm
                                  obtain ⟨ad217, e217, hx217_0⟩ := Kd.at_int (Kd.R_reads' HO_6.out).2.2 x34_2 p217 q217
                                  cases e217
                                  replace p217 := eq_true p217
                                  replace q217 := eq_true q217
                                  go_wp2
                                  go_roundg k3
                                  case measure => have := HK1.out; have := HK2.out; have := HK3.out; omega
                                  case rel => exact ⟨(x8_3), (x13_3), (wrap64 (x43_3 + 1)), (es), H', ⟨by have := HK1.out; have := HK2.out; have := HK3.out; omega⟩, ⟨by (with_reducible repeat (first | apply Kd.S_alloc | apply Kd.S_drewN | apply Kd.S_drew)); exact HO_5.out⟩, ⟨rk HO_6.out⟩, ⟨rk HO_8.out⟩, ⟨rk HO_13.out⟩, ⟨bk BK212.out⟩, ⟨bel⟩⟩
                              · rw [if_neg c27] at H
                                exact absurd H (by simp)
                            · rw [if_neg c26] at H
                              exact absurd H (by simp)
                          · rw [if_neg c25] at H
                            exact absurd H (by simp)
                        · rw [if_neg c24] at H
                          exact absurd H (by simp)
                      · rw [if_neg c23] at H
                        have c23b0 : decide (x43_3 < (((rd_T38 l0 x34_2).f0).length : Int)) = false := decide_eq_false c23
                        clear c23
                        by_cases c43 : x5_2.length < 5864062014805
                        · rw [if_pos c43] at H
                          have LMc43 := Aside0.mk c43
                          clear c43
                          obtain ⟨y225, hy225⟩ : ∃ y_ : List (List Int), y_ = (x5_2 ++ [x13_3]) := ⟨_, rfl⟩
                          replace H : (if 0 ≤ x34_2 then (if x34_2 < (x6_2.length : Int) then (if ((rd_T38 l0 x34_2).f2) < 0 then (impl_settle.l1 k3 y225 x6_2 (wrap64 (x7_2 + (wrap64 ((rd x6_2 x34_2) - (x13_3.length : Int))))) x8_3 l0 (l0.length : Int) (wrap64 (x34_2 + 1))) else (if 0 ≤ ((rd_T38 l0 x34_2).f2) then (if ((rd_T38 l0 x34_2).f2) < (x6_2.length : Int) then (impl_settle.l1 k3 y225 (x6_2.set (((rd_T38 l0 x34_2).f2) : Int).toNat (wrap64 ((rd x6_2 ((rd_T38 l0 x34_2).f2)) + (wrap64 ((rd x6_2 x34_2) - (x13_3.length : Int)))))) x7_2 x8_3 l0 (l0.length : Int) (wrap64 (x34_2 + 1))) else (none)) else (none))) else (none)) else (none)) = some (r1, r2, r3) := by first | (rw [hy225]; with_reducible exact H) | (have H2_ := (Option.bind_some _ _).symm.trans H; rw [hy225]; with_reducible exact H2_) | (have H2_ := (Option.bind_some _ _).symm.trans H; with_reducible exact H2_) | with_reducible exact H | (rw [hy225]; exact H) | exact H
                          have Ny225 := Aside0.mk hy225
                          clear hy225
                          by_cases c44 : 0 ≤ x34_2
                          · rw [if_pos c44] at H
                            have c44b0 : decide (0 ≤ x34_2) = true := decide_eq_true c44
                            clear c44
                            by_cases c45 : x34_2 < (x6_2.length : Int)
                            · rw [if_pos c45] at H
                              have c45b0 : decide (x34_2 < (x6_2.length : Int)) = true := decide_eq_true c45
                              clear c45
                              by_cases c46 : ((rd_T38 l0 x34_2).f2) < 0
                              · rw [if_pos c46] at H
                                have c46b0 : decide (((rd_T38 l0 x34_2).f2) < 0) = true := decide_eq_true c46
                                clear c46
                                have H' := Aside0.mk H
                                clear H
                                obtain ⟨Ao48, co48, eo48⟩ := Kd.R_slice HO_13.out
                                subst eo48
                                go_wp2_with (first | ((with_reducible refine gate_builtin (b := .append) (xs := #[.tmp 69, .tmp 71]) rfl ?_); at_builtin; refine Kd.S_append (Kd.slice 3 (Kd.int .i64)) (w0 := w) w.heap.size rfl (.tmp 69) (.tmp 71) 32 35 (.slice none 0 0) 24 rfl Try.underlying32 info35 rfl (by decide) (by omega) u5 x5_2 x13_3 [.slice Ao48 x13_3.length co48] (fun k_ => some k_ ≠ (u6 : Value).ownBlock ∧ some k_ ≠ (u8 : Value).ownBlock) (fun k_ => some k_ = (.slice Ao48 x13_3.length co48 : Value).ownBlock) rfl rfl ?aP (fun k_ hk_ => ((Kd.R_mono (ok' := fun k_ => ((fun k_ => some k_ ≠ (u6 : Value).ownBlock ∧ some k_ ≠ (u8 : Value).ownBlock)) k_ ∧ some k_ ≠ (u5 : Value).ownBlock) (Kd.R_apart' (HO_13.out) (Kd.S_typed HO_5.out) (by decide)) (fun k_ hk => ⟨⟨hk.1.1, hk.1.2⟩, hk.2⟩))).1 k_ hk_.symm) ?aF ?aO ?aB ?aS ?aL ?_; (case aP => exact Kd.M_row (Kd.R_mono (Kd.R_tight rfl (Kd.R_mono (ok' := fun k_ => ((fun k_ => some k_ ≠ (u6 : Value).ownBlock ∧ some k_ ≠ (u8 : Value).ownBlock)) k_ ∧ some k_ ≠ (u5 : Value).ownBlock) (Kd.R_apart' (HO_13.out) (Kd.S_typed HO_5.out) (by decide)) (fun k_ hk => ⟨⟨hk.1.1, hk.1.2⟩, hk.2⟩))) (fun _ h_ => h_))); (case aB => exact bel); (case aF => exact (fun k_ hk => ⟨Kd.fresh' (Kd.R_lt (rk HO_6.out)) k_ hk, Kd.fresh' (Kd.R_lt (rk HO_8.out)) k_ hk⟩)); (case aO => exact (by (with_reducible repeat (first | apply Kd.S_alloc | apply Kd.S_drewN | apply Kd.S_drew)); exact Kd.S_mono HO_5.out (fun k_ hk => ⟨⟨hk.1, hk.2.1⟩, fun e_ => hk.2.2 e_⟩))); (case aS => exact (below_size bel)); (case aL => have := LMc43.out; omega); intro v226 w47 ho hb hg hat; rw [← Ny225.out] at ho; have n0_ := Aside0.mk (Kd.R_over' (rk HO_6.out) (Kd.S_typed (by (with_reducible repeat (first | apply Kd.S_alloc | apply Kd.S_drewN | apply Kd.S_drew)); exact HO_5.out)) (by decide) hg); have n1_ := Aside0.mk (Kd.R_over' (rk HO_8.out) (Kd.S_typed (by (with_reducible repeat (first | apply Kd.S_alloc | apply Kd.S_drewN | apply Kd.S_drew)); exact HO_5.out)) (by decide) hg); have n2_ := Aside0.mk (blk_grown (g := gb212) (o := .cells #[.slice A211_0 ((rd_T38 l0 x34_2).f0).length c211_0, .int .i64 ((rd_T38 l0 x34_2).f1), .int .i64 ((rd_T38 l0 x34_2).f2)] 38 (0, 0)) (bk BK212.out) hg (Kd.S_ne HO_5.out BK212.out (by decide))); have n3_ := Aside0.mk (hb); have n4_ := Aside0.mk (ho); clear HO_6; clear HO_8; clear BK212; clear HB; clear HO_5; clear HO_13; have HO_6 := n0_; have HO_8 := n1_; have BK212 := n2_; have HB := n3_; have HO227 := n4_; clear n0_ n1_ n2_ n3_ n4_; clear ho hb hg hat; obtain ⟨Ao49, co49, eo49⟩ := Kd.R_slice HO_6.out; subst eo49; have p228 : 0 ≤ (x34_2 : Int) := asm; have q228 : x34_2 < (x6_2.length : Int) := asm; obtain ⟨ad228, e228, hx228_0⟩ := Kd.at_int (Kd.R_reads' HO_6.out).2.2 x34_2 p228 q228; cases e228; replace p228 := eq_true p228; replace q228 := eq_true q228; obtain ⟨hcz50_0, hcz50_1, hcz50_2, hfz50_0, hfz50_1, hfz50_2⟩ := cf3 BK212.out))
                                go_roundg k3
                                case measure => have := HK1.out; have := HK2.out; have := HK3.out; omega
                                case rel => exact ⟨(y225), (x6_2), (wrap64 (x7_2 + (wrap64 ((rd x6_2 x34_2) - (x13_3.length : Int))))), (x8_3), (wrap64 (x34_2 + 1)), (es), (es), H', ⟨by have := HK1.out; have := HK2.out; have := HK3.out; omega⟩, ⟨by (with_reducible repeat (first | apply Kd.S_alloc | apply Kd.S_drewN | apply Kd.S_drew)); exact HO227.out⟩, ⟨by (with_reducible repeat (first | apply Kd.R_alloc | apply Kd.R_drewN | apply Kd.R_drew)); exact Kd.R_mono HO_6.out (fun _ hk => hk.1)⟩, ⟨by (with_reducible repeat (first | apply Kd.R_alloc | apply Kd.R_drewN | apply Kd.R_drew)); exact Kd.R_mono HO_8.out (fun _ hk => hk.1)⟩, ⟨bel⟩⟩
                              · rw [if_neg c46] at H
                                have c46b0 : decide (((rd_T38 l0 x34_2).f2) < 0) = false := decide_eq_false c46
                                clear c46
                                by_cases c51 : 0 ≤ ((rd_T38 l0 x34_2).f2)
                                · rw [if_pos c51] at H
                                  have c51b0 : decide (0 ≤ ((rd_T38 l0 x34_2).f2)) = true := decide_eq_true c51
                                  clear c51
                                  by_cases c52 : ((rd_T38 l0 x34_2).f2) < (x6_2.length : Int)
                                  · rw [if_pos c52] at H
                                    have c52b0 : decide (((rd_T38 l0 x34_2).f2) < (x6_2.length : Int)) = true := decide_eq_true c52
                                    clear c52
                                    obtain ⟨y230, hy230⟩ : ∃ y_ : List Int, y_ = (x6_2.set (((rd_T38 l0 x34_2).f2) : Int).toNat (wrap64 ((rd x6_2 ((rd_T38 l0 x34_2).f2)) + (wrap64 ((rd x6_2 x34_2) - (x13_3.length : Int)))))) := ⟨_, rfl⟩
                                    replace H : (impl_settle.l1 k3 y225 y230 x7_2 x8_3 l0 (l0.length : Int) (wrap64 (x34_2 + 1))) = some (r1, r2, r3) := by first | (rw [hy230]; with_reducible exact H) | (have H2_ := (Option.bind_some _ _).symm.trans H; rw [hy230]; with_reducible exact H2_) | (have H2_ := (Option.bind_some _ _).symm.trans H; with_reducible exact H2_) | with_reducible exact H | (rw [hy230]; exact H) | exact H
                                    have Ny230 := Aside0.mk hy230
                                    clear hy230
                                    have H' := Aside0.mk H
                                    clear H
                                    obtain ⟨Ao55, co55, eo55⟩ := Kd.R_slice HO_13.out
                                    subst eo55
                                    go_wp2_with (first | ((with_reducible refine gate_builtin (b := .append) (xs := #[.tmp 69, .tmp 71]) rfl ?_); at_builtin; refine Kd.S_append (Kd.slice 3 (Kd.int .i64)) (w0 := w) w.heap.size rfl (.tmp 69) (.tmp 71) 32 35 (.slice none 0 0) 24 rfl Try.underlying32 info35 rfl (by decide) (by omega) u5 x5_2 x13_3 [.slice Ao55 x13_3.length co55] (fun k_ => some k_ ≠ (u6 : Value).ownBlock ∧ some k_ ≠ (u8 : Value).ownBlock) (fun k_ => some k_ = (.slice Ao55 x13_3.length co55 : Value).ownBlock) rfl rfl ?aP (fun k_ hk_ => ((Kd.R_mono (ok' := fun k_ => ((fun k_ => some k_ ≠ (u6 : Value).ownBlock ∧ some k_ ≠ (u8 : Value).ownBlock)) k_ ∧ some k_ ≠ (u5 : Value).ownBlock) (Kd.R_apart' (HO_13.out) (Kd.S_typed HO_5.out) (by decide)) (fun k_ hk => ⟨⟨hk.1.1, hk.1.2⟩, hk.2⟩))).1 k_ hk_.symm) ?aF ?aO ?aB ?aS ?aL ?_; (case aP => exact Kd.M_row (Kd.R_mono (Kd.R_tight rfl (Kd.R_mono (ok' := fun k_ => ((fun k_ => some k_ ≠ (u6 : Value).ownBlock ∧ some k_ ≠ (u8 : Value).ownBlock)) k_ ∧ some k_ ≠ (u5 : Value).ownBlock) (Kd.R_apart' (HO_13.out) (Kd.S_typed HO_5.out) (by decide)) (fun k_ hk => ⟨⟨hk.1.1, hk.1.2⟩, hk.2⟩))) (fun _ h_ => h_))); (case aB => exact bel); (case aF => exact (fun k_ hk => ⟨Kd.fresh' (Kd.R_lt (rk HO_6.out)) k_ hk, Kd.fresh' (Kd.R_lt (rk HO_8.out)) k_ hk⟩)); (case aO => exact (by (with_reducible repeat (first | apply Kd.S_alloc | apply Kd.S_drewN | apply Kd.S_drew)); exact Kd.S_mono HO_5.out (fun k_ hk => ⟨⟨hk.1, hk.2.1⟩, fun e_ => hk.2.2 e_⟩))); (case aS => exact (below_size bel)); (case aL => have := LMc43.out; omega); intro v226 w54 ho hb hg hat; rw [← Ny225.out] at ho; have n0_ := Aside0.mk (Kd.R_over' (rk HO_6.out) (Kd.S_typed (by (with_reducible repeat (first | apply Kd.S_alloc | apply Kd.S_drewN | apply Kd.S_drew)); exact HO_5.out)) (by decide) hg); have n1_ := Aside0.mk (Kd.R_over' (rk HO_8.out) (Kd.S_typed (by (with_reducible repeat (first | apply Kd.S_alloc | apply Kd.S_drewN | apply Kd.S_drew)); exact HO_5.out)) (by decide) hg); have n2_ := Aside0.mk (blk_grown (g := gb212) (o := .cells #[.slice A211_0 ((rd_T38 l0 x34_2).f0).length c211_0, .int .i64 ((rd_T38 l0 x34_2).f1), .int .i64 ((rd_T38 l0 x34_2).f2)] 38 (0, 0)) (bk BK212.out) hg (Kd.S_ne HO_5.out BK212.out (by decide))); have n3_ := Aside0.mk (hb); have n4_ := Aside0.mk (ho); clear HO_6; clear HO_8; clear BK212; clear HB; clear HO_5; clear HO_13; have HO_6 := n0_; have HO_8 := n1_; have BK212 := n2_; have HB := n3_; have HO227 := n4_; clear n0_ n1_ n2_ n3_ n4_; clear ho hb hg hat; obtain ⟨Ao56, co56, eo56⟩ := Kd.R_slice HO_6.out; subst eo56; have p228 : 0 ≤ (x34_2 : Int) := asm; have q228 : x34_2 < (x6_2.length : Int) := asm; obtain ⟨ad228, e228, hx228_0⟩ := Kd.at_int (Kd.R_reads' HO_6.out).2.2 x34_2 p228 q228; cases e228; replace p228 := eq_true p228; replace q228 := eq_true q228; obtain ⟨hcz57_0, hcz57_1, hcz57_2, hfz57_0, hfz57_1, hfz57_2⟩ := cf3 BK212.out; have p229 : 0 ≤ (((rd_T38 l0 x34_2).f2) : Int) := asm; have q229 : ((rd_T38 l0 x34_2).f2) < (x6_2.length : Int) := asm; obtain ⟨ad229, e229, hx229_0⟩ := Kd.at_int (Kd.R_reads' HO_6.out).2.2 ((rd_T38 l0 x34_2).f2) p229 q229; obtain rfl : ad228 = ad229 := (by injection e229); replace p229 := eq_true p229; replace q229 := eq_true q229; have p53 : 0 ≤ (((rd_T38 l0 x34_2).f2) : Int) := asm; have q53 : (((rd_T38 l0 x34_2).f2) : Int) < ((x6_2.length : Int) : Int) := asm; obtain ⟨go53, co53, eo53, gb53, gl53, cl53, HG53⟩ := Kd.R_form HO_6.out (by omega); (first | cases eo53 | (injection eo53 with ea_ en_ ec_; (first | subst ea_ | (injection ea_ with ea_; subst ea_)); subst ec_; clear en_)); have GB53 := Aside0.mk gb53; have GG53 := Aside0.mk HG53; clear gb53 gl53 HG53; (first | simp only [add_plain] at hx228_0 | skip); (first | simp only [add_plain] at hx229_0 | skip); obtain ⟨hx53_0, hf53_0⟩ := Kd.R_celln 0 HO_6.out (((rd_T38 l0 x34_2).f2) : Int) p53 q53; replace p53 := eq_true p53; replace q53 := eq_true q53; have n_ := Aside0.mk (Kd.R_mono (ok' := (fun k_ => some k_ ≠ (u8 : Value).ownBlock)) HO_6.out (fun k_ hk => hk.1)); clear HO_6; have HO_6 := n_; clear n_; obtain ⟨hy58_, hz58_⟩ := Kd.R_celln 0 HO_6.out (((rd_T38 l0 x34_2).f2) : Int) (asm) (asm); have HP58 := Kd.R_putg HO_6.out (((rd_T38 l0 x34_2).f2) : Int) (wrap64 ((rd x6_2 ((rd_T38 l0 x34_2).f2)) + (wrap64 ((rd x6_2 x34_2) - (x13_3.length : Int)))))) | ((with_reducible refine gate_store (t := 3) (p := 93) rfl ?_); refine store_event (t := 3) (p := 93) (v := ?vo_w59) (w1 := (w54.setCell ⟨go53, (((rd_T38 l0 x34_2).f2) : Int).toNat, none⟩ (.int .i64 (wrap64 ((rd x6_2 ((rd_T38 l0 x34_2).f2)) + (wrap64 ((rd x6_2 x34_2) - (x13_3.length : Int)))))))) ?hg ?ho ?hn ?hr ?_; (case ho => rfl); (case hg => rfl); (case hn => rfl); (case hr => first | (go_simp; done) | (go_simp; rfl)); intro w59 hw; have hg : w54.grownBy w59 (some go53) := (by rw [hw]; exact HP58.2); have hp_ : Kd.R (Kd.int .i64) 3 w59 w.heap.size (fun k_ => some k_ ≠ (u8 : Value).ownBlock) (.slice (some ⟨go53, 0, none⟩) x6_2.length co56) y230 := (by rw [hw, Ny230.out]; exact HP58.1); clear HP58; have n0_ := Aside0.mk (hp_); have n1_ := Aside0.mk (Kd.R_after (v := (.slice (some ⟨go53, 0, none⟩) x6_2.length co56)) (v1 := (.slice (some ⟨go53, 0, none⟩) x6_2.length co56)) (ok := (fun _ => True)) (by (with_reducible repeat (first | apply Kd.R_alloc | apply Kd.R_drewN | apply Kd.R_drew)); exact Kd.R_mono HO_8.out (fun _ hk => ⟨trivial, hk.1⟩)) hg (.inl rfl)); have n2_ := Aside0.mk (blk_grown (g := gb212) (o := .cells #[.slice A211_0 ((rd_T38 l0 x34_2).f0).length c211_0, .int .i64 ((rd_T38 l0 x34_2).f1), .int .i64 ((rd_T38 l0 x34_2).f2)] 38 (0, 0)) (bk BK212.out) hg (Kd.R_ne HO_6.out BK212.out (by decide))); have n3_ := Aside0.mk (Kd.S_after (v := (.slice (some ⟨go53, 0, none⟩) x6_2.length co56)) (v1 := (.slice (some ⟨go53, 0, none⟩) x6_2.length co56)) (ok := (fun k_ => some k_ ≠ (u8 : Value).ownBlock)) (by (with_reducible repeat (first | apply Kd.S_alloc | apply Kd.S_drewN | apply Kd.S_drew)); exact Kd.S_mono HO227.out (fun _ hk => ⟨hk.2, hk.1⟩)) hg (.inl rfl)); have n4_ := Aside0.mk ((by rw [hw]; exact below_set (HB.out) GB53.out : Below w.heap.size w w59)); clear HO_6; clear HO_8; clear BK212; clear HO227; clear HB; have HO_6 := n0_; have HO_8 := n1_; have BK212 := n2_; have HO227 := n3_; have HB := n4_; clear n0_ n1_ n2_ n3_ n4_; clear hg hw hp_))
                                    go_roundg k3
                                    case measure => have := HK1.out; have := HK2.out; have := HK3.out; omega
                                    case rel => exact ⟨(y225), (y230), (x7_2), (x8_3), (wrap64 (x34_2 + 1)), (es), (es), H', ⟨by have := HK1.out; have := HK2.out; have := HK3.out; omega⟩, ⟨by (with_reducible repeat (first | apply Kd.S_alloc | apply Kd.S_drewN | apply Kd.S_drew)); exact Kd.S_mono HO227.out (fun _ hk => ⟨hk.2, hk.1⟩)⟩, ⟨rk HO_6.out⟩, ⟨by (with_reducible repeat (first | apply Kd.R_alloc | apply Kd.R_drewN | apply Kd.R_drew)); exact Kd.R_mono HO_8.out (fun _ hk => hk.2)⟩, ⟨bel⟩⟩
                                  · rw [if_neg c52] at H
                                    exact absurd H (by simp)
                                · rw [if_neg c51] at H
                                  exact absurd H (by simp)
                            · rw [if_neg c45] at H
                              exact absurd H (by simp)
                          · rw [if_neg c44] at H
                            exact absurd H (by simp)
                        · rw [if_neg c43] at H
                          exact absurd H (by simp)
                · rw [if_neg c17] at H
                  exact absurd H (by simp)
              · rw [if_neg c16] at H
                exact absurd H (by simp)
            · rw [if_neg c15] at H
              have c15b0 : decide (x34_2 < (l0.length : Int)) = false := decide_eq_false c15
              clear c15
              simp only [Option.some.injEq, Prod.mk.injEq] at H
              obtain ⟨rfl, rfl, rfl⟩ := H
              go_wp2
              go_ret3
              exact ⟨_, _, er, by (with_reducible repeat (first | apply Kd.S_alloc | apply Kd.S_drewN | apply Kd.S_drew)); exact Kd.S_mono HO_5.out (fun _ hk => hk.1), by (with_reducible repeat (first | apply Kd.R_alloc | apply Kd.R_drewN | apply Kd.R_drew)); exact Kd.R_mono HO_6.out (fun _ hk => trivial), bel⟩

end Go.Proofs.Ytaopcamaceddnaa.Z
