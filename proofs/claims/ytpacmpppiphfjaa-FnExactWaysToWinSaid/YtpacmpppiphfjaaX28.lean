-- Written by a program of this session (wip/xp.py, over the kit's print) out of the translation: functions, and the walks that show them.
import Derived.Test.YtpacmpppiphfjaaX0
import Derived.Test.YtpacmpppiphfjaaX5
import Derived.Test.YtpacmpppiphfjaaX17
namespace Go.Proofs.Ytpacmpppiphfjaa.X
open Go.RowKit Go.Proofs.YtpacmpppiphfjaaW.PrintWords Go.Proofs.YtpacmpppiphfjaaW.PrintLast Go.Proofs.YtpacmpppiphfjaaW.PrintMore
attribute [local go_sem] max2_int min2_int max_two min_two max_three min_three max_four min_four   -- for this text's walks alone
set_option linter.unusedVariables false
set_option linter.unusedSimpArgs false

/-! ### spec_l14Copy: function 56 -/
def spec_l14Copy.f (a0_0 : Int) (l0_1 : List Int) : Option (Int × List Int) := (some (([] : List Int) : List Int)).bind fun y422 => (if y422.length + l0_1.length < 17592186044416 then (some (a0_0, (y422 ++ l0_1))) else (none))
def spec_l14Copy.T1 : Bool × List (List Nat × List Nat) := (true, [([], []), ([0], [0]), ([], []), ([], []), ([3], [3]), ([2, 4], [2, 4]), ([1, 5], [1, 5]), ([6, 5, 0, 1, 2, 3, 4, 5, 6], [6])])
def spec_l14Copy.B1 : List Nat := [0, 1, 0, 0, 8, 28, 63, 127]
theorem spec_l14Copy.tab1 : rtab .any (opsOf Try.f56 1) = spec_l14Copy.T1 := by kernel_rfl
theorem spec_l14Copy.bits1 : waitsOk spec_l14Copy.T1.2 spec_l14Copy.B1 = true := by kernel_rfl
set_option maxHeartbeats 8000000 in
set_option maxRecDepth 100000 in
theorem spec_l14Copy.calls (a0_0 : Int) (A0_1 : Option Addr) (c0_1 : Nat) (l0_1 : List Int) (r1 : Int) (r2 : List Int) (w : World) (hr0_1 : Kd.C (Kd.int .i64) w A0_1 l0_1.length l0_1) (hc0_1 : l0_1.length ≤ c0_1) (h : spec_l14Copy.f a0_0 l0_1 = some (r1, r2)) :
    Calls Try.prog 56 #[.agg #[.int .i64 a0_0, .slice A0_1 l0_1.length c0_1]] w fun e w' => ∃ v1_ : Value, e = .returned (.agg #[.int .i64 r1, v1_]) ∧ Kd.R (Kd.int .i64) 3 w' w.heap.size (fun _ => True) v1_ r2 ∧ Below w.heap.size w w' := by
  have hu36 := Try.underlying36
  have HR0_1 := Aside0.mk hr0_1
  have HC0_1 := Aside0.mk hc0_1
  clear hr0_1 hc0_1
  have HB := Aside0.mk (Below.refl w.heap.size w)
  have H : ((some (([] : List Int) : List Int)).bind fun y422 => (if y422.length + l0_1.length < 17592186044416 then (some (a0_0, (y422 ++ l0_1))) else (none))) = some (r1, r2) := h
  clear h
  obtain ⟨y422, hy422⟩ : ∃ y_ : List Int, y_ = (([] : List Int)) := ⟨_, rfl⟩
  replace H : (if y422.length + l0_1.length < 17592186044416 then (some (a0_0, (y422 ++ l0_1))) else (none)) = some (r1, r2) := by first | (rw [hy422]; with_reducible exact H) | (have H2_ := (Option.bind_some _ _).symm.trans H; rw [hy422]; with_reducible exact H2_) | (have H2_ := (Option.bind_some _ _).symm.trans H; with_reducible exact H2_) | with_reducible exact H | (rw [hy422]; exact H) | exact H
  have Ny422 := Aside0.mk hy422
  clear hy422
  by_cases c2 : y422.length + l0_1.length < 17592186044416
  · rw [if_pos c2] at H
    have LMc2 := Aside0.mk c2
    clear c2
    obtain ⟨y425, hy425⟩ : ∃ y_ : List Int, y_ = (y422 ++ l0_1) := ⟨_, rfl⟩
    replace H : (some (a0_0, y425)) = some (r1, r2) := by first | (rw [hy425]; with_reducible exact H) | (have H2_ := (Option.bind_some _ _).symm.trans H; rw [hy425]; with_reducible exact H2_) | (have H2_ := (Option.bind_some _ _).symm.trans H; with_reducible exact H2_) | with_reducible exact H | (rw [hy425]; exact H) | exact H
    have Ny425 := Aside0.mk hy425
    clear hy425
    simp only [Option.some.injEq, Prod.mk.injEq] at H
    obtain ⟨rfl, rfl⟩ := H
    go_enter Try.func56, Try.ntmps56
    try go_wp2_with (first | ((with_reducible refine gate_dst (N := 1) rfl ?_); refine box_event ?hg (N := 1) ?hd (cs := #[.int .i64 a0_0, .slice A0_1 l0_1.length c0_1]) (t := 36) ?hr ?_; (case hd => rfl); (case hg => rfl); (case hr => first | (go_simp; done) | (go_simp; rfl)); intro gb420 hg w3 hbox hb; have BK420 := Aside0.mk (hbox); have GW420 := Aside0.mk ((bsz hg : w.heap.size ≤ gb420)); have GE420 := Aside0.mk ((bsz hg : w.heap.size ≤ gb420)); replace HB := Aside0.mk (below_step bel hb); clear hb hbox hg) | ((with_reducible refine gate_dst (N := 2) rfl ?_); refine box_event ?hg (N := 2) ?hd (cs := #[.int .i64 0, .slice none 0 0]) (t := 36) ?hr ?_; (case hd => rfl); (case hg => rfl); (case hr => first | (go_simp; done) | (go_simp; rfl)); intro gb421 hg w4 hbox hb; have BK421 := Aside0.mk (hbox); have GW421 := Aside0.mk ((bsz hg : w.heap.size ≤ gb421)); have GE421 := Aside0.mk ((bsz hg : w.heap.size ≤ gb421)); have NB420_421 := Aside0.mk ((nlt hg BK420.out : gb420 ≠ gb421)); have NB421_420 := Aside0.mk ((ngt hg BK420.out : gb421 ≠ gb420)); replace BK420 := Aside0.mk (bb BK420.out hb); replace HB := Aside0.mk (below_step bel hb); clear hb hbox hg))
    replace BK420 := Aside0.mk (blk_drew BK420.out)
    replace BK421 := Aside0.mk (blk_drew BK421.out)
    replace HB := Aside0.mk (below_drew1 HB.out)
    refine start_ (n := 8) (S := fun w' => w'.cell? ⟨gb420, 0, none⟩ = some (.int .i64 a0_0) ∧ w'.cell? ⟨gb420, 1, none⟩ = some (.slice A0_1 l0_1.length c0_1)) (ds := []) #[false, false, false, false, false, false, false, false] (by kernel_rfl) rfl rfl ⟨(blk_cell BK420.out 0).trans rfl, (blk_cell BK420.out 1).trans rfl⟩ (fun hHeld => ?_); refine with_tabW spec_l14Copy.tab1 spec_l14Copy.bits1 (fun HT_ HW_ => ?_)
    generalize w4.drew = w5 at BK420 BK421 HB hHeld ⊢
    refine pure_ (i := 0) (N := some 3) (v := ?_) (a' := ?_) #[true, false, false, false, false, false, false, false] rfl rfl (any_of HT_.out (by kernel_rfl)) (fun _ _ _ h => h) (Or.inl ⟨by rfl, ?_⟩) ?_ ?_
    rotate_left
    · intro w'
      go_simp
      with_reducible rfl
    rotate_left
    · simp only [Act.put, List.setIfInBounds_toArray, List.set_cons_zero, List.set_cons_succ, i64_w, i32_w]
      rfl
    refine pure_ (i := 3) (N := some 6) (v := ?_) (a' := ?_) #[true, false, false, true, false, false, false, false] rfl rfl (any_of HT_.out (by kernel_rfl)) (fun _ _ _ h => h) (Or.inl ⟨by rfl, ?_⟩) ?_ ?_
    rotate_left
    · intro w'
      go_simp
      with_reducible rfl
    rotate_left
    · simp only [Act.put, List.setIfInBounds_toArray, List.set_cons_zero, List.set_cons_succ, i64_w, i32_w]
      rfl
    refine take_ (i := 1) (N := some 4) (v := ?_) (a' := ?_) #[true, true, false, true, false, false, false, false] rfl rfl (take_ofW HT_.out HW_.out (by kernel_rfl)) (fun _ _ _ h => h) (Or.inl ⟨by rfl, ?_⟩) hHeld ?_ ?_
    rotate_left
    · rintro w' ⟨s0, s1⟩
      go_simp
      with_reducible rfl
    rotate_left
    · simp only [Act.put, List.setIfInBounds_toArray, List.set_cons_zero, List.set_cons_succ, i64_w, i32_w]
      rfl
    refine take_ (i := 4) (N := some 7) (v := ?_) (a' := ?_) #[true, true, false, true, true, false, false, false] rfl rfl (take_ofW HT_.out HW_.out (by kernel_rfl)) (fun _ _ _ h => h) (Or.inl ⟨by rfl, ?_⟩) hHeld ?_ ?_
    rotate_left
    · rintro w' ⟨s0, s1⟩
      go_simp
      with_reducible rfl
    rotate_left
    · simp only [Act.put, List.setIfInBounds_toArray, List.set_cons_zero, List.set_cons_succ, i64_w, i32_w]
      rfl
    refine one_ (i := 2) (N := some 5) #[true, true, true, true, true, false, false, false] rfl rfl (one_of HT_.out (by kernel_rfl)) (by decide) (fun K hK => ?_)
    refine Kd.R_lit_step (Kd.int .i64) _ 3 ?hg (N := 5) ?hd (xs := ([] : List Int)) (inner := []) (ok := fun _ => True) (okp := fun _ => True) ?hr ?hp (fun _ hk => hk) trivial (Below.refl _ _) (Nat.le_refl _) (by simp) ?_; (case hd => rfl); (case hg => rfl); (case hr => first | (go_simp; done) | (go_simp; rfl)); (case hp => exact (Reps.none _ _))
    intro v423 w6 ho7 hb hg_ hnew_
    clear hg_ hnew_
    (first | rw [← Ny422.out] at ho7 | (simp only [Int.reduceToNat] at ho7; rw [← Ny422.out] at ho7))
    have HO424 := Aside0.mk (Kd.R_lower ho7 (below_size bel))
    replace BK420 := Aside0.mk (bb BK420.out hb)
    replace BK421 := Aside0.mk (bb BK421.out hb)
    replace HB := Aside0.mk (below_step bel hb)
    clear hb ho7
    refine hK.out _ _ ⟨(blk_cell BK420.out 0).trans rfl, (blk_cell BK420.out 1).trans rfl⟩ (fun hHeld => ?_)
    clear hK K
    refine norm_ (a' := ?_) ?_ ?_
    rotate_left
    · show Act.put _ (some 5) _ = _
      simp only [Act.put, List.setIfInBounds_toArray, List.set_cons_zero, List.set_cons_succ, i64_w, i32_w]
      rfl
    refine one_ (i := 5) (N := some 8) #[true, true, true, true, true, true, false, false] rfl rfl (one_of HT_.out (by kernel_rfl)) (by decide) (fun K hK => ?_)
    refine Kd.R_append_rows_step (Kd.int .i64) (w0 := w) w.heap.size (by rfl) (.tmp 5) (.tmp 7) 25 3 (.int .i64 0) 8 rfl Try.underlying25 info3 rfl (by decide) (by omega) v423 y422 l0_1 _ _ _ (fun _ => True) (fun _ => False) rfl rfl ?aO ?aR (fun _ _ h => h) (fun _ h => h.elim) ?aF ?aB ?aS ?aL ?_
    (case aR => exact ck (Kd.C_below HR0_1.out HB.out))
    (case aB => exact bel)
    (case aF => exact (fun _ _ => trivial))
    (case aO => exact (rk HO424.out))
    (case aS => exact (below_size bel))
    (case aL => have := LMc2.out; omega)
    intro v426 w8 ho hb hg hat
    rw [← Ny425.out] at ho
    have n0_ := Aside0.mk (blk_grown (g := gb420) (o := .cells #[.int .i64 a0_0, .slice A0_1 l0_1.length c0_1] 36 (0, 0)) (bk BK420.out) hg (Kd.R_ne HO424.out BK420.out (by decide)))
    have n1_ := Aside0.mk (blk_grown (g := gb421) (o := .cells #[.int .i64 0, .slice none 0 0] 36 (0, 0)) (bk BK421.out) hg (Kd.R_ne HO424.out BK421.out (by decide)))
    have n2_ := Aside0.mk (hb)
    have n3_ := Aside0.mk (ho)
    clear BK420
    clear BK421
    clear HB
    clear HO424
    have BK420 := n0_
    have BK421 := n1_
    have HB := n2_
    have HO427 := n3_
    clear n0_ n1_ n2_ n3_
    clear ho hb hg hat
    obtain ⟨Ao9, co9, eo9⟩ := Kd.R_slice HO427.out
    (first | subst eo9 | (injection eo9 with f1_ f2_ f3_; have f4_ := f1_.symm; have f5_ := f3_.symm; clear f1_ f2_ f3_; subst f4_; subst f5_))
    refine hK.out _ _ ⟨(blk_cell BK420.out 0).trans rfl, (blk_cell BK420.out 1).trans rfl⟩ (fun hHeld => ?_)
    clear hK K
    refine norm_ (a' := ?_) ?_ ?_
    rotate_left
    · show Act.put _ (some 8) _ = _
      simp only [Act.put, List.setIfInBounds_toArray, List.set_cons_zero, List.set_cons_succ, i64_w, i32_w]
      rfl
    refine pure_ (i := 6) (N := some 9) (v := ?_) (a' := ?_) #[true, true, true, true, true, true, true, false] rfl rfl (any_of HT_.out (by kernel_rfl)) (fun _ _ _ h => h) (Or.inl ⟨by rfl, ?_⟩) ?_ ?_
    rotate_left
    · intro w'
      go_simp
      with_reducible rfl
    rotate_left
    · simp only [Act.put, List.setIfInBounds_toArray, List.set_cons_zero, List.set_cons_succ, i64_w, i32_w]
      rfl
    refine one_ (i := 7) (N := none) #[true, true, true, true, true, true, true, true] rfl rfl (one_of HT_.out (by kernel_rfl)) (by decide) (fun K hK => ?_)
    have hs10 : w8.cell? ⟨gb421, 0, none⟩ = some (.int .i64 0) := (blk_cell BK421.out 0).trans rfl
    have hfs10 := blk_frozen BK421.out 0
    have hns10_0 := NB420_421.out
    have hms10_0 := NB421_420.out
    have hs11 : w8.cell? ⟨gb421, 1, none⟩ = some (.slice none 0 0) := (blk_cell BK421.out 1).trans rfl
    have hfs11 := blk_frozen BK421.out 1
    have hns11_0 := NB420_421.out
    have hms11_0 := NB421_420.out
    refine skip_ (w1 := ?_) (by rfl) rfl ?_ ?_
    rotate_left
    · go_simp
      rfl
    refine hK.out _ _ ⟨((cell_far (p := ⟨gb421, _, none⟩) NB420_421.out _).trans (((cell_far (p := ⟨gb421, _, none⟩) NB420_421.out _).trans (hHeld.1)))), ((cell_far (p := ⟨gb421, _, none⟩) NB420_421.out _).trans (((cell_far (p := ⟨gb421, _, none⟩) NB420_421.out _).trans (hHeld.2))))⟩ (fun hHeld => ?_)
    clear hK K
    refine done_ (done_of HT_.out (by kernel_rfl)) ?_
    try go_wp2
    refine bodyPost_ret (results_cell_row rfl _ _ gb421 36 #[.int .i64 a0_0, .slice Ao9 y425.length co9] (0, 0) _ rfl (by (with_reducible repeat (first | refine blk_drewN ?_ _ | refine blk_drew ?_ | refine blk_alloc ?_ _)); refine blk_put (cs := #[.int .i64 a0_0, .slice none 0 0]) ?_ 1 _ rfl; (with_reducible repeat (first | refine blk_drewN ?_ _ | refine blk_drew ?_ | refine blk_alloc ?_ _)); refine blk_put (cs := #[.int .i64 0, .slice none 0 0]) ?_ 0 _ rfl; (with_reducible repeat (first | refine blk_drewN ?_ _ | refine blk_drew ?_ | refine blk_alloc ?_ _)); exact BK421.out) Try.underlying36 rfl (by kernel_rfl)) rfl ?_
    exact ⟨_, er, by (with_reducible repeat (first | apply Kd.R_alloc | apply Kd.R_drewN | apply Kd.R_drew)); exact Kd.R_mono (Kd.R_far (p := ⟨gb421, 1, none⟩) (Kd.R_far (p := ⟨gb421, 0, none⟩) (Kd.R_types HO427.out BK421.out (by decide)) (fun _ hk => hk.2) (.int .i64 a0_0)) (fun _ hk => hk.2) (.slice Ao9 y425.length co9)) (fun _ hk => trivial), bel⟩
  · rw [if_neg c2] at H
    exact absurd H (by simp)

/-! ### spec_WinGame: function 39 -/
def spec_WinGame.f (k : Nat) (a0_0 : Int) (l0_1 : List Int) (a1 : Int) : Option (Int × List Int × Bool) := (spec_l14Copy.f a0_0 l0_1).bind fun bt430 => (if bt430.2.length < 17592186044416 then ((some (bt430.2 ++ [a1] : List Int)).bind fun y435 => ((spec_CupOk.f k a0_0 l0_1).bind fun t438 => (if t438 = true then ((spec_CupOk.f k bt430.1 y435).bind fun t439 => (if t439 = true then (some (bt430.1, y435, true)) else ((spec_l14Copy.f a0_0 l0_1).bind fun bt440 => (some (bt440.1, bt440.2, false))))) else ((spec_l14Copy.f a0_0 l0_1).bind fun bt444 => (some (bt444.1, bt444.2, false)))))) else (none))
theorem spec_WinGame.mono : ∀ a0 a1 a2 k, LeO (spec_WinGame.f k a0 a1 a2) (spec_WinGame.f (k + 1) a0 a1 a2) := by
  intro a0 a1 a2 k
  unfold spec_WinGame.f
  repeat' first
      | (with_reducible exact spec_CupOk.mono _ _ _)
      | (with_reducible exact LeO.refl _)
      | (with_reducible exact LeO.none _)
      | (with_reducible refine LeO.ite ?_ ?_)
      | (with_reducible refine LeO.bind ?_ (fun _ => ?_))
      | exact spec_CupOk.mono _ _ _
      | exact LeO.none _
      | refine LeO.ite ?_ ?_
      | refine LeO.bind ?_ (fun _ => ?_)
set_option maxHeartbeats 8000000 in
set_option maxRecDepth 100000 in
theorem spec_WinGame.calls (k : Nat) (a0_0 : Int) (A0_1 : Option Addr) (c0_1 : Nat) (l0_1 : List Int) (a1 : Int) (r1 : Int) (r2 : List Int) (r3 : Bool) (w : World) (hr0_1 : Kd.C (Kd.int .i64) w A0_1 l0_1.length l0_1) (hc0_1 : l0_1.length ≤ c0_1) (h : spec_WinGame.f k a0_0 l0_1 a1 = some (r1, r2, r3)) :
    Calls Try.prog 39 #[.agg #[.int .i64 a0_0, .slice A0_1 l0_1.length c0_1], .int .i64 a1] w fun e w' => ∃ v1_ : Value, e = .returned (.tuple #[.agg #[.int .i64 r1, v1_], .bool r3]) ∧ Kd.R (Kd.int .i64) 3 w' w.heap.size (fun _ => True) v1_ r2 ∧ Below w.heap.size w w' := by
  have hu36 := Try.underlying36
  have HR0_1 := Aside0.mk hr0_1
  have HC0_1 := Aside0.mk hc0_1
  clear hr0_1 hc0_1
  have HB := Aside0.mk (Below.refl w.heap.size w)
  have H : ((spec_l14Copy.f a0_0 l0_1).bind fun bt430 => (if bt430.2.length < 17592186044416 then ((some (bt430.2 ++ [a1] : List Int)).bind fun y435 => ((spec_CupOk.f k a0_0 l0_1).bind fun t438 => (if t438 = true then ((spec_CupOk.f k bt430.1 y435).bind fun t439 => (if t439 = true then (some (bt430.1, y435, true)) else ((spec_l14Copy.f a0_0 l0_1).bind fun bt440 => (some (bt440.1, bt440.2, false))))) else ((spec_l14Copy.f a0_0 l0_1).bind fun bt444 => (some (bt444.1, bt444.2, false)))))) else (none))) = some (r1, r2, r3) := h
  clear h
  replace H := Option.bind_eq_some_iff.mp H
  obtain ⟨⟨t430, t431⟩, A30, H⟩ := H
  replace H : (if t431.length < 17592186044416 then ((some (t431 ++ [a1] : List Int)).bind fun y435 => ((spec_CupOk.f k a0_0 l0_1).bind fun t438 => (if t438 = true then ((spec_CupOk.f k t430 y435).bind fun t439 => (if t439 = true then (some (t430, y435, true)) else ((spec_l14Copy.f a0_0 l0_1).bind fun bt440 => (some (bt440.1, bt440.2, false))))) else ((spec_l14Copy.f a0_0 l0_1).bind fun bt444 => (some (bt444.1, bt444.2, false)))))) else (none)) = some (r1, r2, r3) := H
  have A3 := Aside0.mk A30
  clear A30
  by_cases c4 : t431.length < 17592186044416
  · rw [if_pos c4] at H
    have LMc4 := Aside0.mk c4
    clear c4
    obtain ⟨y435, hy435⟩ : ∃ y_ : List Int, y_ = (t431 ++ [a1]) := ⟨_, rfl⟩
    replace H : ((spec_CupOk.f k a0_0 l0_1).bind fun t438 => (if t438 = true then ((spec_CupOk.f k t430 y435).bind fun t439 => (if t439 = true then (some (t430, y435, true)) else ((spec_l14Copy.f a0_0 l0_1).bind fun bt440 => (some (bt440.1, bt440.2, false))))) else ((spec_l14Copy.f a0_0 l0_1).bind fun bt444 => (some (bt444.1, bt444.2, false))))) = some (r1, r2, r3) := by first | (rw [hy435]; with_reducible exact H) | (have H2_ := (Option.bind_some _ _).symm.trans H; rw [hy435]; with_reducible exact H2_) | (have H2_ := (Option.bind_some _ _).symm.trans H; with_reducible exact H2_) | with_reducible exact H | (rw [hy435]; exact H) | exact H
    have Ny435 := Aside0.mk hy435
    clear hy435
    replace H := Option.bind_eq_some_iff.mp H
    obtain ⟨t438, A50, H⟩ := H
    replace H : (if t438 = true then ((spec_CupOk.f k t430 y435).bind fun t439 => (if t439 = true then (some (t430, y435, true)) else ((spec_l14Copy.f a0_0 l0_1).bind fun bt440 => (some (bt440.1, bt440.2, false))))) else ((spec_l14Copy.f a0_0 l0_1).bind fun bt444 => (some (bt444.1, bt444.2, false)))) = some (r1, r2, r3) := H
    have A5 := Aside0.mk A50
    clear A50
    by_cases c6 : t438 = true
    · subst c6
      have H1 : ((spec_CupOk.f k t430 y435).bind fun t439 => (if t439 = true then (some (t430, y435, true)) else ((spec_l14Copy.f a0_0 l0_1).bind fun bt440 => (some (bt440.1, bt440.2, false))))) = some (r1, r2, r3) := by rw [if_pos rfl] at H; exact H
      clear H
      have H := H1
      clear H1
      replace H := Option.bind_eq_some_iff.mp H
      obtain ⟨t439, A70, H⟩ := H
      replace H : (if t439 = true then (some (t430, y435, true)) else ((spec_l14Copy.f a0_0 l0_1).bind fun bt440 => (some (bt440.1, bt440.2, false)))) = some (r1, r2, r3) := H
      have A7 := Aside0.mk A70
      clear A70
      by_cases c8 : t439 = true
      · subst c8
        have H1 : (some (t430, y435, true)) = some (r1, r2, r3) := by rw [if_pos rfl] at H; exact H
        clear H
        have H := H1
        clear H1
        simp only [Option.some.injEq, Prod.mk.injEq] at H
        obtain ⟨rfl, rfl, rfl⟩ := H
        go_enter Try.func39, Try.ntmps39
        go_wp2_with (first | ((with_reducible refine gate_dst (N := 2) rfl ?_); refine box_event ?hg (N := 2) ?hd (cs := #[.int .i64 a0_0, .slice A0_1 l0_1.length c0_1]) (t := 36) ?hr ?_; (case hd => rfl); (case hg => rfl); (case hr => first | (go_simp; done) | (go_simp; rfl)); intro gb428 hg w9 hbox hb; have BK428 := Aside0.mk (hbox); have GW428 := Aside0.mk ((bsz hg : w.heap.size ≤ gb428)); have GE428 := Aside0.mk ((bsz hg : w.heap.size ≤ gb428)); replace HB := Aside0.mk (below_step bel hb); clear hb hbox hg) | ((with_reducible refine gate_dst (N := 4) rfl ?_); refine box_event ?hg (N := 4) ?hd (cs := #[.int .i64 0, .slice none 0 0]) (t := 36) ?hr ?_; (case hd => rfl); (case hg => rfl); (case hr => first | (go_simp; done) | (go_simp; rfl)); intro gb429 hg w10 hbox hb; have BK429 := Aside0.mk (hbox); have GW429 := Aside0.mk ((bsz hg : w.heap.size ≤ gb429)); have GE429 := Aside0.mk ((bsz hg : w.heap.size ≤ gb429)); have NB428_429 := Aside0.mk ((nlt hg BK428.out : gb428 ≠ gb429)); have NB429_428 := Aside0.mk ((ngt hg BK428.out : gb429 ≠ gb428)); replace BK428 := Aside0.mk (bb BK428.out hb); replace HB := Aside0.mk (below_step bel hb); clear hb hbox hg; have hnb11 := NB428_429.out; have hnc11 := NB429_428.out; obtain ⟨hcz12_0, hcz12_1, hfz12_0, hfz12_1⟩ := cf2 BK428.out) | ((with_reducible refine gate_callee (f := 56) rfl ?_); refine goesL_ (some 8) rfl rfl Try.func56 (by kernel_rfl) rfl #[.agg #[.int .i64 a0_0, .slice A0_1 l0_1.length c0_1]] rfl ga ?_; (with_reducible refine (spec_l14Copy.calls a0_0 _ _ l0_1 t430 t431 _ ?side1 ?side2 A3.out).mono ?_); (case side1 => exact ck (Kd.C_below HR0_1.out HB.out)); (case side2 => exact HC0_1.out); rintro e w13 ⟨v432, rfl, ho0, hb⟩; refine ⟨_, rfl, ?_⟩; have HO433 := Aside0.mk (Kd.R_lower ho0 (below_size bel)); replace BK428 := Aside0.mk (bb BK428.out hb); replace BK429 := Aside0.mk (bb BK429.out hb); replace HB := Aside0.mk (below_step bel hb); (try clear hb); (try clear ho0)) | ((with_reducible refine gate_dst (N := 6) rfl ?_); refine box_event ?hg (N := 6) ?hd (cs := #[.int .i64 0, .slice none 0 0]) (t := 36) ?hr ?_; (case hd => rfl); (case hg => rfl); (case hr => first | (go_simp; done) | (go_simp; rfl)); intro gb434 hg w14 hbox hb; have BK434 := Aside0.mk (hbox); have GW434 := Aside0.mk ((bsz hg : w.heap.size ≤ gb434)); have GE434 := Aside0.mk ((bsz hg : w.heap.size ≤ gb434)); have NB428_434 := Aside0.mk ((nlt hg BK428.out : gb428 ≠ gb434)); have NB434_428 := Aside0.mk ((ngt hg BK428.out : gb434 ≠ gb428)); have NB429_434 := Aside0.mk ((nlt hg BK429.out : gb429 ≠ gb434)); have NB434_429 := Aside0.mk ((ngt hg BK429.out : gb434 ≠ gb429)); replace HO433 := Aside0.mk (Kd.R_below (rk HO433.out) hb); replace BK428 := Aside0.mk (bb BK428.out hb); replace BK429 := Aside0.mk (bb BK429.out hb); replace HB := Aside0.mk (below_step bel hb); clear hb hbox hg; have hnb15 := NB434_428.out; have hnc15 := NB428_434.out; have hnb16 := NB434_429.out; have hnc16 := NB429_434.out; obtain ⟨hcz17_0, hcz17_1, hfz17_0, hfz17_1⟩ := cf2 BK434.out; obtain ⟨Ao18, co18, eo18⟩ := Kd.R_slice HO433.out; subst eo18) | ((with_reducible refine gate_builtin (b := .append) (xs := #[.tmp 10, .tmp 12]) rfl ?_); at_builtin; refine Kd.R_append (Kd.int .i64) (w0 := w) w.heap.size rfl (.tmp 10) (.tmp 12) 25 3 (.int .i64 0) 8 rfl Try.underlying25 info3 rfl (by decide) (by omega) (.slice Ao18 t431.length co18) t431 a1 [.int .i64 a1] (fun _ => True) (fun _ => False) rfl (by first | (go_simp; done) | (go_simp; rfl)) ?aP (fun _ hk => hk.elim) ?aF ?aO ?aB ?aS ?aL ?_; (case aP => exact rfl); (case aB => exact bel); (case aF => exact (fun _ _ => trivial)); (case aO => exact (by (with_reducible repeat (first | apply Kd.R_alloc | apply Kd.R_drewN | apply Kd.R_drew)); exact Kd.R_mono (Kd.R_far (p := ⟨gb434, 1, none⟩) (Kd.R_far (p := ⟨gb434, 0, none⟩) (Kd.R_types HO433.out BK434.out (by decide)) (fun _ hk => hk.2) (.int .i64 t430)) (fun _ hk => hk.2) (.slice Ao18 t431.length co18)) (fun _ hk => trivial))); (case aS => exact (below_size bel)); (case aL => have := LMc4.out; omega); intro v436 w19 ho hb hg hat; rw [← Ny435.out] at ho; have n0_ := Aside0.mk (blk_grown (g := gb428) (o := .cells #[.int .i64 a0_0, .slice A0_1 l0_1.length c0_1] 36 (0, 0)) (bk BK428.out) hg (Kd.R_ne HO433.out BK428.out (by decide))); have n1_ := Aside0.mk (blk_grown (g := gb429) (o := .cells #[.int .i64 0, .slice none 0 0] 36 (0, 0)) (bk BK429.out) hg (Kd.R_ne HO433.out BK429.out (by decide))); have n2_ := Aside0.mk (blk_grown (g := gb434) (o := .cells #[.int .i64 t430, .slice Ao18 t431.length co18] 36 (0, 0)) (by (with_reducible repeat (first | refine blk_drewN ?_ _ | refine blk_drew ?_ | refine blk_alloc ?_ _)); refine blk_put (cs := #[.int .i64 t430, .slice none 0 0]) ?_ 1 _ rfl; (with_reducible repeat (first | refine blk_drewN ?_ _ | refine blk_drew ?_ | refine blk_alloc ?_ _)); refine blk_put (cs := #[.int .i64 0, .slice none 0 0]) ?_ 0 _ rfl; (with_reducible repeat (first | refine blk_drewN ?_ _ | refine blk_drew ?_ | refine blk_alloc ?_ _)); exact BK434.out) hg (Kd.R_ne HO433.out BK434.out (by decide))); have n3_ := Aside0.mk (hb); have n4_ := Aside0.mk (ho); clear BK428; clear BK429; clear BK434; clear HB; clear HO433; have BK428 := n0_; have BK429 := n1_; have BK434 := n2_; have HB := n3_; have HO437 := n4_; clear n0_ n1_ n2_ n3_ n4_; clear ho hb hg hat; obtain ⟨Ao20, co20, eo20⟩ := Kd.R_slice HO437.out; subst eo20; obtain ⟨hcz21_0, hcz21_1, hfz21_0, hfz21_1⟩ := cf2 BK434.out; obtain ⟨hcz22_0, hcz22_1, hfz22_0, hfz22_1⟩ := cf2 BK428.out) | ((with_reducible refine gate_callee (f := 32) rfl ?_); refine goesL_ (some 16) rfl rfl Try.func32 (by kernel_rfl) rfl #[.agg #[.int .i64 a0_0, .slice A0_1 l0_1.length c0_1]] rfl ga ?_; (with_reducible refine (spec_CupOk.calls k a0_0 _ _ l0_1 true _ ?side1 ?side2 A5.out).mono ?_); (case side1 => exact Kd.C_below HR0_1.out bel); (case side2 => exact HC0_1.out); rintro e w23 ⟨rfl, hb⟩; refine ⟨_, rfl, ?_⟩; replace HO437 := Aside0.mk (Kd.R_below (by exact rk (Kd.R_mono (Kd.R_far (p := ⟨gb434, 1, none⟩) (Kd.R_types HO437.out BK434.out (by decide)) (fun _ hk => hk.2) (.slice Ao20 y435.length co20)) (fun _ h_ => h_.1))) hb); replace BK428 := Aside0.mk (bb BK428.out hb); replace BK429 := Aside0.mk (bb BK429.out hb); replace BK434 := Aside0.mk (blk_below (g := gb434) (o := .cells #[.int .i64 t430, .slice Ao20 y435.length co20] 36 (0, 0)) (by (with_reducible repeat (first | refine blk_drewN ?_ _ | refine blk_drew ?_ | refine blk_alloc ?_ _)); refine blk_put (cs := #[.int .i64 t430, .slice Ao18 t431.length co18]) ?_ 1 _ rfl; (with_reducible repeat (first | refine blk_drewN ?_ _ | refine blk_drew ?_ | refine blk_alloc ?_ _)); exact BK434.out) hb); replace HB := Aside0.mk (below_step bel hb); (try clear hb); obtain ⟨hcz24_0, hcz24_1, hfz24_0, hfz24_1⟩ := cf2 BK434.out) | (go_at_call 32; (with_reducible refine (spec_CupOk.calls k t430 _ _ y435 true _ ?side1 ?side2 A7.out).mono ?_); (case side1 => exact ck (Kd.R_reads' HO437.out).2.2); (case side2 => exact (Kd.R_reads' HO437.out).2.1); rintro e w25 ⟨rfl, hb⟩; replace HO437 := Aside0.mk (Kd.R_below (rk HO437.out) hb); replace BK428 := Aside0.mk (bb BK428.out hb); replace BK429 := Aside0.mk (bb BK429.out hb); replace BK434 := Aside0.mk (bb BK434.out hb); replace HB := Aside0.mk (below_step bel hb); (try clear hb); (try clear hb2); (try clear hk); (try clear hi); obtain ⟨hcz26_0, hcz26_1, hfz26_0, hfz26_1⟩ := cf2 BK434.out; obtain ⟨hcz27_0, hcz27_1, hfz27_0, hfz27_1⟩ := cf2 BK429.out))
        refine bodyPost_ret (results_ct rfl _ _ gb429 36 #[.int .i64 t430, .slice Ao20 y435.length co20] (0, 0) _ rfl (by (with_reducible repeat (first | refine blk_drewN ?_ _ | refine blk_drew ?_ | refine blk_alloc ?_ _)); refine blk_put (cs := #[.int .i64 t430, .slice none 0 0]) ?_ 1 _ rfl; (with_reducible repeat (first | refine blk_drewN ?_ _ | refine blk_drew ?_ | refine blk_alloc ?_ _)); refine blk_put (cs := #[.int .i64 0, .slice none 0 0]) ?_ 0 _ rfl; (with_reducible repeat (first | refine blk_drewN ?_ _ | refine blk_drew ?_ | refine blk_alloc ?_ _)); exact BK429.out) Try.underlying36 rfl (by kernel_rfl)) rfl ?_
        exact ⟨_, er, by (with_reducible repeat (first | apply Kd.R_alloc | apply Kd.R_drewN | apply Kd.R_drew)); exact Kd.R_mono (Kd.R_far (p := ⟨gb429, 1, none⟩) (Kd.R_far (p := ⟨gb429, 0, none⟩) (Kd.R_types HO437.out BK429.out (by decide)) (fun _ hk => hk.2) (.int .i64 t430)) (fun _ hk => hk.2) (.slice Ao20 y435.length co20)) (fun _ hk => trivial), bel⟩
      · replace c8 := Bool.eq_false_iff.mpr c8
        subst c8
        have H1 : ((spec_l14Copy.f a0_0 l0_1).bind fun bt440 => (some (bt440.1, bt440.2, false))) = some (r1, r2, r3) := by rw [if_neg (show ¬ (false = true) by decide)] at H; exact H
        clear H
        have H := H1
        clear H1
        replace H := Option.bind_eq_some_iff.mp H
        obtain ⟨⟨t440, t441⟩, A280, H⟩ := H
        replace H : (some (t440, t441, false)) = some (r1, r2, r3) := H
        have A28 := Aside0.mk A280
        clear A280
        simp only [Option.some.injEq, Prod.mk.injEq] at H
        obtain ⟨rfl, rfl, rfl⟩ := H
        go_enter Try.func39, Try.ntmps39
        go_wp2_with (first | ((with_reducible refine gate_dst (N := 2) rfl ?_); refine box_event ?hg (N := 2) ?hd (cs := #[.int .i64 a0_0, .slice A0_1 l0_1.length c0_1]) (t := 36) ?hr ?_; (case hd => rfl); (case hg => rfl); (case hr => first | (go_simp; done) | (go_simp; rfl)); intro gb428 hg w29 hbox hb; have BK428 := Aside0.mk (hbox); have GW428 := Aside0.mk ((bsz hg : w.heap.size ≤ gb428)); have GE428 := Aside0.mk ((bsz hg : w.heap.size ≤ gb428)); replace HB := Aside0.mk (below_step bel hb); clear hb hbox hg) | ((with_reducible refine gate_dst (N := 4) rfl ?_); refine box_event ?hg (N := 4) ?hd (cs := #[.int .i64 0, .slice none 0 0]) (t := 36) ?hr ?_; (case hd => rfl); (case hg => rfl); (case hr => first | (go_simp; done) | (go_simp; rfl)); intro gb429 hg w30 hbox hb; have BK429 := Aside0.mk (hbox); have GW429 := Aside0.mk ((bsz hg : w.heap.size ≤ gb429)); have GE429 := Aside0.mk ((bsz hg : w.heap.size ≤ gb429)); have NB428_429 := Aside0.mk ((nlt hg BK428.out : gb428 ≠ gb429)); have NB429_428 := Aside0.mk ((ngt hg BK428.out : gb429 ≠ gb428)); replace BK428 := Aside0.mk (bb BK428.out hb); replace HB := Aside0.mk (below_step bel hb); clear hb hbox hg; have hnb31 := NB428_429.out; have hnc31 := NB429_428.out; obtain ⟨hcz32_0, hcz32_1, hfz32_0, hfz32_1⟩ := cf2 BK428.out) | ((with_reducible refine gate_callee (f := 56) rfl ?_); refine goesL_ (some 8) rfl rfl Try.func56 (by kernel_rfl) rfl #[.agg #[.int .i64 a0_0, .slice A0_1 l0_1.length c0_1]] rfl ga ?_; (with_reducible refine (spec_l14Copy.calls a0_0 _ _ l0_1 t430 t431 _ ?side1 ?side2 A3.out).mono ?_); (case side1 => exact ck (Kd.C_below HR0_1.out HB.out)); (case side2 => exact HC0_1.out); rintro e w33 ⟨v432, rfl, ho0, hb⟩; refine ⟨_, rfl, ?_⟩; have HO433 := Aside0.mk (Kd.R_lower ho0 (below_size bel)); replace BK428 := Aside0.mk (bb BK428.out hb); replace BK429 := Aside0.mk (bb BK429.out hb); replace HB := Aside0.mk (below_step bel hb); (try clear hb); (try clear ho0)) | ((with_reducible refine gate_dst (N := 6) rfl ?_); refine box_event ?hg (N := 6) ?hd (cs := #[.int .i64 0, .slice none 0 0]) (t := 36) ?hr ?_; (case hd => rfl); (case hg => rfl); (case hr => first | (go_simp; done) | (go_simp; rfl)); intro gb434 hg w34 hbox hb; have BK434 := Aside0.mk (hbox); have GW434 := Aside0.mk ((bsz hg : w.heap.size ≤ gb434)); have GE434 := Aside0.mk ((bsz hg : w.heap.size ≤ gb434)); have NB428_434 := Aside0.mk ((nlt hg BK428.out : gb428 ≠ gb434)); have NB434_428 := Aside0.mk ((ngt hg BK428.out : gb434 ≠ gb428)); have NB429_434 := Aside0.mk ((nlt hg BK429.out : gb429 ≠ gb434)); have NB434_429 := Aside0.mk ((ngt hg BK429.out : gb434 ≠ gb429)); replace HO433 := Aside0.mk (Kd.R_below (rk HO433.out) hb); replace BK428 := Aside0.mk (bb BK428.out hb); replace BK429 := Aside0.mk (bb BK429.out hb); replace HB := Aside0.mk (below_step bel hb); clear hb hbox hg; have hnb35 := NB434_428.out; have hnc35 := NB428_434.out; have hnb36 := NB434_429.out; have hnc36 := NB429_434.out; obtain ⟨hcz37_0, hcz37_1, hfz37_0, hfz37_1⟩ := cf2 BK434.out; obtain ⟨Ao38, co38, eo38⟩ := Kd.R_slice HO433.out; subst eo38) | ((with_reducible refine gate_builtin (b := .append) (xs := #[.tmp 10, .tmp 12]) rfl ?_); at_builtin; refine Kd.R_append (Kd.int .i64) (w0 := w) w.heap.size rfl (.tmp 10) (.tmp 12) 25 3 (.int .i64 0) 8 rfl Try.underlying25 info3 rfl (by decide) (by omega) (.slice Ao38 t431.length co38) t431 a1 [.int .i64 a1] (fun _ => True) (fun _ => False) rfl (by first | (go_simp; done) | (go_simp; rfl)) ?aP (fun _ hk => hk.elim) ?aF ?aO ?aB ?aS ?aL ?_; (case aP => exact rfl); (case aB => exact bel); (case aF => exact (fun _ _ => trivial)); (case aO => exact (by (with_reducible repeat (first | apply Kd.R_alloc | apply Kd.R_drewN | apply Kd.R_drew)); exact Kd.R_mono (Kd.R_far (p := ⟨gb434, 1, none⟩) (Kd.R_far (p := ⟨gb434, 0, none⟩) (Kd.R_types HO433.out BK434.out (by decide)) (fun _ hk => hk.2) (.int .i64 t430)) (fun _ hk => hk.2) (.slice Ao38 t431.length co38)) (fun _ hk => trivial))); (case aS => exact (below_size bel)); (case aL => have := LMc4.out; omega); intro v436 w39 ho hb hg hat; rw [← Ny435.out] at ho; have n0_ := Aside0.mk (blk_grown (g := gb428) (o := .cells #[.int .i64 a0_0, .slice A0_1 l0_1.length c0_1] 36 (0, 0)) (bk BK428.out) hg (Kd.R_ne HO433.out BK428.out (by decide))); have n1_ := Aside0.mk (blk_grown (g := gb429) (o := .cells #[.int .i64 0, .slice none 0 0] 36 (0, 0)) (bk BK429.out) hg (Kd.R_ne HO433.out BK429.out (by decide))); have n2_ := Aside0.mk (blk_grown (g := gb434) (o := .cells #[.int .i64 t430, .slice Ao38 t431.length co38] 36 (0, 0)) (by (with_reducible repeat (first | refine blk_drewN ?_ _ | refine blk_drew ?_ | refine blk_alloc ?_ _)); refine blk_put (cs := #[.int .i64 t430, .slice none 0 0]) ?_ 1 _ rfl; (with_reducible repeat (first | refine blk_drewN ?_ _ | refine blk_drew ?_ | refine blk_alloc ?_ _)); refine blk_put (cs := #[.int .i64 0, .slice none 0 0]) ?_ 0 _ rfl; (with_reducible repeat (first | refine blk_drewN ?_ _ | refine blk_drew ?_ | refine blk_alloc ?_ _)); exact BK434.out) hg (Kd.R_ne HO433.out BK434.out (by decide))); have n3_ := Aside0.mk (hb); have n4_ := Aside0.mk (ho); clear BK428; clear BK429; clear BK434; clear HB; clear HO433; have BK428 := n0_; have BK429 := n1_; have BK434 := n2_; have HB := n3_; have HO437 := n4_; clear n0_ n1_ n2_ n3_ n4_; clear ho hb hg hat; obtain ⟨Ao40, co40, eo40⟩ := Kd.R_slice HO437.out; subst eo40; obtain ⟨hcz41_0, hcz41_1, hfz41_0, hfz41_1⟩ := cf2 BK434.out; obtain ⟨hcz42_0, hcz42_1, hfz42_0, hfz42_1⟩ := cf2 BK428.out) | ((with_reducible refine gate_callee (f := 32) rfl ?_); refine goesL_ (some 16) rfl rfl Try.func32 (by kernel_rfl) rfl #[.agg #[.int .i64 a0_0, .slice A0_1 l0_1.length c0_1]] rfl ga ?_; (with_reducible refine (spec_CupOk.calls k a0_0 _ _ l0_1 true _ ?side1 ?side2 A5.out).mono ?_); (case side1 => exact Kd.C_below HR0_1.out bel); (case side2 => exact HC0_1.out); rintro e w43 ⟨rfl, hb⟩; refine ⟨_, rfl, ?_⟩; replace HO437 := Aside0.mk (Kd.R_below (by exact rk (Kd.R_mono (Kd.R_far (p := ⟨gb434, 1, none⟩) (Kd.R_types HO437.out BK434.out (by decide)) (fun _ hk => hk.2) (.slice Ao40 y435.length co40)) (fun _ h_ => h_.1))) hb); replace BK428 := Aside0.mk (bb BK428.out hb); replace BK429 := Aside0.mk (bb BK429.out hb); replace BK434 := Aside0.mk (blk_below (g := gb434) (o := .cells #[.int .i64 t430, .slice Ao40 y435.length co40] 36 (0, 0)) (by (with_reducible repeat (first | refine blk_drewN ?_ _ | refine blk_drew ?_ | refine blk_alloc ?_ _)); refine blk_put (cs := #[.int .i64 t430, .slice Ao38 t431.length co38]) ?_ 1 _ rfl; (with_reducible repeat (first | refine blk_drewN ?_ _ | refine blk_drew ?_ | refine blk_alloc ?_ _)); exact BK434.out) hb); replace HB := Aside0.mk (below_step bel hb); (try clear hb); obtain ⟨hcz44_0, hcz44_1, hfz44_0, hfz44_1⟩ := cf2 BK434.out) | (go_at_call 32; (with_reducible refine (spec_CupOk.calls k t430 _ _ y435 false _ ?side1 ?side2 A7.out).mono ?_); (case side1 => exact ck (Kd.R_reads' HO437.out).2.2); (case side2 => exact (Kd.R_reads' HO437.out).2.1); rintro e w45 ⟨rfl, hb⟩; replace HO437 := Aside0.mk (Kd.R_below (rk HO437.out) hb); replace BK428 := Aside0.mk (bb BK428.out hb); replace BK429 := Aside0.mk (bb BK429.out hb); replace BK434 := Aside0.mk (bb BK434.out hb); replace HB := Aside0.mk (below_step bel hb); (try clear hb); (try clear hb2); (try clear hk); (try clear hi); obtain ⟨hcz46_0, hcz46_1, hfz46_0, hfz46_1⟩ := cf2 BK428.out) | ((with_reducible refine gate_callee (f := 56) rfl ?_); refine goesL_ (some 24) rfl rfl Try.func56 (by kernel_rfl) rfl #[.agg #[.int .i64 a0_0, .slice A0_1 l0_1.length c0_1]] rfl ga ?_; (with_reducible refine (spec_l14Copy.calls a0_0 _ _ l0_1 t440 t441 _ ?side1 ?side2 A28.out).mono ?_); (case side1 => exact ck (Kd.C_below HR0_1.out HB.out)); (case side2 => exact HC0_1.out); rintro e w47 ⟨v442, rfl, ho0, hb⟩; refine ⟨_, rfl, ?_⟩; have HO443 := Aside0.mk (Kd.R_lower (Kd.R_new' ho0 (Kd.R_lt (rk HO437.out))) (below_size bel)); replace HO437 := Aside0.mk (Kd.R_elder' (rk HO437.out) (Kd.R_base ho0) hb); replace BK428 := Aside0.mk (bb BK428.out hb); replace BK429 := Aside0.mk (bb BK429.out hb); replace BK434 := Aside0.mk (bb BK434.out hb); replace HB := Aside0.mk (below_step bel hb); (try clear hb); (try clear ho0); obtain ⟨hcz48_0, hcz48_1, hfz48_0, hfz48_1⟩ := cf2 BK429.out; obtain ⟨Ao49, co49, eo49⟩ := Kd.R_slice HO443.out; subst eo49))
        refine bodyPost_ret (results_ct rfl _ _ gb429 36 #[.int .i64 t440, .slice Ao49 t441.length co49] (0, 0) _ rfl (by (with_reducible repeat (first | refine blk_drewN ?_ _ | refine blk_drew ?_ | refine blk_alloc ?_ _)); refine blk_put (cs := #[.int .i64 t440, .slice none 0 0]) ?_ 1 _ rfl; (with_reducible repeat (first | refine blk_drewN ?_ _ | refine blk_drew ?_ | refine blk_alloc ?_ _)); refine blk_put (cs := #[.int .i64 0, .slice none 0 0]) ?_ 0 _ rfl; (with_reducible repeat (first | refine blk_drewN ?_ _ | refine blk_drew ?_ | refine blk_alloc ?_ _)); exact BK429.out) Try.underlying36 rfl (by kernel_rfl)) rfl ?_
        exact ⟨_, er, by (with_reducible repeat (first | apply Kd.R_alloc | apply Kd.R_drewN | apply Kd.R_drew)); exact Kd.R_mono (Kd.R_far (p := ⟨gb429, 1, none⟩) (Kd.R_far (p := ⟨gb429, 0, none⟩) (Kd.R_types HO443.out BK429.out (by decide)) (fun _ hk => hk.2) (.int .i64 t440)) (fun _ hk => hk.2) (.slice Ao49 t441.length co49)) (fun _ hk => trivial), bel⟩
    · replace c6 := Bool.eq_false_iff.mpr c6
      subst c6
      have H1 : ((spec_l14Copy.f a0_0 l0_1).bind fun bt444 => (some (bt444.1, bt444.2, false))) = some (r1, r2, r3) := by rw [if_neg (show ¬ (false = true) by decide)] at H; exact H
      clear H
      have H := H1
      clear H1
      replace H := Option.bind_eq_some_iff.mp H
      obtain ⟨⟨t444, t445⟩, A500, H⟩ := H
      replace H : (some (t444, t445, false)) = some (r1, r2, r3) := H
      have A50 := Aside0.mk A500
      clear A500
      simp only [Option.some.injEq, Prod.mk.injEq] at H
      obtain ⟨rfl, rfl, rfl⟩ := H
      go_enter Try.func39, Try.ntmps39
      go_wp2_with (first | ((with_reducible refine gate_dst (N := 2) rfl ?_); refine box_event ?hg (N := 2) ?hd (cs := #[.int .i64 a0_0, .slice A0_1 l0_1.length c0_1]) (t := 36) ?hr ?_; (case hd => rfl); (case hg => rfl); (case hr => first | (go_simp; done) | (go_simp; rfl)); intro gb428 hg w51 hbox hb; have BK428 := Aside0.mk (hbox); have GW428 := Aside0.mk ((bsz hg : w.heap.size ≤ gb428)); have GE428 := Aside0.mk ((bsz hg : w.heap.size ≤ gb428)); replace HB := Aside0.mk (below_step bel hb); clear hb hbox hg) | ((with_reducible refine gate_dst (N := 4) rfl ?_); refine box_event ?hg (N := 4) ?hd (cs := #[.int .i64 0, .slice none 0 0]) (t := 36) ?hr ?_; (case hd => rfl); (case hg => rfl); (case hr => first | (go_simp; done) | (go_simp; rfl)); intro gb429 hg w52 hbox hb; have BK429 := Aside0.mk (hbox); have GW429 := Aside0.mk ((bsz hg : w.heap.size ≤ gb429)); have GE429 := Aside0.mk ((bsz hg : w.heap.size ≤ gb429)); have NB428_429 := Aside0.mk ((nlt hg BK428.out : gb428 ≠ gb429)); have NB429_428 := Aside0.mk ((ngt hg BK428.out : gb429 ≠ gb428)); replace BK428 := Aside0.mk (bb BK428.out hb); replace HB := Aside0.mk (below_step bel hb); clear hb hbox hg; have hnb53 := NB428_429.out; have hnc53 := NB429_428.out; obtain ⟨hcz54_0, hcz54_1, hfz54_0, hfz54_1⟩ := cf2 BK428.out) | ((with_reducible refine gate_callee (f := 56) rfl ?_); refine goesL_ (some 8) rfl rfl Try.func56 (by kernel_rfl) rfl #[.agg #[.int .i64 a0_0, .slice A0_1 l0_1.length c0_1]] rfl ga ?_; (with_reducible refine (spec_l14Copy.calls a0_0 _ _ l0_1 t430 t431 _ ?side1 ?side2 A3.out).mono ?_); (case side1 => exact ck (Kd.C_below HR0_1.out HB.out)); (case side2 => exact HC0_1.out); rintro e w55 ⟨v432, rfl, ho0, hb⟩; refine ⟨_, rfl, ?_⟩; have HO433 := Aside0.mk (Kd.R_lower ho0 (below_size bel)); replace BK428 := Aside0.mk (bb BK428.out hb); replace BK429 := Aside0.mk (bb BK429.out hb); replace HB := Aside0.mk (below_step bel hb); (try clear hb); (try clear ho0)) | ((with_reducible refine gate_dst (N := 6) rfl ?_); refine box_event ?hg (N := 6) ?hd (cs := #[.int .i64 0, .slice none 0 0]) (t := 36) ?hr ?_; (case hd => rfl); (case hg => rfl); (case hr => first | (go_simp; done) | (go_simp; rfl)); intro gb434 hg w56 hbox hb; have BK434 := Aside0.mk (hbox); have GW434 := Aside0.mk ((bsz hg : w.heap.size ≤ gb434)); have GE434 := Aside0.mk ((bsz hg : w.heap.size ≤ gb434)); have NB428_434 := Aside0.mk ((nlt hg BK428.out : gb428 ≠ gb434)); have NB434_428 := Aside0.mk ((ngt hg BK428.out : gb434 ≠ gb428)); have NB429_434 := Aside0.mk ((nlt hg BK429.out : gb429 ≠ gb434)); have NB434_429 := Aside0.mk ((ngt hg BK429.out : gb434 ≠ gb429)); replace HO433 := Aside0.mk (Kd.R_below (rk HO433.out) hb); replace BK428 := Aside0.mk (bb BK428.out hb); replace BK429 := Aside0.mk (bb BK429.out hb); replace HB := Aside0.mk (below_step bel hb); clear hb hbox hg; have hnb57 := NB434_428.out; have hnc57 := NB428_434.out; have hnb58 := NB434_429.out; have hnc58 := NB429_434.out; obtain ⟨hcz59_0, hcz59_1, hfz59_0, hfz59_1⟩ := cf2 BK434.out; obtain ⟨Ao60, co60, eo60⟩ := Kd.R_slice HO433.out; subst eo60) | ((with_reducible refine gate_builtin (b := .append) (xs := #[.tmp 10, .tmp 12]) rfl ?_); at_builtin; refine Kd.R_append (Kd.int .i64) (w0 := w) w.heap.size rfl (.tmp 10) (.tmp 12) 25 3 (.int .i64 0) 8 rfl Try.underlying25 info3 rfl (by decide) (by omega) (.slice Ao60 t431.length co60) t431 a1 [.int .i64 a1] (fun _ => True) (fun _ => False) rfl (by first | (go_simp; done) | (go_simp; rfl)) ?aP (fun _ hk => hk.elim) ?aF ?aO ?aB ?aS ?aL ?_; (case aP => exact rfl); (case aB => exact bel); (case aF => exact (fun _ _ => trivial)); (case aO => exact (by (with_reducible repeat (first | apply Kd.R_alloc | apply Kd.R_drewN | apply Kd.R_drew)); exact Kd.R_mono (Kd.R_far (p := ⟨gb434, 1, none⟩) (Kd.R_far (p := ⟨gb434, 0, none⟩) (Kd.R_types HO433.out BK434.out (by decide)) (fun _ hk => hk.2) (.int .i64 t430)) (fun _ hk => hk.2) (.slice Ao60 t431.length co60)) (fun _ hk => trivial))); (case aS => exact (below_size bel)); (case aL => have := LMc4.out; omega); intro v436 w61 ho hb hg hat; rw [← Ny435.out] at ho; have n0_ := Aside0.mk (blk_grown (g := gb428) (o := .cells #[.int .i64 a0_0, .slice A0_1 l0_1.length c0_1] 36 (0, 0)) (bk BK428.out) hg (Kd.R_ne HO433.out BK428.out (by decide))); have n1_ := Aside0.mk (blk_grown (g := gb429) (o := .cells #[.int .i64 0, .slice none 0 0] 36 (0, 0)) (bk BK429.out) hg (Kd.R_ne HO433.out BK429.out (by decide))); have n2_ := Aside0.mk (blk_grown (g := gb434) (o := .cells #[.int .i64 t430, .slice Ao60 t431.length co60] 36 (0, 0)) (by (with_reducible repeat (first | refine blk_drewN ?_ _ | refine blk_drew ?_ | refine blk_alloc ?_ _)); refine blk_put (cs := #[.int .i64 t430, .slice none 0 0]) ?_ 1 _ rfl; (with_reducible repeat (first | refine blk_drewN ?_ _ | refine blk_drew ?_ | refine blk_alloc ?_ _)); refine blk_put (cs := #[.int .i64 0, .slice none 0 0]) ?_ 0 _ rfl; (with_reducible repeat (first | refine blk_drewN ?_ _ | refine blk_drew ?_ | refine blk_alloc ?_ _)); exact BK434.out) hg (Kd.R_ne HO433.out BK434.out (by decide))); have n3_ := Aside0.mk (hb); have n4_ := Aside0.mk (ho); clear BK428; clear BK429; clear BK434; clear HB; clear HO433; have BK428 := n0_; have BK429 := n1_; have BK434 := n2_; have HB := n3_; have HO437 := n4_; clear n0_ n1_ n2_ n3_ n4_; clear ho hb hg hat; obtain ⟨Ao62, co62, eo62⟩ := Kd.R_slice HO437.out; subst eo62; obtain ⟨hcz63_0, hcz63_1, hfz63_0, hfz63_1⟩ := cf2 BK434.out; obtain ⟨hcz64_0, hcz64_1, hfz64_0, hfz64_1⟩ := cf2 BK428.out) | ((with_reducible refine gate_callee (f := 32) rfl ?_); refine goesL_ (some 16) rfl rfl Try.func32 (by kernel_rfl) rfl #[.agg #[.int .i64 a0_0, .slice A0_1 l0_1.length c0_1]] rfl ga ?_; (with_reducible refine (spec_CupOk.calls k a0_0 _ _ l0_1 false _ ?side1 ?side2 A5.out).mono ?_); (case side1 => exact Kd.C_below HR0_1.out bel); (case side2 => exact HC0_1.out); rintro e w65 ⟨rfl, hb⟩; refine ⟨_, rfl, ?_⟩; replace HO437 := Aside0.mk (Kd.R_below (by exact rk (Kd.R_mono (Kd.R_far (p := ⟨gb434, 1, none⟩) (Kd.R_types HO437.out BK434.out (by decide)) (fun _ hk => hk.2) (.slice Ao62 y435.length co62)) (fun _ h_ => h_.1))) hb); replace BK428 := Aside0.mk (bb BK428.out hb); replace BK429 := Aside0.mk (bb BK429.out hb); replace BK434 := Aside0.mk (blk_below (g := gb434) (o := .cells #[.int .i64 t430, .slice Ao62 y435.length co62] 36 (0, 0)) (by (with_reducible repeat (first | refine blk_drewN ?_ _ | refine blk_drew ?_ | refine blk_alloc ?_ _)); refine blk_put (cs := #[.int .i64 t430, .slice Ao60 t431.length co60]) ?_ 1 _ rfl; (with_reducible repeat (first | refine blk_drewN ?_ _ | refine blk_drew ?_ | refine blk_alloc ?_ _)); exact BK434.out) hb); replace HB := Aside0.mk (below_step bel hb); (try clear hb); obtain ⟨hcz66_0, hcz66_1, hfz66_0, hfz66_1⟩ := cf2 BK428.out) | ((with_reducible refine gate_callee (f := 56) rfl ?_); refine goesL_ (some 24) rfl rfl Try.func56 (by kernel_rfl) rfl #[.agg #[.int .i64 a0_0, .slice A0_1 l0_1.length c0_1]] rfl ga ?_; (with_reducible refine (spec_l14Copy.calls a0_0 _ _ l0_1 t444 t445 _ ?side1 ?side2 A50.out).mono ?_); (case side1 => exact ck (Kd.C_below HR0_1.out HB.out)); (case side2 => exact HC0_1.out); rintro e w67 ⟨v446, rfl, ho0, hb⟩; refine ⟨_, rfl, ?_⟩; have HO447 := Aside0.mk (Kd.R_lower (Kd.R_new' ho0 (Kd.R_lt (rk HO437.out))) (below_size bel)); replace HO437 := Aside0.mk (Kd.R_elder' (rk HO437.out) (Kd.R_base ho0) hb); replace BK428 := Aside0.mk (bb BK428.out hb); replace BK429 := Aside0.mk (bb BK429.out hb); replace BK434 := Aside0.mk (bb BK434.out hb); replace HB := Aside0.mk (below_step bel hb); (try clear hb); (try clear ho0); obtain ⟨hcz68_0, hcz68_1, hfz68_0, hfz68_1⟩ := cf2 BK429.out; obtain ⟨Ao69, co69, eo69⟩ := Kd.R_slice HO447.out; subst eo69))
      refine bodyPost_ret (results_ct rfl _ _ gb429 36 #[.int .i64 t444, .slice Ao69 t445.length co69] (0, 0) _ rfl (by (with_reducible repeat (first | refine blk_drewN ?_ _ | refine blk_drew ?_ | refine blk_alloc ?_ _)); refine blk_put (cs := #[.int .i64 t444, .slice none 0 0]) ?_ 1 _ rfl; (with_reducible repeat (first | refine blk_drewN ?_ _ | refine blk_drew ?_ | refine blk_alloc ?_ _)); refine blk_put (cs := #[.int .i64 0, .slice none 0 0]) ?_ 0 _ rfl; (with_reducible repeat (first | refine blk_drewN ?_ _ | refine blk_drew ?_ | refine blk_alloc ?_ _)); exact BK429.out) Try.underlying36 rfl (by kernel_rfl)) rfl ?_
      exact ⟨_, er, by (with_reducible repeat (first | apply Kd.R_alloc | apply Kd.R_drewN | apply Kd.R_drew)); exact Kd.R_mono (Kd.R_far (p := ⟨gb429, 1, none⟩) (Kd.R_far (p := ⟨gb429, 0, none⟩) (Kd.R_types HO447.out BK429.out (by decide)) (fun _ hk => hk.2) (.int .i64 t444)) (fun _ hk => hk.2) (.slice Ao69 t445.length co69)) (fun _ hk => trivial), bel⟩
  · rw [if_neg c4] at H
    exact absurd H (by simp)

/-! ### laws_markCup: function 40 -/
def laws_markCup.f (k : Nat) (a0_0 : Int) (l0_1 : List Int) (a1 : Int) : Option (Int × List Int) := (laws_markIntS.f k l0_1 a1).bind fun bt449 => (some (bt449.1, bt449.2))
theorem laws_markCup.mono : ∀ a0 a1 a2 k, LeO (laws_markCup.f k a0 a1 a2) (laws_markCup.f (k + 1) a0 a1 a2) := by
  intro a0 a1 a2 k
  unfold laws_markCup.f
  repeat' first
      | (with_reducible exact laws_markIntS.mono _ _ _)
      | (with_reducible exact LeO.refl _)
      | (with_reducible exact LeO.none _)
      | (with_reducible refine LeO.ite ?_ ?_)
      | (with_reducible refine LeO.bind ?_ (fun _ => ?_))
      | exact laws_markIntS.mono _ _ _
      | exact LeO.none _
      | refine LeO.ite ?_ ?_
      | refine LeO.bind ?_ (fun _ => ?_)
set_option maxHeartbeats 8000000 in
set_option maxRecDepth 100000 in
theorem laws_markCup.calls (k : Nat) (a0_0 : Int) (P0_1_ : Nat → Prop) (u9000_ : Value) (l0_1 : List Int) (a1 : Int) (r1 : Int) (r2 : List Int) (w0 w : World) (hB : Below w0.heap.size w0 w) (ho0_1 : Kd.R (Kd.int .i64) 3 w w0.heap.size P0_1_ u9000_ l0_1) (h : laws_markCup.f k a0_0 l0_1 a1 = some (r1, r2)) :
    Calls Try.prog 40 #[.agg #[.int .i64 a0_0, u9000_], .int .i64 a1] w fun e w' => e = .returned (.int .i64 r1) ∧ Kd.R (Kd.int .i64) 3 w' w0.heap.size (fun k_ => (P0_1_ k_ ∨ w.heap.size ≤ k_)) u9000_ r2 ∧ Below w0.heap.size w0 w' ∧ Kept w w' (fun k_ => P0_1_ k_) := by
  have hu36 := Try.underlying36
  have HO0_1 := Aside0.mk (show Kd.R (Kd.int .i64) 3 w w0.heap.size (fun k_ => (P0_1_ k_ ∨ w.heap.size ≤ k_)) u9000_ l0_1 from Kd.R_mono ho0_1 (fun k_ hk => (.inl hk)))
  have HK := Aside0.mk (Kept.refl w (fun k_ => P0_1_ k_))
  have HW0 := Aside0.mk hB.size
  have HB := Aside0.mk hB
  clear hB
  have H : ((laws_markIntS.f k l0_1 a1).bind fun bt449 => (some (bt449.1, bt449.2))) = some (r1, r2) := h
  clear h
  replace H := Option.bind_eq_some_iff.mp H
  obtain ⟨⟨t449, t450⟩, A30, H⟩ := H
  replace H : (some (t449, t450)) = some (r1, r2) := H
  have A3 := Aside0.mk A30
  clear A30
  simp only [Option.some.injEq, Prod.mk.injEq] at H
  obtain ⟨rfl, rfl⟩ := H
  obtain ⟨Ao4, co4, eo4⟩ := Kd.R_slice HO0_1.out
  subst eo4
  go_enter Try.func40, Try.ntmps40
  go_wp2_with (first | ((with_reducible refine gate_dst (N := 2) rfl ?_); refine box_event ?hg (N := 2) ?hd (cs := #[.int .i64 a0_0, .slice Ao4 l0_1.length co4]) (t := 36) ?hr ?_; (case hd => rfl); (case hg => rfl); (case hr => first | (go_simp; done) | (go_simp; rfl)); intro gb448 hg w5 hbox hb; have BK448 := Aside0.mk (hbox); have GW448 := Aside0.mk ((by rw [hg]; exact (by first | exact HK.out.1 | exact (show Kept w _ (fun k_ => P0_1_ k_) from by repeat (first | (with_reducible first | exact HK.out | apply Kept.alloc | apply Kept.drewN | apply Kept.drew) | exact HK.out)).1) : w.heap.size ≤ gb448)); have GE448 := Aside0.mk ((bsz hg : w0.heap.size ≤ gb448)); replace HO0_1 := Aside0.mk (Kd.R_below (rk HO0_1.out) hb); replace HK := Aside0.mk (Kept.below (S := (fun k_ => P0_1_ k_)) (by repeat (first | (with_reducible first | exact HK.out | apply Kept.alloc | apply Kept.drewN | apply Kept.drew) | exact HK.out)) hb); replace HB := Aside0.mk (below_step bel hb); clear hb hbox hg; obtain ⟨hcz6_0, hcz6_1, hfz6_0, hfz6_1⟩ := cf2 BK448.out) | ((with_reducible refine gate_callee (f := 23) rfl ?_); refine goesL_ (some 8) rfl rfl Try.func23 (by kernel_rfl) rfl #[.slice Ao4 l0_1.length co4, .int .i64 a1] rfl ga ?_; (with_reducible refine (laws_markIntS.calls k (fun k_ => some k_ = (.slice Ao4 l0_1.length co4 : Value).ownBlock) (.slice Ao4 l0_1.length co4) l0_1 a1 t449 t450 w0 _ ?side1 ?side2 A3.out).mono ?_); (case side1 => exact bel); (case side2 => exact Kd.R_tight rfl HO0_1.out); rintro e w7 ⟨rfl, hy0, hb, hkp⟩; refine ⟨_, rfl, ?_⟩; have n0_ := Aside0.mk (Kd.R_reok rfl hy0 (fun k_ e_ => HO0_1.out.1 k_ e_)); have n1_ := Aside0.mk (blk_kept (bk BK448.out) hkp (fun hs_ => (fun e_ => (Kd.R_ne HO0_1.out BK448.out (by decide)) e_) hs_)); have n2_ := Aside0.mk (Kept.then_ (S := (fun k_ => P0_1_ k_)) (by repeat (first | (with_reducible first | exact HK.out | apply Kept.alloc | apply Kept.drewN | apply Kept.drew | refine Kept.setCell ?_ (.inr GW448.out) _) | exact HK.out)) hkp (fun k_ hs_ => (fun e_ => (HO0_1.out.1 k_ e_.symm)) hs_)); have n3_ := Aside0.mk (hb); clear HO0_1; clear BK448; clear HK; clear HB; have HO0_1 := n0_; have BK448 := n1_; have HK := n2_; have HB := n3_; clear n0_ n1_ n2_ n3_; (try clear hb); (try clear hkp); (try clear hy0)))
  go_ret
  exact ⟨er, rk HO0_1.out, bel, by repeat (first | (with_reducible first | exact HK.out | apply Kept.alloc | apply Kept.drewN | apply Kept.drew | refine Kept.setCell ?_ (.inr GW448.out) _) | exact HK.out)⟩

end Go.Proofs.Ytpacmpppiphfjaa.X
