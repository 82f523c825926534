-- Written by a program of this session (wip/xp.py, over the kit's print) out of the translation: functions, and the walks that show them.
import Derived.Test.YtpacmpppiphfjaaX0
import Derived.Test.YtpacmpppiphfjaaX11
import Derived.Test.YtpacmpppiphfjaaX12
namespace Go.Proofs.Ytpacmpppiphfjaa.X
open Go.RowKit Go.Proofs.YtpacmpppiphfjaaW.PrintWords Go.Proofs.YtpacmpppiphfjaaW.PrintLast Go.Proofs.YtpacmpppiphfjaaW.PrintMore
attribute [local go_sem] max2_int min2_int max_two min_two max_three min_three max_four min_four   -- for this text's walks alone
set_option linter.unusedVariables false
set_option linter.unusedSimpArgs false

/-! ### impl_WinGame: function 37 -/
def impl_WinGame.f (k : Nat) (a0_0 : Int) (l0_1 : List Int) (a1 : Int) : Option (Int × List Int × Bool) := (slices_Clone_int_int.f l0_1).bind fun t246 => ((some (([a1] : List Int) : List Int)).bind fun y249 => (if t246.length + y249.length < 17592186044416 then ((some (t246 ++ y249 : List Int)).bind fun y252 => ((impl_CupOk.f k a0_0 y252).bind fun t256 => (if t256 = true then (some (a0_0, y252, true)) else ((slices_Clone_int_int.f l0_1).bind fun t257 => (some (a0_0, t257, false)))))) else (none)))
theorem impl_WinGame.mono : ∀ a0 a1 a2 k, LeO (impl_WinGame.f k a0 a1 a2) (impl_WinGame.f (k + 1) a0 a1 a2) := by
  intro a0 a1 a2 k
  unfold impl_WinGame.f
  repeat' first
      | (with_reducible exact impl_CupOk.mono _ _ _)
      | (with_reducible exact LeO.refl _)
      | (with_reducible exact LeO.none _)
      | (with_reducible refine LeO.ite ?_ ?_)
      | (with_reducible refine LeO.bind ?_ (fun _ => ?_))
      | exact impl_CupOk.mono _ _ _
      | exact LeO.none _
      | refine LeO.ite ?_ ?_
      | refine LeO.bind ?_ (fun _ => ?_)
def impl_WinGame.T1 : Bool × List (List Nat × List Nat) := (true, [([], []), ([0], [0]), ([], []), ([2], [2]), ([3], [3]), ([], []), ([5], [5]), ([4, 6, 4], [4, 6]), ([1, 7], [1, 7]), ([], []), ([9, 8, 7, 0, 1, 2, 3, 4, 5, 6, 7, 8, 9], [8, 9])])
def impl_WinGame.B1 : List Nat := [0, 1, 0, 4, 12, 0, 32, 124, 255, 0, 1023]
theorem impl_WinGame.tab1 : rtab .any (opsOf Try.f37 1) = impl_WinGame.T1 := by kernel_rfl
theorem impl_WinGame.bits1 : waitsOk impl_WinGame.T1.2 impl_WinGame.B1 = true := by kernel_rfl
def impl_WinGame.T3 : Bool × List (List Nat × List Nat) := (true, [([], []), ([0], [0]), ([], []), ([2], [2]), ([3], [3]), ([1, 4], [1, 4]), ([5, 4, 0, 1, 2, 3, 4, 5], [5]), ([6, 0, 1, 2, 3, 4, 5, 6], [])])
def impl_WinGame.B3 : List Nat := [0, 1, 0, 4, 12, 31, 63, 127]
theorem impl_WinGame.tab3 : rtab .any (opsOf Try.f37 3) = impl_WinGame.T3 := by kernel_rfl
theorem impl_WinGame.bits3 : waitsOk impl_WinGame.T3.2 impl_WinGame.B3 = true := by kernel_rfl
set_option maxHeartbeats 8000000 in
set_option maxRecDepth 100000 in
theorem impl_WinGame.calls (k : Nat) (a0_0 : Int) (A0_1 : Option Addr) (c0_1 : Nat) (l0_1 : List Int) (a1 : Int) (r1 : Int) (r2 : List Int) (r3 : Bool) (w : World) (hr0_1 : Kd.C (Kd.int .i64) w A0_1 l0_1.length l0_1) (hc0_1 : l0_1.length ≤ c0_1) (h : impl_WinGame.f k a0_0 l0_1 a1 = some (r1, r2, r3)) :
    Calls Try.prog 37 #[.agg #[.int .i64 a0_0, .slice A0_1 l0_1.length c0_1], .int .i64 a1] w fun e w' => ∃ v1_ : Value, e = .returned (.tuple #[.agg #[.int .i64 r1, v1_], .bool r3]) ∧ Kd.R (Kd.int .i64) 3 w' w.heap.size (fun _ => True) v1_ r2 ∧ Below w.heap.size w w' := by
  have hu36 := Try.underlying36
  have HR0_1 := Aside0.mk hr0_1
  have HC0_1 := Aside0.mk hc0_1
  clear hr0_1 hc0_1
  have HB := Aside0.mk (Below.refl w.heap.size w)
  have H : ((slices_Clone_int_int.f l0_1).bind fun t246 => ((some (([a1] : List Int) : List Int)).bind fun y249 => (if t246.length + y249.length < 17592186044416 then ((some (t246 ++ y249 : List Int)).bind fun y252 => ((impl_CupOk.f k a0_0 y252).bind fun t256 => (if t256 = true then (some (a0_0, y252, true)) else ((slices_Clone_int_int.f l0_1).bind fun t257 => (some (a0_0, t257, false)))))) else (none)))) = some (r1, r2, r3) := h
  clear h
  replace H := Option.bind_eq_some_iff.mp H
  obtain ⟨t246, A30, H⟩ := H
  replace H : ((some (([a1] : List Int) : List Int)).bind fun y249 => (if t246.length + y249.length < 17592186044416 then ((some (t246 ++ y249 : List Int)).bind fun y252 => ((impl_CupOk.f k a0_0 y252).bind fun t256 => (if t256 = true then (some (a0_0, y252, true)) else ((slices_Clone_int_int.f l0_1).bind fun t257 => (some (a0_0, t257, false)))))) else (none))) = some (r1, r2, r3) := H
  have A3 := Aside0.mk A30
  clear A30
  obtain ⟨y249, hy249⟩ : ∃ y_ : List Int, y_ = (([a1] : List Int)) := ⟨_, rfl⟩
  replace H : (if t246.length + y249.length < 17592186044416 then ((some (t246 ++ y249 : List Int)).bind fun y252 => ((impl_CupOk.f k a0_0 y252).bind fun t256 => (if t256 = true then (some (a0_0, y252, true)) else ((slices_Clone_int_int.f l0_1).bind fun t257 => (some (a0_0, t257, false)))))) else (none)) = some (r1, r2, r3) := by first | (rw [hy249]; with_reducible exact H) | (have H2_ := (Option.bind_some _ _).symm.trans H; rw [hy249]; with_reducible exact H2_) | (have H2_ := (Option.bind_some _ _).symm.trans H; with_reducible exact H2_) | with_reducible exact H | (rw [hy249]; exact H) | exact H
  have Ny249 := Aside0.mk hy249
  clear hy249
  by_cases c4 : t246.length + y249.length < 17592186044416
  · rw [if_pos c4] at H
    have LMc4 := Aside0.mk c4
    clear c4
    obtain ⟨y252, hy252⟩ : ∃ y_ : List Int, y_ = (t246 ++ y249) := ⟨_, rfl⟩
    replace H : ((impl_CupOk.f k a0_0 y252).bind fun t256 => (if t256 = true then (some (a0_0, y252, true)) else ((slices_Clone_int_int.f l0_1).bind fun t257 => (some (a0_0, t257, false))))) = some (r1, r2, r3) := by first | (rw [hy252]; with_reducible exact H) | (have H2_ := (Option.bind_some _ _).symm.trans H; rw [hy252]; with_reducible exact H2_) | (have H2_ := (Option.bind_some _ _).symm.trans H; with_reducible exact H2_) | with_reducible exact H | (rw [hy252]; exact H) | exact H
    have Ny252 := Aside0.mk hy252
    clear hy252
    replace H := Option.bind_eq_some_iff.mp H
    obtain ⟨t256, A50, H⟩ := H
    replace H : (if t256 = true then (some (a0_0, y252, true)) else ((slices_Clone_int_int.f l0_1).bind fun t257 => (some (a0_0, t257, false)))) = some (r1, r2, r3) := H
    have A5 := Aside0.mk A50
    clear A50
    by_cases c6 : t256 = true
    · subst c6
      have H1 : (some (a0_0, y252, true)) = some (r1, r2, r3) := by rw [if_pos rfl] at H; exact H
      clear H
      have H := H1
      clear H1
      simp only [Option.some.injEq, Prod.mk.injEq] at H
      obtain ⟨rfl, rfl, rfl⟩ := H
      go_enter Try.func37, Try.ntmps37
      try go_wp2_with (first | ((with_reducible refine gate_dst (N := 2) rfl ?_); refine box_event ?hg (N := 2) ?hd (cs := #[.int .i64 a0_0, .slice A0_1 l0_1.length c0_1]) (t := 36) ?hr ?_; (case hd => rfl); (case hg => rfl); (case hr => first | (go_simp; done) | (go_simp; rfl)); intro gb244 hg w7 hbox hb; have BK244 := Aside0.mk (hbox); have GW244 := Aside0.mk ((bsz hg : w.heap.size ≤ gb244)); have GE244 := Aside0.mk ((bsz hg : w.heap.size ≤ gb244)); replace HB := Aside0.mk (below_step bel hb); clear hb hbox hg) | ((with_reducible refine gate_dst (N := 4) rfl ?_); refine box_event ?hg (N := 4) ?hd (cs := #[.int .i64 0, .slice none 0 0]) (t := 36) ?hr ?_; (case hd => rfl); (case hg => rfl); (case hr => first | (go_simp; done) | (go_simp; rfl)); intro gb245 hg w8 hbox hb; have BK245 := Aside0.mk (hbox); have GW245 := Aside0.mk ((bsz hg : w.heap.size ≤ gb245)); have GE245 := Aside0.mk ((bsz hg : w.heap.size ≤ gb245)); have NB244_245 := Aside0.mk ((nlt hg BK244.out : gb244 ≠ gb245)); have NB245_244 := Aside0.mk ((ngt hg BK244.out : gb245 ≠ gb244)); replace BK244 := Aside0.mk (bb BK244.out hb); replace HB := Aside0.mk (below_step bel hb); clear hb hbox hg))
      replace BK244 := Aside0.mk (blk_drew BK244.out)
      replace BK245 := Aside0.mk (blk_drew BK245.out)
      replace HB := Aside0.mk (below_drew1 HB.out)
      refine start_ (n := 11) (S := fun w' => w'.cell? ⟨gb244, 0, none⟩ = some (.int .i64 a0_0) ∧ w'.cell? ⟨gb244, 1, none⟩ = some (.slice A0_1 l0_1.length c0_1)) (ds := []) #[false, false, false, false, false, false, false, false, false, false, false] (by kernel_rfl) rfl rfl ⟨(blk_cell BK244.out 0).trans rfl, (blk_cell BK244.out 1).trans rfl⟩ (fun hHeld => ?_); refine with_tabW impl_WinGame.tab1 impl_WinGame.bits1 (fun HT_ HW_ => ?_)
      generalize w8.drew = w9 at BK244 BK245 HB hHeld ⊢
      refine pure_ (i := 0) (N := some 7) (v := ?_) (a' := ?_) #[true, false, false, false, false, false, false, false, false, false, false] rfl rfl (any_of HT_.out (by kernel_rfl)) (fun _ _ _ h => h) (Or.inl ⟨by rfl, ?_⟩) ?_ ?_
      rotate_left
      · intro w'
        go_simp
        with_reducible rfl
      rotate_left
      · simp only [Act.put, List.setIfInBounds_toArray, List.set_cons_zero, List.set_cons_succ, i64_w, i32_w]
        rfl
      refine pure_ (i := 2) (N := some 9) (v := ?_) (a' := ?_) #[true, false, true, false, false, false, false, false, false, false, false] rfl rfl (any_of HT_.out (by kernel_rfl)) (fun _ _ _ h => h) (Or.inl ⟨by rfl, ?_⟩) ?_ ?_
      rotate_left
      · intro w'
        go_simp
        with_reducible rfl
      rotate_left
      · simp only [Act.put, List.setIfInBounds_toArray, List.set_cons_zero, List.set_cons_succ, i64_w, i32_w]
        rfl
      refine pure_ (i := 5) (N := some 12) (v := ?_) (a' := ?_) #[true, false, true, false, false, true, false, false, false, false, false] rfl rfl (any_of HT_.out (by kernel_rfl)) (fun _ _ _ h => h) (Or.inl ⟨by rfl, ?_⟩) ?_ ?_
      rotate_left
      · intro w'
        go_simp
        with_reducible rfl
      rotate_left
      · simp only [Act.put, List.setIfInBounds_toArray, List.set_cons_zero, List.set_cons_succ, i64_w, i32_w]
        rfl
      refine take_ (i := 1) (N := some 8) (v := ?_) (a' := ?_) #[true, true, true, false, false, true, false, false, false, false, false] rfl rfl (take_ofW HT_.out HW_.out (by kernel_rfl)) (fun _ _ _ h => h) (Or.inl ⟨by rfl, ?_⟩) hHeld ?_ ?_
      rotate_left
      · rintro w' ⟨s0, s1⟩
        go_simp
        with_reducible rfl
      rotate_left
      · simp only [Act.put, List.setIfInBounds_toArray, List.set_cons_zero, List.set_cons_succ, i64_w, i32_w]
        rfl
      refine take_ (i := 3) (N := some 10) (v := ?_) (a' := ?_) #[true, true, true, true, false, true, false, false, false, false, false] rfl rfl (take_ofW HT_.out HW_.out (by kernel_rfl)) (fun _ _ _ h => h) (Or.inl ⟨by rfl, ?_⟩) hHeld ?_ ?_
      rotate_left
      · rintro w' ⟨s0, s1⟩
        go_simp
        with_reducible rfl
      rotate_left
      · simp only [Act.put, List.setIfInBounds_toArray, List.set_cons_zero, List.set_cons_succ, i64_w, i32_w]
        rfl
      refine join_ (σ := Value × Value × Value × Nat) 1 #[true, true, true, true, true, true, true, true, true, true, false] (fun s_ => [(11, s_.1), (13, s_.2.1), (14, s_.2.2.1), (6, .pointer (some ⟨s_.2.2.2, 0, none⟩)), (15, .agg #[.int .i64 a0_0, s_.2.2.1])]) (fun s_ w' => (w'.cell? ⟨gb244, 0, none⟩ = some (.int .i64 a0_0) ∧ w'.cell? ⟨gb244, 1, none⟩ = some (.slice A0_1 l0_1.length c0_1)) ∧ (Kd.R (Kd.int .i64) 3 w' w.heap.size (fun k_ => some k_ ≠ (s_.2.2.1 : Value).ownBlock) s_.2.1 y249) ∧ (Kd.R (Kd.int .i64) 3 w' w.heap.size (fun k_ => some k_ ≠ (s_.2.1 : Value).ownBlock) s_.2.2.1 y252) ∧ (w'.heap[gb244]? = some (.cells #[.int .i64 a0_0, .slice A0_1 l0_1.length c0_1] 36 (0, 0))) ∧ (w'.heap[gb245]? = some (.cells #[.int .i64 0, .slice none 0 0] 36 (0, 0))) ∧ (w'.heap[s_.2.2.2]? = some (.cells #[.int .i64 0, .slice none 0 0] 36 (0, 0))) ∧ (w.heap.size ≤ s_.2.2.2) ∧ (w.heap.size ≤ s_.2.2.2) ∧ (gb244 ≠ s_.2.2.2) ∧ (s_.2.2.2 ≠ gb244) ∧ (gb245 ≠ s_.2.2.2) ∧ (s_.2.2.2 ≠ gb245) ∧ (Below w.heap.size w w')) ?_ ?_
      rotate_left
      · intro hJ4_6_7_9
        refine join_ (σ := Value × Value × Value) 2 #[true, true, true, true, true, true, true, true, true, false, false] (fun s_ => [(11, s_.1), (13, s_.2.1), (14, s_.2.2), (15, .agg #[.int .i64 a0_0, s_.2.2])]) (fun s_ w' => (w'.cell? ⟨gb244, 0, none⟩ = some (.int .i64 a0_0) ∧ w'.cell? ⟨gb244, 1, none⟩ = some (.slice A0_1 l0_1.length c0_1)) ∧ (Kd.R (Kd.int .i64) 3 w' w.heap.size (fun k_ => some k_ ≠ (s_.2.2 : Value).ownBlock) s_.2.1 y249) ∧ (Kd.R (Kd.int .i64) 3 w' w.heap.size (fun k_ => some k_ ≠ (s_.2.1 : Value).ownBlock) s_.2.2 y252) ∧ (w'.heap[gb244]? = some (.cells #[.int .i64 a0_0, .slice A0_1 l0_1.length c0_1] 36 (0, 0))) ∧ (w'.heap[gb245]? = some (.cells #[.int .i64 0, .slice none 0 0] 36 (0, 0))) ∧ (Below w.heap.size w w')) ?_ ?_
        rotate_left
        · intro hJ4_6_7
          refine join_ (σ := Value × Value × Nat) 3 #[true, true, true, true, true, true, true, false, false, true, false] (fun s_ => [(11, s_.1), (13, s_.2.1), (6, .pointer (some ⟨s_.2.2, 0, none⟩))]) (fun s_ w' => (w'.cell? ⟨gb244, 0, none⟩ = some (.int .i64 a0_0) ∧ w'.cell? ⟨gb244, 1, none⟩ = some (.slice A0_1 l0_1.length c0_1)) ∧ (Kd.R (Kd.int .i64) 3 w' w.heap.size (fun k_ => some k_ ≠ (s_.2.1 : Value).ownBlock) s_.1 t246) ∧ (Kd.R (Kd.int .i64) 3 w' w.heap.size (fun k_ => some k_ ≠ (s_.1 : Value).ownBlock) s_.2.1 y249) ∧ (w'.heap[gb244]? = some (.cells #[.int .i64 a0_0, .slice A0_1 l0_1.length c0_1] 36 (0, 0))) ∧ (w'.heap[gb245]? = some (.cells #[.int .i64 0, .slice none 0 0] 36 (0, 0))) ∧ (w'.heap[s_.2.2]? = some (.cells #[.int .i64 0, .slice none 0 0] 36 (0, 0))) ∧ (w.heap.size ≤ s_.2.2) ∧ (w.heap.size ≤ s_.2.2) ∧ (gb244 ≠ s_.2.2) ∧ (s_.2.2 ≠ gb244) ∧ (gb245 ≠ s_.2.2) ∧ (s_.2.2 ≠ gb245) ∧ (Below w.heap.size w w')) ?_ ?_
          rotate_left
          · intro hJ4_6_9
            refine join_ (σ := Value × Value) 4 #[true, true, true, true, true, true, true, false, false, false, false] (fun s_ => [(11, s_.1), (13, s_.2)]) (fun s_ w' => (w'.cell? ⟨gb244, 0, none⟩ = some (.int .i64 a0_0) ∧ w'.cell? ⟨gb244, 1, none⟩ = some (.slice A0_1 l0_1.length c0_1)) ∧ (Kd.R (Kd.int .i64) 3 w' w.heap.size (fun k_ => some k_ ≠ (s_.2 : Value).ownBlock) s_.1 t246) ∧ (Kd.R (Kd.int .i64) 3 w' w.heap.size (fun k_ => some k_ ≠ (s_.1 : Value).ownBlock) s_.2 y249) ∧ (w'.heap[gb244]? = some (.cells #[.int .i64 a0_0, .slice A0_1 l0_1.length c0_1] 36 (0, 0))) ∧ (w'.heap[gb245]? = some (.cells #[.int .i64 0, .slice none 0 0] 36 (0, 0))) ∧ (Below w.heap.size w w')) ?_ ?_
            rotate_left
            · intro hJ4_6
              refine join_ (σ := Value × Nat) 4 #[true, true, true, true, true, true, false, false, false, true, false] (fun s_ => [(11, s_.1), (6, .pointer (some ⟨s_.2, 0, none⟩))]) (fun s_ w' => (w'.cell? ⟨gb244, 0, none⟩ = some (.int .i64 a0_0) ∧ w'.cell? ⟨gb244, 1, none⟩ = some (.slice A0_1 l0_1.length c0_1)) ∧ (Kd.R (Kd.int .i64) 3 w' w.heap.size (fun _ => True) s_.1 t246) ∧ (w'.heap[gb244]? = some (.cells #[.int .i64 a0_0, .slice A0_1 l0_1.length c0_1] 36 (0, 0))) ∧ (w'.heap[gb245]? = some (.cells #[.int .i64 0, .slice none 0 0] 36 (0, 0))) ∧ (w'.heap[s_.2]? = some (.cells #[.int .i64 0, .slice none 0 0] 36 (0, 0))) ∧ (w.heap.size ≤ s_.2) ∧ (w.heap.size ≤ s_.2) ∧ (gb244 ≠ s_.2) ∧ (s_.2 ≠ gb244) ∧ (gb245 ≠ s_.2) ∧ (s_.2 ≠ gb245) ∧ (Below w.heap.size w w')) ?_ ?_
              rotate_left
              · intro hJ4_9
                refine join_ (σ := Value × Nat) 4 #[true, true, true, true, false, true, true, false, false, true, false] (fun s_ => [(13, s_.1), (6, .pointer (some ⟨s_.2, 0, none⟩))]) (fun s_ w' => (w'.cell? ⟨gb244, 0, none⟩ = some (.int .i64 a0_0) ∧ w'.cell? ⟨gb244, 1, none⟩ = some (.slice A0_1 l0_1.length c0_1)) ∧ (Kd.R (Kd.int .i64) 3 w' w.heap.size (fun _ => True) s_.1 y249) ∧ (w'.heap[gb244]? = some (.cells #[.int .i64 a0_0, .slice A0_1 l0_1.length c0_1] 36 (0, 0))) ∧ (w'.heap[gb245]? = some (.cells #[.int .i64 0, .slice none 0 0] 36 (0, 0))) ∧ (w'.heap[s_.2]? = some (.cells #[.int .i64 0, .slice none 0 0] 36 (0, 0))) ∧ (w.heap.size ≤ s_.2) ∧ (w.heap.size ≤ s_.2) ∧ (gb244 ≠ s_.2) ∧ (s_.2 ≠ gb244) ∧ (gb245 ≠ s_.2) ∧ (s_.2 ≠ gb245) ∧ (Below w.heap.size w w')) ?_ ?_
                rotate_left
                · intro hJ6_9
                  refine join_ (σ := Value) 5 #[true, true, true, true, true, true, false, false, false, false, false] (fun s_ => [(11, s_)]) (fun s_ w' => (w'.cell? ⟨gb244, 0, none⟩ = some (.int .i64 a0_0) ∧ w'.cell? ⟨gb244, 1, none⟩ = some (.slice A0_1 l0_1.length c0_1)) ∧ (Kd.R (Kd.int .i64) 3 w' w.heap.size (fun _ => True) s_ t246) ∧ (w'.heap[gb244]? = some (.cells #[.int .i64 a0_0, .slice A0_1 l0_1.length c0_1] 36 (0, 0))) ∧ (w'.heap[gb245]? = some (.cells #[.int .i64 0, .slice none 0 0] 36 (0, 0))) ∧ (Below w.heap.size w w')) ?_ ?_
                  rotate_left
                  · intro hJ4
                    refine join_ (σ := Value) 5 #[true, true, true, true, false, true, true, false, false, false, false] (fun s_ => [(13, s_)]) (fun s_ w' => (w'.cell? ⟨gb244, 0, none⟩ = some (.int .i64 a0_0) ∧ w'.cell? ⟨gb244, 1, none⟩ = some (.slice A0_1 l0_1.length c0_1)) ∧ (Kd.R (Kd.int .i64) 3 w' w.heap.size (fun _ => True) s_ y249) ∧ (w'.heap[gb244]? = some (.cells #[.int .i64 a0_0, .slice A0_1 l0_1.length c0_1] 36 (0, 0))) ∧ (w'.heap[gb245]? = some (.cells #[.int .i64 0, .slice none 0 0] 36 (0, 0))) ∧ (Below w.heap.size w w')) ?_ ?_
                    rotate_left
                    · intro hJ6
                      refine join_ (σ := Nat) 5 #[true, true, true, true, false, true, false, false, false, true, false] (fun s_ => [(6, .pointer (some ⟨s_, 0, none⟩))]) (fun s_ w' => (w'.cell? ⟨gb244, 0, none⟩ = some (.int .i64 a0_0) ∧ w'.cell? ⟨gb244, 1, none⟩ = some (.slice A0_1 l0_1.length c0_1)) ∧ (w'.heap[gb244]? = some (.cells #[.int .i64 a0_0, .slice A0_1 l0_1.length c0_1] 36 (0, 0))) ∧ (w'.heap[gb245]? = some (.cells #[.int .i64 0, .slice none 0 0] 36 (0, 0))) ∧ (w'.heap[s_]? = some (.cells #[.int .i64 0, .slice none 0 0] 36 (0, 0))) ∧ (w.heap.size ≤ s_) ∧ (w.heap.size ≤ s_) ∧ (gb244 ≠ s_) ∧ (s_ ≠ gb244) ∧ (gb245 ≠ s_) ∧ (s_ ≠ gb245) ∧ (Below w.heap.size w w')) ?_ ?_
                      rotate_left
                      · intro hJ9
                        refine three_ (i := 4) (j := 6) (k := 9) (Ni := some 11) (Nj := some 13) (Nk := some 6) #[true, true, true, true, true, true, false, false, false, false, false] #[true, true, true, true, false, true, true, false, false, false, false] #[true, true, true, true, false, true, false, false, false, true, false] rfl rfl rfl rfl rfl rfl (three_of HT_.out (by kernel_rfl)) (by decide) (by decide) (by decide) (fun K hK => ?_) (fun K hK => ?_) (fun K hK => ?_)
                        · skip
                          refine goes_ Try.func53 (by kernel_rfl) rfl #[.slice A0_1 l0_1.length c0_1] (by rfl) rfl rfl ga ?_
                          with_reducible refine (slices_Clone_int_int.calls _ _ l0_1 t246 _ ?side1 ?side2 A3.out).mono ?_
                          (case side1 => exact ck (Kd.C_below HR0_1.out HB.out))
                          (case side2 => exact HC0_1.out)
                          rintro e w10 ⟨v247, rfl, ho0, hb⟩
                          refine ⟨_, rfl, ?_⟩
                          have HO248 := Aside0.mk (Kd.R_lower ho0 (below_size bel))
                          replace BK244 := Aside0.mk (bb BK244.out hb)
                          replace BK245 := Aside0.mk (bb BK245.out hb)
                          replace HB := Aside0.mk (below_step bel hb)
                          (try clear hb)
                          (try clear hb2)
                          (try clear hk)
                          (try clear hi)
                          (try clear ho0)
                          refine hK.out _ _ ⟨(blk_cell BK244.out 0).trans rfl, (blk_cell BK244.out 1).trans rfl⟩ (fun hHeld => ?_)
                          clear hK K
                          refine norm_ (a' := ?_) ?_ ?_
                          rotate_left
                          · show Act.put _ (some 11) _ = _
                            simp only [Act.put, List.setIfInBounds_toArray, List.set_cons_zero, List.set_cons_succ, i64_w, i32_w]
                            rfl
                          exact norm_ (by first | (simp only [putAll, Act.put, List.setIfInBounds_toArray, List.set_cons_zero, List.set_cons_succ]; done) | (simp only [putAll, Act.put, List.setIfInBounds_toArray, List.set_cons_zero, List.set_cons_succ]; rfl)) (hJ4 (v247) _ ⟨hHeld, (rk HO248.out), (bk BK244.out), (bk BK245.out), bel⟩)
                        · skip
                          refine Kd.R_lit_step (Kd.int .i64) _ 3 ?hg (N := 13) ?hd (xs := ([a1] : List Int)) (inner := [.int .i64 a1]) (ok := fun _ => True) (okp := fun _ => True) ?hr ?hp (fun _ hk => hk) trivial (Below.refl _ _) (Nat.le_refl _) (by simp) ?_; (case hd => rfl); (case hg => rfl); (case hr => first | (go_simp; done) | (go_simp; rfl)); (case hp => exact (Reps.one (show Kd.M (Kd.int .i64) _ _ _ a1 [.int .i64 a1] from rfl) (Reps.none _ _)))
                          intro v250 w10 ho11 hb hg_ hnew_
                          clear hg_ hnew_
                          (first | rw [← Ny249.out] at ho11 | (simp only [Int.reduceToNat] at ho11; rw [← Ny249.out] at ho11))
                          have HO251 := Aside0.mk (Kd.R_lower ho11 (below_size bel))
                          replace BK244 := Aside0.mk (bb BK244.out hb)
                          replace BK245 := Aside0.mk (bb BK245.out hb)
                          replace HB := Aside0.mk (below_step bel hb)
                          clear hb ho11
                          refine hK.out _ _ ⟨(blk_cell BK244.out 0).trans rfl, (blk_cell BK244.out 1).trans rfl⟩ (fun hHeld => ?_)
                          clear hK K
                          refine norm_ (a' := ?_) ?_ ?_
                          rotate_left
                          · show Act.put _ (some 13) _ = _
                            simp only [Act.put, List.setIfInBounds_toArray, List.set_cons_zero, List.set_cons_succ, i64_w, i32_w]
                            rfl
                          exact norm_ (by first | (simp only [putAll, Act.put, List.setIfInBounds_toArray, List.set_cons_zero, List.set_cons_succ]; done) | (simp only [putAll, Act.put, List.setIfInBounds_toArray, List.set_cons_zero, List.set_cons_succ]; rfl)) (hJ6 (v250) _ ⟨hHeld, (rk HO251.out), (bk BK244.out), (bk BK245.out), bel⟩)
                        · skip
                          refine box_step ?hg (N := 6) ?hd (cs := #[.int .i64 0, .slice none 0 0]) (t := 36) ?hr ?_; (case hd => rfl); (case hg => rfl); (case hr => first | (go_simp; done) | (go_simp; rfl))
                          intro gb255 hg w10 hbox hb
                          have BK255 := Aside0.mk (hbox)
                          have GW255 := Aside0.mk ((bsz hg : w.heap.size ≤ gb255))
                          have GE255 := Aside0.mk ((bsz hg : w.heap.size ≤ gb255))
                          have NB244_255 := Aside0.mk ((nlt hg BK244.out : gb244 ≠ gb255))
                          have NB255_244 := Aside0.mk ((ngt hg BK244.out : gb255 ≠ gb244))
                          have NB245_255 := Aside0.mk ((nlt hg BK245.out : gb245 ≠ gb255))
                          have NB255_245 := Aside0.mk ((ngt hg BK245.out : gb255 ≠ gb245))
                          replace BK244 := Aside0.mk (bb BK244.out hb)
                          replace BK245 := Aside0.mk (bb BK245.out hb)
                          replace HB := Aside0.mk (below_step bel hb)
                          clear hb hbox hg
                          refine hK.out _ _ ⟨(blk_cell BK244.out 0).trans rfl, (blk_cell BK244.out 1).trans rfl⟩ (fun hHeld => ?_)
                          clear hK K
                          refine norm_ (a' := ?_) ?_ ?_
                          rotate_left
                          · show Act.put _ (some 6) _ = _
                            simp only [Act.put, List.setIfInBounds_toArray, List.set_cons_zero, List.set_cons_succ, i64_w, i32_w]
                            rfl
                          exact norm_ (by first | (simp only [putAll, Act.put, List.setIfInBounds_toArray, List.set_cons_zero, List.set_cons_succ]; done) | (simp only [putAll, Act.put, List.setIfInBounds_toArray, List.set_cons_zero, List.set_cons_succ]; rfl)) (hJ9 (gb255) _ ⟨hHeld, (bk BK244.out), (bk BK245.out), (bk BK255.out), GW255.out, GE255.out, NB244_255.out, NB255_244.out, NB245_255.out, NB255_245.out, bel⟩)
                      · skip
                        rintro gb255 w11 ⟨hS_, h0_, h1_, h2_, h3_, h4_, h5_, h6_, h7_, h8_, h9_⟩
                        have n0_ : Aside0 (w11.heap[gb244]? = some (.cells #[.int .i64 a0_0, .slice A0_1 l0_1.length c0_1] 36 (0, 0))) := ⟨h0_⟩
                        have n1_ : Aside0 (w11.heap[gb245]? = some (.cells #[.int .i64 0, .slice none 0 0] 36 (0, 0))) := ⟨h1_⟩
                        have n2_ : Aside0 (w11.heap[gb255]? = some (.cells #[.int .i64 0, .slice none 0 0] 36 (0, 0))) := ⟨h2_⟩
                        have n3_ : Aside0 (w.heap.size ≤ gb255) := ⟨h3_⟩
                        have n4_ : Aside0 (w.heap.size ≤ gb255) := ⟨h4_⟩
                        have n5_ : Aside0 (gb244 ≠ gb255) := ⟨h5_⟩
                        have n6_ : Aside0 (gb255 ≠ gb244) := ⟨h6_⟩
                        have n7_ : Aside0 (gb245 ≠ gb255) := ⟨h7_⟩
                        have n8_ : Aside0 (gb255 ≠ gb245) := ⟨h8_⟩
                        have n9_ : Aside0 (Below w.heap.size w w11) := ⟨h9_⟩
                        clear BK244
                        clear BK245
                        clear HB
                        clear h0_ h1_ h2_ h3_ h4_ h5_ h6_ h7_ h8_ h9_
                        have BK244 := n0_
                        have BK245 := n1_
                        have BK255 := n2_
                        have GW255 := n3_
                        have GE255 := n4_
                        have NB244_255 := n5_
                        have NB255_244 := n6_
                        have NB245_255 := n7_
                        have NB255_245 := n8_
                        have HB := n9_
                        clear n0_ n1_ n2_ n3_ n4_ n5_ n6_ n7_ n8_ n9_
                        have hHeld : w11.cell? ⟨gb244, 0, none⟩ = some (.int .i64 a0_0) ∧ w11.cell? ⟨gb244, 1, none⟩ = some (.slice A0_1 l0_1.length c0_1) := hS_
                        refine norm_ (a' := ?_) ?_ ?_
                        rotate_left
                        · simp only [putAll, Act.put, List.setIfInBounds_toArray, List.set_cons_zero, List.set_cons_succ]
                          rfl
                        refine two_ (i := 4) (j := 6) (Ni := some 11) (Nj := some 13) #[true, true, true, true, true, true, false, false, false, true, false] #[true, true, true, true, false, true, true, false, false, true, false] rfl rfl rfl rfl (two_of HT_.out (by kernel_rfl)) (by decide) (by decide) (fun K hK => ?_) (fun K hK => ?_)
                        · skip
                          refine goes_ Try.func53 (by kernel_rfl) rfl #[.slice A0_1 l0_1.length c0_1] (by rfl) rfl rfl ga ?_
                          with_reducible refine (slices_Clone_int_int.calls _ _ l0_1 t246 _ ?side1 ?side2 A3.out).mono ?_
                          (case side1 => exact ck (Kd.C_below HR0_1.out HB.out))
                          (case side2 => exact HC0_1.out)
                          rintro e w12 ⟨v247, rfl, ho0, hb⟩
                          refine ⟨_, rfl, ?_⟩
                          have HO248 := Aside0.mk (Kd.R_lower ho0 (below_size bel))
                          replace BK244 := Aside0.mk (bb BK244.out hb)
                          replace BK245 := Aside0.mk (bb BK245.out hb)
                          replace BK255 := Aside0.mk (bb BK255.out hb)
                          replace HB := Aside0.mk (below_step bel hb)
                          (try clear hb)
                          (try clear hb2)
                          (try clear hk)
                          (try clear hi)
                          (try clear ho0)
                          refine hK.out _ _ ⟨(blk_cell BK244.out 0).trans rfl, (blk_cell BK244.out 1).trans rfl⟩ (fun hHeld => ?_)
                          clear hK K
                          refine norm_ (a' := ?_) ?_ ?_
                          rotate_left
                          · show Act.put _ (some 11) _ = _
                            simp only [Act.put, List.setIfInBounds_toArray, List.set_cons_zero, List.set_cons_succ, i64_w, i32_w]
                            rfl
                          exact norm_ (by first | (simp only [putAll, Act.put, List.setIfInBounds_toArray, List.set_cons_zero, List.set_cons_succ]; done) | (simp only [putAll, Act.put, List.setIfInBounds_toArray, List.set_cons_zero, List.set_cons_succ]; rfl)) (hJ4_9 (v247, gb255) _ ⟨hHeld, (rk HO248.out), (bk BK244.out), (bk BK245.out), (bk BK255.out), GW255.out, GE255.out, NB244_255.out, NB255_244.out, NB245_255.out, NB255_245.out, bel⟩)
                        · skip
                          refine Kd.R_lit_step (Kd.int .i64) _ 3 ?hg (N := 13) ?hd (xs := ([a1] : List Int)) (inner := [.int .i64 a1]) (ok := fun _ => True) (okp := fun _ => True) ?hr ?hp (fun _ hk => hk) trivial (Below.refl _ _) (Nat.le_refl _) (by simp) ?_; (case hd => rfl); (case hg => rfl); (case hr => first | (go_simp; done) | (go_simp; rfl)); (case hp => exact (Reps.one (show Kd.M (Kd.int .i64) _ _ _ a1 [.int .i64 a1] from rfl) (Reps.none _ _)))
                          intro v250 w12 ho13 hb hg_ hnew_
                          clear hg_ hnew_
                          (first | rw [← Ny249.out] at ho13 | (simp only [Int.reduceToNat] at ho13; rw [← Ny249.out] at ho13))
                          have HO251 := Aside0.mk (Kd.R_lower ho13 (below_size bel))
                          replace BK244 := Aside0.mk (bb BK244.out hb)
                          replace BK245 := Aside0.mk (bb BK245.out hb)
                          replace BK255 := Aside0.mk (bb BK255.out hb)
                          replace HB := Aside0.mk (below_step bel hb)
                          clear hb ho13
                          refine hK.out _ _ ⟨(blk_cell BK244.out 0).trans rfl, (blk_cell BK244.out 1).trans rfl⟩ (fun hHeld => ?_)
                          clear hK K
                          refine norm_ (a' := ?_) ?_ ?_
                          rotate_left
                          · show Act.put _ (some 13) _ = _
                            simp only [Act.put, List.setIfInBounds_toArray, List.set_cons_zero, List.set_cons_succ, i64_w, i32_w]
                            rfl
                          exact norm_ (by first | (simp only [putAll, Act.put, List.setIfInBounds_toArray, List.set_cons_zero, List.set_cons_succ]; done) | (simp only [putAll, Act.put, List.setIfInBounds_toArray, List.set_cons_zero, List.set_cons_succ]; rfl)) (hJ6_9 (v250, gb255) _ ⟨hHeld, (rk HO251.out), (bk BK244.out), (bk BK245.out), (bk BK255.out), GW255.out, GE255.out, NB244_255.out, NB255_244.out, NB245_255.out, NB255_245.out, bel⟩)
                    · skip
                      rintro v250 w12 ⟨hS_, h0_, h1_, h2_, h3_⟩
                      have n0_ : Aside0 (Kd.R (Kd.int .i64) 3 w12 w.heap.size (fun _ => True) v250 y249) := ⟨h0_⟩
                      have n1_ : Aside0 (w12.heap[gb244]? = some (.cells #[.int .i64 a0_0, .slice A0_1 l0_1.length c0_1] 36 (0, 0))) := ⟨h1_⟩
                      have n2_ : Aside0 (w12.heap[gb245]? = some (.cells #[.int .i64 0, .slice none 0 0] 36 (0, 0))) := ⟨h2_⟩
                      have n3_ : Aside0 (Below w.heap.size w w12) := ⟨h3_⟩
                      clear BK244
                      clear BK245
                      clear HB
                      clear h0_ h1_ h2_ h3_
                      have HO251 := n0_
                      have BK244 := n1_
                      have BK245 := n2_
                      have HB := n3_
                      clear n0_ n1_ n2_ n3_
                      have hHeld : w12.cell? ⟨gb244, 0, none⟩ = some (.int .i64 a0_0) ∧ w12.cell? ⟨gb244, 1, none⟩ = some (.slice A0_1 l0_1.length c0_1) := hS_
                      refine norm_ (a' := ?_) ?_ ?_
                      rotate_left
                      · simp only [putAll, Act.put, List.setIfInBounds_toArray, List.set_cons_zero, List.set_cons_succ]
                        rfl
                      refine two_ (i := 4) (j := 9) (Ni := some 11) (Nj := some 6) #[true, true, true, true, true, true, true, false, false, false, false] #[true, true, true, true, false, true, true, false, false, true, false] rfl rfl rfl rfl (two_of HT_.out (by kernel_rfl)) (by decide) (by decide) (fun K hK => ?_) (fun K hK => ?_)
                      · skip
                        refine goes_ Try.func53 (by kernel_rfl) rfl #[.slice A0_1 l0_1.length c0_1] (by rfl) rfl rfl ga ?_
                        with_reducible refine (slices_Clone_int_int.calls _ _ l0_1 t246 _ ?side1 ?side2 A3.out).mono ?_
                        (case side1 => exact ck (Kd.C_below HR0_1.out HB.out))
                        (case side2 => exact HC0_1.out)
                        rintro e w13 ⟨v247, rfl, ho0, hb⟩
                        refine ⟨_, rfl, ?_⟩
                        have HO248 := Aside0.mk (Kd.R_lower (Kd.R_new' ho0 (Kd.R_lt (rk HO251.out))) (below_size bel))
                        replace HO251 := Aside0.mk (Kd.R_elder' (rk HO251.out) (Kd.R_base ho0) hb)
                        replace BK244 := Aside0.mk (bb BK244.out hb)
                        replace BK245 := Aside0.mk (bb BK245.out hb)
                        replace HB := Aside0.mk (below_step bel hb)
                        (try clear hb)
                        (try clear hb2)
                        (try clear hk)
                        (try clear hi)
                        (try clear ho0)
                        refine hK.out _ _ ⟨(blk_cell BK244.out 0).trans rfl, (blk_cell BK244.out 1).trans rfl⟩ (fun hHeld => ?_)
                        clear hK K
                        refine norm_ (a' := ?_) ?_ ?_
                        rotate_left
                        · show Act.put _ (some 11) _ = _
                          simp only [Act.put, List.setIfInBounds_toArray, List.set_cons_zero, List.set_cons_succ, i64_w, i32_w]
                          rfl
                        exact norm_ (by first | (simp only [putAll, Act.put, List.setIfInBounds_toArray, List.set_cons_zero, List.set_cons_succ]; done) | (simp only [putAll, Act.put, List.setIfInBounds_toArray, List.set_cons_zero, List.set_cons_succ]; rfl)) (hJ4_6 (v247, v250) _ ⟨hHeld, (by (with_reducible repeat (first | apply Kd.R_alloc | apply Kd.R_drewN | apply Kd.R_drew)); exact Kd.R_mono HO248.out (fun _ hk => hk.2)), (by (with_reducible repeat (first | apply Kd.R_alloc | apply Kd.R_drewN | apply Kd.R_drew)); exact Kd.R_mono HO251.out (fun _ hk => hk.2)), (bk BK244.out), (bk BK245.out), bel⟩)
                      · skip
                        refine box_step ?hg (N := 6) ?hd (cs := #[.int .i64 0, .slice none 0 0]) (t := 36) ?hr ?_; (case hd => rfl); (case hg => rfl); (case hr => first | (go_simp; done) | (go_simp; rfl))
                        intro gb255 hg w13 hbox hb
                        have BK255 := Aside0.mk (hbox)
                        have GW255 := Aside0.mk ((bsz hg : w.heap.size ≤ gb255))
                        have GE255 := Aside0.mk ((bsz hg : w.heap.size ≤ gb255))
                        have NB244_255 := Aside0.mk ((nlt hg BK244.out : gb244 ≠ gb255))
                        have NB255_244 := Aside0.mk ((ngt hg BK244.out : gb255 ≠ gb244))
                        have NB245_255 := Aside0.mk ((nlt hg BK245.out : gb245 ≠ gb255))
                        have NB255_245 := Aside0.mk ((ngt hg BK245.out : gb255 ≠ gb245))
                        replace HO251 := Aside0.mk (Kd.R_below (rk HO251.out) hb)
                        replace BK244 := Aside0.mk (bb BK244.out hb)
                        replace BK245 := Aside0.mk (bb BK245.out hb)
                        replace HB := Aside0.mk (below_step bel hb)
                        clear hb hbox hg
                        refine hK.out _ _ ⟨(blk_cell BK244.out 0).trans rfl, (blk_cell BK244.out 1).trans rfl⟩ (fun hHeld => ?_)
                        clear hK K
                        refine norm_ (a' := ?_) ?_ ?_
                        rotate_left
                        · show Act.put _ (some 6) _ = _
                          simp only [Act.put, List.setIfInBounds_toArray, List.set_cons_zero, List.set_cons_succ, i64_w, i32_w]
                          rfl
                        exact norm_ (by first | (simp only [putAll, Act.put, List.setIfInBounds_toArray, List.set_cons_zero, List.set_cons_succ]; done) | (simp only [putAll, Act.put, List.setIfInBounds_toArray, List.set_cons_zero, List.set_cons_succ]; rfl)) (hJ6_9 (v250, gb255) _ ⟨hHeld, (rk HO251.out), (bk BK244.out), (bk BK245.out), (bk BK255.out), GW255.out, GE255.out, NB244_255.out, NB255_244.out, NB245_255.out, NB255_245.out, bel⟩)
                  · skip
                    rintro v247 w11 ⟨hS_, h0_, h1_, h2_, h3_⟩
                    have n0_ : Aside0 (Kd.R (Kd.int .i64) 3 w11 w.heap.size (fun _ => True) v247 t246) := ⟨h0_⟩
                    have n1_ : Aside0 (w11.heap[gb244]? = some (.cells #[.int .i64 a0_0, .slice A0_1 l0_1.length c0_1] 36 (0, 0))) := ⟨h1_⟩
                    have n2_ : Aside0 (w11.heap[gb245]? = some (.cells #[.int .i64 0, .slice none 0 0] 36 (0, 0))) := ⟨h2_⟩
                    have n3_ : Aside0 (Below w.heap.size w w11) := ⟨h3_⟩
                    clear BK244
                    clear BK245
                    clear HB
                    clear h0_ h1_ h2_ h3_
                    have HO248 := n0_
                    have BK244 := n1_
                    have BK245 := n2_
                    have HB := n3_
                    clear n0_ n1_ n2_ n3_
                    have hHeld : w11.cell? ⟨gb244, 0, none⟩ = some (.int .i64 a0_0) ∧ w11.cell? ⟨gb244, 1, none⟩ = some (.slice A0_1 l0_1.length c0_1) := hS_
                    refine norm_ (a' := ?_) ?_ ?_
                    rotate_left
                    · simp only [putAll, Act.put, List.setIfInBounds_toArray, List.set_cons_zero, List.set_cons_succ]
                      rfl
                    refine two_ (i := 6) (j := 9) (Ni := some 13) (Nj := some 6) #[true, true, true, true, true, true, true, false, false, false, false] #[true, true, true, true, true, true, false, false, false, true, false] rfl rfl rfl rfl (two_of HT_.out (by kernel_rfl)) (by decide) (by decide) (fun K hK => ?_) (fun K hK => ?_)
                    · skip
                      refine Kd.R_lit_step (Kd.int .i64) _ 3 ?hg (N := 13) ?hd (xs := ([a1] : List Int)) (inner := [.int .i64 a1]) (ok := fun _ => True) (okp := fun _ => True) ?hr ?hp (fun _ hk => hk) trivial (Below.refl _ _) (Nat.le_refl _) (by simp) ?_; (case hd => rfl); (case hg => rfl); (case hr => first | (go_simp; done) | (go_simp; rfl)); (case hp => exact (Reps.one (show Kd.M (Kd.int .i64) _ _ _ a1 [.int .i64 a1] from rfl) (Reps.none _ _)))
                      intro v250 w12 ho13 hb hg_ hnew_
                      clear hg_ hnew_
                      (first | rw [← Ny249.out] at ho13 | (simp only [Int.reduceToNat] at ho13; rw [← Ny249.out] at ho13))
                      have HO251 := Aside0.mk (Kd.R_lower (Kd.R_new' ho13 (Kd.R_lt (rk HO248.out))) (below_size bel))
                      replace HO248 := Aside0.mk (Kd.R_elder' (rk HO248.out) (Kd.R_base ho13) hb)
                      replace BK244 := Aside0.mk (bb BK244.out hb)
                      replace BK245 := Aside0.mk (bb BK245.out hb)
                      replace HB := Aside0.mk (below_step bel hb)
                      clear hb ho13
                      refine hK.out _ _ ⟨(blk_cell BK244.out 0).trans rfl, (blk_cell BK244.out 1).trans rfl⟩ (fun hHeld => ?_)
                      clear hK K
                      refine norm_ (a' := ?_) ?_ ?_
                      rotate_left
                      · show Act.put _ (some 13) _ = _
                        simp only [Act.put, List.setIfInBounds_toArray, List.set_cons_zero, List.set_cons_succ, i64_w, i32_w]
                        rfl
                      exact norm_ (by first | (simp only [putAll, Act.put, List.setIfInBounds_toArray, List.set_cons_zero, List.set_cons_succ]; done) | (simp only [putAll, Act.put, List.setIfInBounds_toArray, List.set_cons_zero, List.set_cons_succ]; rfl)) (hJ4_6 (v247, v250) _ ⟨hHeld, (by (with_reducible repeat (first | apply Kd.R_alloc | apply Kd.R_drewN | apply Kd.R_drew)); exact Kd.R_mono HO248.out (fun _ hk => hk.2)), (by (with_reducible repeat (first | apply Kd.R_alloc | apply Kd.R_drewN | apply Kd.R_drew)); exact Kd.R_mono HO251.out (fun _ hk => hk.2)), (bk BK244.out), (bk BK245.out), bel⟩)
                    · skip
                      refine box_step ?hg (N := 6) ?hd (cs := #[.int .i64 0, .slice none 0 0]) (t := 36) ?hr ?_; (case hd => rfl); (case hg => rfl); (case hr => first | (go_simp; done) | (go_simp; rfl))
                      intro gb255 hg w12 hbox hb
                      have BK255 := Aside0.mk (hbox)
                      have GW255 := Aside0.mk ((bsz hg : w.heap.size ≤ gb255))
                      have GE255 := Aside0.mk ((bsz hg : w.heap.size ≤ gb255))
                      have NB244_255 := Aside0.mk ((nlt hg BK244.out : gb244 ≠ gb255))
                      have NB255_244 := Aside0.mk ((ngt hg BK244.out : gb255 ≠ gb244))
                      have NB245_255 := Aside0.mk ((nlt hg BK245.out : gb245 ≠ gb255))
                      have NB255_245 := Aside0.mk ((ngt hg BK245.out : gb255 ≠ gb245))
                      replace HO248 := Aside0.mk (Kd.R_below (rk HO248.out) hb)
                      replace BK244 := Aside0.mk (bb BK244.out hb)
                      replace BK245 := Aside0.mk (bb BK245.out hb)
                      replace HB := Aside0.mk (below_step bel hb)
                      clear hb hbox hg
                      refine hK.out _ _ ⟨(blk_cell BK244.out 0).trans rfl, (blk_cell BK244.out 1).trans rfl⟩ (fun hHeld => ?_)
                      clear hK K
                      refine norm_ (a' := ?_) ?_ ?_
                      rotate_left
                      · show Act.put _ (some 6) _ = _
                        simp only [Act.put, List.setIfInBounds_toArray, List.set_cons_zero, List.set_cons_succ, i64_w, i32_w]
                        rfl
                      exact norm_ (by first | (simp only [putAll, Act.put, List.setIfInBounds_toArray, List.set_cons_zero, List.set_cons_succ]; done) | (simp only [putAll, Act.put, List.setIfInBounds_toArray, List.set_cons_zero, List.set_cons_succ]; rfl)) (hJ4_9 (v247, gb255) _ ⟨hHeld, (rk HO248.out), (bk BK244.out), (bk BK245.out), (bk BK255.out), GW255.out, GE255.out, NB244_255.out, NB255_244.out, NB245_255.out, NB255_245.out, bel⟩)
                · skip
                  rintro ⟨v250, gb255⟩ w13 ⟨hS_, h0_, h1_, h2_, h3_, h4_, h5_, h6_, h7_, h8_, h9_, h10_⟩
                  have n0_ : Aside0 (Kd.R (Kd.int .i64) 3 w13 w.heap.size (fun _ => True) v250 y249) := ⟨h0_⟩
                  have n1_ : Aside0 (w13.heap[gb244]? = some (.cells #[.int .i64 a0_0, .slice A0_1 l0_1.length c0_1] 36 (0, 0))) := ⟨h1_⟩
                  have n2_ : Aside0 (w13.heap[gb245]? = some (.cells #[.int .i64 0, .slice none 0 0] 36 (0, 0))) := ⟨h2_⟩
                  have n3_ : Aside0 (w13.heap[gb255]? = some (.cells #[.int .i64 0, .slice none 0 0] 36 (0, 0))) := ⟨h3_⟩
                  have n4_ : Aside0 (w.heap.size ≤ gb255) := ⟨h4_⟩
                  have n5_ : Aside0 (w.heap.size ≤ gb255) := ⟨h5_⟩
                  have n6_ : Aside0 (gb244 ≠ gb255) := ⟨h6_⟩
                  have n7_ : Aside0 (gb255 ≠ gb244) := ⟨h7_⟩
                  have n8_ : Aside0 (gb245 ≠ gb255) := ⟨h8_⟩
                  have n9_ : Aside0 (gb255 ≠ gb245) := ⟨h9_⟩
                  have n10_ : Aside0 (Below w.heap.size w w13) := ⟨h10_⟩
                  clear BK244
                  clear BK245
                  clear HB
                  clear h0_ h1_ h2_ h3_ h4_ h5_ h6_ h7_ h8_ h9_ h10_
                  have HO251 := n0_
                  have BK244 := n1_
                  have BK245 := n2_
                  have BK255 := n3_
                  have GW255 := n4_
                  have GE255 := n5_
                  have NB244_255 := n6_
                  have NB255_244 := n7_
                  have NB245_255 := n8_
                  have NB255_245 := n9_
                  have HB := n10_
                  clear n0_ n1_ n2_ n3_ n4_ n5_ n6_ n7_ n8_ n9_ n10_
                  have hHeld : w13.cell? ⟨gb244, 0, none⟩ = some (.int .i64 a0_0) ∧ w13.cell? ⟨gb244, 1, none⟩ = some (.slice A0_1 l0_1.length c0_1) := hS_
                  refine norm_ (a' := ?_) ?_ ?_
                  rotate_left
                  · simp only [putAll, Act.put, List.setIfInBounds_toArray, List.set_cons_zero, List.set_cons_succ]
                    rfl
                  refine one_ (i := 4) (N := some 11) #[true, true, true, true, true, true, true, false, false, true, false] rfl rfl (one_of HT_.out (by kernel_rfl)) (by decide) (fun K hK => ?_)
                  refine goes_ Try.func53 (by kernel_rfl) rfl #[.slice A0_1 l0_1.length c0_1] (by rfl) rfl rfl ga ?_
                  with_reducible refine (slices_Clone_int_int.calls _ _ l0_1 t246 _ ?side1 ?side2 A3.out).mono ?_
                  (case side1 => exact ck (Kd.C_below HR0_1.out HB.out))
                  (case side2 => exact HC0_1.out)
                  rintro e w14 ⟨v247, rfl, ho0, hb⟩
                  refine ⟨_, rfl, ?_⟩
                  have HO248 := Aside0.mk (Kd.R_lower (Kd.R_new' ho0 (Kd.R_lt (rk HO251.out))) (below_size bel))
                  replace HO251 := Aside0.mk (Kd.R_elder' (rk HO251.out) (Kd.R_base ho0) hb)
                  replace BK244 := Aside0.mk (bb BK244.out hb)
                  replace BK245 := Aside0.mk (bb BK245.out hb)
                  replace BK255 := Aside0.mk (bb BK255.out hb)
                  replace HB := Aside0.mk (below_step bel hb)
                  (try clear hb)
                  (try clear hb2)
                  (try clear hk)
                  (try clear hi)
                  (try clear ho0)
                  refine hK.out _ _ ⟨(blk_cell BK244.out 0).trans rfl, (blk_cell BK244.out 1).trans rfl⟩ (fun hHeld => ?_)
                  clear hK K
                  refine norm_ (a' := ?_) ?_ ?_
                  rotate_left
                  · show Act.put _ (some 11) _ = _
                    simp only [Act.put, List.setIfInBounds_toArray, List.set_cons_zero, List.set_cons_succ, i64_w, i32_w]
                    rfl
                  exact norm_ (by first | (simp only [putAll, Act.put, List.setIfInBounds_toArray, List.set_cons_zero, List.set_cons_succ]; done) | (simp only [putAll, Act.put, List.setIfInBounds_toArray, List.set_cons_zero, List.set_cons_succ]; rfl)) (hJ4_6_9 (v247, v250, gb255) _ ⟨hHeld, (by (with_reducible repeat (first | apply Kd.R_alloc | apply Kd.R_drewN | apply Kd.R_drew)); exact Kd.R_mono HO248.out (fun _ hk => hk.2)), (by (with_reducible repeat (first | apply Kd.R_alloc | apply Kd.R_drewN | apply Kd.R_drew)); exact Kd.R_mono HO251.out (fun _ hk => hk.2)), (bk BK244.out), (bk BK245.out), (bk BK255.out), GW255.out, GE255.out, NB244_255.out, NB255_244.out, NB245_255.out, NB255_245.out, bel⟩)
              · skip
                rintro ⟨v247, gb255⟩ w12 ⟨hS_, h0_, h1_, h2_, h3_, h4_, h5_, h6_, h7_, h8_, h9_, h10_⟩
                have n0_ : Aside0 (Kd.R (Kd.int .i64) 3 w12 w.heap.size (fun _ => True) v247 t246) := ⟨h0_⟩
                have n1_ : Aside0 (w12.heap[gb244]? = some (.cells #[.int .i64 a0_0, .slice A0_1 l0_1.length c0_1] 36 (0, 0))) := ⟨h1_⟩
                have n2_ : Aside0 (w12.heap[gb245]? = some (.cells #[.int .i64 0, .slice none 0 0] 36 (0, 0))) := ⟨h2_⟩
                have n3_ : Aside0 (w12.heap[gb255]? = some (.cells #[.int .i64 0, .slice none 0 0] 36 (0, 0))) := ⟨h3_⟩
                have n4_ : Aside0 (w.heap.size ≤ gb255) := ⟨h4_⟩
                have n5_ : Aside0 (w.heap.size ≤ gb255) := ⟨h5_⟩
                have n6_ : Aside0 (gb244 ≠ gb255) := ⟨h6_⟩
                have n7_ : Aside0 (gb255 ≠ gb244) := ⟨h7_⟩
                have n8_ : Aside0 (gb245 ≠ gb255) := ⟨h8_⟩
                have n9_ : Aside0 (gb255 ≠ gb245) := ⟨h9_⟩
                have n10_ : Aside0 (Below w.heap.size w w12) := ⟨h10_⟩
                clear BK244
                clear BK245
                clear HB
                clear h0_ h1_ h2_ h3_ h4_ h5_ h6_ h7_ h8_ h9_ h10_
                have HO248 := n0_
                have BK244 := n1_
                have BK245 := n2_
                have BK255 := n3_
                have GW255 := n4_
                have GE255 := n5_
                have NB244_255 := n6_
                have NB255_244 := n7_
                have NB245_255 := n8_
                have NB255_245 := n9_
                have HB := n10_
                clear n0_ n1_ n2_ n3_ n4_ n5_ n6_ n7_ n8_ n9_ n10_
                have hHeld : w12.cell? ⟨gb244, 0, none⟩ = some (.int .i64 a0_0) ∧ w12.cell? ⟨gb244, 1, none⟩ = some (.slice A0_1 l0_1.length c0_1) := hS_
                refine norm_ (a' := ?_) ?_ ?_
                rotate_left
                · simp only [putAll, Act.put, List.setIfInBounds_toArray, List.set_cons_zero, List.set_cons_succ]
                  rfl
                refine one_ (i := 6) (N := some 13) #[true, true, true, true, true, true, true, false, false, true, false] rfl rfl (one_of HT_.out (by kernel_rfl)) (by decide) (fun K hK => ?_)
                refine Kd.R_lit_step (Kd.int .i64) _ 3 ?hg (N := 13) ?hd (xs := ([a1] : List Int)) (inner := [.int .i64 a1]) (ok := fun _ => True) (okp := fun _ => True) ?hr ?hp (fun _ hk => hk) trivial (Below.refl _ _) (Nat.le_refl _) (by simp) ?_; (case hd => rfl); (case hg => rfl); (case hr => first | (go_simp; done) | (go_simp; rfl)); (case hp => exact (Reps.one (show Kd.M (Kd.int .i64) _ _ _ a1 [.int .i64 a1] from rfl) (Reps.none _ _)))
                intro v250 w13 ho14 hb hg_ hnew_
                clear hg_ hnew_
                (first | rw [← Ny249.out] at ho14 | (simp only [Int.reduceToNat] at ho14; rw [← Ny249.out] at ho14))
                have HO251 := Aside0.mk (Kd.R_lower (Kd.R_new' ho14 (Kd.R_lt (rk HO248.out))) (below_size bel))
                replace HO248 := Aside0.mk (Kd.R_elder' (rk HO248.out) (Kd.R_base ho14) hb)
                replace BK244 := Aside0.mk (bb BK244.out hb)
                replace BK245 := Aside0.mk (bb BK245.out hb)
                replace BK255 := Aside0.mk (bb BK255.out hb)
                replace HB := Aside0.mk (below_step bel hb)
                clear hb ho14
                refine hK.out _ _ ⟨(blk_cell BK244.out 0).trans rfl, (blk_cell BK244.out 1).trans rfl⟩ (fun hHeld => ?_)
                clear hK K
                refine norm_ (a' := ?_) ?_ ?_
                rotate_left
                · show Act.put _ (some 13) _ = _
                  simp only [Act.put, List.setIfInBounds_toArray, List.set_cons_zero, List.set_cons_succ, i64_w, i32_w]
                  rfl
                exact norm_ (by first | (simp only [putAll, Act.put, List.setIfInBounds_toArray, List.set_cons_zero, List.set_cons_succ]; done) | (simp only [putAll, Act.put, List.setIfInBounds_toArray, List.set_cons_zero, List.set_cons_succ]; rfl)) (hJ4_6_9 (v247, v250, gb255) _ ⟨hHeld, (by (with_reducible repeat (first | apply Kd.R_alloc | apply Kd.R_drewN | apply Kd.R_drew)); exact Kd.R_mono HO248.out (fun _ hk => hk.2)), (by (with_reducible repeat (first | apply Kd.R_alloc | apply Kd.R_drewN | apply Kd.R_drew)); exact Kd.R_mono HO251.out (fun _ hk => hk.2)), (bk BK244.out), (bk BK245.out), (bk BK255.out), GW255.out, GE255.out, NB244_255.out, NB255_244.out, NB245_255.out, NB255_245.out, bel⟩)
            · skip
              rintro ⟨v247, v250⟩ w13 ⟨hS_, h0_, h1_, h2_, h3_, h4_⟩
              have n0_ : Aside0 (Kd.R (Kd.int .i64) 3 w13 w.heap.size (fun k_ => some k_ ≠ (v250 : Value).ownBlock) v247 t246) := ⟨h0_⟩
              have n1_ : Aside0 (Kd.R (Kd.int .i64) 3 w13 w.heap.size (fun k_ => some k_ ≠ (v247 : Value).ownBlock) v250 y249) := ⟨h1_⟩
              have n2_ : Aside0 (w13.heap[gb244]? = some (.cells #[.int .i64 a0_0, .slice A0_1 l0_1.length c0_1] 36 (0, 0))) := ⟨h2_⟩
              have n3_ : Aside0 (w13.heap[gb245]? = some (.cells #[.int .i64 0, .slice none 0 0] 36 (0, 0))) := ⟨h3_⟩
              have n4_ : Aside0 (Below w.heap.size w w13) := ⟨h4_⟩
              clear BK244
              clear BK245
              clear HB
              clear h0_ h1_ h2_ h3_ h4_
              have HO248 := n0_
              have HO251 := n1_
              have BK244 := n2_
              have BK245 := n3_
              have HB := n4_
              clear n0_ n1_ n2_ n3_ n4_
              have hHeld : w13.cell? ⟨gb244, 0, none⟩ = some (.int .i64 a0_0) ∧ w13.cell? ⟨gb244, 1, none⟩ = some (.slice A0_1 l0_1.length c0_1) := hS_
              obtain ⟨Ao15, co15, eo15⟩ := Kd.R_slice HO251.out
              (first | subst eo15 | (injection eo15 with f1_ f2_ f3_; have f4_ := f1_.symm; have f5_ := f3_.symm; clear f1_ f2_ f3_; subst f4_; subst f5_))
              refine norm_ (a' := ?_) ?_ ?_
              rotate_left
              · simp only [putAll, Act.put, List.setIfInBounds_toArray, List.set_cons_zero, List.set_cons_succ]
                rfl
              refine two_ (i := 7) (j := 9) (Ni := some 14) (Nj := some 6) #[true, true, true, true, true, true, true, true, false, false, false] #[true, true, true, true, true, true, true, false, false, true, false] rfl rfl rfl rfl (two_of HT_.out (by kernel_rfl)) (by decide) (by decide) (fun K hK => ?_) (fun K hK => ?_)
              · skip
                refine Kd.R_append_rows_step (Kd.int .i64) (w0 := w) w.heap.size (by rfl) (.tmp 11) (.tmp 13) 25 3 (.int .i64 0) 8 rfl Try.underlying25 info3 rfl (by decide) (by omega) v247 t246 y249 _ _ _ (fun k_ => some k_ ≠ (.slice Ao15 y249.length co15 : Value).ownBlock) (fun _ => False) rfl rfl ?aO ?aR (fun _ _ h => h) (fun _ h => h.elim) ?aF ?aB ?aS ?aL ?_
                (case aR => exact ck (Kd.R_reads' HO251.out).2.2)
                (case aB => exact bel)
                (case aF => exact (fun k_ hk => Kd.fresh' (Kd.R_lt (rk HO251.out)) k_ hk))
                (case aO => exact (rk HO248.out))
                (case aS => exact (below_size bel))
                (case aL => have := LMc4.out; omega)
                intro v253 w14 ho hb hg hat
                rw [← Ny252.out] at ho
                have n0_ := Aside0.mk (blk_grown (g := gb244) (o := .cells #[.int .i64 a0_0, .slice A0_1 l0_1.length c0_1] 36 (0, 0)) (bk BK244.out) hg (Kd.R_ne HO248.out BK244.out (by decide)))
                have n1_ := Aside0.mk (blk_grown (g := gb245) (o := .cells #[.int .i64 0, .slice none 0 0] 36 (0, 0)) (bk BK245.out) hg (Kd.R_ne HO248.out BK245.out (by decide)))
                have n2_ := Aside0.mk (Kd.R_after (ok := (fun _ => True)) (by (with_reducible repeat (first | apply Kd.R_alloc | apply Kd.R_drewN | apply Kd.R_drew)); exact Kd.R_mono HO251.out (fun _ hk => ⟨trivial, hk⟩)) hg hat)
                have n3_ := Aside0.mk (hb)
                have n4_ := Aside0.mk (ho)
                clear BK244
                clear BK245
                clear HO251
                clear HB
                clear HO248
                have BK244 := n0_
                have BK245 := n1_
                have HO251 := n2_
                have HB := n3_
                have HO254 := n4_
                clear n0_ n1_ n2_ n3_ n4_
                clear ho hb hg hat
                obtain ⟨Ao16, co16, eo16⟩ := Kd.R_slice HO254.out
                (first | subst eo16 | (injection eo16 with f1_ f2_ f3_; have f4_ := f1_.symm; have f5_ := f3_.symm; clear f1_ f2_ f3_; subst f4_; subst f5_))
                refine hK.out _ _ ⟨(blk_cell BK244.out 0).trans rfl, (blk_cell BK244.out 1).trans rfl⟩ (fun hHeld => ?_)
                clear hK K
                refine norm_ (a' := ?_) ?_ ?_
                rotate_left
                · show Act.put _ (some 14) _ = _
                  simp only [Act.put, List.setIfInBounds_toArray, List.set_cons_zero, List.set_cons_succ, i64_w, i32_w]
                  rfl
                refine pure_ (i := 8) (N := some 15) (v := ?_) (a' := ?_) #[true, true, true, true, true, true, true, true, true, false, false] rfl rfl (any_of HT_.out (by kernel_rfl)) (fun _ _ _ h => h) (Or.inl ⟨by rfl, ?_⟩) ?_ ?_
                rotate_left
                · intro w'
                  go_simp
                  with_reducible rfl
                rotate_left
                · simp only [Act.put, List.setIfInBounds_toArray, List.set_cons_zero, List.set_cons_succ, i64_w, i32_w]
                  rfl
                exact norm_ (by first | (simp only [putAll, Act.put, List.setIfInBounds_toArray, List.set_cons_zero, List.set_cons_succ]; done) | (simp only [putAll, Act.put, List.setIfInBounds_toArray, List.set_cons_zero, List.set_cons_succ]; rfl)) (hJ4_6_7 (v247, .slice Ao15 y249.length co15, .slice Ao16 y252.length co16) _ ⟨hHeld, (by (with_reducible repeat (first | apply Kd.R_alloc | apply Kd.R_drewN | apply Kd.R_drew)); exact Kd.R_mono HO251.out (fun _ hk => hk.2)), (rk HO254.out), (bk BK244.out), (bk BK245.out), bel⟩)
              · skip
                refine box_step ?hg (N := 6) ?hd (cs := #[.int .i64 0, .slice none 0 0]) (t := 36) ?hr ?_; (case hd => rfl); (case hg => rfl); (case hr => first | (go_simp; done) | (go_simp; rfl))
                intro gb255 hg w14 hbox hb
                have BK255 := Aside0.mk (hbox)
                have GW255 := Aside0.mk ((bsz hg : w.heap.size ≤ gb255))
                have GE255 := Aside0.mk ((bsz hg : w.heap.size ≤ gb255))
                have NB244_255 := Aside0.mk ((nlt hg BK244.out : gb244 ≠ gb255))
                have NB255_244 := Aside0.mk ((ngt hg BK244.out : gb255 ≠ gb244))
                have NB245_255 := Aside0.mk ((nlt hg BK245.out : gb245 ≠ gb255))
                have NB255_245 := Aside0.mk ((ngt hg BK245.out : gb255 ≠ gb245))
                replace HO248 := Aside0.mk (Kd.R_below (rk HO248.out) hb)
                replace HO251 := Aside0.mk (Kd.R_below (rk HO251.out) hb)
                replace BK244 := Aside0.mk (bb BK244.out hb)
                replace BK245 := Aside0.mk (bb BK245.out hb)
                replace HB := Aside0.mk (below_step bel hb)
                clear hb hbox hg
                refine hK.out _ _ ⟨(blk_cell BK244.out 0).trans rfl, (blk_cell BK244.out 1).trans rfl⟩ (fun hHeld => ?_)
                clear hK K
                refine norm_ (a' := ?_) ?_ ?_
                rotate_left
                · show Act.put _ (some 6) _ = _
                  simp only [Act.put, List.setIfInBounds_toArray, List.set_cons_zero, List.set_cons_succ, i64_w, i32_w]
                  rfl
                exact norm_ (by first | (simp only [putAll, Act.put, List.setIfInBounds_toArray, List.set_cons_zero, List.set_cons_succ]; done) | (simp only [putAll, Act.put, List.setIfInBounds_toArray, List.set_cons_zero, List.set_cons_succ]; rfl)) (hJ4_6_9 (v247, (.slice Ao15 y249.length co15), gb255) _ ⟨hHeld, (rk HO248.out), (rk HO251.out), (bk BK244.out), (bk BK245.out), (bk BK255.out), GW255.out, GE255.out, NB244_255.out, NB255_244.out, NB245_255.out, NB255_245.out, bel⟩)
          · skip
            rintro ⟨v247, v250, gb255⟩ w14 ⟨hS_, h0_, h1_, h2_, h3_, h4_, h5_, h6_, h7_, h8_, h9_, h10_, h11_⟩
            have n0_ : Aside0 (Kd.R (Kd.int .i64) 3 w14 w.heap.size (fun k_ => some k_ ≠ (v250 : Value).ownBlock) v247 t246) := ⟨h0_⟩
            have n1_ : Aside0 (Kd.R (Kd.int .i64) 3 w14 w.heap.size (fun k_ => some k_ ≠ (v247 : Value).ownBlock) v250 y249) := ⟨h1_⟩
            have n2_ : Aside0 (w14.heap[gb244]? = some (.cells #[.int .i64 a0_0, .slice A0_1 l0_1.length c0_1] 36 (0, 0))) := ⟨h2_⟩
            have n3_ : Aside0 (w14.heap[gb245]? = some (.cells #[.int .i64 0, .slice none 0 0] 36 (0, 0))) := ⟨h3_⟩
            have n4_ : Aside0 (w14.heap[gb255]? = some (.cells #[.int .i64 0, .slice none 0 0] 36 (0, 0))) := ⟨h4_⟩
            have n5_ : Aside0 (w.heap.size ≤ gb255) := ⟨h5_⟩
            have n6_ : Aside0 (w.heap.size ≤ gb255) := ⟨h6_⟩
            have n7_ : Aside0 (gb244 ≠ gb255) := ⟨h7_⟩
            have n8_ : Aside0 (gb255 ≠ gb244) := ⟨h8_⟩
            have n9_ : Aside0 (gb245 ≠ gb255) := ⟨h9_⟩
            have n10_ : Aside0 (gb255 ≠ gb245) := ⟨h10_⟩
            have n11_ : Aside0 (Below w.heap.size w w14) := ⟨h11_⟩
            clear BK244
            clear BK245
            clear HB
            clear h0_ h1_ h2_ h3_ h4_ h5_ h6_ h7_ h8_ h9_ h10_ h11_
            have HO248 := n0_
            have HO251 := n1_
            have BK244 := n2_
            have BK245 := n3_
            have BK255 := n4_
            have GW255 := n5_
            have GE255 := n6_
            have NB244_255 := n7_
            have NB255_244 := n8_
            have NB245_255 := n9_
            have NB255_245 := n10_
            have HB := n11_
            clear n0_ n1_ n2_ n3_ n4_ n5_ n6_ n7_ n8_ n9_ n10_ n11_
            have hHeld : w14.cell? ⟨gb244, 0, none⟩ = some (.int .i64 a0_0) ∧ w14.cell? ⟨gb244, 1, none⟩ = some (.slice A0_1 l0_1.length c0_1) := hS_
            obtain ⟨Ao16, co16, eo16⟩ := Kd.R_slice HO251.out
            (first | subst eo16 | (injection eo16 with f1_ f2_ f3_; have f4_ := f1_.symm; have f5_ := f3_.symm; clear f1_ f2_ f3_; subst f4_; subst f5_))
            refine norm_ (a' := ?_) ?_ ?_
            rotate_left
            · simp only [putAll, Act.put, List.setIfInBounds_toArray, List.set_cons_zero, List.set_cons_succ]
              rfl
            refine one_ (i := 7) (N := some 14) #[true, true, true, true, true, true, true, true, false, true, false] rfl rfl (one_of HT_.out (by kernel_rfl)) (by decide) (fun K hK => ?_)
            refine Kd.R_append_rows_step (Kd.int .i64) (w0 := w) w.heap.size (by rfl) (.tmp 11) (.tmp 13) 25 3 (.int .i64 0) 8 rfl Try.underlying25 info3 rfl (by decide) (by omega) v247 t246 y249 _ _ _ (fun k_ => some k_ ≠ (.slice Ao16 y249.length co16 : Value).ownBlock) (fun _ => False) rfl rfl ?aO ?aR (fun _ _ h => h) (fun _ h => h.elim) ?aF ?aB ?aS ?aL ?_
            (case aR => exact ck (Kd.R_reads' HO251.out).2.2)
            (case aB => exact bel)
            (case aF => exact (fun k_ hk => Kd.fresh' (Kd.R_lt (rk HO251.out)) k_ hk))
            (case aO => exact (rk HO248.out))
            (case aS => exact (below_size bel))
            (case aL => have := LMc4.out; omega)
            intro v253 w15 ho hb hg hat
            rw [← Ny252.out] at ho
            have n0_ := Aside0.mk (blk_grown (g := gb244) (o := .cells #[.int .i64 a0_0, .slice A0_1 l0_1.length c0_1] 36 (0, 0)) (bk BK244.out) hg (Kd.R_ne HO248.out BK244.out (by decide)))
            have n1_ := Aside0.mk (blk_grown (g := gb245) (o := .cells #[.int .i64 0, .slice none 0 0] 36 (0, 0)) (bk BK245.out) hg (Kd.R_ne HO248.out BK245.out (by decide)))
            have n2_ := Aside0.mk (Kd.R_after (ok := (fun _ => True)) (by (with_reducible repeat (first | apply Kd.R_alloc | apply Kd.R_drewN | apply Kd.R_drew)); exact Kd.R_mono HO251.out (fun _ hk => ⟨trivial, hk⟩)) hg hat)
            have n3_ := Aside0.mk (blk_grown (g := gb255) (o := .cells #[.int .i64 0, .slice none 0 0] 36 (0, 0)) (bk BK255.out) hg (Kd.R_ne HO248.out BK255.out (by decide)))
            have n4_ := Aside0.mk (hb)
            have n5_ := Aside0.mk (ho)
            clear BK244
            clear BK245
            clear HO251
            clear BK255
            clear HB
            clear HO248
            have BK244 := n0_
            have BK245 := n1_
            have HO251 := n2_
            have BK255 := n3_
            have HB := n4_
            have HO254 := n5_
            clear n0_ n1_ n2_ n3_ n4_ n5_
            clear ho hb hg hat
            obtain ⟨Ao17, co17, eo17⟩ := Kd.R_slice HO254.out
            (first | subst eo17 | (injection eo17 with f1_ f2_ f3_; have f4_ := f1_.symm; have f5_ := f3_.symm; clear f1_ f2_ f3_; subst f4_; subst f5_))
            refine hK.out _ _ ⟨(blk_cell BK244.out 0).trans rfl, (blk_cell BK244.out 1).trans rfl⟩ (fun hHeld => ?_)
            clear hK K
            refine norm_ (a' := ?_) ?_ ?_
            rotate_left
            · show Act.put _ (some 14) _ = _
              simp only [Act.put, List.setIfInBounds_toArray, List.set_cons_zero, List.set_cons_succ, i64_w, i32_w]
              rfl
            refine pure_ (i := 8) (N := some 15) (v := ?_) (a' := ?_) #[true, true, true, true, true, true, true, true, true, true, false] rfl rfl (any_of HT_.out (by kernel_rfl)) (fun _ _ _ h => h) (Or.inl ⟨by rfl, ?_⟩) ?_ ?_
            rotate_left
            · intro w'
              go_simp
              with_reducible rfl
            rotate_left
            · simp only [Act.put, List.setIfInBounds_toArray, List.set_cons_zero, List.set_cons_succ, i64_w, i32_w]
              rfl
            exact norm_ (by first | (simp only [putAll, Act.put, List.setIfInBounds_toArray, List.set_cons_zero, List.set_cons_succ]; done) | (simp only [putAll, Act.put, List.setIfInBounds_toArray, List.set_cons_zero, List.set_cons_succ]; rfl)) (hJ4_6_7_9 (v247, .slice Ao16 y249.length co16, .slice Ao17 y252.length co17, gb255) _ ⟨hHeld, (by (with_reducible repeat (first | apply Kd.R_alloc | apply Kd.R_drewN | apply Kd.R_drew)); exact Kd.R_mono HO251.out (fun _ hk => hk.2)), (rk HO254.out), (bk BK244.out), (bk BK245.out), (bk BK255.out), GW255.out, GE255.out, NB244_255.out, NB255_244.out, NB245_255.out, NB255_245.out, bel⟩)
        · skip
          rintro ⟨v247, v250, v253⟩ w16 ⟨hS_, h0_, h1_, h2_, h3_, h4_⟩
          have n0_ : Aside0 (Kd.R (Kd.int .i64) 3 w16 w.heap.size (fun k_ => some k_ ≠ (v253 : Value).ownBlock) v250 y249) := ⟨h0_⟩
          have n1_ : Aside0 (Kd.R (Kd.int .i64) 3 w16 w.heap.size (fun k_ => some k_ ≠ (v250 : Value).ownBlock) v253 y252) := ⟨h1_⟩
          have n2_ : Aside0 (w16.heap[gb244]? = some (.cells #[.int .i64 a0_0, .slice A0_1 l0_1.length c0_1] 36 (0, 0))) := ⟨h2_⟩
          have n3_ : Aside0 (w16.heap[gb245]? = some (.cells #[.int .i64 0, .slice none 0 0] 36 (0, 0))) := ⟨h3_⟩
          have n4_ : Aside0 (Below w.heap.size w w16) := ⟨h4_⟩
          clear BK244
          clear BK245
          clear HB
          clear h0_ h1_ h2_ h3_ h4_
          have HO251 := n0_
          have HO254 := n1_
          have BK244 := n2_
          have BK245 := n3_
          have HB := n4_
          clear n0_ n1_ n2_ n3_ n4_
          have hHeld : w16.cell? ⟨gb244, 0, none⟩ = some (.int .i64 a0_0) ∧ w16.cell? ⟨gb244, 1, none⟩ = some (.slice A0_1 l0_1.length c0_1) := hS_
          obtain ⟨Ao17, co17, eo17⟩ := Kd.R_slice HO254.out
          (first | subst eo17 | (injection eo17 with f1_ f2_ f3_; have f4_ := f1_.symm; have f5_ := f3_.symm; clear f1_ f2_ f3_; subst f4_; subst f5_))
          refine norm_ (a' := ?_) ?_ ?_
          rotate_left
          · simp only [putAll, Act.put, List.setIfInBounds_toArray, List.set_cons_zero, List.set_cons_succ]
            rfl
          refine one_ (i := 9) (N := some 6) #[true, true, true, true, true, true, true, true, true, true, false] rfl rfl (one_of HT_.out (by kernel_rfl)) (by decide) (fun K hK => ?_)
          refine box_step ?hg (N := 6) ?hd (cs := #[.int .i64 0, .slice none 0 0]) (t := 36) ?hr ?_; (case hd => rfl); (case hg => rfl); (case hr => first | (go_simp; done) | (go_simp; rfl))
          intro gb255 hg w18 hbox hb
          have BK255 := Aside0.mk (hbox)
          have GW255 := Aside0.mk ((bsz hg : w.heap.size ≤ gb255))
          have GE255 := Aside0.mk ((bsz hg : w.heap.size ≤ gb255))
          have NB244_255 := Aside0.mk ((nlt hg BK244.out : gb244 ≠ gb255))
          have NB255_244 := Aside0.mk ((ngt hg BK244.out : gb255 ≠ gb244))
          have NB245_255 := Aside0.mk ((nlt hg BK245.out : gb245 ≠ gb255))
          have NB255_245 := Aside0.mk ((ngt hg BK245.out : gb255 ≠ gb245))
          replace HO251 := Aside0.mk (Kd.R_below (rk HO251.out) hb)
          replace HO254 := Aside0.mk (Kd.R_below (rk HO254.out) hb)
          replace BK244 := Aside0.mk (bb BK244.out hb)
          replace BK245 := Aside0.mk (bb BK245.out hb)
          replace HB := Aside0.mk (below_step bel hb)
          clear hb hbox hg
          refine hK.out _ _ ⟨(blk_cell BK244.out 0).trans rfl, (blk_cell BK244.out 1).trans rfl⟩ (fun hHeld => ?_)
          clear hK K
          refine norm_ (a' := ?_) ?_ ?_
          rotate_left
          · show Act.put _ (some 6) _ = _
            simp only [Act.put, List.setIfInBounds_toArray, List.set_cons_zero, List.set_cons_succ, i64_w, i32_w]
            rfl
          exact norm_ (by first | (simp only [putAll, Act.put, List.setIfInBounds_toArray, List.set_cons_zero, List.set_cons_succ]; done) | (simp only [putAll, Act.put, List.setIfInBounds_toArray, List.set_cons_zero, List.set_cons_succ]; rfl)) (hJ4_6_7_9 (v247, v250, .slice Ao17 y252.length co17, gb255) _ ⟨hHeld, (rk HO251.out), (rk HO254.out), (bk BK244.out), (bk BK245.out), (bk BK255.out), GW255.out, GE255.out, NB244_255.out, NB255_244.out, NB245_255.out, NB255_245.out, bel⟩)
      rintro ⟨v247, v250, v253, gb255⟩ w17 ⟨hS_, h0_, h1_, h2_, h3_, h4_, h5_, h6_, h7_, h8_, h9_, h10_, h11_⟩
      have n0_ : Aside0 (Kd.R (Kd.int .i64) 3 w17 w.heap.size (fun k_ => some k_ ≠ (v253 : Value).ownBlock) v250 y249) := ⟨h0_⟩
      have n1_ : Aside0 (Kd.R (Kd.int .i64) 3 w17 w.heap.size (fun k_ => some k_ ≠ (v250 : Value).ownBlock) v253 y252) := ⟨h1_⟩
      have n2_ : Aside0 (w17.heap[gb244]? = some (.cells #[.int .i64 a0_0, .slice A0_1 l0_1.length c0_1] 36 (0, 0))) := ⟨h2_⟩
      have n3_ : Aside0 (w17.heap[gb245]? = some (.cells #[.int .i64 0, .slice none 0 0] 36 (0, 0))) := ⟨h3_⟩
      have n4_ : Aside0 (w17.heap[gb255]? = some (.cells #[.int .i64 0, .slice none 0 0] 36 (0, 0))) := ⟨h4_⟩
      have n5_ : Aside0 (w.heap.size ≤ gb255) := ⟨h5_⟩
      have n6_ : Aside0 (w.heap.size ≤ gb255) := ⟨h6_⟩
      have n7_ : Aside0 (gb244 ≠ gb255) := ⟨h7_⟩
      have n8_ : Aside0 (gb255 ≠ gb244) := ⟨h8_⟩
      have n9_ : Aside0 (gb245 ≠ gb255) := ⟨h9_⟩
      have n10_ : Aside0 (gb255 ≠ gb245) := ⟨h10_⟩
      have n11_ : Aside0 (Below w.heap.size w w17) := ⟨h11_⟩
      clear BK244
      clear BK245
      clear HB
      clear h0_ h1_ h2_ h3_ h4_ h5_ h6_ h7_ h8_ h9_ h10_ h11_
      have HO251 := n0_
      have HO254 := n1_
      have BK244 := n2_
      have BK245 := n3_
      have BK255 := n4_
      have GW255 := n5_
      have GE255 := n6_
      have NB244_255 := n7_
      have NB255_244 := n8_
      have NB245_255 := n9_
      have NB255_245 := n10_
      have HB := n11_
      clear n0_ n1_ n2_ n3_ n4_ n5_ n6_ n7_ n8_ n9_ n10_ n11_
      have hHeld : w17.cell? ⟨gb244, 0, none⟩ = some (.int .i64 a0_0) ∧ w17.cell? ⟨gb244, 1, none⟩ = some (.slice A0_1 l0_1.length c0_1) := hS_
      obtain ⟨Ao18, co18, eo18⟩ := Kd.R_slice HO254.out
      (first | subst eo18 | (injection eo18 with f1_ f2_ f3_; have f4_ := f1_.symm; have f5_ := f3_.symm; clear f1_ f2_ f3_; subst f4_; subst f5_))
      refine norm_ (a' := ?_) ?_ ?_
      rotate_left
      · simp only [putAll, Act.put, List.setIfInBounds_toArray, List.set_cons_zero, List.set_cons_succ]
        rfl
      refine one_ (i := 10) (N := none) #[true, true, true, true, true, true, true, true, true, true, true] rfl rfl (one_of HT_.out (by kernel_rfl)) (by decide) (fun K hK => ?_)
      have hs19 : w17.cell? ⟨gb255, 0, none⟩ = some (.int .i64 0) := (blk_cell BK255.out 0).trans rfl
      have hfs19 := blk_frozen BK255.out 0
      have hns19_0 := NB244_255.out
      have hns19_1 := NB245_255.out
      have hms19_0 := NB255_244.out
      have hms19_1 := NB255_245.out
      have hs20 : w17.cell? ⟨gb255, 1, none⟩ = some (.slice none 0 0) := (blk_cell BK255.out 1).trans rfl
      have hfs20 := blk_frozen BK255.out 1
      have hns20_0 := NB244_255.out
      have hns20_1 := NB245_255.out
      have hms20_0 := NB255_244.out
      have hms20_1 := NB255_245.out
      refine skip_ (w1 := ?_) (by rfl) rfl ?_ ?_
      rotate_left
      · go_simp
        rfl
      refine hK.out _ _ ⟨((cell_far (p := ⟨gb255, _, none⟩) NB244_255.out _).trans (((cell_far (p := ⟨gb255, _, none⟩) NB244_255.out _).trans (hHeld.1)))), ((cell_far (p := ⟨gb255, _, none⟩) NB244_255.out _).trans (((cell_far (p := ⟨gb255, _, none⟩) NB244_255.out _).trans (hHeld.2))))⟩ (fun hHeld => ?_)
      clear hK K
      refine done_ (done_of HT_.out (by kernel_rfl)) ?_
      have hnb21 := NB255_244.out
      have hnc21 := NB244_255.out
      have hnb22 := NB255_245.out
      have hnc22 := NB245_255.out
      obtain ⟨hcz23_0, hcz23_1, hfz23_0, hfz23_1⟩ := cf2 BK255.out
      try go_wp2_with (first | ((with_reducible refine gate_callee (f := 33) rfl ?_); refine goesL_ (some 17) rfl rfl Try.func33 (by kernel_rfl) rfl #[.agg #[.int .i64 a0_0, .slice Ao18 y252.length co18]] rfl ga ?_; (with_reducible refine (impl_CupOk.calls k a0_0 _ _ y252 true _ ?side1 ?side2 A5.out).mono ?_); (case side1 => refine (Kd.R_reads' (e := 3) (base := w.heap.size) (ok := fun k_ => some k_ ≠ (v250 : Value).ownBlock) (n := y252.length) (c := co18) ?_).2.2; exact (by exact rk (Kd.R_mono (Kd.R_far (p := ⟨gb255, 1, none⟩) (Kd.R_far (p := ⟨gb255, 0, none⟩) (Kd.R_types HO254.out BK255.out (by decide)) (fun _ hk => hk.2) (.int .i64 a0_0)) (fun _ hk => hk.2) (.slice Ao18 y252.length co18)) (fun _ h_ => h_.1)))); (case side2 => exact (Kd.R_reads' HO254.out).2.1); rintro e w24 ⟨rfl, hb⟩; refine ⟨_, rfl, ?_⟩; replace HO251 := Aside0.mk (Kd.R_below (by exact rk (Kd.R_mono (Kd.R_far (p := ⟨gb255, 1, none⟩) (Kd.R_far (p := ⟨gb255, 0, none⟩) (Kd.R_types HO251.out BK255.out (by decide)) (fun _ hk => hk.2) (.int .i64 a0_0)) (fun _ hk => hk.2) (.slice Ao18 y252.length co18)) (fun _ h_ => h_.1))) hb); replace HO254 := Aside0.mk (Kd.R_below (by exact rk (Kd.R_mono (Kd.R_far (p := ⟨gb255, 1, none⟩) (Kd.R_far (p := ⟨gb255, 0, none⟩) (Kd.R_types HO254.out BK255.out (by decide)) (fun _ hk => hk.2) (.int .i64 a0_0)) (fun _ hk => hk.2) (.slice Ao18 y252.length co18)) (fun _ h_ => h_.1))) hb); replace BK244 := Aside0.mk (bb BK244.out hb); replace BK245 := Aside0.mk (bb BK245.out hb); replace BK255 := Aside0.mk (blk_below (g := gb255) (o := .cells #[.int .i64 a0_0, .slice Ao18 y252.length co18] 36 (0, 0)) (by (with_reducible repeat (first | refine blk_drewN ?_ _ | refine blk_drew ?_ | refine blk_alloc ?_ _)); refine blk_put (cs := #[.int .i64 a0_0, .slice none 0 0]) ?_ 1 _ rfl; (with_reducible repeat (first | refine blk_drewN ?_ _ | refine blk_drew ?_ | refine blk_alloc ?_ _)); refine blk_put (cs := #[.int .i64 0, .slice none 0 0]) ?_ 0 _ rfl; (with_reducible repeat (first | refine blk_drewN ?_ _ | refine blk_drew ?_ | refine blk_alloc ?_ _)); exact BK255.out) hb); replace HB := Aside0.mk (below_step bel hb); (try clear hb); obtain ⟨hcz25_0, hcz25_1, hfz25_0, hfz25_1⟩ := cf2 BK255.out; have hnb26 := NB245_244.out; have hnc26 := NB244_245.out; obtain ⟨hcz27_0, hcz27_1, hfz27_0, hfz27_1⟩ := cf2 BK245.out))
      refine bodyPost_ret (results_ct rfl _ _ gb245 36 #[.int .i64 a0_0, .slice Ao18 y252.length co18] (0, 0) _ rfl (by (with_reducible repeat (first | refine blk_drewN ?_ _ | refine blk_drew ?_ | refine blk_alloc ?_ _)); refine blk_put (cs := #[.int .i64 a0_0, .slice none 0 0]) ?_ 1 _ rfl; (with_reducible repeat (first | refine blk_drewN ?_ _ | refine blk_drew ?_ | refine blk_alloc ?_ _)); refine blk_put (cs := #[.int .i64 0, .slice none 0 0]) ?_ 0 _ rfl; (with_reducible repeat (first | refine blk_drewN ?_ _ | refine blk_drew ?_ | refine blk_alloc ?_ _)); exact BK245.out) Try.underlying36 rfl (by kernel_rfl)) rfl ?_
      exact ⟨_, er, by (with_reducible repeat (first | apply Kd.R_alloc | apply Kd.R_drewN | apply Kd.R_drew)); exact Kd.R_mono (Kd.R_far (p := ⟨gb245, 1, none⟩) (Kd.R_far (p := ⟨gb245, 0, none⟩) (Kd.R_types HO254.out BK245.out (by decide)) (fun _ hk => hk.2) (.int .i64 a0_0)) (fun _ hk => hk.2) (.slice Ao18 y252.length co18)) (fun _ hk => trivial), bel⟩
    · replace c6 := Bool.eq_false_iff.mpr c6
      subst c6
      have H1 : ((slices_Clone_int_int.f l0_1).bind fun t257 => (some (a0_0, t257, false))) = some (r1, r2, r3) := by rw [if_neg (show ¬ (false = true) by decide)] at H; exact H
      clear H
      have H := H1
      clear H1
      replace H := Option.bind_eq_some_iff.mp H
      obtain ⟨t257, A280, H⟩ := H
      replace H : (some (a0_0, t257, false)) = some (r1, r2, r3) := H
      have A28 := Aside0.mk A280
      clear A280
      simp only [Option.some.injEq, Prod.mk.injEq] at H
      obtain ⟨rfl, rfl, rfl⟩ := H
      go_enter Try.func37, Try.ntmps37
      try go_wp2_with (first | ((with_reducible refine gate_dst (N := 2) rfl ?_); refine box_event ?hg (N := 2) ?hd (cs := #[.int .i64 a0_0, .slice A0_1 l0_1.length c0_1]) (t := 36) ?hr ?_; (case hd => rfl); (case hg => rfl); (case hr => first | (go_simp; done) | (go_simp; rfl)); intro gb244 hg w29 hbox hb; have BK244 := Aside0.mk (hbox); have GW244 := Aside0.mk ((bsz hg : w.heap.size ≤ gb244)); have GE244 := Aside0.mk ((bsz hg : w.heap.size ≤ gb244)); replace HB := Aside0.mk (below_step bel hb); clear hb hbox hg) | ((with_reducible refine gate_dst (N := 4) rfl ?_); refine box_event ?hg (N := 4) ?hd (cs := #[.int .i64 0, .slice none 0 0]) (t := 36) ?hr ?_; (case hd => rfl); (case hg => rfl); (case hr => first | (go_simp; done) | (go_simp; rfl)); intro gb245 hg w30 hbox hb; have BK245 := Aside0.mk (hbox); have GW245 := Aside0.mk ((bsz hg : w.heap.size ≤ gb245)); have GE245 := Aside0.mk ((bsz hg : w.heap.size ≤ gb245)); have NB244_245 := Aside0.mk ((nlt hg BK244.out : gb244 ≠ gb245)); have NB245_244 := Aside0.mk ((ngt hg BK244.out : gb245 ≠ gb244)); replace BK244 := Aside0.mk (bb BK244.out hb); replace HB := Aside0.mk (below_step bel hb); clear hb hbox hg))
      replace BK244 := Aside0.mk (blk_drew BK244.out)
      replace BK245 := Aside0.mk (blk_drew BK245.out)
      replace HB := Aside0.mk (below_drew1 HB.out)
      refine start_ (n := 11) (S := fun w' => w'.cell? ⟨gb244, 0, none⟩ = some (.int .i64 a0_0) ∧ w'.cell? ⟨gb244, 1, none⟩ = some (.slice A0_1 l0_1.length c0_1)) (ds := []) #[false, false, false, false, false, false, false, false, false, false, false] (by kernel_rfl) rfl rfl ⟨(blk_cell BK244.out 0).trans rfl, (blk_cell BK244.out 1).trans rfl⟩ (fun hHeld => ?_); refine with_tabW impl_WinGame.tab1 impl_WinGame.bits1 (fun HT_ HW_ => ?_)
      generalize w30.drew = w31 at BK244 BK245 HB hHeld ⊢
      refine pure_ (i := 0) (N := some 7) (v := ?_) (a' := ?_) #[true, false, false, false, false, false, false, false, false, false, false] rfl rfl (any_of HT_.out (by kernel_rfl)) (fun _ _ _ h => h) (Or.inl ⟨by rfl, ?_⟩) ?_ ?_
      rotate_left
      · intro w'
        go_simp
        with_reducible rfl
      rotate_left
      · simp only [Act.put, List.setIfInBounds_toArray, List.set_cons_zero, List.set_cons_succ, i64_w, i32_w]
        rfl
      refine pure_ (i := 2) (N := some 9) (v := ?_) (a' := ?_) #[true, false, true, false, false, false, false, false, false, false, false] rfl rfl (any_of HT_.out (by kernel_rfl)) (fun _ _ _ h => h) (Or.inl ⟨by rfl, ?_⟩) ?_ ?_
      rotate_left
      · intro w'
        go_simp
        with_reducible rfl
      rotate_left
      · simp only [Act.put, List.setIfInBounds_toArray, List.set_cons_zero, List.set_cons_succ, i64_w, i32_w]
        rfl
      refine pure_ (i := 5) (N := some 12) (v := ?_) (a' := ?_) #[true, false, true, false, false, true, false, false, false, false, false] rfl rfl (any_of HT_.out (by kernel_rfl)) (fun _ _ _ h => h) (Or.inl ⟨by rfl, ?_⟩) ?_ ?_
      rotate_left
      · intro w'
        go_simp
        with_reducible rfl
      rotate_left
      · simp only [Act.put, List.setIfInBounds_toArray, List.set_cons_zero, List.set_cons_succ, i64_w, i32_w]
        rfl
      refine take_ (i := 1) (N := some 8) (v := ?_) (a' := ?_) #[true, true, true, false, false, true, false, false, false, false, false] rfl rfl (take_ofW HT_.out HW_.out (by kernel_rfl)) (fun _ _ _ h => h) (Or.inl ⟨by rfl, ?_⟩) hHeld ?_ ?_
      rotate_left
      · rintro w' ⟨s0, s1⟩
        go_simp
        with_reducible rfl
      rotate_left
      · simp only [Act.put, List.setIfInBounds_toArray, List.set_cons_zero, List.set_cons_succ, i64_w, i32_w]
        rfl
      refine take_ (i := 3) (N := some 10) (v := ?_) (a' := ?_) #[true, true, true, true, false, true, false, false, false, false, false] rfl rfl (take_ofW HT_.out HW_.out (by kernel_rfl)) (fun _ _ _ h => h) (Or.inl ⟨by rfl, ?_⟩) hHeld ?_ ?_
      rotate_left
      · rintro w' ⟨s0, s1⟩
        go_simp
        with_reducible rfl
      rotate_left
      · simp only [Act.put, List.setIfInBounds_toArray, List.set_cons_zero, List.set_cons_succ, i64_w, i32_w]
        rfl
      refine join_ (σ := Value × Value × Value × Nat) 1 #[true, true, true, true, true, true, true, true, true, true, false] (fun s_ => [(11, s_.1), (13, s_.2.1), (14, s_.2.2.1), (6, .pointer (some ⟨s_.2.2.2, 0, none⟩)), (15, .agg #[.int .i64 a0_0, s_.2.2.1])]) (fun s_ w' => (w'.cell? ⟨gb244, 0, none⟩ = some (.int .i64 a0_0) ∧ w'.cell? ⟨gb244, 1, none⟩ = some (.slice A0_1 l0_1.length c0_1)) ∧ (Kd.R (Kd.int .i64) 3 w' w.heap.size (fun k_ => some k_ ≠ (s_.2.2.1 : Value).ownBlock) s_.2.1 y249) ∧ (Kd.R (Kd.int .i64) 3 w' w.heap.size (fun k_ => some k_ ≠ (s_.2.1 : Value).ownBlock) s_.2.2.1 y252) ∧ (w'.heap[gb244]? = some (.cells #[.int .i64 a0_0, .slice A0_1 l0_1.length c0_1] 36 (0, 0))) ∧ (w'.heap[gb245]? = some (.cells #[.int .i64 0, .slice none 0 0] 36 (0, 0))) ∧ (w'.heap[s_.2.2.2]? = some (.cells #[.int .i64 0, .slice none 0 0] 36 (0, 0))) ∧ (w.heap.size ≤ s_.2.2.2) ∧ (w.heap.size ≤ s_.2.2.2) ∧ (gb244 ≠ s_.2.2.2) ∧ (s_.2.2.2 ≠ gb244) ∧ (gb245 ≠ s_.2.2.2) ∧ (s_.2.2.2 ≠ gb245) ∧ (Below w.heap.size w w')) ?_ ?_
      rotate_left
      · intro hJ4_6_7_9
        refine join_ (σ := Value × Value × Value) 2 #[true, true, true, true, true, true, true, true, true, false, false] (fun s_ => [(11, s_.1), (13, s_.2.1), (14, s_.2.2), (15, .agg #[.int .i64 a0_0, s_.2.2])]) (fun s_ w' => (w'.cell? ⟨gb244, 0, none⟩ = some (.int .i64 a0_0) ∧ w'.cell? ⟨gb244, 1, none⟩ = some (.slice A0_1 l0_1.length c0_1)) ∧ (Kd.R (Kd.int .i64) 3 w' w.heap.size (fun k_ => some k_ ≠ (s_.2.2 : Value).ownBlock) s_.2.1 y249) ∧ (Kd.R (Kd.int .i64) 3 w' w.heap.size (fun k_ => some k_ ≠ (s_.2.1 : Value).ownBlock) s_.2.2 y252) ∧ (w'.heap[gb244]? = some (.cells #[.int .i64 a0_0, .slice A0_1 l0_1.length c0_1] 36 (0, 0))) ∧ (w'.heap[gb245]? = some (.cells #[.int .i64 0, .slice none 0 0] 36 (0, 0))) ∧ (Below w.heap.size w w')) ?_ ?_
        rotate_left
        · intro hJ4_6_7
          refine join_ (σ := Value × Value × Nat) 3 #[true, true, true, true, true, true, true, false, false, true, false] (fun s_ => [(11, s_.1), (13, s_.2.1), (6, .pointer (some ⟨s_.2.2, 0, none⟩))]) (fun s_ w' => (w'.cell? ⟨gb244, 0, none⟩ = some (.int .i64 a0_0) ∧ w'.cell? ⟨gb244, 1, none⟩ = some (.slice A0_1 l0_1.length c0_1)) ∧ (Kd.R (Kd.int .i64) 3 w' w.heap.size (fun k_ => some k_ ≠ (s_.2.1 : Value).ownBlock) s_.1 t246) ∧ (Kd.R (Kd.int .i64) 3 w' w.heap.size (fun k_ => some k_ ≠ (s_.1 : Value).ownBlock) s_.2.1 y249) ∧ (w'.heap[gb244]? = some (.cells #[.int .i64 a0_0, .slice A0_1 l0_1.length c0_1] 36 (0, 0))) ∧ (w'.heap[gb245]? = some (.cells #[.int .i64 0, .slice none 0 0] 36 (0, 0))) ∧ (w'.heap[s_.2.2]? = some (.cells #[.int .i64 0, .slice none 0 0] 36 (0, 0))) ∧ (w.heap.size ≤ s_.2.2) ∧ (w.heap.size ≤ s_.2.2) ∧ (gb244 ≠ s_.2.2) ∧ (s_.2.2 ≠ gb244) ∧ (gb245 ≠ s_.2.2) ∧ (s_.2.2 ≠ gb245) ∧ (Below w.heap.size w w')) ?_ ?_
          rotate_left
          · intro hJ4_6_9
            refine join_ (σ := Value × Value) 4 #[true, true, true, true, true, true, true, false, false, false, false] (fun s_ => [(11, s_.1), (13, s_.2)]) (fun s_ w' => (w'.cell? ⟨gb244, 0, none⟩ = some (.int .i64 a0_0) ∧ w'.cell? ⟨gb244, 1, none⟩ = some (.slice A0_1 l0_1.length c0_1)) ∧ (Kd.R (Kd.int .i64) 3 w' w.heap.size (fun k_ => some k_ ≠ (s_.2 : Value).ownBlock) s_.1 t246) ∧ (Kd.R (Kd.int .i64) 3 w' w.heap.size (fun k_ => some k_ ≠ (s_.1 : Value).ownBlock) s_.2 y249) ∧ (w'.heap[gb244]? = some (.cells #[.int .i64 a0_0, .slice A0_1 l0_1.length c0_1] 36 (0, 0))) ∧ (w'.heap[gb245]? = some (.cells #[.int .i64 0, .slice none 0 0] 36 (0, 0))) ∧ (Below w.heap.size w w')) ?_ ?_
            rotate_left
            · intro hJ4_6
              refine join_ (σ := Value × Nat) 4 #[true, true, true, true, true, true, false, false, false, true, false] (fun s_ => [(11, s_.1), (6, .pointer (some ⟨s_.2, 0, none⟩))]) (fun s_ w' => (w'.cell? ⟨gb244, 0, none⟩ = some (.int .i64 a0_0) ∧ w'.cell? ⟨gb244, 1, none⟩ = some (.slice A0_1 l0_1.length c0_1)) ∧ (Kd.R (Kd.int .i64) 3 w' w.heap.size (fun _ => True) s_.1 t246) ∧ (w'.heap[gb244]? = some (.cells #[.int .i64 a0_0, .slice A0_1 l0_1.length c0_1] 36 (0, 0))) ∧ (w'.heap[gb245]? = some (.cells #[.int .i64 0, .slice none 0 0] 36 (0, 0))) ∧ (w'.heap[s_.2]? = some (.cells #[.int .i64 0, .slice none 0 0] 36 (0, 0))) ∧ (w.heap.size ≤ s_.2) ∧ (w.heap.size ≤ s_.2) ∧ (gb244 ≠ s_.2) ∧ (s_.2 ≠ gb244) ∧ (gb245 ≠ s_.2) ∧ (s_.2 ≠ gb245) ∧ (Below w.heap.size w w')) ?_ ?_
              rotate_left
              · intro hJ4_9
                refine join_ (σ := Value × Nat) 4 #[true, true, true, true, false, true, true, false, false, true, false] (fun s_ => [(13, s_.1), (6, .pointer (some ⟨s_.2, 0, none⟩))]) (fun s_ w' => (w'.cell? ⟨gb244, 0, none⟩ = some (.int .i64 a0_0) ∧ w'.cell? ⟨gb244, 1, none⟩ = some (.slice A0_1 l0_1.length c0_1)) ∧ (Kd.R (Kd.int .i64) 3 w' w.heap.size (fun _ => True) s_.1 y249) ∧ (w'.heap[gb244]? = some (.cells #[.int .i64 a0_0, .slice A0_1 l0_1.length c0_1] 36 (0, 0))) ∧ (w'.heap[gb245]? = some (.cells #[.int .i64 0, .slice none 0 0] 36 (0, 0))) ∧ (w'.heap[s_.2]? = some (.cells #[.int .i64 0, .slice none 0 0] 36 (0, 0))) ∧ (w.heap.size ≤ s_.2) ∧ (w.heap.size ≤ s_.2) ∧ (gb244 ≠ s_.2) ∧ (s_.2 ≠ gb244) ∧ (gb245 ≠ s_.2) ∧ (s_.2 ≠ gb245) ∧ (Below w.heap.size w w')) ?_ ?_
                rotate_left
                · intro hJ6_9
                  refine join_ (σ := Value) 5 #[true, true, true, true, true, true, false, false, false, false, false] (fun s_ => [(11, s_)]) (fun s_ w' => (w'.cell? ⟨gb244, 0, none⟩ = some (.int .i64 a0_0) ∧ w'.cell? ⟨gb244, 1, none⟩ = some (.slice A0_1 l0_1.length c0_1)) ∧ (Kd.R (Kd.int .i64) 3 w' w.heap.size (fun _ => True) s_ t246) ∧ (w'.heap[gb244]? = some (.cells #[.int .i64 a0_0, .slice A0_1 l0_1.length c0_1] 36 (0, 0))) ∧ (w'.heap[gb245]? = some (.cells #[.int .i64 0, .slice none 0 0] 36 (0, 0))) ∧ (Below w.heap.size w w')) ?_ ?_
                  rotate_left
                  · intro hJ4
                    refine join_ (σ := Value) 5 #[true, true, true, true, false, true, true, false, false, false, false] (fun s_ => [(13, s_)]) (fun s_ w' => (w'.cell? ⟨gb244, 0, none⟩ = some (.int .i64 a0_0) ∧ w'.cell? ⟨gb244, 1, none⟩ = some (.slice A0_1 l0_1.length c0_1)) ∧ (Kd.R (Kd.int .i64) 3 w' w.heap.size (fun _ => True) s_ y249) ∧ (w'.heap[gb244]? = some (.cells #[.int .i64 a0_0, .slice A0_1 l0_1.length c0_1] 36 (0, 0))) ∧ (w'.heap[gb245]? = some (.cells #[.int .i64 0, .slice none 0 0] 36 (0, 0))) ∧ (Below w.heap.size w w')) ?_ ?_
                    rotate_left
                    · intro hJ6
                      refine join_ (σ := Nat) 5 #[true, true, true, true, false, true, false, false, false, true, false] (fun s_ => [(6, .pointer (some ⟨s_, 0, none⟩))]) (fun s_ w' => (w'.cell? ⟨gb244, 0, none⟩ = some (.int .i64 a0_0) ∧ w'.cell? ⟨gb244, 1, none⟩ = some (.slice A0_1 l0_1.length c0_1)) ∧ (w'.heap[gb244]? = some (.cells #[.int .i64 a0_0, .slice A0_1 l0_1.length c0_1] 36 (0, 0))) ∧ (w'.heap[gb245]? = some (.cells #[.int .i64 0, .slice none 0 0] 36 (0, 0))) ∧ (w'.heap[s_]? = some (.cells #[.int .i64 0, .slice none 0 0] 36 (0, 0))) ∧ (w.heap.size ≤ s_) ∧ (w.heap.size ≤ s_) ∧ (gb244 ≠ s_) ∧ (s_ ≠ gb244) ∧ (gb245 ≠ s_) ∧ (s_ ≠ gb245) ∧ (Below w.heap.size w w')) ?_ ?_
                      rotate_left
                      · intro hJ9
                        refine three_ (i := 4) (j := 6) (k := 9) (Ni := some 11) (Nj := some 13) (Nk := some 6) #[true, true, true, true, true, true, false, false, false, false, false] #[true, true, true, true, false, true, true, false, false, false, false] #[true, true, true, true, false, true, false, false, false, true, false] rfl rfl rfl rfl rfl rfl (three_of HT_.out (by kernel_rfl)) (by decide) (by decide) (by decide) (fun K hK => ?_) (fun K hK => ?_) (fun K hK => ?_)
                        · skip
                          refine goes_ Try.func53 (by kernel_rfl) rfl #[.slice A0_1 l0_1.length c0_1] (by rfl) rfl rfl ga ?_
                          with_reducible refine (slices_Clone_int_int.calls _ _ l0_1 t246 _ ?side1 ?side2 A3.out).mono ?_
                          (case side1 => exact ck (Kd.C_below HR0_1.out HB.out))
                          (case side2 => exact HC0_1.out)
                          rintro e w32 ⟨v247, rfl, ho0, hb⟩
                          refine ⟨_, rfl, ?_⟩
                          have HO248 := Aside0.mk (Kd.R_lower ho0 (below_size bel))
                          replace BK244 := Aside0.mk (bb BK244.out hb)
                          replace BK245 := Aside0.mk (bb BK245.out hb)
                          replace HB := Aside0.mk (below_step bel hb)
                          (try clear hb)
                          (try clear hb2)
                          (try clear hk)
                          (try clear hi)
                          (try clear ho0)
                          refine hK.out _ _ ⟨(blk_cell BK244.out 0).trans rfl, (blk_cell BK244.out 1).trans rfl⟩ (fun hHeld => ?_)
                          clear hK K
                          refine norm_ (a' := ?_) ?_ ?_
                          rotate_left
                          · show Act.put _ (some 11) _ = _
                            simp only [Act.put, List.setIfInBounds_toArray, List.set_cons_zero, List.set_cons_succ, i64_w, i32_w]
                            rfl
                          exact norm_ (by first | (simp only [putAll, Act.put, List.setIfInBounds_toArray, List.set_cons_zero, List.set_cons_succ]; done) | (simp only [putAll, Act.put, List.setIfInBounds_toArray, List.set_cons_zero, List.set_cons_succ]; rfl)) (hJ4 (v247) _ ⟨hHeld, (rk HO248.out), (bk BK244.out), (bk BK245.out), bel⟩)
                        · skip
                          refine Kd.R_lit_step (Kd.int .i64) _ 3 ?hg (N := 13) ?hd (xs := ([a1] : List Int)) (inner := [.int .i64 a1]) (ok := fun _ => True) (okp := fun _ => True) ?hr ?hp (fun _ hk => hk) trivial (Below.refl _ _) (Nat.le_refl _) (by simp) ?_; (case hd => rfl); (case hg => rfl); (case hr => first | (go_simp; done) | (go_simp; rfl)); (case hp => exact (Reps.one (show Kd.M (Kd.int .i64) _ _ _ a1 [.int .i64 a1] from rfl) (Reps.none _ _)))
                          intro v250 w32 ho33 hb hg_ hnew_
                          clear hg_ hnew_
                          (first | rw [← Ny249.out] at ho33 | (simp only [Int.reduceToNat] at ho33; rw [← Ny249.out] at ho33))
                          have HO251 := Aside0.mk (Kd.R_lower ho33 (below_size bel))
                          replace BK244 := Aside0.mk (bb BK244.out hb)
                          replace BK245 := Aside0.mk (bb BK245.out hb)
                          replace HB := Aside0.mk (below_step bel hb)
                          clear hb ho33
                          refine hK.out _ _ ⟨(blk_cell BK244.out 0).trans rfl, (blk_cell BK244.out 1).trans rfl⟩ (fun hHeld => ?_)
                          clear hK K
                          refine norm_ (a' := ?_) ?_ ?_
                          rotate_left
                          · show Act.put _ (some 13) _ = _
                            simp only [Act.put, List.setIfInBounds_toArray, List.set_cons_zero, List.set_cons_succ, i64_w, i32_w]
                            rfl
                          exact norm_ (by first | (simp only [putAll, Act.put, List.setIfInBounds_toArray, List.set_cons_zero, List.set_cons_succ]; done) | (simp only [putAll, Act.put, List.setIfInBounds_toArray, List.set_cons_zero, List.set_cons_succ]; rfl)) (hJ6 (v250) _ ⟨hHeld, (rk HO251.out), (bk BK244.out), (bk BK245.out), bel⟩)
                        · skip
                          refine box_step ?hg (N := 6) ?hd (cs := #[.int .i64 0, .slice none 0 0]) (t := 36) ?hr ?_; (case hd => rfl); (case hg => rfl); (case hr => first | (go_simp; done) | (go_simp; rfl))
                          intro gb255 hg w32 hbox hb
                          have BK255 := Aside0.mk (hbox)
                          have GW255 := Aside0.mk ((bsz hg : w.heap.size ≤ gb255))
                          have GE255 := Aside0.mk ((bsz hg : w.heap.size ≤ gb255))
                          have NB244_255 := Aside0.mk ((nlt hg BK244.out : gb244 ≠ gb255))
                          have NB255_244 := Aside0.mk ((ngt hg BK244.out : gb255 ≠ gb244))
                          have NB245_255 := Aside0.mk ((nlt hg BK245.out : gb245 ≠ gb255))
                          have NB255_245 := Aside0.mk ((ngt hg BK245.out : gb255 ≠ gb245))
                          replace BK244 := Aside0.mk (bb BK244.out hb)
                          replace BK245 := Aside0.mk (bb BK245.out hb)
                          replace HB := Aside0.mk (below_step bel hb)
                          clear hb hbox hg
                          refine hK.out _ _ ⟨(blk_cell BK244.out 0).trans rfl, (blk_cell BK244.out 1).trans rfl⟩ (fun hHeld => ?_)
                          clear hK K
                          refine norm_ (a' := ?_) ?_ ?_
                          rotate_left
                          · show Act.put _ (some 6) _ = _
                            simp only [Act.put, List.setIfInBounds_toArray, List.set_cons_zero, List.set_cons_succ, i64_w, i32_w]
                            rfl
                          exact norm_ (by first | (simp only [putAll, Act.put, List.setIfInBounds_toArray, List.set_cons_zero, List.set_cons_succ]; done) | (simp only [putAll, Act.put, List.setIfInBounds_toArray, List.set_cons_zero, List.set_cons_succ]; rfl)) (hJ9 (gb255) _ ⟨hHeld, (bk BK244.out), (bk BK245.out), (bk BK255.out), GW255.out, GE255.out, NB244_255.out, NB255_244.out, NB245_255.out, NB255_245.out, bel⟩)
                      · skip
                        rintro gb255 w33 ⟨hS_, h0_, h1_, h2_, h3_, h4_, h5_, h6_, h7_, h8_, h9_⟩
                        have n0_ : Aside0 (w33.heap[gb244]? = some (.cells #[.int .i64 a0_0, .slice A0_1 l0_1.length c0_1] 36 (0, 0))) := ⟨h0_⟩
                        have n1_ : Aside0 (w33.heap[gb245]? = some (.cells #[.int .i64 0, .slice none 0 0] 36 (0, 0))) := ⟨h1_⟩
                        have n2_ : Aside0 (w33.heap[gb255]? = some (.cells #[.int .i64 0, .slice none 0 0] 36 (0, 0))) := ⟨h2_⟩
                        have n3_ : Aside0 (w.heap.size ≤ gb255) := ⟨h3_⟩
                        have n4_ : Aside0 (w.heap.size ≤ gb255) := ⟨h4_⟩
                        have n5_ : Aside0 (gb244 ≠ gb255) := ⟨h5_⟩
                        have n6_ : Aside0 (gb255 ≠ gb244) := ⟨h6_⟩
                        have n7_ : Aside0 (gb245 ≠ gb255) := ⟨h7_⟩
                        have n8_ : Aside0 (gb255 ≠ gb245) := ⟨h8_⟩
                        have n9_ : Aside0 (Below w.heap.size w w33) := ⟨h9_⟩
                        clear BK244
                        clear BK245
                        clear HB
                        clear h0_ h1_ h2_ h3_ h4_ h5_ h6_ h7_ h8_ h9_
                        have BK244 := n0_
                        have BK245 := n1_
                        have BK255 := n2_
                        have GW255 := n3_
                        have GE255 := n4_
                        have NB244_255 := n5_
                        have NB255_244 := n6_
                        have NB245_255 := n7_
                        have NB255_245 := n8_
                        have HB := n9_
                        clear n0_ n1_ n2_ n3_ n4_ n5_ n6_ n7_ n8_ n9_
                        have hHeld : w33.cell? ⟨gb244, 0, none⟩ = some (.int .i64 a0_0) ∧ w33.cell? ⟨gb244, 1, none⟩ = some (.slice A0_1 l0_1.length c0_1) := hS_
                        refine norm_ (a' := ?_) ?_ ?_
                        rotate_left
                        · simp only [putAll, Act.put, List.setIfInBounds_toArray, List.set_cons_zero, List.set_cons_succ]
                          rfl
                        refine two_ (i := 4) (j := 6) (Ni := some 11) (Nj := some 13) #[true, true, true, true, true, true, false, false, false, true, false] #[true, true, true, true, false, true, true, false, false, true, false] rfl rfl rfl rfl (two_of HT_.out (by kernel_rfl)) (by decide) (by decide) (fun K hK => ?_) (fun K hK => ?_)
                        · skip
                          refine goes_ Try.func53 (by kernel_rfl) rfl #[.slice A0_1 l0_1.length c0_1] (by rfl) rfl rfl ga ?_
                          with_reducible refine (slices_Clone_int_int.calls _ _ l0_1 t246 _ ?side1 ?side2 A3.out).mono ?_
                          (case side1 => exact ck (Kd.C_below HR0_1.out HB.out))
                          (case side2 => exact HC0_1.out)
                          rintro e w34 ⟨v247, rfl, ho0, hb⟩
                          refine ⟨_, rfl, ?_⟩
                          have HO248 := Aside0.mk (Kd.R_lower ho0 (below_size bel))
                          replace BK244 := Aside0.mk (bb BK244.out hb)
                          replace BK245 := Aside0.mk (bb BK245.out hb)
                          replace BK255 := Aside0.mk (bb BK255.out hb)
                          replace HB := Aside0.mk (below_step bel hb)
                          (try clear hb)
                          (try clear hb2)
                          (try clear hk)
                          (try clear hi)
                          (try clear ho0)
                          refine hK.out _ _ ⟨(blk_cell BK244.out 0).trans rfl, (blk_cell BK244.out 1).trans rfl⟩ (fun hHeld => ?_)
                          clear hK K
                          refine norm_ (a' := ?_) ?_ ?_
                          rotate_left
                          · show Act.put _ (some 11) _ = _
                            simp only [Act.put, List.setIfInBounds_toArray, List.set_cons_zero, List.set_cons_succ, i64_w, i32_w]
                            rfl
                          exact norm_ (by first | (simp only [putAll, Act.put, List.setIfInBounds_toArray, List.set_cons_zero, List.set_cons_succ]; done) | (simp only [putAll, Act.put, List.setIfInBounds_toArray, List.set_cons_zero, List.set_cons_succ]; rfl)) (hJ4_9 (v247, gb255) _ ⟨hHeld, (rk HO248.out), (bk BK244.out), (bk BK245.out), (bk BK255.out), GW255.out, GE255.out, NB244_255.out, NB255_244.out, NB245_255.out, NB255_245.out, bel⟩)
                        · skip
                          refine Kd.R_lit_step (Kd.int .i64) _ 3 ?hg (N := 13) ?hd (xs := ([a1] : List Int)) (inner := [.int .i64 a1]) (ok := fun _ => True) (okp := fun _ => True) ?hr ?hp (fun _ hk => hk) trivial (Below.refl _ _) (Nat.le_refl _) (by simp) ?_; (case hd => rfl); (case hg => rfl); (case hr => first | (go_simp; done) | (go_simp; rfl)); (case hp => exact (Reps.one (show Kd.M (Kd.int .i64) _ _ _ a1 [.int .i64 a1] from rfl) (Reps.none _ _)))
                          intro v250 w34 ho35 hb hg_ hnew_
                          clear hg_ hnew_
                          (first | rw [← Ny249.out] at ho35 | (simp only [Int.reduceToNat] at ho35; rw [← Ny249.out] at ho35))
                          have HO251 := Aside0.mk (Kd.R_lower ho35 (below_size bel))
                          replace BK244 := Aside0.mk (bb BK244.out hb)
                          replace BK245 := Aside0.mk (bb BK245.out hb)
                          replace BK255 := Aside0.mk (bb BK255.out hb)
                          replace HB := Aside0.mk (below_step bel hb)
                          clear hb ho35
                          refine hK.out _ _ ⟨(blk_cell BK244.out 0).trans rfl, (blk_cell BK244.out 1).trans rfl⟩ (fun hHeld => ?_)
                          clear hK K
                          refine norm_ (a' := ?_) ?_ ?_
                          rotate_left
                          · show Act.put _ (some 13) _ = _
                            simp only [Act.put, List.setIfInBounds_toArray, List.set_cons_zero, List.set_cons_succ, i64_w, i32_w]
                            rfl
                          exact norm_ (by first | (simp only [putAll, Act.put, List.setIfInBounds_toArray, List.set_cons_zero, List.set_cons_succ]; done) | (simp only [putAll, Act.put, List.setIfInBounds_toArray, List.set_cons_zero, List.set_cons_succ]; rfl)) (hJ6_9 (v250, gb255) _ ⟨hHeld, (rk HO251.out), (bk BK244.out), (bk BK245.out), (bk BK255.out), GW255.out, GE255.out, NB244_255.out, NB255_244.out, NB245_255.out, NB255_245.out, bel⟩)
                    · skip
                      rintro v250 w34 ⟨hS_, h0_, h1_, h2_, h3_⟩
                      have n0_ : Aside0 (Kd.R (Kd.int .i64) 3 w34 w.heap.size (fun _ => True) v250 y249) := ⟨h0_⟩
                      have n1_ : Aside0 (w34.heap[gb244]? = some (.cells #[.int .i64 a0_0, .slice A0_1 l0_1.length c0_1] 36 (0, 0))) := ⟨h1_⟩
                      have n2_ : Aside0 (w34.heap[gb245]? = some (.cells #[.int .i64 0, .slice none 0 0] 36 (0, 0))) := ⟨h2_⟩
                      have n3_ : Aside0 (Below w.heap.size w w34) := ⟨h3_⟩
                      clear BK244
                      clear BK245
                      clear HB
                      clear h0_ h1_ h2_ h3_
                      have HO251 := n0_
                      have BK244 := n1_
                      have BK245 := n2_
                      have HB := n3_
                      clear n0_ n1_ n2_ n3_
                      have hHeld : w34.cell? ⟨gb244, 0, none⟩ = some (.int .i64 a0_0) ∧ w34.cell? ⟨gb244, 1, none⟩ = some (.slice A0_1 l0_1.length c0_1) := hS_
                      refine norm_ (a' := ?_) ?_ ?_
                      rotate_left
                      · simp only [putAll, Act.put, List.setIfInBounds_toArray, List.set_cons_zero, List.set_cons_succ]
                        rfl
                      refine two_ (i := 4) (j := 9) (Ni := some 11) (Nj := some 6) #[true, true, true, true, true, true, true, false, false, false, false] #[true, true, true, true, false, true, true, false, false, true, false] rfl rfl rfl rfl (two_of HT_.out (by kernel_rfl)) (by decide) (by decide) (fun K hK => ?_) (fun K hK => ?_)
                      · skip
                        refine goes_ Try.func53 (by kernel_rfl) rfl #[.slice A0_1 l0_1.length c0_1] (by rfl) rfl rfl ga ?_
                        with_reducible refine (slices_Clone_int_int.calls _ _ l0_1 t246 _ ?side1 ?side2 A3.out).mono ?_
                        (case side1 => exact ck (Kd.C_below HR0_1.out HB.out))
                        (case side2 => exact HC0_1.out)
                        rintro e w35 ⟨v247, rfl, ho0, hb⟩
                        refine ⟨_, rfl, ?_⟩
                        have HO248 := Aside0.mk (Kd.R_lower (Kd.R_new' ho0 (Kd.R_lt (rk HO251.out))) (below_size bel))
                        replace HO251 := Aside0.mk (Kd.R_elder' (rk HO251.out) (Kd.R_base ho0) hb)
                        replace BK244 := Aside0.mk (bb BK244.out hb)
                        replace BK245 := Aside0.mk (bb BK245.out hb)
                        replace HB := Aside0.mk (below_step bel hb)
                        (try clear hb)
                        (try clear hb2)
                        (try clear hk)
                        (try clear hi)
                        (try clear ho0)
                        refine hK.out _ _ ⟨(blk_cell BK244.out 0).trans rfl, (blk_cell BK244.out 1).trans rfl⟩ (fun hHeld => ?_)
                        clear hK K
                        refine norm_ (a' := ?_) ?_ ?_
                        rotate_left
                        · show Act.put _ (some 11) _ = _
                          simp only [Act.put, List.setIfInBounds_toArray, List.set_cons_zero, List.set_cons_succ, i64_w, i32_w]
                          rfl
                        exact norm_ (by first | (simp only [putAll, Act.put, List.setIfInBounds_toArray, List.set_cons_zero, List.set_cons_succ]; done) | (simp only [putAll, Act.put, List.setIfInBounds_toArray, List.set_cons_zero, List.set_cons_succ]; rfl)) (hJ4_6 (v247, v250) _ ⟨hHeld, (by (with_reducible repeat (first | apply Kd.R_alloc | apply Kd.R_drewN | apply Kd.R_drew)); exact Kd.R_mono HO248.out (fun _ hk => hk.2)), (by (with_reducible repeat (first | apply Kd.R_alloc | apply Kd.R_drewN | apply Kd.R_drew)); exact Kd.R_mono HO251.out (fun _ hk => hk.2)), (bk BK244.out), (bk BK245.out), bel⟩)
                      · skip
                        refine box_step ?hg (N := 6) ?hd (cs := #[.int .i64 0, .slice none 0 0]) (t := 36) ?hr ?_; (case hd => rfl); (case hg => rfl); (case hr => first | (go_simp; done) | (go_simp; rfl))
                        intro gb255 hg w35 hbox hb
                        have BK255 := Aside0.mk (hbox)
                        have GW255 := Aside0.mk ((bsz hg : w.heap.size ≤ gb255))
                        have GE255 := Aside0.mk ((bsz hg : w.heap.size ≤ gb255))
                        have NB244_255 := Aside0.mk ((nlt hg BK244.out : gb244 ≠ gb255))
                        have NB255_244 := Aside0.mk ((ngt hg BK244.out : gb255 ≠ gb244))
                        have NB245_255 := Aside0.mk ((nlt hg BK245.out : gb245 ≠ gb255))
                        have NB255_245 := Aside0.mk ((ngt hg BK245.out : gb255 ≠ gb245))
                        replace HO251 := Aside0.mk (Kd.R_below (rk HO251.out) hb)
                        replace BK244 := Aside0.mk (bb BK244.out hb)
                        replace BK245 := Aside0.mk (bb BK245.out hb)
                        replace HB := Aside0.mk (below_step bel hb)
                        clear hb hbox hg
                        refine hK.out _ _ ⟨(blk_cell BK244.out 0).trans rfl, (blk_cell BK244.out 1).trans rfl⟩ (fun hHeld => ?_)
                        clear hK K
                        refine norm_ (a' := ?_) ?_ ?_
                        rotate_left
                        · show Act.put _ (some 6) _ = _
                          simp only [Act.put, List.setIfInBounds_toArray, List.set_cons_zero, List.set_cons_succ, i64_w, i32_w]
                          rfl
                        exact norm_ (by first | (simp only [putAll, Act.put, List.setIfInBounds_toArray, List.set_cons_zero, List.set_cons_succ]; done) | (simp only [putAll, Act.put, List.setIfInBounds_toArray, List.set_cons_zero, List.set_cons_succ]; rfl)) (hJ6_9 (v250, gb255) _ ⟨hHeld, (rk HO251.out), (bk BK244.out), (bk BK245.out), (bk BK255.out), GW255.out, GE255.out, NB244_255.out, NB255_244.out, NB245_255.out, NB255_245.out, bel⟩)
                  · skip
                    rintro v247 w33 ⟨hS_, h0_, h1_, h2_, h3_⟩
                    have n0_ : Aside0 (Kd.R (Kd.int .i64) 3 w33 w.heap.size (fun _ => True) v247 t246) := ⟨h0_⟩
                    have n1_ : Aside0 (w33.heap[gb244]? = some (.cells #[.int .i64 a0_0, .slice A0_1 l0_1.length c0_1] 36 (0, 0))) := ⟨h1_⟩
                    have n2_ : Aside0 (w33.heap[gb245]? = some (.cells #[.int .i64 0, .slice none 0 0] 36 (0, 0))) := ⟨h2_⟩
                    have n3_ : Aside0 (Below w.heap.size w w33) := ⟨h3_⟩
                    clear BK244
                    clear BK245
                    clear HB
                    clear h0_ h1_ h2_ h3_
                    have HO248 := n0_
                    have BK244 := n1_
                    have BK245 := n2_
                    have HB := n3_
                    clear n0_ n1_ n2_ n3_
                    have hHeld : w33.cell? ⟨gb244, 0, none⟩ = some (.int .i64 a0_0) ∧ w33.cell? ⟨gb244, 1, none⟩ = some (.slice A0_1 l0_1.length c0_1) := hS_
                    refine norm_ (a' := ?_) ?_ ?_
                    rotate_left
                    · simp only [putAll, Act.put, List.setIfInBounds_toArray, List.set_cons_zero, List.set_cons_succ]
                      rfl
                    refine two_ (i := 6) (j := 9) (Ni := some 13) (Nj := some 6) #[true, true, true, true, true, true, true, false, false, false, false] #[true, true, true, true, true, true, false, false, false, true, false] rfl rfl rfl rfl (two_of HT_.out (by kernel_rfl)) (by decide) (by decide) (fun K hK => ?_) (fun K hK => ?_)
                    · skip
                      refine Kd.R_lit_step (Kd.int .i64) _ 3 ?hg (N := 13) ?hd (xs := ([a1] : List Int)) (inner := [.int .i64 a1]) (ok := fun _ => True) (okp := fun _ => True) ?hr ?hp (fun _ hk => hk) trivial (Below.refl _ _) (Nat.le_refl _) (by simp) ?_; (case hd => rfl); (case hg => rfl); (case hr => first | (go_simp; done) | (go_simp; rfl)); (case hp => exact (Reps.one (show Kd.M (Kd.int .i64) _ _ _ a1 [.int .i64 a1] from rfl) (Reps.none _ _)))
                      intro v250 w34 ho35 hb hg_ hnew_
                      clear hg_ hnew_
                      (first | rw [← Ny249.out] at ho35 | (simp only [Int.reduceToNat] at ho35; rw [← Ny249.out] at ho35))
                      have HO251 := Aside0.mk (Kd.R_lower (Kd.R_new' ho35 (Kd.R_lt (rk HO248.out))) (below_size bel))
                      replace HO248 := Aside0.mk (Kd.R_elder' (rk HO248.out) (Kd.R_base ho35) hb)
                      replace BK244 := Aside0.mk (bb BK244.out hb)
                      replace BK245 := Aside0.mk (bb BK245.out hb)
                      replace HB := Aside0.mk (below_step bel hb)
                      clear hb ho35
                      refine hK.out _ _ ⟨(blk_cell BK244.out 0).trans rfl, (blk_cell BK244.out 1).trans rfl⟩ (fun hHeld => ?_)
                      clear hK K
                      refine norm_ (a' := ?_) ?_ ?_
                      rotate_left
                      · show Act.put _ (some 13) _ = _
                        simp only [Act.put, List.setIfInBounds_toArray, List.set_cons_zero, List.set_cons_succ, i64_w, i32_w]
                        rfl
                      exact norm_ (by first | (simp only [putAll, Act.put, List.setIfInBounds_toArray, List.set_cons_zero, List.set_cons_succ]; done) | (simp only [putAll, Act.put, List.setIfInBounds_toArray, List.set_cons_zero, List.set_cons_succ]; rfl)) (hJ4_6 (v247, v250) _ ⟨hHeld, (by (with_reducible repeat (first | apply Kd.R_alloc | apply Kd.R_drewN | apply Kd.R_drew)); exact Kd.R_mono HO248.out (fun _ hk => hk.2)), (by (with_reducible repeat (first | apply Kd.R_alloc | apply Kd.R_drewN | apply Kd.R_drew)); exact Kd.R_mono HO251.out (fun _ hk => hk.2)), (bk BK244.out), (bk BK245.out), bel⟩)
                    · skip
                      refine box_step ?hg (N := 6) ?hd (cs := #[.int .i64 0, .slice none 0 0]) (t := 36) ?hr ?_; (case hd => rfl); (case hg => rfl); (case hr => first | (go_simp; done) | (go_simp; rfl))
                      intro gb255 hg w34 hbox hb
                      have BK255 := Aside0.mk (hbox)
                      have GW255 := Aside0.mk ((bsz hg : w.heap.size ≤ gb255))
                      have GE255 := Aside0.mk ((bsz hg : w.heap.size ≤ gb255))
                      have NB244_255 := Aside0.mk ((nlt hg BK244.out : gb244 ≠ gb255))
                      have NB255_244 := Aside0.mk ((ngt hg BK244.out : gb255 ≠ gb244))
                      have NB245_255 := Aside0.mk ((nlt hg BK245.out : gb245 ≠ gb255))
                      have NB255_245 := Aside0.mk ((ngt hg BK245.out : gb255 ≠ gb245))
                      replace HO248 := Aside0.mk (Kd.R_below (rk HO248.out) hb)
                      replace BK244 := Aside0.mk (bb BK244.out hb)
                      replace BK245 := Aside0.mk (bb BK245.out hb)
                      replace HB := Aside0.mk (below_step bel hb)
                      clear hb hbox hg
                      refine hK.out _ _ ⟨(blk_cell BK244.out 0).trans rfl, (blk_cell BK244.out 1).trans rfl⟩ (fun hHeld => ?_)
                      clear hK K
                      refine norm_ (a' := ?_) ?_ ?_
                      rotate_left
                      · show Act.put _ (some 6) _ = _
                        simp only [Act.put, List.setIfInBounds_toArray, List.set_cons_zero, List.set_cons_succ, i64_w, i32_w]
                        rfl
                      exact norm_ (by first | (simp only [putAll, Act.put, List.setIfInBounds_toArray, List.set_cons_zero, List.set_cons_succ]; done) | (simp only [putAll, Act.put, List.setIfInBounds_toArray, List.set_cons_zero, List.set_cons_succ]; rfl)) (hJ4_9 (v247, gb255) _ ⟨hHeld, (rk HO248.out), (bk BK244.out), (bk BK245.out), (bk BK255.out), GW255.out, GE255.out, NB244_255.out, NB255_244.out, NB245_255.out, NB255_245.out, bel⟩)
                · skip
                  rintro ⟨v250, gb255⟩ w35 ⟨hS_, h0_, h1_, h2_, h3_, h4_, h5_, h6_, h7_, h8_, h9_, h10_⟩
                  have n0_ : Aside0 (Kd.R (Kd.int .i64) 3 w35 w.heap.size (fun _ => True) v250 y249) := ⟨h0_⟩
                  have n1_ : Aside0 (w35.heap[gb244]? = some (.cells #[.int .i64 a0_0, .slice A0_1 l0_1.length c0_1] 36 (0, 0))) := ⟨h1_⟩
                  have n2_ : Aside0 (w35.heap[gb245]? = some (.cells #[.int .i64 0, .slice none 0 0] 36 (0, 0))) := ⟨h2_⟩
                  have n3_ : Aside0 (w35.heap[gb255]? = some (.cells #[.int .i64 0, .slice none 0 0] 36 (0, 0))) := ⟨h3_⟩
                  have n4_ : Aside0 (w.heap.size ≤ gb255) := ⟨h4_⟩
                  have n5_ : Aside0 (w.heap.size ≤ gb255) := ⟨h5_⟩
                  have n6_ : Aside0 (gb244 ≠ gb255) := ⟨h6_⟩
                  have n7_ : Aside0 (gb255 ≠ gb244) := ⟨h7_⟩
                  have n8_ : Aside0 (gb245 ≠ gb255) := ⟨h8_⟩
                  have n9_ : Aside0 (gb255 ≠ gb245) := ⟨h9_⟩
                  have n10_ : Aside0 (Below w.heap.size w w35) := ⟨h10_⟩
                  clear BK244
                  clear BK245
                  clear HB
                  clear h0_ h1_ h2_ h3_ h4_ h5_ h6_ h7_ h8_ h9_ h10_
                  have HO251 := n0_
                  have BK244 := n1_
                  have BK245 := n2_
                  have BK255 := n3_
                  have GW255 := n4_
                  have GE255 := n5_
                  have NB244_255 := n6_
                  have NB255_244 := n7_
                  have NB245_255 := n8_
                  have NB255_245 := n9_
                  have HB := n10_
                  clear n0_ n1_ n2_ n3_ n4_ n5_ n6_ n7_ n8_ n9_ n10_
                  have hHeld : w35.cell? ⟨gb244, 0, none⟩ = some (.int .i64 a0_0) ∧ w35.cell? ⟨gb244, 1, none⟩ = some (.slice A0_1 l0_1.length c0_1) := hS_
                  refine norm_ (a' := ?_) ?_ ?_
                  rotate_left
                  · simp only [putAll, Act.put, List.setIfInBounds_toArray, List.set_cons_zero, List.set_cons_succ]
                    rfl
                  refine one_ (i := 4) (N := some 11) #[true, true, true, true, true, true, true, false, false, true, false] rfl rfl (one_of HT_.out (by kernel_rfl)) (by decide) (fun K hK => ?_)
                  refine goes_ Try.func53 (by kernel_rfl) rfl #[.slice A0_1 l0_1.length c0_1] (by rfl) rfl rfl ga ?_
                  with_reducible refine (slices_Clone_int_int.calls _ _ l0_1 t246 _ ?side1 ?side2 A3.out).mono ?_
                  (case side1 => exact ck (Kd.C_below HR0_1.out HB.out))
                  (case side2 => exact HC0_1.out)
                  rintro e w36 ⟨v247, rfl, ho0, hb⟩
                  refine ⟨_, rfl, ?_⟩
                  have HO248 := Aside0.mk (Kd.R_lower (Kd.R_new' ho0 (Kd.R_lt (rk HO251.out))) (below_size bel))
                  replace HO251 := Aside0.mk (Kd.R_elder' (rk HO251.out) (Kd.R_base ho0) hb)
                  replace BK244 := Aside0.mk (bb BK244.out hb)
                  replace BK245 := Aside0.mk (bb BK245.out hb)
                  replace BK255 := Aside0.mk (bb BK255.out hb)
                  replace HB := Aside0.mk (below_step bel hb)
                  (try clear hb)
                  (try clear hb2)
                  (try clear hk)
                  (try clear hi)
                  (try clear ho0)
                  refine hK.out _ _ ⟨(blk_cell BK244.out 0).trans rfl, (blk_cell BK244.out 1).trans rfl⟩ (fun hHeld => ?_)
                  clear hK K
                  refine norm_ (a' := ?_) ?_ ?_
                  rotate_left
                  · show Act.put _ (some 11) _ = _
                    simp only [Act.put, List.setIfInBounds_toArray, List.set_cons_zero, List.set_cons_succ, i64_w, i32_w]
                    rfl
                  exact norm_ (by first | (simp only [putAll, Act.put, List.setIfInBounds_toArray, List.set_cons_zero, List.set_cons_succ]; done) | (simp only [putAll, Act.put, List.setIfInBounds_toArray, List.set_cons_zero, List.set_cons_succ]; rfl)) (hJ4_6_9 (v247, v250, gb255) _ ⟨hHeld, (by (with_reducible repeat (first | apply Kd.R_alloc | apply Kd.R_drewN | apply Kd.R_drew)); exact Kd.R_mono HO248.out (fun _ hk => hk.2)), (by (with_reducible repeat (first | apply Kd.R_alloc | apply Kd.R_drewN | apply Kd.R_drew)); exact Kd.R_mono HO251.out (fun _ hk => hk.2)), (bk BK244.out), (bk BK245.out), (bk BK255.out), GW255.out, GE255.out, NB244_255.out, NB255_244.out, NB245_255.out, NB255_245.out, bel⟩)
              · skip
                rintro ⟨v247, gb255⟩ w34 ⟨hS_, h0_, h1_, h2_, h3_, h4_, h5_, h6_, h7_, h8_, h9_, h10_⟩
                have n0_ : Aside0 (Kd.R (Kd.int .i64) 3 w34 w.heap.size (fun _ => True) v247 t246) := ⟨h0_⟩
                have n1_ : Aside0 (w34.heap[gb244]? = some (.cells #[.int .i64 a0_0, .slice A0_1 l0_1.length c0_1] 36 (0, 0))) := ⟨h1_⟩
                have n2_ : Aside0 (w34.heap[gb245]? = some (.cells #[.int .i64 0, .slice none 0 0] 36 (0, 0))) := ⟨h2_⟩
                have n3_ : Aside0 (w34.heap[gb255]? = some (.cells #[.int .i64 0, .slice none 0 0] 36 (0, 0))) := ⟨h3_⟩
                have n4_ : Aside0 (w.heap.size ≤ gb255) := ⟨h4_⟩
                have n5_ : Aside0 (w.heap.size ≤ gb255) := ⟨h5_⟩
                have n6_ : Aside0 (gb244 ≠ gb255) := ⟨h6_⟩
                have n7_ : Aside0 (gb255 ≠ gb244) := ⟨h7_⟩
                have n8_ : Aside0 (gb245 ≠ gb255) := ⟨h8_⟩
                have n9_ : Aside0 (gb255 ≠ gb245) := ⟨h9_⟩
                have n10_ : Aside0 (Below w.heap.size w w34) := ⟨h10_⟩
                clear BK244
                clear BK245
                clear HB
                clear h0_ h1_ h2_ h3_ h4_ h5_ h6_ h7_ h8_ h9_ h10_
                have HO248 := n0_
                have BK244 := n1_
                have BK245 := n2_
                have BK255 := n3_
                have GW255 := n4_
                have GE255 := n5_
                have NB244_255 := n6_
                have NB255_244 := n7_
                have NB245_255 := n8_
                have NB255_245 := n9_
                have HB := n10_
                clear n0_ n1_ n2_ n3_ n4_ n5_ n6_ n7_ n8_ n9_ n10_
                have hHeld : w34.cell? ⟨gb244, 0, none⟩ = some (.int .i64 a0_0) ∧ w34.cell? ⟨gb244, 1, none⟩ = some (.slice A0_1 l0_1.length c0_1) := hS_
                refine norm_ (a' := ?_) ?_ ?_
                rotate_left
                · simp only [putAll, Act.put, List.setIfInBounds_toArray, List.set_cons_zero, List.set_cons_succ]
                  rfl
                refine one_ (i := 6) (N := some 13) #[true, true, true, true, true, true, true, false, false, true, false] rfl rfl (one_of HT_.out (by kernel_rfl)) (by decide) (fun K hK => ?_)
                refine Kd.R_lit_step (Kd.int .i64) _ 3 ?hg (N := 13) ?hd (xs := ([a1] : List Int)) (inner := [.int .i64 a1]) (ok := fun _ => True) (okp := fun _ => True) ?hr ?hp (fun _ hk => hk) trivial (Below.refl _ _) (Nat.le_refl _) (by simp) ?_; (case hd => rfl); (case hg => rfl); (case hr => first | (go_simp; done) | (go_simp; rfl)); (case hp => exact (Reps.one (show Kd.M (Kd.int .i64) _ _ _ a1 [.int .i64 a1] from rfl) (Reps.none _ _)))
                intro v250 w35 ho36 hb hg_ hnew_
                clear hg_ hnew_
                (first | rw [← Ny249.out] at ho36 | (simp only [Int.reduceToNat] at ho36; rw [← Ny249.out] at ho36))
                have HO251 := Aside0.mk (Kd.R_lower (Kd.R_new' ho36 (Kd.R_lt (rk HO248.out))) (below_size bel))
                replace HO248 := Aside0.mk (Kd.R_elder' (rk HO248.out) (Kd.R_base ho36) hb)
                replace BK244 := Aside0.mk (bb BK244.out hb)
                replace BK245 := Aside0.mk (bb BK245.out hb)
                replace BK255 := Aside0.mk (bb BK255.out hb)
                replace HB := Aside0.mk (below_step bel hb)
                clear hb ho36
                refine hK.out _ _ ⟨(blk_cell BK244.out 0).trans rfl, (blk_cell BK244.out 1).trans rfl⟩ (fun hHeld => ?_)
                clear hK K
                refine norm_ (a' := ?_) ?_ ?_
                rotate_left
                · show Act.put _ (some 13) _ = _
                  simp only [Act.put, List.setIfInBounds_toArray, List.set_cons_zero, List.set_cons_succ, i64_w, i32_w]
                  rfl
                exact norm_ (by first | (simp only [putAll, Act.put, List.setIfInBounds_toArray, List.set_cons_zero, List.set_cons_succ]; done) | (simp only [putAll, Act.put, List.setIfInBounds_toArray, List.set_cons_zero, List.set_cons_succ]; rfl)) (hJ4_6_9 (v247, v250, gb255) _ ⟨hHeld, (by (with_reducible repeat (first | apply Kd.R_alloc | apply Kd.R_drewN | apply Kd.R_drew)); exact Kd.R_mono HO248.out (fun _ hk => hk.2)), (by (with_reducible repeat (first | apply Kd.R_alloc | apply Kd.R_drewN | apply Kd.R_drew)); exact Kd.R_mono HO251.out (fun _ hk => hk.2)), (bk BK244.out), (bk BK245.out), (bk BK255.out), GW255.out, GE255.out, NB244_255.out, NB255_244.out, NB245_255.out, NB255_245.out, bel⟩)
            · skip
              rintro ⟨v247, v250⟩ w35 ⟨hS_, h0_, h1_, h2_, h3_, h4_⟩
              have n0_ : Aside0 (Kd.R (Kd.int .i64) 3 w35 w.heap.size (fun k_ => some k_ ≠ (v250 : Value).ownBlock) v247 t246) := ⟨h0_⟩
              have n1_ : Aside0 (Kd.R (Kd.int .i64) 3 w35 w.heap.size (fun k_ => some k_ ≠ (v247 : Value).ownBlock) v250 y249) := ⟨h1_⟩
              have n2_ : Aside0 (w35.heap[gb244]? = some (.cells #[.int .i64 a0_0, .slice A0_1 l0_1.length c0_1] 36 (0, 0))) := ⟨h2_⟩
              have n3_ : Aside0 (w35.heap[gb245]? = some (.cells #[.int .i64 0, .slice none 0 0] 36 (0, 0))) := ⟨h3_⟩
              have n4_ : Aside0 (Below w.heap.size w w35) := ⟨h4_⟩
              clear BK244
              clear BK245
              clear HB
              clear h0_ h1_ h2_ h3_ h4_
              have HO248 := n0_
              have HO251 := n1_
              have BK244 := n2_
              have BK245 := n3_
              have HB := n4_
              clear n0_ n1_ n2_ n3_ n4_
              have hHeld : w35.cell? ⟨gb244, 0, none⟩ = some (.int .i64 a0_0) ∧ w35.cell? ⟨gb244, 1, none⟩ = some (.slice A0_1 l0_1.length c0_1) := hS_
              obtain ⟨Ao37, co37, eo37⟩ := Kd.R_slice HO251.out
              (first | subst eo37 | (injection eo37 with f1_ f2_ f3_; have f4_ := f1_.symm; have f5_ := f3_.symm; clear f1_ f2_ f3_; subst f4_; subst f5_))
              refine norm_ (a' := ?_) ?_ ?_
              rotate_left
              · simp only [putAll, Act.put, List.setIfInBounds_toArray, List.set_cons_zero, List.set_cons_succ]
                rfl
              refine two_ (i := 7) (j := 9) (Ni := some 14) (Nj := some 6) #[true, true, true, true, true, true, true, true, false, false, false] #[true, true, true, true, true, true, true, false, false, true, false] rfl rfl rfl rfl (two_of HT_.out (by kernel_rfl)) (by decide) (by decide) (fun K hK => ?_) (fun K hK => ?_)
              · skip
                refine Kd.R_append_rows_step (Kd.int .i64) (w0 := w) w.heap.size (by rfl) (.tmp 11) (.tmp 13) 25 3 (.int .i64 0) 8 rfl Try.underlying25 info3 rfl (by decide) (by omega) v247 t246 y249 _ _ _ (fun k_ => some k_ ≠ (.slice Ao37 y249.length co37 : Value).ownBlock) (fun _ => False) rfl rfl ?aO ?aR (fun _ _ h => h) (fun _ h => h.elim) ?aF ?aB ?aS ?aL ?_
                (case aR => exact ck (Kd.R_reads' HO251.out).2.2)
                (case aB => exact bel)
                (case aF => exact (fun k_ hk => Kd.fresh' (Kd.R_lt (rk HO251.out)) k_ hk))
                (case aO => exact (rk HO248.out))
                (case aS => exact (below_size bel))
                (case aL => have := LMc4.out; omega)
                intro v253 w36 ho hb hg hat
                rw [← Ny252.out] at ho
                have n0_ := Aside0.mk (blk_grown (g := gb244) (o := .cells #[.int .i64 a0_0, .slice A0_1 l0_1.length c0_1] 36 (0, 0)) (bk BK244.out) hg (Kd.R_ne HO248.out BK244.out (by decide)))
                have n1_ := Aside0.mk (blk_grown (g := gb245) (o := .cells #[.int .i64 0, .slice none 0 0] 36 (0, 0)) (bk BK245.out) hg (Kd.R_ne HO248.out BK245.out (by decide)))
                have n2_ := Aside0.mk (Kd.R_after (ok := (fun _ => True)) (by (with_reducible repeat (first | apply Kd.R_alloc | apply Kd.R_drewN | apply Kd.R_drew)); exact Kd.R_mono HO251.out (fun _ hk => ⟨trivial, hk⟩)) hg hat)
                have n3_ := Aside0.mk (hb)
                have n4_ := Aside0.mk (ho)
                clear BK244
                clear BK245
                clear HO251
                clear HB
                clear HO248
                have BK244 := n0_
                have BK245 := n1_
                have HO251 := n2_
                have HB := n3_
                have HO254 := n4_
                clear n0_ n1_ n2_ n3_ n4_
                clear ho hb hg hat
                obtain ⟨Ao38, co38, eo38⟩ := Kd.R_slice HO254.out
                (first | subst eo38 | (injection eo38 with f1_ f2_ f3_; have f4_ := f1_.symm; have f5_ := f3_.symm; clear f1_ f2_ f3_; subst f4_; subst f5_))
                refine hK.out _ _ ⟨(blk_cell BK244.out 0).trans rfl, (blk_cell BK244.out 1).trans rfl⟩ (fun hHeld => ?_)
                clear hK K
                refine norm_ (a' := ?_) ?_ ?_
                rotate_left
                · show Act.put _ (some 14) _ = _
                  simp only [Act.put, List.setIfInBounds_toArray, List.set_cons_zero, List.set_cons_succ, i64_w, i32_w]
                  rfl
                refine pure_ (i := 8) (N := some 15) (v := ?_) (a' := ?_) #[true, true, true, true, true, true, true, true, true, false, false] rfl rfl (any_of HT_.out (by kernel_rfl)) (fun _ _ _ h => h) (Or.inl ⟨by rfl, ?_⟩) ?_ ?_
                rotate_left
                · intro w'
                  go_simp
                  with_reducible rfl
                rotate_left
                · simp only [Act.put, List.setIfInBounds_toArray, List.set_cons_zero, List.set_cons_succ, i64_w, i32_w]
                  rfl
                exact norm_ (by first | (simp only [putAll, Act.put, List.setIfInBounds_toArray, List.set_cons_zero, List.set_cons_succ]; done) | (simp only [putAll, Act.put, List.setIfInBounds_toArray, List.set_cons_zero, List.set_cons_succ]; rfl)) (hJ4_6_7 (v247, .slice Ao37 y249.length co37, .slice Ao38 y252.length co38) _ ⟨hHeld, (by (with_reducible repeat (first | apply Kd.R_alloc | apply Kd.R_drewN | apply Kd.R_drew)); exact Kd.R_mono HO251.out (fun _ hk => hk.2)), (rk HO254.out), (bk BK244.out), (bk BK245.out), bel⟩)
              · skip
                refine box_step ?hg (N := 6) ?hd (cs := #[.int .i64 0, .slice none 0 0]) (t := 36) ?hr ?_; (case hd => rfl); (case hg => rfl); (case hr => first | (go_simp; done) | (go_simp; rfl))
                intro gb255 hg w36 hbox hb
                have BK255 := Aside0.mk (hbox)
                have GW255 := Aside0.mk ((bsz hg : w.heap.size ≤ gb255))
                have GE255 := Aside0.mk ((bsz hg : w.heap.size ≤ gb255))
                have NB244_255 := Aside0.mk ((nlt hg BK244.out : gb244 ≠ gb255))
                have NB255_244 := Aside0.mk ((ngt hg BK244.out : gb255 ≠ gb244))
                have NB245_255 := Aside0.mk ((nlt hg BK245.out : gb245 ≠ gb255))
                have NB255_245 := Aside0.mk ((ngt hg BK245.out : gb255 ≠ gb245))
                replace HO248 := Aside0.mk (Kd.R_below (rk HO248.out) hb)
                replace HO251 := Aside0.mk (Kd.R_below (rk HO251.out) hb)
                replace BK244 := Aside0.mk (bb BK244.out hb)
                replace BK245 := Aside0.mk (bb BK245.out hb)
                replace HB := Aside0.mk (below_step bel hb)
                clear hb hbox hg
                refine hK.out _ _ ⟨(blk_cell BK244.out 0).trans rfl, (blk_cell BK244.out 1).trans rfl⟩ (fun hHeld => ?_)
                clear hK K
                refine norm_ (a' := ?_) ?_ ?_
                rotate_left
                · show Act.put _ (some 6) _ = _
                  simp only [Act.put, List.setIfInBounds_toArray, List.set_cons_zero, List.set_cons_succ, i64_w, i32_w]
                  rfl
                exact norm_ (by first | (simp only [putAll, Act.put, List.setIfInBounds_toArray, List.set_cons_zero, List.set_cons_succ]; done) | (simp only [putAll, Act.put, List.setIfInBounds_toArray, List.set_cons_zero, List.set_cons_succ]; rfl)) (hJ4_6_9 (v247, (.slice Ao37 y249.length co37), gb255) _ ⟨hHeld, (rk HO248.out), (rk HO251.out), (bk BK244.out), (bk BK245.out), (bk BK255.out), GW255.out, GE255.out, NB244_255.out, NB255_244.out, NB245_255.out, NB255_245.out, bel⟩)
          · skip
            rintro ⟨v247, v250, gb255⟩ w36 ⟨hS_, h0_, h1_, h2_, h3_, h4_, h5_, h6_, h7_, h8_, h9_, h10_, h11_⟩
            have n0_ : Aside0 (Kd.R (Kd.int .i64) 3 w36 w.heap.size (fun k_ => some k_ ≠ (v250 : Value).ownBlock) v247 t246) := ⟨h0_⟩
            have n1_ : Aside0 (Kd.R (Kd.int .i64) 3 w36 w.heap.size (fun k_ => some k_ ≠ (v247 : Value).ownBlock) v250 y249) := ⟨h1_⟩
            have n2_ : Aside0 (w36.heap[gb244]? = some (.cells #[.int .i64 a0_0, .slice A0_1 l0_1.length c0_1] 36 (0, 0))) := ⟨h2_⟩
            have n3_ : Aside0 (w36.heap[gb245]? = some (.cells #[.int .i64 0, .slice none 0 0] 36 (0, 0))) := ⟨h3_⟩
            have n4_ : Aside0 (w36.heap[gb255]? = some (.cells #[.int .i64 0, .slice none 0 0] 36 (0, 0))) := ⟨h4_⟩
            have n5_ : Aside0 (w.heap.size ≤ gb255) := ⟨h5_⟩
            have n6_ : Aside0 (w.heap.size ≤ gb255) := ⟨h6_⟩
            have n7_ : Aside0 (gb244 ≠ gb255) := ⟨h7_⟩
            have n8_ : Aside0 (gb255 ≠ gb244) := ⟨h8_⟩
            have n9_ : Aside0 (gb245 ≠ gb255) := ⟨h9_⟩
            have n10_ : Aside0 (gb255 ≠ gb245) := ⟨h10_⟩
            have n11_ : Aside0 (Below w.heap.size w w36) := ⟨h11_⟩
            clear BK244
            clear BK245
            clear HB
            clear h0_ h1_ h2_ h3_ h4_ h5_ h6_ h7_ h8_ h9_ h10_ h11_
            have HO248 := n0_
            have HO251 := n1_
            have BK244 := n2_
            have BK245 := n3_
            have BK255 := n4_
            have GW255 := n5_
            have GE255 := n6_
            have NB244_255 := n7_
            have NB255_244 := n8_
            have NB245_255 := n9_
            have NB255_245 := n10_
            have HB := n11_
            clear n0_ n1_ n2_ n3_ n4_ n5_ n6_ n7_ n8_ n9_ n10_ n11_
            have hHeld : w36.cell? ⟨gb244, 0, none⟩ = some (.int .i64 a0_0) ∧ w36.cell? ⟨gb244, 1, none⟩ = some (.slice A0_1 l0_1.length c0_1) := hS_
            obtain ⟨Ao38, co38, eo38⟩ := Kd.R_slice HO251.out
            (first | subst eo38 | (injection eo38 with f1_ f2_ f3_; have f4_ := f1_.symm; have f5_ := f3_.symm; clear f1_ f2_ f3_; subst f4_; subst f5_))
            refine norm_ (a' := ?_) ?_ ?_
            rotate_left
            · simp only [putAll, Act.put, List.setIfInBounds_toArray, List.set_cons_zero, List.set_cons_succ]
              rfl
            refine one_ (i := 7) (N := some 14) #[true, true, true, true, true, true, true, true, false, true, false] rfl rfl (one_of HT_.out (by kernel_rfl)) (by decide) (fun K hK => ?_)
            refine Kd.R_append_rows_step (Kd.int .i64) (w0 := w) w.heap.size (by rfl) (.tmp 11) (.tmp 13) 25 3 (.int .i64 0) 8 rfl Try.underlying25 info3 rfl (by decide) (by omega) v247 t246 y249 _ _ _ (fun k_ => some k_ ≠ (.slice Ao38 y249.length co38 : Value).ownBlock) (fun _ => False) rfl rfl ?aO ?aR (fun _ _ h => h) (fun _ h => h.elim) ?aF ?aB ?aS ?aL ?_
            (case aR => exact ck (Kd.R_reads' HO251.out).2.2)
            (case aB => exact bel)
            (case aF => exact (fun k_ hk => Kd.fresh' (Kd.R_lt (rk HO251.out)) k_ hk))
            (case aO => exact (rk HO248.out))
            (case aS => exact (below_size bel))
            (case aL => have := LMc4.out; omega)
            intro v253 w37 ho hb hg hat
            rw [← Ny252.out] at ho
            have n0_ := Aside0.mk (blk_grown (g := gb244) (o := .cells #[.int .i64 a0_0, .slice A0_1 l0_1.length c0_1] 36 (0, 0)) (bk BK244.out) hg (Kd.R_ne HO248.out BK244.out (by decide)))
            have n1_ := Aside0.mk (blk_grown (g := gb245) (o := .cells #[.int .i64 0, .slice none 0 0] 36 (0, 0)) (bk BK245.out) hg (Kd.R_ne HO248.out BK245.out (by decide)))
            have n2_ := Aside0.mk (Kd.R_after (ok := (fun _ => True)) (by (with_reducible repeat (first | apply Kd.R_alloc | apply Kd.R_drewN | apply Kd.R_drew)); exact Kd.R_mono HO251.out (fun _ hk => ⟨trivial, hk⟩)) hg hat)
            have n3_ := Aside0.mk (blk_grown (g := gb255) (o := .cells #[.int .i64 0, .slice none 0 0] 36 (0, 0)) (bk BK255.out) hg (Kd.R_ne HO248.out BK255.out (by decide)))
            have n4_ := Aside0.mk (hb)
            have n5_ := Aside0.mk (ho)
            clear BK244
            clear BK245
            clear HO251
            clear BK255
            clear HB
            clear HO248
            have BK244 := n0_
            have BK245 := n1_
            have HO251 := n2_
            have BK255 := n3_
            have HB := n4_
            have HO254 := n5_
            clear n0_ n1_ n2_ n3_ n4_ n5_
            clear ho hb hg hat
            obtain ⟨Ao39, co39, eo39⟩ := Kd.R_slice HO254.out
            (first | subst eo39 | (injection eo39 with f1_ f2_ f3_; have f4_ := f1_.symm; have f5_ := f3_.symm; clear f1_ f2_ f3_; subst f4_; subst f5_))
            refine hK.out _ _ ⟨(blk_cell BK244.out 0).trans rfl, (blk_cell BK244.out 1).trans rfl⟩ (fun hHeld => ?_)
            clear hK K
            refine norm_ (a' := ?_) ?_ ?_
            rotate_left
            · show Act.put _ (some 14) _ = _
              simp only [Act.put, List.setIfInBounds_toArray, List.set_cons_zero, List.set_cons_succ, i64_w, i32_w]
              rfl
            refine pure_ (i := 8) (N := some 15) (v := ?_) (a' := ?_) #[true, true, true, true, true, true, true, true, true, true, false] rfl rfl (any_of HT_.out (by kernel_rfl)) (fun _ _ _ h => h) (Or.inl ⟨by rfl, ?_⟩) ?_ ?_
            rotate_left
            · intro w'
              go_simp
              with_reducible rfl
            rotate_left
            · simp only [Act.put, List.setIfInBounds_toArray, List.set_cons_zero, List.set_cons_succ, i64_w, i32_w]
              rfl
            exact norm_ (by first | (simp only [putAll, Act.put, List.setIfInBounds_toArray, List.set_cons_zero, List.set_cons_succ]; done) | (simp only [putAll, Act.put, List.setIfInBounds_toArray, List.set_cons_zero, List.set_cons_succ]; rfl)) (hJ4_6_7_9 (v247, .slice Ao38 y249.length co38, .slice Ao39 y252.length co39, gb255) _ ⟨hHeld, (by (with_reducible repeat (first | apply Kd.R_alloc | apply Kd.R_drewN | apply Kd.R_drew)); exact Kd.R_mono HO251.out (fun _ hk => hk.2)), (rk HO254.out), (bk BK244.out), (bk BK245.out), (bk BK255.out), GW255.out, GE255.out, NB244_255.out, NB255_244.out, NB245_255.out, NB255_245.out, bel⟩)
        · skip
          rintro ⟨v247, v250, v253⟩ w38 ⟨hS_, h0_, h1_, h2_, h3_, h4_⟩
          have n0_ : Aside0 (Kd.R (Kd.int .i64) 3 w38 w.heap.size (fun k_ => some k_ ≠ (v253 : Value).ownBlock) v250 y249) := ⟨h0_⟩
          have n1_ : Aside0 (Kd.R (Kd.int .i64) 3 w38 w.heap.size (fun k_ => some k_ ≠ (v250 : Value).ownBlock) v253 y252) := ⟨h1_⟩
          have n2_ : Aside0 (w38.heap[gb244]? = some (.cells #[.int .i64 a0_0, .slice A0_1 l0_1.length c0_1] 36 (0, 0))) := ⟨h2_⟩
          have n3_ : Aside0 (w38.heap[gb245]? = some (.cells #[.int .i64 0, .slice none 0 0] 36 (0, 0))) := ⟨h3_⟩
          have n4_ : Aside0 (Below w.heap.size w w38) := ⟨h4_⟩
          clear BK244
          clear BK245
          clear HB
          clear h0_ h1_ h2_ h3_ h4_
          have HO251 := n0_
          have HO254 := n1_
          have BK244 := n2_
          have BK245 := n3_
          have HB := n4_
          clear n0_ n1_ n2_ n3_ n4_
          have hHeld : w38.cell? ⟨gb244, 0, none⟩ = some (.int .i64 a0_0) ∧ w38.cell? ⟨gb244, 1, none⟩ = some (.slice A0_1 l0_1.length c0_1) := hS_
          obtain ⟨Ao39, co39, eo39⟩ := Kd.R_slice HO254.out
          (first | subst eo39 | (injection eo39 with f1_ f2_ f3_; have f4_ := f1_.symm; have f5_ := f3_.symm; clear f1_ f2_ f3_; subst f4_; subst f5_))
          refine norm_ (a' := ?_) ?_ ?_
          rotate_left
          · simp only [putAll, Act.put, List.setIfInBounds_toArray, List.set_cons_zero, List.set_cons_succ]
            rfl
          refine one_ (i := 9) (N := some 6) #[true, true, true, true, true, true, true, true, true, true, false] rfl rfl (one_of HT_.out (by kernel_rfl)) (by decide) (fun K hK => ?_)
          refine box_step ?hg (N := 6) ?hd (cs := #[.int .i64 0, .slice none 0 0]) (t := 36) ?hr ?_; (case hd => rfl); (case hg => rfl); (case hr => first | (go_simp; done) | (go_simp; rfl))
          intro gb255 hg w40 hbox hb
          have BK255 := Aside0.mk (hbox)
          have GW255 := Aside0.mk ((bsz hg : w.heap.size ≤ gb255))
          have GE255 := Aside0.mk ((bsz hg : w.heap.size ≤ gb255))
          have NB244_255 := Aside0.mk ((nlt hg BK244.out : gb244 ≠ gb255))
          have NB255_244 := Aside0.mk ((ngt hg BK244.out : gb255 ≠ gb244))
          have NB245_255 := Aside0.mk ((nlt hg BK245.out : gb245 ≠ gb255))
          have NB255_245 := Aside0.mk ((ngt hg BK245.out : gb255 ≠ gb245))
          replace HO251 := Aside0.mk (Kd.R_below (rk HO251.out) hb)
          replace HO254 := Aside0.mk (Kd.R_below (rk HO254.out) hb)
          replace BK244 := Aside0.mk (bb BK244.out hb)
          replace BK245 := Aside0.mk (bb BK245.out hb)
          replace HB := Aside0.mk (below_step bel hb)
          clear hb hbox hg
          refine hK.out _ _ ⟨(blk_cell BK244.out 0).trans rfl, (blk_cell BK244.out 1).trans rfl⟩ (fun hHeld => ?_)
          clear hK K
          refine norm_ (a' := ?_) ?_ ?_
          rotate_left
          · show Act.put _ (some 6) _ = _
            simp only [Act.put, List.setIfInBounds_toArray, List.set_cons_zero, List.set_cons_succ, i64_w, i32_w]
            rfl
          exact norm_ (by first | (simp only [putAll, Act.put, List.setIfInBounds_toArray, List.set_cons_zero, List.set_cons_succ]; done) | (simp only [putAll, Act.put, List.setIfInBounds_toArray, List.set_cons_zero, List.set_cons_succ]; rfl)) (hJ4_6_7_9 (v247, v250, .slice Ao39 y252.length co39, gb255) _ ⟨hHeld, (rk HO251.out), (rk HO254.out), (bk BK244.out), (bk BK245.out), (bk BK255.out), GW255.out, GE255.out, NB244_255.out, NB255_244.out, NB245_255.out, NB255_245.out, bel⟩)
      rintro ⟨v247, v250, v253, gb255⟩ w39 ⟨hS_, h0_, h1_, h2_, h3_, h4_, h5_, h6_, h7_, h8_, h9_, h10_, h11_⟩
      have n0_ : Aside0 (Kd.R (Kd.int .i64) 3 w39 w.heap.size (fun k_ => some k_ ≠ (v253 : Value).ownBlock) v250 y249) := ⟨h0_⟩
      have n1_ : Aside0 (Kd.R (Kd.int .i64) 3 w39 w.heap.size (fun k_ => some k_ ≠ (v250 : Value).ownBlock) v253 y252) := ⟨h1_⟩
      have n2_ : Aside0 (w39.heap[gb244]? = some (.cells #[.int .i64 a0_0, .slice A0_1 l0_1.length c0_1] 36 (0, 0))) := ⟨h2_⟩
      have n3_ : Aside0 (w39.heap[gb245]? = some (.cells #[.int .i64 0, .slice none 0 0] 36 (0, 0))) := ⟨h3_⟩
      have n4_ : Aside0 (w39.heap[gb255]? = some (.cells #[.int .i64 0, .slice none 0 0] 36 (0, 0))) := ⟨h4_⟩
      have n5_ : Aside0 (w.heap.size ≤ gb255) := ⟨h5_⟩
      have n6_ : Aside0 (w.heap.size ≤ gb255) := ⟨h6_⟩
      have n7_ : Aside0 (gb244 ≠ gb255) := ⟨h7_⟩
      have n8_ : Aside0 (gb255 ≠ gb244) := ⟨h8_⟩
      have n9_ : Aside0 (gb245 ≠ gb255) := ⟨h9_⟩
      have n10_ : Aside0 (gb255 ≠ gb245) := ⟨h10_⟩
      have n11_ : Aside0 (Below w.heap.size w w39) := ⟨h11_⟩
      clear BK244
      clear BK245
      clear HB
      clear h0_ h1_ h2_ h3_ h4_ h5_ h6_ h7_ h8_ h9_ h10_ h11_
      have HO251 := n0_
      have HO254 := n1_
      have BK244 := n2_
      have BK245 := n3_
      have BK255 := n4_
      have GW255 := n5_
      have GE255 := n6_
      have NB244_255 := n7_
      have NB255_244 := n8_
      have NB245_255 := n9_
      have NB255_245 := n10_
      have HB := n11_
      clear n0_ n1_ n2_ n3_ n4_ n5_ n6_ n7_ n8_ n9_ n10_ n11_
      have hHeld : w39.cell? ⟨gb244, 0, none⟩ = some (.int .i64 a0_0) ∧ w39.cell? ⟨gb244, 1, none⟩ = some (.slice A0_1 l0_1.length c0_1) := hS_
      obtain ⟨Ao40, co40, eo40⟩ := Kd.R_slice HO254.out
      (first | subst eo40 | (injection eo40 with f1_ f2_ f3_; have f4_ := f1_.symm; have f5_ := f3_.symm; clear f1_ f2_ f3_; subst f4_; subst f5_))
      refine norm_ (a' := ?_) ?_ ?_
      rotate_left
      · simp only [putAll, Act.put, List.setIfInBounds_toArray, List.set_cons_zero, List.set_cons_succ]
        rfl
      refine one_ (i := 10) (N := none) #[true, true, true, true, true, true, true, true, true, true, true] rfl rfl (one_of HT_.out (by kernel_rfl)) (by decide) (fun K hK => ?_)
      have hs41 : w39.cell? ⟨gb255, 0, none⟩ = some (.int .i64 0) := (blk_cell BK255.out 0).trans rfl
      have hfs41 := blk_frozen BK255.out 0
      have hns41_0 := NB244_255.out
      have hns41_1 := NB245_255.out
      have hms41_0 := NB255_244.out
      have hms41_1 := NB255_245.out
      have hs42 : w39.cell? ⟨gb255, 1, none⟩ = some (.slice none 0 0) := (blk_cell BK255.out 1).trans rfl
      have hfs42 := blk_frozen BK255.out 1
      have hns42_0 := NB244_255.out
      have hns42_1 := NB245_255.out
      have hms42_0 := NB255_244.out
      have hms42_1 := NB255_245.out
      refine skip_ (w1 := ?_) (by rfl) rfl ?_ ?_
      rotate_left
      · go_simp
        rfl
      refine hK.out _ _ ⟨((cell_far (p := ⟨gb255, _, none⟩) NB244_255.out _).trans (((cell_far (p := ⟨gb255, _, none⟩) NB244_255.out _).trans (hHeld.1)))), ((cell_far (p := ⟨gb255, _, none⟩) NB244_255.out _).trans (((cell_far (p := ⟨gb255, _, none⟩) NB244_255.out _).trans (hHeld.2))))⟩ (fun hHeld => ?_)
      clear hK K
      refine done_ (done_of HT_.out (by kernel_rfl)) ?_
      have hnb43 := NB255_244.out
      have hnc43 := NB244_255.out
      have hnb44 := NB255_245.out
      have hnc44 := NB245_255.out
      obtain ⟨hcz45_0, hcz45_1, hfz45_0, hfz45_1⟩ := cf2 BK255.out
      try go_wp2_with (first | ((with_reducible refine gate_callee (f := 33) rfl ?_); refine goesL_ (some 17) rfl rfl Try.func33 (by kernel_rfl) rfl #[.agg #[.int .i64 a0_0, .slice Ao40 y252.length co40]] rfl ga ?_; (with_reducible refine (impl_CupOk.calls k a0_0 _ _ y252 false _ ?side1 ?side2 A5.out).mono ?_); (case side1 => refine (Kd.R_reads' (e := 3) (base := w.heap.size) (ok := fun k_ => some k_ ≠ (v250 : Value).ownBlock) (n := y252.length) (c := co40) ?_).2.2; exact (by exact rk (Kd.R_mono (Kd.R_far (p := ⟨gb255, 1, none⟩) (Kd.R_far (p := ⟨gb255, 0, none⟩) (Kd.R_types HO254.out BK255.out (by decide)) (fun _ hk => hk.2) (.int .i64 a0_0)) (fun _ hk => hk.2) (.slice Ao40 y252.length co40)) (fun _ h_ => h_.1)))); (case side2 => exact (Kd.R_reads' HO254.out).2.1); rintro e w46 ⟨rfl, hb⟩; refine ⟨_, rfl, ?_⟩; replace HO251 := Aside0.mk (Kd.R_below (by exact rk (Kd.R_mono (Kd.R_far (p := ⟨gb255, 1, none⟩) (Kd.R_far (p := ⟨gb255, 0, none⟩) (Kd.R_types HO251.out BK255.out (by decide)) (fun _ hk => hk.2) (.int .i64 a0_0)) (fun _ hk => hk.2) (.slice Ao40 y252.length co40)) (fun _ h_ => h_.1))) hb); replace HO254 := Aside0.mk (Kd.R_below (by exact rk (Kd.R_mono (Kd.R_far (p := ⟨gb255, 1, none⟩) (Kd.R_far (p := ⟨gb255, 0, none⟩) (Kd.R_types HO254.out BK255.out (by decide)) (fun _ hk => hk.2) (.int .i64 a0_0)) (fun _ hk => hk.2) (.slice Ao40 y252.length co40)) (fun _ h_ => h_.1))) hb); replace BK244 := Aside0.mk (bb BK244.out hb); replace BK245 := Aside0.mk (bb BK245.out hb); replace BK255 := Aside0.mk (blk_below (g := gb255) (o := .cells #[.int .i64 a0_0, .slice Ao40 y252.length co40] 36 (0, 0)) (by (with_reducible repeat (first | refine blk_drewN ?_ _ | refine blk_drew ?_ | refine blk_alloc ?_ _)); refine blk_put (cs := #[.int .i64 a0_0, .slice none 0 0]) ?_ 1 _ rfl; (with_reducible repeat (first | refine blk_drewN ?_ _ | refine blk_drew ?_ | refine blk_alloc ?_ _)); refine blk_put (cs := #[.int .i64 0, .slice none 0 0]) ?_ 0 _ rfl; (with_reducible repeat (first | refine blk_drewN ?_ _ | refine blk_drew ?_ | refine blk_alloc ?_ _)); exact BK255.out) hb); replace HB := Aside0.mk (below_step bel hb); (try clear hb)))
      replace HO251 := Aside0.mk (Kd.R_drew HO251.out)
      replace HO254 := Aside0.mk (Kd.R_drew HO254.out)
      replace BK244 := Aside0.mk (blk_drew BK244.out)
      replace BK245 := Aside0.mk (blk_drew BK245.out)
      replace BK255 := Aside0.mk (blk_drew BK255.out)
      replace HB := Aside0.mk (below_drew1 HB.out)
      refine start_ (n := 8) (S := fun w' => w'.cell? ⟨gb244, 0, none⟩ = some (.int .i64 a0_0) ∧ w'.cell? ⟨gb244, 1, none⟩ = some (.slice A0_1 l0_1.length c0_1)) (ds := []) #[false, false, false, false, false, false, false, false] (by kernel_rfl) rfl rfl ⟨(blk_cell BK244.out 0).trans rfl, (blk_cell BK244.out 1).trans rfl⟩ (fun hHeld => ?_); refine with_tabW impl_WinGame.tab3 impl_WinGame.bits3 (fun HT_ HW_ => ?_)
      generalize w46.drew = w47 at HO251 HO254 BK244 BK245 BK255 HB hHeld ⊢
      refine pure_ (i := 0) (N := some 19) (v := ?_) (a' := ?_) #[true, false, false, false, false, false, false, false] rfl rfl (any_of HT_.out (by kernel_rfl)) (fun _ _ _ h => h) (Or.inl ⟨by rfl, ?_⟩) ?_ ?_
      rotate_left
      · intro w'
        go_simp
        with_reducible rfl
      rotate_left
      · simp only [Act.put, List.setIfInBounds_toArray, List.set_cons_zero, List.set_cons_succ, i64_w, i32_w]
        rfl
      refine pure_ (i := 2) (N := some 21) (v := ?_) (a' := ?_) #[true, false, true, false, false, false, false, false] rfl rfl (any_of HT_.out (by kernel_rfl)) (fun _ _ _ h => h) (Or.inl ⟨by rfl, ?_⟩) ?_ ?_
      rotate_left
      · intro w'
        go_simp
        with_reducible rfl
      rotate_left
      · simp only [Act.put, List.setIfInBounds_toArray, List.set_cons_zero, List.set_cons_succ, i64_w, i32_w]
        rfl
      refine take_ (i := 1) (N := some 20) (v := ?_) (a' := ?_) #[true, true, true, false, false, false, false, false] rfl rfl (take_ofW HT_.out HW_.out (by kernel_rfl)) (fun _ _ _ h => h) (Or.inl ⟨by rfl, ?_⟩) hHeld ?_ ?_
      rotate_left
      · rintro w' ⟨s0, s1⟩
        go_simp
        with_reducible rfl
      rotate_left
      · simp only [Act.put, List.setIfInBounds_toArray, List.set_cons_zero, List.set_cons_succ, i64_w, i32_w]
        rfl
      refine take_ (i := 3) (N := some 22) (v := ?_) (a' := ?_) #[true, true, true, true, false, false, false, false] rfl rfl (take_ofW HT_.out HW_.out (by kernel_rfl)) (fun _ _ _ h => h) (Or.inl ⟨by rfl, ?_⟩) hHeld ?_ ?_
      rotate_left
      · rintro w' ⟨s0, s1⟩
        go_simp
        with_reducible rfl
      rotate_left
      · simp only [Act.put, List.setIfInBounds_toArray, List.set_cons_zero, List.set_cons_succ, i64_w, i32_w]
        rfl
      refine one_ (i := 4) (N := some 23) #[true, true, true, true, true, false, false, false] rfl rfl (one_of HT_.out (by kernel_rfl)) (by decide) (fun K hK => ?_)
      refine goes_ Try.func53 (by kernel_rfl) rfl #[.slice A0_1 l0_1.length c0_1] (by rfl) rfl rfl ga ?_
      with_reducible refine (slices_Clone_int_int.calls _ _ l0_1 t257 _ ?side1 ?side2 A28.out).mono ?_
      (case side1 => exact ck (Kd.C_below HR0_1.out HB.out))
      (case side2 => exact HC0_1.out)
      rintro e w48 ⟨v258, rfl, ho0, hb⟩
      refine ⟨_, rfl, ?_⟩
      have HO259 := Aside0.mk (Kd.R_lower (Kd.R_new' (Kd.R_new' ho0 (Kd.R_lt (rk HO251.out))) (Kd.R_lt (rk HO254.out))) (below_size bel))
      replace HO251 := Aside0.mk (Kd.R_elder' (rk HO251.out) (Kd.R_base ho0) hb)
      replace HO254 := Aside0.mk (Kd.R_elder' (rk HO254.out) (Kd.R_base ho0) hb)
      replace BK244 := Aside0.mk (bb BK244.out hb)
      replace BK245 := Aside0.mk (bb BK245.out hb)
      replace BK255 := Aside0.mk (bb BK255.out hb)
      replace HB := Aside0.mk (below_step bel hb)
      (try clear hb)
      (try clear hb2)
      (try clear hk)
      (try clear hi)
      (try clear ho0)
      obtain ⟨Ao49, co49, eo49⟩ := Kd.R_slice HO259.out
      (first | subst eo49 | (injection eo49 with f1_ f2_ f3_; have f4_ := f1_.symm; have f5_ := f3_.symm; clear f1_ f2_ f3_; subst f4_; subst f5_))
      refine hK.out _ _ ⟨(blk_cell BK244.out 0).trans rfl, (blk_cell BK244.out 1).trans rfl⟩ (fun hHeld => ?_)
      clear hK K
      refine norm_ (a' := ?_) ?_ ?_
      rotate_left
      · show Act.put _ (some 23) _ = _
        simp only [Act.put, List.setIfInBounds_toArray, List.set_cons_zero, List.set_cons_succ, i64_w, i32_w]
        rfl
      refine pure_ (i := 5) (N := some 24) (v := ?_) (a' := ?_) #[true, true, true, true, true, true, false, false] rfl rfl (any_of HT_.out (by kernel_rfl)) (fun _ _ _ h => h) (Or.inl ⟨by rfl, ?_⟩) ?_ ?_
      rotate_left
      · intro w'
        go_simp
        with_reducible rfl
      rotate_left
      · simp only [Act.put, List.setIfInBounds_toArray, List.set_cons_zero, List.set_cons_succ, i64_w, i32_w]
        rfl
      refine one_ (i := 6) (N := none) #[true, true, true, true, true, true, true, false] rfl rfl (one_of HT_.out (by kernel_rfl)) (by decide) (fun K hK => ?_)
      have hs50 : w48.cell? ⟨gb245, 0, none⟩ = some (.int .i64 0) := (blk_cell BK245.out 0).trans rfl
      have hfs50 := blk_frozen BK245.out 0
      have hns50_0 := NB244_245.out
      have hns50_2 := NB255_245.out
      have hms50_0 := NB245_244.out
      have hms50_2 := NB245_255.out
      have hs51 : w48.cell? ⟨gb245, 1, none⟩ = some (.slice none 0 0) := (blk_cell BK245.out 1).trans rfl
      have hfs51 := blk_frozen BK245.out 1
      have hns51_0 := NB244_245.out
      have hns51_2 := NB255_245.out
      have hms51_0 := NB245_244.out
      have hms51_2 := NB245_255.out
      refine skip_ (w1 := ?_) (by rfl) rfl ?_ ?_
      rotate_left
      · go_simp
        rfl
      refine hK.out _ _ ⟨((cell_far (p := ⟨gb245, _, none⟩) NB244_245.out _).trans (((cell_far (p := ⟨gb245, _, none⟩) NB244_245.out _).trans (hHeld.1)))), ((cell_far (p := ⟨gb245, _, none⟩) NB244_245.out _).trans (((cell_far (p := ⟨gb245, _, none⟩) NB244_245.out _).trans (hHeld.2))))⟩ (fun hHeld => ?_)
      clear hK K
      refine pure_ (i := 7) (N := some 5) (v := ?_) (a' := ?_) #[true, true, true, true, true, true, true, true] rfl rfl (any_of HT_.out (by kernel_rfl)) (fun _ _ _ h => h) (Or.inl ⟨by rfl, ?_⟩) ?_ ?_
      rotate_left
      · intro w'
        go_simp
        with_reducible rfl
      rotate_left
      · simp only [Act.put, List.setIfInBounds_toArray, List.set_cons_zero, List.set_cons_succ, i64_w, i32_w]
        rfl
      refine done_ (done_of HT_.out (by kernel_rfl)) ?_
      try go_wp2
      refine bodyPost_ret (results_ct rfl _ _ gb245 36 #[.int .i64 a0_0, .slice Ao49 t257.length co49] (0, 0) _ rfl (by (with_reducible repeat (first | refine blk_drewN ?_ _ | refine blk_drew ?_ | refine blk_alloc ?_ _)); refine blk_put (cs := #[.int .i64 a0_0, .slice none 0 0]) ?_ 1 _ rfl; (with_reducible repeat (first | refine blk_drewN ?_ _ | refine blk_drew ?_ | refine blk_alloc ?_ _)); refine blk_put (cs := #[.int .i64 0, .slice none 0 0]) ?_ 0 _ rfl; (with_reducible repeat (first | refine blk_drewN ?_ _ | refine blk_drew ?_ | refine blk_alloc ?_ _)); exact BK245.out) Try.underlying36 rfl (by kernel_rfl)) rfl ?_
      exact ⟨_, er, by (with_reducible repeat (first | apply Kd.R_alloc | apply Kd.R_drewN | apply Kd.R_drew)); exact Kd.R_mono (Kd.R_far (p := ⟨gb245, 1, none⟩) (Kd.R_far (p := ⟨gb245, 0, none⟩) (Kd.R_types HO259.out BK245.out (by decide)) (fun _ hk => hk.2) (.int .i64 a0_0)) (fun _ hk => hk.2) (.slice Ao49 t257.length co49)) (fun _ hk => trivial), bel⟩
  · rw [if_neg c4] at H
    exact absurd H (by simp)

end Go.Proofs.Ytpacmpppiphfjaa.X
