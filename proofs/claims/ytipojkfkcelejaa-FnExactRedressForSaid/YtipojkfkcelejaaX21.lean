-- Written by a program of this session (wip/xp.py, over the kit's print) out of the translation: functions, and the walks that show them.
import Derived.Test.YtipojkfkcelejaaX0
import Derived.Test.YtipojkfkcelejaaX3
import Derived.Test.YtipojkfkcelejaaX17
namespace Go.Proofs.Ytipojkfkcelejaa.X
open Go.RowKit Go.Proofs.YtipojkfkcelejaaW.PrintWords Go.Proofs.YtipojkfkcelejaaW.PrintLast Go.Proofs.YtipojkfkcelejaaW.PrintMore
attribute [local go_sem] max2_int min2_int max_two min_two max_three min_three max_four min_four   -- for this text's walks alone
set_option linter.unusedVariables false
set_option linter.unusedSimpArgs false

/-! ### impl_RedressFor: function 20 -/
mutual
def impl_RedressFor.j0 : Nat → Int → Int → Bool → Int → List (List Int) → Int → Option (Int)
  | 0, _, _, _, _, _, _ => none
  | k + 1, x1, x2, x30, x335000, x335001, x335002 => if x30 = true then (some 0) else (if (wrap64 ((x335001.length : Int) - 1)) = 0 then (some (wrap64 (x335000 + 1))) else (impl_RedressFor.l0 k x1 x2 (wrap64 ((x335001.length : Int) - 1)) 0 x335001 (x335001.length : Int) 0))
def impl_RedressFor.l0 : Nat → Int → Int → Int → Int → List (List Int) → Int → Int → Option (Int)
  | 0, _, _, _, _, _, _, _ => none
  | k + 1, x1, x2, x7, x8, x41, x42, x43 => if x43 < x42 then (if 0 ≤ x43 then (if x43 < (x41.length : Int) then (if x43 = x2 then (impl_RedressFor.l0 k x1 x2 x7 x8 x41 x42 (wrap64 (x43 + 1))) else (if 0 ≤ x1 then (if x1 < ((rd_L1 x41 x43).length : Int) then (impl_RedressFor.l0 k x1 x2 x7 (wrap64 (x8 + (rd (rd_L1 x41 x43) x1))) x41 x42 (wrap64 (x43 + 1))) else (none)) else (none))) else (none)) else (none)) else (if x7 = 0 then (none) else (some (wrap64 (Int.tdiv (wrap64 ((wrap64 (x8 + x7)) - 1)) x7))))
end
def impl_RedressFor.f (k : Nat) (a0_0 : Int) (l0_1 : List (List Int)) (a0_2 : Int) (a1 : Int) (a2 : Int) : Option (Int) := (impl_RegattaOk.f k a0_0 l0_1 a0_2).bind fun t335 => (if t335 = true then ((impl_within.f a1 0 (wrap64 (a0_0 - 1))).bind fun t336 => (if t336 = true then ((impl_within.f a2 0 (wrap64 ((l0_1.length : Int) - 1))).bind fun t337 => (impl_RedressFor.j0 k a1 a2 (!t337) a0_0 l0_1 a0_2)) else (impl_RedressFor.j0 k a1 a2 true a0_0 l0_1 a0_2))) else (impl_RedressFor.j0 k a1 a2 true a0_0 l0_1 a0_2))
theorem impl_RedressFor.mono_l : ∀ k, (∀ y0 y1 y2 y3 y4 y5, LeO (impl_RedressFor.j0 k y0 y1 y2 y3 y4 y5) (impl_RedressFor.j0 (k + 1) y0 y1 y2 y3 y4 y5)) ∧ (∀ y0 y1 y2 y3 y4 y5 y6, LeO (impl_RedressFor.l0 k y0 y1 y2 y3 y4 y5 y6) (impl_RedressFor.l0 (k + 1) y0 y1 y2 y3 y4 y5 y6))
  | 0 => ⟨fun _ _ _ _ _ _ r h => by simp [impl_RedressFor.j0] at h, fun _ _ _ _ _ _ _ r h => by simp [impl_RedressFor.l0] at h⟩
  | k + 1 => by
    obtain ⟨ih0, ih1⟩ := impl_RedressFor.mono_l k
    refine ⟨?_, ?_⟩
    · intro y0 y1 y2 y3 y4 y5
      unfold impl_RedressFor.j0
      repeat' first
      | (with_reducible exact ih0 _ _ _ _ _ _)
      | (with_reducible exact ih1 _ _ _ _ _ _ _)
      | (with_reducible exact impl_RegattaOk.mono _ _ _ _)
      | (with_reducible exact LeO.refl _)
      | (with_reducible exact LeO.none _)
      | (with_reducible refine LeO.ite ?_ ?_)
      | (with_reducible refine LeO.bind ?_ (fun _ => ?_))
      | exact ih0 _ _ _ _ _ _
      | exact ih1 _ _ _ _ _ _ _
      | exact impl_RegattaOk.mono _ _ _ _
      | exact LeO.none _
      | refine LeO.ite ?_ ?_
      | refine LeO.bind ?_ (fun _ => ?_)
    · intro y0 y1 y2 y3 y4 y5 y6
      unfold impl_RedressFor.l0
      repeat' first
      | (with_reducible exact ih0 _ _ _ _ _ _)
      | (with_reducible exact ih1 _ _ _ _ _ _ _)
      | (with_reducible exact impl_RegattaOk.mono _ _ _ _)
      | (with_reducible exact LeO.refl _)
      | (with_reducible exact LeO.none _)
      | (with_reducible refine LeO.ite ?_ ?_)
      | (with_reducible refine LeO.bind ?_ (fun _ => ?_))
      | exact ih0 _ _ _ _ _ _
      | exact ih1 _ _ _ _ _ _ _
      | exact impl_RegattaOk.mono _ _ _ _
      | exact LeO.none _
      | refine LeO.ite ?_ ?_
      | refine LeO.bind ?_ (fun _ => ?_)
theorem impl_RedressFor.mono : ∀ a0 a1 a2 a3 a4 k, LeO (impl_RedressFor.f k a0 a1 a2 a3 a4) (impl_RedressFor.f (k + 1) a0 a1 a2 a3 a4) := by
  intro a0 a1 a2 a3 a4 k
  obtain ⟨ih0, ih1⟩ := impl_RedressFor.mono_l k
  unfold impl_RedressFor.f
  repeat' first
      | (with_reducible exact ih0 _ _ _ _ _ _)
      | (with_reducible exact ih1 _ _ _ _ _ _ _)
      | (with_reducible exact impl_RegattaOk.mono _ _ _ _)
      | (with_reducible exact LeO.refl _)
      | (with_reducible exact LeO.none _)
      | (with_reducible refine LeO.ite ?_ ?_)
      | (with_reducible refine LeO.bind ?_ (fun _ => ?_))
      | exact ih0 _ _ _ _ _ _
      | exact ih1 _ _ _ _ _ _ _
      | exact impl_RegattaOk.mono _ _ _ _
      | exact LeO.none _
      | refine LeO.ite ?_ ?_
      | refine LeO.bind ?_ (fun _ => ?_)
set_option maxHeartbeats 8000000 in
set_option maxRecDepth 100000 in
theorem impl_RedressFor.calls (k : Nat) (a0_0 : Int) (A0_1 : Option Addr) (c0_1 : Nat) (l0_1 : List (List Int)) (a0_2 : Int) (a1 : Int) (a2 : Int) (r : Int) (w : World) (hr0_1 : Kd.C (Kd.slice 3 (Kd.int .i64)) w A0_1 l0_1.length l0_1) (hc0_1 : l0_1.length ≤ c0_1) (h : impl_RedressFor.f k a0_0 l0_1 a0_2 a1 a2 = some r) :
    Calls Try.prog 20 #[.agg #[.int .i64 a0_0, .slice A0_1 l0_1.length c0_1, .int .i64 a0_2], .int .i64 a1, .int .i64 a2] w fun e w' => e = .returned (.int .i64 r) ∧ Below w.heap.size w w' := by
  have hu31 := Try.underlying31
  have HR0_1 := Aside0.mk hr0_1
  have HC0_1 := Aside0.mk hc0_1
  clear hr0_1 hc0_1
  have HB := Aside0.mk (Below.refl w.heap.size w)
  have H : ((impl_RegattaOk.f k a0_0 l0_1 a0_2).bind fun t335 => (if t335 = true then ((impl_within.f a1 0 (wrap64 (a0_0 - 1))).bind fun t336 => (if t336 = true then ((impl_within.f a2 0 (wrap64 ((l0_1.length : Int) - 1))).bind fun t337 => (impl_RedressFor.j0 k a1 a2 (!t337) a0_0 l0_1 a0_2)) else (impl_RedressFor.j0 k a1 a2 true a0_0 l0_1 a0_2))) else (impl_RedressFor.j0 k a1 a2 true a0_0 l0_1 a0_2))) = some r := h
  clear h
  have HC4 := Aside0.mk H
  clear H
  go_enter Try.func20, Try.ntmps20
  go_upto_region 1 with (first | ((with_reducible refine gate_dst (N := 3) rfl ?_); refine box_event ?hg (N := 3) ?hd (cs := #[.int .i64 a0_0, .slice A0_1 l0_1.length c0_1, .int .i64 a0_2]) (t := 31) ?hr ?_; (case hd => rfl); (case hg => rfl); (case hr => first | (go_simp; done) | (go_simp; rfl)); intro gb334 hg w5 hbox hb; have BK334 := Aside0.mk (hbox); have GW334 := Aside0.mk ((bsz hg : w.heap.size ≤ gb334)); have GE334 := Aside0.mk ((bsz hg : w.heap.size ≤ gb334)); replace HB := Aside0.mk (below_step bel hb); clear hb hbox hg))
  (try simp only [Act.put, List.setIfInBounds_toArray, List.set_cons_zero, List.set_cons_succ])
  go_cut [30] (fun v30 wc => ∃ (kq : Nat) (x30_3 : Bool), v30 = .bool x30_3 ∧ Aside0 (impl_RedressFor.j0 kq a1 a2 x30_3 a0_0 l0_1 a0_2 = some r) ∧ Aside0 (kq ≤ k) ∧ Aside0 (wc.heap[gb334]? = some (.cells #[.int .i64 a0_0, (.slice A0_1 l0_1.length c0_1), .int .i64 a0_2] 31 (0, 0))) ∧ Aside0 (Below w.heap.size w wc))
  case first =>
    have H := HC4.out
    clear HC4
    replace H := Option.bind_eq_some_iff.mp H
    obtain ⟨t335, A60, H⟩ := H
    replace H : (if t335 = true then ((impl_within.f a1 0 (wrap64 (a0_0 - 1))).bind fun t336 => (if t336 = true then ((impl_within.f a2 0 (wrap64 ((l0_1.length : Int) - 1))).bind fun t337 => (impl_RedressFor.j0 k a1 a2 (!t337) a0_0 l0_1 a0_2)) else (impl_RedressFor.j0 k a1 a2 true a0_0 l0_1 a0_2))) else (impl_RedressFor.j0 k a1 a2 true a0_0 l0_1 a0_2)) = some r := H
    have A6 := Aside0.mk A60
    clear A60
    by_cases c7 : t335 = true
    · subst c7
      have H1 : ((impl_within.f a1 0 (wrap64 (a0_0 - 1))).bind fun t336 => (if t336 = true then ((impl_within.f a2 0 (wrap64 ((l0_1.length : Int) - 1))).bind fun t337 => (impl_RedressFor.j0 k a1 a2 (!t337) a0_0 l0_1 a0_2)) else (impl_RedressFor.j0 k a1 a2 true a0_0 l0_1 a0_2))) = some r := by rw [if_pos rfl] at H; exact H
      clear H
      have H := H1
      clear H1
      replace H := Option.bind_eq_some_iff.mp H
      obtain ⟨t336, A80, H⟩ := H
      replace H : (if t336 = true then ((impl_within.f a2 0 (wrap64 ((l0_1.length : Int) - 1))).bind fun t337 => (impl_RedressFor.j0 k a1 a2 (!t337) a0_0 l0_1 a0_2)) else (impl_RedressFor.j0 k a1 a2 true a0_0 l0_1 a0_2)) = some r := H
      have A8 := Aside0.mk A80
      clear A80
      by_cases c9 : t336 = true
      · subst c9
        have H1 : ((impl_within.f a2 0 (wrap64 ((l0_1.length : Int) - 1))).bind fun t337 => (impl_RedressFor.j0 k a1 a2 (!t337) a0_0 l0_1 a0_2)) = some r := by rw [if_pos rfl] at H; exact H
        clear H
        have H := H1
        clear H1
        replace H := Option.bind_eq_some_iff.mp H
        obtain ⟨t337, A100, H⟩ := H
        replace H : (impl_RedressFor.j0 k a1 a2 (!t337) a0_0 l0_1 a0_2) = some r := H
        have A10 := Aside0.mk A100
        clear A100
        have H' := Aside0.mk H
        clear H
        obtain ⟨hcz11_0, hcz11_1, hcz11_2, hfz11_0, hfz11_1, hfz11_2⟩ := cf3 BK334.out
        go_wp2_with (first | ((with_reducible refine gate_callee (f := 17) rfl ?_); refine goesL_ (some 12) rfl rfl Try.func17 (by kernel_rfl) rfl #[.agg #[.int .i64 a0_0, .slice A0_1 l0_1.length c0_1, .int .i64 a0_2]] rfl ga ?_; (with_reducible refine (impl_RegattaOk.calls k a0_0 _ _ l0_1 a0_2 true _ ?side1 ?side2 A6.out).mono ?_); (case side1 => exact ck (Kd.C_below HR0_1.out HB.out)); (case side2 => exact HC0_1.out); rintro e w12 ⟨rfl, hb⟩; refine ⟨_, rfl, ?_⟩; replace BK334 := Aside0.mk (bb BK334.out hb); replace HB := Aside0.mk (below_step bel hb); (try clear hb); obtain ⟨hcz13_0, hcz13_1, hcz13_2, hfz13_0, hfz13_1, hfz13_2⟩ := cf3 BK334.out) | (go_at_call 34; (with_reducible refine (impl_within.calls a1 0 (wrap64 (a0_0 - 1)) true _ A8.out).mono ?_); rintro e w' ⟨rfl, ⟨nd, rfl⟩⟩) | (go_at_call 34; (with_reducible refine (impl_within.calls a2 0 (wrap64 ((l0_1.length : Int) - 1)) t337 _ A10.out).mono ?_); rintro e w' ⟨rfl, ⟨nd, rfl⟩⟩))
        go_meet
        case rel => exact ⟨_, (!t337), (es), H', ⟨by first | omega | exact Nat.le_refl _⟩, ⟨bk BK334.out⟩, ⟨bel⟩⟩
      · replace c9 := Bool.eq_false_iff.mpr c9
        subst c9
        have H1 : (impl_RedressFor.j0 k a1 a2 true a0_0 l0_1 a0_2) = some r := by rw [if_neg (show ¬ (false = true) by decide)] at H; exact H
        clear H
        have H := H1
        clear H1
        have H' := Aside0.mk H
        clear H
        obtain ⟨hcz14_0, hcz14_1, hcz14_2, hfz14_0, hfz14_1, hfz14_2⟩ := cf3 BK334.out
        go_wp2_with (first | ((with_reducible refine gate_callee (f := 17) rfl ?_); refine goesL_ (some 12) rfl rfl Try.func17 (by kernel_rfl) rfl #[.agg #[.int .i64 a0_0, .slice A0_1 l0_1.length c0_1, .int .i64 a0_2]] rfl ga ?_; (with_reducible refine (impl_RegattaOk.calls k a0_0 _ _ l0_1 a0_2 true _ ?side1 ?side2 A6.out).mono ?_); (case side1 => exact ck (Kd.C_below HR0_1.out HB.out)); (case side2 => exact HC0_1.out); rintro e w15 ⟨rfl, hb⟩; refine ⟨_, rfl, ?_⟩; replace BK334 := Aside0.mk (bb BK334.out hb); replace HB := Aside0.mk (below_step bel hb); (try clear hb); obtain ⟨hcz16_0, hcz16_1, hcz16_2, hfz16_0, hfz16_1, hfz16_2⟩ := cf3 BK334.out) | (go_at_call 34; (with_reducible refine (impl_within.calls a1 0 (wrap64 (a0_0 - 1)) false _ A8.out).mono ?_); rintro e w' ⟨rfl, ⟨nd, rfl⟩⟩))
        go_meet
        case rel => exact ⟨_, (true), (es), H', ⟨by first | omega | exact Nat.le_refl _⟩, ⟨bk BK334.out⟩, ⟨bel⟩⟩
    · replace c7 := Bool.eq_false_iff.mpr c7
      subst c7
      have H1 : (impl_RedressFor.j0 k a1 a2 true a0_0 l0_1 a0_2) = some r := by rw [if_neg (show ¬ (false = true) by decide)] at H; exact H
      clear H
      have H := H1
      clear H1
      have H' := Aside0.mk H
      clear H
      obtain ⟨hcz17_0, hcz17_1, hcz17_2, hfz17_0, hfz17_1, hfz17_2⟩ := cf3 BK334.out
      go_wp2_with (first | ((with_reducible refine gate_callee (f := 17) rfl ?_); refine goesL_ (some 12) rfl rfl Try.func17 (by kernel_rfl) rfl #[.agg #[.int .i64 a0_0, .slice A0_1 l0_1.length c0_1, .int .i64 a0_2]] rfl ga ?_; (with_reducible refine (impl_RegattaOk.calls k a0_0 _ _ l0_1 a0_2 false _ ?side1 ?side2 A6.out).mono ?_); (case side1 => exact ck (Kd.C_below HR0_1.out HB.out)); (case side2 => exact HC0_1.out); rintro e w18 ⟨rfl, hb⟩; refine ⟨_, rfl, ?_⟩; replace BK334 := Aside0.mk (bb BK334.out hb); replace HB := Aside0.mk (below_step bel hb); (try clear hb)))
      go_meet
      case rel => exact ⟨_, (true), (es), H', ⟨by first | omega | exact Nat.le_refl _⟩, ⟨bk BK334.out⟩, ⟨bel⟩⟩
  case rest =>
    clear HC4
    try clear c1; try clear c2; try clear p2; try clear p6; try clear c7; try clear c9; try clear c17; try clear hcz11_0; try clear hcz11_1; try clear hcz11_2; try clear hcz13_0; try clear hcz13_1; try clear hcz13_2; try clear hcz14_0; try clear hcz14_1; try clear hcz14_2; try clear hcz16_0; try clear hcz16_1; try clear hcz16_2; try clear hcz17_0; try clear hcz17_1; try clear hcz17_2; try clear hfz11_0; try clear hfz11_1; try clear hfz11_2; try clear hfz13_0; try clear hfz13_1; try clear hfz13_2; try clear hfz14_0; try clear hfz14_1; try clear hfz14_2; try clear hfz16_0; try clear hfz16_1; try clear hfz16_2; try clear hfz17_0; try clear hfz17_1; try clear hfz17_2
    obtain ⟨kq, x30_3, rfl, HA, HJ3, BK334, HB⟩ := hcut
    cases kq with
    | zero => exact absurd HA.out (by simp [impl_RedressFor.j0])
    | succ kj3 =>
      have H := HA.out
      clear HA
      simp only [impl_RedressFor.j0] at H
      by_cases c19 : x30_3 = true
      · subst c19
        have H1 : (some 0) = some r := by rw [if_pos rfl] at H; exact H
        clear H
        have H := H1
        clear H1
        obtain rfl := Option.some.inj H
        go_wp2
        go_ret
        exact ⟨er, bel⟩
      · replace c19 := Bool.eq_false_iff.mpr c19
        subst c19
        have H1 : (if (wrap64 ((l0_1.length : Int) - 1)) = 0 then (some (wrap64 (a0_0 + 1))) else (impl_RedressFor.l0 kj3 a1 a2 (wrap64 ((l0_1.length : Int) - 1)) 0 l0_1 (l0_1.length : Int) 0)) = some r := by rw [if_neg (show ¬ (false = true) by decide)] at H; exact H
        clear H
        have H := H1
        clear H1
        by_cases c20 : (wrap64 ((l0_1.length : Int) - 1)) = 0
        · rw [if_pos c20] at H
          have c20b0 : ((wrap64 ((l0_1.length : Int) - 1)) == 0) = true := beq_iff_eq.mpr c20
          have c20b1 : ((wrap64 ((l0_1.length : Int) - 1)) != 0) = false := bne_eq_false_iff_eq.mpr c20
          clear c20
          obtain rfl := Option.some.inj H
          obtain ⟨hcz21_0, hcz21_1, hcz21_2, hfz21_0, hfz21_1, hfz21_2⟩ := cf3 BK334.out
          go_wp2
          go_ret
          exact ⟨er, bel⟩
        · rw [if_neg c20] at H
          have c20b0 : ((wrap64 ((l0_1.length : Int) - 1)) == 0) = false := beq_eq_false_iff_ne.mpr c20
          have c20b1 : ((wrap64 ((l0_1.length : Int) - 1)) != 0) = true := bne_iff_ne.mpr c20
          have H' := Aside0.mk H
          clear H
          obtain ⟨hcz22_0, hcz22_1, hcz22_2, hfz22_0, hfz22_1, hfz22_2⟩ := cf3 BK334.out
          go_wp2
          go_loopg [8, 43] kj3 (fun kq v8 v43 w' => ∃ (x8_2 : Int) (x43_2 : Int), v8 = .int .i64 x8_2 ∧ v43 = .int .i64 x43_2 ∧ Aside0 (impl_RedressFor.l0 kq a1 a2 (wrap64 ((l0_1.length : Int) - 1)) x8_2 l0_1 (l0_1.length : Int) x43_2 = some r) ∧ Aside0 (kq ≤ kj3) ∧ Aside0 (w'.heap[gb334]? = some (.cells #[.int .i64 a0_0, (.slice A0_1 l0_1.length c0_1), .int .i64 a0_2] 31 (0, 0))) ∧ Aside0 (Below w.heap.size w w'))
          case atStart => exact ⟨(0), (0), (es), (es), H', ⟨Nat.le_refl _⟩, ⟨bk BK334.out⟩, ⟨bel⟩⟩
          case round =>
            clear H'
            try clear c1; try clear c2; try clear p2; try clear p6; try clear c7; try clear c9; try clear c17; try clear c19; try clear c20; try clear c20b0; try clear c20b1; try clear hcz11_0; try clear hcz11_1; try clear hcz11_2; try clear hcz13_0; try clear hcz13_1; try clear hcz13_2; try clear hcz14_0; try clear hcz14_1; try clear hcz14_2; try clear hcz16_0; try clear hcz16_1; try clear hcz16_2; try clear hcz17_0; try clear hcz17_1; try clear hcz17_2; try clear hcz21_0; try clear hcz21_1; try clear hcz21_2; try clear hcz22_0; try clear hcz22_1; try clear hcz22_2; try clear hfz11_0; try clear hfz11_1; try clear hfz11_2; try clear hfz13_0; try clear hfz13_1; try clear hfz13_2; try clear hfz14_0; try clear hfz14_1; try clear hfz14_2; try clear hfz16_0; try clear hfz16_1; try clear hfz16_2; try clear hfz17_0; try clear hfz17_1; try clear hfz17_2; try clear hfz21_0; try clear hfz21_1; try clear hfz21_2; try clear hfz22_0; try clear hfz22_1; try clear hfz22_2; try clear p2; try clear p6
            obtain ⟨x8_2, x43_2, rfl, rfl, HA, HK2, BK334, HB⟩ := hrel
            cases gk with
            | zero => exact absurd HA.out (by simp [impl_RedressFor.l0])
            | succ k2 =>
              have H := HA.out
              clear HA
              simp only [impl_RedressFor.l0] at H
              by_cases c23 : x43_2 < (l0_1.length : Int)
              · rw [if_pos c23] at H
                have c23b0 : decide (x43_2 < (l0_1.length : Int)) = true := decide_eq_true c23
                clear c23
                by_cases c24 : 0 ≤ x43_2
                · rw [if_pos c24] at H
                  have c24b0 : decide (0 ≤ x43_2) = true := decide_eq_true c24
                  clear c24
                  by_cases c25 : x43_2 < (l0_1.length : Int)
                  · rw [if_pos c25] at H
                    have c25b0 : decide (x43_2 < (l0_1.length : Int)) = true := decide_eq_true c25
                    clear c25
                    by_cases c26 : x43_2 = a2
                    · rw [if_pos c26] at H
                      have c26b0 : (x43_2 == a2) = true := beq_iff_eq.mpr c26
                      have c26b1 : (x43_2 != a2) = false := bne_eq_false_iff_eq.mpr c26
                      clear c26
                      have H' := Aside0.mk H
                      clear H
                      have p338 : 0 ≤ (x43_2 : Int) := asm
                      have q338 : x43_2 < (l0_1.length : Int) := asm
                      obtain ⟨ad338, A338_0, c338_0, e338, hx338_0, hl338_0, hi338_0⟩ := at_L1 HR0_1.out x43_2 p338 q338
                      cases e338
                      replace hx338_0 := hcl HB.out hx338_0
                      have HR338_0 := Aside0.mk hi338_0
                      have HC338_0 := Aside0.mk hl338_0
                      clear hi338_0 hl338_0
                      replace p338 := eq_true p338
                      replace q338 := eq_true q338
                      go_wp2
                      go_roundg k2
                      case measure => have := HJ3.out; have := HK2.out; omega
                      case rel => exact ⟨(x8_2), (wrap64 (x43_2 + 1)), (es), (es), H', ⟨by have := HJ3.out; have := HK2.out; omega⟩, ⟨bk BK334.out⟩, ⟨bel⟩⟩
                    · rw [if_neg c26] at H
                      have c26b0 : (x43_2 == a2) = false := beq_eq_false_iff_ne.mpr c26
                      have c26b1 : (x43_2 != a2) = true := bne_iff_ne.mpr c26
                      by_cases c27 : 0 ≤ a1
                      · rw [if_pos c27] at H
                        have c27b0 : decide (0 ≤ a1) = true := decide_eq_true c27
                        clear c27
                        by_cases c28 : a1 < ((rd_L1 l0_1 x43_2).length : Int)
                        · rw [if_pos c28] at H
                          have c28b0 : decide (a1 < ((rd_L1 l0_1 x43_2).length : Int)) = true := decide_eq_true c28
                          clear c28
                          have H' := Aside0.mk H
                          clear H
                          have p338 : 0 ≤ (x43_2 : Int) := asm
                          have q338 : x43_2 < (l0_1.length : Int) := asm
                          obtain ⟨ad338, A338_0, c338_0, e338, hx338_0, hl338_0, hi338_0⟩ := at_L1 HR0_1.out x43_2 p338 q338
                          cases e338
                          replace hx338_0 := hcl HB.out hx338_0
                          have HR338_0 := Aside0.mk hi338_0
                          have HC338_0 := Aside0.mk hl338_0
                          clear hi338_0 hl338_0
                          replace p338 := eq_true p338
                          replace q338 := eq_true q338
                          have p339 : 0 ≤ (a1 : Int) := asm
                          have q339 : a1 < ((rd_L1 l0_1 x43_2).length : Int) := asm
                          obtain ⟨ad339, e339, hx339_0⟩ := Kd.at_int HR338_0.out a1 p339 q339
                          cases e339
                          replace hx339_0 := hcl HB.out hx339_0
                          replace p339 := eq_true p339
                          replace q339 := eq_true q339
                          go_wp2
                          go_roundg k2
                          case measure => have := HJ3.out; have := HK2.out; omega
                          case rel => exact ⟨(wrap64 (x8_2 + (rd (rd_L1 l0_1 x43_2) a1))), (wrap64 (x43_2 + 1)), (es), (es), H', ⟨by have := HJ3.out; have := HK2.out; omega⟩, ⟨bk BK334.out⟩, ⟨bel⟩⟩
                        · rw [if_neg c28] at H
                          exact absurd H (by simp)
                      · rw [if_neg c27] at H
                        exact absurd H (by simp)
                  · rw [if_neg c25] at H
                    exact absurd H (by simp)
                · rw [if_neg c24] at H
                  exact absurd H (by simp)
              · rw [if_neg c23] at H
                have c23b0 : decide (x43_2 < (l0_1.length : Int)) = false := decide_eq_false c23
                clear c23
                by_cases c29 : (wrap64 ((l0_1.length : Int) - 1)) = 0
                · rw [if_pos c29] at H
                  exact absurd H (by simp)
                · rw [if_neg c29] at H
                  have c29b0 : ((wrap64 ((l0_1.length : Int) - 1)) == 0) = false := beq_eq_false_iff_ne.mpr c29
                  have c29b1 : ((wrap64 ((l0_1.length : Int) - 1)) != 0) = true := bne_iff_ne.mpr c29
                  obtain rfl := Option.some.inj H
                  go_wp2
                  go_ret
                  exact ⟨er, bel⟩

end Go.Proofs.Ytipojkfkcelejaa.X
