-- Written by a program of this session (wip/xp.py, over the kit's print) out of the translation: functions, and the walks that show them.
import Derived.Test.YteaemblallbgpaaX0
namespace Go.Proofs.Yteaemblallbgpaa.X
open Go.RowKit Go.Proofs.YteaemblallbgpaaW.PrintWords Go.Proofs.YteaemblallbgpaaW.PrintLast Go.Proofs.YteaemblallbgpaaW.PrintMore
attribute [local go_sem] max2_int min2_int max_two min_two max_three min_three max_four min_four   -- for this text's walks alone
set_option linter.unusedVariables false
set_option linter.unusedSimpArgs false

/-! ### impl_FlowValue: function 18 -/
def impl_FlowValue.l0 : Nat → Int → List Int → Int → Int → Int → Int → List (S60) → Option (Int)
  | 0, _, _, _, _, _, _, _ => none
  | k + 1, x1, x2, x7, x14, x15, x172000, x172001 => if x15 < x14 then (if 0 ≤ x15 then (if x15 < (x172001.length : Int) then (if ((rd_T60 x172001 x15).f0) = x1 then (if x15 < (x2.length : Int) then (if ((rd_T60 x172001 x15).f1) = x1 then (impl_FlowValue.l0 k x1 x2 (wrap64 ((wrap64 (x7 + (rd x2 x15))) - (rd x2 x15))) x14 (wrap64 (x15 + 1)) x172000 x172001) else (impl_FlowValue.l0 k x1 x2 (wrap64 (x7 + (rd x2 x15))) x14 (wrap64 (x15 + 1)) x172000 x172001)) else (none)) else (if ((rd_T60 x172001 x15).f1) = x1 then (if x15 < (x2.length : Int) then (impl_FlowValue.l0 k x1 x2 (wrap64 (x7 - (rd x2 x15))) x14 (wrap64 (x15 + 1)) x172000 x172001) else (none)) else (impl_FlowValue.l0 k x1 x2 x7 x14 (wrap64 (x15 + 1)) x172000 x172001))) else (none)) else (none)) else (some x7)
def impl_FlowValue.f (k : Nat) (a0_0 : Int) (l0_1 : List (S60)) (a1 : Int) (l2 : List Int) : Option (Int) := impl_FlowValue.l0 k a1 l2 0 (mn (l0_1.length : Int) (l2.length : Int)) 0 a0_0 l0_1
theorem impl_FlowValue.mono_l : ∀ k, (∀ y0 y1 y2 y3 y4 y5 y6, LeO (impl_FlowValue.l0 k y0 y1 y2 y3 y4 y5 y6) (impl_FlowValue.l0 (k + 1) y0 y1 y2 y3 y4 y5 y6))
  | 0 => fun _ _ _ _ _ _ _ r h => by simp [impl_FlowValue.l0] at h
  | k + 1 => by
    have ih0 := impl_FlowValue.mono_l k
    · intro y0 y1 y2 y3 y4 y5 y6
      unfold impl_FlowValue.l0
      repeat' first
      | (with_reducible exact ih0 _ _ _ _ _ _ _)
      | (with_reducible exact LeO.refl _)
      | (with_reducible exact LeO.none _)
      | (with_reducible refine LeO.ite ?_ ?_)
      | (with_reducible refine LeO.bind ?_ (fun _ => ?_))
      | exact ih0 _ _ _ _ _ _ _
      | exact LeO.none _
      | refine LeO.ite ?_ ?_
      | refine LeO.bind ?_ (fun _ => ?_)
theorem impl_FlowValue.mono : ∀ a0 a1 a2 a3 k, LeO (impl_FlowValue.f k a0 a1 a2 a3) (impl_FlowValue.f (k + 1) a0 a1 a2 a3) := by
  intro a0 a1 a2 a3 k
  have ih0 := impl_FlowValue.mono_l k
  unfold impl_FlowValue.f
  repeat' first
      | (with_reducible exact ih0 _ _ _ _ _ _ _)
      | (with_reducible exact LeO.refl _)
      | (with_reducible exact LeO.none _)
      | (with_reducible refine LeO.ite ?_ ?_)
      | (with_reducible refine LeO.bind ?_ (fun _ => ?_))
      | exact ih0 _ _ _ _ _ _ _
      | exact LeO.none _
      | refine LeO.ite ?_ ?_
      | refine LeO.bind ?_ (fun _ => ?_)
set_option maxHeartbeats 8000000 in
set_option maxRecDepth 100000 in
theorem impl_FlowValue.calls (k : Nat) (a0_0 : Int) (A0_1 : Option Addr) (c0_1 : Nat) (l0_1 : List (S60)) (a1 : Int) (A2 : Option Addr) (c2 : Nat) (l2 : List Int) (r : Int) (w : World) (hr0_1 : Kd.C k60 w A0_1 l0_1.length l0_1) (hc0_1 : l0_1.length ≤ c0_1) (hr2 : Kd.C (Kd.int .i64) w A2 l2.length l2) (hc2 : l2.length ≤ c2) (h : impl_FlowValue.f k a0_0 l0_1 a1 l2 = some r) :
    Calls Try.prog 18 #[.agg #[.int .i64 a0_0, .slice A0_1 l0_1.length c0_1], .int .i64 a1, .slice A2 l2.length c2] w fun e w' => e = .returned (.int .i64 r) ∧ Below w.heap.size w w' := by
  have hu29 := Try.underlying29
  have HR0_1 := Aside0.mk hr0_1
  have HC0_1 := Aside0.mk hc0_1
  clear hr0_1 hc0_1
  have HR2 := Aside0.mk hr2
  have HC2 := Aside0.mk hc2
  clear hr2 hc2
  have HB := Aside0.mk (Below.refl w.heap.size w)
  have H : (impl_FlowValue.l0 k a1 l2 0 (mn (l0_1.length : Int) (l2.length : Int)) 0 a0_0 l0_1) = some r := h
  clear h
  obtain ⟨ji4, hji4⟩ : ∃ j_ : Int, (mn (l0_1.length : Int) (l2.length : Int)) = j_ := ⟨_, rfl⟩
  replace H : (impl_FlowValue.l0 k a1 l2 0 ji4 0 a0_0 l0_1) = some r := by first | (rw [hji4] at H; exact H) | (simp only [hji4] at H ⊢; exact H)
  (try (have hji4l : 0 ≤ ji4 := by (rw [← hji4]; unfold mn; (repeat' split) <;> omega)))
  (try (have hji4m : 0 ≤ ji4 := by omega))
  have hji4_ : (if (l2.length : Int) < (l0_1.length : Int) then (l2.length : Int) else (l0_1.length : Int)) = ji4 := hji4
  (try have hji4n : (if l2.length < l0_1.length then (l2.length : Int) else (l0_1.length : Int)) = ji4 := by simpa only [Int.ofNat_lt] using hji4_)
  have H' := Aside0.mk H
  clear H
  go_enter Try.func18, Try.ntmps18
  go_wp2_with (first | ((with_reducible refine gate_dst (N := 3) rfl ?_); refine box_event ?hg (N := 3) ?hd (cs := #[.int .i64 a0_0, .slice A0_1 l0_1.length c0_1]) (t := 29) ?hr ?_; (case hd => rfl); (case hg => rfl); (case hr => first | (go_simp; done) | (go_simp; rfl)); intro gb171 hg w5 hbox hb; have BK171 := Aside0.mk (hbox); have GW171 := Aside0.mk ((bsz hg : w.heap.size ≤ gb171)); have GE171 := Aside0.mk ((bsz hg : w.heap.size ≤ gb171)); replace HB := Aside0.mk (below_step bel hb); clear hb hbox hg; obtain ⟨hcz6_0, hcz6_1, hfz6_0, hfz6_1⟩ := cf2 BK171.out))
  go_loopg [7, 15] k (fun kq v7 v15 w' => ∃ (x7_1 : Int) (x15_1 : Int), v7 = .int .i64 x7_1 ∧ v15 = .int .i64 x15_1 ∧ Aside0 (impl_FlowValue.l0 kq a1 l2 x7_1 ji4 x15_1 a0_0 l0_1 = some r) ∧ Aside0 (kq ≤ k) ∧ Aside0 (w'.heap[gb171]? = some (.cells #[.int .i64 a0_0, (.slice A0_1 l0_1.length c0_1)] 29 (0, 0))) ∧ Aside0 (Below w.heap.size w w'))
  case atStart => exact ⟨(0), (0), (es), (es), H', ⟨Nat.le_refl _⟩, ⟨bk BK171.out⟩, ⟨bel⟩⟩
  case round =>
    clear H'
    try clear c1; try clear c2; try clear p2; try clear hcz6_0; try clear hcz6_1; try clear hfz6_0; try clear hfz6_1
    obtain ⟨x7_1, x15_1, rfl, rfl, HA, HK1, BK171, HB⟩ := hrel
    cases gk with
    | zero => exact absurd HA.out (by simp [impl_FlowValue.l0])
    | succ k1 =>
      have H := HA.out
      clear HA
      simp only [impl_FlowValue.l0] at H
      by_cases c7 : x15_1 < ji4
      · rw [if_pos c7] at H
        have c7b0 : decide (x15_1 < ji4) = true := decide_eq_true c7
        clear c7
        by_cases c8 : 0 ≤ x15_1
        · rw [if_pos c8] at H
          have c8b0 : decide (0 ≤ x15_1) = true := decide_eq_true c8
          clear c8
          by_cases c9 : x15_1 < (l0_1.length : Int)
          · rw [if_pos c9] at H
            have c9b0 : decide (x15_1 < (l0_1.length : Int)) = true := decide_eq_true c9
            clear c9
            by_cases c10 : ((rd_T60 l0_1 x15_1).f0) = a1
            · rw [if_pos c10] at H
              have c10b0 : (((rd_T60 l0_1 x15_1).f0) == a1) = true := beq_iff_eq.mpr c10
              have c10b1 : (((rd_T60 l0_1 x15_1).f0) != a1) = false := bne_eq_false_iff_eq.mpr c10
              clear c10
              by_cases c11 : x15_1 < (l2.length : Int)
              · rw [if_pos c11] at H
                have c11b0 : decide (x15_1 < (l2.length : Int)) = true := decide_eq_true c11
                clear c11
                by_cases c12 : ((rd_T60 l0_1 x15_1).f1) = a1
                · rw [if_pos c12] at H
                  have c12b0 : (((rd_T60 l0_1 x15_1).f1) == a1) = true := beq_iff_eq.mpr c12
                  have c12b1 : (((rd_T60 l0_1 x15_1).f1) != a1) = false := bne_eq_false_iff_eq.mpr c12
                  clear c12
                  have H' := Aside0.mk H
                  clear H
                  obtain ⟨hcz13_0, hcz13_1, hfz13_0, hfz13_1⟩ := cf2 BK171.out
                  have p172 : 0 ≤ (x15_1 : Int) := asm
                  have q172 : x15_1 < (l0_1.length : Int) := asm
                  obtain ⟨ad172, e172, hx172_0, hx172_1, hx172_2⟩ := at_T60 HR0_1.out x15_1 p172 q172
                  cases e172
                  replace hx172_0 := hcl HB.out hx172_0
                  replace hx172_1 := hcl HB.out hx172_1
                  replace hx172_2 := hcl HB.out hx172_2
                  replace p172 := eq_true p172
                  replace q172 := eq_true q172
                  have p173 : 0 ≤ (x15_1 : Int) := asm
                  have q173 : x15_1 < (l2.length : Int) := asm
                  obtain ⟨ad173, e173, hx173_0⟩ := Kd.at_int HR2.out x15_1 p173 q173
                  cases e173
                  replace hx173_0 := hcl HB.out hx173_0
                  replace p173 := eq_true p173
                  replace q173 := eq_true q173
                  have p174 : 0 ≤ (x15_1 : Int) := asm
                  have q174 : x15_1 < (l0_1.length : Int) := asm
                  obtain ⟨ad174, e174, hx174_0, hx174_1, hx174_2⟩ := at_T60 HR0_1.out x15_1 p174 q174
                  obtain rfl : ad172 = ad174 := (by injection e174)
                  replace hx174_0 := hcl HB.out hx174_0
                  replace hx174_1 := hcl HB.out hx174_1
                  replace hx174_2 := hcl HB.out hx174_2
                  replace p174 := eq_true p174
                  replace q174 := eq_true q174
                  have p175 : 0 ≤ (x15_1 : Int) := asm
                  have q175 : x15_1 < (l2.length : Int) := asm
                  obtain ⟨ad175, e175, hx175_0⟩ := Kd.at_int HR2.out x15_1 p175 q175
                  obtain rfl : ad173 = ad175 := (by injection e175)
                  replace hx175_0 := hcl HB.out hx175_0
                  replace p175 := eq_true p175
                  replace q175 := eq_true q175
                  go_wp2
                  go_roundg k1
                  case measure => have := HK1.out; omega
                  case rel => exact ⟨(wrap64 ((wrap64 (x7_1 + (rd l2 x15_1))) - (rd l2 x15_1))), (wrap64 (x15_1 + 1)), (es), (es), H', ⟨by have := HK1.out; omega⟩, ⟨bk BK171.out⟩, ⟨bel⟩⟩
                · rw [if_neg c12] at H
                  have c12b0 : (((rd_T60 l0_1 x15_1).f1) == a1) = false := beq_eq_false_iff_ne.mpr c12
                  have c12b1 : (((rd_T60 l0_1 x15_1).f1) != a1) = true := bne_iff_ne.mpr c12
                  have H' := Aside0.mk H
                  clear H
                  obtain ⟨hcz14_0, hcz14_1, hfz14_0, hfz14_1⟩ := cf2 BK171.out
                  have p172 : 0 ≤ (x15_1 : Int) := asm
                  have q172 : x15_1 < (l0_1.length : Int) := asm
                  obtain ⟨ad172, e172, hx172_0, hx172_1, hx172_2⟩ := at_T60 HR0_1.out x15_1 p172 q172
                  cases e172
                  replace hx172_0 := hcl HB.out hx172_0
                  replace hx172_1 := hcl HB.out hx172_1
                  replace hx172_2 := hcl HB.out hx172_2
                  replace p172 := eq_true p172
                  replace q172 := eq_true q172
                  have p173 : 0 ≤ (x15_1 : Int) := asm
                  have q173 : x15_1 < (l2.length : Int) := asm
                  obtain ⟨ad173, e173, hx173_0⟩ := Kd.at_int HR2.out x15_1 p173 q173
                  cases e173
                  replace hx173_0 := hcl HB.out hx173_0
                  replace p173 := eq_true p173
                  replace q173 := eq_true q173
                  have p174 : 0 ≤ (x15_1 : Int) := asm
                  have q174 : x15_1 < (l0_1.length : Int) := asm
                  obtain ⟨ad174, e174, hx174_0, hx174_1, hx174_2⟩ := at_T60 HR0_1.out x15_1 p174 q174
                  obtain rfl : ad172 = ad174 := (by injection e174)
                  replace hx174_0 := hcl HB.out hx174_0
                  replace hx174_1 := hcl HB.out hx174_1
                  replace hx174_2 := hcl HB.out hx174_2
                  replace p174 := eq_true p174
                  replace q174 := eq_true q174
                  go_wp2
                  go_roundg k1
                  case measure => have := HK1.out; omega
                  case rel => exact ⟨(wrap64 (x7_1 + (rd l2 x15_1))), (wrap64 (x15_1 + 1)), (es), (es), H', ⟨by have := HK1.out; omega⟩, ⟨bk BK171.out⟩, ⟨bel⟩⟩
              · rw [if_neg c11] at H
                exact absurd H (by simp)
            · rw [if_neg c10] at H
              have c10b0 : (((rd_T60 l0_1 x15_1).f0) == a1) = false := beq_eq_false_iff_ne.mpr c10
              have c10b1 : (((rd_T60 l0_1 x15_1).f0) != a1) = true := bne_iff_ne.mpr c10
              by_cases c15 : ((rd_T60 l0_1 x15_1).f1) = a1
              · rw [if_pos c15] at H
                have c15b0 : (((rd_T60 l0_1 x15_1).f1) == a1) = true := beq_iff_eq.mpr c15
                have c15b1 : (((rd_T60 l0_1 x15_1).f1) != a1) = false := bne_eq_false_iff_eq.mpr c15
                clear c15
                by_cases c16 : x15_1 < (l2.length : Int)
                · rw [if_pos c16] at H
                  have c16b0 : decide (x15_1 < (l2.length : Int)) = true := decide_eq_true c16
                  clear c16
                  have H' := Aside0.mk H
                  clear H
                  obtain ⟨hcz17_0, hcz17_1, hfz17_0, hfz17_1⟩ := cf2 BK171.out
                  have p172 : 0 ≤ (x15_1 : Int) := asm
                  have q172 : x15_1 < (l0_1.length : Int) := asm
                  obtain ⟨ad172, e172, hx172_0, hx172_1, hx172_2⟩ := at_T60 HR0_1.out x15_1 p172 q172
                  cases e172
                  replace hx172_0 := hcl HB.out hx172_0
                  replace hx172_1 := hcl HB.out hx172_1
                  replace hx172_2 := hcl HB.out hx172_2
                  replace p172 := eq_true p172
                  replace q172 := eq_true q172
                  have p176 : 0 ≤ (x15_1 : Int) := asm
                  have q176 : x15_1 < (l0_1.length : Int) := asm
                  obtain ⟨ad176, e176, hx176_0, hx176_1, hx176_2⟩ := at_T60 HR0_1.out x15_1 p176 q176
                  obtain rfl : ad172 = ad176 := (by injection e176)
                  replace hx176_0 := hcl HB.out hx176_0
                  replace hx176_1 := hcl HB.out hx176_1
                  replace hx176_2 := hcl HB.out hx176_2
                  replace p176 := eq_true p176
                  replace q176 := eq_true q176
                  have p177 : 0 ≤ (x15_1 : Int) := asm
                  have q177 : x15_1 < (l2.length : Int) := asm
                  obtain ⟨ad177, e177, hx177_0⟩ := Kd.at_int HR2.out x15_1 p177 q177
                  cases e177
                  replace hx177_0 := hcl HB.out hx177_0
                  replace p177 := eq_true p177
                  replace q177 := eq_true q177
                  go_wp2
                  go_roundg k1
                  case measure => have := HK1.out; omega
                  case rel => exact ⟨(wrap64 (x7_1 - (rd l2 x15_1))), (wrap64 (x15_1 + 1)), (es), (es), H', ⟨by have := HK1.out; omega⟩, ⟨bk BK171.out⟩, ⟨bel⟩⟩
                · rw [if_neg c16] at H
                  exact absurd H (by simp)
              · rw [if_neg c15] at H
                have c15b0 : (((rd_T60 l0_1 x15_1).f1) == a1) = false := beq_eq_false_iff_ne.mpr c15
                have c15b1 : (((rd_T60 l0_1 x15_1).f1) != a1) = true := bne_iff_ne.mpr c15
                have H' := Aside0.mk H
                clear H
                obtain ⟨hcz18_0, hcz18_1, hfz18_0, hfz18_1⟩ := cf2 BK171.out
                have p172 : 0 ≤ (x15_1 : Int) := asm
                have q172 : x15_1 < (l0_1.length : Int) := asm
                obtain ⟨ad172, e172, hx172_0, hx172_1, hx172_2⟩ := at_T60 HR0_1.out x15_1 p172 q172
                cases e172
                replace hx172_0 := hcl HB.out hx172_0
                replace hx172_1 := hcl HB.out hx172_1
                replace hx172_2 := hcl HB.out hx172_2
                replace p172 := eq_true p172
                replace q172 := eq_true q172
                have p176 : 0 ≤ (x15_1 : Int) := asm
                have q176 : x15_1 < (l0_1.length : Int) := asm
                obtain ⟨ad176, e176, hx176_0, hx176_1, hx176_2⟩ := at_T60 HR0_1.out x15_1 p176 q176
                obtain rfl : ad172 = ad176 := (by injection e176)
                replace hx176_0 := hcl HB.out hx176_0
                replace hx176_1 := hcl HB.out hx176_1
                replace hx176_2 := hcl HB.out hx176_2
                replace p176 := eq_true p176
                replace q176 := eq_true q176
                go_wp2
                go_roundg k1
                case measure => have := HK1.out; omega
                case rel => exact ⟨(x7_1), (wrap64 (x15_1 + 1)), (es), (es), H', ⟨by have := HK1.out; omega⟩, ⟨bk BK171.out⟩, ⟨bel⟩⟩
          · rw [if_neg c9] at H
            exact absurd H (by simp)
        · rw [if_neg c8] at H
          exact absurd H (by simp)
      · rw [if_neg c7] at H
        have c7b0 : decide (x15_1 < ji4) = false := decide_eq_false c7
        clear c7
        obtain rfl := Option.some.inj H
        go_wp2
        go_ret
        exact ⟨by first | rfl | (simp [errW_none, errW_some] <;> rfl) | (simp only [← hji4]; first | rfl | (simp [errW_none, errW_some] <;> rfl)) | (simp [*, errW_none, errW_some] <;> rfl), bel⟩

end Go.Proofs.Yteaemblallbgpaa.X
