-- Written by a program of this session (wip/xp.py, over the kit's print) out of the translation: functions, and the walks that show them.
import Derived.Test.YteaemblallbgpaaX0
import Derived.Test.YteaemblallbgpaaX3
import Derived.Test.YteaemblallbgpaaX10
import Derived.Test.YteaemblallbgpaaX23
namespace Go.Proofs.Yteaemblallbgpaa.X
open Go.RowKit Go.Proofs.YteaemblallbgpaaW.PrintWords Go.Proofs.YteaemblallbgpaaW.PrintLast Go.Proofs.YteaemblallbgpaaW.PrintMore
attribute [local go_sem] max2_int min2_int max_two min_two max_three min_three max_four min_four   -- for this text's walks alone
set_option linter.unusedVariables false
set_option linter.unusedSimpArgs false

/-! ### impl_IsFlow: function 27 -/
mutual
def impl_IsFlow.j0 : Nat → Int → Int → List Int → Bool → Int → List (S60) → Option (Bool)
  | 0, _, _, _, _, _, _ => none
  | k + 1, x1, x2, x3, x24, x322000, x322001 => if x24 = true then (some false) else (impl_IsFlow.l0 k x1 x2 x3 x322001 (x322001.length : Int) 0 x322000 x322001)
def impl_IsFlow.l0 : Nat → Int → Int → List Int → List (S60) → Int → Int → Int → List (S60) → Option (Bool)
  | 0, _, _, _, _, _, _, _, _ => none
  | k + 1, x1, x2, x3, x26, x27, x28, x322000, x322001 => if x28 < x27 then (if 0 ≤ x28 then (if x28 < (x26.length : Int) then (if x28 < (x3.length : Int) then ((impl_within.f (rd x3 x28) 0 ((rd_T60 x26 x28).f2)).bind fun t326 => (if t326 = true then (impl_IsFlow.l0 k x1 x2 x3 x26 x27 (wrap64 (x28 + 1)) x322000 x322001) else (some false))) else (none)) else (none)) else (none)) else (impl_IsFlow.l1 k x1 x2 x3 x322000 0 x322000 x322001)
def impl_IsFlow.l1 : Nat → Int → Int → List Int → Int → Int → Int → List (S60) → Option (Bool)
  | 0, _, _, _, _, _, _, _ => none
  | k + 1, x1, x2, x3, x43, x44, x322000, x322001 => if x44 < x43 then (if x44 = x1 then (impl_IsFlow.l1 k x1 x2 x3 x43 (wrap64 (x44 + 1)) x322000 x322001) else (if x44 = x2 then (impl_IsFlow.l1 k x1 x2 x3 x43 (wrap64 (x44 + 1)) x322000 x322001) else ((impl_FlowValue.f k x322000 x322001 x44 x3).bind fun t327 => (if t327 = 0 then (impl_IsFlow.l1 k x1 x2 x3 x43 (wrap64 (x44 + 1)) x322000 x322001) else (some false))))) else (some true)
end
def impl_IsFlow.f (k : Nat) (a0_0 : Int) (l0_1 : List (S60)) (a1 : Int) (a2 : Int) (l3 : List Int) : Option (Bool) := (impl_areEnds.f k a0_0 l0_1 a1 a2).bind fun t322 => (if t322 = true then (impl_IsFlow.j0 k a1 a2 l3 ((l3.length : Int) != (l0_1.length : Int)) a0_0 l0_1) else (impl_IsFlow.j0 k a1 a2 l3 true a0_0 l0_1))
theorem impl_IsFlow.mono_l : ∀ k, (∀ y0 y1 y2 y3 y4 y5, LeO (impl_IsFlow.j0 k y0 y1 y2 y3 y4 y5) (impl_IsFlow.j0 (k + 1) y0 y1 y2 y3 y4 y5)) ∧ (∀ y0 y1 y2 y3 y4 y5 y6 y7, LeO (impl_IsFlow.l0 k y0 y1 y2 y3 y4 y5 y6 y7) (impl_IsFlow.l0 (k + 1) y0 y1 y2 y3 y4 y5 y6 y7)) ∧ (∀ y0 y1 y2 y3 y4 y5 y6, LeO (impl_IsFlow.l1 k y0 y1 y2 y3 y4 y5 y6) (impl_IsFlow.l1 (k + 1) y0 y1 y2 y3 y4 y5 y6))
  | 0 => ⟨fun _ _ _ _ _ _ r h => by simp [impl_IsFlow.j0] at h, fun _ _ _ _ _ _ _ _ r h => by simp [impl_IsFlow.l0] at h, fun _ _ _ _ _ _ _ r h => by simp [impl_IsFlow.l1] at h⟩
  | k + 1 => by
    obtain ⟨ih0, ih1, ih2⟩ := impl_IsFlow.mono_l k
    refine ⟨?_, ?_, ?_⟩
    · intro y0 y1 y2 y3 y4 y5
      unfold impl_IsFlow.j0
      repeat' first
      | (with_reducible exact ih0 _ _ _ _ _ _)
      | (with_reducible exact ih1 _ _ _ _ _ _ _ _)
      | (with_reducible exact ih2 _ _ _ _ _ _ _)
      | (with_reducible exact impl_FlowValue.mono _ _ _ _ _)
      | (with_reducible exact impl_areEnds.mono _ _ _ _ _)
      | (with_reducible exact LeO.refl _)
      | (with_reducible exact LeO.none _)
      | (with_reducible refine LeO.ite ?_ ?_)
      | (with_reducible refine LeO.bind ?_ (fun _ => ?_))
      | exact ih0 _ _ _ _ _ _
      | exact ih1 _ _ _ _ _ _ _ _
      | exact ih2 _ _ _ _ _ _ _
      | exact impl_FlowValue.mono _ _ _ _ _
      | exact impl_areEnds.mono _ _ _ _ _
      | exact LeO.none _
      | refine LeO.ite ?_ ?_
      | refine LeO.bind ?_ (fun _ => ?_)
    · intro y0 y1 y2 y3 y4 y5 y6 y7
      unfold impl_IsFlow.l0
      repeat' first
      | (with_reducible exact ih0 _ _ _ _ _ _)
      | (with_reducible exact ih1 _ _ _ _ _ _ _ _)
      | (with_reducible exact ih2 _ _ _ _ _ _ _)
      | (with_reducible exact impl_FlowValue.mono _ _ _ _ _)
      | (with_reducible exact impl_areEnds.mono _ _ _ _ _)
      | (with_reducible exact LeO.refl _)
      | (with_reducible exact LeO.none _)
      | (with_reducible refine LeO.ite ?_ ?_)
      | (with_reducible refine LeO.bind ?_ (fun _ => ?_))
      | exact ih0 _ _ _ _ _ _
      | exact ih1 _ _ _ _ _ _ _ _
      | exact ih2 _ _ _ _ _ _ _
      | exact impl_FlowValue.mono _ _ _ _ _
      | exact impl_areEnds.mono _ _ _ _ _
      | exact LeO.none _
      | refine LeO.ite ?_ ?_
      | refine LeO.bind ?_ (fun _ => ?_)
    · intro y0 y1 y2 y3 y4 y5 y6
      unfold impl_IsFlow.l1
      repeat' first
      | (with_reducible exact ih0 _ _ _ _ _ _)
      | (with_reducible exact ih1 _ _ _ _ _ _ _ _)
      | (with_reducible exact ih2 _ _ _ _ _ _ _)
      | (with_reducible exact impl_FlowValue.mono _ _ _ _ _)
      | (with_reducible exact impl_areEnds.mono _ _ _ _ _)
      | (with_reducible exact LeO.refl _)
      | (with_reducible exact LeO.none _)
      | (with_reducible refine LeO.ite ?_ ?_)
      | (with_reducible refine LeO.bind ?_ (fun _ => ?_))
      | exact ih0 _ _ _ _ _ _
      | exact ih1 _ _ _ _ _ _ _ _
      | exact ih2 _ _ _ _ _ _ _
      | exact impl_FlowValue.mono _ _ _ _ _
      | exact impl_areEnds.mono _ _ _ _ _
      | exact LeO.none _
      | refine LeO.ite ?_ ?_
      | refine LeO.bind ?_ (fun _ => ?_)
theorem impl_IsFlow.mono : ∀ a0 a1 a2 a3 a4 k, LeO (impl_IsFlow.f k a0 a1 a2 a3 a4) (impl_IsFlow.f (k + 1) a0 a1 a2 a3 a4) := by
  intro a0 a1 a2 a3 a4 k
  obtain ⟨ih0, ih1, ih2⟩ := impl_IsFlow.mono_l k
  unfold impl_IsFlow.f
  repeat' first
      | (with_reducible exact ih0 _ _ _ _ _ _)
      | (with_reducible exact ih1 _ _ _ _ _ _ _ _)
      | (with_reducible exact ih2 _ _ _ _ _ _ _)
      | (with_reducible exact impl_FlowValue.mono _ _ _ _ _)
      | (with_reducible exact impl_areEnds.mono _ _ _ _ _)
      | (with_reducible exact LeO.refl _)
      | (with_reducible exact LeO.none _)
      | (with_reducible refine LeO.ite ?_ ?_)
      | (with_reducible refine LeO.bind ?_ (fun _ => ?_))
      | exact ih0 _ _ _ _ _ _
      | exact ih1 _ _ _ _ _ _ _ _
      | exact ih2 _ _ _ _ _ _ _
      | exact impl_FlowValue.mono _ _ _ _ _
      | exact impl_areEnds.mono _ _ _ _ _
      | exact LeO.none _
      | refine LeO.ite ?_ ?_
      | refine LeO.bind ?_ (fun _ => ?_)
set_option maxHeartbeats 8000000 in
set_option maxRecDepth 100000 in
theorem impl_IsFlow.calls (k : Nat) (a0_0 : Int) (A0_1 : Option Addr) (c0_1 : Nat) (l0_1 : List (S60)) (a1 : Int) (a2 : Int) (A3 : Option Addr) (c3 : Nat) (l3 : List Int) (r : Bool) (w : World) (hr0_1 : Kd.C k60 w A0_1 l0_1.length l0_1) (hc0_1 : l0_1.length ≤ c0_1) (hr3 : Kd.C (Kd.int .i64) w A3 l3.length l3) (hc3 : l3.length ≤ c3) (h : impl_IsFlow.f k a0_0 l0_1 a1 a2 l3 = some r) :
    Calls Try.prog 27 #[.agg #[.int .i64 a0_0, .slice A0_1 l0_1.length c0_1], .int .i64 a1, .int .i64 a2, .slice A3 l3.length c3] w fun e w' => e = .returned (.bool r) ∧ Below w.heap.size w w' := by
  have hu29 := Try.underlying29
  have hu60 := Try.underlying60
  have HR0_1 := Aside0.mk hr0_1
  have HC0_1 := Aside0.mk hc0_1
  clear hr0_1 hc0_1
  have HR3 := Aside0.mk hr3
  have HC3 := Aside0.mk hc3
  clear hr3 hc3
  have HB := Aside0.mk (Below.refl w.heap.size w)
  have H : ((impl_areEnds.f k a0_0 l0_1 a1 a2).bind fun t322 => (if t322 = true then (impl_IsFlow.j0 k a1 a2 l3 ((l3.length : Int) != (l0_1.length : Int)) a0_0 l0_1) else (impl_IsFlow.j0 k a1 a2 l3 true a0_0 l0_1))) = some r := h
  clear h
  have HC5 := Aside0.mk H
  clear H
  go_enter Try.func27, Try.ntmps27
  go_upto_region 1 with (first | ((with_reducible refine gate_dst (N := 4) rfl ?_); refine box_event ?hg (N := 4) ?hd (cs := #[.int .i64 a0_0, .slice A0_1 l0_1.length c0_1]) (t := 29) ?hr ?_; (case hd => rfl); (case hg => rfl); (case hr => first | (go_simp; done) | (go_simp; rfl)); intro gb321 hg w6 hbox hb; have BK321 := Aside0.mk (hbox); have GW321 := Aside0.mk ((bsz hg : w.heap.size ≤ gb321)); have GE321 := Aside0.mk ((bsz hg : w.heap.size ≤ gb321)); replace HB := Aside0.mk (below_step bel hb); clear hb hbox hg))
  repeat (go_quiet (first | ((with_reducible refine gate_dst (N := 4) rfl ?_); refine box_event ?hg (N := 4) ?hd (cs := #[.int .i64 a0_0, .slice A0_1 l0_1.length c0_1]) (t := 29) ?hr ?_; (case hd => rfl); (case hg => rfl); (case hr => first | (go_simp; done) | (go_simp; rfl)); intro gb321 hg w6 hbox hb; have BK321 := Aside0.mk (hbox); have GW321 := Aside0.mk ((bsz hg : w.heap.size ≤ gb321)); have GE321 := Aside0.mk ((bsz hg : w.heap.size ≤ gb321)); replace HB := Aside0.mk (below_step bel hb); clear hb hbox hg)); go_upto_region 1 with (first | ((with_reducible refine gate_dst (N := 4) rfl ?_); refine box_event ?hg (N := 4) ?hd (cs := #[.int .i64 a0_0, .slice A0_1 l0_1.length c0_1]) (t := 29) ?hr ?_; (case hd => rfl); (case hg => rfl); (case hr => first | (go_simp; done) | (go_simp; rfl)); intro gb321 hg w6 hbox hb; have BK321 := Aside0.mk (hbox); have GW321 := Aside0.mk ((bsz hg : w.heap.size ≤ gb321)); have GE321 := Aside0.mk ((bsz hg : w.heap.size ≤ gb321)); replace HB := Aside0.mk (below_step bel hb); clear hb hbox hg)))
  (try simp only [Act.put, List.setIfInBounds_toArray, List.set_cons_zero, List.set_cons_succ])
  go_cut [24] (fun v24 wc => ∃ (kq : Nat) (x24_4 : Bool), v24 = .bool x24_4 ∧ Aside0 (impl_IsFlow.j0 kq a1 a2 l3 x24_4 a0_0 l0_1 = some r) ∧ Aside0 (kq ≤ k) ∧ Aside0 (wc.heap[gb321]? = some (.cells #[.int .i64 a0_0, (.slice A0_1 l0_1.length c0_1)] 29 (0, 0))) ∧ Aside0 (Below w.heap.size w wc))
  case first =>
    have H := HC5.out
    clear HC5
    replace H := Option.bind_eq_some_iff.mp H
    obtain ⟨t322, A70, H⟩ := H
    replace H : (if t322 = true then (impl_IsFlow.j0 k a1 a2 l3 ((l3.length : Int) != (l0_1.length : Int)) a0_0 l0_1) else (impl_IsFlow.j0 k a1 a2 l3 true a0_0 l0_1)) = some r := H
    have A7 := Aside0.mk A70
    clear A70
    by_cases c8 : t322 = true
    · subst c8
      have H1 : (impl_IsFlow.j0 k a1 a2 l3 ((l3.length : Int) != (l0_1.length : Int)) a0_0 l0_1) = some r := by rw [if_pos rfl] at H; exact H
      clear H
      have H := H1
      clear H1
      have H' := Aside0.mk H
      clear H
      obtain ⟨hcz9_0, hcz9_1, hfz9_0, hfz9_1⟩ := cf2 BK321.out
      go_wp2_with (first | (go_at_call 44; (with_reducible refine (impl_areEnds.calls k a0_0 _ _ l0_1 a1 a2 true _ ?side1 ?side2 A7.out).mono ?_); (case side1 => exact ck (Kd.C_below HR0_1.out HB.out)); (case side2 => exact HC0_1.out); rintro e w10 ⟨rfl, hb⟩; replace BK321 := Aside0.mk (bb BK321.out hb); replace HB := Aside0.mk (below_step bel hb); (try clear hb); (try clear hb2); (try clear hk); (try clear hi); obtain ⟨hcz11_0, hcz11_1, hfz11_0, hfz11_1⟩ := cf2 BK321.out))
      repeat (go_quiet (first | (go_at_call 44; (with_reducible refine (impl_areEnds.calls k a0_0 _ _ l0_1 a1 a2 true _ ?side1 ?side2 A7.out).mono ?_); (case side1 => exact ck (Kd.C_below HR0_1.out HB.out)); (case side2 => exact HC0_1.out); rintro e w10 ⟨rfl, hb⟩; replace BK321 := Aside0.mk (bb BK321.out hb); replace HB := Aside0.mk (below_step bel hb); (try clear hb); (try clear hb2); (try clear hk); (try clear hi); obtain ⟨hcz11_0, hcz11_1, hfz11_0, hfz11_1⟩ := cf2 BK321.out)); try go_wp2_with (first | (go_at_call 44; (with_reducible refine (impl_areEnds.calls k a0_0 _ _ l0_1 a1 a2 true _ ?side1 ?side2 A7.out).mono ?_); (case side1 => exact ck (Kd.C_below HR0_1.out HB.out)); (case side2 => exact HC0_1.out); rintro e w10 ⟨rfl, hb⟩; replace BK321 := Aside0.mk (bb BK321.out hb); replace HB := Aside0.mk (below_step bel hb); (try clear hb); (try clear hb2); (try clear hk); (try clear hi); obtain ⟨hcz11_0, hcz11_1, hfz11_0, hfz11_1⟩ := cf2 BK321.out)))
      go_meet
      case rel => exact ⟨_, (((l3.length : Int) != (l0_1.length : Int))), (es), H', ⟨by first | omega | exact Nat.le_refl _⟩, ⟨bk BK321.out⟩, ⟨bel⟩⟩
    · replace c8 := Bool.eq_false_iff.mpr c8
      subst c8
      have H1 : (impl_IsFlow.j0 k a1 a2 l3 true a0_0 l0_1) = some r := by rw [if_neg (show ¬ (false = true) by decide)] at H; exact H
      clear H
      have H := H1
      clear H1
      have H' := Aside0.mk H
      clear H
      obtain ⟨hcz12_0, hcz12_1, hfz12_0, hfz12_1⟩ := cf2 BK321.out
      go_wp2_with (first | (go_at_call 44; (with_reducible refine (impl_areEnds.calls k a0_0 _ _ l0_1 a1 a2 false _ ?side1 ?side2 A7.out).mono ?_); (case side1 => exact ck (Kd.C_below HR0_1.out HB.out)); (case side2 => exact HC0_1.out); rintro e w13 ⟨rfl, hb⟩; replace BK321 := Aside0.mk (bb BK321.out hb); replace HB := Aside0.mk (below_step bel hb); (try clear hb); (try clear hb2); (try clear hk); (try clear hi)))
      repeat (go_quiet (first | (go_at_call 44; (with_reducible refine (impl_areEnds.calls k a0_0 _ _ l0_1 a1 a2 false _ ?side1 ?side2 A7.out).mono ?_); (case side1 => exact ck (Kd.C_below HR0_1.out HB.out)); (case side2 => exact HC0_1.out); rintro e w13 ⟨rfl, hb⟩; replace BK321 := Aside0.mk (bb BK321.out hb); replace HB := Aside0.mk (below_step bel hb); (try clear hb); (try clear hb2); (try clear hk); (try clear hi))); try go_wp2_with (first | (go_at_call 44; (with_reducible refine (impl_areEnds.calls k a0_0 _ _ l0_1 a1 a2 false _ ?side1 ?side2 A7.out).mono ?_); (case side1 => exact ck (Kd.C_below HR0_1.out HB.out)); (case side2 => exact HC0_1.out); rintro e w13 ⟨rfl, hb⟩; replace BK321 := Aside0.mk (bb BK321.out hb); replace HB := Aside0.mk (below_step bel hb); (try clear hb); (try clear hb2); (try clear hk); (try clear hi))))
      go_meet
      case rel => exact ⟨_, (true), (es), H', ⟨by first | omega | exact Nat.le_refl _⟩, ⟨bk BK321.out⟩, ⟨bel⟩⟩
  case rest =>
    clear HC5
    try clear c2; try clear p2; try clear c3; try clear c8; try clear hcz11_0; try clear hcz11_1; try clear hcz12_0; try clear hcz12_1; try clear hcz9_0; try clear hcz9_1; try clear hfz11_0; try clear hfz11_1; try clear hfz12_0; try clear hfz12_1; try clear hfz9_0; try clear hfz9_1
    obtain ⟨kq, x24_4, rfl, HA, HJ4, BK321, HB⟩ := hcut
    cases kq with
    | zero => exact absurd HA.out (by simp [impl_IsFlow.j0])
    | succ kj4 =>
      have H := HA.out
      clear HA
      simp only [impl_IsFlow.j0] at H
      by_cases c14 : x24_4 = true
      · subst c14
        have H1 : (some false) = some r := by rw [if_pos rfl] at H; exact H
        clear H
        have H := H1
        clear H1
        obtain rfl := Option.some.inj H
        go_wp2
        repeat (go_quiet (fail); try go_wp2)
        go_ret
        exact ⟨er, bel⟩
      · replace c14 := Bool.eq_false_iff.mpr c14
        subst c14
        have H1 : (impl_IsFlow.l0 kj4 a1 a2 l3 l0_1 (l0_1.length : Int) 0 a0_0 l0_1) = some r := by rw [if_neg (show ¬ (false = true) by decide)] at H; exact H
        clear H
        have H := H1
        clear H1
        have H' := Aside0.mk H
        clear H
        obtain ⟨hcz15_0, hcz15_1, hfz15_0, hfz15_1⟩ := cf2 BK321.out
        go_wp2
        repeat (go_quiet (fail); try go_wp2)
        go_loopg [28] kj4 (fun kq v28 w' => ∃ (x28_2 : Int), v28 = .int .i64 x28_2 ∧ Aside0 (impl_IsFlow.l0 kq a1 a2 l3 l0_1 (l0_1.length : Int) x28_2 a0_0 l0_1 = some r) ∧ Aside0 (kq ≤ kj4) ∧ Aside0 (w'.heap[gb321]? = some (.cells #[.int .i64 a0_0, (.slice A0_1 l0_1.length c0_1)] 29 (0, 0))) ∧ Aside0 (Below w.heap.size w w'))
        case atStart => exact ⟨(0), (es), H', ⟨Nat.le_refl _⟩, ⟨bk BK321.out⟩, ⟨bel⟩⟩
        case round =>
          clear H'
          try clear c1; try clear c2; try clear p2; try clear c3; try clear c8; try clear c14; try clear hcz11_0; try clear hcz11_1; try clear hcz12_0; try clear hcz12_1; try clear hcz15_0; try clear hcz15_1; try clear hcz9_0; try clear hcz9_1; try clear hfz11_0; try clear hfz11_1; try clear hfz12_0; try clear hfz12_1; try clear hfz15_0; try clear hfz15_1; try clear hfz9_0; try clear hfz9_1; try clear p2
          obtain ⟨x28_2, rfl, HA, HK2, BK321, HB⟩ := hrel
          cases gk with
          | zero => exact absurd HA.out (by simp [impl_IsFlow.l0])
          | succ k2 =>
            have H := HA.out
            clear HA
            simp only [impl_IsFlow.l0] at H
            by_cases c16 : x28_2 < (l0_1.length : Int)
            · rw [if_pos c16] at H
              have c16b0 : decide (x28_2 < (l0_1.length : Int)) = true := decide_eq_true c16
              clear c16
              by_cases c17 : 0 ≤ x28_2
              · rw [if_pos c17] at H
                have c17b0 : decide (0 ≤ x28_2) = true := decide_eq_true c17
                clear c17
                by_cases c18 : x28_2 < (l0_1.length : Int)
                · rw [if_pos c18] at H
                  have c18b0 : decide (x28_2 < (l0_1.length : Int)) = true := decide_eq_true c18
                  clear c18
                  by_cases c19 : x28_2 < (l3.length : Int)
                  · rw [if_pos c19] at H
                    have c19b0 : decide (x28_2 < (l3.length : Int)) = true := decide_eq_true c19
                    clear c19
                    replace H := Option.bind_eq_some_iff.mp H
                    obtain ⟨t326, A200, H⟩ := H
                    replace H : (if t326 = true then (impl_IsFlow.l0 k2 a1 a2 l3 l0_1 (l0_1.length : Int) (wrap64 (x28_2 + 1)) a0_0 l0_1) else (some false)) = some r := H
                    have A20 := Aside0.mk A200
                    clear A200
                    by_cases c21 : t326 = true
                    · subst c21
                      have H1 : (impl_IsFlow.l0 k2 a1 a2 l3 l0_1 (l0_1.length : Int) (wrap64 (x28_2 + 1)) a0_0 l0_1) = some r := by rw [if_pos rfl] at H; exact H
                      clear H
                      have H := H1
                      clear H1
                      have H' := Aside0.mk H
                      clear H
                      have p323 : 0 ≤ (x28_2 : Int) := asm
                      have q323 : x28_2 < (l0_1.length : Int) := asm
                      obtain ⟨ad323, e323, hx323_0, hx323_1, hx323_2⟩ := at_T60 HR0_1.out x28_2 p323 q323
                      cases e323
                      replace hx323_0 := hcl HB.out hx323_0
                      replace hx323_1 := hcl HB.out hx323_1
                      replace hx323_2 := hcl HB.out hx323_2
                      replace p323 := eq_true p323
                      replace q323 := eq_true q323
                      go_wp2_with (first | ((with_reducible refine gate_dst (N := 10) rfl ?_); refine box_event ?hg (N := 10) ?hd (cs := #[.int .i64 0, .int .i64 0, .int .i64 0]) (t := 60) ?hr ?_; (case hd => rfl); (case hg => rfl); (case hr => first | (go_simp; done) | (go_simp; rfl)); intro gb324 hg w22 hbox hb; have BK324 := Aside0.mk (hbox); have GW324 := Aside0.mk ((bsz hg : w.heap.size ≤ gb324)); have GE324 := Aside0.mk ((bsz hg : w.heap.size ≤ gb324)); have NB321_324 := Aside0.mk ((nlt hg BK321.out : gb321 ≠ gb324)); have NB324_321 := Aside0.mk ((ngt hg BK321.out : gb324 ≠ gb321)); replace BK321 := Aside0.mk (bb BK321.out hb); replace HB := Aside0.mk (below_step bel hb); clear hb hbox hg; have hnb23 := NB324_321.out; have hnc23 := NB321_324.out; obtain ⟨hcz24_0, hcz24_1, hcz24_2, hfz24_0, hfz24_1, hfz24_2⟩ := cf3 BK324.out; have p325 : 0 ≤ (x28_2 : Int) := asm; have q325 : x28_2 < (l3.length : Int) := asm; obtain ⟨ad325, e325, hx325_0⟩ := Kd.at_int HR3.out x28_2 p325 q325; cases e325; have hn325_0 : ad325.block ≠ gb324 := Nat.ne_of_lt (Nat.lt_of_lt_of_le (by have := World.block_lt_of_cell? _ _ hx325_0; first | rwa [add_block] at this | exact this) GW324.out); have hn325_1 : ad325.block ≠ gb324 := Nat.ne_of_lt (Nat.lt_of_lt_of_le (by have := World.block_lt_of_cell? _ _ hx325_0; first | rwa [add_block] at this | exact this) GW324.out); have hn325_2 : ad325.block ≠ gb324 := Nat.ne_of_lt (Nat.lt_of_lt_of_le (by have := World.block_lt_of_cell? _ _ hx325_0; first | rwa [add_block] at this | exact this) GW324.out); replace hx325_0 := hcl HB.out hx325_0; replace hx325_0 := (cell_far (p := ⟨gb324, 0, none⟩) (by first | (rw [add_block]; exact hn325_0) | (show (Addr.add _ _).block ≠ _; rw [add_block]; exact hn325_0) | exact hn325_0) (.int .i64 ((rd_T60 l0_1 x28_2).f0))).trans hx325_0; replace hx325_0 := (cell_far (p := ⟨gb324, 1, none⟩) (by first | (rw [add_block]; exact hn325_1) | (show (Addr.add _ _).block ≠ _; rw [add_block]; exact hn325_1) | exact hn325_1) (.int .i64 ((rd_T60 l0_1 x28_2).f1))).trans hx325_0; replace hx325_0 := (cell_far (p := ⟨gb324, 2, none⟩) (by first | (rw [add_block]; exact hn325_2) | (show (Addr.add _ _).block ≠ _; rw [add_block]; exact hn325_2) | exact hn325_2) (.int .i64 ((rd_T60 l0_1 x28_2).f2))).trans hx325_0; (try have hy325_0 := fun (n_ : Nat) => (show (((((w22.drewN n_).setCell ⟨gb324, 0, none⟩ (.int .i64 ((rd_T60 l0_1 x28_2).f0))).setCell ⟨gb324, 1, none⟩ (.int .i64 ((rd_T60 l0_1 x28_2).f1))).setCell ⟨gb324, 2, none⟩ (.int .i64 ((rd_T60 l0_1 x28_2).f2)))).cell? _ = some _ from hx325_0)); clear hn325_0; clear hn325_1; clear hn325_2; replace p325 := eq_true p325; replace q325 := eq_true q325) | (go_at_call 41; (with_reducible refine (impl_within.calls (rd l3 x28_2) 0 ((rd_T60 l0_1 x28_2).f2) true _ A20.out).mono ?_); rintro e w' ⟨rfl, ⟨nd, rfl⟩⟩; (try first | exact ⟨rfl, _, World.drewN_drewN _ _ _⟩ | exact ⟨rfl, _, Eq.trans (World.drewN_drewN _ _ _) (congrArg (World.drewN _) (Nat.add_assoc _ _ _))⟩)))
                      repeat (go_quiet (first | ((with_reducible refine gate_dst (N := 10) rfl ?_); refine box_event ?hg (N := 10) ?hd (cs := #[.int .i64 0, .int .i64 0, .int .i64 0]) (t := 60) ?hr ?_; (case hd => rfl); (case hg => rfl); (case hr => first | (go_simp; done) | (go_simp; rfl)); intro gb324 hg w22 hbox hb; have BK324 := Aside0.mk (hbox); have GW324 := Aside0.mk ((bsz hg : w.heap.size ≤ gb324)); have GE324 := Aside0.mk ((bsz hg : w.heap.size ≤ gb324)); have NB321_324 := Aside0.mk ((nlt hg BK321.out : gb321 ≠ gb324)); have NB324_321 := Aside0.mk ((ngt hg BK321.out : gb324 ≠ gb321)); replace BK321 := Aside0.mk (bb BK321.out hb); replace HB := Aside0.mk (below_step bel hb); clear hb hbox hg; have hnb23 := NB324_321.out; have hnc23 := NB321_324.out; obtain ⟨hcz24_0, hcz24_1, hcz24_2, hfz24_0, hfz24_1, hfz24_2⟩ := cf3 BK324.out; have p325 : 0 ≤ (x28_2 : Int) := asm; have q325 : x28_2 < (l3.length : Int) := asm; obtain ⟨ad325, e325, hx325_0⟩ := Kd.at_int HR3.out x28_2 p325 q325; cases e325; have hn325_0 : ad325.block ≠ gb324 := Nat.ne_of_lt (Nat.lt_of_lt_of_le (by have := World.block_lt_of_cell? _ _ hx325_0; first | rwa [add_block] at this | exact this) GW324.out); have hn325_1 : ad325.block ≠ gb324 := Nat.ne_of_lt (Nat.lt_of_lt_of_le (by have := World.block_lt_of_cell? _ _ hx325_0; first | rwa [add_block] at this | exact this) GW324.out); have hn325_2 : ad325.block ≠ gb324 := Nat.ne_of_lt (Nat.lt_of_lt_of_le (by have := World.block_lt_of_cell? _ _ hx325_0; first | rwa [add_block] at this | exact this) GW324.out); replace hx325_0 := hcl HB.out hx325_0; replace hx325_0 := (cell_far (p := ⟨gb324, 0, none⟩) (by first | (rw [add_block]; exact hn325_0) | (show (Addr.add _ _).block ≠ _; rw [add_block]; exact hn325_0) | exact hn325_0) (.int .i64 ((rd_T60 l0_1 x28_2).f0))).trans hx325_0; replace hx325_0 := (cell_far (p := ⟨gb324, 1, none⟩) (by first | (rw [add_block]; exact hn325_1) | (show (Addr.add _ _).block ≠ _; rw [add_block]; exact hn325_1) | exact hn325_1) (.int .i64 ((rd_T60 l0_1 x28_2).f1))).trans hx325_0; replace hx325_0 := (cell_far (p := ⟨gb324, 2, none⟩) (by first | (rw [add_block]; exact hn325_2) | (show (Addr.add _ _).block ≠ _; rw [add_block]; exact hn325_2) | exact hn325_2) (.int .i64 ((rd_T60 l0_1 x28_2).f2))).trans hx325_0; (try have hy325_0 := fun (n_ : Nat) => (show (((((w22.drewN n_).setCell ⟨gb324, 0, none⟩ (.int .i64 ((rd_T60 l0_1 x28_2).f0))).setCell ⟨gb324, 1, none⟩ (.int .i64 ((rd_T60 l0_1 x28_2).f1))).setCell ⟨gb324, 2, none⟩ (.int .i64 ((rd_T60 l0_1 x28_2).f2)))).cell? _ = some _ from hx325_0)); clear hn325_0; clear hn325_1; clear hn325_2; replace p325 := eq_true p325; replace q325 := eq_true q325) | (go_at_call 41; (with_reducible refine (impl_within.calls (rd l3 x28_2) 0 ((rd_T60 l0_1 x28_2).f2) true _ A20.out).mono ?_); rintro e w' ⟨rfl, ⟨nd, rfl⟩⟩; (try first | exact ⟨rfl, _, World.drewN_drewN _ _ _⟩ | exact ⟨rfl, _, Eq.trans (World.drewN_drewN _ _ _) (congrArg (World.drewN _) (Nat.add_assoc _ _ _))⟩))); try go_wp2_with (first | ((with_reducible refine gate_dst (N := 10) rfl ?_); refine box_event ?hg (N := 10) ?hd (cs := #[.int .i64 0, .int .i64 0, .int .i64 0]) (t := 60) ?hr ?_; (case hd => rfl); (case hg => rfl); (case hr => first | (go_simp; done) | (go_simp; rfl)); intro gb324 hg w22 hbox hb; have BK324 := Aside0.mk (hbox); have GW324 := Aside0.mk ((bsz hg : w.heap.size ≤ gb324)); have GE324 := Aside0.mk ((bsz hg : w.heap.size ≤ gb324)); have NB321_324 := Aside0.mk ((nlt hg BK321.out : gb321 ≠ gb324)); have NB324_321 := Aside0.mk ((ngt hg BK321.out : gb324 ≠ gb321)); replace BK321 := Aside0.mk (bb BK321.out hb); replace HB := Aside0.mk (below_step bel hb); clear hb hbox hg; have hnb23 := NB324_321.out; have hnc23 := NB321_324.out; obtain ⟨hcz24_0, hcz24_1, hcz24_2, hfz24_0, hfz24_1, hfz24_2⟩ := cf3 BK324.out; have p325 : 0 ≤ (x28_2 : Int) := asm; have q325 : x28_2 < (l3.length : Int) := asm; obtain ⟨ad325, e325, hx325_0⟩ := Kd.at_int HR3.out x28_2 p325 q325; cases e325; have hn325_0 : ad325.block ≠ gb324 := Nat.ne_of_lt (Nat.lt_of_lt_of_le (by have := World.block_lt_of_cell? _ _ hx325_0; first | rwa [add_block] at this | exact this) GW324.out); have hn325_1 : ad325.block ≠ gb324 := Nat.ne_of_lt (Nat.lt_of_lt_of_le (by have := World.block_lt_of_cell? _ _ hx325_0; first | rwa [add_block] at this | exact this) GW324.out); have hn325_2 : ad325.block ≠ gb324 := Nat.ne_of_lt (Nat.lt_of_lt_of_le (by have := World.block_lt_of_cell? _ _ hx325_0; first | rwa [add_block] at this | exact this) GW324.out); replace hx325_0 := hcl HB.out hx325_0; replace hx325_0 := (cell_far (p := ⟨gb324, 0, none⟩) (by first | (rw [add_block]; exact hn325_0) | (show (Addr.add _ _).block ≠ _; rw [add_block]; exact hn325_0) | exact hn325_0) (.int .i64 ((rd_T60 l0_1 x28_2).f0))).trans hx325_0; replace hx325_0 := (cell_far (p := ⟨gb324, 1, none⟩) (by first | (rw [add_block]; exact hn325_1) | (show (Addr.add _ _).block ≠ _; rw [add_block]; exact hn325_1) | exact hn325_1) (.int .i64 ((rd_T60 l0_1 x28_2).f1))).trans hx325_0; replace hx325_0 := (cell_far (p := ⟨gb324, 2, none⟩) (by first | (rw [add_block]; exact hn325_2) | (show (Addr.add _ _).block ≠ _; rw [add_block]; exact hn325_2) | exact hn325_2) (.int .i64 ((rd_T60 l0_1 x28_2).f2))).trans hx325_0; (try have hy325_0 := fun (n_ : Nat) => (show (((((w22.drewN n_).setCell ⟨gb324, 0, none⟩ (.int .i64 ((rd_T60 l0_1 x28_2).f0))).setCell ⟨gb324, 1, none⟩ (.int .i64 ((rd_T60 l0_1 x28_2).f1))).setCell ⟨gb324, 2, none⟩ (.int .i64 ((rd_T60 l0_1 x28_2).f2)))).cell? _ = some _ from hx325_0)); clear hn325_0; clear hn325_1; clear hn325_2; replace p325 := eq_true p325; replace q325 := eq_true q325) | (go_at_call 41; (with_reducible refine (impl_within.calls (rd l3 x28_2) 0 ((rd_T60 l0_1 x28_2).f2) true _ A20.out).mono ?_); rintro e w' ⟨rfl, ⟨nd, rfl⟩⟩; (try first | exact ⟨rfl, _, World.drewN_drewN _ _ _⟩ | exact ⟨rfl, _, Eq.trans (World.drewN_drewN _ _ _) (congrArg (World.drewN _) (Nat.add_assoc _ _ _))⟩))))
                      go_roundg k2
                      case measure => have := HJ4.out; have := HK2.out; omega
                      case rel => exact ⟨(wrap64 (x28_2 + 1)), (es), H', ⟨by have := HJ4.out; have := HK2.out; omega⟩, ⟨bk BK321.out⟩, ⟨bel⟩⟩
                    · replace c21 := Bool.eq_false_iff.mpr c21
                      subst c21
                      have H1 : (some false) = some r := by rw [if_neg (show ¬ (false = true) by decide)] at H; exact H
                      clear H
                      have H := H1
                      clear H1
                      obtain rfl := Option.some.inj H
                      have p323 : 0 ≤ (x28_2 : Int) := asm
                      have q323 : x28_2 < (l0_1.length : Int) := asm
                      obtain ⟨ad323, e323, hx323_0, hx323_1, hx323_2⟩ := at_T60 HR0_1.out x28_2 p323 q323
                      cases e323
                      replace hx323_0 := hcl HB.out hx323_0
                      replace hx323_1 := hcl HB.out hx323_1
                      replace hx323_2 := hcl HB.out hx323_2
                      replace p323 := eq_true p323
                      replace q323 := eq_true q323
                      go_wp2_with (first | ((with_reducible refine gate_dst (N := 10) rfl ?_); refine box_event ?hg (N := 10) ?hd (cs := #[.int .i64 0, .int .i64 0, .int .i64 0]) (t := 60) ?hr ?_; (case hd => rfl); (case hg => rfl); (case hr => first | (go_simp; done) | (go_simp; rfl)); intro gb324 hg w25 hbox hb; have BK324 := Aside0.mk (hbox); have GW324 := Aside0.mk ((bsz hg : w.heap.size ≤ gb324)); have GE324 := Aside0.mk ((bsz hg : w.heap.size ≤ gb324)); have NB321_324 := Aside0.mk ((nlt hg BK321.out : gb321 ≠ gb324)); have NB324_321 := Aside0.mk ((ngt hg BK321.out : gb324 ≠ gb321)); replace BK321 := Aside0.mk (bb BK321.out hb); replace HB := Aside0.mk (below_step bel hb); clear hb hbox hg; have hnb26 := NB324_321.out; have hnc26 := NB321_324.out; obtain ⟨hcz27_0, hcz27_1, hcz27_2, hfz27_0, hfz27_1, hfz27_2⟩ := cf3 BK324.out; have p325 : 0 ≤ (x28_2 : Int) := asm; have q325 : x28_2 < (l3.length : Int) := asm; obtain ⟨ad325, e325, hx325_0⟩ := Kd.at_int HR3.out x28_2 p325 q325; cases e325; have hn325_0 : ad325.block ≠ gb324 := Nat.ne_of_lt (Nat.lt_of_lt_of_le (by have := World.block_lt_of_cell? _ _ hx325_0; first | rwa [add_block] at this | exact this) GW324.out); have hn325_1 : ad325.block ≠ gb324 := Nat.ne_of_lt (Nat.lt_of_lt_of_le (by have := World.block_lt_of_cell? _ _ hx325_0; first | rwa [add_block] at this | exact this) GW324.out); have hn325_2 : ad325.block ≠ gb324 := Nat.ne_of_lt (Nat.lt_of_lt_of_le (by have := World.block_lt_of_cell? _ _ hx325_0; first | rwa [add_block] at this | exact this) GW324.out); replace hx325_0 := hcl HB.out hx325_0; replace hx325_0 := (cell_far (p := ⟨gb324, 0, none⟩) (by first | (rw [add_block]; exact hn325_0) | (show (Addr.add _ _).block ≠ _; rw [add_block]; exact hn325_0) | exact hn325_0) (.int .i64 ((rd_T60 l0_1 x28_2).f0))).trans hx325_0; replace hx325_0 := (cell_far (p := ⟨gb324, 1, none⟩) (by first | (rw [add_block]; exact hn325_1) | (show (Addr.add _ _).block ≠ _; rw [add_block]; exact hn325_1) | exact hn325_1) (.int .i64 ((rd_T60 l0_1 x28_2).f1))).trans hx325_0; replace hx325_0 := (cell_far (p := ⟨gb324, 2, none⟩) (by first | (rw [add_block]; exact hn325_2) | (show (Addr.add _ _).block ≠ _; rw [add_block]; exact hn325_2) | exact hn325_2) (.int .i64 ((rd_T60 l0_1 x28_2).f2))).trans hx325_0; (try have hy325_0 := fun (n_ : Nat) => (show (((((w25.drewN n_).setCell ⟨gb324, 0, none⟩ (.int .i64 ((rd_T60 l0_1 x28_2).f0))).setCell ⟨gb324, 1, none⟩ (.int .i64 ((rd_T60 l0_1 x28_2).f1))).setCell ⟨gb324, 2, none⟩ (.int .i64 ((rd_T60 l0_1 x28_2).f2)))).cell? _ = some _ from hx325_0)); clear hn325_0; clear hn325_1; clear hn325_2; replace p325 := eq_true p325; replace q325 := eq_true q325) | (go_at_call 41; (with_reducible refine (impl_within.calls (rd l3 x28_2) 0 ((rd_T60 l0_1 x28_2).f2) false _ A20.out).mono ?_); rintro e w' ⟨rfl, ⟨nd, rfl⟩⟩; (try first | exact ⟨rfl, _, World.drewN_drewN _ _ _⟩ | exact ⟨rfl, _, Eq.trans (World.drewN_drewN _ _ _) (congrArg (World.drewN _) (Nat.add_assoc _ _ _))⟩)))
                      repeat (go_quiet (first | ((with_reducible refine gate_dst (N := 10) rfl ?_); refine box_event ?hg (N := 10) ?hd (cs := #[.int .i64 0, .int .i64 0, .int .i64 0]) (t := 60) ?hr ?_; (case hd => rfl); (case hg => rfl); (case hr => first | (go_simp; done) | (go_simp; rfl)); intro gb324 hg w25 hbox hb; have BK324 := Aside0.mk (hbox); have GW324 := Aside0.mk ((bsz hg : w.heap.size ≤ gb324)); have GE324 := Aside0.mk ((bsz hg : w.heap.size ≤ gb324)); have NB321_324 := Aside0.mk ((nlt hg BK321.out : gb321 ≠ gb324)); have NB324_321 := Aside0.mk ((ngt hg BK321.out : gb324 ≠ gb321)); replace BK321 := Aside0.mk (bb BK321.out hb); replace HB := Aside0.mk (below_step bel hb); clear hb hbox hg; have hnb26 := NB324_321.out; have hnc26 := NB321_324.out; obtain ⟨hcz27_0, hcz27_1, hcz27_2, hfz27_0, hfz27_1, hfz27_2⟩ := cf3 BK324.out; have p325 : 0 ≤ (x28_2 : Int) := asm; have q325 : x28_2 < (l3.length : Int) := asm; obtain ⟨ad325, e325, hx325_0⟩ := Kd.at_int HR3.out x28_2 p325 q325; cases e325; have hn325_0 : ad325.block ≠ gb324 := Nat.ne_of_lt (Nat.lt_of_lt_of_le (by have := World.block_lt_of_cell? _ _ hx325_0; first | rwa [add_block] at this | exact this) GW324.out); have hn325_1 : ad325.block ≠ gb324 := Nat.ne_of_lt (Nat.lt_of_lt_of_le (by have := World.block_lt_of_cell? _ _ hx325_0; first | rwa [add_block] at this | exact this) GW324.out); have hn325_2 : ad325.block ≠ gb324 := Nat.ne_of_lt (Nat.lt_of_lt_of_le (by have := World.block_lt_of_cell? _ _ hx325_0; first | rwa [add_block] at this | exact this) GW324.out); replace hx325_0 := hcl HB.out hx325_0; replace hx325_0 := (cell_far (p := ⟨gb324, 0, none⟩) (by first | (rw [add_block]; exact hn325_0) | (show (Addr.add _ _).block ≠ _; rw [add_block]; exact hn325_0) | exact hn325_0) (.int .i64 ((rd_T60 l0_1 x28_2).f0))).trans hx325_0; replace hx325_0 := (cell_far (p := ⟨gb324, 1, none⟩) (by first | (rw [add_block]; exact hn325_1) | (show (Addr.add _ _).block ≠ _; rw [add_block]; exact hn325_1) | exact hn325_1) (.int .i64 ((rd_T60 l0_1 x28_2).f1))).trans hx325_0; replace hx325_0 := (cell_far (p := ⟨gb324, 2, none⟩) (by first | (rw [add_block]; exact hn325_2) | (show (Addr.add _ _).block ≠ _; rw [add_block]; exact hn325_2) | exact hn325_2) (.int .i64 ((rd_T60 l0_1 x28_2).f2))).trans hx325_0; (try have hy325_0 := fun (n_ : Nat) => (show (((((w25.drewN n_).setCell ⟨gb324, 0, none⟩ (.int .i64 ((rd_T60 l0_1 x28_2).f0))).setCell ⟨gb324, 1, none⟩ (.int .i64 ((rd_T60 l0_1 x28_2).f1))).setCell ⟨gb324, 2, none⟩ (.int .i64 ((rd_T60 l0_1 x28_2).f2)))).cell? _ = some _ from hx325_0)); clear hn325_0; clear hn325_1; clear hn325_2; replace p325 := eq_true p325; replace q325 := eq_true q325) | (go_at_call 41; (with_reducible refine (impl_within.calls (rd l3 x28_2) 0 ((rd_T60 l0_1 x28_2).f2) false _ A20.out).mono ?_); rintro e w' ⟨rfl, ⟨nd, rfl⟩⟩; (try first | exact ⟨rfl, _, World.drewN_drewN _ _ _⟩ | exact ⟨rfl, _, Eq.trans (World.drewN_drewN _ _ _) (congrArg (World.drewN _) (Nat.add_assoc _ _ _))⟩))); try go_wp2_with (first | ((with_reducible refine gate_dst (N := 10) rfl ?_); refine box_event ?hg (N := 10) ?hd (cs := #[.int .i64 0, .int .i64 0, .int .i64 0]) (t := 60) ?hr ?_; (case hd => rfl); (case hg => rfl); (case hr => first | (go_simp; done) | (go_simp; rfl)); intro gb324 hg w25 hbox hb; have BK324 := Aside0.mk (hbox); have GW324 := Aside0.mk ((bsz hg : w.heap.size ≤ gb324)); have GE324 := Aside0.mk ((bsz hg : w.heap.size ≤ gb324)); have NB321_324 := Aside0.mk ((nlt hg BK321.out : gb321 ≠ gb324)); have NB324_321 := Aside0.mk ((ngt hg BK321.out : gb324 ≠ gb321)); replace BK321 := Aside0.mk (bb BK321.out hb); replace HB := Aside0.mk (below_step bel hb); clear hb hbox hg; have hnb26 := NB324_321.out; have hnc26 := NB321_324.out; obtain ⟨hcz27_0, hcz27_1, hcz27_2, hfz27_0, hfz27_1, hfz27_2⟩ := cf3 BK324.out; have p325 : 0 ≤ (x28_2 : Int) := asm; have q325 : x28_2 < (l3.length : Int) := asm; obtain ⟨ad325, e325, hx325_0⟩ := Kd.at_int HR3.out x28_2 p325 q325; cases e325; have hn325_0 : ad325.block ≠ gb324 := Nat.ne_of_lt (Nat.lt_of_lt_of_le (by have := World.block_lt_of_cell? _ _ hx325_0; first | rwa [add_block] at this | exact this) GW324.out); have hn325_1 : ad325.block ≠ gb324 := Nat.ne_of_lt (Nat.lt_of_lt_of_le (by have := World.block_lt_of_cell? _ _ hx325_0; first | rwa [add_block] at this | exact this) GW324.out); have hn325_2 : ad325.block ≠ gb324 := Nat.ne_of_lt (Nat.lt_of_lt_of_le (by have := World.block_lt_of_cell? _ _ hx325_0; first | rwa [add_block] at this | exact this) GW324.out); replace hx325_0 := hcl HB.out hx325_0; replace hx325_0 := (cell_far (p := ⟨gb324, 0, none⟩) (by first | (rw [add_block]; exact hn325_0) | (show (Addr.add _ _).block ≠ _; rw [add_block]; exact hn325_0) | exact hn325_0) (.int .i64 ((rd_T60 l0_1 x28_2).f0))).trans hx325_0; replace hx325_0 := (cell_far (p := ⟨gb324, 1, none⟩) (by first | (rw [add_block]; exact hn325_1) | (show (Addr.add _ _).block ≠ _; rw [add_block]; exact hn325_1) | exact hn325_1) (.int .i64 ((rd_T60 l0_1 x28_2).f1))).trans hx325_0; replace hx325_0 := (cell_far (p := ⟨gb324, 2, none⟩) (by first | (rw [add_block]; exact hn325_2) | (show (Addr.add _ _).block ≠ _; rw [add_block]; exact hn325_2) | exact hn325_2) (.int .i64 ((rd_T60 l0_1 x28_2).f2))).trans hx325_0; (try have hy325_0 := fun (n_ : Nat) => (show (((((w25.drewN n_).setCell ⟨gb324, 0, none⟩ (.int .i64 ((rd_T60 l0_1 x28_2).f0))).setCell ⟨gb324, 1, none⟩ (.int .i64 ((rd_T60 l0_1 x28_2).f1))).setCell ⟨gb324, 2, none⟩ (.int .i64 ((rd_T60 l0_1 x28_2).f2)))).cell? _ = some _ from hx325_0)); clear hn325_0; clear hn325_1; clear hn325_2; replace p325 := eq_true p325; replace q325 := eq_true q325) | (go_at_call 41; (with_reducible refine (impl_within.calls (rd l3 x28_2) 0 ((rd_T60 l0_1 x28_2).f2) false _ A20.out).mono ?_); rintro e w' ⟨rfl, ⟨nd, rfl⟩⟩; (try first | exact ⟨rfl, _, World.drewN_drewN _ _ _⟩ | exact ⟨rfl, _, Eq.trans (World.drewN_drewN _ _ _) (congrArg (World.drewN _) (Nat.add_assoc _ _ _))⟩))))
                      go_ret
                      exact ⟨er, bel⟩
                  · rw [if_neg c19] at H
                    exact absurd H (by simp)
                · rw [if_neg c18] at H
                  exact absurd H (by simp)
              · rw [if_neg c17] at H
                exact absurd H (by simp)
            · rw [if_neg c16] at H
              have c16b0 : decide (x28_2 < (l0_1.length : Int)) = false := decide_eq_false c16
              clear c16
              have H' := Aside0.mk H
              clear H
              obtain ⟨hcz28_0, hcz28_1, hfz28_0, hfz28_1⟩ := cf2 BK321.out
              go_wp2
              repeat (go_quiet (fail); try go_wp2)
              go_loopg [44] k2 (fun kq v44 w' => ∃ (x44_3 : Int), v44 = .int .i64 x44_3 ∧ Aside0 (impl_IsFlow.l1 kq a1 a2 l3 a0_0 x44_3 a0_0 l0_1 = some r) ∧ Aside0 (kq ≤ k2) ∧ Aside0 (w'.heap[gb321]? = some (.cells #[.int .i64 a0_0, (.slice A0_1 l0_1.length c0_1)] 29 (0, 0))) ∧ Aside0 (Below w.heap.size w w'))
              case atStart => exact ⟨(0), (es), H', ⟨Nat.le_refl _⟩, ⟨bk BK321.out⟩, ⟨bel⟩⟩
              case round =>
                clear H'
                try clear c1; try clear c2; try clear p2; try clear c3; try clear p3; try clear q3; try clear hx3; try clear p6; try clear c8; try clear c14; try clear c16; try clear c16b0; try clear c17; try clear c17b0; try clear c18; try clear c18b0; try clear c19; try clear c19b0; try clear c21; try clear c23; try clear c26; try clear c27; try clear hcz11_0; try clear hcz11_1; try clear hcz12_0; try clear hcz12_1; try clear hcz15_0; try clear hcz15_1; try clear hcz24_0; try clear hcz24_1; try clear hcz24_2; try clear hcz27_0; try clear hcz27_1; try clear hcz27_2; try clear hcz28_0; try clear hcz28_1; try clear hcz9_0; try clear hcz9_1; try clear hfz11_0; try clear hfz11_1; try clear hfz12_0; try clear hfz12_1; try clear hfz15_0; try clear hfz15_1; try clear hfz24_0; try clear hfz24_1; try clear hfz24_2; try clear hfz27_0; try clear hfz27_1; try clear hfz27_2; try clear hfz28_0; try clear hfz28_1; try clear hfz9_0; try clear hfz9_1; try clear hx323_0; try clear hx323_1; try clear hx323_2; try clear hx325_0; try clear p2; try clear p323; try clear p325; try clear q323; try clear q325
                obtain ⟨x44_3, rfl, HA, HK3, BK321, HB⟩ := hrel
                cases gk with
                | zero => exact absurd HA.out (by simp [impl_IsFlow.l1])
                | succ k3 =>
                  have H := HA.out
                  clear HA
                  simp only [impl_IsFlow.l1] at H
                  by_cases c29 : x44_3 < a0_0
                  · rw [if_pos c29] at H
                    have c29b0 : decide (x44_3 < a0_0) = true := decide_eq_true c29
                    clear c29
                    by_cases c30 : x44_3 = a1
                    · rw [if_pos c30] at H
                      have c30b0 : (x44_3 == a1) = true := beq_iff_eq.mpr c30
                      have c30b1 : (x44_3 != a1) = false := bne_eq_false_iff_eq.mpr c30
                      clear c30
                      have H' := Aside0.mk H
                      clear H
                      go_wp2
                      repeat (go_quiet (fail); try go_wp2)
                      go_roundg k3
                      case measure => have := HJ4.out; have := HK2.out; have := HK3.out; omega
                      case rel => exact ⟨(wrap64 (x44_3 + 1)), (es), H', ⟨by have := HJ4.out; have := HK2.out; have := HK3.out; omega⟩, ⟨bk BK321.out⟩, ⟨bel⟩⟩
                    · rw [if_neg c30] at H
                      have c30b0 : (x44_3 == a1) = false := beq_eq_false_iff_ne.mpr c30
                      have c30b1 : (x44_3 != a1) = true := bne_iff_ne.mpr c30
                      by_cases c31 : x44_3 = a2
                      · rw [if_pos c31] at H
                        have c31b0 : (x44_3 == a2) = true := beq_iff_eq.mpr c31
                        have c31b1 : (x44_3 != a2) = false := bne_eq_false_iff_eq.mpr c31
                        clear c31
                        have H' := Aside0.mk H
                        clear H
                        go_wp2
                        repeat (go_quiet (fail); try go_wp2)
                        go_roundg k3
                        case measure => have := HJ4.out; have := HK2.out; have := HK3.out; omega
                        case rel => exact ⟨(wrap64 (x44_3 + 1)), (es), H', ⟨by have := HJ4.out; have := HK2.out; have := HK3.out; omega⟩, ⟨bk BK321.out⟩, ⟨bel⟩⟩
                      · rw [if_neg c31] at H
                        have c31b0 : (x44_3 == a2) = false := beq_eq_false_iff_ne.mpr c31
                        have c31b1 : (x44_3 != a2) = true := bne_iff_ne.mpr c31
                        replace H := Option.bind_eq_some_iff.mp H
                        obtain ⟨t327, A320, H⟩ := H
                        replace H : (if t327 = 0 then (impl_IsFlow.l1 k3 a1 a2 l3 a0_0 (wrap64 (x44_3 + 1)) a0_0 l0_1) else (some false)) = some r := H
                        have A32 := Aside0.mk A320
                        clear A320
                        by_cases c33 : t327 = 0
                        · rw [if_pos c33] at H
                          have c33b0 : (t327 == 0) = true := beq_iff_eq.mpr c33
                          have c33b1 : (t327 != 0) = false := bne_eq_false_iff_eq.mpr c33
                          clear c33
                          have H' := Aside0.mk H
                          clear H
                          obtain ⟨hcz34_0, hcz34_1, hfz34_0, hfz34_1⟩ := cf2 BK321.out
                          go_wp2_with (first | (go_at_call 18; (with_reducible refine (impl_FlowValue.calls k3 a0_0 _ _ l0_1 x44_3 _ _ l3 t327 _ ?side1 ?side2 ?side3 ?side4 A32.out).mono ?_); (case side1 => exact ck (Kd.C_below HR0_1.out HB.out)); (case side2 => exact HC0_1.out); (case side3 => exact ck (Kd.C_below HR3.out HB.out)); (case side4 => exact HC3.out); rintro e w35 ⟨rfl, hb⟩; replace BK321 := Aside0.mk (bb BK321.out hb); replace HB := Aside0.mk (below_step bel hb); (try clear hb); (try clear hb2); (try clear hk); (try clear hi)))
                          repeat (go_quiet (first | (go_at_call 18; (with_reducible refine (impl_FlowValue.calls k3 a0_0 _ _ l0_1 x44_3 _ _ l3 t327 _ ?side1 ?side2 ?side3 ?side4 A32.out).mono ?_); (case side1 => exact ck (Kd.C_below HR0_1.out HB.out)); (case side2 => exact HC0_1.out); (case side3 => exact ck (Kd.C_below HR3.out HB.out)); (case side4 => exact HC3.out); rintro e w35 ⟨rfl, hb⟩; replace BK321 := Aside0.mk (bb BK321.out hb); replace HB := Aside0.mk (below_step bel hb); (try clear hb); (try clear hb2); (try clear hk); (try clear hi))); try go_wp2_with (first | (go_at_call 18; (with_reducible refine (impl_FlowValue.calls k3 a0_0 _ _ l0_1 x44_3 _ _ l3 t327 _ ?side1 ?side2 ?side3 ?side4 A32.out).mono ?_); (case side1 => exact ck (Kd.C_below HR0_1.out HB.out)); (case side2 => exact HC0_1.out); (case side3 => exact ck (Kd.C_below HR3.out HB.out)); (case side4 => exact HC3.out); rintro e w35 ⟨rfl, hb⟩; replace BK321 := Aside0.mk (bb BK321.out hb); replace HB := Aside0.mk (below_step bel hb); (try clear hb); (try clear hb2); (try clear hk); (try clear hi))))
                          go_roundg k3
                          case measure => have := HJ4.out; have := HK2.out; have := HK3.out; omega
                          case rel => exact ⟨(wrap64 (x44_3 + 1)), (es), H', ⟨by have := HJ4.out; have := HK2.out; have := HK3.out; omega⟩, ⟨bk BK321.out⟩, ⟨bel⟩⟩
                        · rw [if_neg c33] at H
                          have c33b0 : (t327 == 0) = false := beq_eq_false_iff_ne.mpr c33
                          have c33b1 : (t327 != 0) = true := bne_iff_ne.mpr c33
                          obtain rfl := Option.some.inj H
                          obtain ⟨hcz36_0, hcz36_1, hfz36_0, hfz36_1⟩ := cf2 BK321.out
                          go_wp2_with (first | (go_at_call 18; (with_reducible refine (impl_FlowValue.calls k3 a0_0 _ _ l0_1 x44_3 _ _ l3 t327 _ ?side1 ?side2 ?side3 ?side4 A32.out).mono ?_); (case side1 => exact ck (Kd.C_below HR0_1.out HB.out)); (case side2 => exact HC0_1.out); (case side3 => exact ck (Kd.C_below HR3.out HB.out)); (case side4 => exact HC3.out); rintro e w37 ⟨rfl, hb⟩; replace BK321 := Aside0.mk (bb BK321.out hb); replace HB := Aside0.mk (below_step bel hb); (try clear hb); (try clear hb2); (try clear hk); (try clear hi)))
                          repeat (go_quiet (first | (go_at_call 18; (with_reducible refine (impl_FlowValue.calls k3 a0_0 _ _ l0_1 x44_3 _ _ l3 t327 _ ?side1 ?side2 ?side3 ?side4 A32.out).mono ?_); (case side1 => exact ck (Kd.C_below HR0_1.out HB.out)); (case side2 => exact HC0_1.out); (case side3 => exact ck (Kd.C_below HR3.out HB.out)); (case side4 => exact HC3.out); rintro e w37 ⟨rfl, hb⟩; replace BK321 := Aside0.mk (bb BK321.out hb); replace HB := Aside0.mk (below_step bel hb); (try clear hb); (try clear hb2); (try clear hk); (try clear hi))); try go_wp2_with (first | (go_at_call 18; (with_reducible refine (impl_FlowValue.calls k3 a0_0 _ _ l0_1 x44_3 _ _ l3 t327 _ ?side1 ?side2 ?side3 ?side4 A32.out).mono ?_); (case side1 => exact ck (Kd.C_below HR0_1.out HB.out)); (case side2 => exact HC0_1.out); (case side3 => exact ck (Kd.C_below HR3.out HB.out)); (case side4 => exact HC3.out); rintro e w37 ⟨rfl, hb⟩; replace BK321 := Aside0.mk (bb BK321.out hb); replace HB := Aside0.mk (below_step bel hb); (try clear hb); (try clear hb2); (try clear hk); (try clear hi))))
                          go_ret
                          exact ⟨er, bel⟩
                  · rw [if_neg c29] at H
                    have c29b0 : decide (x44_3 < a0_0) = false := decide_eq_false c29
                    clear c29
                    obtain rfl := Option.some.inj H
                    go_wp2
                    repeat (go_quiet (fail); try go_wp2)
                    go_ret
                    exact ⟨er, bel⟩

end Go.Proofs.Yteaemblallbgpaa.X
