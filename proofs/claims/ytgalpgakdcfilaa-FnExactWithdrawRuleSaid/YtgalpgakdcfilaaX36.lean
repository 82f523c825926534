-- Written by a program of this session (wip/xp.py, over the kit's print) out of the translation: functions, and the walks that show them.
import Derived.Test.YtgalpgakdcfilaaX0
import Derived.Test.YtgalpgakdcfilaaX30
import Derived.Test.YtgalpgakdcfilaaX35
namespace Go.Proofs.Ytgalpgakdcfilaa.X
open Go.RowKit Go.Proofs.YtgalpgakdcfilaaW.PrintWords Go.Proofs.YtgalpgakdcfilaaW.PrintLast Go.Proofs.YtgalpgakdcfilaaW.PrintMore
attribute [local go_sem] max2_int min2_int max_two min_two max_three min_three max_four min_four   -- for this text's walks alone
set_option linter.unusedVariables false
set_option linter.unusedSimpArgs false

/-! ### impl_WithdrawRule: function 22 -/
mutual
def impl_WithdrawRule.j0 : Nat → Int → Bool → List (S101) → Int → Int → Int → List Int → Bool → List (S71) → List Int → List Int → Option (Int)
  | 0, _, _, _, _, _, _, _, _, _, _, _ => none
  | k + 1, x1, x17, x389000, x389001, x389002, x389003, x389004, x389005, x389006, x389007, x389008 => if x17 = true then (some 0) else (impl_WithdrawRule.l0 k x1 0 0 x389006 (x389006.length : Int) 0)
def impl_WithdrawRule.l0 : Nat → Int → Int → Int → List (S71) → Int → Int → Option (Int)
  | 0, _, _, _, _, _, _ => none
  | k + 1, x1, x5, x6, x19, x20, x21 => if x21 < x20 then (if 0 ≤ x21 then (if x21 < (x19.length : Int) then ((impl_plays.f ((rd_T71 x19 x21).f0) ((rd_T71 x19 x21).f1) ((rd_T71 x19 x21).f2) ((rd_T71 x19 x21).f3) ((rd_T71 x19 x21).f4) x1).bind fun t393 => (if t393 = true then (impl_WithdrawRule.j2 k x1 x5 x6 x19 x20 x21 (((rd_T71 x19 x21).f4) == 4) ((rd_T71 x19 x21).f0) ((rd_T71 x19 x21).f1) ((rd_T71 x19 x21).f2) ((rd_T71 x19 x21).f3) ((rd_T71 x19 x21).f4)) else (impl_WithdrawRule.j2 k x1 x5 x6 x19 x20 x21 true ((rd_T71 x19 x21).f0) ((rd_T71 x19 x21).f1) ((rd_T71 x19 x21).f2) ((rd_T71 x19 x21).f3) ((rd_T71 x19 x21).f4)))) else (none)) else (none)) else (if (wrap64 (2 * x6)) ≥ x5 then (some 2) else (some 1))
def impl_WithdrawRule.j2 : Nat → Int → Int → Int → List (S71) → Int → Int → Bool → Int → Int → Int → Int → Int → Option (Int)
  | 0, _, _, _, _, _, _, _, _, _, _, _, _ => none
  | k + 1, x1, x5, x6, x19, x20, x21, x33, x393000, x393001, x393002, x393003, x393004 => if x33 = true then (impl_WithdrawRule.l0 k x1 x5 x6 x19 x20 (wrap64 (x21 + 1))) else ((impl_IsOpen.f x393000 x393001 x393002 x393003 x393004).bind fun t394 => (if t394 = true then (impl_WithdrawRule.l0 k x1 (wrap64 (x5 + 1)) x6 x19 x20 (wrap64 (x21 + 1))) else (impl_WithdrawRule.l0 k x1 (wrap64 (x5 + 1)) (wrap64 (x6 + 1)) x19 x20 (wrap64 (x21 + 1)))))
end
def impl_WithdrawRule.f (k : Nat) (l0_0 : List (S101)) (a0_1 : Int) (a0_2 : Int) (a0_3 : Int) (l0_4 : List Int) (a0_5 : Bool) (l0_6 : List (S71)) (l0_7 : List Int) (l0_8 : List Int) (a1 : Int) : Option (Int) := (impl_BookOk.f k l0_0 a0_1 a0_2 a0_3 l0_4 a0_5 l0_6 l0_7 l0_8).bind fun t389 => (if t389 = true then ((impl_isTeam.f l0_0 a0_1 a0_2 a0_3 l0_4 a0_5 l0_6 l0_7 l0_8 a1).bind fun t390 => (impl_WithdrawRule.j0 k a1 (!t390) l0_0 a0_1 a0_2 a0_3 l0_4 a0_5 l0_6 l0_7 l0_8)) else (impl_WithdrawRule.j0 k a1 true l0_0 a0_1 a0_2 a0_3 l0_4 a0_5 l0_6 l0_7 l0_8))
theorem impl_WithdrawRule.mono_l : ∀ k, (∀ y0 y1 y2 y3 y4 y5 y6 y7 y8 y9 y10, LeO (impl_WithdrawRule.j0 k y0 y1 y2 y3 y4 y5 y6 y7 y8 y9 y10) (impl_WithdrawRule.j0 (k + 1) y0 y1 y2 y3 y4 y5 y6 y7 y8 y9 y10)) ∧ (∀ y0 y1 y2 y3 y4 y5, LeO (impl_WithdrawRule.l0 k y0 y1 y2 y3 y4 y5) (impl_WithdrawRule.l0 (k + 1) y0 y1 y2 y3 y4 y5)) ∧ (∀ y0 y1 y2 y3 y4 y5 y6 y7 y8 y9 y10 y11, LeO (impl_WithdrawRule.j2 k y0 y1 y2 y3 y4 y5 y6 y7 y8 y9 y10 y11) (impl_WithdrawRule.j2 (k + 1) y0 y1 y2 y3 y4 y5 y6 y7 y8 y9 y10 y11))
  | 0 => ⟨fun _ _ _ _ _ _ _ _ _ _ _ r h => by simp [impl_WithdrawRule.j0] at h, fun _ _ _ _ _ _ r h => by simp [impl_WithdrawRule.l0] at h, fun _ _ _ _ _ _ _ _ _ _ _ _ r h => by simp [impl_WithdrawRule.j2] at h⟩
  | k + 1 => by
    obtain ⟨ih0, ih1, ih2⟩ := impl_WithdrawRule.mono_l k
    refine ⟨?_, ?_, ?_⟩
    · intro y0 y1 y2 y3 y4 y5 y6 y7 y8 y9 y10
      unfold impl_WithdrawRule.j0
      repeat' first
      | (with_reducible exact ih0 _ _ _ _ _ _ _ _ _ _ _)
      | (with_reducible exact ih1 _ _ _ _ _ _)
      | (with_reducible exact ih2 _ _ _ _ _ _ _ _ _ _ _ _)
      | (with_reducible exact impl_BookOk.mono _ _ _ _ _ _ _ _ _ _)
      | (with_reducible exact LeO.refl _)
      | (with_reducible exact LeO.none _)
      | (with_reducible refine LeO.ite ?_ ?_)
      | (with_reducible refine LeO.bind ?_ (fun _ => ?_))
      | exact ih0 _ _ _ _ _ _ _ _ _ _ _
      | exact ih1 _ _ _ _ _ _
      | exact ih2 _ _ _ _ _ _ _ _ _ _ _ _
      | exact impl_BookOk.mono _ _ _ _ _ _ _ _ _ _
      | exact LeO.none _
      | refine LeO.ite ?_ ?_
      | refine LeO.bind ?_ (fun _ => ?_)
    · intro y0 y1 y2 y3 y4 y5
      unfold impl_WithdrawRule.l0
      repeat' first
      | (with_reducible exact ih0 _ _ _ _ _ _ _ _ _ _ _)
      | (with_reducible exact ih1 _ _ _ _ _ _)
      | (with_reducible exact ih2 _ _ _ _ _ _ _ _ _ _ _ _)
      | (with_reducible exact impl_BookOk.mono _ _ _ _ _ _ _ _ _ _)
      | (with_reducible exact LeO.refl _)
      | (with_reducible exact LeO.none _)
      | (with_reducible refine LeO.ite ?_ ?_)
      | (with_reducible refine LeO.bind ?_ (fun _ => ?_))
      | exact ih0 _ _ _ _ _ _ _ _ _ _ _
      | exact ih1 _ _ _ _ _ _
      | exact ih2 _ _ _ _ _ _ _ _ _ _ _ _
      | exact impl_BookOk.mono _ _ _ _ _ _ _ _ _ _
      | exact LeO.none _
      | refine LeO.ite ?_ ?_
      | refine LeO.bind ?_ (fun _ => ?_)
    · intro y0 y1 y2 y3 y4 y5 y6 y7 y8 y9 y10 y11
      unfold impl_WithdrawRule.j2
      repeat' first
      | (with_reducible exact ih0 _ _ _ _ _ _ _ _ _ _ _)
      | (with_reducible exact ih1 _ _ _ _ _ _)
      | (with_reducible exact ih2 _ _ _ _ _ _ _ _ _ _ _ _)
      | (with_reducible exact impl_BookOk.mono _ _ _ _ _ _ _ _ _ _)
      | (with_reducible exact LeO.refl _)
      | (with_reducible exact LeO.none _)
      | (with_reducible refine LeO.ite ?_ ?_)
      | (with_reducible refine LeO.bind ?_ (fun _ => ?_))
      | exact ih0 _ _ _ _ _ _ _ _ _ _ _
      | exact ih1 _ _ _ _ _ _
      | exact ih2 _ _ _ _ _ _ _ _ _ _ _ _
      | exact impl_BookOk.mono _ _ _ _ _ _ _ _ _ _
      | exact LeO.none _
      | refine LeO.ite ?_ ?_
      | refine LeO.bind ?_ (fun _ => ?_)
theorem impl_WithdrawRule.mono : ∀ a0 a1 a2 a3 a4 a5 a6 a7 a8 a9 k, LeO (impl_WithdrawRule.f k a0 a1 a2 a3 a4 a5 a6 a7 a8 a9) (impl_WithdrawRule.f (k + 1) a0 a1 a2 a3 a4 a5 a6 a7 a8 a9) := by
  intro a0 a1 a2 a3 a4 a5 a6 a7 a8 a9 k
  obtain ⟨ih0, ih1, ih2⟩ := impl_WithdrawRule.mono_l k
  unfold impl_WithdrawRule.f
  repeat' first
      | (with_reducible exact ih0 _ _ _ _ _ _ _ _ _ _ _)
      | (with_reducible exact ih1 _ _ _ _ _ _)
      | (with_reducible exact ih2 _ _ _ _ _ _ _ _ _ _ _ _)
      | (with_reducible exact impl_BookOk.mono _ _ _ _ _ _ _ _ _ _)
      | (with_reducible exact LeO.refl _)
      | (with_reducible exact LeO.none _)
      | (with_reducible refine LeO.ite ?_ ?_)
      | (with_reducible refine LeO.bind ?_ (fun _ => ?_))
      | exact ih0 _ _ _ _ _ _ _ _ _ _ _
      | exact ih1 _ _ _ _ _ _
      | exact ih2 _ _ _ _ _ _ _ _ _ _ _ _
      | exact impl_BookOk.mono _ _ _ _ _ _ _ _ _ _
      | exact LeO.none _
      | refine LeO.ite ?_ ?_
      | refine LeO.bind ?_ (fun _ => ?_)
set_option maxHeartbeats 8000000 in
set_option maxRecDepth 100000 in
theorem impl_WithdrawRule.calls (k : Nat) (A0_0 : Option Addr) (c0_0 : Nat) (l0_0 : List (S101)) (a0_1 : Int) (a0_2 : Int) (a0_3 : Int) (A0_4 : Option Addr) (c0_4 : Nat) (l0_4 : List Int) (a0_5 : Bool) (A0_6 : Option Addr) (c0_6 : Nat) (l0_6 : List (S71)) (A0_7 : Option Addr) (c0_7 : Nat) (l0_7 : List Int) (A0_8 : Option Addr) (c0_8 : Nat) (l0_8 : List Int) (a1 : Int) (r : Int) (w : World) (hr0_0 : Kd.C k101 w A0_0 l0_0.length l0_0) (hc0_0 : l0_0.length ≤ c0_0) (hr0_4 : Kd.C (Kd.int .i64) w A0_4 l0_4.length l0_4) (hc0_4 : l0_4.length ≤ c0_4) (hr0_6 : Kd.C k71 w A0_6 l0_6.length l0_6) (hc0_6 : l0_6.length ≤ c0_6) (hr0_7 : Kd.C (Kd.int .i64) w A0_7 l0_7.length l0_7) (hc0_7 : l0_7.length ≤ c0_7) (hr0_8 : Kd.C (Kd.int .i64) w A0_8 l0_8.length l0_8) (hc0_8 : l0_8.length ≤ c0_8) (h : impl_WithdrawRule.f k l0_0 a0_1 a0_2 a0_3 l0_4 a0_5 l0_6 l0_7 l0_8 a1 = some r) :
    Calls Try.prog 22 #[.agg #[.slice A0_0 l0_0.length c0_0, .int .i64 a0_1, .int .i64 a0_2, .int .i64 a0_3, .slice A0_4 l0_4.length c0_4, .bool a0_5, .slice A0_6 l0_6.length c0_6, .slice A0_7 l0_7.length c0_7, .slice A0_8 l0_8.length c0_8], .int .i64 a1] w fun e w' => e = .returned (.int .i64 r) ∧ Below w.heap.size w w' := by
  have hu37 := Try.underlying37
  have hu71 := Try.underlying71
  have HR0_0 := Aside0.mk hr0_0
  have HC0_0 := Aside0.mk hc0_0
  clear hr0_0 hc0_0
  have HR0_4 := Aside0.mk hr0_4
  have HC0_4 := Aside0.mk hc0_4
  clear hr0_4 hc0_4
  have HR0_6 := Aside0.mk hr0_6
  have HC0_6 := Aside0.mk hc0_6
  clear hr0_6 hc0_6
  have HR0_7 := Aside0.mk hr0_7
  have HC0_7 := Aside0.mk hc0_7
  clear hr0_7 hc0_7
  have HR0_8 := Aside0.mk hr0_8
  have HC0_8 := Aside0.mk hc0_8
  clear hr0_8 hc0_8
  have HB := Aside0.mk (Below.refl w.heap.size w)
  have H : ((impl_BookOk.f k l0_0 a0_1 a0_2 a0_3 l0_4 a0_5 l0_6 l0_7 l0_8).bind fun t389 => (if t389 = true then ((impl_isTeam.f l0_0 a0_1 a0_2 a0_3 l0_4 a0_5 l0_6 l0_7 l0_8 a1).bind fun t390 => (impl_WithdrawRule.j0 k a1 (!t390) l0_0 a0_1 a0_2 a0_3 l0_4 a0_5 l0_6 l0_7 l0_8)) else (impl_WithdrawRule.j0 k a1 true l0_0 a0_1 a0_2 a0_3 l0_4 a0_5 l0_6 l0_7 l0_8))) = some r := h
  clear h
  have HC3 := Aside0.mk H
  clear H
  go_enter Try.func22, Try.ntmps22
  go_upto_region 1 with (first | ((with_reducible refine gate_dst (N := 2) rfl ?_); refine box_event ?hg (N := 2) ?hd (cs := #[.slice A0_0 l0_0.length c0_0, .int .i64 a0_1, .int .i64 a0_2, .int .i64 a0_3, .slice A0_4 l0_4.length c0_4, .bool a0_5, .slice A0_6 l0_6.length c0_6, .slice A0_7 l0_7.length c0_7, .slice A0_8 l0_8.length c0_8]) (t := 37) ?hr ?_; (case hd => rfl); (case hg => rfl); (case hr => first | (go_simp; done) | (go_simp; rfl)); intro gb388 hg w4 hbox hb; have BK388 := Aside0.mk (hbox); have GW388 := Aside0.mk ((bsz hg : w.heap.size ≤ gb388)); have GE388 := Aside0.mk ((bsz hg : w.heap.size ≤ gb388)); replace HB := Aside0.mk (below_step bel hb); clear hb hbox hg))
  (try simp only [Act.put, List.setIfInBounds_toArray, List.set_cons_zero, List.set_cons_succ])
  go_cut [17] (fun v17 wc => ∃ (kq : Nat) (x17_2 : Bool), v17 = .bool x17_2 ∧ Aside0 (impl_WithdrawRule.j0 kq a1 x17_2 l0_0 a0_1 a0_2 a0_3 l0_4 a0_5 l0_6 l0_7 l0_8 = some r) ∧ Aside0 (kq ≤ k) ∧ Aside0 (wc.heap[gb388]? = some (.cells #[(.slice A0_0 l0_0.length c0_0), .int .i64 a0_1, .int .i64 a0_2, .int .i64 a0_3, (.slice A0_4 l0_4.length c0_4), .bool a0_5, (.slice A0_6 l0_6.length c0_6), (.slice A0_7 l0_7.length c0_7), (.slice A0_8 l0_8.length c0_8)] 37 (0, 0))) ∧ Aside0 (Below w.heap.size w wc))
  case first =>
    have H := HC3.out
    clear HC3
    replace H := Option.bind_eq_some_iff.mp H
    obtain ⟨t389, A50, H⟩ := H
    replace H : (if t389 = true then ((impl_isTeam.f l0_0 a0_1 a0_2 a0_3 l0_4 a0_5 l0_6 l0_7 l0_8 a1).bind fun t390 => (impl_WithdrawRule.j0 k a1 (!t390) l0_0 a0_1 a0_2 a0_3 l0_4 a0_5 l0_6 l0_7 l0_8)) else (impl_WithdrawRule.j0 k a1 true l0_0 a0_1 a0_2 a0_3 l0_4 a0_5 l0_6 l0_7 l0_8)) = some r := H
    have A5 := Aside0.mk A50
    clear A50
    by_cases c6 : t389 = true
    · subst c6
      have H1 : ((impl_isTeam.f l0_0 a0_1 a0_2 a0_3 l0_4 a0_5 l0_6 l0_7 l0_8 a1).bind fun t390 => (impl_WithdrawRule.j0 k a1 (!t390) l0_0 a0_1 a0_2 a0_3 l0_4 a0_5 l0_6 l0_7 l0_8)) = some r := by rw [if_pos rfl] at H; exact H
      clear H
      have H := H1
      clear H1
      replace H := Option.bind_eq_some_iff.mp H
      obtain ⟨t390, A70, H⟩ := H
      replace H : (impl_WithdrawRule.j0 k a1 (!t390) l0_0 a0_1 a0_2 a0_3 l0_4 a0_5 l0_6 l0_7 l0_8) = some r := H
      have A7 := Aside0.mk A70
      clear A70
      have H' := Aside0.mk H
      clear H
      obtain ⟨hcz8_0, hcz8_1, hcz8_2, hcz8_3, hcz8_4, hcz8_5, hcz8_6, hcz8_7, hcz8_8, hfz8_0, hfz8_1, hfz8_2, hfz8_3, hfz8_4, hfz8_5, hfz8_6, hfz8_7, hfz8_8⟩ := cf9 BK388.out
      go_wp2_with (first | ((with_reducible refine gate_callee (f := 54) rfl ?_); refine goesL_ (some 10) rfl rfl Try.func54 (by kernel_rfl) rfl #[.agg #[.slice A0_0 l0_0.length c0_0, .int .i64 a0_1, .int .i64 a0_2, .int .i64 a0_3, .slice A0_4 l0_4.length c0_4, .bool a0_5, .slice A0_6 l0_6.length c0_6, .slice A0_7 l0_7.length c0_7, .slice A0_8 l0_8.length c0_8]] rfl ga ?_; (with_reducible refine (impl_BookOk.calls k _ _ l0_0 a0_1 a0_2 a0_3 _ _ l0_4 a0_5 _ _ l0_6 _ _ l0_7 _ _ l0_8 true _ ?side1 ?side2 ?side3 ?side4 ?side5 ?side6 ?side7 ?side8 ?side9 ?side10 A5.out).mono ?_); (case side1 => exact ck (Kd.C_below HR0_0.out HB.out)); (case side2 => exact HC0_0.out); (case side3 => exact ck (Kd.C_below HR0_4.out HB.out)); (case side4 => exact HC0_4.out); (case side5 => exact ck (Kd.C_below HR0_6.out HB.out)); (case side6 => exact HC0_6.out); (case side7 => exact ck (Kd.C_below HR0_7.out HB.out)); (case side8 => exact HC0_7.out); (case side9 => exact ck (Kd.C_below HR0_8.out HB.out)); (case side10 => exact HC0_8.out); rintro e w9 ⟨rfl, hb⟩; refine ⟨_, rfl, ?_⟩; replace BK388 := Aside0.mk (bb BK388.out hb); replace HB := Aside0.mk (below_step bel hb); (try clear hb); obtain ⟨hcz10_0, hcz10_1, hcz10_2, hcz10_3, hcz10_4, hcz10_5, hcz10_6, hcz10_7, hcz10_8, hfz10_0, hfz10_1, hfz10_2, hfz10_3, hfz10_4, hfz10_5, hfz10_6, hfz10_7, hfz10_8⟩ := cf9 BK388.out) | (go_at_call 60; (with_reducible refine (impl_isTeam.calls _ _ l0_0 a0_1 a0_2 a0_3 _ _ l0_4 a0_5 _ _ l0_6 _ _ l0_7 _ _ l0_8 a1 t390 _ ?side1 ?side2 ?side3 ?side4 ?side5 ?side6 ?side7 ?side8 ?side9 ?side10 A7.out).mono ?_); (case side1 => exact ck (Kd.C_below HR0_0.out HB.out)); (case side2 => exact HC0_0.out); (case side3 => exact ck (Kd.C_below HR0_4.out HB.out)); (case side4 => exact HC0_4.out); (case side5 => exact ck (Kd.C_below HR0_6.out HB.out)); (case side6 => exact HC0_6.out); (case side7 => exact ck (Kd.C_below HR0_7.out HB.out)); (case side8 => exact HC0_7.out); (case side9 => exact ck (Kd.C_below HR0_8.out HB.out)); (case side10 => exact HC0_8.out); rintro e w11 ⟨rfl, hb⟩; replace BK388 := Aside0.mk (bb BK388.out hb); replace HB := Aside0.mk (below_step bel hb); (try clear hb); (try clear hb2); (try clear hk); (try clear hi)))
      go_meet
      case rel => exact ⟨_, (!t390), (es), H', ⟨by first | omega | exact Nat.le_refl _⟩, ⟨bk BK388.out⟩, ⟨bel⟩⟩
    · replace c6 := Bool.eq_false_iff.mpr c6
      subst c6
      have H1 : (impl_WithdrawRule.j0 k a1 true l0_0 a0_1 a0_2 a0_3 l0_4 a0_5 l0_6 l0_7 l0_8) = some r := by rw [if_neg (show ¬ (false = true) by decide)] at H; exact H
      clear H
      have H := H1
      clear H1
      have H' := Aside0.mk H
      clear H
      obtain ⟨hcz12_0, hcz12_1, hcz12_2, hcz12_3, hcz12_4, hcz12_5, hcz12_6, hcz12_7, hcz12_8, hfz12_0, hfz12_1, hfz12_2, hfz12_3, hfz12_4, hfz12_5, hfz12_6, hfz12_7, hfz12_8⟩ := cf9 BK388.out
      go_wp2_with (first | ((with_reducible refine gate_callee (f := 54) rfl ?_); refine goesL_ (some 10) rfl rfl Try.func54 (by kernel_rfl) rfl #[.agg #[.slice A0_0 l0_0.length c0_0, .int .i64 a0_1, .int .i64 a0_2, .int .i64 a0_3, .slice A0_4 l0_4.length c0_4, .bool a0_5, .slice A0_6 l0_6.length c0_6, .slice A0_7 l0_7.length c0_7, .slice A0_8 l0_8.length c0_8]] rfl ga ?_; (with_reducible refine (impl_BookOk.calls k _ _ l0_0 a0_1 a0_2 a0_3 _ _ l0_4 a0_5 _ _ l0_6 _ _ l0_7 _ _ l0_8 false _ ?side1 ?side2 ?side3 ?side4 ?side5 ?side6 ?side7 ?side8 ?side9 ?side10 A5.out).mono ?_); (case side1 => exact ck (Kd.C_below HR0_0.out HB.out)); (case side2 => exact HC0_0.out); (case side3 => exact ck (Kd.C_below HR0_4.out HB.out)); (case side4 => exact HC0_4.out); (case side5 => exact ck (Kd.C_below HR0_6.out HB.out)); (case side6 => exact HC0_6.out); (case side7 => exact ck (Kd.C_below HR0_7.out HB.out)); (case side8 => exact HC0_7.out); (case side9 => exact ck (Kd.C_below HR0_8.out HB.out)); (case side10 => exact HC0_8.out); rintro e w13 ⟨rfl, hb⟩; refine ⟨_, rfl, ?_⟩; replace BK388 := Aside0.mk (bb BK388.out hb); replace HB := Aside0.mk (below_step bel hb); (try clear hb)))
      go_meet
      case rel => exact ⟨_, (true), (es), H', ⟨by first | omega | exact Nat.le_refl _⟩, ⟨bk BK388.out⟩, ⟨bel⟩⟩
  case rest =>
    clear HC3
    try clear c2; try clear p2; try clear c5; try clear c6; try clear hcz10_0; try clear hcz10_1; try clear hcz10_2; try clear hcz10_3; try clear hcz10_4; try clear hcz10_5; try clear hcz10_6; try clear hcz10_7; try clear hcz10_8; try clear hcz12_0; try clear hcz12_1; try clear hcz12_2; try clear hcz12_3; try clear hcz12_4; try clear hcz12_5; try clear hcz12_6; try clear hcz12_7; try clear hcz12_8; try clear hcz8_0; try clear hcz8_1; try clear hcz8_2; try clear hcz8_3; try clear hcz8_4; try clear hcz8_5; try clear hcz8_6; try clear hcz8_7; try clear hcz8_8; try clear hfz10_0; try clear hfz10_1; try clear hfz10_2; try clear hfz10_3; try clear hfz10_4; try clear hfz10_5; try clear hfz10_6; try clear hfz10_7; try clear hfz10_8; try clear hfz12_0; try clear hfz12_1; try clear hfz12_2; try clear hfz12_3; try clear hfz12_4; try clear hfz12_5; try clear hfz12_6; try clear hfz12_7; try clear hfz12_8; try clear hfz8_0; try clear hfz8_1; try clear hfz8_2; try clear hfz8_3; try clear hfz8_4; try clear hfz8_5; try clear hfz8_6; try clear hfz8_7; try clear hfz8_8
    obtain ⟨kq, x17_2, rfl, HA, HJ2, BK388, HB⟩ := hcut
    cases kq with
    | zero => exact absurd HA.out (by simp [impl_WithdrawRule.j0])
    | succ kj2 =>
      have H := HA.out
      clear HA
      simp only [impl_WithdrawRule.j0] at H
      by_cases c14 : x17_2 = true
      · subst c14
        have H1 : (some 0) = some r := by rw [if_pos rfl] at H; exact H
        clear H
        have H := H1
        clear H1
        obtain rfl := Option.some.inj H
        go_wp2
        go_ret
        exact ⟨er, bel⟩
      · replace c14 := Bool.eq_false_iff.mpr c14
        subst c14
        have H1 : (impl_WithdrawRule.l0 kj2 a1 0 0 l0_6 (l0_6.length : Int) 0) = some r := by rw [if_neg (show ¬ (false = true) by decide)] at H; exact H
        clear H
        have H := H1
        clear H1
        have H' := Aside0.mk H
        clear H
        obtain ⟨hcz15_0, hcz15_1, hcz15_2, hcz15_3, hcz15_4, hcz15_5, hcz15_6, hcz15_7, hcz15_8, hfz15_0, hfz15_1, hfz15_2, hfz15_3, hfz15_4, hfz15_5, hfz15_6, hfz15_7, hfz15_8⟩ := cf9 BK388.out
        go_wp2
        go_loopg [5, 6, 21] kj2 (fun kq v5 v6 v21 w' => ∃ (x5_2 : Int) (x6_2 : Int) (x21_2 : Int), v5 = .int .i64 x5_2 ∧ v6 = .int .i64 x6_2 ∧ v21 = .int .i64 x21_2 ∧ Aside0 (impl_WithdrawRule.l0 kq a1 x5_2 x6_2 l0_6 (l0_6.length : Int) x21_2 = some r) ∧ Aside0 (kq ≤ kj2) ∧ Aside0 (w'.heap[gb388]? = some (.cells #[(.slice A0_0 l0_0.length c0_0), .int .i64 a0_1, .int .i64 a0_2, .int .i64 a0_3, (.slice A0_4 l0_4.length c0_4), .bool a0_5, (.slice A0_6 l0_6.length c0_6), (.slice A0_7 l0_7.length c0_7), (.slice A0_8 l0_8.length c0_8)] 37 (0, 0))) ∧ Aside0 (Below w.heap.size w w'))
        case atStart => exact ⟨(0), (0), (0), (es), (es), (es), H', ⟨Nat.le_refl _⟩, ⟨bk BK388.out⟩, ⟨bel⟩⟩
        case round =>
          clear H'
          try clear c1; try clear c2; try clear p2; try clear c5; try clear c6; try clear c14; try clear hcz10_0; try clear hcz10_1; try clear hcz10_2; try clear hcz10_3; try clear hcz10_4; try clear hcz10_5; try clear hcz10_6; try clear hcz10_7; try clear hcz10_8; try clear hcz12_0; try clear hcz12_1; try clear hcz12_2; try clear hcz12_3; try clear hcz12_4; try clear hcz12_5; try clear hcz12_6; try clear hcz12_7; try clear hcz12_8; try clear hcz15_0; try clear hcz15_1; try clear hcz15_2; try clear hcz15_3; try clear hcz15_4; try clear hcz15_5; try clear hcz15_6; try clear hcz15_7; try clear hcz15_8; try clear hcz8_0; try clear hcz8_1; try clear hcz8_2; try clear hcz8_3; try clear hcz8_4; try clear hcz8_5; try clear hcz8_6; try clear hcz8_7; try clear hcz8_8; try clear hfz10_0; try clear hfz10_1; try clear hfz10_2; try clear hfz10_3; try clear hfz10_4; try clear hfz10_5; try clear hfz10_6; try clear hfz10_7; try clear hfz10_8; try clear hfz12_0; try clear hfz12_1; try clear hfz12_2; try clear hfz12_3; try clear hfz12_4; try clear hfz12_5; try clear hfz12_6; try clear hfz12_7; try clear hfz12_8; try clear hfz15_0; try clear hfz15_1; try clear hfz15_2; try clear hfz15_3; try clear hfz15_4; try clear hfz15_5; try clear hfz15_6; try clear hfz15_7; try clear hfz15_8; try clear hfz8_0; try clear hfz8_1; try clear hfz8_2; try clear hfz8_3; try clear hfz8_4; try clear hfz8_5; try clear hfz8_6; try clear hfz8_7; try clear hfz8_8; try clear p2
          obtain ⟨x5_2, x6_2, x21_2, rfl, rfl, rfl, HA, HK2, BK388, HB⟩ := hrel
          cases gk with
          | zero => exact absurd HA.out (by simp [impl_WithdrawRule.l0])
          | succ k2 =>
            have H := HA.out
            clear HA
            simp only [impl_WithdrawRule.l0] at H
            by_cases c16 : x21_2 < (l0_6.length : Int)
            · rw [if_pos c16] at H
              have c16b0 : decide (x21_2 < (l0_6.length : Int)) = true := decide_eq_true c16
              clear c16
              by_cases c17 : 0 ≤ x21_2
              · rw [if_pos c17] at H
                have c17b0 : decide (0 ≤ x21_2) = true := decide_eq_true c17
                clear c17
                by_cases c18 : x21_2 < (l0_6.length : Int)
                · rw [if_pos c18] at H
                  have c18b0 : decide (x21_2 < (l0_6.length : Int)) = true := decide_eq_true c18
                  clear c18
                  have HC19 := Aside0.mk H
                  clear H
                  have p391 : 0 ≤ (x21_2 : Int) := asm
                  have q391 : x21_2 < (l0_6.length : Int) := asm
                  obtain ⟨ad391, e391, hx391_0, hx391_1, hx391_2, hx391_3, hx391_4⟩ := at_T71 HR0_6.out x21_2 p391 q391
                  cases e391
                  replace hx391_0 := hcl HB.out hx391_0
                  replace hx391_1 := hcl HB.out hx391_1
                  replace hx391_2 := hcl HB.out hx391_2
                  replace hx391_3 := hcl HB.out hx391_3
                  replace hx391_4 := hcl HB.out hx391_4
                  replace p391 := eq_true p391
                  replace q391 := eq_true q391
                  go_upto_region 7 with (first | ((with_reducible refine gate_dst (N := 8) rfl ?_); refine box_event ?hg (N := 8) ?hd (cs := #[.int .i64 0, .int .i64 0, .int .i64 0, .int .i64 0, .int .i64 0]) (t := 71) ?hr ?_; (case hd => rfl); (case hg => rfl); (case hr => first | (go_simp; done) | (go_simp; rfl)); intro gb392 hg w20 hbox hb; have BK392 := Aside0.mk (hbox); have GW392 := Aside0.mk ((bsz hg : w.heap.size ≤ gb392)); have GE392 := Aside0.mk ((bsz hg : w.heap.size ≤ gb392)); have NB388_392 := Aside0.mk ((nlt hg BK388.out : gb388 ≠ gb392)); have NB392_388 := Aside0.mk ((ngt hg BK388.out : gb392 ≠ gb388)); replace BK388 := Aside0.mk (bb BK388.out hb); replace HB := Aside0.mk (below_step bel hb); clear hb hbox hg; have hnb21 := NB392_388.out; have hnc21 := NB388_392.out; obtain ⟨hcz22_0, hcz22_1, hcz22_2, hcz22_3, hcz22_4, hfz22_0, hfz22_1, hfz22_2, hfz22_3, hfz22_4⟩ := cf5 BK392.out))
                  (try simp only [Act.put, List.setIfInBounds_toArray, List.set_cons_zero, List.set_cons_succ])
                  go_cut [33] (fun v33 wc => ∃ (kq : Nat) (x33_18 : Bool), v33 = .bool x33_18 ∧ Aside0 (impl_WithdrawRule.j2 kq a1 x5_2 x6_2 l0_6 (l0_6.length : Int) x21_2 x33_18 ((rd_T71 l0_6 x21_2).f0) ((rd_T71 l0_6 x21_2).f1) ((rd_T71 l0_6 x21_2).f2) ((rd_T71 l0_6 x21_2).f3) ((rd_T71 l0_6 x21_2).f4) = some r) ∧ Aside0 (kq ≤ k2) ∧ Aside0 (wc.heap[gb388]? = some (.cells #[(.slice A0_0 l0_0.length c0_0), .int .i64 a0_1, .int .i64 a0_2, .int .i64 a0_3, (.slice A0_4 l0_4.length c0_4), .bool a0_5, (.slice (some ad391) l0_6.length c0_6), (.slice A0_7 l0_7.length c0_7), (.slice A0_8 l0_8.length c0_8)] 37 (0, 0))) ∧ Aside0 (wc.heap[gb392]? = some (.cells #[.int .i64 ((rd_T71 l0_6 x21_2).f0), .int .i64 ((rd_T71 l0_6 x21_2).f1), .int .i64 ((rd_T71 l0_6 x21_2).f2), .int .i64 ((rd_T71 l0_6 x21_2).f3), .int .i64 ((rd_T71 l0_6 x21_2).f4)] 71 (0, 0))) ∧ Aside0 (Below w.heap.size w wc))
                  case first =>
                    have H := HC19.out
                    clear HC19
                    replace H := Option.bind_eq_some_iff.mp H
                    obtain ⟨t393, A230, H⟩ := H
                    replace H : (if t393 = true then (impl_WithdrawRule.j2 k2 a1 x5_2 x6_2 l0_6 (l0_6.length : Int) x21_2 (((rd_T71 l0_6 x21_2).f4) == 4) ((rd_T71 l0_6 x21_2).f0) ((rd_T71 l0_6 x21_2).f1) ((rd_T71 l0_6 x21_2).f2) ((rd_T71 l0_6 x21_2).f3) ((rd_T71 l0_6 x21_2).f4)) else (impl_WithdrawRule.j2 k2 a1 x5_2 x6_2 l0_6 (l0_6.length : Int) x21_2 true ((rd_T71 l0_6 x21_2).f0) ((rd_T71 l0_6 x21_2).f1) ((rd_T71 l0_6 x21_2).f2) ((rd_T71 l0_6 x21_2).f3) ((rd_T71 l0_6 x21_2).f4))) = some r := H
                    have A23 := Aside0.mk A230
                    clear A230
                    by_cases c24 : t393 = true
                    · subst c24
                      have H1 : (impl_WithdrawRule.j2 k2 a1 x5_2 x6_2 l0_6 (l0_6.length : Int) x21_2 (((rd_T71 l0_6 x21_2).f4) == 4) ((rd_T71 l0_6 x21_2).f0) ((rd_T71 l0_6 x21_2).f1) ((rd_T71 l0_6 x21_2).f2) ((rd_T71 l0_6 x21_2).f3) ((rd_T71 l0_6 x21_2).f4)) = some r := by rw [if_pos rfl] at H; exact H
                      clear H
                      have H := H1
                      clear H1
                      have H' := Aside0.mk H
                      clear H
                      have hnb25 := NB392_388.out
                      have hnc25 := NB388_392.out
                      obtain ⟨hcz26_0, hcz26_1, hcz26_2, hcz26_3, hcz26_4, hfz26_0, hfz26_1, hfz26_2, hfz26_3, hfz26_4⟩ := cf5 BK392.out
                      go_wp2_with (first | ((with_reducible refine gate_callee (f := 56) rfl ?_); refine goesL_ (some 27) rfl rfl Try.func56 (by kernel_rfl) rfl #[.agg #[.int .i64 ((rd_T71 l0_6 x21_2).f0), .int .i64 ((rd_T71 l0_6 x21_2).f1), .int .i64 ((rd_T71 l0_6 x21_2).f2), .int .i64 ((rd_T71 l0_6 x21_2).f3), .int .i64 ((rd_T71 l0_6 x21_2).f4)], .int .i64 a1] rfl ga ?_; (with_reducible refine (impl_plays.calls ((rd_T71 l0_6 x21_2).f0) ((rd_T71 l0_6 x21_2).f1) ((rd_T71 l0_6 x21_2).f2) ((rd_T71 l0_6 x21_2).f3) ((rd_T71 l0_6 x21_2).f4) a1 true _ A23.out).mono ?_); rintro e w27 ⟨rfl, hb⟩; refine ⟨_, rfl, ?_⟩; replace BK388 := Aside0.mk (bb BK388.out hb); replace BK392 := Aside0.mk (blk_below (g := gb392) (o := .cells #[.int .i64 ((rd_T71 l0_6 x21_2).f0), .int .i64 ((rd_T71 l0_6 x21_2).f1), .int .i64 ((rd_T71 l0_6 x21_2).f2), .int .i64 ((rd_T71 l0_6 x21_2).f3), .int .i64 ((rd_T71 l0_6 x21_2).f4)] 71 (0, 0)) (by (with_reducible repeat (first | refine blk_drewN ?_ _ | refine blk_drew ?_ | refine blk_alloc ?_ _)); refine blk_put (cs := #[.int .i64 ((rd_T71 l0_6 x21_2).f0), .int .i64 ((rd_T71 l0_6 x21_2).f1), .int .i64 ((rd_T71 l0_6 x21_2).f2), .int .i64 ((rd_T71 l0_6 x21_2).f3), .int .i64 0]) ?_ 4 _ rfl; (with_reducible repeat (first | refine blk_drewN ?_ _ | refine blk_drew ?_ | refine blk_alloc ?_ _)); refine blk_put (cs := #[.int .i64 ((rd_T71 l0_6 x21_2).f0), .int .i64 ((rd_T71 l0_6 x21_2).f1), .int .i64 ((rd_T71 l0_6 x21_2).f2), .int .i64 0, .int .i64 0]) ?_ 3 _ rfl; (with_reducible repeat (first | refine blk_drewN ?_ _ | refine blk_drew ?_ | refine blk_alloc ?_ _)); refine blk_put (cs := #[.int .i64 ((rd_T71 l0_6 x21_2).f0), .int .i64 ((rd_T71 l0_6 x21_2).f1), .int .i64 0, .int .i64 0, .int .i64 0]) ?_ 2 _ rfl; (with_reducible repeat (first | refine blk_drewN ?_ _ | refine blk_drew ?_ | refine blk_alloc ?_ _)); refine blk_put (cs := #[.int .i64 ((rd_T71 l0_6 x21_2).f0), .int .i64 0, .int .i64 0, .int .i64 0, .int .i64 0]) ?_ 1 _ rfl; (with_reducible repeat (first | refine blk_drewN ?_ _ | refine blk_drew ?_ | refine blk_alloc ?_ _)); refine blk_put (cs := #[.int .i64 0, .int .i64 0, .int .i64 0, .int .i64 0, .int .i64 0]) ?_ 0 _ rfl; (with_reducible repeat (first | refine blk_drewN ?_ _ | refine blk_drew ?_ | refine blk_alloc ?_ _)); exact BK392.out) hb); replace HB := Aside0.mk (below_step bel hb); (try clear hb); obtain ⟨hcz28_0, hcz28_1, hcz28_2, hcz28_3, hcz28_4, hfz28_0, hfz28_1, hfz28_2, hfz28_3, hfz28_4⟩ := cf5 BK392.out))
                      go_meet
                      case rel => exact ⟨_, ((((rd_T71 l0_6 x21_2).f4) == 4)), (es), H', ⟨by have := HJ2.out; have := HK2.out; first | omega | exact Nat.le_refl _⟩, ⟨bk BK388.out⟩, ⟨bk BK392.out⟩, ⟨bel⟩⟩
                    · replace c24 := Bool.eq_false_iff.mpr c24
                      subst c24
                      have H1 : (impl_WithdrawRule.j2 k2 a1 x5_2 x6_2 l0_6 (l0_6.length : Int) x21_2 true ((rd_T71 l0_6 x21_2).f0) ((rd_T71 l0_6 x21_2).f1) ((rd_T71 l0_6 x21_2).f2) ((rd_T71 l0_6 x21_2).f3) ((rd_T71 l0_6 x21_2).f4)) = some r := by rw [if_neg (show ¬ (false = true) by decide)] at H; exact H
                      clear H
                      have H := H1
                      clear H1
                      have H' := Aside0.mk H
                      clear H
                      have hnb29 := NB392_388.out
                      have hnc29 := NB388_392.out
                      obtain ⟨hcz30_0, hcz30_1, hcz30_2, hcz30_3, hcz30_4, hfz30_0, hfz30_1, hfz30_2, hfz30_3, hfz30_4⟩ := cf5 BK392.out
                      go_wp2_with (first | ((with_reducible refine gate_callee (f := 56) rfl ?_); refine goesL_ (some 27) rfl rfl Try.func56 (by kernel_rfl) rfl #[.agg #[.int .i64 ((rd_T71 l0_6 x21_2).f0), .int .i64 ((rd_T71 l0_6 x21_2).f1), .int .i64 ((rd_T71 l0_6 x21_2).f2), .int .i64 ((rd_T71 l0_6 x21_2).f3), .int .i64 ((rd_T71 l0_6 x21_2).f4)], .int .i64 a1] rfl ga ?_; (with_reducible refine (impl_plays.calls ((rd_T71 l0_6 x21_2).f0) ((rd_T71 l0_6 x21_2).f1) ((rd_T71 l0_6 x21_2).f2) ((rd_T71 l0_6 x21_2).f3) ((rd_T71 l0_6 x21_2).f4) a1 false _ A23.out).mono ?_); rintro e w31 ⟨rfl, hb⟩; refine ⟨_, rfl, ?_⟩; replace BK388 := Aside0.mk (bb BK388.out hb); replace BK392 := Aside0.mk (blk_below (g := gb392) (o := .cells #[.int .i64 ((rd_T71 l0_6 x21_2).f0), .int .i64 ((rd_T71 l0_6 x21_2).f1), .int .i64 ((rd_T71 l0_6 x21_2).f2), .int .i64 ((rd_T71 l0_6 x21_2).f3), .int .i64 ((rd_T71 l0_6 x21_2).f4)] 71 (0, 0)) (by (with_reducible repeat (first | refine blk_drewN ?_ _ | refine blk_drew ?_ | refine blk_alloc ?_ _)); refine blk_put (cs := #[.int .i64 ((rd_T71 l0_6 x21_2).f0), .int .i64 ((rd_T71 l0_6 x21_2).f1), .int .i64 ((rd_T71 l0_6 x21_2).f2), .int .i64 ((rd_T71 l0_6 x21_2).f3), .int .i64 0]) ?_ 4 _ rfl; (with_reducible repeat (first | refine blk_drewN ?_ _ | refine blk_drew ?_ | refine blk_alloc ?_ _)); refine blk_put (cs := #[.int .i64 ((rd_T71 l0_6 x21_2).f0), .int .i64 ((rd_T71 l0_6 x21_2).f1), .int .i64 ((rd_T71 l0_6 x21_2).f2), .int .i64 0, .int .i64 0]) ?_ 3 _ rfl; (with_reducible repeat (first | refine blk_drewN ?_ _ | refine blk_drew ?_ | refine blk_alloc ?_ _)); refine blk_put (cs := #[.int .i64 ((rd_T71 l0_6 x21_2).f0), .int .i64 ((rd_T71 l0_6 x21_2).f1), .int .i64 0, .int .i64 0, .int .i64 0]) ?_ 2 _ rfl; (with_reducible repeat (first | refine blk_drewN ?_ _ | refine blk_drew ?_ | refine blk_alloc ?_ _)); refine blk_put (cs := #[.int .i64 ((rd_T71 l0_6 x21_2).f0), .int .i64 0, .int .i64 0, .int .i64 0, .int .i64 0]) ?_ 1 _ rfl; (with_reducible repeat (first | refine blk_drewN ?_ _ | refine blk_drew ?_ | refine blk_alloc ?_ _)); refine blk_put (cs := #[.int .i64 0, .int .i64 0, .int .i64 0, .int .i64 0, .int .i64 0]) ?_ 0 _ rfl; (with_reducible repeat (first | refine blk_drewN ?_ _ | refine blk_drew ?_ | refine blk_alloc ?_ _)); exact BK392.out) hb); replace HB := Aside0.mk (below_step bel hb); (try clear hb)))
                      go_meet
                      case rel => exact ⟨_, (true), (es), H', ⟨by have := HJ2.out; have := HK2.out; first | omega | exact Nat.le_refl _⟩, ⟨bk BK388.out⟩, ⟨bk BK392.out⟩, ⟨bel⟩⟩
                  case rest =>
                    clear HC19
                    try clear c1; try clear c2; try clear p2; try clear p3; try clear q3; try clear hx3; try clear c5; try clear c6; try clear c14; try clear c16; try clear c16b0; try clear c17; try clear c17b0; try clear c18; try clear c18b0; try clear c21; try clear c22; try clear c24; try clear c25; try clear c29; try clear hcz10_0; try clear hcz10_1; try clear hcz10_2; try clear hcz10_3; try clear hcz10_4; try clear hcz10_5; try clear hcz10_6; try clear hcz10_7; try clear hcz10_8; try clear hcz12_0; try clear hcz12_1; try clear hcz12_2; try clear hcz12_3; try clear hcz12_4; try clear hcz12_5; try clear hcz12_6; try clear hcz12_7; try clear hcz12_8; try clear hcz15_0; try clear hcz15_1; try clear hcz15_2; try clear hcz15_3; try clear hcz15_4; try clear hcz15_5; try clear hcz15_6; try clear hcz15_7; try clear hcz15_8; try clear hcz22_0; try clear hcz22_1; try clear hcz22_2; try clear hcz22_3; try clear hcz22_4; try clear hcz26_0; try clear hcz26_1; try clear hcz26_2; try clear hcz26_3; try clear hcz26_4; try clear hcz28_0; try clear hcz28_1; try clear hcz28_2; try clear hcz28_3; try clear hcz28_4; try clear hcz30_0; try clear hcz30_1; try clear hcz30_2; try clear hcz30_3; try clear hcz30_4; try clear hcz8_0; try clear hcz8_1; try clear hcz8_2; try clear hcz8_3; try clear hcz8_4; try clear hcz8_5; try clear hcz8_6; try clear hcz8_7; try clear hcz8_8; try clear hfz10_0; try clear hfz10_1; try clear hfz10_2; try clear hfz10_3; try clear hfz10_4; try clear hfz10_5; try clear hfz10_6; try clear hfz10_7; try clear hfz10_8; try clear hfz12_0; try clear hfz12_1; try clear hfz12_2; try clear hfz12_3; try clear hfz12_4; try clear hfz12_5; try clear hfz12_6; try clear hfz12_7; try clear hfz12_8; try clear hfz15_0; try clear hfz15_1; try clear hfz15_2; try clear hfz15_3; try clear hfz15_4; try clear hfz15_5; try clear hfz15_6; try clear hfz15_7; try clear hfz15_8; try clear hfz22_0; try clear hfz22_1; try clear hfz22_2; try clear hfz22_3; try clear hfz22_4; try clear hfz26_0; try clear hfz26_1; try clear hfz26_2; try clear hfz26_3; try clear hfz26_4; try clear hfz28_0; try clear hfz28_1; try clear hfz28_2; try clear hfz28_3; try clear hfz28_4; try clear hfz30_0; try clear hfz30_1; try clear hfz30_2; try clear hfz30_3; try clear hfz30_4; try clear hfz8_0; try clear hfz8_1; try clear hfz8_2; try clear hfz8_3; try clear hfz8_4; try clear hfz8_5; try clear hfz8_6; try clear hfz8_7; try clear hfz8_8; try clear hx391_0; try clear hx391_1; try clear hx391_2; try clear hx391_3; try clear hx391_4; try clear p2; try clear p391; try clear q391
                    obtain ⟨kq, x33_18, rfl, HA, HJ18, BK388, BK392, HB⟩ := hcut
                    cases kq with
                    | zero => exact absurd HA.out (by simp [impl_WithdrawRule.j2])
                    | succ kj18 =>
                      have H := HA.out
                      clear HA
                      simp only [impl_WithdrawRule.j2] at H
                      by_cases c32 : x33_18 = true
                      · subst c32
                        have H1 : (impl_WithdrawRule.l0 kj18 a1 x5_2 x6_2 l0_6 (l0_6.length : Int) (wrap64 (x21_2 + 1))) = some r := by rw [if_pos rfl] at H; exact H
                        clear H
                        have H := H1
                        clear H1
                        have H' := Aside0.mk H
                        clear H
                        go_wp2
                        go_roundg kj18
                        case measure => have := HJ2.out; have := HK2.out; have := HJ18.out; omega
                        case rel => exact ⟨(x5_2), (x6_2), (wrap64 (x21_2 + 1)), (es), (es), (es), H', ⟨by have := HJ2.out; have := HK2.out; have := HJ18.out; omega⟩, ⟨bk BK388.out⟩, ⟨bel⟩⟩
                      · replace c32 := Bool.eq_false_iff.mpr c32
                        subst c32
                        have H1 : ((impl_IsOpen.f ((rd_T71 l0_6 x21_2).f0) ((rd_T71 l0_6 x21_2).f1) ((rd_T71 l0_6 x21_2).f2) ((rd_T71 l0_6 x21_2).f3) ((rd_T71 l0_6 x21_2).f4)).bind fun t394 => (if t394 = true then (impl_WithdrawRule.l0 kj18 a1 (wrap64 (x5_2 + 1)) x6_2 l0_6 (l0_6.length : Int) (wrap64 (x21_2 + 1))) else (impl_WithdrawRule.l0 kj18 a1 (wrap64 (x5_2 + 1)) (wrap64 (x6_2 + 1)) l0_6 (l0_6.length : Int) (wrap64 (x21_2 + 1))))) = some r := by rw [if_neg (show ¬ (false = true) by decide)] at H; exact H
                        clear H
                        have H := H1
                        clear H1
                        replace H := Option.bind_eq_some_iff.mp H
                        obtain ⟨t394, A330, H⟩ := H
                        replace H : (if t394 = true then (impl_WithdrawRule.l0 kj18 a1 (wrap64 (x5_2 + 1)) x6_2 l0_6 (l0_6.length : Int) (wrap64 (x21_2 + 1))) else (impl_WithdrawRule.l0 kj18 a1 (wrap64 (x5_2 + 1)) (wrap64 (x6_2 + 1)) l0_6 (l0_6.length : Int) (wrap64 (x21_2 + 1)))) = some r := H
                        have A33 := Aside0.mk A330
                        clear A330
                        by_cases c34 : t394 = true
                        · subst c34
                          have H1 : (impl_WithdrawRule.l0 kj18 a1 (wrap64 (x5_2 + 1)) x6_2 l0_6 (l0_6.length : Int) (wrap64 (x21_2 + 1))) = some r := by rw [if_pos rfl] at H; exact H
                          clear H
                          have H := H1
                          clear H1
                          have H' := Aside0.mk H
                          clear H
                          have hnb35 := NB392_388.out
                          have hnc35 := NB388_392.out
                          obtain ⟨hcz36_0, hcz36_1, hcz36_2, hcz36_3, hcz36_4, hfz36_0, hfz36_1, hfz36_2, hfz36_3, hfz36_4⟩ := cf5 BK392.out
                          go_wp2_with (first | ((with_reducible refine gate_callee (f := 62) rfl ?_); refine goesL_ (some 37) rfl rfl Try.func62 (by kernel_rfl) rfl #[.agg #[.int .i64 ((rd_T71 l0_6 x21_2).f0), .int .i64 ((rd_T71 l0_6 x21_2).f1), .int .i64 ((rd_T71 l0_6 x21_2).f2), .int .i64 ((rd_T71 l0_6 x21_2).f3), .int .i64 ((rd_T71 l0_6 x21_2).f4)]] rfl ga ?_; (with_reducible refine (impl_IsOpen.calls ((rd_T71 l0_6 x21_2).f0) ((rd_T71 l0_6 x21_2).f1) ((rd_T71 l0_6 x21_2).f2) ((rd_T71 l0_6 x21_2).f3) ((rd_T71 l0_6 x21_2).f4) true _ A33.out).mono ?_); rintro e w37 ⟨rfl, hb⟩; refine ⟨_, rfl, ?_⟩; replace BK388 := Aside0.mk (bb BK388.out hb); replace BK392 := Aside0.mk (bb BK392.out hb); replace HB := Aside0.mk (below_step bel hb); (try clear hb)))
                          go_roundg kj18
                          case measure => have := HJ2.out; have := HK2.out; have := HJ18.out; omega
                          case rel => exact ⟨(wrap64 (x5_2 + 1)), (x6_2), (wrap64 (x21_2 + 1)), (es), (es), (es), H', ⟨by have := HJ2.out; have := HK2.out; have := HJ18.out; omega⟩, ⟨bk BK388.out⟩, ⟨bel⟩⟩
                        · replace c34 := Bool.eq_false_iff.mpr c34
                          subst c34
                          have H1 : (impl_WithdrawRule.l0 kj18 a1 (wrap64 (x5_2 + 1)) (wrap64 (x6_2 + 1)) l0_6 (l0_6.length : Int) (wrap64 (x21_2 + 1))) = some r := by rw [if_neg (show ¬ (false = true) by decide)] at H; exact H
                          clear H
                          have H := H1
                          clear H1
                          have H' := Aside0.mk H
                          clear H
                          have hnb38 := NB392_388.out
                          have hnc38 := NB388_392.out
                          obtain ⟨hcz39_0, hcz39_1, hcz39_2, hcz39_3, hcz39_4, hfz39_0, hfz39_1, hfz39_2, hfz39_3, hfz39_4⟩ := cf5 BK392.out
                          go_wp2_with (first | ((with_reducible refine gate_callee (f := 62) rfl ?_); refine goesL_ (some 37) rfl rfl Try.func62 (by kernel_rfl) rfl #[.agg #[.int .i64 ((rd_T71 l0_6 x21_2).f0), .int .i64 ((rd_T71 l0_6 x21_2).f1), .int .i64 ((rd_T71 l0_6 x21_2).f2), .int .i64 ((rd_T71 l0_6 x21_2).f3), .int .i64 ((rd_T71 l0_6 x21_2).f4)]] rfl ga ?_; (with_reducible refine (impl_IsOpen.calls ((rd_T71 l0_6 x21_2).f0) ((rd_T71 l0_6 x21_2).f1) ((rd_T71 l0_6 x21_2).f2) ((rd_T71 l0_6 x21_2).f3) ((rd_T71 l0_6 x21_2).f4) false _ A33.out).mono ?_); rintro e w40 ⟨rfl, hb⟩; refine ⟨_, rfl, ?_⟩; replace BK388 := Aside0.mk (bb BK388.out hb); replace BK392 := Aside0.mk (bb BK392.out hb); replace HB := Aside0.mk (below_step bel hb); (try clear hb)))
                          go_roundg kj18
                          case measure => have := HJ2.out; have := HK2.out; have := HJ18.out; omega
                          case rel => exact ⟨(wrap64 (x5_2 + 1)), (wrap64 (x6_2 + 1)), (wrap64 (x21_2 + 1)), (es), (es), (es), H', ⟨by have := HJ2.out; have := HK2.out; have := HJ18.out; omega⟩, ⟨bk BK388.out⟩, ⟨bel⟩⟩
                · rw [if_neg c18] at H
                  exact absurd H (by simp)
              · rw [if_neg c17] at H
                exact absurd H (by simp)
            · rw [if_neg c16] at H
              have c16b0 : decide (x21_2 < (l0_6.length : Int)) = false := decide_eq_false c16
              clear c16
              by_cases c41 : (wrap64 (2 * x6_2)) ≥ x5_2
              · rw [if_pos c41] at H
                have c41b0 : decide (x5_2 ≤ (wrap64 (2 * x6_2))) = true := decide_eq_true c41
                clear c41
                obtain rfl := Option.some.inj H
                go_wp2
                go_ret
                exact ⟨er, bel⟩
              · rw [if_neg c41] at H
                have c41b0 : decide (x5_2 ≤ (wrap64 (2 * x6_2))) = false := decide_eq_false c41
                clear c41
                obtain rfl := Option.some.inj H
                go_wp2
                go_ret
                exact ⟨er, bel⟩

end Go.Proofs.Ytgalpgakdcfilaa.X
