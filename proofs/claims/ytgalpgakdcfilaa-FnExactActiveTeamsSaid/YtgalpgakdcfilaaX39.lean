-- Written by a program of this session (wip/xp.py, over the kit's print) out of the translation: functions, and the walks that show them.
import Derived.Test.YtgalpgakdcfilaaX0
import Derived.Test.YtgalpgakdcfilaaX30
import Derived.Test.YtgalpgakdcfilaaX38
namespace Go.Proofs.Ytgalpgakdcfilaa.X
open Go.RowKit Go.Proofs.YtgalpgakdcfilaaW.PrintWords Go.Proofs.YtgalpgakdcfilaaW.PrintLast Go.Proofs.YtgalpgakdcfilaaW.PrintMore
attribute [local go_sem] max2_int min2_int max_two min_two max_three min_three max_four min_four   -- for this text's walks alone
set_option linter.unusedVariables false
set_option linter.unusedSimpArgs false

/-! ### impl_HasWithdrawn: function 20 -/
mutual
def impl_HasWithdrawn.j0 : Nat → Int → Bool → List (S101) → Int → Int → Int → List Int → Bool → List (S71) → List Int → List Int → Option (Bool)
  | 0, _, _, _, _, _, _, _, _, _, _, _ => none
  | k + 1, x1, x16, x518000, x518001, x518002, x518003, x518004, x518005, x518006, x518007, x518008 => if x16 = true then (some false) else (impl_HasWithdrawn.l0 k x1 0 x518006 (x518006.length : Int) 0)
def impl_HasWithdrawn.l0 : Nat → Int → Int → List (S71) → Int → Int → Option (Bool)
  | 0, _, _, _, _, _ => none
  | k + 1, x1, x5, x18, x19, x20 => if x20 < x19 then (if 0 ≤ x20 then (if x20 < (x18.length : Int) then ((impl_plays.f ((rd_T71 x18 x20).f0) ((rd_T71 x18 x20).f1) ((rd_T71 x18 x20).f2) ((rd_T71 x18 x20).f3) ((rd_T71 x18 x20).f4) x1).bind fun t522 => (if t522 = true then (if ((rd_T71 x18 x20).f4) = 4 then (impl_HasWithdrawn.l0 k x1 (wrap64 (x5 + 1)) x18 x19 (wrap64 (x20 + 1))) else (some false)) else (impl_HasWithdrawn.l0 k x1 x5 x18 x19 (wrap64 (x20 + 1))))) else (none)) else (none)) else (some (decide (x5 > 0)))
end
def impl_HasWithdrawn.f (k : Nat) (l0_0 : List (S101)) (a0_1 : Int) (a0_2 : Int) (a0_3 : Int) (l0_4 : List Int) (a0_5 : Bool) (l0_6 : List (S71)) (l0_7 : List Int) (l0_8 : List Int) (a1 : Int) : Option (Bool) := (impl_BookOk.f k l0_0 a0_1 a0_2 a0_3 l0_4 a0_5 l0_6 l0_7 l0_8).bind fun t518 => (if t518 = true then ((impl_isTeam.f l0_0 a0_1 a0_2 a0_3 l0_4 a0_5 l0_6 l0_7 l0_8 a1).bind fun t519 => (impl_HasWithdrawn.j0 k a1 (!t519) l0_0 a0_1 a0_2 a0_3 l0_4 a0_5 l0_6 l0_7 l0_8)) else (impl_HasWithdrawn.j0 k a1 true l0_0 a0_1 a0_2 a0_3 l0_4 a0_5 l0_6 l0_7 l0_8))
theorem impl_HasWithdrawn.mono_l : ∀ k, (∀ y0 y1 y2 y3 y4 y5 y6 y7 y8 y9 y10, LeO (impl_HasWithdrawn.j0 k y0 y1 y2 y3 y4 y5 y6 y7 y8 y9 y10) (impl_HasWithdrawn.j0 (k + 1) y0 y1 y2 y3 y4 y5 y6 y7 y8 y9 y10)) ∧ (∀ y0 y1 y2 y3 y4, LeO (impl_HasWithdrawn.l0 k y0 y1 y2 y3 y4) (impl_HasWithdrawn.l0 (k + 1) y0 y1 y2 y3 y4))
  | 0 => ⟨fun _ _ _ _ _ _ _ _ _ _ _ r h => by simp [impl_HasWithdrawn.j0] at h, fun _ _ _ _ _ r h => by simp [impl_HasWithdrawn.l0] at h⟩
  | k + 1 => by
    obtain ⟨ih0, ih1⟩ := impl_HasWithdrawn.mono_l k
    refine ⟨?_, ?_⟩
    · intro y0 y1 y2 y3 y4 y5 y6 y7 y8 y9 y10
      unfold impl_HasWithdrawn.j0
      repeat' first
      | (with_reducible exact ih0 _ _ _ _ _ _ _ _ _ _ _)
      | (with_reducible exact ih1 _ _ _ _ _)
      | (with_reducible exact impl_BookOk.mono _ _ _ _ _ _ _ _ _ _)
      | (with_reducible exact LeO.refl _)
      | (with_reducible exact LeO.none _)
      | (with_reducible refine LeO.ite ?_ ?_)
      | (with_reducible refine LeO.bind ?_ (fun _ => ?_))
      | exact ih0 _ _ _ _ _ _ _ _ _ _ _
      | exact ih1 _ _ _ _ _
      | exact impl_BookOk.mono _ _ _ _ _ _ _ _ _ _
      | exact LeO.none _
      | refine LeO.ite ?_ ?_
      | refine LeO.bind ?_ (fun _ => ?_)
    · intro y0 y1 y2 y3 y4
      unfold impl_HasWithdrawn.l0
      repeat' first
      | (with_reducible exact ih0 _ _ _ _ _ _ _ _ _ _ _)
      | (with_reducible exact ih1 _ _ _ _ _)
      | (with_reducible exact impl_BookOk.mono _ _ _ _ _ _ _ _ _ _)
      | (with_reducible exact LeO.refl _)
      | (with_reducible exact LeO.none _)
      | (with_reducible refine LeO.ite ?_ ?_)
      | (with_reducible refine LeO.bind ?_ (fun _ => ?_))
      | exact ih0 _ _ _ _ _ _ _ _ _ _ _
      | exact ih1 _ _ _ _ _
      | exact impl_BookOk.mono _ _ _ _ _ _ _ _ _ _
      | exact LeO.none _
      | refine LeO.ite ?_ ?_
      | refine LeO.bind ?_ (fun _ => ?_)
theorem impl_HasWithdrawn.mono : ∀ a0 a1 a2 a3 a4 a5 a6 a7 a8 a9 k, LeO (impl_HasWithdrawn.f k a0 a1 a2 a3 a4 a5 a6 a7 a8 a9) (impl_HasWithdrawn.f (k + 1) a0 a1 a2 a3 a4 a5 a6 a7 a8 a9) := by
  intro a0 a1 a2 a3 a4 a5 a6 a7 a8 a9 k
  obtain ⟨ih0, ih1⟩ := impl_HasWithdrawn.mono_l k
  unfold impl_HasWithdrawn.f
  repeat' first
      | (with_reducible exact ih0 _ _ _ _ _ _ _ _ _ _ _)
      | (with_reducible exact ih1 _ _ _ _ _)
      | (with_reducible exact impl_BookOk.mono _ _ _ _ _ _ _ _ _ _)
      | (with_reducible exact LeO.refl _)
      | (with_reducible exact LeO.none _)
      | (with_reducible refine LeO.ite ?_ ?_)
      | (with_reducible refine LeO.bind ?_ (fun _ => ?_))
      | exact ih0 _ _ _ _ _ _ _ _ _ _ _
      | exact ih1 _ _ _ _ _
      | exact impl_BookOk.mono _ _ _ _ _ _ _ _ _ _
      | exact LeO.none _
      | refine LeO.ite ?_ ?_
      | refine LeO.bind ?_ (fun _ => ?_)
set_option maxHeartbeats 8000000 in
set_option maxRecDepth 100000 in
theorem impl_HasWithdrawn.calls (k : Nat) (A0_0 : Option Addr) (c0_0 : Nat) (l0_0 : List (S101)) (a0_1 : Int) (a0_2 : Int) (a0_3 : Int) (A0_4 : Option Addr) (c0_4 : Nat) (l0_4 : List Int) (a0_5 : Bool) (A0_6 : Option Addr) (c0_6 : Nat) (l0_6 : List (S71)) (A0_7 : Option Addr) (c0_7 : Nat) (l0_7 : List Int) (A0_8 : Option Addr) (c0_8 : Nat) (l0_8 : List Int) (a1 : Int) (r : Bool) (w : World) (hr0_0 : Kd.C k101 w A0_0 l0_0.length l0_0) (hc0_0 : l0_0.length ≤ c0_0) (hr0_4 : Kd.C (Kd.int .i64) w A0_4 l0_4.length l0_4) (hc0_4 : l0_4.length ≤ c0_4) (hr0_6 : Kd.C k71 w A0_6 l0_6.length l0_6) (hc0_6 : l0_6.length ≤ c0_6) (hr0_7 : Kd.C (Kd.int .i64) w A0_7 l0_7.length l0_7) (hc0_7 : l0_7.length ≤ c0_7) (hr0_8 : Kd.C (Kd.int .i64) w A0_8 l0_8.length l0_8) (hc0_8 : l0_8.length ≤ c0_8) (h : impl_HasWithdrawn.f k l0_0 a0_1 a0_2 a0_3 l0_4 a0_5 l0_6 l0_7 l0_8 a1 = some r) :
    Calls Try.prog 20 #[.agg #[.slice A0_0 l0_0.length c0_0, .int .i64 a0_1, .int .i64 a0_2, .int .i64 a0_3, .slice A0_4 l0_4.length c0_4, .bool a0_5, .slice A0_6 l0_6.length c0_6, .slice A0_7 l0_7.length c0_7, .slice A0_8 l0_8.length c0_8], .int .i64 a1] w fun e w' => e = .returned (.bool r) ∧ Below w.heap.size w w' := by
  have hu37 := Try.underlying37
  have hu71 := Try.underlying71
  have HR0_0 := Aside0.mk hr0_0
  have HC0_0 := Aside0.mk hc0_0
  clear hr0_0 hc0_0
  have HR0_4 := Aside0.mk hr0_4
  have HC0_4 := Aside0.mk hc0_4
  clear hr0_4 hc0_4
  have HR0_6 := Aside0.mk hr0_6
  have HC0_6 := Aside0.mk hc0_6
  clear hr0_6 hc0_6
  have HR0_7 := Aside0.mk hr0_7
  have HC0_7 := Aside0.mk hc0_7
  clear hr0_7 hc0_7
  have HR0_8 := Aside0.mk hr0_8
  have HC0_8 := Aside0.mk hc0_8
  clear hr0_8 hc0_8
  have HB := Aside0.mk (Below.refl w.heap.size w)
  have H : ((impl_BookOk.f k l0_0 a0_1 a0_2 a0_3 l0_4 a0_5 l0_6 l0_7 l0_8).bind fun t518 => (if t518 = true then ((impl_isTeam.f l0_0 a0_1 a0_2 a0_3 l0_4 a0_5 l0_6 l0_7 l0_8 a1).bind fun t519 => (impl_HasWithdrawn.j0 k a1 (!t519) l0_0 a0_1 a0_2 a0_3 l0_4 a0_5 l0_6 l0_7 l0_8)) else (impl_HasWithdrawn.j0 k a1 true l0_0 a0_1 a0_2 a0_3 l0_4 a0_5 l0_6 l0_7 l0_8))) = some r := h
  clear h
  have HC3 := Aside0.mk H
  clear H
  go_enter Try.func20, Try.ntmps20
  go_upto_region 1 with (first | ((with_reducible refine gate_dst (N := 2) rfl ?_); refine box_event ?hg (N := 2) ?hd (cs := #[.slice A0_0 l0_0.length c0_0, .int .i64 a0_1, .int .i64 a0_2, .int .i64 a0_3, .slice A0_4 l0_4.length c0_4, .bool a0_5, .slice A0_6 l0_6.length c0_6, .slice A0_7 l0_7.length c0_7, .slice A0_8 l0_8.length c0_8]) (t := 37) ?hr ?_; (case hd => rfl); (case hg => rfl); (case hr => first | (go_simp; done) | (go_simp; rfl)); intro gb517 hg w4 hbox hb; have BK517 := Aside0.mk (hbox); have GW517 := Aside0.mk ((bsz hg : w.heap.size ≤ gb517)); have GE517 := Aside0.mk ((bsz hg : w.heap.size ≤ gb517)); replace HB := Aside0.mk (below_step bel hb); clear hb hbox hg))
  (try simp only [Act.put, List.setIfInBounds_toArray, List.set_cons_zero, List.set_cons_succ])
  go_cut [16] (fun v16 wc => ∃ (kq : Nat) (x16_2 : Bool), v16 = .bool x16_2 ∧ Aside0 (impl_HasWithdrawn.j0 kq a1 x16_2 l0_0 a0_1 a0_2 a0_3 l0_4 a0_5 l0_6 l0_7 l0_8 = some r) ∧ Aside0 (kq ≤ k) ∧ Aside0 (wc.heap[gb517]? = some (.cells #[(.slice A0_0 l0_0.length c0_0), .int .i64 a0_1, .int .i64 a0_2, .int .i64 a0_3, (.slice A0_4 l0_4.length c0_4), .bool a0_5, (.slice A0_6 l0_6.length c0_6), (.slice A0_7 l0_7.length c0_7), (.slice A0_8 l0_8.length c0_8)] 37 (0, 0))) ∧ Aside0 (Below w.heap.size w wc))
  case first =>
    have H := HC3.out
    clear HC3
    replace H := Option.bind_eq_some_iff.mp H
    obtain ⟨t518, A50, H⟩ := H
    replace H : (if t518 = true then ((impl_isTeam.f l0_0 a0_1 a0_2 a0_3 l0_4 a0_5 l0_6 l0_7 l0_8 a1).bind fun t519 => (impl_HasWithdrawn.j0 k a1 (!t519) l0_0 a0_1 a0_2 a0_3 l0_4 a0_5 l0_6 l0_7 l0_8)) else (impl_HasWithdrawn.j0 k a1 true l0_0 a0_1 a0_2 a0_3 l0_4 a0_5 l0_6 l0_7 l0_8)) = some r := H
    have A5 := Aside0.mk A50
    clear A50
    by_cases c6 : t518 = true
    · subst c6
      have H1 : ((impl_isTeam.f l0_0 a0_1 a0_2 a0_3 l0_4 a0_5 l0_6 l0_7 l0_8 a1).bind fun t519 => (impl_HasWithdrawn.j0 k a1 (!t519) l0_0 a0_1 a0_2 a0_3 l0_4 a0_5 l0_6 l0_7 l0_8)) = some r := by rw [if_pos rfl] at H; exact H
      clear H
      have H := H1
      clear H1
      replace H := Option.bind_eq_some_iff.mp H
      obtain ⟨t519, A70, H⟩ := H
      replace H : (impl_HasWithdrawn.j0 k a1 (!t519) l0_0 a0_1 a0_2 a0_3 l0_4 a0_5 l0_6 l0_7 l0_8) = some r := H
      have A7 := Aside0.mk A70
      clear A70
      have H' := Aside0.mk H
      clear H
      obtain ⟨hcz8_0, hcz8_1, hcz8_2, hcz8_3, hcz8_4, hcz8_5, hcz8_6, hcz8_7, hcz8_8, hfz8_0, hfz8_1, hfz8_2, hfz8_3, hfz8_4, hfz8_5, hfz8_6, hfz8_7, hfz8_8⟩ := cf9 BK517.out
      go_wp2_with (first | ((with_reducible refine gate_callee (f := 54) rfl ?_); refine goesL_ (some 9) rfl rfl Try.func54 (by kernel_rfl) rfl #[.agg #[.slice A0_0 l0_0.length c0_0, .int .i64 a0_1, .int .i64 a0_2, .int .i64 a0_3, .slice A0_4 l0_4.length c0_4, .bool a0_5, .slice A0_6 l0_6.length c0_6, .slice A0_7 l0_7.length c0_7, .slice A0_8 l0_8.length c0_8]] rfl ga ?_; (with_reducible refine (impl_BookOk.calls k _ _ l0_0 a0_1 a0_2 a0_3 _ _ l0_4 a0_5 _ _ l0_6 _ _ l0_7 _ _ l0_8 true _ ?side1 ?side2 ?side3 ?side4 ?side5 ?side6 ?side7 ?side8 ?side9 ?side10 A5.out).mono ?_); (case side1 => exact ck (Kd.C_below HR0_0.out HB.out)); (case side2 => exact HC0_0.out); (case side3 => exact ck (Kd.C_below HR0_4.out HB.out)); (case side4 => exact HC0_4.out); (case side5 => exact ck (Kd.C_below HR0_6.out HB.out)); (case side6 => exact HC0_6.out); (case side7 => exact ck (Kd.C_below HR0_7.out HB.out)); (case side8 => exact HC0_7.out); (case side9 => exact ck (Kd.C_below HR0_8.out HB.out)); (case side10 => exact HC0_8.out); rintro e w9 ⟨rfl, hb⟩; refine ⟨_, rfl, ?_⟩; replace BK517 := Aside0.mk (bb BK517.out hb); replace HB := Aside0.mk (below_step bel hb); (try clear hb); obtain ⟨hcz10_0, hcz10_1, hcz10_2, hcz10_3, hcz10_4, hcz10_5, hcz10_6, hcz10_7, hcz10_8, hfz10_0, hfz10_1, hfz10_2, hfz10_3, hfz10_4, hfz10_5, hfz10_6, hfz10_7, hfz10_8⟩ := cf9 BK517.out) | (go_at_call 60; (with_reducible refine (impl_isTeam.calls _ _ l0_0 a0_1 a0_2 a0_3 _ _ l0_4 a0_5 _ _ l0_6 _ _ l0_7 _ _ l0_8 a1 t519 _ ?side1 ?side2 ?side3 ?side4 ?side5 ?side6 ?side7 ?side8 ?side9 ?side10 A7.out).mono ?_); (case side1 => exact ck (Kd.C_below HR0_0.out HB.out)); (case side2 => exact HC0_0.out); (case side3 => exact ck (Kd.C_below HR0_4.out HB.out)); (case side4 => exact HC0_4.out); (case side5 => exact ck (Kd.C_below HR0_6.out HB.out)); (case side6 => exact HC0_6.out); (case side7 => exact ck (Kd.C_below HR0_7.out HB.out)); (case side8 => exact HC0_7.out); (case side9 => exact ck (Kd.C_below HR0_8.out HB.out)); (case side10 => exact HC0_8.out); rintro e w11 ⟨rfl, hb⟩; replace BK517 := Aside0.mk (bb BK517.out hb); replace HB := Aside0.mk (below_step bel hb); (try clear hb); (try clear hb2); (try clear hk); (try clear hi)))
      go_meet
      case rel => exact ⟨_, (!t519), (es), H', ⟨by first | omega | exact Nat.le_refl _⟩, ⟨bk BK517.out⟩, ⟨bel⟩⟩
    · replace c6 := Bool.eq_false_iff.mpr c6
      subst c6
      have H1 : (impl_HasWithdrawn.j0 k a1 true l0_0 a0_1 a0_2 a0_3 l0_4 a0_5 l0_6 l0_7 l0_8) = some r := by rw [if_neg (show ¬ (false = true) by decide)] at H; exact H
      clear H
      have H := H1
      clear H1
      have H' := Aside0.mk H
      clear H
      obtain ⟨hcz12_0, hcz12_1, hcz12_2, hcz12_3, hcz12_4, hcz12_5, hcz12_6, hcz12_7, hcz12_8, hfz12_0, hfz12_1, hfz12_2, hfz12_3, hfz12_4, hfz12_5, hfz12_6, hfz12_7, hfz12_8⟩ := cf9 BK517.out
      go_wp2_with (first | ((with_reducible refine gate_callee (f := 54) rfl ?_); refine goesL_ (some 9) rfl rfl Try.func54 (by kernel_rfl) rfl #[.agg #[.slice A0_0 l0_0.length c0_0, .int .i64 a0_1, .int .i64 a0_2, .int .i64 a0_3, .slice A0_4 l0_4.length c0_4, .bool a0_5, .slice A0_6 l0_6.length c0_6, .slice A0_7 l0_7.length c0_7, .slice A0_8 l0_8.length c0_8]] rfl ga ?_; (with_reducible refine (impl_BookOk.calls k _ _ l0_0 a0_1 a0_2 a0_3 _ _ l0_4 a0_5 _ _ l0_6 _ _ l0_7 _ _ l0_8 false _ ?side1 ?side2 ?side3 ?side4 ?side5 ?side6 ?side7 ?side8 ?side9 ?side10 A5.out).mono ?_); (case side1 => exact ck (Kd.C_below HR0_0.out HB.out)); (case side2 => exact HC0_0.out); (case side3 => exact ck (Kd.C_below HR0_4.out HB.out)); (case side4 => exact HC0_4.out); (case side5 => exact ck (Kd.C_below HR0_6.out HB.out)); (case side6 => exact HC0_6.out); (case side7 => exact ck (Kd.C_below HR0_7.out HB.out)); (case side8 => exact HC0_7.out); (case side9 => exact ck (Kd.C_below HR0_8.out HB.out)); (case side10 => exact HC0_8.out); rintro e w13 ⟨rfl, hb⟩; refine ⟨_, rfl, ?_⟩; replace BK517 := Aside0.mk (bb BK517.out hb); replace HB := Aside0.mk (below_step bel hb); (try clear hb)))
      go_meet
      case rel => exact ⟨_, (true), (es), H', ⟨by first | omega | exact Nat.le_refl _⟩, ⟨bk BK517.out⟩, ⟨bel⟩⟩
  case rest =>
    clear HC3
    try clear c2; try clear p2; try clear c5; try clear c6; try clear hcz10_0; try clear hcz10_1; try clear hcz10_2; try clear hcz10_3; try clear hcz10_4; try clear hcz10_5; try clear hcz10_6; try clear hcz10_7; try clear hcz10_8; try clear hcz12_0; try clear hcz12_1; try clear hcz12_2; try clear hcz12_3; try clear hcz12_4; try clear hcz12_5; try clear hcz12_6; try clear hcz12_7; try clear hcz12_8; try clear hcz8_0; try clear hcz8_1; try clear hcz8_2; try clear hcz8_3; try clear hcz8_4; try clear hcz8_5; try clear hcz8_6; try clear hcz8_7; try clear hcz8_8; try clear hfz10_0; try clear hfz10_1; try clear hfz10_2; try clear hfz10_3; try clear hfz10_4; try clear hfz10_5; try clear hfz10_6; try clear hfz10_7; try clear hfz10_8; try clear hfz12_0; try clear hfz12_1; try clear hfz12_2; try clear hfz12_3; try clear hfz12_4; try clear hfz12_5; try clear hfz12_6; try clear hfz12_7; try clear hfz12_8; try clear hfz8_0; try clear hfz8_1; try clear hfz8_2; try clear hfz8_3; try clear hfz8_4; try clear hfz8_5; try clear hfz8_6; try clear hfz8_7; try clear hfz8_8
    obtain ⟨kq, x16_2, rfl, HA, HJ2, BK517, HB⟩ := hcut
    cases kq with
    | zero => exact absurd HA.out (by simp [impl_HasWithdrawn.j0])
    | succ kj2 =>
      have H := HA.out
      clear HA
      simp only [impl_HasWithdrawn.j0] at H
      by_cases c14 : x16_2 = true
      · subst c14
        have H1 : (some false) = some r := by rw [if_pos rfl] at H; exact H
        clear H
        have H := H1
        clear H1
        obtain rfl := Option.some.inj H
        go_wp2
        go_ret
        exact ⟨er, bel⟩
      · replace c14 := Bool.eq_false_iff.mpr c14
        subst c14
        have H1 : (impl_HasWithdrawn.l0 kj2 a1 0 l0_6 (l0_6.length : Int) 0) = some r := by rw [if_neg (show ¬ (false = true) by decide)] at H; exact H
        clear H
        have H := H1
        clear H1
        have H' := Aside0.mk H
        clear H
        obtain ⟨hcz15_0, hcz15_1, hcz15_2, hcz15_3, hcz15_4, hcz15_5, hcz15_6, hcz15_7, hcz15_8, hfz15_0, hfz15_1, hfz15_2, hfz15_3, hfz15_4, hfz15_5, hfz15_6, hfz15_7, hfz15_8⟩ := cf9 BK517.out
        go_wp2
        go_loopg [5, 20] kj2 (fun kq v5 v20 w' => ∃ (x5_2 : Int) (x20_2 : Int), v5 = .int .i64 x5_2 ∧ v20 = .int .i64 x20_2 ∧ Aside0 (impl_HasWithdrawn.l0 kq a1 x5_2 l0_6 (l0_6.length : Int) x20_2 = some r) ∧ Aside0 (kq ≤ kj2) ∧ Aside0 (w'.heap[gb517]? = some (.cells #[(.slice A0_0 l0_0.length c0_0), .int .i64 a0_1, .int .i64 a0_2, .int .i64 a0_3, (.slice A0_4 l0_4.length c0_4), .bool a0_5, (.slice A0_6 l0_6.length c0_6), (.slice A0_7 l0_7.length c0_7), (.slice A0_8 l0_8.length c0_8)] 37 (0, 0))) ∧ Aside0 (Below w.heap.size w w'))
        case atStart => exact ⟨(0), (0), (es), (es), H', ⟨Nat.le_refl _⟩, ⟨bk BK517.out⟩, ⟨bel⟩⟩
        case round =>
          clear H'
          try clear c1; try clear c2; try clear p2; try clear c5; try clear c6; try clear c14; try clear hcz10_0; try clear hcz10_1; try clear hcz10_2; try clear hcz10_3; try clear hcz10_4; try clear hcz10_5; try clear hcz10_6; try clear hcz10_7; try clear hcz10_8; try clear hcz12_0; try clear hcz12_1; try clear hcz12_2; try clear hcz12_3; try clear hcz12_4; try clear hcz12_5; try clear hcz12_6; try clear hcz12_7; try clear hcz12_8; try clear hcz15_0; try clear hcz15_1; try clear hcz15_2; try clear hcz15_3; try clear hcz15_4; try clear hcz15_5; try clear hcz15_6; try clear hcz15_7; try clear hcz15_8; try clear hcz8_0; try clear hcz8_1; try clear hcz8_2; try clear hcz8_3; try clear hcz8_4; try clear hcz8_5; try clear hcz8_6; try clear hcz8_7; try clear hcz8_8; try clear hfz10_0; try clear hfz10_1; try clear hfz10_2; try clear hfz10_3; try clear hfz10_4; try clear hfz10_5; try clear hfz10_6; try clear hfz10_7; try clear hfz10_8; try clear hfz12_0; try clear hfz12_1; try clear hfz12_2; try clear hfz12_3; try clear hfz12_4; try clear hfz12_5; try clear hfz12_6; try clear hfz12_7; try clear hfz12_8; try clear hfz15_0; try clear hfz15_1; try clear hfz15_2; try clear hfz15_3; try clear hfz15_4; try clear hfz15_5; try clear hfz15_6; try clear hfz15_7; try clear hfz15_8; try clear hfz8_0; try clear hfz8_1; try clear hfz8_2; try clear hfz8_3; try clear hfz8_4; try clear hfz8_5; try clear hfz8_6; try clear hfz8_7; try clear hfz8_8; try clear p2
          obtain ⟨x5_2, x20_2, rfl, rfl, HA, HK2, BK517, HB⟩ := hrel
          cases gk with
          | zero => exact absurd HA.out (by simp [impl_HasWithdrawn.l0])
          | succ k2 =>
            have H := HA.out
            clear HA
            simp only [impl_HasWithdrawn.l0] at H
            by_cases c16 : x20_2 < (l0_6.length : Int)
            · rw [if_pos c16] at H
              have c16b0 : decide (x20_2 < (l0_6.length : Int)) = true := decide_eq_true c16
              clear c16
              by_cases c17 : 0 ≤ x20_2
              · rw [if_pos c17] at H
                have c17b0 : decide (0 ≤ x20_2) = true := decide_eq_true c17
                clear c17
                by_cases c18 : x20_2 < (l0_6.length : Int)
                · rw [if_pos c18] at H
                  have c18b0 : decide (x20_2 < (l0_6.length : Int)) = true := decide_eq_true c18
                  clear c18
                  replace H := Option.bind_eq_some_iff.mp H
                  obtain ⟨t522, A190, H⟩ := H
                  replace H : (if t522 = true then (if ((rd_T71 l0_6 x20_2).f4) = 4 then (impl_HasWithdrawn.l0 k2 a1 (wrap64 (x5_2 + 1)) l0_6 (l0_6.length : Int) (wrap64 (x20_2 + 1))) else (some false)) else (impl_HasWithdrawn.l0 k2 a1 x5_2 l0_6 (l0_6.length : Int) (wrap64 (x20_2 + 1)))) = some r := H
                  have A19 := Aside0.mk A190
                  clear A190
                  by_cases c20 : t522 = true
                  · subst c20
                    have H1 : (if ((rd_T71 l0_6 x20_2).f4) = 4 then (impl_HasWithdrawn.l0 k2 a1 (wrap64 (x5_2 + 1)) l0_6 (l0_6.length : Int) (wrap64 (x20_2 + 1))) else (some false)) = some r := by rw [if_pos rfl] at H; exact H
                    clear H
                    have H := H1
                    clear H1
                    by_cases c21 : ((rd_T71 l0_6 x20_2).f4) = 4
                    · rw [if_pos c21] at H
                      have c21b0 : (((rd_T71 l0_6 x20_2).f4) == 4) = true := beq_iff_eq.mpr c21
                      have c21b1 : (((rd_T71 l0_6 x20_2).f4) != 4) = false := bne_eq_false_iff_eq.mpr c21
                      clear c21
                      have H' := Aside0.mk H
                      clear H
                      have p520 : 0 ≤ (x20_2 : Int) := asm
                      have q520 : x20_2 < (l0_6.length : Int) := asm
                      obtain ⟨ad520, e520, hx520_0, hx520_1, hx520_2, hx520_3, hx520_4⟩ := at_T71 HR0_6.out x20_2 p520 q520
                      cases e520
                      replace hx520_0 := hcl HB.out hx520_0
                      replace hx520_1 := hcl HB.out hx520_1
                      replace hx520_2 := hcl HB.out hx520_2
                      replace hx520_3 := hcl HB.out hx520_3
                      replace hx520_4 := hcl HB.out hx520_4
                      replace p520 := eq_true p520
                      replace q520 := eq_true q520
                      go_wp2_with (first | ((with_reducible refine gate_dst (N := 7) rfl ?_); refine box_event ?hg (N := 7) ?hd (cs := #[.int .i64 0, .int .i64 0, .int .i64 0, .int .i64 0, .int .i64 0]) (t := 71) ?hr ?_; (case hd => rfl); (case hg => rfl); (case hr => first | (go_simp; done) | (go_simp; rfl)); intro gb521 hg w22 hbox hb; have BK521 := Aside0.mk (hbox); have GW521 := Aside0.mk ((bsz hg : w.heap.size ≤ gb521)); have GE521 := Aside0.mk ((bsz hg : w.heap.size ≤ gb521)); have NB517_521 := Aside0.mk ((nlt hg BK517.out : gb517 ≠ gb521)); have NB521_517 := Aside0.mk ((ngt hg BK517.out : gb521 ≠ gb517)); replace BK517 := Aside0.mk (bb BK517.out hb); replace HB := Aside0.mk (below_step bel hb); clear hb hbox hg; have hnb23 := NB521_517.out; have hnc23 := NB517_521.out; obtain ⟨hcz24_0, hcz24_1, hcz24_2, hcz24_3, hcz24_4, hfz24_0, hfz24_1, hfz24_2, hfz24_3, hfz24_4⟩ := cf5 BK521.out) | ((with_reducible refine gate_callee (f := 56) rfl ?_); refine goesL_ (some 26) rfl rfl Try.func56 (by kernel_rfl) rfl #[.agg #[.int .i64 ((rd_T71 l0_6 x20_2).f0), .int .i64 ((rd_T71 l0_6 x20_2).f1), .int .i64 ((rd_T71 l0_6 x20_2).f2), .int .i64 ((rd_T71 l0_6 x20_2).f3), .int .i64 ((rd_T71 l0_6 x20_2).f4)], .int .i64 a1] rfl ga ?_; (with_reducible refine (impl_plays.calls ((rd_T71 l0_6 x20_2).f0) ((rd_T71 l0_6 x20_2).f1) ((rd_T71 l0_6 x20_2).f2) ((rd_T71 l0_6 x20_2).f3) ((rd_T71 l0_6 x20_2).f4) a1 true _ A19.out).mono ?_); rintro e w25 ⟨rfl, hb⟩; refine ⟨_, rfl, ?_⟩; replace BK517 := Aside0.mk (bb BK517.out hb); replace BK521 := Aside0.mk (blk_below (g := gb521) (o := .cells #[.int .i64 ((rd_T71 l0_6 x20_2).f0), .int .i64 ((rd_T71 l0_6 x20_2).f1), .int .i64 ((rd_T71 l0_6 x20_2).f2), .int .i64 ((rd_T71 l0_6 x20_2).f3), .int .i64 ((rd_T71 l0_6 x20_2).f4)] 71 (0, 0)) (by (with_reducible repeat (first | refine blk_drewN ?_ _ | refine blk_drew ?_ | refine blk_alloc ?_ _)); refine blk_put (cs := #[.int .i64 ((rd_T71 l0_6 x20_2).f0), .int .i64 ((rd_T71 l0_6 x20_2).f1), .int .i64 ((rd_T71 l0_6 x20_2).f2), .int .i64 ((rd_T71 l0_6 x20_2).f3), .int .i64 0]) ?_ 4 _ rfl; (with_reducible repeat (first | refine blk_drewN ?_ _ | refine blk_drew ?_ | refine blk_alloc ?_ _)); refine blk_put (cs := #[.int .i64 ((rd_T71 l0_6 x20_2).f0), .int .i64 ((rd_T71 l0_6 x20_2).f1), .int .i64 ((rd_T71 l0_6 x20_2).f2), .int .i64 0, .int .i64 0]) ?_ 3 _ rfl; (with_reducible repeat (first | refine blk_drewN ?_ _ | refine blk_drew ?_ | refine blk_alloc ?_ _)); refine blk_put (cs := #[.int .i64 ((rd_T71 l0_6 x20_2).f0), .int .i64 ((rd_T71 l0_6 x20_2).f1), .int .i64 0, .int .i64 0, .int .i64 0]) ?_ 2 _ rfl; (with_reducible repeat (first | refine blk_drewN ?_ _ | refine blk_drew ?_ | refine blk_alloc ?_ _)); refine blk_put (cs := #[.int .i64 ((rd_T71 l0_6 x20_2).f0), .int .i64 0, .int .i64 0, .int .i64 0, .int .i64 0]) ?_ 1 _ rfl; (with_reducible repeat (first | refine blk_drewN ?_ _ | refine blk_drew ?_ | refine blk_alloc ?_ _)); refine blk_put (cs := #[.int .i64 0, .int .i64 0, .int .i64 0, .int .i64 0, .int .i64 0]) ?_ 0 _ rfl; (with_reducible repeat (first | refine blk_drewN ?_ _ | refine blk_drew ?_ | refine blk_alloc ?_ _)); exact BK521.out) hb); replace HB := Aside0.mk (below_step bel hb); (try clear hb); obtain ⟨hcz26_0, hcz26_1, hcz26_2, hcz26_3, hcz26_4, hfz26_0, hfz26_1, hfz26_2, hfz26_3, hfz26_4⟩ := cf5 BK521.out))
                      go_roundg k2
                      case measure => have := HJ2.out; have := HK2.out; omega
                      case rel => exact ⟨(wrap64 (x5_2 + 1)), (wrap64 (x20_2 + 1)), (es), (es), H', ⟨by have := HJ2.out; have := HK2.out; omega⟩, ⟨bk BK517.out⟩, ⟨bel⟩⟩
                    · rw [if_neg c21] at H
                      have c21b0 : (((rd_T71 l0_6 x20_2).f4) == 4) = false := beq_eq_false_iff_ne.mpr c21
                      have c21b1 : (((rd_T71 l0_6 x20_2).f4) != 4) = true := bne_iff_ne.mpr c21
                      obtain rfl := Option.some.inj H
                      have p520 : 0 ≤ (x20_2 : Int) := asm
                      have q520 : x20_2 < (l0_6.length : Int) := asm
                      obtain ⟨ad520, e520, hx520_0, hx520_1, hx520_2, hx520_3, hx520_4⟩ := at_T71 HR0_6.out x20_2 p520 q520
                      cases e520
                      replace hx520_0 := hcl HB.out hx520_0
                      replace hx520_1 := hcl HB.out hx520_1
                      replace hx520_2 := hcl HB.out hx520_2
                      replace hx520_3 := hcl HB.out hx520_3
                      replace hx520_4 := hcl HB.out hx520_4
                      replace p520 := eq_true p520
                      replace q520 := eq_true q520
                      go_wp2_with (first | ((with_reducible refine gate_dst (N := 7) rfl ?_); refine box_event ?hg (N := 7) ?hd (cs := #[.int .i64 0, .int .i64 0, .int .i64 0, .int .i64 0, .int .i64 0]) (t := 71) ?hr ?_; (case hd => rfl); (case hg => rfl); (case hr => first | (go_simp; done) | (go_simp; rfl)); intro gb521 hg w27 hbox hb; have BK521 := Aside0.mk (hbox); have GW521 := Aside0.mk ((bsz hg : w.heap.size ≤ gb521)); have GE521 := Aside0.mk ((bsz hg : w.heap.size ≤ gb521)); have NB517_521 := Aside0.mk ((nlt hg BK517.out : gb517 ≠ gb521)); have NB521_517 := Aside0.mk ((ngt hg BK517.out : gb521 ≠ gb517)); replace BK517 := Aside0.mk (bb BK517.out hb); replace HB := Aside0.mk (below_step bel hb); clear hb hbox hg; have hnb28 := NB521_517.out; have hnc28 := NB517_521.out; obtain ⟨hcz29_0, hcz29_1, hcz29_2, hcz29_3, hcz29_4, hfz29_0, hfz29_1, hfz29_2, hfz29_3, hfz29_4⟩ := cf5 BK521.out) | ((with_reducible refine gate_callee (f := 56) rfl ?_); refine goesL_ (some 26) rfl rfl Try.func56 (by kernel_rfl) rfl #[.agg #[.int .i64 ((rd_T71 l0_6 x20_2).f0), .int .i64 ((rd_T71 l0_6 x20_2).f1), .int .i64 ((rd_T71 l0_6 x20_2).f2), .int .i64 ((rd_T71 l0_6 x20_2).f3), .int .i64 ((rd_T71 l0_6 x20_2).f4)], .int .i64 a1] rfl ga ?_; (with_reducible refine (impl_plays.calls ((rd_T71 l0_6 x20_2).f0) ((rd_T71 l0_6 x20_2).f1) ((rd_T71 l0_6 x20_2).f2) ((rd_T71 l0_6 x20_2).f3) ((rd_T71 l0_6 x20_2).f4) a1 true _ A19.out).mono ?_); rintro e w30 ⟨rfl, hb⟩; refine ⟨_, rfl, ?_⟩; replace BK517 := Aside0.mk (bb BK517.out hb); replace BK521 := Aside0.mk (blk_below (g := gb521) (o := .cells #[.int .i64 ((rd_T71 l0_6 x20_2).f0), .int .i64 ((rd_T71 l0_6 x20_2).f1), .int .i64 ((rd_T71 l0_6 x20_2).f2), .int .i64 ((rd_T71 l0_6 x20_2).f3), .int .i64 ((rd_T71 l0_6 x20_2).f4)] 71 (0, 0)) (by (with_reducible repeat (first | refine blk_drewN ?_ _ | refine blk_drew ?_ | refine blk_alloc ?_ _)); refine blk_put (cs := #[.int .i64 ((rd_T71 l0_6 x20_2).f0), .int .i64 ((rd_T71 l0_6 x20_2).f1), .int .i64 ((rd_T71 l0_6 x20_2).f2), .int .i64 ((rd_T71 l0_6 x20_2).f3), .int .i64 0]) ?_ 4 _ rfl; (with_reducible repeat (first | refine blk_drewN ?_ _ | refine blk_drew ?_ | refine blk_alloc ?_ _)); refine blk_put (cs := #[.int .i64 ((rd_T71 l0_6 x20_2).f0), .int .i64 ((rd_T71 l0_6 x20_2).f1), .int .i64 ((rd_T71 l0_6 x20_2).f2), .int .i64 0, .int .i64 0]) ?_ 3 _ rfl; (with_reducible repeat (first | refine blk_drewN ?_ _ | refine blk_drew ?_ | refine blk_alloc ?_ _)); refine blk_put (cs := #[.int .i64 ((rd_T71 l0_6 x20_2).f0), .int .i64 ((rd_T71 l0_6 x20_2).f1), .int .i64 0, .int .i64 0, .int .i64 0]) ?_ 2 _ rfl; (with_reducible repeat (first | refine blk_drewN ?_ _ | refine blk_drew ?_ | refine blk_alloc ?_ _)); refine blk_put (cs := #[.int .i64 ((rd_T71 l0_6 x20_2).f0), .int .i64 0, .int .i64 0, .int .i64 0, .int .i64 0]) ?_ 1 _ rfl; (with_reducible repeat (first | refine blk_drewN ?_ _ | refine blk_drew ?_ | refine blk_alloc ?_ _)); refine blk_put (cs := #[.int .i64 0, .int .i64 0, .int .i64 0, .int .i64 0, .int .i64 0]) ?_ 0 _ rfl; (with_reducible repeat (first | refine blk_drewN ?_ _ | refine blk_drew ?_ | refine blk_alloc ?_ _)); exact BK521.out) hb); replace HB := Aside0.mk (below_step bel hb); (try clear hb); obtain ⟨hcz31_0, hcz31_1, hcz31_2, hcz31_3, hcz31_4, hfz31_0, hfz31_1, hfz31_2, hfz31_3, hfz31_4⟩ := cf5 BK521.out))
                      go_ret
                      exact ⟨er, bel⟩
                  · replace c20 := Bool.eq_false_iff.mpr c20
                    subst c20
                    have H1 : (impl_HasWithdrawn.l0 k2 a1 x5_2 l0_6 (l0_6.length : Int) (wrap64 (x20_2 + 1))) = some r := by rw [if_neg (show ¬ (false = true) by decide)] at H; exact H
                    clear H
                    have H := H1
                    clear H1
                    have H' := Aside0.mk H
                    clear H
                    have p520 : 0 ≤ (x20_2 : Int) := asm
                    have q520 : x20_2 < (l0_6.length : Int) := asm
                    obtain ⟨ad520, e520, hx520_0, hx520_1, hx520_2, hx520_3, hx520_4⟩ := at_T71 HR0_6.out x20_2 p520 q520
                    cases e520
                    replace hx520_0 := hcl HB.out hx520_0
                    replace hx520_1 := hcl HB.out hx520_1
                    replace hx520_2 := hcl HB.out hx520_2
                    replace hx520_3 := hcl HB.out hx520_3
                    replace hx520_4 := hcl HB.out hx520_4
                    replace p520 := eq_true p520
                    replace q520 := eq_true q520
                    go_wp2_with (first | ((with_reducible refine gate_dst (N := 7) rfl ?_); refine box_event ?hg (N := 7) ?hd (cs := #[.int .i64 0, .int .i64 0, .int .i64 0, .int .i64 0, .int .i64 0]) (t := 71) ?hr ?_; (case hd => rfl); (case hg => rfl); (case hr => first | (go_simp; done) | (go_simp; rfl)); intro gb521 hg w32 hbox hb; have BK521 := Aside0.mk (hbox); have GW521 := Aside0.mk ((bsz hg : w.heap.size ≤ gb521)); have GE521 := Aside0.mk ((bsz hg : w.heap.size ≤ gb521)); have NB517_521 := Aside0.mk ((nlt hg BK517.out : gb517 ≠ gb521)); have NB521_517 := Aside0.mk ((ngt hg BK517.out : gb521 ≠ gb517)); replace BK517 := Aside0.mk (bb BK517.out hb); replace HB := Aside0.mk (below_step bel hb); clear hb hbox hg; have hnb33 := NB521_517.out; have hnc33 := NB517_521.out; obtain ⟨hcz34_0, hcz34_1, hcz34_2, hcz34_3, hcz34_4, hfz34_0, hfz34_1, hfz34_2, hfz34_3, hfz34_4⟩ := cf5 BK521.out) | ((with_reducible refine gate_callee (f := 56) rfl ?_); refine goesL_ (some 26) rfl rfl Try.func56 (by kernel_rfl) rfl #[.agg #[.int .i64 ((rd_T71 l0_6 x20_2).f0), .int .i64 ((rd_T71 l0_6 x20_2).f1), .int .i64 ((rd_T71 l0_6 x20_2).f2), .int .i64 ((rd_T71 l0_6 x20_2).f3), .int .i64 ((rd_T71 l0_6 x20_2).f4)], .int .i64 a1] rfl ga ?_; (with_reducible refine (impl_plays.calls ((rd_T71 l0_6 x20_2).f0) ((rd_T71 l0_6 x20_2).f1) ((rd_T71 l0_6 x20_2).f2) ((rd_T71 l0_6 x20_2).f3) ((rd_T71 l0_6 x20_2).f4) a1 false _ A19.out).mono ?_); rintro e w35 ⟨rfl, hb⟩; refine ⟨_, rfl, ?_⟩; replace BK517 := Aside0.mk (bb BK517.out hb); replace BK521 := Aside0.mk (blk_below (g := gb521) (o := .cells #[.int .i64 ((rd_T71 l0_6 x20_2).f0), .int .i64 ((rd_T71 l0_6 x20_2).f1), .int .i64 ((rd_T71 l0_6 x20_2).f2), .int .i64 ((rd_T71 l0_6 x20_2).f3), .int .i64 ((rd_T71 l0_6 x20_2).f4)] 71 (0, 0)) (by (with_reducible repeat (first | refine blk_drewN ?_ _ | refine blk_drew ?_ | refine blk_alloc ?_ _)); refine blk_put (cs := #[.int .i64 ((rd_T71 l0_6 x20_2).f0), .int .i64 ((rd_T71 l0_6 x20_2).f1), .int .i64 ((rd_T71 l0_6 x20_2).f2), .int .i64 ((rd_T71 l0_6 x20_2).f3), .int .i64 0]) ?_ 4 _ rfl; (with_reducible repeat (first | refine blk_drewN ?_ _ | refine blk_drew ?_ | refine blk_alloc ?_ _)); refine blk_put (cs := #[.int .i64 ((rd_T71 l0_6 x20_2).f0), .int .i64 ((rd_T71 l0_6 x20_2).f1), .int .i64 ((rd_T71 l0_6 x20_2).f2), .int .i64 0, .int .i64 0]) ?_ 3 _ rfl; (with_reducible repeat (first | refine blk_drewN ?_ _ | refine blk_drew ?_ | refine blk_alloc ?_ _)); refine blk_put (cs := #[.int .i64 ((rd_T71 l0_6 x20_2).f0), .int .i64 ((rd_T71 l0_6 x20_2).f1), .int .i64 0, .int .i64 0, .int .i64 0]) ?_ 2 _ rfl; (with_reducible repeat (first | refine blk_drewN ?_ _ | refine blk_drew ?_ | refine blk_alloc ?_ _)); refine blk_put (cs := #[.int .i64 ((rd_T71 l0_6 x20_2).f0), .int .i64 0, .int .i64 0, .int .i64 0, .int .i64 0]) ?_ 1 _ rfl; (with_reducible repeat (first | refine blk_drewN ?_ _ | refine blk_drew ?_ | refine blk_alloc ?_ _)); refine blk_put (cs := #[.int .i64 0, .int .i64 0, .int .i64 0, .int .i64 0, .int .i64 0]) ?_ 0 _ rfl; (with_reducible repeat (first | refine blk_drewN ?_ _ | refine blk_drew ?_ | refine blk_alloc ?_ _)); exact BK521.out) hb); replace HB := Aside0.mk (below_step bel hb); (try clear hb)))
                    go_roundg k2
                    case measure => have := HJ2.out; have := HK2.out; omega
                    case rel => exact ⟨(x5_2), (wrap64 (x20_2 + 1)), (es), (es), H', ⟨by have := HJ2.out; have := HK2.out; omega⟩, ⟨bk BK517.out⟩, ⟨bel⟩⟩
                · rw [if_neg c18] at H
                  exact absurd H (by simp)
              · rw [if_neg c17] at H
                exact absurd H (by simp)
            · rw [if_neg c16] at H
              have c16b0 : decide (x20_2 < (l0_6.length : Int)) = false := decide_eq_false c16
              clear c16
              obtain rfl := Option.some.inj H
              go_wp2
              go_ret
              exact ⟨er, bel⟩

-- NOT PRINTED: function 67 (slices_DeleteFunc_int_int)

end Go.Proofs.Ytgalpgakdcfilaa.X
