-- Written by a program of this session (wip/xp.py, over the kit's print) out of the translation: functions, and the walks that show them.
import Derived.Test.YtipojkfkcelejaaX0
import Derived.Test.YtipojkfkcelejaaX23
import Derived.Test.YtipojkfkcelejaaX28
namespace Go.Proofs.Ytipojkfkcelejaa.X
open Go.RowKit Go.Proofs.YtipojkfkcelejaaW.PrintWords Go.Proofs.YtipojkfkcelejaaW.PrintLast Go.Proofs.YtipojkfkcelejaaW.PrintMore
attribute [local go_sem] max2_int min2_int max_two min_two max_three min_three max_four min_four   -- for this text's walks alone
set_option linter.unusedVariables false
set_option linter.unusedSimpArgs false

/-! ### spec_l15Before: function 47 -/
mutual
def spec_l15Before.l0 : Nat → Int → Int → List Int → List Int → Int → Int → Int → List (List Int) → Int → Option (Bool)
  | 0, _, _, _, _, _, _, _, _, _ => none
  | k + 1, x1, x2, x10, x32, x33, x34, x434000, x434001, x434002 => if x34 < x33 then (if 0 ≤ x34 then (if x34 < (x32.length : Int) then (if x34 < (x10.length : Int) then (if (rd x32 x34) = (rd x10 x34) then (spec_l15Before.l0 k x1 x2 x10 x32 x33 (wrap64 (x34 + 1)) x434000 x434001 x434002) else (some (decide ((rd x32 x34) < (rd x10 x34))))) else (none)) else (none)) else (none)) else (spec_l15Before.l1 k x1 x2 (wrap64 ((x434001.length : Int) - 1)) x434000 x434001 x434002)
def spec_l15Before.l1 : Nat → Int → Int → Int → Int → List (List Int) → Int → Option (Bool)
  | 0, _, _, _, _, _, _ => none
  | k + 1, x1, x2, x13, x434000, x434001, x434002 => if x13 ≥ 0 then (if 0 ≤ x13 then (if x13 < (x434001.length : Int) then (if 0 ≤ x1 then (if x1 < ((rd_L1 x434001 x13).length : Int) then (if 0 ≤ x2 then (if x2 < ((rd_L1 x434001 x13).length : Int) then (if (rd (rd_L1 x434001 x13) x1) = (rd (rd_L1 x434001 x13) x2) then (spec_l15Before.l1 k x1 x2 (wrap64 (x13 - 1)) x434000 x434001 x434002) else (some (decide ((rd (rd_L1 x434001 x13) x1) < (rd (rd_L1 x434001 x13) x2))))) else (none)) else (none)) else (none)) else (none)) else (none)) else (none)) else (some (decide (x1 < x2)))
end
def spec_l15Before.f (k : Nat) (a0_0 : Int) (l0_1 : List (List Int)) (a0_2 : Int) (a1 : Int) (a2 : Int) : Option (Bool) := (spec_l15Score.f k a0_0 l0_1 a0_2 a1).bind fun t434 => ((spec_l15Score.f k a0_0 l0_1 a0_2 a2).bind fun t435 => (if t434 = t435 then ((spec_l15Kept.f k a0_0 l0_1 a0_2 a1).bind fun t436 => ((spec_l15Kept.f k a0_0 l0_1 a0_2 a2).bind fun t439 => (spec_l15Before.l0 k a1 a2 t439 t436 (t436.length : Int) 0 a0_0 l0_1 a0_2))) else (some (decide (t434 < t435)))))
theorem spec_l15Before.mono_l : ∀ k, (∀ y0 y1 y2 y3 y4 y5 y6 y7 y8, LeO (spec_l15Before.l0 k y0 y1 y2 y3 y4 y5 y6 y7 y8) (spec_l15Before.l0 (k + 1) y0 y1 y2 y3 y4 y5 y6 y7 y8)) ∧ (∀ y0 y1 y2 y3 y4 y5, LeO (spec_l15Before.l1 k y0 y1 y2 y3 y4 y5) (spec_l15Before.l1 (k + 1) y0 y1 y2 y3 y4 y5))
  | 0 => ⟨fun _ _ _ _ _ _ _ _ _ r h => by simp [spec_l15Before.l0] at h, fun _ _ _ _ _ _ r h => by simp [spec_l15Before.l1] at h⟩
  | k + 1 => by
    obtain ⟨ih0, ih1⟩ := spec_l15Before.mono_l k
    refine ⟨?_, ?_⟩
    · intro y0 y1 y2 y3 y4 y5 y6 y7 y8
      unfold spec_l15Before.l0
      repeat' first
      | (with_reducible exact ih0 _ _ _ _ _ _ _ _ _)
      | (with_reducible exact ih1 _ _ _ _ _ _)
      | (with_reducible exact spec_l15Kept.mono _ _ _ _ _)
      | (with_reducible exact spec_l15Score.mono _ _ _ _ _)
      | (with_reducible exact LeO.refl _)
      | (with_reducible exact LeO.none _)
      | (with_reducible refine LeO.ite ?_ ?_)
      | (with_reducible refine LeO.bind ?_ (fun _ => ?_))
      | exact ih0 _ _ _ _ _ _ _ _ _
      | exact ih1 _ _ _ _ _ _
      | exact spec_l15Kept.mono _ _ _ _ _
      | exact spec_l15Score.mono _ _ _ _ _
      | exact LeO.none _
      | refine LeO.ite ?_ ?_
      | refine LeO.bind ?_ (fun _ => ?_)
    · intro y0 y1 y2 y3 y4 y5
      unfold spec_l15Before.l1
      repeat' first
      | (with_reducible exact ih0 _ _ _ _ _ _ _ _ _)
      | (with_reducible exact ih1 _ _ _ _ _ _)
      | (with_reducible exact spec_l15Kept.mono _ _ _ _ _)
      | (with_reducible exact spec_l15Score.mono _ _ _ _ _)
      | (with_reducible exact LeO.refl _)
      | (with_reducible exact LeO.none _)
      | (with_reducible refine LeO.ite ?_ ?_)
      | (with_reducible refine LeO.bind ?_ (fun _ => ?_))
      | exact ih0 _ _ _ _ _ _ _ _ _
      | exact ih1 _ _ _ _ _ _
      | exact spec_l15Kept.mono _ _ _ _ _
      | exact spec_l15Score.mono _ _ _ _ _
      | exact LeO.none _
      | refine LeO.ite ?_ ?_
      | refine LeO.bind ?_ (fun _ => ?_)
theorem spec_l15Before.mono : ∀ a0 a1 a2 a3 a4 k, LeO (spec_l15Before.f k a0 a1 a2 a3 a4) (spec_l15Before.f (k + 1) a0 a1 a2 a3 a4) := by
  intro a0 a1 a2 a3 a4 k
  obtain ⟨ih0, ih1⟩ := spec_l15Before.mono_l k
  unfold spec_l15Before.f
  repeat' first
      | (with_reducible exact ih0 _ _ _ _ _ _ _ _ _)
      | (with_reducible exact ih1 _ _ _ _ _ _)
      | (with_reducible exact spec_l15Kept.mono _ _ _ _ _)
      | (with_reducible exact spec_l15Score.mono _ _ _ _ _)
      | (with_reducible exact LeO.refl _)
      | (with_reducible exact LeO.none _)
      | (with_reducible refine LeO.ite ?_ ?_)
      | (with_reducible refine LeO.bind ?_ (fun _ => ?_))
      | exact ih0 _ _ _ _ _ _ _ _ _
      | exact ih1 _ _ _ _ _ _
      | exact spec_l15Kept.mono _ _ _ _ _
      | exact spec_l15Score.mono _ _ _ _ _
      | exact LeO.none _
      | refine LeO.ite ?_ ?_
      | refine LeO.bind ?_ (fun _ => ?_)
set_option maxHeartbeats 8000000 in
set_option maxRecDepth 100000 in
theorem spec_l15Before.calls (k : Nat) (a0_0 : Int) (A0_1 : Option Addr) (c0_1 : Nat) (l0_1 : List (List Int)) (a0_2 : Int) (a1 : Int) (a2 : Int) (r : Bool) (w : World) (hr0_1 : Kd.C (Kd.slice 3 (Kd.int .i64)) w A0_1 l0_1.length l0_1) (hc0_1 : l0_1.length ≤ c0_1) (h : spec_l15Before.f k a0_0 l0_1 a0_2 a1 a2 = some r) :
    Calls Try.prog 47 #[.agg #[.int .i64 a0_0, .slice A0_1 l0_1.length c0_1, .int .i64 a0_2], .int .i64 a1, .int .i64 a2] w fun e w' => e = .returned (.bool r) ∧ Below w.heap.size w w' := by
  have hu31 := Try.underlying31
  have HR0_1 := Aside0.mk hr0_1
  have HC0_1 := Aside0.mk hc0_1
  clear hr0_1 hc0_1
  have HB := Aside0.mk (Below.refl w.heap.size w)
  have H : ((spec_l15Score.f k a0_0 l0_1 a0_2 a1).bind fun t434 => ((spec_l15Score.f k a0_0 l0_1 a0_2 a2).bind fun t435 => (if t434 = t435 then ((spec_l15Kept.f k a0_0 l0_1 a0_2 a1).bind fun t436 => ((spec_l15Kept.f k a0_0 l0_1 a0_2 a2).bind fun t439 => (spec_l15Before.l0 k a1 a2 t439 t436 (t436.length : Int) 0 a0_0 l0_1 a0_2))) else (some (decide (t434 < t435)))))) = some r := h
  clear h
  replace H := Option.bind_eq_some_iff.mp H
  obtain ⟨t434, A40, H⟩ := H
  replace H : ((spec_l15Score.f k a0_0 l0_1 a0_2 a2).bind fun t435 => (if t434 = t435 then ((spec_l15Kept.f k a0_0 l0_1 a0_2 a1).bind fun t436 => ((spec_l15Kept.f k a0_0 l0_1 a0_2 a2).bind fun t439 => (spec_l15Before.l0 k a1 a2 t439 t436 (t436.length : Int) 0 a0_0 l0_1 a0_2))) else (some (decide (t434 < t435))))) = some r := H
  have A4 := Aside0.mk A40
  clear A40
  replace H := Option.bind_eq_some_iff.mp H
  obtain ⟨t435, A50, H⟩ := H
  replace H : (if t434 = t435 then ((spec_l15Kept.f k a0_0 l0_1 a0_2 a1).bind fun t436 => ((spec_l15Kept.f k a0_0 l0_1 a0_2 a2).bind fun t439 => (spec_l15Before.l0 k a1 a2 t439 t436 (t436.length : Int) 0 a0_0 l0_1 a0_2))) else (some (decide (t434 < t435)))) = some r := H
  have A5 := Aside0.mk A50
  clear A50
  by_cases c6 : t434 = t435
  · rw [if_pos c6] at H
    have c6b0 : (t434 == t435) = true := beq_iff_eq.mpr c6
    have c6b1 : (t434 != t435) = false := bne_eq_false_iff_eq.mpr c6
    clear c6
    replace H := Option.bind_eq_some_iff.mp H
    obtain ⟨t436, A70, H⟩ := H
    replace H : ((spec_l15Kept.f k a0_0 l0_1 a0_2 a2).bind fun t439 => (spec_l15Before.l0 k a1 a2 t439 t436 (t436.length : Int) 0 a0_0 l0_1 a0_2)) = some r := H
    have A7 := Aside0.mk A70
    clear A70
    replace H := Option.bind_eq_some_iff.mp H
    obtain ⟨t439, A80, H⟩ := H
    replace H : (spec_l15Before.l0 k a1 a2 t439 t436 (t436.length : Int) 0 a0_0 l0_1 a0_2) = some r := H
    have A8 := Aside0.mk A80
    clear A80
    have H' := Aside0.mk H
    clear H
    go_enter Try.func47, Try.ntmps47
    go_wp2_with (first | ((with_reducible refine gate_dst (N := 3) rfl ?_); refine box_event ?hg (N := 3) ?hd (cs := #[.int .i64 a0_0, .slice A0_1 l0_1.length c0_1, .int .i64 a0_2]) (t := 31) ?hr ?_; (case hd => rfl); (case hg => rfl); (case hr => first | (go_simp; done) | (go_simp; rfl)); intro gb433 hg w9 hbox hb; have BK433 := Aside0.mk (hbox); have GW433 := Aside0.mk ((bsz hg : w.heap.size ≤ gb433)); have GE433 := Aside0.mk ((bsz hg : w.heap.size ≤ gb433)); replace HB := Aside0.mk (below_step bel hb); clear hb hbox hg; obtain ⟨hcz10_0, hcz10_1, hcz10_2, hfz10_0, hfz10_1, hfz10_2⟩ := cf3 BK433.out) | (go_at_call 45; (with_reducible refine (spec_l15Score.calls k a0_0 _ _ l0_1 a0_2 a1 t434 _ ?side1 ?side2 A4.out).mono ?_); (case side1 => exact ck (Kd.C_below HR0_1.out HB.out)); (case side2 => exact HC0_1.out); rintro e w11 ⟨rfl, hb⟩; replace BK433 := Aside0.mk (bb BK433.out hb); replace HB := Aside0.mk (below_step bel hb); (try clear hb); (try clear hb2); (try clear hk); (try clear hi); obtain ⟨hcz12_0, hcz12_1, hcz12_2, hfz12_0, hfz12_1, hfz12_2⟩ := cf3 BK433.out) | (go_at_call 45; (with_reducible refine (spec_l15Score.calls k a0_0 _ _ l0_1 a0_2 a2 t435 _ ?side1 ?side2 A5.out).mono ?_); (case side1 => exact ck (Kd.C_below HR0_1.out HB.out)); (case side2 => exact HC0_1.out); rintro e w13 ⟨rfl, hb⟩; replace BK433 := Aside0.mk (bb BK433.out hb); replace HB := Aside0.mk (below_step bel hb); (try clear hb); (try clear hb2); (try clear hk); (try clear hi); obtain ⟨hcz14_0, hcz14_1, hcz14_2, hfz14_0, hfz14_1, hfz14_2⟩ := cf3 BK433.out) | (go_at_call 42; (with_reducible refine (spec_l15Kept.calls k a0_0 _ _ l0_1 a0_2 a1 t436 _ ?side1 ?side2 A7.out).mono ?_); (case side1 => exact ck (Kd.C_below HR0_1.out HB.out)); (case side2 => exact HC0_1.out); rintro e w15 ⟨v437, rfl, ho0, hb⟩; have HO438 := Aside0.mk (Kd.R_lower ho0 (below_size bel)); replace BK433 := Aside0.mk (bb BK433.out hb); replace HB := Aside0.mk (below_step bel hb); (try clear hb); (try clear hb2); (try clear hk); (try clear hi); (try clear ho0); obtain ⟨hcz16_0, hcz16_1, hcz16_2, hfz16_0, hfz16_1, hfz16_2⟩ := cf3 BK433.out) | (go_at_call 42; (with_reducible refine (spec_l15Kept.calls k a0_0 _ _ l0_1 a0_2 a2 t439 _ ?side1 ?side2 A8.out).mono ?_); (case side1 => exact ck (Kd.C_below HR0_1.out HB.out)); (case side2 => exact HC0_1.out); rintro e w17 ⟨v440, rfl, ho0, hb⟩; have HO441 := Aside0.mk (Kd.R_lower (Kd.R_new' ho0 (Kd.R_lt (rk HO438.out))) (below_size bel)); replace HO438 := Aside0.mk (Kd.R_elder' (rk HO438.out) (Kd.R_base ho0) hb); replace BK433 := Aside0.mk (bb BK433.out hb); replace HB := Aside0.mk (below_step bel hb); (try clear hb); (try clear hb2); (try clear hk); (try clear hi); (try clear ho0); obtain ⟨Ao18, co18, eo18⟩ := Kd.R_slice HO438.out; subst eo18))
    repeat (go_quiet (first | ((with_reducible refine gate_dst (N := 3) rfl ?_); refine box_event ?hg (N := 3) ?hd (cs := #[.int .i64 a0_0, .slice A0_1 l0_1.length c0_1, .int .i64 a0_2]) (t := 31) ?hr ?_; (case hd => rfl); (case hg => rfl); (case hr => first | (go_simp; done) | (go_simp; rfl)); intro gb433 hg w9 hbox hb; have BK433 := Aside0.mk (hbox); have GW433 := Aside0.mk ((bsz hg : w.heap.size ≤ gb433)); have GE433 := Aside0.mk ((bsz hg : w.heap.size ≤ gb433)); replace HB := Aside0.mk (below_step bel hb); clear hb hbox hg; obtain ⟨hcz10_0, hcz10_1, hcz10_2, hfz10_0, hfz10_1, hfz10_2⟩ := cf3 BK433.out) | (go_at_call 45; (with_reducible refine (spec_l15Score.calls k a0_0 _ _ l0_1 a0_2 a1 t434 _ ?side1 ?side2 A4.out).mono ?_); (case side1 => exact ck (Kd.C_below HR0_1.out HB.out)); (case side2 => exact HC0_1.out); rintro e w11 ⟨rfl, hb⟩; replace BK433 := Aside0.mk (bb BK433.out hb); replace HB := Aside0.mk (below_step bel hb); (try clear hb); (try clear hb2); (try clear hk); (try clear hi); obtain ⟨hcz12_0, hcz12_1, hcz12_2, hfz12_0, hfz12_1, hfz12_2⟩ := cf3 BK433.out) | (go_at_call 45; (with_reducible refine (spec_l15Score.calls k a0_0 _ _ l0_1 a0_2 a2 t435 _ ?side1 ?side2 A5.out).mono ?_); (case side1 => exact ck (Kd.C_below HR0_1.out HB.out)); (case side2 => exact HC0_1.out); rintro e w13 ⟨rfl, hb⟩; replace BK433 := Aside0.mk (bb BK433.out hb); replace HB := Aside0.mk (below_step bel hb); (try clear hb); (try clear hb2); (try clear hk); (try clear hi); obtain ⟨hcz14_0, hcz14_1, hcz14_2, hfz14_0, hfz14_1, hfz14_2⟩ := cf3 BK433.out) | (go_at_call 42; (with_reducible refine (spec_l15Kept.calls k a0_0 _ _ l0_1 a0_2 a1 t436 _ ?side1 ?side2 A7.out).mono ?_); (case side1 => exact ck (Kd.C_below HR0_1.out HB.out)); (case side2 => exact HC0_1.out); rintro e w15 ⟨v437, rfl, ho0, hb⟩; have HO438 := Aside0.mk (Kd.R_lower ho0 (below_size bel)); replace BK433 := Aside0.mk (bb BK433.out hb); replace HB := Aside0.mk (below_step bel hb); (try clear hb); (try clear hb2); (try clear hk); (try clear hi); (try clear ho0); obtain ⟨hcz16_0, hcz16_1, hcz16_2, hfz16_0, hfz16_1, hfz16_2⟩ := cf3 BK433.out) | (go_at_call 42; (with_reducible refine (spec_l15Kept.calls k a0_0 _ _ l0_1 a0_2 a2 t439 _ ?side1 ?side2 A8.out).mono ?_); (case side1 => exact ck (Kd.C_below HR0_1.out HB.out)); (case side2 => exact HC0_1.out); rintro e w17 ⟨v440, rfl, ho0, hb⟩; have HO441 := Aside0.mk (Kd.R_lower (Kd.R_new' ho0 (Kd.R_lt (rk HO438.out))) (below_size bel)); replace HO438 := Aside0.mk (Kd.R_elder' (rk HO438.out) (Kd.R_base ho0) hb); replace BK433 := Aside0.mk (bb BK433.out hb); replace HB := Aside0.mk (below_step bel hb); (try clear hb); (try clear hb2); (try clear hk); (try clear hi); (try clear ho0); obtain ⟨Ao18, co18, eo18⟩ := Kd.R_slice HO438.out; subst eo18)); try go_wp2_with (first | ((with_reducible refine gate_dst (N := 3) rfl ?_); refine box_event ?hg (N := 3) ?hd (cs := #[.int .i64 a0_0, .slice A0_1 l0_1.length c0_1, .int .i64 a0_2]) (t := 31) ?hr ?_; (case hd => rfl); (case hg => rfl); (case hr => first | (go_simp; done) | (go_simp; rfl)); intro gb433 hg w9 hbox hb; have BK433 := Aside0.mk (hbox); have GW433 := Aside0.mk ((bsz hg : w.heap.size ≤ gb433)); have GE433 := Aside0.mk ((bsz hg : w.heap.size ≤ gb433)); replace HB := Aside0.mk (below_step bel hb); clear hb hbox hg; obtain ⟨hcz10_0, hcz10_1, hcz10_2, hfz10_0, hfz10_1, hfz10_2⟩ := cf3 BK433.out) | (go_at_call 45; (with_reducible refine (spec_l15Score.calls k a0_0 _ _ l0_1 a0_2 a1 t434 _ ?side1 ?side2 A4.out).mono ?_); (case side1 => exact ck (Kd.C_below HR0_1.out HB.out)); (case side2 => exact HC0_1.out); rintro e w11 ⟨rfl, hb⟩; replace BK433 := Aside0.mk (bb BK433.out hb); replace HB := Aside0.mk (below_step bel hb); (try clear hb); (try clear hb2); (try clear hk); (try clear hi); obtain ⟨hcz12_0, hcz12_1, hcz12_2, hfz12_0, hfz12_1, hfz12_2⟩ := cf3 BK433.out) | (go_at_call 45; (with_reducible refine (spec_l15Score.calls k a0_0 _ _ l0_1 a0_2 a2 t435 _ ?side1 ?side2 A5.out).mono ?_); (case side1 => exact ck (Kd.C_below HR0_1.out HB.out)); (case side2 => exact HC0_1.out); rintro e w13 ⟨rfl, hb⟩; replace BK433 := Aside0.mk (bb BK433.out hb); replace HB := Aside0.mk (below_step bel hb); (try clear hb); (try clear hb2); (try clear hk); (try clear hi); obtain ⟨hcz14_0, hcz14_1, hcz14_2, hfz14_0, hfz14_1, hfz14_2⟩ := cf3 BK433.out) | (go_at_call 42; (with_reducible refine (spec_l15Kept.calls k a0_0 _ _ l0_1 a0_2 a1 t436 _ ?side1 ?side2 A7.out).mono ?_); (case side1 => exact ck (Kd.C_below HR0_1.out HB.out)); (case side2 => exact HC0_1.out); rintro e w15 ⟨v437, rfl, ho0, hb⟩; have HO438 := Aside0.mk (Kd.R_lower ho0 (below_size bel)); replace BK433 := Aside0.mk (bb BK433.out hb); replace HB := Aside0.mk (below_step bel hb); (try clear hb); (try clear hb2); (try clear hk); (try clear hi); (try clear ho0); obtain ⟨hcz16_0, hcz16_1, hcz16_2, hfz16_0, hfz16_1, hfz16_2⟩ := cf3 BK433.out) | (go_at_call 42; (with_reducible refine (spec_l15Kept.calls k a0_0 _ _ l0_1 a0_2 a2 t439 _ ?side1 ?side2 A8.out).mono ?_); (case side1 => exact ck (Kd.C_below HR0_1.out HB.out)); (case side2 => exact HC0_1.out); rintro e w17 ⟨v440, rfl, ho0, hb⟩; have HO441 := Aside0.mk (Kd.R_lower (Kd.R_new' ho0 (Kd.R_lt (rk HO438.out))) (below_size bel)); replace HO438 := Aside0.mk (Kd.R_elder' (rk HO438.out) (Kd.R_base ho0) hb); replace BK433 := Aside0.mk (bb BK433.out hb); replace HB := Aside0.mk (below_step bel hb); (try clear hb); (try clear hb2); (try clear hk); (try clear hi); (try clear ho0); obtain ⟨Ao18, co18, eo18⟩ := Kd.R_slice HO438.out; subst eo18)))
    go_loopg [34] k (fun kq v34 w' => ∃ (x34_1 : Int), v34 = .int .i64 x34_1 ∧ Aside0 (spec_l15Before.l0 kq a1 a2 t439 t436 (t436.length : Int) x34_1 a0_0 l0_1 a0_2 = some r) ∧ Aside0 (kq ≤ k) ∧ Aside0 (Kd.R (Kd.int .i64) 3 w' w.heap.size (fun k_ => some k_ ≠ ((.slice Ao18 t436.length co18) : Value).ownBlock) v440 t439) ∧ Aside0 (Kd.R (Kd.int .i64) 3 w' w.heap.size (fun k_ => some k_ ≠ (v440 : Value).ownBlock) (.slice Ao18 t436.length co18) t436) ∧ Aside0 (w'.heap[gb433]? = some (.cells #[.int .i64 a0_0, (.slice A0_1 l0_1.length c0_1), .int .i64 a0_2] 31 (0, 0))) ∧ Aside0 (Below w.heap.size w w'))
    case atStart => exact ⟨(0), (es), H', ⟨Nat.le_refl _⟩, ⟨by (with_reducible repeat (first | apply Kd.R_alloc | apply Kd.R_drewN | apply Kd.R_drew)); exact Kd.R_mono HO441.out (fun _ hk => hk.2)⟩, ⟨by (with_reducible repeat (first | apply Kd.R_alloc | apply Kd.R_drewN | apply Kd.R_drew)); exact Kd.R_mono HO438.out (fun _ hk => hk.2)⟩, ⟨bk BK433.out⟩, ⟨bel⟩⟩
    case round =>
      clear H'
      try clear p2; try clear c4; try clear c6; try clear c6b0; try clear c6b1; try clear hcz10_0; try clear hcz10_1; try clear hcz10_2; try clear hcz12_0; try clear hcz12_1; try clear hcz12_2; try clear hcz14_0; try clear hcz14_1; try clear hcz14_2; try clear hcz16_0; try clear hcz16_1; try clear hcz16_2; try clear hfz10_0; try clear hfz10_1; try clear hfz10_2; try clear hfz12_0; try clear hfz12_1; try clear hfz12_2; try clear hfz14_0; try clear hfz14_1; try clear hfz14_2; try clear hfz16_0; try clear hfz16_1; try clear hfz16_2
      obtain ⟨x34_1, rfl, HA, HK1, HO_10, HO_32, BK433, HB⟩ := hrel
      cases gk with
      | zero => exact absurd HA.out (by simp [spec_l15Before.l0])
      | succ k1 =>
        have H := HA.out
        clear HA
        simp only [spec_l15Before.l0] at H
        by_cases c19 : x34_1 < (t436.length : Int)
        · rw [if_pos c19] at H
          have c19b0 : decide (x34_1 < (t436.length : Int)) = true := decide_eq_true c19
          clear c19
          by_cases c20 : 0 ≤ x34_1
          · rw [if_pos c20] at H
            have c20b0 : decide (0 ≤ x34_1) = true := decide_eq_true c20
            clear c20
            by_cases c21 : x34_1 < (t436.length : Int)
            · rw [if_pos c21] at H
              have c21b0 : decide (x34_1 < (t436.length : Int)) = true := decide_eq_true c21
              clear c21
              by_cases c22 : x34_1 < (t439.length : Int)
              · rw [if_pos c22] at H
                have c22b0 : decide (x34_1 < (t439.length : Int)) = true := decide_eq_true c22
                clear c22
                by_cases c23 : (rd t436 x34_1) = (rd t439 x34_1)
                · rw [if_pos c23] at H
                  have c23b0 : ((rd t436 x34_1) == (rd t439 x34_1)) = true := beq_iff_eq.mpr c23
                  have c23b1 : ((rd t436 x34_1) != (rd t439 x34_1)) = false := bne_eq_false_iff_eq.mpr c23
                  clear c23
                  have H' := Aside0.mk H
                  clear H
                  have p442 : 0 ≤ (x34_1 : Int) := asm
                  have q442 : x34_1 < (t436.length : Int) := asm
                  obtain ⟨ad442, e442, hx442_0⟩ := Kd.at_int (Kd.R_reads' HO_32.out).2.2 x34_1 p442 q442
                  cases e442
                  replace p442 := eq_true p442
                  replace q442 := eq_true q442
                  obtain ⟨Ao24, co24, eo24⟩ := Kd.R_slice HO_10.out
                  subst eo24
                  have p443 : 0 ≤ (x34_1 : Int) := asm
                  have q443 : x34_1 < (t439.length : Int) := asm
                  obtain ⟨ad443, e443, hx443_0⟩ := Kd.at_int (Kd.R_reads' HO_10.out).2.2 x34_1 p443 q443
                  cases e443
                  replace p443 := eq_true p443
                  replace q443 := eq_true q443
                  go_wp2
                  repeat (go_quiet (fail); try go_wp2)
                  go_roundg k1
                  case measure => have := HK1.out; omega
                  case rel => exact ⟨(wrap64 (x34_1 + 1)), (es), H', ⟨by have := HK1.out; omega⟩, ⟨rk HO_10.out⟩, ⟨rk HO_32.out⟩, ⟨bk BK433.out⟩, ⟨bel⟩⟩
                · rw [if_neg c23] at H
                  have c23b0 : ((rd t436 x34_1) == (rd t439 x34_1)) = false := beq_eq_false_iff_ne.mpr c23
                  have c23b1 : ((rd t436 x34_1) != (rd t439 x34_1)) = true := bne_iff_ne.mpr c23
                  obtain rfl := Option.some.inj H
                  have p442 : 0 ≤ (x34_1 : Int) := asm
                  have q442 : x34_1 < (t436.length : Int) := asm
                  obtain ⟨ad442, e442, hx442_0⟩ := Kd.at_int (Kd.R_reads' HO_32.out).2.2 x34_1 p442 q442
                  cases e442
                  replace p442 := eq_true p442
                  replace q442 := eq_true q442
                  obtain ⟨Ao25, co25, eo25⟩ := Kd.R_slice HO_10.out
                  subst eo25
                  have p443 : 0 ≤ (x34_1 : Int) := asm
                  have q443 : x34_1 < (t439.length : Int) := asm
                  obtain ⟨ad443, e443, hx443_0⟩ := Kd.at_int (Kd.R_reads' HO_10.out).2.2 x34_1 p443 q443
                  cases e443
                  replace p443 := eq_true p443
                  replace q443 := eq_true q443
                  have p444 : 0 ≤ (x34_1 : Int) := asm
                  have q444 : x34_1 < (t439.length : Int) := asm
                  obtain ⟨ad444, e444, hx444_0⟩ := Kd.at_int (Kd.R_reads' HO_10.out).2.2 x34_1 p444 q444
                  obtain rfl : ad443 = ad444 := (by injection e444)
                  replace p444 := eq_true p444
                  replace q444 := eq_true q444
                  go_wp2
                  repeat (go_quiet (fail); try go_wp2)
                  go_ret
                  exact ⟨er, bel⟩
              · rw [if_neg c22] at H
                exact absurd H (by simp)
            · rw [if_neg c21] at H
              exact absurd H (by simp)
          · rw [if_neg c20] at H
            exact absurd H (by simp)
        · rw [if_neg c19] at H
          have c19b0 : decide (x34_1 < (t436.length : Int)) = false := decide_eq_false c19
          clear c19
          have H' := Aside0.mk H
          clear H
          obtain ⟨hcz26_0, hcz26_1, hcz26_2, hfz26_0, hfz26_1, hfz26_2⟩ := cf3 BK433.out
          go_wp2
          repeat (go_quiet (fail); try go_wp2)
          go_loopg [13] k1 (fun kq v13 w' => ∃ (x13_2 : Int), v13 = .int .i64 x13_2 ∧ Aside0 (spec_l15Before.l1 kq a1 a2 x13_2 a0_0 l0_1 a0_2 = some r) ∧ Aside0 (kq ≤ k1) ∧ Aside0 (w'.heap[gb433]? = some (.cells #[.int .i64 a0_0, (.slice A0_1 l0_1.length c0_1), .int .i64 a0_2] 31 (0, 0))) ∧ Aside0 (Below w.heap.size w w'))
          case atStart => exact ⟨(wrap64 ((l0_1.length : Int) - 1)), (es), H', ⟨Nat.le_refl _⟩, ⟨bk BK433.out⟩, ⟨bel⟩⟩
          case round =>
            clear H'
            try clear c1; try clear c2; try clear p2; try clear c4; try clear p4; try clear q4; try clear hx4; try clear c6; try clear c6b0; try clear c6b1; try clear p6; try clear c19; try clear c19b0; try clear c20; try clear c20b0; try clear c21; try clear c21b0; try clear c22; try clear c22b0; try clear c23; try clear c23b0; try clear c23b1; try clear hcz10_0; try clear hcz10_1; try clear hcz10_2; try clear hcz12_0; try clear hcz12_1; try clear hcz12_2; try clear hcz14_0; try clear hcz14_1; try clear hcz14_2; try clear hcz16_0; try clear hcz16_1; try clear hcz16_2; try clear hcz26_0; try clear hcz26_1; try clear hcz26_2; try clear hfz10_0; try clear hfz10_1; try clear hfz10_2; try clear hfz12_0; try clear hfz12_1; try clear hfz12_2; try clear hfz14_0; try clear hfz14_1; try clear hfz14_2; try clear hfz16_0; try clear hfz16_1; try clear hfz16_2; try clear hfz26_0; try clear hfz26_1; try clear hfz26_2; try clear hx442_0; try clear hx443_0; try clear hx444_0; try clear p2; try clear p442; try clear p443; try clear p444; try clear q442; try clear q443; try clear q444
            obtain ⟨x13_2, rfl, HA, HK2, BK433, HB⟩ := hrel
            cases gk with
            | zero => exact absurd HA.out (by simp [spec_l15Before.l1])
            | succ k2 =>
              have H := HA.out
              clear HA
              simp only [spec_l15Before.l1] at H
              by_cases c27 : x13_2 ≥ 0
              · rw [if_pos c27] at H
                have c27b0 : decide (0 ≤ x13_2) = true := decide_eq_true c27
                clear c27
                by_cases c28 : 0 ≤ x13_2
                · rw [if_pos c28] at H
                  have c28b0 : decide (0 ≤ x13_2) = true := decide_eq_true c28
                  clear c28
                  by_cases c29 : x13_2 < (l0_1.length : Int)
                  · rw [if_pos c29] at H
                    have c29b0 : decide (x13_2 < (l0_1.length : Int)) = true := decide_eq_true c29
                    clear c29
                    by_cases c30 : 0 ≤ a1
                    · rw [if_pos c30] at H
                      have c30b0 : decide (0 ≤ a1) = true := decide_eq_true c30
                      clear c30
                      by_cases c31 : a1 < ((rd_L1 l0_1 x13_2).length : Int)
                      · rw [if_pos c31] at H
                        have c31b0 : decide (a1 < ((rd_L1 l0_1 x13_2).length : Int)) = true := decide_eq_true c31
                        clear c31
                        by_cases c32 : 0 ≤ a2
                        · rw [if_pos c32] at H
                          have c32b0 : decide (0 ≤ a2) = true := decide_eq_true c32
                          clear c32
                          by_cases c33 : a2 < ((rd_L1 l0_1 x13_2).length : Int)
                          · rw [if_pos c33] at H
                            have c33b0 : decide (a2 < ((rd_L1 l0_1 x13_2).length : Int)) = true := decide_eq_true c33
                            clear c33
                            by_cases c34 : (rd (rd_L1 l0_1 x13_2) a1) = (rd (rd_L1 l0_1 x13_2) a2)
                            · rw [if_pos c34] at H
                              have c34b0 : ((rd (rd_L1 l0_1 x13_2) a1) == (rd (rd_L1 l0_1 x13_2) a2)) = true := beq_iff_eq.mpr c34
                              have c34b1 : ((rd (rd_L1 l0_1 x13_2) a1) != (rd (rd_L1 l0_1 x13_2) a2)) = false := bne_eq_false_iff_eq.mpr c34
                              clear c34
                              have H' := Aside0.mk H
                              clear H
                              obtain ⟨hcz35_0, hcz35_1, hcz35_2, hfz35_0, hfz35_1, hfz35_2⟩ := cf3 BK433.out
                              have p445 : 0 ≤ (x13_2 : Int) := asm
                              have q445 : x13_2 < (l0_1.length : Int) := asm
                              obtain ⟨ad445, A445_0, c445_0, e445, hx445_0, hl445_0, hi445_0⟩ := at_L1 HR0_1.out x13_2 p445 q445
                              cases e445
                              replace hx445_0 := hcl HB.out hx445_0
                              have HR445_0 := Aside0.mk hi445_0
                              have HC445_0 := Aside0.mk hl445_0
                              clear hi445_0 hl445_0
                              replace p445 := eq_true p445
                              replace q445 := eq_true q445
                              have p446 : 0 ≤ (a1 : Int) := asm
                              have q446 : a1 < ((rd_L1 l0_1 x13_2).length : Int) := asm
                              obtain ⟨ad446, e446, hx446_0⟩ := Kd.at_int HR445_0.out a1 p446 q446
                              cases e446
                              replace hx446_0 := hcl HB.out hx446_0
                              replace p446 := eq_true p446
                              replace q446 := eq_true q446
                              have p447 : 0 ≤ (x13_2 : Int) := asm
                              have q447 : x13_2 < (l0_1.length : Int) := asm
                              obtain ⟨ad447, A447_0, c447_0, e447, hx447_0, hl447_0, hi447_0⟩ := at_L1 HR0_1.out x13_2 p447 q447
                              obtain rfl : ad445 = ad447 := (by injection e447)
                              replace hx447_0 := hcl HB.out hx447_0
                              have HR447_0 := Aside0.mk hi447_0
                              have HC447_0 := Aside0.mk hl447_0
                              clear hi447_0 hl447_0
                              replace p447 := eq_true p447
                              replace q447 := eq_true q447
                              have ea_ := Option.some.inj (hx445_0.symm.trans hx447_0)
                              injection ea_ with ea_ en_ ec_
                              subst ea_
                              subst ec_
                              clear en_
                              have p448 : 0 ≤ (a2 : Int) := asm
                              have q448 : a2 < ((rd_L1 l0_1 x13_2).length : Int) := asm
                              obtain ⟨ad448, e448, hx448_0⟩ := Kd.at_int HR447_0.out a2 p448 q448
                              obtain rfl : ad446 = ad448 := (by injection e448)
                              replace hx448_0 := hcl HB.out hx448_0
                              replace p448 := eq_true p448
                              replace q448 := eq_true q448
                              go_wp2
                              repeat (go_quiet (fail); try go_wp2)
                              go_roundg k2
                              case measure => have := HK1.out; have := HK2.out; omega
                              case rel => exact ⟨(wrap64 (x13_2 - 1)), (es), H', ⟨by have := HK1.out; have := HK2.out; omega⟩, ⟨bk BK433.out⟩, ⟨bel⟩⟩
                            · rw [if_neg c34] at H
                              have c34b0 : ((rd (rd_L1 l0_1 x13_2) a1) == (rd (rd_L1 l0_1 x13_2) a2)) = false := beq_eq_false_iff_ne.mpr c34
                              have c34b1 : ((rd (rd_L1 l0_1 x13_2) a1) != (rd (rd_L1 l0_1 x13_2) a2)) = true := bne_iff_ne.mpr c34
                              obtain rfl := Option.some.inj H
                              obtain ⟨hcz36_0, hcz36_1, hcz36_2, hfz36_0, hfz36_1, hfz36_2⟩ := cf3 BK433.out
                              have p445 : 0 ≤ (x13_2 : Int) := asm
                              have q445 : x13_2 < (l0_1.length : Int) := asm
                              obtain ⟨ad445, A445_0, c445_0, e445, hx445_0, hl445_0, hi445_0⟩ := at_L1 HR0_1.out x13_2 p445 q445
                              cases e445
                              replace hx445_0 := hcl HB.out hx445_0
                              have HR445_0 := Aside0.mk hi445_0
                              have HC445_0 := Aside0.mk hl445_0
                              clear hi445_0 hl445_0
                              replace p445 := eq_true p445
                              replace q445 := eq_true q445
                              have p446 : 0 ≤ (a1 : Int) := asm
                              have q446 : a1 < ((rd_L1 l0_1 x13_2).length : Int) := asm
                              obtain ⟨ad446, e446, hx446_0⟩ := Kd.at_int HR445_0.out a1 p446 q446
                              cases e446
                              replace hx446_0 := hcl HB.out hx446_0
                              replace p446 := eq_true p446
                              replace q446 := eq_true q446
                              have p447 : 0 ≤ (x13_2 : Int) := asm
                              have q447 : x13_2 < (l0_1.length : Int) := asm
                              obtain ⟨ad447, A447_0, c447_0, e447, hx447_0, hl447_0, hi447_0⟩ := at_L1 HR0_1.out x13_2 p447 q447
                              obtain rfl : ad445 = ad447 := (by injection e447)
                              replace hx447_0 := hcl HB.out hx447_0
                              have HR447_0 := Aside0.mk hi447_0
                              have HC447_0 := Aside0.mk hl447_0
                              clear hi447_0 hl447_0
                              replace p447 := eq_true p447
                              replace q447 := eq_true q447
                              have ea_ := Option.some.inj (hx445_0.symm.trans hx447_0)
                              injection ea_ with ea_ en_ ec_
                              subst ea_
                              subst ec_
                              clear en_
                              have p448 : 0 ≤ (a2 : Int) := asm
                              have q448 : a2 < ((rd_L1 l0_1 x13_2).length : Int) := asm
                              obtain ⟨ad448, e448, hx448_0⟩ := Kd.at_int HR447_0.out a2 p448 q448
                              obtain rfl : ad446 = ad448 := (by injection e448)
                              replace hx448_0 := hcl HB.out hx448_0
                              replace p448 := eq_true p448
                              replace q448 := eq_true q448
                              have p449 : 0 ≤ (x13_2 : Int) := asm
                              have q449 : x13_2 < (l0_1.length : Int) := asm
                              obtain ⟨ad449, A449_0, c449_0, e449, hx449_0, hl449_0, hi449_0⟩ := at_L1 HR0_1.out x13_2 p449 q449
                              obtain rfl : ad445 = ad449 := (by injection e449)
                              replace hx449_0 := hcl HB.out hx449_0
                              have HR449_0 := Aside0.mk hi449_0
                              have HC449_0 := Aside0.mk hl449_0
                              clear hi449_0 hl449_0
                              replace p449 := eq_true p449
                              replace q449 := eq_true q449
                              have ea_ := Option.some.inj (hx445_0.symm.trans hx449_0)
                              injection ea_ with ea_ en_ ec_
                              subst ea_
                              subst ec_
                              clear en_
                              have p450 : 0 ≤ (a1 : Int) := asm
                              have q450 : a1 < ((rd_L1 l0_1 x13_2).length : Int) := asm
                              obtain ⟨ad450, e450, hx450_0⟩ := Kd.at_int HR449_0.out a1 p450 q450
                              obtain rfl : ad446 = ad450 := (by injection e450)
                              replace hx450_0 := hcl HB.out hx450_0
                              replace p450 := eq_true p450
                              replace q450 := eq_true q450
                              have p451 : 0 ≤ (x13_2 : Int) := asm
                              have q451 : x13_2 < (l0_1.length : Int) := asm
                              obtain ⟨ad451, A451_0, c451_0, e451, hx451_0, hl451_0, hi451_0⟩ := at_L1 HR0_1.out x13_2 p451 q451
                              obtain rfl : ad445 = ad451 := (by injection e451)
                              replace hx451_0 := hcl HB.out hx451_0
                              have HR451_0 := Aside0.mk hi451_0
                              have HC451_0 := Aside0.mk hl451_0
                              clear hi451_0 hl451_0
                              replace p451 := eq_true p451
                              replace q451 := eq_true q451
                              have ea_ := Option.some.inj (hx445_0.symm.trans hx451_0)
                              injection ea_ with ea_ en_ ec_
                              subst ea_
                              subst ec_
                              clear en_
                              have p452 : 0 ≤ (a2 : Int) := asm
                              have q452 : a2 < ((rd_L1 l0_1 x13_2).length : Int) := asm
                              obtain ⟨ad452, e452, hx452_0⟩ := Kd.at_int HR451_0.out a2 p452 q452
                              obtain rfl : ad446 = ad452 := (by injection e452)
                              replace hx452_0 := hcl HB.out hx452_0
                              replace p452 := eq_true p452
                              replace q452 := eq_true q452
                              go_wp2
                              repeat (go_quiet (fail); try go_wp2)
                              go_ret
                              exact ⟨er, bel⟩
                          · rw [if_neg c33] at H
                            exact absurd H (by simp)
                        · rw [if_neg c32] at H
                          exact absurd H (by simp)
                      · rw [if_neg c31] at H
                        exact absurd H (by simp)
                    · rw [if_neg c30] at H
                      exact absurd H (by simp)
                  · rw [if_neg c29] at H
                    exact absurd H (by simp)
                · rw [if_neg c28] at H
                  exact absurd H (by simp)
              · rw [if_neg c27] at H
                have c27b0 : decide (0 ≤ x13_2) = false := decide_eq_false c27
                clear c27
                obtain rfl := Option.some.inj H
                go_wp2
                repeat (go_quiet (fail); try go_wp2)
                go_ret
                exact ⟨er, bel⟩
  · rw [if_neg c6] at H
    have c6b0 : (t434 == t435) = false := beq_eq_false_iff_ne.mpr c6
    have c6b1 : (t434 != t435) = true := bne_iff_ne.mpr c6
    obtain rfl := Option.some.inj H
    go_enter Try.func47, Try.ntmps47
    go_wp2_with (first | ((with_reducible refine gate_dst (N := 3) rfl ?_); refine box_event ?hg (N := 3) ?hd (cs := #[.int .i64 a0_0, .slice A0_1 l0_1.length c0_1, .int .i64 a0_2]) (t := 31) ?hr ?_; (case hd => rfl); (case hg => rfl); (case hr => first | (go_simp; done) | (go_simp; rfl)); intro gb433 hg w37 hbox hb; have BK433 := Aside0.mk (hbox); have GW433 := Aside0.mk ((bsz hg : w.heap.size ≤ gb433)); have GE433 := Aside0.mk ((bsz hg : w.heap.size ≤ gb433)); replace HB := Aside0.mk (below_step bel hb); clear hb hbox hg; obtain ⟨hcz38_0, hcz38_1, hcz38_2, hfz38_0, hfz38_1, hfz38_2⟩ := cf3 BK433.out) | (go_at_call 45; (with_reducible refine (spec_l15Score.calls k a0_0 _ _ l0_1 a0_2 a1 t434 _ ?side1 ?side2 A4.out).mono ?_); (case side1 => exact ck (Kd.C_below HR0_1.out HB.out)); (case side2 => exact HC0_1.out); rintro e w39 ⟨rfl, hb⟩; replace BK433 := Aside0.mk (bb BK433.out hb); replace HB := Aside0.mk (below_step bel hb); (try clear hb); (try clear hb2); (try clear hk); (try clear hi); obtain ⟨hcz40_0, hcz40_1, hcz40_2, hfz40_0, hfz40_1, hfz40_2⟩ := cf3 BK433.out) | (go_at_call 45; (with_reducible refine (spec_l15Score.calls k a0_0 _ _ l0_1 a0_2 a2 t435 _ ?side1 ?side2 A5.out).mono ?_); (case side1 => exact ck (Kd.C_below HR0_1.out HB.out)); (case side2 => exact HC0_1.out); rintro e w41 ⟨rfl, hb⟩; replace BK433 := Aside0.mk (bb BK433.out hb); replace HB := Aside0.mk (below_step bel hb); (try clear hb); (try clear hb2); (try clear hk); (try clear hi)))
    repeat (go_quiet (first | ((with_reducible refine gate_dst (N := 3) rfl ?_); refine box_event ?hg (N := 3) ?hd (cs := #[.int .i64 a0_0, .slice A0_1 l0_1.length c0_1, .int .i64 a0_2]) (t := 31) ?hr ?_; (case hd => rfl); (case hg => rfl); (case hr => first | (go_simp; done) | (go_simp; rfl)); intro gb433 hg w37 hbox hb; have BK433 := Aside0.mk (hbox); have GW433 := Aside0.mk ((bsz hg : w.heap.size ≤ gb433)); have GE433 := Aside0.mk ((bsz hg : w.heap.size ≤ gb433)); replace HB := Aside0.mk (below_step bel hb); clear hb hbox hg; obtain ⟨hcz38_0, hcz38_1, hcz38_2, hfz38_0, hfz38_1, hfz38_2⟩ := cf3 BK433.out) | (go_at_call 45; (with_reducible refine (spec_l15Score.calls k a0_0 _ _ l0_1 a0_2 a1 t434 _ ?side1 ?side2 A4.out).mono ?_); (case side1 => exact ck (Kd.C_below HR0_1.out HB.out)); (case side2 => exact HC0_1.out); rintro e w39 ⟨rfl, hb⟩; replace BK433 := Aside0.mk (bb BK433.out hb); replace HB := Aside0.mk (below_step bel hb); (try clear hb); (try clear hb2); (try clear hk); (try clear hi); obtain ⟨hcz40_0, hcz40_1, hcz40_2, hfz40_0, hfz40_1, hfz40_2⟩ := cf3 BK433.out) | (go_at_call 45; (with_reducible refine (spec_l15Score.calls k a0_0 _ _ l0_1 a0_2 a2 t435 _ ?side1 ?side2 A5.out).mono ?_); (case side1 => exact ck (Kd.C_below HR0_1.out HB.out)); (case side2 => exact HC0_1.out); rintro e w41 ⟨rfl, hb⟩; replace BK433 := Aside0.mk (bb BK433.out hb); replace HB := Aside0.mk (below_step bel hb); (try clear hb); (try clear hb2); (try clear hk); (try clear hi))); try go_wp2_with (first | ((with_reducible refine gate_dst (N := 3) rfl ?_); refine box_event ?hg (N := 3) ?hd (cs := #[.int .i64 a0_0, .slice A0_1 l0_1.length c0_1, .int .i64 a0_2]) (t := 31) ?hr ?_; (case hd => rfl); (case hg => rfl); (case hr => first | (go_simp; done) | (go_simp; rfl)); intro gb433 hg w37 hbox hb; have BK433 := Aside0.mk (hbox); have GW433 := Aside0.mk ((bsz hg : w.heap.size ≤ gb433)); have GE433 := Aside0.mk ((bsz hg : w.heap.size ≤ gb433)); replace HB := Aside0.mk (below_step bel hb); clear hb hbox hg; obtain ⟨hcz38_0, hcz38_1, hcz38_2, hfz38_0, hfz38_1, hfz38_2⟩ := cf3 BK433.out) | (go_at_call 45; (with_reducible refine (spec_l15Score.calls k a0_0 _ _ l0_1 a0_2 a1 t434 _ ?side1 ?side2 A4.out).mono ?_); (case side1 => exact ck (Kd.C_below HR0_1.out HB.out)); (case side2 => exact HC0_1.out); rintro e w39 ⟨rfl, hb⟩; replace BK433 := Aside0.mk (bb BK433.out hb); replace HB := Aside0.mk (below_step bel hb); (try clear hb); (try clear hb2); (try clear hk); (try clear hi); obtain ⟨hcz40_0, hcz40_1, hcz40_2, hfz40_0, hfz40_1, hfz40_2⟩ := cf3 BK433.out) | (go_at_call 45; (with_reducible refine (spec_l15Score.calls k a0_0 _ _ l0_1 a0_2 a2 t435 _ ?side1 ?side2 A5.out).mono ?_); (case side1 => exact ck (Kd.C_below HR0_1.out HB.out)); (case side2 => exact HC0_1.out); rintro e w41 ⟨rfl, hb⟩; replace BK433 := Aside0.mk (bb BK433.out hb); replace HB := Aside0.mk (below_step bel hb); (try clear hb); (try clear hb2); (try clear hk); (try clear hi))))
    go_ret
    exact ⟨er, bel⟩

end Go.Proofs.Ytipojkfkcelejaa.X
