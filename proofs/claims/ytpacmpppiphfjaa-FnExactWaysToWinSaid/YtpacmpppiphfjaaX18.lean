-- Written by a program of this session (wip/xp.py, over the kit's print) out of the translation: functions, and the walks that show them.
import Derived.Test.YtpacmpppiphfjaaX0
import Derived.Test.YtpacmpppiphfjaaX1
import Derived.Test.YtpacmpppiphfjaaX14
namespace Go.Proofs.Ytpacmpppiphfjaa.X
open Go.RowKit Go.Proofs.YtpacmpppiphfjaaW.PrintWords Go.Proofs.YtpacmpppiphfjaaW.PrintLast Go.Proofs.YtpacmpppiphfjaaW.PrintMore
attribute [local go_sem] max2_int min2_int max_two min_two max_three min_three max_four min_four   -- for this text's walks alone
set_option linter.unusedVariables false
set_option linter.unusedSimpArgs false

/-! ### impl_CupOk: function 33 -/
def impl_CupOk.l0 : Nat → List Int → Int → Int → Int → List Int → Option (Bool)
  | 0, _, _, _, _, _ => none
  | k + 1, x9, x10, x11, x263000, x263001 => if x11 < x10 then (if 0 ≤ x11 then (if x11 < (x9.length : Int) then ((impl_OpponentsOf.f k x263000 x263001 x11).bind fun bt264 => (if bt264.2.2 = true then (if (rd x9 x11) = bt264.1 then (impl_CupOk.l0 k x9 x10 (wrap64 (x11 + 1)) x263000 x263001) else (if (rd x9 x11) = bt264.2.1 then (impl_CupOk.l0 k x9 x10 (wrap64 (x11 + 1)) x263000 x263001) else (some false))) else (some false))) else (none)) else (none)) else ((impl_CupSizeOk.f x263000).bind fun t267 => (some t267))
def impl_CupOk.f (k : Nat) (a0_0 : Int) (l0_1 : List Int) : Option (Bool) := impl_CupOk.l0 k l0_1 (l0_1.length : Int) 0 a0_0 l0_1
theorem impl_CupOk.mono_l : ∀ k, (∀ y0 y1 y2 y3 y4, LeO (impl_CupOk.l0 k y0 y1 y2 y3 y4) (impl_CupOk.l0 (k + 1) y0 y1 y2 y3 y4))
  | 0 => fun _ _ _ _ _ r h => by simp [impl_CupOk.l0] at h
  | k + 1 => by
    have ih0 := impl_CupOk.mono_l k
    · intro y0 y1 y2 y3 y4
      unfold impl_CupOk.l0
      repeat' first
      | (with_reducible exact ih0 _ _ _ _ _)
      | (with_reducible exact impl_OpponentsOf.mono _ _ _ _)
      | (with_reducible exact LeO.refl _)
      | (with_reducible exact LeO.none _)
      | (with_reducible refine LeO.ite ?_ ?_)
      | (with_reducible refine LeO.bind ?_ (fun _ => ?_))
      | exact ih0 _ _ _ _ _
      | exact impl_OpponentsOf.mono _ _ _ _
      | exact LeO.none _
      | refine LeO.ite ?_ ?_
      | refine LeO.bind ?_ (fun _ => ?_)
theorem impl_CupOk.mono : ∀ a0 a1 k, LeO (impl_CupOk.f k a0 a1) (impl_CupOk.f (k + 1) a0 a1) := by
  intro a0 a1 k
  have ih0 := impl_CupOk.mono_l k
  unfold impl_CupOk.f
  repeat' first
      | (with_reducible exact ih0 _ _ _ _ _)
      | (with_reducible exact impl_OpponentsOf.mono _ _ _ _)
      | (with_reducible exact LeO.refl _)
      | (with_reducible exact LeO.none _)
      | (with_reducible refine LeO.ite ?_ ?_)
      | (with_reducible refine LeO.bind ?_ (fun _ => ?_))
      | exact ih0 _ _ _ _ _
      | exact impl_OpponentsOf.mono _ _ _ _
      | exact LeO.none _
      | refine LeO.ite ?_ ?_
      | refine LeO.bind ?_ (fun _ => ?_)
set_option maxHeartbeats 8000000 in
set_option maxRecDepth 100000 in
theorem impl_CupOk.calls (k : Nat) (a0_0 : Int) (A0_1 : Option Addr) (c0_1 : Nat) (l0_1 : List Int) (r : Bool) (w : World) (hr0_1 : Kd.C (Kd.int .i64) w A0_1 l0_1.length l0_1) (hc0_1 : l0_1.length ≤ c0_1) (h : impl_CupOk.f k a0_0 l0_1 = some r) :
    Calls Try.prog 33 #[.agg #[.int .i64 a0_0, .slice A0_1 l0_1.length c0_1]] w fun e w' => e = .returned (.bool r) ∧ Below w.heap.size w w' := by
  have hu36 := Try.underlying36
  have HR0_1 := Aside0.mk hr0_1
  have HC0_1 := Aside0.mk hc0_1
  clear hr0_1 hc0_1
  have HB := Aside0.mk (Below.refl w.heap.size w)
  have H : (impl_CupOk.l0 k l0_1 (l0_1.length : Int) 0 a0_0 l0_1) = some r := h
  clear h
  have H' := Aside0.mk H
  clear H
  go_enter Try.func33, Try.ntmps33
  go_wp2_with (first | ((with_reducible refine gate_dst (N := 1) rfl ?_); refine box_event ?hg (N := 1) ?hd (cs := #[.int .i64 a0_0, .slice A0_1 l0_1.length c0_1]) (t := 36) ?hr ?_; (case hd => rfl); (case hg => rfl); (case hr => first | (go_simp; done) | (go_simp; rfl)); intro gb262 hg w2 hbox hb; have BK262 := Aside0.mk (hbox); have GW262 := Aside0.mk ((bsz hg : w.heap.size ≤ gb262)); have GE262 := Aside0.mk ((bsz hg : w.heap.size ≤ gb262)); replace HB := Aside0.mk (below_step bel hb); clear hb hbox hg; obtain ⟨hcz3_0, hcz3_1, hfz3_0, hfz3_1⟩ := cf2 BK262.out))
  go_loopg [11] k (fun kq v11 w' => ∃ (x11_1 : Int), v11 = .int .i64 x11_1 ∧ Aside0 (impl_CupOk.l0 kq l0_1 (l0_1.length : Int) x11_1 a0_0 l0_1 = some r) ∧ Aside0 (kq ≤ k) ∧ Aside0 (w'.heap[gb262]? = some (.cells #[.int .i64 a0_0, (.slice A0_1 l0_1.length c0_1)] 36 (0, 0))) ∧ Aside0 (Below w.heap.size w w'))
  case atStart => exact ⟨(0), (es), H', ⟨Nat.le_refl _⟩, ⟨bk BK262.out⟩, ⟨bel⟩⟩
  case round =>
    clear H'
    try clear p2; try clear c3; try clear hcz3_0; try clear hcz3_1; try clear hfz3_0; try clear hfz3_1
    obtain ⟨x11_1, rfl, HA, HK1, BK262, HB⟩ := hrel
    cases gk with
    | zero => exact absurd HA.out (by simp [impl_CupOk.l0])
    | succ k1 =>
      have H := HA.out
      clear HA
      simp only [impl_CupOk.l0] at H
      by_cases c4 : x11_1 < (l0_1.length : Int)
      · rw [if_pos c4] at H
        have c4b0 : decide (x11_1 < (l0_1.length : Int)) = true := decide_eq_true c4
        clear c4
        by_cases c5 : 0 ≤ x11_1
        · rw [if_pos c5] at H
          have c5b0 : decide (0 ≤ x11_1) = true := decide_eq_true c5
          clear c5
          by_cases c6 : x11_1 < (l0_1.length : Int)
          · rw [if_pos c6] at H
            have c6b0 : decide (x11_1 < (l0_1.length : Int)) = true := decide_eq_true c6
            clear c6
            replace H := Option.bind_eq_some_iff.mp H
            obtain ⟨⟨t264, t265, t266⟩, A70, H⟩ := H
            replace H : (if t266 = true then (if (rd l0_1 x11_1) = t264 then (impl_CupOk.l0 k1 l0_1 (l0_1.length : Int) (wrap64 (x11_1 + 1)) a0_0 l0_1) else (if (rd l0_1 x11_1) = t265 then (impl_CupOk.l0 k1 l0_1 (l0_1.length : Int) (wrap64 (x11_1 + 1)) a0_0 l0_1) else (some false))) else (some false)) = some r := H
            have A7 := Aside0.mk A70
            clear A70
            by_cases c8 : t266 = true
            · subst c8
              have H1 : (if (rd l0_1 x11_1) = t264 then (impl_CupOk.l0 k1 l0_1 (l0_1.length : Int) (wrap64 (x11_1 + 1)) a0_0 l0_1) else (if (rd l0_1 x11_1) = t265 then (impl_CupOk.l0 k1 l0_1 (l0_1.length : Int) (wrap64 (x11_1 + 1)) a0_0 l0_1) else (some false))) = some r := by rw [if_pos rfl] at H; exact H
              clear H
              have H := H1
              clear H1
              by_cases c9 : (rd l0_1 x11_1) = t264
              · rw [if_pos c9] at H
                have c9b0 : ((rd l0_1 x11_1) == t264) = true := beq_iff_eq.mpr c9
                have c9b1 : ((rd l0_1 x11_1) != t264) = false := bne_eq_false_iff_eq.mpr c9
                clear c9
                have H' := Aside0.mk H
                clear H
                have p263 : 0 ≤ (x11_1 : Int) := asm
                have q263 : x11_1 < (l0_1.length : Int) := asm
                obtain ⟨ad263, e263, hx263_0⟩ := Kd.at_int HR0_1.out x11_1 p263 q263
                cases e263
                replace hx263_0 := hcl HB.out hx263_0
                replace p263 := eq_true p263
                replace q263 := eq_true q263
                obtain ⟨hcz10_0, hcz10_1, hfz10_0, hfz10_1⟩ := cf2 BK262.out
                go_wp2_with (first | ((with_reducible refine gate_callee (f := 30) rfl ?_); refine goesL_ (some 19) rfl rfl Try.func30 (by kernel_rfl) rfl #[.agg #[.int .i64 a0_0, .slice (some ad263) l0_1.length c0_1], .int .i64 x11_1] rfl ga ?_; (with_reducible refine (impl_OpponentsOf.calls k1 a0_0 _ _ l0_1 x11_1 t264 t265 true _ ?side1 ?side2 A7.out).mono ?_); (case side1 => exact ck (Kd.C_below HR0_1.out HB.out)); (case side2 => exact HC0_1.out); rintro e w11 ⟨rfl, hb⟩; refine ⟨_, rfl, ?_⟩; replace BK262 := Aside0.mk (bb BK262.out hb); replace HB := Aside0.mk (below_step bel hb); (try clear hb)))
                go_roundg k1
                case measure => have := HK1.out; omega
                case rel => exact ⟨(wrap64 (x11_1 + 1)), (es), H', ⟨by have := HK1.out; omega⟩, ⟨bk BK262.out⟩, ⟨bel⟩⟩
              · rw [if_neg c9] at H
                have c9b0 : ((rd l0_1 x11_1) == t264) = false := beq_eq_false_iff_ne.mpr c9
                have c9b1 : ((rd l0_1 x11_1) != t264) = true := bne_iff_ne.mpr c9
                by_cases c12 : (rd l0_1 x11_1) = t265
                · rw [if_pos c12] at H
                  have c12b0 : ((rd l0_1 x11_1) == t265) = true := beq_iff_eq.mpr c12
                  have c12b1 : ((rd l0_1 x11_1) != t265) = false := bne_eq_false_iff_eq.mpr c12
                  clear c12
                  have H' := Aside0.mk H
                  clear H
                  have p263 : 0 ≤ (x11_1 : Int) := asm
                  have q263 : x11_1 < (l0_1.length : Int) := asm
                  obtain ⟨ad263, e263, hx263_0⟩ := Kd.at_int HR0_1.out x11_1 p263 q263
                  cases e263
                  replace hx263_0 := hcl HB.out hx263_0
                  replace p263 := eq_true p263
                  replace q263 := eq_true q263
                  obtain ⟨hcz13_0, hcz13_1, hfz13_0, hfz13_1⟩ := cf2 BK262.out
                  go_wp2_with (first | ((with_reducible refine gate_callee (f := 30) rfl ?_); refine goesL_ (some 19) rfl rfl Try.func30 (by kernel_rfl) rfl #[.agg #[.int .i64 a0_0, .slice (some ad263) l0_1.length c0_1], .int .i64 x11_1] rfl ga ?_; (with_reducible refine (impl_OpponentsOf.calls k1 a0_0 _ _ l0_1 x11_1 t264 t265 true _ ?side1 ?side2 A7.out).mono ?_); (case side1 => exact ck (Kd.C_below HR0_1.out HB.out)); (case side2 => exact HC0_1.out); rintro e w14 ⟨rfl, hb⟩; refine ⟨_, rfl, ?_⟩; replace BK262 := Aside0.mk (bb BK262.out hb); replace HB := Aside0.mk (below_step bel hb); (try clear hb)))
                  go_roundg k1
                  case measure => have := HK1.out; omega
                  case rel => exact ⟨(wrap64 (x11_1 + 1)), (es), H', ⟨by have := HK1.out; omega⟩, ⟨bk BK262.out⟩, ⟨bel⟩⟩
                · rw [if_neg c12] at H
                  have c12b0 : ((rd l0_1 x11_1) == t265) = false := beq_eq_false_iff_ne.mpr c12
                  have c12b1 : ((rd l0_1 x11_1) != t265) = true := bne_iff_ne.mpr c12
                  obtain rfl := Option.some.inj H
                  have p263 : 0 ≤ (x11_1 : Int) := asm
                  have q263 : x11_1 < (l0_1.length : Int) := asm
                  obtain ⟨ad263, e263, hx263_0⟩ := Kd.at_int HR0_1.out x11_1 p263 q263
                  cases e263
                  replace hx263_0 := hcl HB.out hx263_0
                  replace p263 := eq_true p263
                  replace q263 := eq_true q263
                  obtain ⟨hcz15_0, hcz15_1, hfz15_0, hfz15_1⟩ := cf2 BK262.out
                  go_wp2_with (first | ((with_reducible refine gate_callee (f := 30) rfl ?_); refine goesL_ (some 19) rfl rfl Try.func30 (by kernel_rfl) rfl #[.agg #[.int .i64 a0_0, .slice (some ad263) l0_1.length c0_1], .int .i64 x11_1] rfl ga ?_; (with_reducible refine (impl_OpponentsOf.calls k1 a0_0 _ _ l0_1 x11_1 t264 t265 true _ ?side1 ?side2 A7.out).mono ?_); (case side1 => exact ck (Kd.C_below HR0_1.out HB.out)); (case side2 => exact HC0_1.out); rintro e w16 ⟨rfl, hb⟩; refine ⟨_, rfl, ?_⟩; replace BK262 := Aside0.mk (bb BK262.out hb); replace HB := Aside0.mk (below_step bel hb); (try clear hb)))
                  go_ret
                  exact ⟨er, bel⟩
            · replace c8 := Bool.eq_false_iff.mpr c8
              subst c8
              have H1 : (some false) = some r := by rw [if_neg (show ¬ (false = true) by decide)] at H; exact H
              clear H
              have H := H1
              clear H1
              obtain rfl := Option.some.inj H
              have p263 : 0 ≤ (x11_1 : Int) := asm
              have q263 : x11_1 < (l0_1.length : Int) := asm
              obtain ⟨ad263, e263, hx263_0⟩ := Kd.at_int HR0_1.out x11_1 p263 q263
              cases e263
              replace hx263_0 := hcl HB.out hx263_0
              replace p263 := eq_true p263
              replace q263 := eq_true q263
              obtain ⟨hcz17_0, hcz17_1, hfz17_0, hfz17_1⟩ := cf2 BK262.out
              go_wp2_with (first | ((with_reducible refine gate_callee (f := 30) rfl ?_); refine goesL_ (some 19) rfl rfl Try.func30 (by kernel_rfl) rfl #[.agg #[.int .i64 a0_0, .slice (some ad263) l0_1.length c0_1], .int .i64 x11_1] rfl ga ?_; (with_reducible refine (impl_OpponentsOf.calls k1 a0_0 _ _ l0_1 x11_1 t264 t265 false _ ?side1 ?side2 A7.out).mono ?_); (case side1 => exact ck (Kd.C_below HR0_1.out HB.out)); (case side2 => exact HC0_1.out); rintro e w18 ⟨rfl, hb⟩; refine ⟨_, rfl, ?_⟩; replace BK262 := Aside0.mk (bb BK262.out hb); replace HB := Aside0.mk (below_step bel hb); (try clear hb)))
              go_ret
              exact ⟨er, bel⟩
          · rw [if_neg c6] at H
            exact absurd H (by simp)
        · rw [if_neg c5] at H
          exact absurd H (by simp)
      · rw [if_neg c4] at H
        have c4b0 : decide (x11_1 < (l0_1.length : Int)) = false := decide_eq_false c4
        clear c4
        replace H := Option.bind_eq_some_iff.mp H
        obtain ⟨t267, A190, H⟩ := H
        replace H : (some t267) = some r := H
        have A19 := Aside0.mk A190
        clear A190
        obtain rfl := Option.some.inj H
        obtain ⟨hcz20_0, hcz20_1, hfz20_0, hfz20_1⟩ := cf2 BK262.out
        go_wp2_with (first | ((with_reducible refine gate_callee (f := 15) rfl ?_); refine goesL_ (some 38) rfl rfl Try.func15 (by kernel_rfl) rfl #[.int .i64 a0_0] rfl ga ?_; (with_reducible refine (impl_CupSizeOk.calls a0_0 t267 _ A19.out).mono ?_); rintro e w' ⟨rfl, ⟨nd, rfl⟩⟩; refine ⟨_, rfl, ?_⟩))
        go_ret
        exact ⟨er, bel⟩

end Go.Proofs.Ytpacmpppiphfjaa.X
