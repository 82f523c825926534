-- Written by a program of this session (wip/xp.py, over the kit's print) out of the translation: functions, and the walks that show them.
import Derived.Test.YteaemblallbgpaaX0
import Derived.Test.YteaemblallbgpaaX3
import Derived.Test.YteaemblallbgpaaX4
import Derived.Test.YteaemblallbgpaaX15
namespace Go.Proofs.Yteaemblallbgpaa.X
open Go.RowKit Go.Proofs.YteaemblallbgpaaW.PrintWords Go.Proofs.YteaemblallbgpaaW.PrintLast Go.Proofs.YteaemblallbgpaaW.PrintMore
attribute [local go_sem] max2_int min2_int max_two min_two max_three min_three max_four min_four   -- for this text's walks alone
set_option linter.unusedVariables false
set_option linter.unusedSimpArgs false

/-! ### impl_IsCut: function 25 -/
def impl_IsCut.f (k : Nat) (a0_0 : Int) (l0_1 : List (S60)) (a1 : Int) (a2 : Int) (l3 : List Bool) (a4 : Int) : Option (Bool) := (impl_NetOk.f k a0_0 l0_1).bind fun t263 => (if t263 = true then (if (l3.length : Int) = a0_0 then ((impl_within.f a1 0 (wrap64 (a0_0 - 1))).bind fun t264 => (if t264 = true then ((impl_within.f a2 0 (wrap64 (a0_0 - 1))).bind fun t265 => (if t265 = true then (if 0 ≤ a1 then (if a1 < (l3.length : Int) then (if rdOf false l3 a1 = true then (if 0 ≤ a2 then (if a2 < (l3.length : Int) then (if rdOf false l3 a2 = true then (some false) else ((impl_CutLimit.f k a0_0 l0_1 l3).bind fun t268 => (some (t268 == a4)))) else (none)) else (none)) else (some false)) else (none)) else (none)) else (some false))) else (some false))) else (some false)) else (some false))
theorem impl_IsCut.mono : ∀ a0 a1 a2 a3 a4 a5 k, LeO (impl_IsCut.f k a0 a1 a2 a3 a4 a5) (impl_IsCut.f (k + 1) a0 a1 a2 a3 a4 a5) := by
  intro a0 a1 a2 a3 a4 a5 k
  unfold impl_IsCut.f
  repeat' first
      | (with_reducible exact impl_CutLimit.mono _ _ _ _)
      | (with_reducible exact impl_NetOk.mono _ _ _)
      | (with_reducible exact LeO.refl _)
      | (with_reducible exact LeO.none _)
      | (with_reducible refine LeO.ite ?_ ?_)
      | (with_reducible refine LeO.bind ?_ (fun _ => ?_))
      | exact impl_CutLimit.mono _ _ _ _
      | exact impl_NetOk.mono _ _ _
      | exact LeO.none _
      | refine LeO.ite ?_ ?_
      | refine LeO.bind ?_ (fun _ => ?_)
set_option maxHeartbeats 8000000 in
set_option maxRecDepth 100000 in
theorem impl_IsCut.calls (k : Nat) (a0_0 : Int) (A0_1 : Option Addr) (c0_1 : Nat) (l0_1 : List (S60)) (a1 : Int) (a2 : Int) (A3 : Option Addr) (c3 : Nat) (l3 : List Bool) (a4 : Int) (r : Bool) (w : World) (hr0_1 : Kd.C k60 w A0_1 l0_1.length l0_1) (hc0_1 : l0_1.length ≤ c0_1) (hr3 : Kd.C Kd.bool w A3 l3.length l3) (hc3 : l3.length ≤ c3) (h : impl_IsCut.f k a0_0 l0_1 a1 a2 l3 a4 = some r) :
    Calls Try.prog 25 #[.agg #[.int .i64 a0_0, .slice A0_1 l0_1.length c0_1], .int .i64 a1, .int .i64 a2, .slice A3 l3.length c3, .int .i64 a4] w fun e w' => e = .returned (.bool r) ∧ Below w.heap.size w w' := by
  have hu29 := Try.underlying29
  have HR0_1 := Aside0.mk hr0_1
  have HC0_1 := Aside0.mk hc0_1
  clear hr0_1 hc0_1
  have HR3 := Aside0.mk hr3
  have HC3 := Aside0.mk hc3
  clear hr3 hc3
  have HB := Aside0.mk (Below.refl w.heap.size w)
  have H : ((impl_NetOk.f k a0_0 l0_1).bind fun t263 => (if t263 = true then (if (l3.length : Int) = a0_0 then ((impl_within.f a1 0 (wrap64 (a0_0 - 1))).bind fun t264 => (if t264 = true then ((impl_within.f a2 0 (wrap64 (a0_0 - 1))).bind fun t265 => (if t265 = true then (if 0 ≤ a1 then (if a1 < (l3.length : Int) then (if rdOf false l3 a1 = true then (if 0 ≤ a2 then (if a2 < (l3.length : Int) then (if rdOf false l3 a2 = true then (some false) else ((impl_CutLimit.f k a0_0 l0_1 l3).bind fun t268 => (some (t268 == a4)))) else (none)) else (none)) else (some false)) else (none)) else (none)) else (some false))) else (some false))) else (some false)) else (some false))) = some r := h
  clear h
  replace H := Option.bind_eq_some_iff.mp H
  obtain ⟨t263, A60, H⟩ := H
  replace H : (if t263 = true then (if (l3.length : Int) = a0_0 then ((impl_within.f a1 0 (wrap64 (a0_0 - 1))).bind fun t264 => (if t264 = true then ((impl_within.f a2 0 (wrap64 (a0_0 - 1))).bind fun t265 => (if t265 = true then (if 0 ≤ a1 then (if a1 < (l3.length : Int) then (if rdOf false l3 a1 = true then (if 0 ≤ a2 then (if a2 < (l3.length : Int) then (if rdOf false l3 a2 = true then (some false) else ((impl_CutLimit.f k a0_0 l0_1 l3).bind fun t268 => (some (t268 == a4)))) else (none)) else (none)) else (some false)) else (none)) else (none)) else (some false))) else (some false))) else (some false)) else (some false)) = some r := H
  have A6 := Aside0.mk A60
  clear A60
  by_cases c7 : t263 = true
  · subst c7
    have H1 : (if (l3.length : Int) = a0_0 then ((impl_within.f a1 0 (wrap64 (a0_0 - 1))).bind fun t264 => (if t264 = true then ((impl_within.f a2 0 (wrap64 (a0_0 - 1))).bind fun t265 => (if t265 = true then (if 0 ≤ a1 then (if a1 < (l3.length : Int) then (if rdOf false l3 a1 = true then (if 0 ≤ a2 then (if a2 < (l3.length : Int) then (if rdOf false l3 a2 = true then (some false) else ((impl_CutLimit.f k a0_0 l0_1 l3).bind fun t268 => (some (t268 == a4)))) else (none)) else (none)) else (some false)) else (none)) else (none)) else (some false))) else (some false))) else (some false)) = some r := by rw [if_pos rfl] at H; exact H
    clear H
    have H := H1
    clear H1
    by_cases c8 : (l3.length : Int) = a0_0
    · rw [if_pos c8] at H
      have c8b0 : ((l3.length : Int) == a0_0) = true := beq_iff_eq.mpr c8
      have c8b1 : ((l3.length : Int) != a0_0) = false := bne_eq_false_iff_eq.mpr c8
      clear c8
      replace H := Option.bind_eq_some_iff.mp H
      obtain ⟨t264, A90, H⟩ := H
      replace H : (if t264 = true then ((impl_within.f a2 0 (wrap64 (a0_0 - 1))).bind fun t265 => (if t265 = true then (if 0 ≤ a1 then (if a1 < (l3.length : Int) then (if rdOf false l3 a1 = true then (if 0 ≤ a2 then (if a2 < (l3.length : Int) then (if rdOf false l3 a2 = true then (some false) else ((impl_CutLimit.f k a0_0 l0_1 l3).bind fun t268 => (some (t268 == a4)))) else (none)) else (none)) else (some false)) else (none)) else (none)) else (some false))) else (some false)) = some r := H
      have A9 := Aside0.mk A90
      clear A90
      by_cases c10 : t264 = true
      · subst c10
        have H1 : ((impl_within.f a2 0 (wrap64 (a0_0 - 1))).bind fun t265 => (if t265 = true then (if 0 ≤ a1 then (if a1 < (l3.length : Int) then (if rdOf false l3 a1 = true then (if 0 ≤ a2 then (if a2 < (l3.length : Int) then (if rdOf false l3 a2 = true then (some false) else ((impl_CutLimit.f k a0_0 l0_1 l3).bind fun t268 => (some (t268 == a4)))) else (none)) else (none)) else (some false)) else (none)) else (none)) else (some false))) = some r := by rw [if_pos rfl] at H; exact H
        clear H
        have H := H1
        clear H1
        replace H := Option.bind_eq_some_iff.mp H
        obtain ⟨t265, A110, H⟩ := H
        replace H : (if t265 = true then (if 0 ≤ a1 then (if a1 < (l3.length : Int) then (if rdOf false l3 a1 = true then (if 0 ≤ a2 then (if a2 < (l3.length : Int) then (if rdOf false l3 a2 = true then (some false) else ((impl_CutLimit.f k a0_0 l0_1 l3).bind fun t268 => (some (t268 == a4)))) else (none)) else (none)) else (some false)) else (none)) else (none)) else (some false)) = some r := H
        have A11 := Aside0.mk A110
        clear A110
        by_cases c12 : t265 = true
        · subst c12
          have H1 : (if 0 ≤ a1 then (if a1 < (l3.length : Int) then (if rdOf false l3 a1 = true then (if 0 ≤ a2 then (if a2 < (l3.length : Int) then (if rdOf false l3 a2 = true then (some false) else ((impl_CutLimit.f k a0_0 l0_1 l3).bind fun t268 => (some (t268 == a4)))) else (none)) else (none)) else (some false)) else (none)) else (none)) = some r := by rw [if_pos rfl] at H; exact H
          clear H
          have H := H1
          clear H1
          by_cases c13 : 0 ≤ a1
          · rw [if_pos c13] at H
            have c13b0 : decide (0 ≤ a1) = true := decide_eq_true c13
            clear c13
            by_cases c14 : a1 < (l3.length : Int)
            · rw [if_pos c14] at H
              have c14b0 : decide (a1 < (l3.length : Int)) = true := decide_eq_true c14
              clear c14
              obtain ⟨bq15, hbq15⟩ : ∃ b_ : Bool, b_ = (rdOf false l3 a1) := ⟨_, rfl⟩
              replace H : (if bq15 = true then (if 0 ≤ a2 then (if a2 < (l3.length : Int) then (if rdOf false l3 a2 = true then (some false) else ((impl_CutLimit.f k a0_0 l0_1 l3).bind fun t268 => (some (t268 == a4)))) else (none)) else (none)) else (some false)) = some r := by rw [← hbq15] at H; exact H
              have Nbq15 := Aside0.mk hbq15
              clear hbq15
              by_cases c16 : bq15 = true
              · subst c16
                have H1 : (if 0 ≤ a2 then (if a2 < (l3.length : Int) then (if rdOf false l3 a2 = true then (some false) else ((impl_CutLimit.f k a0_0 l0_1 l3).bind fun t268 => (some (t268 == a4)))) else (none)) else (none)) = some r := by rw [if_pos rfl] at H; exact H
                clear H
                have H := H1
                clear H1
                by_cases c17 : 0 ≤ a2
                · rw [if_pos c17] at H
                  have c17b0 : decide (0 ≤ a2) = true := decide_eq_true c17
                  clear c17
                  by_cases c18 : a2 < (l3.length : Int)
                  · rw [if_pos c18] at H
                    have c18b0 : decide (a2 < (l3.length : Int)) = true := decide_eq_true c18
                    clear c18
                    obtain ⟨bq19, hbq19⟩ : ∃ b_ : Bool, b_ = (rdOf false l3 a2) := ⟨_, rfl⟩
                    replace H : (if bq19 = true then (some false) else ((impl_CutLimit.f k a0_0 l0_1 l3).bind fun t268 => (some (t268 == a4)))) = some r := by rw [← hbq19] at H; exact H
                    have Nbq19 := Aside0.mk hbq19
                    clear hbq19
                    by_cases c20 : bq19 = true
                    · subst c20
                      have H1 : (some false) = some r := by rw [if_pos rfl] at H; exact H
                      clear H
                      have H := H1
                      clear H1
                      obtain rfl := Option.some.inj H
                      go_enter Try.func25, Try.ntmps25
                      go_wp2_with (first | ((with_reducible refine gate_dst (N := 5) rfl ?_); refine box_event ?hg (N := 5) ?hd (cs := #[.int .i64 a0_0, .slice A0_1 l0_1.length c0_1]) (t := 29) ?hr ?_; (case hd => rfl); (case hg => rfl); (case hr => first | (go_simp; done) | (go_simp; rfl)); intro gb262 hg w21 hbox hb; have BK262 := Aside0.mk (hbox); have GW262 := Aside0.mk ((bsz hg : w.heap.size ≤ gb262)); have GE262 := Aside0.mk ((bsz hg : w.heap.size ≤ gb262)); replace HB := Aside0.mk (below_step bel hb); clear hb hbox hg; obtain ⟨hcz22_0, hcz22_1, hfz22_0, hfz22_1⟩ := cf2 BK262.out) | ((with_reducible refine gate_callee (f := 14) rfl ?_); refine goesL_ (some 12) rfl rfl Try.func14 (by kernel_rfl) rfl #[.agg #[.int .i64 a0_0, .slice A0_1 l0_1.length c0_1]] rfl ga ?_; (with_reducible refine (impl_NetOk.calls k a0_0 _ _ l0_1 true _ ?side1 ?side2 A6.out).mono ?_); (case side1 => exact ck (Kd.C_below HR0_1.out HB.out)); (case side2 => exact HC0_1.out); rintro e w23 ⟨rfl, hb⟩; refine ⟨_, rfl, ?_⟩; replace BK262 := Aside0.mk (bb BK262.out hb); replace HB := Aside0.mk (below_step bel hb); (try clear hb); obtain ⟨hcz24_0, hcz24_1, hfz24_0, hfz24_1⟩ := cf2 BK262.out) | (go_at_call 41; (with_reducible refine (impl_within.calls a1 0 (wrap64 (a0_0 - 1)) true _ A9.out).mono ?_); rintro e w' ⟨rfl, ⟨nd, rfl⟩⟩) | (go_at_call 41; (with_reducible refine (impl_within.calls a2 0 (wrap64 (a0_0 - 1)) true _ A11.out).mono ?_); rintro e w' ⟨rfl, ⟨nd, rfl⟩⟩; have p266 : 0 ≤ (a1 : Int) := asm; have q266 : a1 < (l3.length : Int) := asm; obtain ⟨ad266, e266, hx266_0⟩ := Kd.at_bool HR3.out a1 p266 q266; (try rw [← Nbq15.out] at hx266_0); (try rw [← Nbq19.out] at hx266_0); cases e266; replace hx266_0 := hcl HB.out hx266_0; replace p266 := eq_true p266; replace q266 := eq_true q266; have p267 : 0 ≤ (a2 : Int) := asm; have q267 : a2 < (l3.length : Int) := asm; obtain ⟨ad267, e267, hx267_0⟩ := Kd.at_bool HR3.out a2 p267 q267; (try rw [← Nbq15.out] at hx267_0); (try rw [← Nbq19.out] at hx267_0); obtain rfl : ad266 = ad267 := (by injection e267); replace hx267_0 := hcl HB.out hx267_0; replace p267 := eq_true p267; replace q267 := eq_true q267))
                      go_ret
                      exact ⟨er, bel⟩
                    · replace c20 := Bool.eq_false_iff.mpr c20
                      subst c20
                      have H1 : ((impl_CutLimit.f k a0_0 l0_1 l3).bind fun t268 => (some (t268 == a4))) = some r := by rw [if_neg (show ¬ (false = true) by decide)] at H; exact H
                      clear H
                      have H := H1
                      clear H1
                      replace H := Option.bind_eq_some_iff.mp H
                      obtain ⟨t268, A250, H⟩ := H
                      replace H : (some (t268 == a4)) = some r := H
                      have A25 := Aside0.mk A250
                      clear A250
                      obtain rfl := Option.some.inj H
                      go_enter Try.func25, Try.ntmps25
                      go_wp2_with (first | ((with_reducible refine gate_dst (N := 5) rfl ?_); refine box_event ?hg (N := 5) ?hd (cs := #[.int .i64 a0_0, .slice A0_1 l0_1.length c0_1]) (t := 29) ?hr ?_; (case hd => rfl); (case hg => rfl); (case hr => first | (go_simp; done) | (go_simp; rfl)); intro gb262 hg w26 hbox hb; have BK262 := Aside0.mk (hbox); have GW262 := Aside0.mk ((bsz hg : w.heap.size ≤ gb262)); have GE262 := Aside0.mk ((bsz hg : w.heap.size ≤ gb262)); replace HB := Aside0.mk (below_step bel hb); clear hb hbox hg; obtain ⟨hcz27_0, hcz27_1, hfz27_0, hfz27_1⟩ := cf2 BK262.out) | ((with_reducible refine gate_callee (f := 14) rfl ?_); refine goesL_ (some 12) rfl rfl Try.func14 (by kernel_rfl) rfl #[.agg #[.int .i64 a0_0, .slice A0_1 l0_1.length c0_1]] rfl ga ?_; (with_reducible refine (impl_NetOk.calls k a0_0 _ _ l0_1 true _ ?side1 ?side2 A6.out).mono ?_); (case side1 => exact ck (Kd.C_below HR0_1.out HB.out)); (case side2 => exact HC0_1.out); rintro e w28 ⟨rfl, hb⟩; refine ⟨_, rfl, ?_⟩; replace BK262 := Aside0.mk (bb BK262.out hb); replace HB := Aside0.mk (below_step bel hb); (try clear hb); obtain ⟨hcz29_0, hcz29_1, hfz29_0, hfz29_1⟩ := cf2 BK262.out) | (go_at_call 41; (with_reducible refine (impl_within.calls a1 0 (wrap64 (a0_0 - 1)) true _ A9.out).mono ?_); rintro e w' ⟨rfl, ⟨nd, rfl⟩⟩) | (go_at_call 41; (with_reducible refine (impl_within.calls a2 0 (wrap64 (a0_0 - 1)) true _ A11.out).mono ?_); rintro e w' ⟨rfl, ⟨nd, rfl⟩⟩; have p266 : 0 ≤ (a1 : Int) := asm; have q266 : a1 < (l3.length : Int) := asm; obtain ⟨ad266, e266, hx266_0⟩ := Kd.at_bool HR3.out a1 p266 q266; (try rw [← Nbq15.out] at hx266_0); (try rw [← Nbq19.out] at hx266_0); cases e266; replace hx266_0 := hcl HB.out hx266_0; replace p266 := eq_true p266; replace q266 := eq_true q266; have p267 : 0 ≤ (a2 : Int) := asm; have q267 : a2 < (l3.length : Int) := asm; obtain ⟨ad267, e267, hx267_0⟩ := Kd.at_bool HR3.out a2 p267 q267; (try rw [← Nbq15.out] at hx267_0); (try rw [← Nbq19.out] at hx267_0); obtain rfl : ad266 = ad267 := (by injection e267); replace hx267_0 := hcl HB.out hx267_0; replace p267 := eq_true p267; replace q267 := eq_true q267) | (go_at_call 22; (with_reducible refine (impl_CutLimit.calls k a0_0 _ _ l0_1 _ _ l3 t268 _ ?side1 ?side2 ?side3 ?side4 A25.out).mono ?_); (case side1 => exact ck (Kd.C_below HR0_1.out bel)); (case side2 => exact HC0_1.out); (case side3 => exact ck (Kd.C_below HR3.out bel)); (case side4 => exact HC3.out); rintro e w30 ⟨rfl, hb⟩; replace BK262 := Aside0.mk (bb BK262.out hb); replace HB := Aside0.mk (below_step bel hb); (try clear hb); (try clear hb2); (try clear hk); (try clear hi)))
                      go_ret
                      exact ⟨er, bel⟩
                  · rw [if_neg c18] at H
                    exact absurd H (by simp)
                · rw [if_neg c17] at H
                  exact absurd H (by simp)
              · replace c16 := Bool.eq_false_iff.mpr c16
                subst c16
                have H1 : (some false) = some r := by rw [if_neg (show ¬ (false = true) by decide)] at H; exact H
                clear H
                have H := H1
                clear H1
                obtain rfl := Option.some.inj H
                go_enter Try.func25, Try.ntmps25
                go_wp2_with (first | ((with_reducible refine gate_dst (N := 5) rfl ?_); refine box_event ?hg (N := 5) ?hd (cs := #[.int .i64 a0_0, .slice A0_1 l0_1.length c0_1]) (t := 29) ?hr ?_; (case hd => rfl); (case hg => rfl); (case hr => first | (go_simp; done) | (go_simp; rfl)); intro gb262 hg w31 hbox hb; have BK262 := Aside0.mk (hbox); have GW262 := Aside0.mk ((bsz hg : w.heap.size ≤ gb262)); have GE262 := Aside0.mk ((bsz hg : w.heap.size ≤ gb262)); replace HB := Aside0.mk (below_step bel hb); clear hb hbox hg; obtain ⟨hcz32_0, hcz32_1, hfz32_0, hfz32_1⟩ := cf2 BK262.out) | ((with_reducible refine gate_callee (f := 14) rfl ?_); refine goesL_ (some 12) rfl rfl Try.func14 (by kernel_rfl) rfl #[.agg #[.int .i64 a0_0, .slice A0_1 l0_1.length c0_1]] rfl ga ?_; (with_reducible refine (impl_NetOk.calls k a0_0 _ _ l0_1 true _ ?side1 ?side2 A6.out).mono ?_); (case side1 => exact ck (Kd.C_below HR0_1.out HB.out)); (case side2 => exact HC0_1.out); rintro e w33 ⟨rfl, hb⟩; refine ⟨_, rfl, ?_⟩; replace BK262 := Aside0.mk (bb BK262.out hb); replace HB := Aside0.mk (below_step bel hb); (try clear hb); obtain ⟨hcz34_0, hcz34_1, hfz34_0, hfz34_1⟩ := cf2 BK262.out) | (go_at_call 41; (with_reducible refine (impl_within.calls a1 0 (wrap64 (a0_0 - 1)) true _ A9.out).mono ?_); rintro e w' ⟨rfl, ⟨nd, rfl⟩⟩) | (go_at_call 41; (with_reducible refine (impl_within.calls a2 0 (wrap64 (a0_0 - 1)) true _ A11.out).mono ?_); rintro e w' ⟨rfl, ⟨nd, rfl⟩⟩; have p266 : 0 ≤ (a1 : Int) := asm; have q266 : a1 < (l3.length : Int) := asm; obtain ⟨ad266, e266, hx266_0⟩ := Kd.at_bool HR3.out a1 p266 q266; (try rw [← Nbq15.out] at hx266_0); cases e266; replace hx266_0 := hcl HB.out hx266_0; replace p266 := eq_true p266; replace q266 := eq_true q266))
                go_ret
                exact ⟨er, bel⟩
            · rw [if_neg c14] at H
              exact absurd H (by simp)
          · rw [if_neg c13] at H
            exact absurd H (by simp)
        · replace c12 := Bool.eq_false_iff.mpr c12
          subst c12
          have H1 : (some false) = some r := by rw [if_neg (show ¬ (false = true) by decide)] at H; exact H
          clear H
          have H := H1
          clear H1
          obtain rfl := Option.some.inj H
          go_enter Try.func25, Try.ntmps25
          go_wp2_with (first | ((with_reducible refine gate_dst (N := 5) rfl ?_); refine box_event ?hg (N := 5) ?hd (cs := #[.int .i64 a0_0, .slice A0_1 l0_1.length c0_1]) (t := 29) ?hr ?_; (case hd => rfl); (case hg => rfl); (case hr => first | (go_simp; done) | (go_simp; rfl)); intro gb262 hg w35 hbox hb; have BK262 := Aside0.mk (hbox); have GW262 := Aside0.mk ((bsz hg : w.heap.size ≤ gb262)); have GE262 := Aside0.mk ((bsz hg : w.heap.size ≤ gb262)); replace HB := Aside0.mk (below_step bel hb); clear hb hbox hg; obtain ⟨hcz36_0, hcz36_1, hfz36_0, hfz36_1⟩ := cf2 BK262.out) | ((with_reducible refine gate_callee (f := 14) rfl ?_); refine goesL_ (some 12) rfl rfl Try.func14 (by kernel_rfl) rfl #[.agg #[.int .i64 a0_0, .slice A0_1 l0_1.length c0_1]] rfl ga ?_; (with_reducible refine (impl_NetOk.calls k a0_0 _ _ l0_1 true _ ?side1 ?side2 A6.out).mono ?_); (case side1 => exact ck (Kd.C_below HR0_1.out HB.out)); (case side2 => exact HC0_1.out); rintro e w37 ⟨rfl, hb⟩; refine ⟨_, rfl, ?_⟩; replace BK262 := Aside0.mk (bb BK262.out hb); replace HB := Aside0.mk (below_step bel hb); (try clear hb); obtain ⟨hcz38_0, hcz38_1, hfz38_0, hfz38_1⟩ := cf2 BK262.out) | (go_at_call 41; (with_reducible refine (impl_within.calls a1 0 (wrap64 (a0_0 - 1)) true _ A9.out).mono ?_); rintro e w' ⟨rfl, ⟨nd, rfl⟩⟩) | (go_at_call 41; (with_reducible refine (impl_within.calls a2 0 (wrap64 (a0_0 - 1)) false _ A11.out).mono ?_); rintro e w' ⟨rfl, ⟨nd, rfl⟩⟩))
          go_ret
          exact ⟨er, bel⟩
      · replace c10 := Bool.eq_false_iff.mpr c10
        subst c10
        have H1 : (some false) = some r := by rw [if_neg (show ¬ (false = true) by decide)] at H; exact H
        clear H
        have H := H1
        clear H1
        obtain rfl := Option.some.inj H
        go_enter Try.func25, Try.ntmps25
        go_wp2_with (first | ((with_reducible refine gate_dst (N := 5) rfl ?_); refine box_event ?hg (N := 5) ?hd (cs := #[.int .i64 a0_0, .slice A0_1 l0_1.length c0_1]) (t := 29) ?hr ?_; (case hd => rfl); (case hg => rfl); (case hr => first | (go_simp; done) | (go_simp; rfl)); intro gb262 hg w39 hbox hb; have BK262 := Aside0.mk (hbox); have GW262 := Aside0.mk ((bsz hg : w.heap.size ≤ gb262)); have GE262 := Aside0.mk ((bsz hg : w.heap.size ≤ gb262)); replace HB := Aside0.mk (below_step bel hb); clear hb hbox hg; obtain ⟨hcz40_0, hcz40_1, hfz40_0, hfz40_1⟩ := cf2 BK262.out) | ((with_reducible refine gate_callee (f := 14) rfl ?_); refine goesL_ (some 12) rfl rfl Try.func14 (by kernel_rfl) rfl #[.agg #[.int .i64 a0_0, .slice A0_1 l0_1.length c0_1]] rfl ga ?_; (with_reducible refine (impl_NetOk.calls k a0_0 _ _ l0_1 true _ ?side1 ?side2 A6.out).mono ?_); (case side1 => exact ck (Kd.C_below HR0_1.out HB.out)); (case side2 => exact HC0_1.out); rintro e w41 ⟨rfl, hb⟩; refine ⟨_, rfl, ?_⟩; replace BK262 := Aside0.mk (bb BK262.out hb); replace HB := Aside0.mk (below_step bel hb); (try clear hb); obtain ⟨hcz42_0, hcz42_1, hfz42_0, hfz42_1⟩ := cf2 BK262.out) | (go_at_call 41; (with_reducible refine (impl_within.calls a1 0 (wrap64 (a0_0 - 1)) false _ A9.out).mono ?_); rintro e w' ⟨rfl, ⟨nd, rfl⟩⟩))
        go_ret
        exact ⟨er, bel⟩
    · rw [if_neg c8] at H
      have c8b0 : ((l3.length : Int) == a0_0) = false := beq_eq_false_iff_ne.mpr c8
      have c8b1 : ((l3.length : Int) != a0_0) = true := bne_iff_ne.mpr c8
      obtain rfl := Option.some.inj H
      go_enter Try.func25, Try.ntmps25
      go_wp2_with (first | ((with_reducible refine gate_dst (N := 5) rfl ?_); refine box_event ?hg (N := 5) ?hd (cs := #[.int .i64 a0_0, .slice A0_1 l0_1.length c0_1]) (t := 29) ?hr ?_; (case hd => rfl); (case hg => rfl); (case hr => first | (go_simp; done) | (go_simp; rfl)); intro gb262 hg w43 hbox hb; have BK262 := Aside0.mk (hbox); have GW262 := Aside0.mk ((bsz hg : w.heap.size ≤ gb262)); have GE262 := Aside0.mk ((bsz hg : w.heap.size ≤ gb262)); replace HB := Aside0.mk (below_step bel hb); clear hb hbox hg; obtain ⟨hcz44_0, hcz44_1, hfz44_0, hfz44_1⟩ := cf2 BK262.out) | ((with_reducible refine gate_callee (f := 14) rfl ?_); refine goesL_ (some 12) rfl rfl Try.func14 (by kernel_rfl) rfl #[.agg #[.int .i64 a0_0, .slice A0_1 l0_1.length c0_1]] rfl ga ?_; (with_reducible refine (impl_NetOk.calls k a0_0 _ _ l0_1 true _ ?side1 ?side2 A6.out).mono ?_); (case side1 => exact ck (Kd.C_below HR0_1.out HB.out)); (case side2 => exact HC0_1.out); rintro e w45 ⟨rfl, hb⟩; refine ⟨_, rfl, ?_⟩; replace BK262 := Aside0.mk (bb BK262.out hb); replace HB := Aside0.mk (below_step bel hb); (try clear hb); obtain ⟨hcz46_0, hcz46_1, hfz46_0, hfz46_1⟩ := cf2 BK262.out))
      go_ret
      exact ⟨er, bel⟩
  · replace c7 := Bool.eq_false_iff.mpr c7
    subst c7
    have H1 : (some false) = some r := by rw [if_neg (show ¬ (false = true) by decide)] at H; exact H
    clear H
    have H := H1
    clear H1
    obtain rfl := Option.some.inj H
    go_enter Try.func25, Try.ntmps25
    go_wp2_with (first | ((with_reducible refine gate_dst (N := 5) rfl ?_); refine box_event ?hg (N := 5) ?hd (cs := #[.int .i64 a0_0, .slice A0_1 l0_1.length c0_1]) (t := 29) ?hr ?_; (case hd => rfl); (case hg => rfl); (case hr => first | (go_simp; done) | (go_simp; rfl)); intro gb262 hg w47 hbox hb; have BK262 := Aside0.mk (hbox); have GW262 := Aside0.mk ((bsz hg : w.heap.size ≤ gb262)); have GE262 := Aside0.mk ((bsz hg : w.heap.size ≤ gb262)); replace HB := Aside0.mk (below_step bel hb); clear hb hbox hg; obtain ⟨hcz48_0, hcz48_1, hfz48_0, hfz48_1⟩ := cf2 BK262.out) | ((with_reducible refine gate_callee (f := 14) rfl ?_); refine goesL_ (some 12) rfl rfl Try.func14 (by kernel_rfl) rfl #[.agg #[.int .i64 a0_0, .slice A0_1 l0_1.length c0_1]] rfl ga ?_; (with_reducible refine (impl_NetOk.calls k a0_0 _ _ l0_1 false _ ?side1 ?side2 A6.out).mono ?_); (case side1 => exact ck (Kd.C_below HR0_1.out HB.out)); (case side2 => exact HC0_1.out); rintro e w49 ⟨rfl, hb⟩; refine ⟨_, rfl, ?_⟩; replace BK262 := Aside0.mk (bb BK262.out hb); replace HB := Aside0.mk (below_step bel hb); (try clear hb)))
    go_ret
    exact ⟨er, bel⟩

end Go.Proofs.Yteaemblallbgpaa.X
