-- Written by a program of this session (wip/xp.py, over the kit's print) out of the translation: functions, and the walks that show them.
import Derived.Test.YtpacmpppiphfjaaX0
import Derived.Test.YtpacmpppiphfjaaX3
import Derived.Test.YtpacmpppiphfjaaX4
import Derived.Test.YtpacmpppiphfjaaX5
namespace Go.Proofs.Ytpacmpppiphfjaa.X
open Go.RowKit Go.Proofs.YtpacmpppiphfjaaW.PrintWords Go.Proofs.YtpacmpppiphfjaaW.PrintLast Go.Proofs.YtpacmpppiphfjaaW.PrintMore
attribute [local go_sem] max2_int min2_int max_two min_two max_three min_three max_four min_four   -- for this text's walks alone
set_option linter.unusedVariables false
set_option linter.unusedSimpArgs false

/-! ### laws_heldIntS: function 24 -/
def laws_heldIntS.l0 : Nat → List Int → Int → Int → Option (Int)
  | 0, _, _, _ => none
  | k + 1, x0, x1, x5 => if x5 < (x0.length : Int) then (if 0 ≤ x5 then (if (rd x0 x5) = x1 then (laws_heldIntS.l0 k x0 (wrap64 (x1 + 1)) (wrap64 (x5 + 1))) else (some (-1))) else (none)) else (some x1)
def laws_heldIntS.f (k : Nat) (l0 : List Int) (a1 : Int) : Option (Int) := laws_heldIntS.l0 k l0 a1 0
theorem laws_heldIntS.mono_l : ∀ k, (∀ y0 y1 y2, LeO (laws_heldIntS.l0 k y0 y1 y2) (laws_heldIntS.l0 (k + 1) y0 y1 y2))
  | 0 => fun _ _ _ r h => by simp [laws_heldIntS.l0] at h
  | k + 1 => by
    have ih0 := laws_heldIntS.mono_l k
    · intro y0 y1 y2
      unfold laws_heldIntS.l0
      repeat' first
      | (with_reducible exact ih0 _ _ _)
      | (with_reducible exact LeO.refl _)
      | (with_reducible exact LeO.none _)
      | (with_reducible refine LeO.ite ?_ ?_)
      | (with_reducible refine LeO.bind ?_ (fun _ => ?_))
      | exact ih0 _ _ _
      | exact LeO.none _
      | refine LeO.ite ?_ ?_
      | refine LeO.bind ?_ (fun _ => ?_)
theorem laws_heldIntS.mono : ∀ a0 a1 k, LeO (laws_heldIntS.f k a0 a1) (laws_heldIntS.f (k + 1) a0 a1) := by
  intro a0 a1 k
  have ih0 := laws_heldIntS.mono_l k
  unfold laws_heldIntS.f
  repeat' first
      | (with_reducible exact ih0 _ _ _)
      | (with_reducible exact LeO.refl _)
      | (with_reducible exact LeO.none _)
      | (with_reducible refine LeO.ite ?_ ?_)
      | (with_reducible refine LeO.bind ?_ (fun _ => ?_))
      | exact ih0 _ _ _
      | exact LeO.none _
      | refine LeO.ite ?_ ?_
      | refine LeO.bind ?_ (fun _ => ?_)
set_option maxHeartbeats 8000000 in
set_option maxRecDepth 100000 in
theorem laws_heldIntS.calls (k : Nat) (A0 : Option Addr) (c0 : Nat) (l0 : List Int) (a1 : Int) (r : Int) (w : World) (hr0 : Kd.C (Kd.int .i64) w A0 l0.length l0) (hc0 : l0.length ≤ c0) (h : laws_heldIntS.f k l0 a1 = some r) :
    Calls Try.prog 24 #[.slice A0 l0.length c0, .int .i64 a1] w fun e w' => e = .returned (.int .i64 r) ∧ Drawn0 w w' := by
  have HR0 := Aside0.mk hr0
  have HC0 := Aside0.mk hc0
  clear hr0 hc0
  have H : (laws_heldIntS.l0 k l0 a1 0) = some r := h
  clear h
  have H' := Aside0.mk H
  clear H
  go_enter Try.func24, Try.ntmps24
  go_wp2
  go_loopg [1, 5] k (fun kq v1 v5 w' => ∃ (x1_1 : Int) (x5_1 : Int), v1 = .int .i64 x1_1 ∧ v5 = .int .i64 x5_1 ∧ Aside0 (laws_heldIntS.l0 kq l0 x1_1 x5_1 = some r) ∧ Aside0 (kq ≤ k) ∧ Drawn0 w w')
  case atStart => exact ⟨(a1), (0), (es), (es), H', ⟨Nat.le_refl _⟩, by repeat (first | exact Drawn0.refl _ | apply Drawn0.step)⟩
  case round =>
    clear H'
    try clear c2; try clear p2
    obtain ⟨x1_1, x5_1, rfl, rfl, HA, HK1, ⟨m1, rfl⟩⟩ := hrel
    cases gk with
    | zero => exact absurd HA.out (by simp [laws_heldIntS.l0])
    | succ k1 =>
      have H := HA.out
      clear HA
      simp only [laws_heldIntS.l0] at H
      by_cases c3 : x5_1 < (l0.length : Int)
      · rw [if_pos c3] at H
        have c3b0 : decide (x5_1 < (l0.length : Int)) = true := decide_eq_true c3
        clear c3
        by_cases c4 : 0 ≤ x5_1
        · rw [if_pos c4] at H
          have c4b0 : decide (0 ≤ x5_1) = true := decide_eq_true c4
          clear c4
          by_cases c5 : (rd l0 x5_1) = x1_1
          · rw [if_pos c5] at H
            have c5b0 : ((rd l0 x5_1) == x1_1) = true := beq_iff_eq.mpr c5
            have c5b1 : ((rd l0 x5_1) != x1_1) = false := bne_eq_false_iff_eq.mpr c5
            clear c5
            have H' := Aside0.mk H
            clear H
            have p153 : 0 ≤ (x5_1 : Int) := asm
            have q153 : x5_1 < (l0.length : Int) := asm
            obtain ⟨ad153, e153, hx153_0⟩ := Kd.at_int HR0.out x5_1 p153 q153
            cases e153
            replace p153 := eq_true p153
            replace q153 := eq_true q153
            go_wp2
            go_roundg k1
            case measure => have := HK1.out; omega
            case rel => exact ⟨(wrap64 (x1_1 + 1)), (wrap64 (x5_1 + 1)), (es), (es), H', ⟨by have := HK1.out; omega⟩, by repeat (first | exact Drawn0.refl _ | apply Drawn0.step)⟩
          · rw [if_neg c5] at H
            have c5b0 : ((rd l0 x5_1) == x1_1) = false := beq_eq_false_iff_ne.mpr c5
            have c5b1 : ((rd l0 x5_1) != x1_1) = true := bne_iff_ne.mpr c5
            obtain rfl := Option.some.inj H
            have p153 : 0 ≤ (x5_1 : Int) := asm
            have q153 : x5_1 < (l0.length : Int) := asm
            obtain ⟨ad153, e153, hx153_0⟩ := Kd.at_int HR0.out x5_1 p153 q153
            cases e153
            replace p153 := eq_true p153
            replace q153 := eq_true q153
            go_wp2
            go_ret
            exact ⟨es, by repeat (first | exact Drawn0.refl _ | apply Drawn0.step)⟩
        · rw [if_neg c4] at H
          exact absurd H (by simp)
      · rw [if_neg c3] at H
        have c3b0 : decide (x5_1 < (l0.length : Int)) = false := decide_eq_false c3
        clear c3
        obtain rfl := Option.some.inj H
        go_wp2
        go_ret
        exact ⟨es, by repeat (first | exact Drawn0.refl _ | apply Drawn0.step)⟩

/-! ### laws_FnExactBracketOf: function 6 -/
def laws_FnExactBracketOf.f (k : Nat) (a0 : Int) : Option (Bool) := (spec_BracketOf.f k a0).bind fun t154 => ((impl_BracketOf.f k a0).bind fun t157 => ((laws_eqIntS.f k t157 t154).bind fun t160 => (if t160 = true then ((laws_markIntS.f k t157 1).bind fun bt161 => ((laws_heldIntS.f k bt161.2 1).bind fun t163 => (if t163 < 0 then (some false) else (if t163 = bt161.1 then ((impl_BracketOf.f k a0).bind fun t164 => ((laws_eqIntS.f k t164 t154).bind fun t167 => (if t167 = true then ((laws_heldIntS.f k bt161.2 1).bind fun t168 => (if t168 < 0 then (some false) else (if t168 = bt161.1 then (some true) else (some false)))) else (some false)))) else (some false))))) else (some false))))
theorem laws_FnExactBracketOf.mono : ∀ a0 k, LeO (laws_FnExactBracketOf.f k a0) (laws_FnExactBracketOf.f (k + 1) a0) := by
  intro a0 k
  unfold laws_FnExactBracketOf.f
  repeat' first
      | (with_reducible exact impl_BracketOf.mono _ _)
      | (with_reducible exact laws_eqIntS.mono _ _ _)
      | (with_reducible exact laws_heldIntS.mono _ _ _)
      | (with_reducible exact laws_markIntS.mono _ _ _)
      | (with_reducible exact spec_BracketOf.mono _ _)
      | (with_reducible exact LeO.refl _)
      | (with_reducible exact LeO.none _)
      | (with_reducible refine LeO.ite ?_ ?_)
      | (with_reducible refine LeO.bind ?_ (fun _ => ?_))
      | exact impl_BracketOf.mono _ _
      | exact laws_eqIntS.mono _ _ _
      | exact laws_heldIntS.mono _ _ _
      | exact laws_markIntS.mono _ _ _
      | exact spec_BracketOf.mono _ _
      | exact LeO.none _
      | refine LeO.ite ?_ ?_
      | refine LeO.bind ?_ (fun _ => ?_)
set_option maxHeartbeats 8000000 in
set_option maxRecDepth 100000 in
theorem laws_FnExactBracketOf.calls (k : Nat) (a0 : Int) (r : Bool) (w : World) (h : laws_FnExactBracketOf.f k a0 = some r) :
    Calls Try.prog 6 #[.int .i64 a0] w fun e w' => e = .returned (.bool r) ∧ Below w.heap.size w w' := by
  have HB := Aside0.mk (Below.refl w.heap.size w)
  have H : ((spec_BracketOf.f k a0).bind fun t154 => ((impl_BracketOf.f k a0).bind fun t157 => ((laws_eqIntS.f k t157 t154).bind fun t160 => (if t160 = true then ((laws_markIntS.f k t157 1).bind fun bt161 => ((laws_heldIntS.f k bt161.2 1).bind fun t163 => (if t163 < 0 then (some false) else (if t163 = bt161.1 then ((impl_BracketOf.f k a0).bind fun t164 => ((laws_eqIntS.f k t164 t154).bind fun t167 => (if t167 = true then ((laws_heldIntS.f k bt161.2 1).bind fun t168 => (if t168 < 0 then (some false) else (if t168 = bt161.1 then (some true) else (some false)))) else (some false)))) else (some false))))) else (some false))))) = some r := h
  clear h
  replace H := Option.bind_eq_some_iff.mp H
  obtain ⟨t154, A20, H⟩ := H
  replace H : ((impl_BracketOf.f k a0).bind fun t157 => ((laws_eqIntS.f k t157 t154).bind fun t160 => (if t160 = true then ((laws_markIntS.f k t157 1).bind fun bt161 => ((laws_heldIntS.f k bt161.2 1).bind fun t163 => (if t163 < 0 then (some false) else (if t163 = bt161.1 then ((impl_BracketOf.f k a0).bind fun t164 => ((laws_eqIntS.f k t164 t154).bind fun t167 => (if t167 = true then ((laws_heldIntS.f k bt161.2 1).bind fun t168 => (if t168 < 0 then (some false) else (if t168 = bt161.1 then (some true) else (some false)))) else (some false)))) else (some false))))) else (some false)))) = some r := H
  have A2 := Aside0.mk A20
  clear A20
  replace H := Option.bind_eq_some_iff.mp H
  obtain ⟨t157, A30, H⟩ := H
  replace H : ((laws_eqIntS.f k t157 t154).bind fun t160 => (if t160 = true then ((laws_markIntS.f k t157 1).bind fun bt161 => ((laws_heldIntS.f k bt161.2 1).bind fun t163 => (if t163 < 0 then (some false) else (if t163 = bt161.1 then ((impl_BracketOf.f k a0).bind fun t164 => ((laws_eqIntS.f k t164 t154).bind fun t167 => (if t167 = true then ((laws_heldIntS.f k bt161.2 1).bind fun t168 => (if t168 < 0 then (some false) else (if t168 = bt161.1 then (some true) else (some false)))) else (some false)))) else (some false))))) else (some false))) = some r := H
  have A3 := Aside0.mk A30
  clear A30
  replace H := Option.bind_eq_some_iff.mp H
  obtain ⟨t160, A40, H⟩ := H
  replace H : (if t160 = true then ((laws_markIntS.f k t157 1).bind fun bt161 => ((laws_heldIntS.f k bt161.2 1).bind fun t163 => (if t163 < 0 then (some false) else (if t163 = bt161.1 then ((impl_BracketOf.f k a0).bind fun t164 => ((laws_eqIntS.f k t164 t154).bind fun t167 => (if t167 = true then ((laws_heldIntS.f k bt161.2 1).bind fun t168 => (if t168 < 0 then (some false) else (if t168 = bt161.1 then (some true) else (some false)))) else (some false)))) else (some false))))) else (some false)) = some r := H
  have A4 := Aside0.mk A40
  clear A40
  by_cases c5 : t160 = true
  · subst c5
    have H1 : ((laws_markIntS.f k t157 1).bind fun bt161 => ((laws_heldIntS.f k bt161.2 1).bind fun t163 => (if t163 < 0 then (some false) else (if t163 = bt161.1 then ((impl_BracketOf.f k a0).bind fun t164 => ((laws_eqIntS.f k t164 t154).bind fun t167 => (if t167 = true then ((laws_heldIntS.f k bt161.2 1).bind fun t168 => (if t168 < 0 then (some false) else (if t168 = bt161.1 then (some true) else (some false)))) else (some false)))) else (some false))))) = some r := by rw [if_pos rfl] at H; exact H
    clear H
    have H := H1
    clear H1
    replace H := Option.bind_eq_some_iff.mp H
    obtain ⟨⟨t161, t162⟩, A60, H⟩ := H
    replace H : ((laws_heldIntS.f k t162 1).bind fun t163 => (if t163 < 0 then (some false) else (if t163 = t161 then ((impl_BracketOf.f k a0).bind fun t164 => ((laws_eqIntS.f k t164 t154).bind fun t167 => (if t167 = true then ((laws_heldIntS.f k t162 1).bind fun t168 => (if t168 < 0 then (some false) else (if t168 = t161 then (some true) else (some false)))) else (some false)))) else (some false)))) = some r := H
    have A6 := Aside0.mk A60
    clear A60
    replace H := Option.bind_eq_some_iff.mp H
    obtain ⟨t163, A70, H⟩ := H
    replace H : (if t163 < 0 then (some false) else (if t163 = t161 then ((impl_BracketOf.f k a0).bind fun t164 => ((laws_eqIntS.f k t164 t154).bind fun t167 => (if t167 = true then ((laws_heldIntS.f k t162 1).bind fun t168 => (if t168 < 0 then (some false) else (if t168 = t161 then (some true) else (some false)))) else (some false)))) else (some false))) = some r := H
    have A7 := Aside0.mk A70
    clear A70
    by_cases c8 : t163 < 0
    · rw [if_pos c8] at H
      have c8b0 : decide (t163 < 0) = true := decide_eq_true c8
      clear c8
      obtain rfl := Option.some.inj H
      go_enter Try.func6, Try.ntmps6
      go_wp2_with (first | ((with_reducible refine gate_callee (f := 20) rfl ?_); refine goesL_ (some 9) rfl rfl Try.func20 (by kernel_rfl) rfl #[.int .i64 a0] rfl ga ?_; (with_reducible refine (spec_BracketOf.calls k a0 t154 _ A2.out).mono ?_); rintro e w9 ⟨v155, rfl, ho0, hb⟩; refine ⟨_, rfl, ?_⟩; have HO156 := Aside0.mk (Kd.R_lower ho0 (below_size bel)); replace HB := Aside0.mk (below_step bel hb); (try clear hb); (try clear ho0)) | ((with_reducible refine gate_callee (f := 21) rfl ?_); refine goesL_ (some 11) rfl rfl Try.func21 (by kernel_rfl) rfl #[.int .i64 a0] rfl ga ?_; (with_reducible refine (impl_BracketOf.calls k a0 t157 _ A3.out).mono ?_); rintro e w10 ⟨v158, rfl, ho0, hb⟩; refine ⟨_, rfl, ?_⟩; have HO159 := Aside0.mk (Kd.R_lower (Kd.R_new' ho0 (Kd.R_lt (rk HO156.out))) (below_size bel)); replace HO156 := Aside0.mk (Kd.R_elder' (rk HO156.out) (Kd.R_base ho0) hb); replace HB := Aside0.mk (below_step bel hb); (try clear hb); (try clear ho0); obtain ⟨Ao11, co11, eo11⟩ := Kd.R_slice HO159.out; subst eo11; obtain ⟨Ao12, co12, eo12⟩ := Kd.R_slice HO156.out; subst eo12) | ((with_reducible refine gate_callee (f := 22) rfl ?_); refine goesL_ (some 14) rfl rfl Try.func22 (by kernel_rfl) rfl #[.slice Ao11 t157.length co11, .slice Ao12 t154.length co12] rfl ga ?_; (with_reducible refine (laws_eqIntS.calls k _ _ t157 _ _ t154 true _ ?side1 ?side2 ?side3 ?side4 A4.out).mono ?_); (case side1 => exact ck (Kd.R_reads' HO159.out).2.2); (case side2 => exact (Kd.R_reads' HO159.out).2.1); (case side3 => exact ck (Kd.R_reads' HO156.out).2.2); (case side4 => exact (Kd.R_reads' HO156.out).2.1); rintro e w' ⟨rfl, ⟨nd, rfl⟩⟩; refine ⟨_, rfl, ?_⟩) | ((with_reducible refine gate_callee (f := 23) rfl ?_); refine goesL_ (some 18) rfl rfl Try.func23 (by kernel_rfl) rfl #[.slice Ao11 t157.length co11, .int .i64 1] rfl ga ?_; (with_reducible refine (laws_markIntS.calls k (fun k_ => some k_ = (.slice Ao11 t157.length co11 : Value).ownBlock) (.slice Ao11 t157.length co11) t157 1 t161 t162 w _ ?side1 ?side2 A6.out).mono ?_); (case side1 => exact bel); (case side2 => exact Kd.R_tight rfl HO159.out); rintro e w13 ⟨rfl, hy0, hb, hkp⟩; refine ⟨_, rfl, ?_⟩; replace HO156 := Aside0.mk (Kd.R_mono (ok' := fun k_ => some k_ ≠ (.slice Ao11 t157.length co11 : Value).ownBlock) (Kd.R_keptB (HO156.out) hkp (fun k_ hk_ hs_ => (hk_.2) hs_)) (fun k_ hk_ => hk_.1.2)); replace HO159 := Aside0.mk (Kd.R_reok rfl hy0 (fun k_ e_ => HO159.out.1 k_ e_)); replace HB := Aside0.mk (hb); (try clear hb); (try clear hkp); (try clear hy0)) | ((with_reducible refine gate_callee (f := 24) rfl ?_); refine goesL_ (some 21) rfl rfl Try.func24 (by kernel_rfl) rfl #[.slice Ao11 t162.length co11, .int .i64 1] rfl (by (try simp only [List.map_toArray, List.map_cons, List.map_nil]); first | done | (rw [show t162.length = t157.length from (Kd.R_reads' HO159.out).1.symm] <;> rfl) | rfl | (simp only [List.length_drop, List.length_take]; rfl)) ?_; (with_reducible refine (laws_heldIntS.calls k _ _ t162 1 t163 _ ?side1 ?side2 A7.out).mono ?_); (case side1 => exact ck (Kd.R_reads' HO159.out).2.2); (case side2 => rw [show t162.length = t157.length from (Kd.R_reads' HO159.out).1.symm]; exact (Kd.R_reads' HO159.out).2.1); rintro e w' ⟨rfl, ⟨nd, rfl⟩⟩; refine ⟨_, rfl, ?_⟩))
      go_ret
      exact ⟨er, bel⟩
    · rw [if_neg c8] at H
      have c8b0 : decide (t163 < 0) = false := decide_eq_false c8
      clear c8
      by_cases c14 : t163 = t161
      · rw [if_pos c14] at H
        have c14b0 : (t163 == t161) = true := beq_iff_eq.mpr c14
        have c14b1 : (t163 != t161) = false := bne_eq_false_iff_eq.mpr c14
        clear c14
        replace H := Option.bind_eq_some_iff.mp H
        obtain ⟨t164, A150, H⟩ := H
        replace H : ((laws_eqIntS.f k t164 t154).bind fun t167 => (if t167 = true then ((laws_heldIntS.f k t162 1).bind fun t168 => (if t168 < 0 then (some false) else (if t168 = t161 then (some true) else (some false)))) else (some false))) = some r := H
        have A15 := Aside0.mk A150
        clear A150
        replace H := Option.bind_eq_some_iff.mp H
        obtain ⟨t167, A160, H⟩ := H
        replace H : (if t167 = true then ((laws_heldIntS.f k t162 1).bind fun t168 => (if t168 < 0 then (some false) else (if t168 = t161 then (some true) else (some false)))) else (some false)) = some r := H
        have A16 := Aside0.mk A160
        clear A160
        by_cases c17 : t167 = true
        · subst c17
          have H1 : ((laws_heldIntS.f k t162 1).bind fun t168 => (if t168 < 0 then (some false) else (if t168 = t161 then (some true) else (some false)))) = some r := by rw [if_pos rfl] at H; exact H
          clear H
          have H := H1
          clear H1
          replace H := Option.bind_eq_some_iff.mp H
          obtain ⟨t168, A180, H⟩ := H
          replace H : (if t168 < 0 then (some false) else (if t168 = t161 then (some true) else (some false))) = some r := H
          have A18 := Aside0.mk A180
          clear A180
          by_cases c19 : t168 < 0
          · rw [if_pos c19] at H
            have c19b0 : decide (t168 < 0) = true := decide_eq_true c19
            clear c19
            obtain rfl := Option.some.inj H
            go_enter Try.func6, Try.ntmps6
            go_wp2_with (first | ((with_reducible refine gate_callee (f := 20) rfl ?_); refine goesL_ (some 9) rfl rfl Try.func20 (by kernel_rfl) rfl #[.int .i64 a0] rfl ga ?_; (with_reducible refine (spec_BracketOf.calls k a0 t154 _ A2.out).mono ?_); rintro e w20 ⟨v155, rfl, ho0, hb⟩; refine ⟨_, rfl, ?_⟩; have HO156 := Aside0.mk (Kd.R_lower ho0 (below_size bel)); replace HB := Aside0.mk (below_step bel hb); (try clear hb); (try clear ho0)) | ((with_reducible refine gate_callee (f := 21) rfl ?_); refine goesL_ (some 11) rfl rfl Try.func21 (by kernel_rfl) rfl #[.int .i64 a0] rfl ga ?_; (with_reducible refine (impl_BracketOf.calls k a0 t157 _ A3.out).mono ?_); rintro e w21 ⟨v158, rfl, ho0, hb⟩; refine ⟨_, rfl, ?_⟩; have HO159 := Aside0.mk (Kd.R_lower (Kd.R_new' ho0 (Kd.R_lt (rk HO156.out))) (below_size bel)); replace HO156 := Aside0.mk (Kd.R_elder' (rk HO156.out) (Kd.R_base ho0) hb); replace HB := Aside0.mk (below_step bel hb); (try clear hb); (try clear ho0); obtain ⟨Ao22, co22, eo22⟩ := Kd.R_slice HO159.out; subst eo22; obtain ⟨Ao23, co23, eo23⟩ := Kd.R_slice HO156.out; subst eo23) | ((with_reducible refine gate_callee (f := 22) rfl ?_); refine goesL_ (some 14) rfl rfl Try.func22 (by kernel_rfl) rfl #[.slice Ao22 t157.length co22, .slice Ao23 t154.length co23] rfl ga ?_; (with_reducible refine (laws_eqIntS.calls k _ _ t157 _ _ t154 true _ ?side1 ?side2 ?side3 ?side4 A4.out).mono ?_); (case side1 => exact ck (Kd.R_reads' HO159.out).2.2); (case side2 => exact (Kd.R_reads' HO159.out).2.1); (case side3 => exact ck (Kd.R_reads' HO156.out).2.2); (case side4 => exact (Kd.R_reads' HO156.out).2.1); rintro e w' ⟨rfl, ⟨nd, rfl⟩⟩; refine ⟨_, rfl, ?_⟩) | ((with_reducible refine gate_callee (f := 23) rfl ?_); refine goesL_ (some 18) rfl rfl Try.func23 (by kernel_rfl) rfl #[.slice Ao22 t157.length co22, .int .i64 1] rfl ga ?_; (with_reducible refine (laws_markIntS.calls k (fun k_ => some k_ = (.slice Ao22 t157.length co22 : Value).ownBlock) (.slice Ao22 t157.length co22) t157 1 t161 t162 w _ ?side1 ?side2 A6.out).mono ?_); (case side1 => exact bel); (case side2 => exact Kd.R_tight rfl HO159.out); rintro e w24 ⟨rfl, hy0, hb, hkp⟩; refine ⟨_, rfl, ?_⟩; replace HO156 := Aside0.mk (Kd.R_mono (ok' := fun k_ => some k_ ≠ (.slice Ao22 t157.length co22 : Value).ownBlock) (Kd.R_keptB (HO156.out) hkp (fun k_ hk_ hs_ => (hk_.2) hs_)) (fun k_ hk_ => hk_.1.2)); replace HO159 := Aside0.mk (Kd.R_reok rfl hy0 (fun k_ e_ => HO159.out.1 k_ e_)); replace HB := Aside0.mk (hb); (try clear hb); (try clear hkp); (try clear hy0)) | ((with_reducible refine gate_callee (f := 24) rfl ?_); refine goesL_ (some 21) rfl rfl Try.func24 (by kernel_rfl) rfl #[.slice Ao22 t162.length co22, .int .i64 1] rfl (by (try simp only [List.map_toArray, List.map_cons, List.map_nil]); first | done | (rw [show t162.length = t157.length from (Kd.R_reads' HO159.out).1.symm] <;> rfl) | rfl | (simp only [List.length_drop, List.length_take]; rfl)) ?_; (with_reducible refine (laws_heldIntS.calls k _ _ t162 1 t163 _ ?side1 ?side2 A7.out).mono ?_); (case side1 => exact ck (Kd.R_reads' HO159.out).2.2); (case side2 => rw [show t162.length = t157.length from (Kd.R_reads' HO159.out).1.symm]; exact (Kd.R_reads' HO159.out).2.1); rintro e w' ⟨rfl, ⟨nd, rfl⟩⟩; refine ⟨_, rfl, ?_⟩) | ((with_reducible refine gate_callee (f := 21) rfl ?_); refine goesL_ (some 28) rfl rfl Try.func21 (by kernel_rfl) rfl #[.int .i64 a0] rfl ga ?_; (with_reducible refine (impl_BracketOf.calls k a0 t164 _ A15.out).mono ?_); rintro e w25 ⟨v165, rfl, ho0, hb⟩; refine ⟨_, rfl, ?_⟩; have HO166 := Aside0.mk (Kd.R_lower (Kd.R_new' (Kd.R_new' ho0 (Kd.R_lt (rk HO156.out))) (Kd.R_lt (rk HO159.out))) (below_size bel)); replace HO156 := Aside0.mk (Kd.R_elder' (rk HO156.out) (Kd.R_base ho0) hb); replace HO159 := Aside0.mk (Kd.R_elder' (rk HO159.out) (Kd.R_base ho0) hb); replace HB := Aside0.mk (below_step bel hb); (try clear hb); (try clear ho0); obtain ⟨Ao26, co26, eo26⟩ := Kd.R_slice HO166.out; subst eo26) | ((with_reducible refine gate_callee (f := 22) rfl ?_); refine goesL_ (some 31) rfl rfl Try.func22 (by kernel_rfl) rfl #[.slice Ao26 t164.length co26, .slice Ao23 t154.length co23] rfl ga ?_; (with_reducible refine (laws_eqIntS.calls k _ _ t164 _ _ t154 true _ ?side1 ?side2 ?side3 ?side4 A16.out).mono ?_); (case side1 => exact ck (Kd.R_reads' HO166.out).2.2); (case side2 => exact (Kd.R_reads' HO166.out).2.1); (case side3 => exact ck (Kd.R_reads' HO156.out).2.2); (case side4 => exact (Kd.R_reads' HO156.out).2.1); rintro e w' ⟨rfl, ⟨nd, rfl⟩⟩; refine ⟨_, rfl, ?_⟩) | ((with_reducible refine gate_callee (f := 24) rfl ?_); refine goesL_ (some 35) rfl rfl Try.func24 (by kernel_rfl) rfl #[.slice Ao22 t162.length co22, .int .i64 1] rfl (by (try simp only [List.map_toArray, List.map_cons, List.map_nil]); first | done | (rw [show t162.length = t157.length from (Kd.R_reads' HO159.out).1.symm] <;> rfl) | rfl | (simp only [List.length_drop, List.length_take]; rfl)) ?_; (with_reducible refine (laws_heldIntS.calls k _ _ t162 1 t168 _ ?side1 ?side2 A18.out).mono ?_); (case side1 => exact ck (Kd.R_reads' HO159.out).2.2); (case side2 => rw [show t162.length = t157.length from (Kd.R_reads' HO159.out).1.symm]; exact (Kd.R_reads' HO159.out).2.1); rintro e w' ⟨rfl, ⟨nd, rfl⟩⟩; refine ⟨_, rfl, ?_⟩))
            go_ret
            exact ⟨er, bel⟩
          · rw [if_neg c19] at H
            have c19b0 : decide (t168 < 0) = false := decide_eq_false c19
            clear c19
            by_cases c27 : t168 = t161
            · rw [if_pos c27] at H
              have c27b0 : (t168 == t161) = true := beq_iff_eq.mpr c27
              have c27b1 : (t168 != t161) = false := bne_eq_false_iff_eq.mpr c27
              clear c27
              obtain rfl := Option.some.inj H
              go_enter Try.func6, Try.ntmps6
              go_wp2_with (first | ((with_reducible refine gate_callee (f := 20) rfl ?_); refine goesL_ (some 9) rfl rfl Try.func20 (by kernel_rfl) rfl #[.int .i64 a0] rfl ga ?_; (with_reducible refine (spec_BracketOf.calls k a0 t154 _ A2.out).mono ?_); rintro e w28 ⟨v155, rfl, ho0, hb⟩; refine ⟨_, rfl, ?_⟩; have HO156 := Aside0.mk (Kd.R_lower ho0 (below_size bel)); replace HB := Aside0.mk (below_step bel hb); (try clear hb); (try clear ho0)) | ((with_reducible refine gate_callee (f := 21) rfl ?_); refine goesL_ (some 11) rfl rfl Try.func21 (by kernel_rfl) rfl #[.int .i64 a0] rfl ga ?_; (with_reducible refine (impl_BracketOf.calls k a0 t157 _ A3.out).mono ?_); rintro e w29 ⟨v158, rfl, ho0, hb⟩; refine ⟨_, rfl, ?_⟩; have HO159 := Aside0.mk (Kd.R_lower (Kd.R_new' ho0 (Kd.R_lt (rk HO156.out))) (below_size bel)); replace HO156 := Aside0.mk (Kd.R_elder' (rk HO156.out) (Kd.R_base ho0) hb); replace HB := Aside0.mk (below_step bel hb); (try clear hb); (try clear ho0); obtain ⟨Ao30, co30, eo30⟩ := Kd.R_slice HO159.out; subst eo30; obtain ⟨Ao31, co31, eo31⟩ := Kd.R_slice HO156.out; subst eo31) | ((with_reducible refine gate_callee (f := 22) rfl ?_); refine goesL_ (some 14) rfl rfl Try.func22 (by kernel_rfl) rfl #[.slice Ao30 t157.length co30, .slice Ao31 t154.length co31] rfl ga ?_; (with_reducible refine (laws_eqIntS.calls k _ _ t157 _ _ t154 true _ ?side1 ?side2 ?side3 ?side4 A4.out).mono ?_); (case side1 => exact ck (Kd.R_reads' HO159.out).2.2); (case side2 => exact (Kd.R_reads' HO159.out).2.1); (case side3 => exact ck (Kd.R_reads' HO156.out).2.2); (case side4 => exact (Kd.R_reads' HO156.out).2.1); rintro e w' ⟨rfl, ⟨nd, rfl⟩⟩; refine ⟨_, rfl, ?_⟩) | ((with_reducible refine gate_callee (f := 23) rfl ?_); refine goesL_ (some 18) rfl rfl Try.func23 (by kernel_rfl) rfl #[.slice Ao30 t157.length co30, .int .i64 1] rfl ga ?_; (with_reducible refine (laws_markIntS.calls k (fun k_ => some k_ = (.slice Ao30 t157.length co30 : Value).ownBlock) (.slice Ao30 t157.length co30) t157 1 t161 t162 w _ ?side1 ?side2 A6.out).mono ?_); (case side1 => exact bel); (case side2 => exact Kd.R_tight rfl HO159.out); rintro e w32 ⟨rfl, hy0, hb, hkp⟩; refine ⟨_, rfl, ?_⟩; replace HO156 := Aside0.mk (Kd.R_mono (ok' := fun k_ => some k_ ≠ (.slice Ao30 t157.length co30 : Value).ownBlock) (Kd.R_keptB (HO156.out) hkp (fun k_ hk_ hs_ => (hk_.2) hs_)) (fun k_ hk_ => hk_.1.2)); replace HO159 := Aside0.mk (Kd.R_reok rfl hy0 (fun k_ e_ => HO159.out.1 k_ e_)); replace HB := Aside0.mk (hb); (try clear hb); (try clear hkp); (try clear hy0)) | ((with_reducible refine gate_callee (f := 24) rfl ?_); refine goesL_ (some 21) rfl rfl Try.func24 (by kernel_rfl) rfl #[.slice Ao30 t162.length co30, .int .i64 1] rfl (by (try simp only [List.map_toArray, List.map_cons, List.map_nil]); first | done | (rw [show t162.length = t157.length from (Kd.R_reads' HO159.out).1.symm] <;> rfl) | rfl | (simp only [List.length_drop, List.length_take]; rfl)) ?_; (with_reducible refine (laws_heldIntS.calls k _ _ t162 1 t163 _ ?side1 ?side2 A7.out).mono ?_); (case side1 => exact ck (Kd.R_reads' HO159.out).2.2); (case side2 => rw [show t162.length = t157.length from (Kd.R_reads' HO159.out).1.symm]; exact (Kd.R_reads' HO159.out).2.1); rintro e w' ⟨rfl, ⟨nd, rfl⟩⟩; refine ⟨_, rfl, ?_⟩) | ((with_reducible refine gate_callee (f := 21) rfl ?_); refine goesL_ (some 28) rfl rfl Try.func21 (by kernel_rfl) rfl #[.int .i64 a0] rfl ga ?_; (with_reducible refine (impl_BracketOf.calls k a0 t164 _ A15.out).mono ?_); rintro e w33 ⟨v165, rfl, ho0, hb⟩; refine ⟨_, rfl, ?_⟩; have HO166 := Aside0.mk (Kd.R_lower (Kd.R_new' (Kd.R_new' ho0 (Kd.R_lt (rk HO156.out))) (Kd.R_lt (rk HO159.out))) (below_size bel)); replace HO156 := Aside0.mk (Kd.R_elder' (rk HO156.out) (Kd.R_base ho0) hb); replace HO159 := Aside0.mk (Kd.R_elder' (rk HO159.out) (Kd.R_base ho0) hb); replace HB := Aside0.mk (below_step bel hb); (try clear hb); (try clear ho0); obtain ⟨Ao34, co34, eo34⟩ := Kd.R_slice HO166.out; subst eo34) | ((with_reducible refine gate_callee (f := 22) rfl ?_); refine goesL_ (some 31) rfl rfl Try.func22 (by kernel_rfl) rfl #[.slice Ao34 t164.length co34, .slice Ao31 t154.length co31] rfl ga ?_; (with_reducible refine (laws_eqIntS.calls k _ _ t164 _ _ t154 true _ ?side1 ?side2 ?side3 ?side4 A16.out).mono ?_); (case side1 => exact ck (Kd.R_reads' HO166.out).2.2); (case side2 => exact (Kd.R_reads' HO166.out).2.1); (case side3 => exact ck (Kd.R_reads' HO156.out).2.2); (case side4 => exact (Kd.R_reads' HO156.out).2.1); rintro e w' ⟨rfl, ⟨nd, rfl⟩⟩; refine ⟨_, rfl, ?_⟩) | ((with_reducible refine gate_callee (f := 24) rfl ?_); refine goesL_ (some 35) rfl rfl Try.func24 (by kernel_rfl) rfl #[.slice Ao30 t162.length co30, .int .i64 1] rfl (by (try simp only [List.map_toArray, List.map_cons, List.map_nil]); first | done | (rw [show t162.length = t157.length from (Kd.R_reads' HO159.out).1.symm] <;> rfl) | rfl | (simp only [List.length_drop, List.length_take]; rfl)) ?_; (with_reducible refine (laws_heldIntS.calls k _ _ t162 1 t168 _ ?side1 ?side2 A18.out).mono ?_); (case side1 => exact ck (Kd.R_reads' HO159.out).2.2); (case side2 => rw [show t162.length = t157.length from (Kd.R_reads' HO159.out).1.symm]; exact (Kd.R_reads' HO159.out).2.1); rintro e w' ⟨rfl, ⟨nd, rfl⟩⟩; refine ⟨_, rfl, ?_⟩))
              go_ret
              exact ⟨er, bel⟩
            · rw [if_neg c27] at H
              have c27b0 : (t168 == t161) = false := beq_eq_false_iff_ne.mpr c27
              have c27b1 : (t168 != t161) = true := bne_iff_ne.mpr c27
              obtain rfl := Option.some.inj H
              go_enter Try.func6, Try.ntmps6
              go_wp2_with (first | ((with_reducible refine gate_callee (f := 20) rfl ?_); refine goesL_ (some 9) rfl rfl Try.func20 (by kernel_rfl) rfl #[.int .i64 a0] rfl ga ?_; (with_reducible refine (spec_BracketOf.calls k a0 t154 _ A2.out).mono ?_); rintro e w35 ⟨v155, rfl, ho0, hb⟩; refine ⟨_, rfl, ?_⟩; have HO156 := Aside0.mk (Kd.R_lower ho0 (below_size bel)); replace HB := Aside0.mk (below_step bel hb); (try clear hb); (try clear ho0)) | ((with_reducible refine gate_callee (f := 21) rfl ?_); refine goesL_ (some 11) rfl rfl Try.func21 (by kernel_rfl) rfl #[.int .i64 a0] rfl ga ?_; (with_reducible refine (impl_BracketOf.calls k a0 t157 _ A3.out).mono ?_); rintro e w36 ⟨v158, rfl, ho0, hb⟩; refine ⟨_, rfl, ?_⟩; have HO159 := Aside0.mk (Kd.R_lower (Kd.R_new' ho0 (Kd.R_lt (rk HO156.out))) (below_size bel)); replace HO156 := Aside0.mk (Kd.R_elder' (rk HO156.out) (Kd.R_base ho0) hb); replace HB := Aside0.mk (below_step bel hb); (try clear hb); (try clear ho0); obtain ⟨Ao37, co37, eo37⟩ := Kd.R_slice HO159.out; subst eo37; obtain ⟨Ao38, co38, eo38⟩ := Kd.R_slice HO156.out; subst eo38) | ((with_reducible refine gate_callee (f := 22) rfl ?_); refine goesL_ (some 14) rfl rfl Try.func22 (by kernel_rfl) rfl #[.slice Ao37 t157.length co37, .slice Ao38 t154.length co38] rfl ga ?_; (with_reducible refine (laws_eqIntS.calls k _ _ t157 _ _ t154 true _ ?side1 ?side2 ?side3 ?side4 A4.out).mono ?_); (case side1 => exact ck (Kd.R_reads' HO159.out).2.2); (case side2 => exact (Kd.R_reads' HO159.out).2.1); (case side3 => exact ck (Kd.R_reads' HO156.out).2.2); (case side4 => exact (Kd.R_reads' HO156.out).2.1); rintro e w' ⟨rfl, ⟨nd, rfl⟩⟩; refine ⟨_, rfl, ?_⟩) | ((with_reducible refine gate_callee (f := 23) rfl ?_); refine goesL_ (some 18) rfl rfl Try.func23 (by kernel_rfl) rfl #[.slice Ao37 t157.length co37, .int .i64 1] rfl ga ?_; (with_reducible refine (laws_markIntS.calls k (fun k_ => some k_ = (.slice Ao37 t157.length co37 : Value).ownBlock) (.slice Ao37 t157.length co37) t157 1 t161 t162 w _ ?side1 ?side2 A6.out).mono ?_); (case side1 => exact bel); (case side2 => exact Kd.R_tight rfl HO159.out); rintro e w39 ⟨rfl, hy0, hb, hkp⟩; refine ⟨_, rfl, ?_⟩; replace HO156 := Aside0.mk (Kd.R_mono (ok' := fun k_ => some k_ ≠ (.slice Ao37 t157.length co37 : Value).ownBlock) (Kd.R_keptB (HO156.out) hkp (fun k_ hk_ hs_ => (hk_.2) hs_)) (fun k_ hk_ => hk_.1.2)); replace HO159 := Aside0.mk (Kd.R_reok rfl hy0 (fun k_ e_ => HO159.out.1 k_ e_)); replace HB := Aside0.mk (hb); (try clear hb); (try clear hkp); (try clear hy0)) | ((with_reducible refine gate_callee (f := 24) rfl ?_); refine goesL_ (some 21) rfl rfl Try.func24 (by kernel_rfl) rfl #[.slice Ao37 t162.length co37, .int .i64 1] rfl (by (try simp only [List.map_toArray, List.map_cons, List.map_nil]); first | done | (rw [show t162.length = t157.length from (Kd.R_reads' HO159.out).1.symm] <;> rfl) | rfl | (simp only [List.length_drop, List.length_take]; rfl)) ?_; (with_reducible refine (laws_heldIntS.calls k _ _ t162 1 t163 _ ?side1 ?side2 A7.out).mono ?_); (case side1 => exact ck (Kd.R_reads' HO159.out).2.2); (case side2 => rw [show t162.length = t157.length from (Kd.R_reads' HO159.out).1.symm]; exact (Kd.R_reads' HO159.out).2.1); rintro e w' ⟨rfl, ⟨nd, rfl⟩⟩; refine ⟨_, rfl, ?_⟩) | ((with_reducible refine gate_callee (f := 21) rfl ?_); refine goesL_ (some 28) rfl rfl Try.func21 (by kernel_rfl) rfl #[.int .i64 a0] rfl ga ?_; (with_reducible refine (impl_BracketOf.calls k a0 t164 _ A15.out).mono ?_); rintro e w40 ⟨v165, rfl, ho0, hb⟩; refine ⟨_, rfl, ?_⟩; have HO166 := Aside0.mk (Kd.R_lower (Kd.R_new' (Kd.R_new' ho0 (Kd.R_lt (rk HO156.out))) (Kd.R_lt (rk HO159.out))) (below_size bel)); replace HO156 := Aside0.mk (Kd.R_elder' (rk HO156.out) (Kd.R_base ho0) hb); replace HO159 := Aside0.mk (Kd.R_elder' (rk HO159.out) (Kd.R_base ho0) hb); replace HB := Aside0.mk (below_step bel hb); (try clear hb); (try clear ho0); obtain ⟨Ao41, co41, eo41⟩ := Kd.R_slice HO166.out; subst eo41) | ((with_reducible refine gate_callee (f := 22) rfl ?_); refine goesL_ (some 31) rfl rfl Try.func22 (by kernel_rfl) rfl #[.slice Ao41 t164.length co41, .slice Ao38 t154.length co38] rfl ga ?_; (with_reducible refine (laws_eqIntS.calls k _ _ t164 _ _ t154 true _ ?side1 ?side2 ?side3 ?side4 A16.out).mono ?_); (case side1 => exact ck (Kd.R_reads' HO166.out).2.2); (case side2 => exact (Kd.R_reads' HO166.out).2.1); (case side3 => exact ck (Kd.R_reads' HO156.out).2.2); (case side4 => exact (Kd.R_reads' HO156.out).2.1); rintro e w' ⟨rfl, ⟨nd, rfl⟩⟩; refine ⟨_, rfl, ?_⟩) | ((with_reducible refine gate_callee (f := 24) rfl ?_); refine goesL_ (some 35) rfl rfl Try.func24 (by kernel_rfl) rfl #[.slice Ao37 t162.length co37, .int .i64 1] rfl (by (try simp only [List.map_toArray, List.map_cons, List.map_nil]); first | done | (rw [show t162.length = t157.length from (Kd.R_reads' HO159.out).1.symm] <;> rfl) | rfl | (simp only [List.length_drop, List.length_take]; rfl)) ?_; (with_reducible refine (laws_heldIntS.calls k _ _ t162 1 t168 _ ?side1 ?side2 A18.out).mono ?_); (case side1 => exact ck (Kd.R_reads' HO159.out).2.2); (case side2 => rw [show t162.length = t157.length from (Kd.R_reads' HO159.out).1.symm]; exact (Kd.R_reads' HO159.out).2.1); rintro e w' ⟨rfl, ⟨nd, rfl⟩⟩; refine ⟨_, rfl, ?_⟩))
              go_ret
              exact ⟨er, bel⟩
        · replace c17 := Bool.eq_false_iff.mpr c17
          subst c17
          have H1 : (some false) = some r := by rw [if_neg (show ¬ (false = true) by decide)] at H; exact H
          clear H
          have H := H1
          clear H1
          obtain rfl := Option.some.inj H
          go_enter Try.func6, Try.ntmps6
          go_wp2_with (first | ((with_reducible refine gate_callee (f := 20) rfl ?_); refine goesL_ (some 9) rfl rfl Try.func20 (by kernel_rfl) rfl #[.int .i64 a0] rfl ga ?_; (with_reducible refine (spec_BracketOf.calls k a0 t154 _ A2.out).mono ?_); rintro e w42 ⟨v155, rfl, ho0, hb⟩; refine ⟨_, rfl, ?_⟩; have HO156 := Aside0.mk (Kd.R_lower ho0 (below_size bel)); replace HB := Aside0.mk (below_step bel hb); (try clear hb); (try clear ho0)) | ((with_reducible refine gate_callee (f := 21) rfl ?_); refine goesL_ (some 11) rfl rfl Try.func21 (by kernel_rfl) rfl #[.int .i64 a0] rfl ga ?_; (with_reducible refine (impl_BracketOf.calls k a0 t157 _ A3.out).mono ?_); rintro e w43 ⟨v158, rfl, ho0, hb⟩; refine ⟨_, rfl, ?_⟩; have HO159 := Aside0.mk (Kd.R_lower (Kd.R_new' ho0 (Kd.R_lt (rk HO156.out))) (below_size bel)); replace HO156 := Aside0.mk (Kd.R_elder' (rk HO156.out) (Kd.R_base ho0) hb); replace HB := Aside0.mk (below_step bel hb); (try clear hb); (try clear ho0); obtain ⟨Ao44, co44, eo44⟩ := Kd.R_slice HO159.out; subst eo44; obtain ⟨Ao45, co45, eo45⟩ := Kd.R_slice HO156.out; subst eo45) | ((with_reducible refine gate_callee (f := 22) rfl ?_); refine goesL_ (some 14) rfl rfl Try.func22 (by kernel_rfl) rfl #[.slice Ao44 t157.length co44, .slice Ao45 t154.length co45] rfl ga ?_; (with_reducible refine (laws_eqIntS.calls k _ _ t157 _ _ t154 true _ ?side1 ?side2 ?side3 ?side4 A4.out).mono ?_); (case side1 => exact ck (Kd.R_reads' HO159.out).2.2); (case side2 => exact (Kd.R_reads' HO159.out).2.1); (case side3 => exact ck (Kd.R_reads' HO156.out).2.2); (case side4 => exact (Kd.R_reads' HO156.out).2.1); rintro e w' ⟨rfl, ⟨nd, rfl⟩⟩; refine ⟨_, rfl, ?_⟩) | ((with_reducible refine gate_callee (f := 23) rfl ?_); refine goesL_ (some 18) rfl rfl Try.func23 (by kernel_rfl) rfl #[.slice Ao44 t157.length co44, .int .i64 1] rfl ga ?_; (with_reducible refine (laws_markIntS.calls k (fun k_ => some k_ = (.slice Ao44 t157.length co44 : Value).ownBlock) (.slice Ao44 t157.length co44) t157 1 t161 t162 w _ ?side1 ?side2 A6.out).mono ?_); (case side1 => exact bel); (case side2 => exact Kd.R_tight rfl HO159.out); rintro e w46 ⟨rfl, hy0, hb, hkp⟩; refine ⟨_, rfl, ?_⟩; replace HO156 := Aside0.mk (Kd.R_mono (ok' := fun k_ => some k_ ≠ (.slice Ao44 t157.length co44 : Value).ownBlock) (Kd.R_keptB (HO156.out) hkp (fun k_ hk_ hs_ => (hk_.2) hs_)) (fun k_ hk_ => hk_.1.2)); replace HO159 := Aside0.mk (Kd.R_reok rfl hy0 (fun k_ e_ => HO159.out.1 k_ e_)); replace HB := Aside0.mk (hb); (try clear hb); (try clear hkp); (try clear hy0)) | ((with_reducible refine gate_callee (f := 24) rfl ?_); refine goesL_ (some 21) rfl rfl Try.func24 (by kernel_rfl) rfl #[.slice Ao44 t162.length co44, .int .i64 1] rfl (by (try simp only [List.map_toArray, List.map_cons, List.map_nil]); first | done | (rw [show t162.length = t157.length from (Kd.R_reads' HO159.out).1.symm] <;> rfl) | rfl | (simp only [List.length_drop, List.length_take]; rfl)) ?_; (with_reducible refine (laws_heldIntS.calls k _ _ t162 1 t163 _ ?side1 ?side2 A7.out).mono ?_); (case side1 => exact ck (Kd.R_reads' HO159.out).2.2); (case side2 => rw [show t162.length = t157.length from (Kd.R_reads' HO159.out).1.symm]; exact (Kd.R_reads' HO159.out).2.1); rintro e w' ⟨rfl, ⟨nd, rfl⟩⟩; refine ⟨_, rfl, ?_⟩) | ((with_reducible refine gate_callee (f := 21) rfl ?_); refine goesL_ (some 28) rfl rfl Try.func21 (by kernel_rfl) rfl #[.int .i64 a0] rfl ga ?_; (with_reducible refine (impl_BracketOf.calls k a0 t164 _ A15.out).mono ?_); rintro e w47 ⟨v165, rfl, ho0, hb⟩; refine ⟨_, rfl, ?_⟩; have HO166 := Aside0.mk (Kd.R_lower (Kd.R_new' (Kd.R_new' ho0 (Kd.R_lt (rk HO156.out))) (Kd.R_lt (rk HO159.out))) (below_size bel)); replace HO156 := Aside0.mk (Kd.R_elder' (rk HO156.out) (Kd.R_base ho0) hb); replace HO159 := Aside0.mk (Kd.R_elder' (rk HO159.out) (Kd.R_base ho0) hb); replace HB := Aside0.mk (below_step bel hb); (try clear hb); (try clear ho0); obtain ⟨Ao48, co48, eo48⟩ := Kd.R_slice HO166.out; subst eo48) | ((with_reducible refine gate_callee (f := 22) rfl ?_); refine goesL_ (some 31) rfl rfl Try.func22 (by kernel_rfl) rfl #[.slice Ao48 t164.length co48, .slice Ao45 t154.length co45] rfl ga ?_; (with_reducible refine (laws_eqIntS.calls k _ _ t164 _ _ t154 false _ ?side1 ?side2 ?side3 ?side4 A16.out).mono ?_); (case side1 => exact ck (Kd.R_reads' HO166.out).2.2); (case side2 => exact (Kd.R_reads' HO166.out).2.1); (case side3 => exact ck (Kd.R_reads' HO156.out).2.2); (case side4 => exact (Kd.R_reads' HO156.out).2.1); rintro e w' ⟨rfl, ⟨nd, rfl⟩⟩; refine ⟨_, rfl, ?_⟩))
          go_ret
          exact ⟨er, bel⟩
      · rw [if_neg c14] at H
        have c14b0 : (t163 == t161) = false := beq_eq_false_iff_ne.mpr c14
        have c14b1 : (t163 != t161) = true := bne_iff_ne.mpr c14
        obtain rfl := Option.some.inj H
        go_enter Try.func6, Try.ntmps6
        go_wp2_with (first | ((with_reducible refine gate_callee (f := 20) rfl ?_); refine goesL_ (some 9) rfl rfl Try.func20 (by kernel_rfl) rfl #[.int .i64 a0] rfl ga ?_; (with_reducible refine (spec_BracketOf.calls k a0 t154 _ A2.out).mono ?_); rintro e w49 ⟨v155, rfl, ho0, hb⟩; refine ⟨_, rfl, ?_⟩; have HO156 := Aside0.mk (Kd.R_lower ho0 (below_size bel)); replace HB := Aside0.mk (below_step bel hb); (try clear hb); (try clear ho0)) | ((with_reducible refine gate_callee (f := 21) rfl ?_); refine goesL_ (some 11) rfl rfl Try.func21 (by kernel_rfl) rfl #[.int .i64 a0] rfl ga ?_; (with_reducible refine (impl_BracketOf.calls k a0 t157 _ A3.out).mono ?_); rintro e w50 ⟨v158, rfl, ho0, hb⟩; refine ⟨_, rfl, ?_⟩; have HO159 := Aside0.mk (Kd.R_lower (Kd.R_new' ho0 (Kd.R_lt (rk HO156.out))) (below_size bel)); replace HO156 := Aside0.mk (Kd.R_elder' (rk HO156.out) (Kd.R_base ho0) hb); replace HB := Aside0.mk (below_step bel hb); (try clear hb); (try clear ho0); obtain ⟨Ao51, co51, eo51⟩ := Kd.R_slice HO159.out; subst eo51; obtain ⟨Ao52, co52, eo52⟩ := Kd.R_slice HO156.out; subst eo52) | ((with_reducible refine gate_callee (f := 22) rfl ?_); refine goesL_ (some 14) rfl rfl Try.func22 (by kernel_rfl) rfl #[.slice Ao51 t157.length co51, .slice Ao52 t154.length co52] rfl ga ?_; (with_reducible refine (laws_eqIntS.calls k _ _ t157 _ _ t154 true _ ?side1 ?side2 ?side3 ?side4 A4.out).mono ?_); (case side1 => exact ck (Kd.R_reads' HO159.out).2.2); (case side2 => exact (Kd.R_reads' HO159.out).2.1); (case side3 => exact ck (Kd.R_reads' HO156.out).2.2); (case side4 => exact (Kd.R_reads' HO156.out).2.1); rintro e w' ⟨rfl, ⟨nd, rfl⟩⟩; refine ⟨_, rfl, ?_⟩) | ((with_reducible refine gate_callee (f := 23) rfl ?_); refine goesL_ (some 18) rfl rfl Try.func23 (by kernel_rfl) rfl #[.slice Ao51 t157.length co51, .int .i64 1] rfl ga ?_; (with_reducible refine (laws_markIntS.calls k (fun k_ => some k_ = (.slice Ao51 t157.length co51 : Value).ownBlock) (.slice Ao51 t157.length co51) t157 1 t161 t162 w _ ?side1 ?side2 A6.out).mono ?_); (case side1 => exact bel); (case side2 => exact Kd.R_tight rfl HO159.out); rintro e w53 ⟨rfl, hy0, hb, hkp⟩; refine ⟨_, rfl, ?_⟩; replace HO156 := Aside0.mk (Kd.R_mono (ok' := fun k_ => some k_ ≠ (.slice Ao51 t157.length co51 : Value).ownBlock) (Kd.R_keptB (HO156.out) hkp (fun k_ hk_ hs_ => (hk_.2) hs_)) (fun k_ hk_ => hk_.1.2)); replace HO159 := Aside0.mk (Kd.R_reok rfl hy0 (fun k_ e_ => HO159.out.1 k_ e_)); replace HB := Aside0.mk (hb); (try clear hb); (try clear hkp); (try clear hy0)) | ((with_reducible refine gate_callee (f := 24) rfl ?_); refine goesL_ (some 21) rfl rfl Try.func24 (by kernel_rfl) rfl #[.slice Ao51 t162.length co51, .int .i64 1] rfl (by (try simp only [List.map_toArray, List.map_cons, List.map_nil]); first | done | (rw [show t162.length = t157.length from (Kd.R_reads' HO159.out).1.symm] <;> rfl) | rfl | (simp only [List.length_drop, List.length_take]; rfl)) ?_; (with_reducible refine (laws_heldIntS.calls k _ _ t162 1 t163 _ ?side1 ?side2 A7.out).mono ?_); (case side1 => exact ck (Kd.R_reads' HO159.out).2.2); (case side2 => rw [show t162.length = t157.length from (Kd.R_reads' HO159.out).1.symm]; exact (Kd.R_reads' HO159.out).2.1); rintro e w' ⟨rfl, ⟨nd, rfl⟩⟩; refine ⟨_, rfl, ?_⟩))
        go_ret
        exact ⟨er, bel⟩
  · replace c5 := Bool.eq_false_iff.mpr c5
    subst c5
    have H1 : (some false) = some r := by rw [if_neg (show ¬ (false = true) by decide)] at H; exact H
    clear H
    have H := H1
    clear H1
    obtain rfl := Option.some.inj H
    go_enter Try.func6, Try.ntmps6
    go_wp2_with (first | ((with_reducible refine gate_callee (f := 20) rfl ?_); refine goesL_ (some 9) rfl rfl Try.func20 (by kernel_rfl) rfl #[.int .i64 a0] rfl ga ?_; (with_reducible refine (spec_BracketOf.calls k a0 t154 _ A2.out).mono ?_); rintro e w54 ⟨v155, rfl, ho0, hb⟩; refine ⟨_, rfl, ?_⟩; have HO156 := Aside0.mk (Kd.R_lower ho0 (below_size bel)); replace HB := Aside0.mk (below_step bel hb); (try clear hb); (try clear ho0)) | ((with_reducible refine gate_callee (f := 21) rfl ?_); refine goesL_ (some 11) rfl rfl Try.func21 (by kernel_rfl) rfl #[.int .i64 a0] rfl ga ?_; (with_reducible refine (impl_BracketOf.calls k a0 t157 _ A3.out).mono ?_); rintro e w55 ⟨v158, rfl, ho0, hb⟩; refine ⟨_, rfl, ?_⟩; have HO159 := Aside0.mk (Kd.R_lower (Kd.R_new' ho0 (Kd.R_lt (rk HO156.out))) (below_size bel)); replace HO156 := Aside0.mk (Kd.R_elder' (rk HO156.out) (Kd.R_base ho0) hb); replace HB := Aside0.mk (below_step bel hb); (try clear hb); (try clear ho0); obtain ⟨Ao56, co56, eo56⟩ := Kd.R_slice HO159.out; subst eo56; obtain ⟨Ao57, co57, eo57⟩ := Kd.R_slice HO156.out; subst eo57) | ((with_reducible refine gate_callee (f := 22) rfl ?_); refine goesL_ (some 14) rfl rfl Try.func22 (by kernel_rfl) rfl #[.slice Ao56 t157.length co56, .slice Ao57 t154.length co57] rfl ga ?_; (with_reducible refine (laws_eqIntS.calls k _ _ t157 _ _ t154 false _ ?side1 ?side2 ?side3 ?side4 A4.out).mono ?_); (case side1 => exact ck (Kd.R_reads' HO159.out).2.2); (case side2 => exact (Kd.R_reads' HO159.out).2.1); (case side3 => exact ck (Kd.R_reads' HO156.out).2.2); (case side4 => exact (Kd.R_reads' HO156.out).2.1); rintro e w' ⟨rfl, ⟨nd, rfl⟩⟩; refine ⟨_, rfl, ?_⟩))
    go_ret
    exact ⟨er, bel⟩

/-! ### spec_l01In: function 44 -/
def spec_l01In.f (a0 : Int) (a1 : Int) (a2 : Int) : Option (Bool) := if a0 ≥ a1 then (some (decide (a0 ≤ a2))) else (some false)
set_option maxHeartbeats 8000000 in
set_option maxRecDepth 100000 in
theorem spec_l01In.calls (a0 : Int) (a1 : Int) (a2 : Int) (r : Bool) (w : World) (h : spec_l01In.f a0 a1 a2 = some r) :
    Calls Try.prog 44 #[.int .i64 a0, .int .i64 a1, .int .i64 a2] w fun e w' => e = .returned (.bool r) ∧ Drawn0 w w' := by
  have H : (if a0 ≥ a1 then (some (decide (a0 ≤ a2))) else (some false)) = some r := h
  clear h
  by_cases c4 : a0 ≥ a1
  · rw [if_pos c4] at H
    have c4b0 : decide (a1 ≤ a0) = true := decide_eq_true c4
    clear c4
    obtain rfl := Option.some.inj H
    go_enter Try.func44, Try.ntmps44
    go_wp2
    go_ret
    exact ⟨es, by repeat (first | exact Drawn0.refl _ | apply Drawn0.step)⟩
  · rw [if_neg c4] at H
    have c4b0 : decide (a1 ≤ a0) = false := decide_eq_false c4
    clear c4
    obtain rfl := Option.some.inj H
    go_enter Try.func44, Try.ntmps44
    go_wp2
    go_ret
    exact ⟨es, by repeat (first | exact Drawn0.refl _ | apply Drawn0.step)⟩

end Go.Proofs.Ytpacmpppiphfjaa.X
