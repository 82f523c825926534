-- Written by a program of this session (wip/xp.py, over the kit's print) out of the translation: functions, and the walks that show them.
import Derived.Test.YteaemblallbgpaaX0
import Derived.Test.YteaemblallbgpaaX10
import Derived.Test.YteaemblallbgpaaX15
import Derived.Test.YteaemblallbgpaaX19
import Derived.Test.YteaemblallbgpaaX24
import Derived.Test.YteaemblallbgpaaX29
import Derived.Test.YteaemblallbgpaaX35
import Derived.Test.YteaemblallbgpaaX40
namespace Go.Proofs.Yteaemblallbgpaa.X
open Go.RowKit Go.Proofs.YteaemblallbgpaaW.PrintWords Go.Proofs.YteaemblallbgpaaW.PrintLast Go.Proofs.YteaemblallbgpaaW.PrintMore
attribute [local go_sem] max2_int min2_int max_two min_two max_three min_three max_four min_four   -- for this text's walks alone
set_option linter.unusedVariables false
set_option linter.unusedSimpArgs false

/-! ### laws_FnFlows: function 10 -/
def laws_FnFlows.j0 : Nat → List Int → Bool → Int → List (S60) → Option (Bool)
  | 0, _, _, _, _ => none
  | k + 1, x4, x26, x535000, x535001 => if x26 = true then (some false) else ((impl_FlowValue.f k x535000 x535001 0 x4).bind fun t540 => ((impl_SourceSide.f k x535000 x535001 0 x4).bind fun t541 => (if 0 ≤ (x535001.length : Int) then (if ((x535001.length : Int) : Int).toNat ≤ 35184372088832 then (if t540 ≥ 0 then (if (t541.length : Int) = x535000 then ((impl_CutLimit.f k x535000 x535001 t541).bind fun t547 => (if t547 = t540 then ((impl_IsCut.f k x535000 x535001 0 1 t541 t540).bind fun t548 => (if t548 = true then ((impl_IsCut.f k x535000 x535001 0 1 t541 (wrap64 (t540 + 1))).bind fun t549 => (if t549 = true then (some false) else ((impl_IsFlow.f k x535000 x535001 0 1 (List.replicate ((x535001.length : Int) : Int).toNat 0)).bind fun t550 => (if t550 = true then ((impl_FlowValue.f k x535000 x535001 1 x4).bind fun t551 => (some (t551 == (wrap64 (-t540))))) else (some false))))) else (some false))) else (some false))) else (some false)) else (some false)) else (none)) else (none))))
def laws_FnFlows.f (k : Nat) (l0 : List Int) : Option (Bool) := if (l0.length : Int) > 1048576 then (some true) else ((spec_MakeNet.f k l0).bind fun bt530 => ((impl_GreatestFlow.f k bt530.1 bt530.2 0 1).bind fun bt535 => (if bt535.2 = true then ((impl_IsFlow.f k bt530.1 bt530.2 0 1 bt535.1).bind fun t539 => (laws_FnFlows.j0 k bt535.1 (!t539) bt530.1 bt530.2)) else (laws_FnFlows.j0 k bt535.1 true bt530.1 bt530.2))))
theorem laws_FnFlows.mono_l : ∀ k, (∀ y0 y1 y2 y3, LeO (laws_FnFlows.j0 k y0 y1 y2 y3) (laws_FnFlows.j0 (k + 1) y0 y1 y2 y3))
  | 0 => fun _ _ _ _ r h => by simp [laws_FnFlows.j0] at h
  | k + 1 => by
    have ih0 := laws_FnFlows.mono_l k
    · intro y0 y1 y2 y3
      unfold laws_FnFlows.j0
      repeat' first
      | (with_reducible exact ih0 _ _ _ _)
      | (with_reducible exact impl_CutLimit.mono _ _ _ _)
      | (with_reducible exact impl_FlowValue.mono _ _ _ _ _)
      | (with_reducible exact impl_GreatestFlow.mono _ _ _ _ _)
      | (with_reducible exact impl_IsCut.mono _ _ _ _ _ _ _)
      | (with_reducible exact impl_IsFlow.mono _ _ _ _ _ _)
      | (with_reducible exact impl_SourceSide.mono _ _ _ _ _)
      | (with_reducible exact spec_MakeNet.mono _ _)
      | (with_reducible exact LeO.refl _)
      | (with_reducible exact LeO.none _)
      | (with_reducible refine LeO.ite ?_ ?_)
      | (with_reducible refine LeO.bind ?_ (fun _ => ?_))
      | exact ih0 _ _ _ _
      | exact impl_CutLimit.mono _ _ _ _
      | exact impl_FlowValue.mono _ _ _ _ _
      | exact impl_GreatestFlow.mono _ _ _ _ _
      | exact impl_IsCut.mono _ _ _ _ _ _ _
      | exact impl_IsFlow.mono _ _ _ _ _ _
      | exact impl_SourceSide.mono _ _ _ _ _
      | exact spec_MakeNet.mono _ _
      | exact LeO.none _
      | refine LeO.ite ?_ ?_
      | refine LeO.bind ?_ (fun _ => ?_)
theorem laws_FnFlows.mono : ∀ a0 k, LeO (laws_FnFlows.f k a0) (laws_FnFlows.f (k + 1) a0) := by
  intro a0 k
  have ih0 := laws_FnFlows.mono_l k
  unfold laws_FnFlows.f
  repeat' first
      | (with_reducible exact ih0 _ _ _ _)
      | (with_reducible exact impl_CutLimit.mono _ _ _ _)
      | (with_reducible exact impl_FlowValue.mono _ _ _ _ _)
      | (with_reducible exact impl_GreatestFlow.mono _ _ _ _ _)
      | (with_reducible exact impl_IsCut.mono _ _ _ _ _ _ _)
      | (with_reducible exact impl_IsFlow.mono _ _ _ _ _ _)
      | (with_reducible exact impl_SourceSide.mono _ _ _ _ _)
      | (with_reducible exact spec_MakeNet.mono _ _)
      | (with_reducible exact LeO.refl _)
      | (with_reducible exact LeO.none _)
      | (with_reducible refine LeO.ite ?_ ?_)
      | (with_reducible refine LeO.bind ?_ (fun _ => ?_))
      | exact ih0 _ _ _ _
      | exact impl_CutLimit.mono _ _ _ _
      | exact impl_FlowValue.mono _ _ _ _ _
      | exact impl_GreatestFlow.mono _ _ _ _ _
      | exact impl_IsCut.mono _ _ _ _ _ _ _
      | exact impl_IsFlow.mono _ _ _ _ _ _
      | exact impl_SourceSide.mono _ _ _ _ _
      | exact spec_MakeNet.mono _ _
      | exact LeO.none _
      | refine LeO.ite ?_ ?_
      | refine LeO.bind ?_ (fun _ => ?_)
set_option maxHeartbeats 8000000 in
set_option maxRecDepth 100000 in
theorem laws_FnFlows.calls (k : Nat) (A0 : Option Addr) (c0 : Nat) (l0 : List Int) (r : Bool) (w : World) (hr0 : Kd.C (Kd.int .u8) w A0 l0.length l0) (hc0 : l0.length ≤ c0) (h : laws_FnFlows.f k l0 = some r) :
    Calls Try.prog 10 #[.slice A0 l0.length c0] w fun e w' => e = .returned (.bool r) ∧ Below w.heap.size w w' := by
  have hu29 := Try.underlying29
  have HR0 := Aside0.mk hr0
  have HC0 := Aside0.mk hc0
  clear hr0 hc0
  have HB := Aside0.mk (Below.refl w.heap.size w)
  have H : (if (l0.length : Int) > 1048576 then (some true) else ((spec_MakeNet.f k l0).bind fun bt530 => ((impl_GreatestFlow.f k bt530.1 bt530.2 0 1).bind fun bt535 => (if bt535.2 = true then ((impl_IsFlow.f k bt530.1 bt530.2 0 1 bt535.1).bind fun t539 => (laws_FnFlows.j0 k bt535.1 (!t539) bt530.1 bt530.2)) else (laws_FnFlows.j0 k bt535.1 true bt530.1 bt530.2))))) = some r := h
  clear h
  by_cases c2 : (l0.length : Int) > 1048576
  · rw [if_pos c2] at H
    have c2b0 : decide (1048576 < (l0.length : Int)) = true := decide_eq_true c2
    have c2b1 : decide (1048576 < l0.length) = true := decide_eq_true (by omega)
    clear c2
    obtain rfl := Option.some.inj H
    go_enter Try.func10, Try.ntmps10
    go_wp2
    go_ret
    exact ⟨er, bel⟩
  · rw [if_neg c2] at H
    have c2b0 : decide (1048576 < (l0.length : Int)) = false := decide_eq_false c2
    have c2b1 : decide (1048576 < l0.length) = false := decide_eq_false (by omega)
    clear c2
    replace H := Option.bind_eq_some_iff.mp H
    obtain ⟨⟨t530, t531⟩, A30, H⟩ := H
    replace H : ((impl_GreatestFlow.f k t530 t531 0 1).bind fun bt535 => (if bt535.2 = true then ((impl_IsFlow.f k t530 t531 0 1 bt535.1).bind fun t539 => (laws_FnFlows.j0 k bt535.1 (!t539) t530 t531)) else (laws_FnFlows.j0 k bt535.1 true t530 t531))) = some r := H
    have A3 := Aside0.mk A30
    clear A30
    replace H := Option.bind_eq_some_iff.mp H
    obtain ⟨⟨t535, t538⟩, A40, H⟩ := H
    replace H : (if t538 = true then ((impl_IsFlow.f k t530 t531 0 1 t535).bind fun t539 => (laws_FnFlows.j0 k t535 (!t539) t530 t531)) else (laws_FnFlows.j0 k t535 true t530 t531)) = some r := H
    have A4 := Aside0.mk A40
    clear A40
    have HC5 := Aside0.mk H
    clear H
    go_enter Try.func10, Try.ntmps10
    go_upto_region 5 with (first | ((with_reducible refine gate_callee (f := 37) rfl ?_); refine goesL_ (some 13) rfl rfl Try.func37 (by kernel_rfl) rfl #[.slice A0 l0.length c0] rfl ga ?_; (with_reducible refine (spec_MakeNet.calls k _ _ l0 t530 t531 _ ?side1 ?side2 A3.out).mono ?_); (case side1 => exact ck HR0.out); (case side2 => exact HC0.out); rintro e w6 ⟨v532, rfl, ho0, hb⟩; refine ⟨_, rfl, ?_⟩; have HO533 := Aside0.mk (Kd.R_lower ho0 (below_size bel)); replace HB := Aside0.mk (below_step bel hb); (try clear hb); (try clear ho0)) | ((with_reducible refine gate_dst (N := 3) rfl ?_); refine box_event ?hg (N := 3) ?hd (cs := #[.int .i64 0, .slice none 0 0]) (t := 29) ?hr ?_; (case hd => rfl); (case hg => rfl); (case hr => first | (go_simp; done) | (go_simp; rfl)); intro gb534 hg w7 hbox hb; have BK534 := Aside0.mk (hbox); have GW534 := Aside0.mk ((bsz hg : w.heap.size ≤ gb534)); have GE534 := Aside0.mk ((bsz hg : w.heap.size ≤ gb534)); replace HO533 := Aside0.mk (Kd.R_below (rk HO533.out) hb); replace HB := Aside0.mk (below_step bel hb); clear hb hbox hg; obtain ⟨hcz8_0, hcz8_1, hfz8_0, hfz8_1⟩ := cf2 BK534.out; obtain ⟨Ao9, co9, eo9⟩ := Kd.R_slice HO533.out; subst eo9) | ((with_reducible refine gate_callee (f := 35) rfl ?_); refine goesL_ (some 16) rfl rfl Try.func35 (by kernel_rfl) rfl #[.agg #[.int .i64 t530, .slice Ao9 t531.length co9], .int .i64 0, .int .i64 1] rfl ga ?_; (with_reducible refine (impl_GreatestFlow.calls k t530 _ _ t531 0 1 t535 t538 _ ?side1 ?side2 A4.out).mono ?_); (case side1 => refine (Kd.R_reads' (e := 60) (base := w.heap.size) (ok := fun k_ => True) (n := t531.length) (c := co9) ?_).2.2; exact (by exact rk (Kd.R_mono (Kd.R_far (p := ⟨gb534, 1, none⟩) (Kd.R_far (p := ⟨gb534, 0, none⟩) (Kd.R_types HO533.out BK534.out (by decide)) (fun _ hk => hk.2) (.int .i64 t530)) (fun _ hk => hk.2) (.slice Ao9 t531.length co9)) (fun _ h_ => h_.1)))); (case side2 => exact (Kd.R_reads' HO533.out).2.1); rintro e w10 ⟨v536, rfl, ho0, hb⟩; refine ⟨_, rfl, ?_⟩; have HO537 := Aside0.mk (Kd.R_lower ho0 (below_size bel)); replace HO533 := Aside0.mk (Kd.R_below (by exact rk (Kd.R_mono (Kd.R_far (p := ⟨gb534, 1, none⟩) (Kd.R_far (p := ⟨gb534, 0, none⟩) (Kd.R_types HO533.out BK534.out (by decide)) (fun _ hk => hk.2) (.int .i64 t530)) (fun _ hk => hk.2) (.slice Ao9 t531.length co9)) (fun _ h_ => h_.1))) hb); replace BK534 := Aside0.mk (blk_below (g := gb534) (o := .cells #[.int .i64 t530, .slice Ao9 t531.length co9] 29 (0, 0)) (by (with_reducible repeat (first | refine blk_drewN ?_ _ | refine blk_drew ?_ | refine blk_alloc ?_ _)); refine blk_put (cs := #[.int .i64 t530, .slice none 0 0]) ?_ 1 _ rfl; (with_reducible repeat (first | refine blk_drewN ?_ _ | refine blk_drew ?_ | refine blk_alloc ?_ _)); refine blk_put (cs := #[.int .i64 0, .slice none 0 0]) ?_ 0 _ rfl; (with_reducible repeat (first | refine blk_drewN ?_ _ | refine blk_drew ?_ | refine blk_alloc ?_ _)); exact BK534.out) hb); replace HB := Aside0.mk (below_step bel hb); (try clear hb); (try clear ho0)))
    (try simp only [Act.put, List.setIfInBounds_toArray, List.set_cons_zero, List.set_cons_succ])
    go_cut [26] (fun v26 wc => ∃ (kq : Nat) (x26_4 : Bool), v26 = .bool x26_4 ∧ Aside0 (laws_FnFlows.j0 kq t535 x26_4 t530 t531 = some r) ∧ Aside0 (kq ≤ k) ∧ Aside0 (Kd.R (Kd.int .i64) 3 wc w.heap.size (fun _ => True) v536 t535) ∧ Aside0 (Kd.R k60 60 wc w.heap.size (fun _ => True) (.slice Ao9 t531.length co9) t531) ∧ Aside0 (wc.heap[gb534]? = some (.cells #[.int .i64 t530, (.slice Ao9 t531.length co9)] 29 (0, 0))) ∧ Aside0 (Below w.heap.size w wc))
    case first =>
      have H := HC5.out
      clear HC5
      by_cases c11 : t538 = true
      · subst c11
        have H1 : ((impl_IsFlow.f k t530 t531 0 1 t535).bind fun t539 => (laws_FnFlows.j0 k t535 (!t539) t530 t531)) = some r := by rw [if_pos rfl] at H; exact H
        clear H
        have H := H1
        clear H1
        replace H := Option.bind_eq_some_iff.mp H
        obtain ⟨t539, A120, H⟩ := H
        replace H : (laws_FnFlows.j0 k t535 (!t539) t530 t531) = some r := H
        have A12 := Aside0.mk A120
        clear A120
        have H' := Aside0.mk H
        clear H
        obtain ⟨hcz13_0, hcz13_1, hfz13_0, hfz13_1⟩ := cf2 BK534.out
        obtain ⟨Ao14, co14, eo14⟩ := Kd.R_slice HO537.out
        subst eo14
        go_wp2_with (first | (go_at_call 27; (with_reducible refine (impl_IsFlow.calls k t530 _ _ t531 0 1 _ _ t535 t539 _ ?side1 ?side2 ?side3 ?side4 A12.out).mono ?_); (case side1 => exact ck (Kd.R_reads' HO533.out).2.2); (case side2 => exact (Kd.R_reads' HO533.out).2.1); (case side3 => exact ck (Kd.R_reads' HO537.out).2.2); (case side4 => exact (Kd.R_reads' HO537.out).2.1); rintro e w15 ⟨rfl, hb⟩; replace HO533 := Aside0.mk (Kd.R_below (rk HO533.out) hb); replace HO537 := Aside0.mk (Kd.R_below (rk HO537.out) hb); replace BK534 := Aside0.mk (bb BK534.out hb); replace HB := Aside0.mk (below_step bel hb); (try clear hb); (try clear hb2); (try clear hk); (try clear hi)))
        go_meet
        case rel => exact ⟨_, (!t539), (es), H', ⟨by first | omega | exact Nat.le_refl _⟩, ⟨rk HO537.out⟩, ⟨rk HO533.out⟩, ⟨bk BK534.out⟩, ⟨bel⟩⟩
      · replace c11 := Bool.eq_false_iff.mpr c11
        subst c11
        have H1 : (laws_FnFlows.j0 k t535 true t530 t531) = some r := by rw [if_neg (show ¬ (false = true) by decide)] at H; exact H
        clear H
        have H := H1
        clear H1
        have H' := Aside0.mk H
        clear H
        go_wp2
        go_meet
        case rel => exact ⟨_, (true), (es), H', ⟨by first | omega | exact Nat.le_refl _⟩, ⟨rk HO537.out⟩, ⟨rk HO533.out⟩, ⟨bk BK534.out⟩, ⟨bel⟩⟩
    case rest =>
      clear HC5
      try clear c1; try clear c2; try clear c2b0; try clear c2b1; try clear p2; try clear c3; try clear c10; try clear c11; try clear hcz13_0; try clear hcz13_1; try clear hcz8_0; try clear hcz8_1; try clear hfz13_0; try clear hfz13_1; try clear hfz8_0; try clear hfz8_1
      obtain ⟨kq, x26_4, rfl, HA, HJ4, HO_4, HO_535001, BK534, HB⟩ := hcut
      cases kq with
      | zero => exact absurd HA.out (by simp [laws_FnFlows.j0])
      | succ kj4 =>
        have H := HA.out
        clear HA
        simp only [laws_FnFlows.j0] at H
        by_cases c16 : x26_4 = true
        · subst c16
          have H1 : (some false) = some r := by rw [if_pos rfl] at H; exact H
          clear H
          have H := H1
          clear H1
          obtain rfl := Option.some.inj H
          go_wp2
          go_ret
          exact ⟨er, bel⟩
        · replace c16 := Bool.eq_false_iff.mpr c16
          subst c16
          have H1 : ((impl_FlowValue.f kj4 t530 t531 0 t535).bind fun t540 => ((impl_SourceSide.f kj4 t530 t531 0 t535).bind fun t541 => (if 0 ≤ (t531.length : Int) then (if ((t531.length : Int) : Int).toNat ≤ 35184372088832 then (if t540 ≥ 0 then (if (t541.length : Int) = t530 then ((impl_CutLimit.f kj4 t530 t531 t541).bind fun t547 => (if t547 = t540 then ((impl_IsCut.f kj4 t530 t531 0 1 t541 t540).bind fun t548 => (if t548 = true then ((impl_IsCut.f kj4 t530 t531 0 1 t541 (wrap64 (t540 + 1))).bind fun t549 => (if t549 = true then (some false) else ((impl_IsFlow.f kj4 t530 t531 0 1 (List.replicate ((t531.length : Int) : Int).toNat 0)).bind fun t550 => (if t550 = true then ((impl_FlowValue.f kj4 t530 t531 1 t535).bind fun t551 => (some (t551 == (wrap64 (-t540))))) else (some false))))) else (some false))) else (some false))) else (some false)) else (some false)) else (none)) else (none)))) = some r := by rw [if_neg (show ¬ (false = true) by decide)] at H; exact H
          clear H
          have H := H1
          clear H1
          replace H := Option.bind_eq_some_iff.mp H
          obtain ⟨t540, A170, H⟩ := H
          replace H : ((impl_SourceSide.f kj4 t530 t531 0 t535).bind fun t541 => (if 0 ≤ (t531.length : Int) then (if ((t531.length : Int) : Int).toNat ≤ 35184372088832 then (if t540 ≥ 0 then (if (t541.length : Int) = t530 then ((impl_CutLimit.f kj4 t530 t531 t541).bind fun t547 => (if t547 = t540 then ((impl_IsCut.f kj4 t530 t531 0 1 t541 t540).bind fun t548 => (if t548 = true then ((impl_IsCut.f kj4 t530 t531 0 1 t541 (wrap64 (t540 + 1))).bind fun t549 => (if t549 = true then (some false) else ((impl_IsFlow.f kj4 t530 t531 0 1 (List.replicate ((t531.length : Int) : Int).toNat 0)).bind fun t550 => (if t550 = true then ((impl_FlowValue.f kj4 t530 t531 1 t535).bind fun t551 => (some (t551 == (wrap64 (-t540))))) else (some false))))) else (some false))) else (some false))) else (some false)) else (some false)) else (none)) else (none))) = some r := H
          have A17 := Aside0.mk A170
          clear A170
          replace H := Option.bind_eq_some_iff.mp H
          obtain ⟨t541, A180, H⟩ := H
          replace H : (if 0 ≤ (t531.length : Int) then (if ((t531.length : Int) : Int).toNat ≤ 35184372088832 then (if t540 ≥ 0 then (if (t541.length : Int) = t530 then ((impl_CutLimit.f kj4 t530 t531 t541).bind fun t547 => (if t547 = t540 then ((impl_IsCut.f kj4 t530 t531 0 1 t541 t540).bind fun t548 => (if t548 = true then ((impl_IsCut.f kj4 t530 t531 0 1 t541 (wrap64 (t540 + 1))).bind fun t549 => (if t549 = true then (some false) else ((impl_IsFlow.f kj4 t530 t531 0 1 (List.replicate ((t531.length : Int) : Int).toNat 0)).bind fun t550 => (if t550 = true then ((impl_FlowValue.f kj4 t530 t531 1 t535).bind fun t551 => (some (t551 == (wrap64 (-t540))))) else (some false))))) else (some false))) else (some false))) else (some false)) else (some false)) else (none)) else (none)) = some r := H
          have A18 := Aside0.mk A180
          clear A180
          by_cases c19 : 0 ≤ (t531.length : Int)
          · rw [if_pos c19] at H
            have c19b0 := eq_true c19
            have c19b1 : decide (0 ≤ (t531.length : Int)) = true := decide_eq_true c19
            clear c19
            by_cases c20 : ((t531.length : Int) : Int).toNat ≤ 35184372088832
            · rw [if_pos c20] at H
              have c20b0 := eq_true c20
              have c20b1 : decide (((t531.length : Int) : Int).toNat ≤ 35184372088832) = true := decide_eq_true c20
              clear c20
              obtain ⟨y544, hy544⟩ : ∃ y_ : List Int, y_ = (List.replicate ((t531.length : Int) : Int).toNat 0) := ⟨_, rfl⟩
              replace H : (if t540 ≥ 0 then (if (t541.length : Int) = t530 then ((impl_CutLimit.f kj4 t530 t531 t541).bind fun t547 => (if t547 = t540 then ((impl_IsCut.f kj4 t530 t531 0 1 t541 t540).bind fun t548 => (if t548 = true then ((impl_IsCut.f kj4 t530 t531 0 1 t541 (wrap64 (t540 + 1))).bind fun t549 => (if t549 = true then (some false) else ((impl_IsFlow.f kj4 t530 t531 0 1 y544).bind fun t550 => (if t550 = true then ((impl_FlowValue.f kj4 t530 t531 1 t535).bind fun t551 => (some (t551 == (wrap64 (-t540))))) else (some false))))) else (some false))) else (some false))) else (some false)) else (some false)) = some r := by first | (rw [hy544]; with_reducible exact H) | (have H2_ := (Option.bind_some _ _).symm.trans H; rw [hy544]; with_reducible exact H2_) | (have H2_ := (Option.bind_some _ _).symm.trans H; with_reducible exact H2_) | with_reducible exact H | (rw [hy544]; exact H) | exact H
              have Ny544 := Aside0.mk hy544
              clear hy544
              by_cases c21 : t540 ≥ 0
              · rw [if_pos c21] at H
                have c21b0 : decide (0 ≤ t540) = true := decide_eq_true c21
                clear c21
                by_cases c22 : (t541.length : Int) = t530
                · rw [if_pos c22] at H
                  have c22b0 : ((t541.length : Int) == t530) = true := beq_iff_eq.mpr c22
                  have c22b1 : ((t541.length : Int) != t530) = false := bne_eq_false_iff_eq.mpr c22
                  clear c22
                  replace H := Option.bind_eq_some_iff.mp H
                  obtain ⟨t547, A230, H⟩ := H
                  replace H : (if t547 = t540 then ((impl_IsCut.f kj4 t530 t531 0 1 t541 t540).bind fun t548 => (if t548 = true then ((impl_IsCut.f kj4 t530 t531 0 1 t541 (wrap64 (t540 + 1))).bind fun t549 => (if t549 = true then (some false) else ((impl_IsFlow.f kj4 t530 t531 0 1 y544).bind fun t550 => (if t550 = true then ((impl_FlowValue.f kj4 t530 t531 1 t535).bind fun t551 => (some (t551 == (wrap64 (-t540))))) else (some false))))) else (some false))) else (some false)) = some r := H
                  have A23 := Aside0.mk A230
                  clear A230
                  by_cases c24 : t547 = t540
                  · rw [if_pos c24] at H
                    have c24b0 : (t547 == t540) = true := beq_iff_eq.mpr c24
                    have c24b1 : (t547 != t540) = false := bne_eq_false_iff_eq.mpr c24
                    clear c24
                    replace H := Option.bind_eq_some_iff.mp H
                    obtain ⟨t548, A250, H⟩ := H
                    replace H : (if t548 = true then ((impl_IsCut.f kj4 t530 t531 0 1 t541 (wrap64 (t540 + 1))).bind fun t549 => (if t549 = true then (some false) else ((impl_IsFlow.f kj4 t530 t531 0 1 y544).bind fun t550 => (if t550 = true then ((impl_FlowValue.f kj4 t530 t531 1 t535).bind fun t551 => (some (t551 == (wrap64 (-t540))))) else (some false))))) else (some false)) = some r := H
                    have A25 := Aside0.mk A250
                    clear A250
                    by_cases c26 : t548 = true
                    · subst c26
                      have H1 : ((impl_IsCut.f kj4 t530 t531 0 1 t541 (wrap64 (t540 + 1))).bind fun t549 => (if t549 = true then (some false) else ((impl_IsFlow.f kj4 t530 t531 0 1 y544).bind fun t550 => (if t550 = true then ((impl_FlowValue.f kj4 t530 t531 1 t535).bind fun t551 => (some (t551 == (wrap64 (-t540))))) else (some false))))) = some r := by rw [if_pos rfl] at H; exact H
                      clear H
                      have H := H1
                      clear H1
                      replace H := Option.bind_eq_some_iff.mp H
                      obtain ⟨t549, A270, H⟩ := H
                      replace H : (if t549 = true then (some false) else ((impl_IsFlow.f kj4 t530 t531 0 1 y544).bind fun t550 => (if t550 = true then ((impl_FlowValue.f kj4 t530 t531 1 t535).bind fun t551 => (some (t551 == (wrap64 (-t540))))) else (some false)))) = some r := H
                      have A27 := Aside0.mk A270
                      clear A270
                      by_cases c28 : t549 = true
                      · subst c28
                        have H1 : (some false) = some r := by rw [if_pos rfl] at H; exact H
                        clear H
                        have H := H1
                        clear H1
                        obtain rfl := Option.some.inj H
                        obtain ⟨hcz29_0, hcz29_1, hfz29_0, hfz29_1⟩ := cf2 BK534.out
                        obtain ⟨Ao30, co30, eo30⟩ := Kd.R_slice HO_4.out
                        subst eo30
                        go_wp2_with (first | ((with_reducible refine gate_callee (f := 18) rfl ?_); refine goesL_ (some 29) rfl rfl Try.func18 (by kernel_rfl) rfl #[.agg #[.int .i64 t530, .slice Ao9 t531.length co9], .int .i64 0, .slice Ao30 t535.length co30] rfl ga ?_; (with_reducible refine (impl_FlowValue.calls kj4 t530 _ _ t531 0 _ _ t535 t540 _ ?side1 ?side2 ?side3 ?side4 A17.out).mono ?_); (case side1 => exact ck (Kd.R_reads' HO_535001.out).2.2); (case side2 => exact (Kd.R_reads' HO_535001.out).2.1); (case side3 => exact ck (Kd.R_reads' HO_4.out).2.2); (case side4 => exact (Kd.R_reads' HO_4.out).2.1); rintro e w31 ⟨rfl, hb⟩; refine ⟨_, rfl, ?_⟩; replace HO_4 := Aside0.mk (Kd.R_below (rk HO_4.out) hb); replace HO_535001 := Aside0.mk (Kd.R_below (rk HO_535001.out) hb); replace BK534 := Aside0.mk (bb BK534.out hb); replace HB := Aside0.mk (below_step bel hb); (try clear hb); obtain ⟨hcz32_0, hcz32_1, hfz32_0, hfz32_1⟩ := cf2 BK534.out) | ((with_reducible refine gate_callee (f := 29) rfl ?_); refine goesL_ (some 32) rfl rfl Try.func29 (by kernel_rfl) rfl #[.agg #[.int .i64 t530, .slice Ao9 t531.length co9], .int .i64 0, .slice Ao30 t535.length co30] rfl ga ?_; (with_reducible refine (impl_SourceSide.calls kj4 t530 _ _ t531 0 _ _ t535 t541 _ ?side1 ?side2 ?side3 ?side4 A18.out).mono ?_); (case side1 => exact ck (Kd.R_reads' HO_535001.out).2.2); (case side2 => exact (Kd.R_reads' HO_535001.out).2.1); (case side3 => exact ck (Kd.R_reads' HO_4.out).2.2); (case side4 => exact (Kd.R_reads' HO_4.out).2.1); rintro e w33 ⟨v542, rfl, ho0, hb⟩; refine ⟨_, rfl, ?_⟩; have HO543 := Aside0.mk (Kd.R_lower ho0 (below_size bel)); replace HO_4 := Aside0.mk (Kd.R_below (rk HO_4.out) hb); replace HO_535001 := Aside0.mk (Kd.R_below (rk HO_535001.out) hb); replace BK534 := Aside0.mk (bb BK534.out hb); replace HB := Aside0.mk (below_step bel hb); (try clear hb); (try clear ho0); obtain ⟨hcz34_0, hcz34_1, hfz34_0, hfz34_1⟩ := cf2 BK534.out) | ((with_reducible refine gate_dst (N := 36) rfl ?_); refine Kd.R_make (Kd.int .i64) _ 3 rfl (N := 36) rfl 33 _ _ rfl (t531.length : Int) rfl rfl Try.underlying33 (.int .i64 0) 8 info3 rfl (by decide) (by omega) 0 (ok := fun _ => True) (okp := fun _ => True) rfl (fun _ hk => hk) trivial (asm) (Nat.le_trans (Nat.mul_le_mul_right _ (asm : (t531.length : Int).toNat ≤ 35184372088832)) (by omega)) (Below.refl _ _) (Nat.le_refl _) ?_; intro v545 w35 ho36 hb hg_ hnew_; clear hg_ hnew_; (first | rw [← Ny544.out] at ho36 | (simp only [Int.reduceToNat] at ho36; rw [← Ny544.out] at ho36)); have HO546 := Aside0.mk (Kd.R_lower (Kd.R_new' ho36 (Kd.R_lt (rk HO_4.out))) (below_size bel)); replace HO_4 := Aside0.mk (Kd.R_elder' (rk HO_4.out) (Kd.R_base ho36) hb); replace HO_535001 := Aside0.mk (Kd.R_below (rk HO_535001.out) hb); replace HO543 := Aside0.mk (Kd.R_below (rk HO543.out) hb); replace BK534 := Aside0.mk (bb BK534.out hb); replace HB := Aside0.mk (below_step bel hb); clear hb ho36; obtain ⟨Ao37, co37, eo37⟩ := Kd.R_slice HO543.out; subst eo37; obtain ⟨hcz38_0, hcz38_1, hfz38_0, hfz38_1⟩ := cf2 BK534.out) | (go_at_call 22; (with_reducible refine (impl_CutLimit.calls kj4 t530 _ _ t531 _ _ t541 t547 _ ?side1 ?side2 ?side3 ?side4 A23.out).mono ?_); (case side1 => exact ck (Kd.R_reads' HO_535001.out).2.2); (case side2 => exact (Kd.R_reads' HO_535001.out).2.1); (case side3 => exact ck (Kd.R_reads' HO543.out).2.2); (case side4 => exact (Kd.R_reads' HO543.out).2.1); rintro e w39 ⟨rfl, hb⟩; replace HO_4 := Aside0.mk (Kd.R_below (rk HO_4.out) hb); replace HO_535001 := Aside0.mk (Kd.R_below (rk HO_535001.out) hb); replace HO543 := Aside0.mk (Kd.R_below (rk HO543.out) hb); replace HO546 := Aside0.mk (Kd.R_below (rk HO546.out) hb); replace BK534 := Aside0.mk (bb BK534.out hb); replace HB := Aside0.mk (below_step bel hb); (try clear hb); (try clear hb2); (try clear hk); (try clear hi); obtain ⟨hcz40_0, hcz40_1, hfz40_0, hfz40_1⟩ := cf2 BK534.out) | (go_at_call 25; (with_reducible refine (impl_IsCut.calls kj4 t530 _ _ t531 0 1 _ _ t541 t540 true _ ?side1 ?side2 ?side3 ?side4 A25.out).mono ?_); (case side1 => exact ck (Kd.R_reads' HO_535001.out).2.2); (case side2 => exact (Kd.R_reads' HO_535001.out).2.1); (case side3 => exact ck (Kd.R_reads' HO543.out).2.2); (case side4 => exact (Kd.R_reads' HO543.out).2.1); rintro e w41 ⟨rfl, hb⟩; replace HO_4 := Aside0.mk (Kd.R_below (rk HO_4.out) hb); replace HO_535001 := Aside0.mk (Kd.R_below (rk HO_535001.out) hb); replace HO543 := Aside0.mk (Kd.R_below (rk HO543.out) hb); replace HO546 := Aside0.mk (Kd.R_below (rk HO546.out) hb); replace BK534 := Aside0.mk (bb BK534.out hb); replace HB := Aside0.mk (below_step bel hb); (try clear hb); (try clear hb2); (try clear hk); (try clear hi); obtain ⟨hcz42_0, hcz42_1, hfz42_0, hfz42_1⟩ := cf2 BK534.out) | (go_at_call 25; (with_reducible refine (impl_IsCut.calls kj4 t530 _ _ t531 0 1 _ _ t541 (wrap64 (t540 + 1)) true _ ?side1 ?side2 ?side3 ?side4 A27.out).mono ?_); (case side1 => exact ck (Kd.R_reads' HO_535001.out).2.2); (case side2 => exact (Kd.R_reads' HO_535001.out).2.1); (case side3 => exact ck (Kd.R_reads' HO543.out).2.2); (case side4 => exact (Kd.R_reads' HO543.out).2.1); rintro e w43 ⟨rfl, hb⟩; replace HO_4 := Aside0.mk (Kd.R_below (rk HO_4.out) hb); replace HO_535001 := Aside0.mk (Kd.R_below (rk HO_535001.out) hb); replace HO543 := Aside0.mk (Kd.R_below (rk HO543.out) hb); replace HO546 := Aside0.mk (Kd.R_below (rk HO546.out) hb); replace BK534 := Aside0.mk (bb BK534.out hb); replace HB := Aside0.mk (below_step bel hb); (try clear hb); (try clear hb2); (try clear hk); (try clear hi)))
                        go_ret
                        exact ⟨er, bel⟩
                      · replace c28 := Bool.eq_false_iff.mpr c28
                        subst c28
                        have H1 : ((impl_IsFlow.f kj4 t530 t531 0 1 y544).bind fun t550 => (if t550 = true then ((impl_FlowValue.f kj4 t530 t531 1 t535).bind fun t551 => (some (t551 == (wrap64 (-t540))))) else (some false))) = some r := by rw [if_neg (show ¬ (false = true) by decide)] at H; exact H
                        clear H
                        have H := H1
                        clear H1
                        replace H := Option.bind_eq_some_iff.mp H
                        obtain ⟨t550, A440, H⟩ := H
                        replace H : (if t550 = true then ((impl_FlowValue.f kj4 t530 t531 1 t535).bind fun t551 => (some (t551 == (wrap64 (-t540))))) else (some false)) = some r := H
                        have A44 := Aside0.mk A440
                        clear A440
                        by_cases c45 : t550 = true
                        · subst c45
                          have H1 : ((impl_FlowValue.f kj4 t530 t531 1 t535).bind fun t551 => (some (t551 == (wrap64 (-t540))))) = some r := by rw [if_pos rfl] at H; exact H
                          clear H
                          have H := H1
                          clear H1
                          replace H := Option.bind_eq_some_iff.mp H
                          obtain ⟨t551, A460, H⟩ := H
                          replace H : (some (t551 == (wrap64 (-t540)))) = some r := H
                          have A46 := Aside0.mk A460
                          clear A460
                          obtain rfl := Option.some.inj H
                          obtain ⟨hcz47_0, hcz47_1, hfz47_0, hfz47_1⟩ := cf2 BK534.out
                          obtain ⟨Ao48, co48, eo48⟩ := Kd.R_slice HO_4.out
                          subst eo48
                          go_wp2_with (first | ((with_reducible refine gate_callee (f := 18) rfl ?_); refine goesL_ (some 29) rfl rfl Try.func18 (by kernel_rfl) rfl #[.agg #[.int .i64 t530, .slice Ao9 t531.length co9], .int .i64 0, .slice Ao48 t535.length co48] rfl ga ?_; (with_reducible refine (impl_FlowValue.calls kj4 t530 _ _ t531 0 _ _ t535 t540 _ ?side1 ?side2 ?side3 ?side4 A17.out).mono ?_); (case side1 => exact ck (Kd.R_reads' HO_535001.out).2.2); (case side2 => exact (Kd.R_reads' HO_535001.out).2.1); (case side3 => exact ck (Kd.R_reads' HO_4.out).2.2); (case side4 => exact (Kd.R_reads' HO_4.out).2.1); rintro e w49 ⟨rfl, hb⟩; refine ⟨_, rfl, ?_⟩; replace HO_4 := Aside0.mk (Kd.R_below (rk HO_4.out) hb); replace HO_535001 := Aside0.mk (Kd.R_below (rk HO_535001.out) hb); replace BK534 := Aside0.mk (bb BK534.out hb); replace HB := Aside0.mk (below_step bel hb); (try clear hb); obtain ⟨hcz50_0, hcz50_1, hfz50_0, hfz50_1⟩ := cf2 BK534.out) | ((with_reducible refine gate_callee (f := 29) rfl ?_); refine goesL_ (some 32) rfl rfl Try.func29 (by kernel_rfl) rfl #[.agg #[.int .i64 t530, .slice Ao9 t531.length co9], .int .i64 0, .slice Ao48 t535.length co48] rfl ga ?_; (with_reducible refine (impl_SourceSide.calls kj4 t530 _ _ t531 0 _ _ t535 t541 _ ?side1 ?side2 ?side3 ?side4 A18.out).mono ?_); (case side1 => exact ck (Kd.R_reads' HO_535001.out).2.2); (case side2 => exact (Kd.R_reads' HO_535001.out).2.1); (case side3 => exact ck (Kd.R_reads' HO_4.out).2.2); (case side4 => exact (Kd.R_reads' HO_4.out).2.1); rintro e w51 ⟨v542, rfl, ho0, hb⟩; refine ⟨_, rfl, ?_⟩; have HO543 := Aside0.mk (Kd.R_lower ho0 (below_size bel)); replace HO_4 := Aside0.mk (Kd.R_below (rk HO_4.out) hb); replace HO_535001 := Aside0.mk (Kd.R_below (rk HO_535001.out) hb); replace BK534 := Aside0.mk (bb BK534.out hb); replace HB := Aside0.mk (below_step bel hb); (try clear hb); (try clear ho0); obtain ⟨hcz52_0, hcz52_1, hfz52_0, hfz52_1⟩ := cf2 BK534.out) | ((with_reducible refine gate_dst (N := 36) rfl ?_); refine Kd.R_make (Kd.int .i64) _ 3 rfl (N := 36) rfl 33 _ _ rfl (t531.length : Int) rfl rfl Try.underlying33 (.int .i64 0) 8 info3 rfl (by decide) (by omega) 0 (ok := fun _ => True) (okp := fun _ => True) rfl (fun _ hk => hk) trivial (asm) (Nat.le_trans (Nat.mul_le_mul_right _ (asm : (t531.length : Int).toNat ≤ 35184372088832)) (by omega)) (Below.refl _ _) (Nat.le_refl _) ?_; intro v545 w53 ho54 hb hg_ hnew_; clear hg_ hnew_; (first | rw [← Ny544.out] at ho54 | (simp only [Int.reduceToNat] at ho54; rw [← Ny544.out] at ho54)); have HO546 := Aside0.mk (Kd.R_lower (Kd.R_new' ho54 (Kd.R_lt (rk HO_4.out))) (below_size bel)); replace HO_4 := Aside0.mk (Kd.R_elder' (rk HO_4.out) (Kd.R_base ho54) hb); replace HO_535001 := Aside0.mk (Kd.R_below (rk HO_535001.out) hb); replace HO543 := Aside0.mk (Kd.R_below (rk HO543.out) hb); replace BK534 := Aside0.mk (bb BK534.out hb); replace HB := Aside0.mk (below_step bel hb); clear hb ho54; obtain ⟨Ao55, co55, eo55⟩ := Kd.R_slice HO543.out; subst eo55; obtain ⟨hcz56_0, hcz56_1, hfz56_0, hfz56_1⟩ := cf2 BK534.out) | (go_at_call 22; (with_reducible refine (impl_CutLimit.calls kj4 t530 _ _ t531 _ _ t541 t547 _ ?side1 ?side2 ?side3 ?side4 A23.out).mono ?_); (case side1 => exact ck (Kd.R_reads' HO_535001.out).2.2); (case side2 => exact (Kd.R_reads' HO_535001.out).2.1); (case side3 => exact ck (Kd.R_reads' HO543.out).2.2); (case side4 => exact (Kd.R_reads' HO543.out).2.1); rintro e w57 ⟨rfl, hb⟩; replace HO_4 := Aside0.mk (Kd.R_below (rk HO_4.out) hb); replace HO_535001 := Aside0.mk (Kd.R_below (rk HO_535001.out) hb); replace HO543 := Aside0.mk (Kd.R_below (rk HO543.out) hb); replace HO546 := Aside0.mk (Kd.R_below (rk HO546.out) hb); replace BK534 := Aside0.mk (bb BK534.out hb); replace HB := Aside0.mk (below_step bel hb); (try clear hb); (try clear hb2); (try clear hk); (try clear hi); obtain ⟨hcz58_0, hcz58_1, hfz58_0, hfz58_1⟩ := cf2 BK534.out) | (go_at_call 25; (with_reducible refine (impl_IsCut.calls kj4 t530 _ _ t531 0 1 _ _ t541 t540 true _ ?side1 ?side2 ?side3 ?side4 A25.out).mono ?_); (case side1 => exact ck (Kd.R_reads' HO_535001.out).2.2); (case side2 => exact (Kd.R_reads' HO_535001.out).2.1); (case side3 => exact ck (Kd.R_reads' HO543.out).2.2); (case side4 => exact (Kd.R_reads' HO543.out).2.1); rintro e w59 ⟨rfl, hb⟩; replace HO_4 := Aside0.mk (Kd.R_below (rk HO_4.out) hb); replace HO_535001 := Aside0.mk (Kd.R_below (rk HO_535001.out) hb); replace HO543 := Aside0.mk (Kd.R_below (rk HO543.out) hb); replace HO546 := Aside0.mk (Kd.R_below (rk HO546.out) hb); replace BK534 := Aside0.mk (bb BK534.out hb); replace HB := Aside0.mk (below_step bel hb); (try clear hb); (try clear hb2); (try clear hk); (try clear hi); obtain ⟨hcz60_0, hcz60_1, hfz60_0, hfz60_1⟩ := cf2 BK534.out) | (go_at_call 25; (with_reducible refine (impl_IsCut.calls kj4 t530 _ _ t531 0 1 _ _ t541 (wrap64 (t540 + 1)) false _ ?side1 ?side2 ?side3 ?side4 A27.out).mono ?_); (case side1 => exact ck (Kd.R_reads' HO_535001.out).2.2); (case side2 => exact (Kd.R_reads' HO_535001.out).2.1); (case side3 => exact ck (Kd.R_reads' HO543.out).2.2); (case side4 => exact (Kd.R_reads' HO543.out).2.1); rintro e w61 ⟨rfl, hb⟩; replace HO_4 := Aside0.mk (Kd.R_below (rk HO_4.out) hb); replace HO_535001 := Aside0.mk (Kd.R_below (rk HO_535001.out) hb); replace HO543 := Aside0.mk (Kd.R_below (rk HO543.out) hb); replace HO546 := Aside0.mk (Kd.R_below (rk HO546.out) hb); replace BK534 := Aside0.mk (bb BK534.out hb); replace HB := Aside0.mk (below_step bel hb); (try clear hb); (try clear hb2); (try clear hk); (try clear hi); obtain ⟨hcz62_0, hcz62_1, hfz62_0, hfz62_1⟩ := cf2 BK534.out; obtain ⟨Ao63, co63, eo63⟩ := Kd.R_slice HO546.out; subst eo63) | (go_at_call 27; (with_reducible refine (impl_IsFlow.calls kj4 t530 _ _ t531 0 1 _ _ y544 true _ ?side1 ?side2 ?side3 ?side4 A44.out).mono ?_); (case side1 => exact ck (Kd.R_reads' HO_535001.out).2.2); (case side2 => exact (Kd.R_reads' HO_535001.out).2.1); (case side3 => exact ck (Kd.R_reads' HO546.out).2.2); (case side4 => exact (Kd.R_reads' HO546.out).2.1); rintro e w64 ⟨rfl, hb⟩; replace HO_4 := Aside0.mk (Kd.R_below (rk HO_4.out) hb); replace HO_535001 := Aside0.mk (Kd.R_below (rk HO_535001.out) hb); replace HO543 := Aside0.mk (Kd.R_below (rk HO543.out) hb); replace HO546 := Aside0.mk (Kd.R_below (rk HO546.out) hb); replace BK534 := Aside0.mk (bb BK534.out hb); replace HB := Aside0.mk (below_step bel hb); (try clear hb); (try clear hb2); (try clear hk); (try clear hi); obtain ⟨hcz65_0, hcz65_1, hfz65_0, hfz65_1⟩ := cf2 BK534.out) | (go_at_call 18; (with_reducible refine (impl_FlowValue.calls kj4 t530 _ _ t531 1 _ _ t535 t551 _ ?side1 ?side2 ?side3 ?side4 A46.out).mono ?_); (case side1 => exact ck (Kd.R_reads' HO_535001.out).2.2); (case side2 => exact (Kd.R_reads' HO_535001.out).2.1); (case side3 => exact ck (Kd.R_reads' HO_4.out).2.2); (case side4 => exact (Kd.R_reads' HO_4.out).2.1); rintro e w66 ⟨rfl, hb⟩; replace HO_4 := Aside0.mk (Kd.R_below (rk HO_4.out) hb); replace HO_535001 := Aside0.mk (Kd.R_below (rk HO_535001.out) hb); replace HO543 := Aside0.mk (Kd.R_below (rk HO543.out) hb); replace HO546 := Aside0.mk (Kd.R_below (rk HO546.out) hb); replace BK534 := Aside0.mk (bb BK534.out hb); replace HB := Aside0.mk (below_step bel hb); (try clear hb); (try clear hb2); (try clear hk); (try clear hi)))
                          go_ret
                          exact ⟨er, bel⟩
                        · replace c45 := Bool.eq_false_iff.mpr c45
                          subst c45
                          have H1 : (some false) = some r := by rw [if_neg (show ¬ (false = true) by decide)] at H; exact H
                          clear H
                          have H := H1
                          clear H1
                          obtain rfl := Option.some.inj H
                          obtain ⟨hcz67_0, hcz67_1, hfz67_0, hfz67_1⟩ := cf2 BK534.out
                          obtain ⟨Ao68, co68, eo68⟩ := Kd.R_slice HO_4.out
                          subst eo68
                          go_wp2_with (first | ((with_reducible refine gate_callee (f := 18) rfl ?_); refine goesL_ (some 29) rfl rfl Try.func18 (by kernel_rfl) rfl #[.agg #[.int .i64 t530, .slice Ao9 t531.length co9], .int .i64 0, .slice Ao68 t535.length co68] rfl ga ?_; (with_reducible refine (impl_FlowValue.calls kj4 t530 _ _ t531 0 _ _ t535 t540 _ ?side1 ?side2 ?side3 ?side4 A17.out).mono ?_); (case side1 => exact ck (Kd.R_reads' HO_535001.out).2.2); (case side2 => exact (Kd.R_reads' HO_535001.out).2.1); (case side3 => exact ck (Kd.R_reads' HO_4.out).2.2); (case side4 => exact (Kd.R_reads' HO_4.out).2.1); rintro e w69 ⟨rfl, hb⟩; refine ⟨_, rfl, ?_⟩; replace HO_4 := Aside0.mk (Kd.R_below (rk HO_4.out) hb); replace HO_535001 := Aside0.mk (Kd.R_below (rk HO_535001.out) hb); replace BK534 := Aside0.mk (bb BK534.out hb); replace HB := Aside0.mk (below_step bel hb); (try clear hb); obtain ⟨hcz70_0, hcz70_1, hfz70_0, hfz70_1⟩ := cf2 BK534.out) | ((with_reducible refine gate_callee (f := 29) rfl ?_); refine goesL_ (some 32) rfl rfl Try.func29 (by kernel_rfl) rfl #[.agg #[.int .i64 t530, .slice Ao9 t531.length co9], .int .i64 0, .slice Ao68 t535.length co68] rfl ga ?_; (with_reducible refine (impl_SourceSide.calls kj4 t530 _ _ t531 0 _ _ t535 t541 _ ?side1 ?side2 ?side3 ?side4 A18.out).mono ?_); (case side1 => exact ck (Kd.R_reads' HO_535001.out).2.2); (case side2 => exact (Kd.R_reads' HO_535001.out).2.1); (case side3 => exact ck (Kd.R_reads' HO_4.out).2.2); (case side4 => exact (Kd.R_reads' HO_4.out).2.1); rintro e w71 ⟨v542, rfl, ho0, hb⟩; refine ⟨_, rfl, ?_⟩; have HO543 := Aside0.mk (Kd.R_lower ho0 (below_size bel)); replace HO_4 := Aside0.mk (Kd.R_below (rk HO_4.out) hb); replace HO_535001 := Aside0.mk (Kd.R_below (rk HO_535001.out) hb); replace BK534 := Aside0.mk (bb BK534.out hb); replace HB := Aside0.mk (below_step bel hb); (try clear hb); (try clear ho0); obtain ⟨hcz72_0, hcz72_1, hfz72_0, hfz72_1⟩ := cf2 BK534.out) | ((with_reducible refine gate_dst (N := 36) rfl ?_); refine Kd.R_make (Kd.int .i64) _ 3 rfl (N := 36) rfl 33 _ _ rfl (t531.length : Int) rfl rfl Try.underlying33 (.int .i64 0) 8 info3 rfl (by decide) (by omega) 0 (ok := fun _ => True) (okp := fun _ => True) rfl (fun _ hk => hk) trivial (asm) (Nat.le_trans (Nat.mul_le_mul_right _ (asm : (t531.length : Int).toNat ≤ 35184372088832)) (by omega)) (Below.refl _ _) (Nat.le_refl _) ?_; intro v545 w73 ho74 hb hg_ hnew_; clear hg_ hnew_; (first | rw [← Ny544.out] at ho74 | (simp only [Int.reduceToNat] at ho74; rw [← Ny544.out] at ho74)); have HO546 := Aside0.mk (Kd.R_lower (Kd.R_new' ho74 (Kd.R_lt (rk HO_4.out))) (below_size bel)); replace HO_4 := Aside0.mk (Kd.R_elder' (rk HO_4.out) (Kd.R_base ho74) hb); replace HO_535001 := Aside0.mk (Kd.R_below (rk HO_535001.out) hb); replace HO543 := Aside0.mk (Kd.R_below (rk HO543.out) hb); replace BK534 := Aside0.mk (bb BK534.out hb); replace HB := Aside0.mk (below_step bel hb); clear hb ho74; obtain ⟨Ao75, co75, eo75⟩ := Kd.R_slice HO543.out; subst eo75; obtain ⟨hcz76_0, hcz76_1, hfz76_0, hfz76_1⟩ := cf2 BK534.out) | (go_at_call 22; (with_reducible refine (impl_CutLimit.calls kj4 t530 _ _ t531 _ _ t541 t547 _ ?side1 ?side2 ?side3 ?side4 A23.out).mono ?_); (case side1 => exact ck (Kd.R_reads' HO_535001.out).2.2); (case side2 => exact (Kd.R_reads' HO_535001.out).2.1); (case side3 => exact ck (Kd.R_reads' HO543.out).2.2); (case side4 => exact (Kd.R_reads' HO543.out).2.1); rintro e w77 ⟨rfl, hb⟩; replace HO_4 := Aside0.mk (Kd.R_below (rk HO_4.out) hb); replace HO_535001 := Aside0.mk (Kd.R_below (rk HO_535001.out) hb); replace HO543 := Aside0.mk (Kd.R_below (rk HO543.out) hb); replace HO546 := Aside0.mk (Kd.R_below (rk HO546.out) hb); replace BK534 := Aside0.mk (bb BK534.out hb); replace HB := Aside0.mk (below_step bel hb); (try clear hb); (try clear hb2); (try clear hk); (try clear hi); obtain ⟨hcz78_0, hcz78_1, hfz78_0, hfz78_1⟩ := cf2 BK534.out) | (go_at_call 25; (with_reducible refine (impl_IsCut.calls kj4 t530 _ _ t531 0 1 _ _ t541 t540 true _ ?side1 ?side2 ?side3 ?side4 A25.out).mono ?_); (case side1 => exact ck (Kd.R_reads' HO_535001.out).2.2); (case side2 => exact (Kd.R_reads' HO_535001.out).2.1); (case side3 => exact ck (Kd.R_reads' HO543.out).2.2); (case side4 => exact (Kd.R_reads' HO543.out).2.1); rintro e w79 ⟨rfl, hb⟩; replace HO_4 := Aside0.mk (Kd.R_below (rk HO_4.out) hb); replace HO_535001 := Aside0.mk (Kd.R_below (rk HO_535001.out) hb); replace HO543 := Aside0.mk (Kd.R_below (rk HO543.out) hb); replace HO546 := Aside0.mk (Kd.R_below (rk HO546.out) hb); replace BK534 := Aside0.mk (bb BK534.out hb); replace HB := Aside0.mk (below_step bel hb); (try clear hb); (try clear hb2); (try clear hk); (try clear hi); obtain ⟨hcz80_0, hcz80_1, hfz80_0, hfz80_1⟩ := cf2 BK534.out) | (go_at_call 25; (with_reducible refine (impl_IsCut.calls kj4 t530 _ _ t531 0 1 _ _ t541 (wrap64 (t540 + 1)) false _ ?side1 ?side2 ?side3 ?side4 A27.out).mono ?_); (case side1 => exact ck (Kd.R_reads' HO_535001.out).2.2); (case side2 => exact (Kd.R_reads' HO_535001.out).2.1); (case side3 => exact ck (Kd.R_reads' HO543.out).2.2); (case side4 => exact (Kd.R_reads' HO543.out).2.1); rintro e w81 ⟨rfl, hb⟩; replace HO_4 := Aside0.mk (Kd.R_below (rk HO_4.out) hb); replace HO_535001 := Aside0.mk (Kd.R_below (rk HO_535001.out) hb); replace HO543 := Aside0.mk (Kd.R_below (rk HO543.out) hb); replace HO546 := Aside0.mk (Kd.R_below (rk HO546.out) hb); replace BK534 := Aside0.mk (bb BK534.out hb); replace HB := Aside0.mk (below_step bel hb); (try clear hb); (try clear hb2); (try clear hk); (try clear hi); obtain ⟨hcz82_0, hcz82_1, hfz82_0, hfz82_1⟩ := cf2 BK534.out; obtain ⟨Ao83, co83, eo83⟩ := Kd.R_slice HO546.out; subst eo83) | (go_at_call 27; (with_reducible refine (impl_IsFlow.calls kj4 t530 _ _ t531 0 1 _ _ y544 false _ ?side1 ?side2 ?side3 ?side4 A44.out).mono ?_); (case side1 => exact ck (Kd.R_reads' HO_535001.out).2.2); (case side2 => exact (Kd.R_reads' HO_535001.out).2.1); (case side3 => exact ck (Kd.R_reads' HO546.out).2.2); (case side4 => exact (Kd.R_reads' HO546.out).2.1); rintro e w84 ⟨rfl, hb⟩; replace HO_4 := Aside0.mk (Kd.R_below (rk HO_4.out) hb); replace HO_535001 := Aside0.mk (Kd.R_below (rk HO_535001.out) hb); replace HO543 := Aside0.mk (Kd.R_below (rk HO543.out) hb); replace HO546 := Aside0.mk (Kd.R_below (rk HO546.out) hb); replace BK534 := Aside0.mk (bb BK534.out hb); replace HB := Aside0.mk (below_step bel hb); (try clear hb); (try clear hb2); (try clear hk); (try clear hi)))
                          go_ret
                          exact ⟨er, bel⟩
                    · replace c26 := Bool.eq_false_iff.mpr c26
                      subst c26
                      have H1 : (some false) = some r := by rw [if_neg (show ¬ (false = true) by decide)] at H; exact H
                      clear H
                      have H := H1
                      clear H1
                      obtain rfl := Option.some.inj H
                      obtain ⟨hcz85_0, hcz85_1, hfz85_0, hfz85_1⟩ := cf2 BK534.out
                      obtain ⟨Ao86, co86, eo86⟩ := Kd.R_slice HO_4.out
                      subst eo86
                      go_wp2_with (first | ((with_reducible refine gate_callee (f := 18) rfl ?_); refine goesL_ (some 29) rfl rfl Try.func18 (by kernel_rfl) rfl #[.agg #[.int .i64 t530, .slice Ao9 t531.length co9], .int .i64 0, .slice Ao86 t535.length co86] rfl ga ?_; (with_reducible refine (impl_FlowValue.calls kj4 t530 _ _ t531 0 _ _ t535 t540 _ ?side1 ?side2 ?side3 ?side4 A17.out).mono ?_); (case side1 => exact ck (Kd.R_reads' HO_535001.out).2.2); (case side2 => exact (Kd.R_reads' HO_535001.out).2.1); (case side3 => exact ck (Kd.R_reads' HO_4.out).2.2); (case side4 => exact (Kd.R_reads' HO_4.out).2.1); rintro e w87 ⟨rfl, hb⟩; refine ⟨_, rfl, ?_⟩; replace HO_4 := Aside0.mk (Kd.R_below (rk HO_4.out) hb); replace HO_535001 := Aside0.mk (Kd.R_below (rk HO_535001.out) hb); replace BK534 := Aside0.mk (bb BK534.out hb); replace HB := Aside0.mk (below_step bel hb); (try clear hb); obtain ⟨hcz88_0, hcz88_1, hfz88_0, hfz88_1⟩ := cf2 BK534.out) | ((with_reducible refine gate_callee (f := 29) rfl ?_); refine goesL_ (some 32) rfl rfl Try.func29 (by kernel_rfl) rfl #[.agg #[.int .i64 t530, .slice Ao9 t531.length co9], .int .i64 0, .slice Ao86 t535.length co86] rfl ga ?_; (with_reducible refine (impl_SourceSide.calls kj4 t530 _ _ t531 0 _ _ t535 t541 _ ?side1 ?side2 ?side3 ?side4 A18.out).mono ?_); (case side1 => exact ck (Kd.R_reads' HO_535001.out).2.2); (case side2 => exact (Kd.R_reads' HO_535001.out).2.1); (case side3 => exact ck (Kd.R_reads' HO_4.out).2.2); (case side4 => exact (Kd.R_reads' HO_4.out).2.1); rintro e w89 ⟨v542, rfl, ho0, hb⟩; refine ⟨_, rfl, ?_⟩; have HO543 := Aside0.mk (Kd.R_lower ho0 (below_size bel)); replace HO_4 := Aside0.mk (Kd.R_below (rk HO_4.out) hb); replace HO_535001 := Aside0.mk (Kd.R_below (rk HO_535001.out) hb); replace BK534 := Aside0.mk (bb BK534.out hb); replace HB := Aside0.mk (below_step bel hb); (try clear hb); (try clear ho0); obtain ⟨hcz90_0, hcz90_1, hfz90_0, hfz90_1⟩ := cf2 BK534.out) | ((with_reducible refine gate_dst (N := 36) rfl ?_); refine Kd.R_make (Kd.int .i64) _ 3 rfl (N := 36) rfl 33 _ _ rfl (t531.length : Int) rfl rfl Try.underlying33 (.int .i64 0) 8 info3 rfl (by decide) (by omega) 0 (ok := fun _ => True) (okp := fun _ => True) rfl (fun _ hk => hk) trivial (asm) (Nat.le_trans (Nat.mul_le_mul_right _ (asm : (t531.length : Int).toNat ≤ 35184372088832)) (by omega)) (Below.refl _ _) (Nat.le_refl _) ?_; intro v545 w91 ho92 hb hg_ hnew_; clear hg_ hnew_; (first | rw [← Ny544.out] at ho92 | (simp only [Int.reduceToNat] at ho92; rw [← Ny544.out] at ho92)); have HO546 := Aside0.mk (Kd.R_lower (Kd.R_new' ho92 (Kd.R_lt (rk HO_4.out))) (below_size bel)); replace HO_4 := Aside0.mk (Kd.R_elder' (rk HO_4.out) (Kd.R_base ho92) hb); replace HO_535001 := Aside0.mk (Kd.R_below (rk HO_535001.out) hb); replace HO543 := Aside0.mk (Kd.R_below (rk HO543.out) hb); replace BK534 := Aside0.mk (bb BK534.out hb); replace HB := Aside0.mk (below_step bel hb); clear hb ho92; obtain ⟨Ao93, co93, eo93⟩ := Kd.R_slice HO543.out; subst eo93; obtain ⟨hcz94_0, hcz94_1, hfz94_0, hfz94_1⟩ := cf2 BK534.out) | (go_at_call 22; (with_reducible refine (impl_CutLimit.calls kj4 t530 _ _ t531 _ _ t541 t547 _ ?side1 ?side2 ?side3 ?side4 A23.out).mono ?_); (case side1 => exact ck (Kd.R_reads' HO_535001.out).2.2); (case side2 => exact (Kd.R_reads' HO_535001.out).2.1); (case side3 => exact ck (Kd.R_reads' HO543.out).2.2); (case side4 => exact (Kd.R_reads' HO543.out).2.1); rintro e w95 ⟨rfl, hb⟩; replace HO_4 := Aside0.mk (Kd.R_below (rk HO_4.out) hb); replace HO_535001 := Aside0.mk (Kd.R_below (rk HO_535001.out) hb); replace HO543 := Aside0.mk (Kd.R_below (rk HO543.out) hb); replace HO546 := Aside0.mk (Kd.R_below (rk HO546.out) hb); replace BK534 := Aside0.mk (bb BK534.out hb); replace HB := Aside0.mk (below_step bel hb); (try clear hb); (try clear hb2); (try clear hk); (try clear hi); obtain ⟨hcz96_0, hcz96_1, hfz96_0, hfz96_1⟩ := cf2 BK534.out) | (go_at_call 25; (with_reducible refine (impl_IsCut.calls kj4 t530 _ _ t531 0 1 _ _ t541 t540 false _ ?side1 ?side2 ?side3 ?side4 A25.out).mono ?_); (case side1 => exact ck (Kd.R_reads' HO_535001.out).2.2); (case side2 => exact (Kd.R_reads' HO_535001.out).2.1); (case side3 => exact ck (Kd.R_reads' HO543.out).2.2); (case side4 => exact (Kd.R_reads' HO543.out).2.1); rintro e w97 ⟨rfl, hb⟩; replace HO_4 := Aside0.mk (Kd.R_below (rk HO_4.out) hb); replace HO_535001 := Aside0.mk (Kd.R_below (rk HO_535001.out) hb); replace HO543 := Aside0.mk (Kd.R_below (rk HO543.out) hb); replace HO546 := Aside0.mk (Kd.R_below (rk HO546.out) hb); replace BK534 := Aside0.mk (bb BK534.out hb); replace HB := Aside0.mk (below_step bel hb); (try clear hb); (try clear hb2); (try clear hk); (try clear hi)))
                      go_ret
                      exact ⟨er, bel⟩
                  · rw [if_neg c24] at H
                    have c24b0 : (t547 == t540) = false := beq_eq_false_iff_ne.mpr c24
                    have c24b1 : (t547 != t540) = true := bne_iff_ne.mpr c24
                    obtain rfl := Option.some.inj H
                    obtain ⟨hcz98_0, hcz98_1, hfz98_0, hfz98_1⟩ := cf2 BK534.out
                    obtain ⟨Ao99, co99, eo99⟩ := Kd.R_slice HO_4.out
                    subst eo99
                    go_wp2_with (first | ((with_reducible refine gate_callee (f := 18) rfl ?_); refine goesL_ (some 29) rfl rfl Try.func18 (by kernel_rfl) rfl #[.agg #[.int .i64 t530, .slice Ao9 t531.length co9], .int .i64 0, .slice Ao99 t535.length co99] rfl ga ?_; (with_reducible refine (impl_FlowValue.calls kj4 t530 _ _ t531 0 _ _ t535 t540 _ ?side1 ?side2 ?side3 ?side4 A17.out).mono ?_); (case side1 => exact ck (Kd.R_reads' HO_535001.out).2.2); (case side2 => exact (Kd.R_reads' HO_535001.out).2.1); (case side3 => exact ck (Kd.R_reads' HO_4.out).2.2); (case side4 => exact (Kd.R_reads' HO_4.out).2.1); rintro e w100 ⟨rfl, hb⟩; refine ⟨_, rfl, ?_⟩; replace HO_4 := Aside0.mk (Kd.R_below (rk HO_4.out) hb); replace HO_535001 := Aside0.mk (Kd.R_below (rk HO_535001.out) hb); replace BK534 := Aside0.mk (bb BK534.out hb); replace HB := Aside0.mk (below_step bel hb); (try clear hb); obtain ⟨hcz101_0, hcz101_1, hfz101_0, hfz101_1⟩ := cf2 BK534.out) | ((with_reducible refine gate_callee (f := 29) rfl ?_); refine goesL_ (some 32) rfl rfl Try.func29 (by kernel_rfl) rfl #[.agg #[.int .i64 t530, .slice Ao9 t531.length co9], .int .i64 0, .slice Ao99 t535.length co99] rfl ga ?_; (with_reducible refine (impl_SourceSide.calls kj4 t530 _ _ t531 0 _ _ t535 t541 _ ?side1 ?side2 ?side3 ?side4 A18.out).mono ?_); (case side1 => exact ck (Kd.R_reads' HO_535001.out).2.2); (case side2 => exact (Kd.R_reads' HO_535001.out).2.1); (case side3 => exact ck (Kd.R_reads' HO_4.out).2.2); (case side4 => exact (Kd.R_reads' HO_4.out).2.1); rintro e w102 ⟨v542, rfl, ho0, hb⟩; refine ⟨_, rfl, ?_⟩; have HO543 := Aside0.mk (Kd.R_lower ho0 (below_size bel)); replace HO_4 := Aside0.mk (Kd.R_below (rk HO_4.out) hb); replace HO_535001 := Aside0.mk (Kd.R_below (rk HO_535001.out) hb); replace BK534 := Aside0.mk (bb BK534.out hb); replace HB := Aside0.mk (below_step bel hb); (try clear hb); (try clear ho0); obtain ⟨hcz103_0, hcz103_1, hfz103_0, hfz103_1⟩ := cf2 BK534.out) | ((with_reducible refine gate_dst (N := 36) rfl ?_); refine Kd.R_make (Kd.int .i64) _ 3 rfl (N := 36) rfl 33 _ _ rfl (t531.length : Int) rfl rfl Try.underlying33 (.int .i64 0) 8 info3 rfl (by decide) (by omega) 0 (ok := fun _ => True) (okp := fun _ => True) rfl (fun _ hk => hk) trivial (asm) (Nat.le_trans (Nat.mul_le_mul_right _ (asm : (t531.length : Int).toNat ≤ 35184372088832)) (by omega)) (Below.refl _ _) (Nat.le_refl _) ?_; intro v545 w104 ho105 hb hg_ hnew_; clear hg_ hnew_; (first | rw [← Ny544.out] at ho105 | (simp only [Int.reduceToNat] at ho105; rw [← Ny544.out] at ho105)); have HO546 := Aside0.mk (Kd.R_lower (Kd.R_new' ho105 (Kd.R_lt (rk HO_4.out))) (below_size bel)); replace HO_4 := Aside0.mk (Kd.R_elder' (rk HO_4.out) (Kd.R_base ho105) hb); replace HO_535001 := Aside0.mk (Kd.R_below (rk HO_535001.out) hb); replace HO543 := Aside0.mk (Kd.R_below (rk HO543.out) hb); replace BK534 := Aside0.mk (bb BK534.out hb); replace HB := Aside0.mk (below_step bel hb); clear hb ho105; obtain ⟨Ao106, co106, eo106⟩ := Kd.R_slice HO543.out; subst eo106; obtain ⟨hcz107_0, hcz107_1, hfz107_0, hfz107_1⟩ := cf2 BK534.out) | (go_at_call 22; (with_reducible refine (impl_CutLimit.calls kj4 t530 _ _ t531 _ _ t541 t547 _ ?side1 ?side2 ?side3 ?side4 A23.out).mono ?_); (case side1 => exact ck (Kd.R_reads' HO_535001.out).2.2); (case side2 => exact (Kd.R_reads' HO_535001.out).2.1); (case side3 => exact ck (Kd.R_reads' HO543.out).2.2); (case side4 => exact (Kd.R_reads' HO543.out).2.1); rintro e w108 ⟨rfl, hb⟩; replace HO_4 := Aside0.mk (Kd.R_below (rk HO_4.out) hb); replace HO_535001 := Aside0.mk (Kd.R_below (rk HO_535001.out) hb); replace HO543 := Aside0.mk (Kd.R_below (rk HO543.out) hb); replace HO546 := Aside0.mk (Kd.R_below (rk HO546.out) hb); replace BK534 := Aside0.mk (bb BK534.out hb); replace HB := Aside0.mk (below_step bel hb); (try clear hb); (try clear hb2); (try clear hk); (try clear hi)))
                    go_ret
                    exact ⟨er, bel⟩
                · rw [if_neg c22] at H
                  have c22b0 : ((t541.length : Int) == t530) = false := beq_eq_false_iff_ne.mpr c22
                  have c22b1 : ((t541.length : Int) != t530) = true := bne_iff_ne.mpr c22
                  obtain rfl := Option.some.inj H
                  obtain ⟨hcz109_0, hcz109_1, hfz109_0, hfz109_1⟩ := cf2 BK534.out
                  obtain ⟨Ao110, co110, eo110⟩ := Kd.R_slice HO_4.out
                  subst eo110
                  go_wp2_with (first | ((with_reducible refine gate_callee (f := 18) rfl ?_); refine goesL_ (some 29) rfl rfl Try.func18 (by kernel_rfl) rfl #[.agg #[.int .i64 t530, .slice Ao9 t531.length co9], .int .i64 0, .slice Ao110 t535.length co110] rfl ga ?_; (with_reducible refine (impl_FlowValue.calls kj4 t530 _ _ t531 0 _ _ t535 t540 _ ?side1 ?side2 ?side3 ?side4 A17.out).mono ?_); (case side1 => exact ck (Kd.R_reads' HO_535001.out).2.2); (case side2 => exact (Kd.R_reads' HO_535001.out).2.1); (case side3 => exact ck (Kd.R_reads' HO_4.out).2.2); (case side4 => exact (Kd.R_reads' HO_4.out).2.1); rintro e w111 ⟨rfl, hb⟩; refine ⟨_, rfl, ?_⟩; replace HO_4 := Aside0.mk (Kd.R_below (rk HO_4.out) hb); replace HO_535001 := Aside0.mk (Kd.R_below (rk HO_535001.out) hb); replace BK534 := Aside0.mk (bb BK534.out hb); replace HB := Aside0.mk (below_step bel hb); (try clear hb); obtain ⟨hcz112_0, hcz112_1, hfz112_0, hfz112_1⟩ := cf2 BK534.out) | ((with_reducible refine gate_callee (f := 29) rfl ?_); refine goesL_ (some 32) rfl rfl Try.func29 (by kernel_rfl) rfl #[.agg #[.int .i64 t530, .slice Ao9 t531.length co9], .int .i64 0, .slice Ao110 t535.length co110] rfl ga ?_; (with_reducible refine (impl_SourceSide.calls kj4 t530 _ _ t531 0 _ _ t535 t541 _ ?side1 ?side2 ?side3 ?side4 A18.out).mono ?_); (case side1 => exact ck (Kd.R_reads' HO_535001.out).2.2); (case side2 => exact (Kd.R_reads' HO_535001.out).2.1); (case side3 => exact ck (Kd.R_reads' HO_4.out).2.2); (case side4 => exact (Kd.R_reads' HO_4.out).2.1); rintro e w113 ⟨v542, rfl, ho0, hb⟩; refine ⟨_, rfl, ?_⟩; have HO543 := Aside0.mk (Kd.R_lower ho0 (below_size bel)); replace HO_4 := Aside0.mk (Kd.R_below (rk HO_4.out) hb); replace HO_535001 := Aside0.mk (Kd.R_below (rk HO_535001.out) hb); replace BK534 := Aside0.mk (bb BK534.out hb); replace HB := Aside0.mk (below_step bel hb); (try clear hb); (try clear ho0); obtain ⟨hcz114_0, hcz114_1, hfz114_0, hfz114_1⟩ := cf2 BK534.out) | ((with_reducible refine gate_dst (N := 36) rfl ?_); refine Kd.R_make (Kd.int .i64) _ 3 rfl (N := 36) rfl 33 _ _ rfl (t531.length : Int) rfl rfl Try.underlying33 (.int .i64 0) 8 info3 rfl (by decide) (by omega) 0 (ok := fun _ => True) (okp := fun _ => True) rfl (fun _ hk => hk) trivial (asm) (Nat.le_trans (Nat.mul_le_mul_right _ (asm : (t531.length : Int).toNat ≤ 35184372088832)) (by omega)) (Below.refl _ _) (Nat.le_refl _) ?_; intro v545 w115 ho116 hb hg_ hnew_; clear hg_ hnew_; (first | rw [← Ny544.out] at ho116 | (simp only [Int.reduceToNat] at ho116; rw [← Ny544.out] at ho116)); have HO546 := Aside0.mk (Kd.R_lower (Kd.R_new' ho116 (Kd.R_lt (rk HO_4.out))) (below_size bel)); replace HO_4 := Aside0.mk (Kd.R_elder' (rk HO_4.out) (Kd.R_base ho116) hb); replace HO_535001 := Aside0.mk (Kd.R_below (rk HO_535001.out) hb); replace HO543 := Aside0.mk (Kd.R_below (rk HO543.out) hb); replace BK534 := Aside0.mk (bb BK534.out hb); replace HB := Aside0.mk (below_step bel hb); clear hb ho116; obtain ⟨Ao117, co117, eo117⟩ := Kd.R_slice HO543.out; subst eo117; obtain ⟨hcz118_0, hcz118_1, hfz118_0, hfz118_1⟩ := cf2 BK534.out))
                  go_ret
                  exact ⟨er, bel⟩
              · rw [if_neg c21] at H
                have c21b0 : decide (0 ≤ t540) = false := decide_eq_false c21
                clear c21
                obtain rfl := Option.some.inj H
                obtain ⟨hcz119_0, hcz119_1, hfz119_0, hfz119_1⟩ := cf2 BK534.out
                obtain ⟨Ao120, co120, eo120⟩ := Kd.R_slice HO_4.out
                subst eo120
                go_wp2_with (first | ((with_reducible refine gate_callee (f := 18) rfl ?_); refine goesL_ (some 29) rfl rfl Try.func18 (by kernel_rfl) rfl #[.agg #[.int .i64 t530, .slice Ao9 t531.length co9], .int .i64 0, .slice Ao120 t535.length co120] rfl ga ?_; (with_reducible refine (impl_FlowValue.calls kj4 t530 _ _ t531 0 _ _ t535 t540 _ ?side1 ?side2 ?side3 ?side4 A17.out).mono ?_); (case side1 => exact ck (Kd.R_reads' HO_535001.out).2.2); (case side2 => exact (Kd.R_reads' HO_535001.out).2.1); (case side3 => exact ck (Kd.R_reads' HO_4.out).2.2); (case side4 => exact (Kd.R_reads' HO_4.out).2.1); rintro e w121 ⟨rfl, hb⟩; refine ⟨_, rfl, ?_⟩; replace HO_4 := Aside0.mk (Kd.R_below (rk HO_4.out) hb); replace HO_535001 := Aside0.mk (Kd.R_below (rk HO_535001.out) hb); replace BK534 := Aside0.mk (bb BK534.out hb); replace HB := Aside0.mk (below_step bel hb); (try clear hb); obtain ⟨hcz122_0, hcz122_1, hfz122_0, hfz122_1⟩ := cf2 BK534.out) | ((with_reducible refine gate_callee (f := 29) rfl ?_); refine goesL_ (some 32) rfl rfl Try.func29 (by kernel_rfl) rfl #[.agg #[.int .i64 t530, .slice Ao9 t531.length co9], .int .i64 0, .slice Ao120 t535.length co120] rfl ga ?_; (with_reducible refine (impl_SourceSide.calls kj4 t530 _ _ t531 0 _ _ t535 t541 _ ?side1 ?side2 ?side3 ?side4 A18.out).mono ?_); (case side1 => exact ck (Kd.R_reads' HO_535001.out).2.2); (case side2 => exact (Kd.R_reads' HO_535001.out).2.1); (case side3 => exact ck (Kd.R_reads' HO_4.out).2.2); (case side4 => exact (Kd.R_reads' HO_4.out).2.1); rintro e w123 ⟨v542, rfl, ho0, hb⟩; refine ⟨_, rfl, ?_⟩; have HO543 := Aside0.mk (Kd.R_lower ho0 (below_size bel)); replace HO_4 := Aside0.mk (Kd.R_below (rk HO_4.out) hb); replace HO_535001 := Aside0.mk (Kd.R_below (rk HO_535001.out) hb); replace BK534 := Aside0.mk (bb BK534.out hb); replace HB := Aside0.mk (below_step bel hb); (try clear hb); (try clear ho0); obtain ⟨hcz124_0, hcz124_1, hfz124_0, hfz124_1⟩ := cf2 BK534.out) | ((with_reducible refine gate_dst (N := 36) rfl ?_); refine Kd.R_make (Kd.int .i64) _ 3 rfl (N := 36) rfl 33 _ _ rfl (t531.length : Int) rfl rfl Try.underlying33 (.int .i64 0) 8 info3 rfl (by decide) (by omega) 0 (ok := fun _ => True) (okp := fun _ => True) rfl (fun _ hk => hk) trivial (asm) (Nat.le_trans (Nat.mul_le_mul_right _ (asm : (t531.length : Int).toNat ≤ 35184372088832)) (by omega)) (Below.refl _ _) (Nat.le_refl _) ?_; intro v545 w125 ho126 hb hg_ hnew_; clear hg_ hnew_; (first | rw [← Ny544.out] at ho126 | (simp only [Int.reduceToNat] at ho126; rw [← Ny544.out] at ho126)); have HO546 := Aside0.mk (Kd.R_lower (Kd.R_new' ho126 (Kd.R_lt (rk HO_4.out))) (below_size bel)); replace HO_4 := Aside0.mk (Kd.R_elder' (rk HO_4.out) (Kd.R_base ho126) hb); replace HO_535001 := Aside0.mk (Kd.R_below (rk HO_535001.out) hb); replace HO543 := Aside0.mk (Kd.R_below (rk HO543.out) hb); replace BK534 := Aside0.mk (bb BK534.out hb); replace HB := Aside0.mk (below_step bel hb); clear hb ho126))
                go_ret
                exact ⟨er, bel⟩
            · rw [if_neg c20] at H
              exact absurd H (by simp)
          · rw [if_neg c19] at H
            exact absurd H (by simp)

end Go.Proofs.Yteaemblallbgpaa.X
