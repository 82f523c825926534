-- Written by a program of this session (wip/xp.py, over the kit's print) out of the translation: functions, and the walks that show them.
import Derived.Test.YteaemblallbgpaaX0
import Derived.Test.YteaemblallbgpaaX4
namespace Go.Proofs.Yteaemblallbgpaa.X
open Go.RowKit Go.Proofs.YteaemblallbgpaaW.PrintWords Go.Proofs.YteaemblallbgpaaW.PrintLast Go.Proofs.YteaemblallbgpaaW.PrintMore
attribute [local go_sem] max2_int min2_int max_two min_two max_three min_three max_four min_four   -- for this text's walks alone
set_option linter.unusedVariables false
set_option linter.unusedSimpArgs false

/-! ### impl_CutLimit: function 22 -/
mutual
def impl_CutLimit.j0 : Nat → List Bool → Int → Bool → Int → List (S60) → Option (Int)
  | 0, _, _, _, _, _ => none
  | k + 1, x1, x5, x17, x220000, x220001 => if x17 = true then (some 0) else (impl_CutLimit.l0 k x1 x5 x220001 (x220001.length : Int) 0)
def impl_CutLimit.l0 : Nat → List Bool → Int → List (S60) → Int → Int → Option (Int)
  | 0, _, _, _, _, _ => none
  | k + 1, x1, x5, x19, x20, x21 => if x21 < x20 then (if 0 ≤ x21 then (if x21 < (x19.length : Int) then (if 0 ≤ ((rd_T60 x19 x21).f0) then (if ((rd_T60 x19 x21).f0) < (x1.length : Int) then (if rdOf false x1 ((rd_T60 x19 x21).f0) = true then (if 0 ≤ ((rd_T60 x19 x21).f1) then (if ((rd_T60 x19 x21).f1) < (x1.length : Int) then (if (rdOf false x1 ((rd_T60 x19 x21).f1) = true) then (impl_CutLimit.l0 k x1 x5 x19 x20 (wrap64 (x21 + 1))) else (impl_CutLimit.l0 k x1 (wrap64 (x5 + ((rd_T60 x19 x21).f2))) x19 x20 (wrap64 (x21 + 1)))) else (none)) else (none)) else (impl_CutLimit.l0 k x1 x5 x19 x20 (wrap64 (x21 + 1)))) else (none)) else (none)) else (none)) else (none)) else (some x5)
end
def impl_CutLimit.f (k : Nat) (a0_0 : Int) (l0_1 : List (S60)) (l1 : List Bool) : Option (Int) := (impl_NetOk.f k a0_0 l0_1).bind fun t220 => (if t220 = true then (impl_CutLimit.j0 k l1 0 ((l1.length : Int) != a0_0) a0_0 l0_1) else (impl_CutLimit.j0 k l1 0 true a0_0 l0_1))
theorem impl_CutLimit.mono_l : ∀ k, (∀ y0 y1 y2 y3 y4, LeO (impl_CutLimit.j0 k y0 y1 y2 y3 y4) (impl_CutLimit.j0 (k + 1) y0 y1 y2 y3 y4)) ∧ (∀ y0 y1 y2 y3 y4, LeO (impl_CutLimit.l0 k y0 y1 y2 y3 y4) (impl_CutLimit.l0 (k + 1) y0 y1 y2 y3 y4))
  | 0 => ⟨fun _ _ _ _ _ r h => by simp [impl_CutLimit.j0] at h, fun _ _ _ _ _ r h => by simp [impl_CutLimit.l0] at h⟩
  | k + 1 => by
    obtain ⟨ih0, ih1⟩ := impl_CutLimit.mono_l k
    refine ⟨?_, ?_⟩
    · intro y0 y1 y2 y3 y4
      unfold impl_CutLimit.j0
      repeat' first
      | (with_reducible exact ih0 _ _ _ _ _)
      | (with_reducible exact ih1 _ _ _ _ _)
      | (with_reducible exact impl_NetOk.mono _ _ _)
      | (with_reducible exact LeO.refl _)
      | (with_reducible exact LeO.none _)
      | (with_reducible refine LeO.ite ?_ ?_)
      | (with_reducible refine LeO.bind ?_ (fun _ => ?_))
      | exact ih0 _ _ _ _ _
      | exact ih1 _ _ _ _ _
      | exact impl_NetOk.mono _ _ _
      | exact LeO.none _
      | refine LeO.ite ?_ ?_
      | refine LeO.bind ?_ (fun _ => ?_)
    · intro y0 y1 y2 y3 y4
      unfold impl_CutLimit.l0
      repeat' first
      | (with_reducible exact ih0 _ _ _ _ _)
      | (with_reducible exact ih1 _ _ _ _ _)
      | (with_reducible exact impl_NetOk.mono _ _ _)
      | (with_reducible exact LeO.refl _)
      | (with_reducible exact LeO.none _)
      | (with_reducible refine LeO.ite ?_ ?_)
      | (with_reducible refine LeO.bind ?_ (fun _ => ?_))
      | exact ih0 _ _ _ _ _
      | exact ih1 _ _ _ _ _
      | exact impl_NetOk.mono _ _ _
      | exact LeO.none _
      | refine LeO.ite ?_ ?_
      | refine LeO.bind ?_ (fun _ => ?_)
theorem impl_CutLimit.mono : ∀ a0 a1 a2 k, LeO (impl_CutLimit.f k a0 a1 a2) (impl_CutLimit.f (k + 1) a0 a1 a2) := by
  intro a0 a1 a2 k
  obtain ⟨ih0, ih1⟩ := impl_CutLimit.mono_l k
  unfold impl_CutLimit.f
  repeat' first
      | (with_reducible exact ih0 _ _ _ _ _)
      | (with_reducible exact ih1 _ _ _ _ _)
      | (with_reducible exact impl_NetOk.mono _ _ _)
      | (with_reducible exact LeO.refl _)
      | (with_reducible exact LeO.none _)
      | (with_reducible refine LeO.ite ?_ ?_)
      | (with_reducible refine LeO.bind ?_ (fun _ => ?_))
      | exact ih0 _ _ _ _ _
      | exact ih1 _ _ _ _ _
      | exact impl_NetOk.mono _ _ _
      | exact LeO.none _
      | refine LeO.ite ?_ ?_
      | refine LeO.bind ?_ (fun _ => ?_)
set_option maxHeartbeats 8000000 in
set_option maxRecDepth 100000 in
theorem impl_CutLimit.calls (k : Nat) (a0_0 : Int) (A0_1 : Option Addr) (c0_1 : Nat) (l0_1 : List (S60)) (A1 : Option Addr) (c1 : Nat) (l1 : List Bool) (r : Int) (w : World) (hr0_1 : Kd.C k60 w A0_1 l0_1.length l0_1) (hc0_1 : l0_1.length ≤ c0_1) (hr1 : Kd.C Kd.bool w A1 l1.length l1) (hc1 : l1.length ≤ c1) (h : impl_CutLimit.f k a0_0 l0_1 l1 = some r) :
    Calls Try.prog 22 #[.agg #[.int .i64 a0_0, .slice A0_1 l0_1.length c0_1], .slice A1 l1.length c1] w fun e w' => e = .returned (.int .i64 r) ∧ Below w.heap.size w w' := by
  have hu29 := Try.underlying29
  have hu60 := Try.underlying60
  have HR0_1 := Aside0.mk hr0_1
  have HC0_1 := Aside0.mk hc0_1
  clear hr0_1 hc0_1
  have HR1 := Aside0.mk hr1
  have HC1 := Aside0.mk hc1
  clear hr1 hc1
  have HB := Aside0.mk (Below.refl w.heap.size w)
  have H : ((impl_NetOk.f k a0_0 l0_1).bind fun t220 => (if t220 = true then (impl_CutLimit.j0 k l1 0 ((l1.length : Int) != a0_0) a0_0 l0_1) else (impl_CutLimit.j0 k l1 0 true a0_0 l0_1))) = some r := h
  clear h
  have HC3 := Aside0.mk H
  clear H
  go_enter Try.func22, Try.ntmps22
  go_upto_region 2 with (first | ((with_reducible refine gate_dst (N := 2) rfl ?_); refine box_event ?hg (N := 2) ?hd (cs := #[.int .i64 a0_0, .slice A0_1 l0_1.length c0_1]) (t := 29) ?hr ?_; (case hd => rfl); (case hg => rfl); (case hr => first | (go_simp; done) | (go_simp; rfl)); intro gb219 hg w4 hbox hb; have BK219 := Aside0.mk (hbox); have GW219 := Aside0.mk ((bsz hg : w.heap.size ≤ gb219)); have GE219 := Aside0.mk ((bsz hg : w.heap.size ≤ gb219)); replace HB := Aside0.mk (below_step bel hb); clear hb hbox hg))
  (try simp only [Act.put, List.setIfInBounds_toArray, List.set_cons_zero, List.set_cons_succ])
  go_cut [17] (fun v17 wc => ∃ (kq : Nat) (x17_2 : Bool), v17 = .bool x17_2 ∧ Aside0 (impl_CutLimit.j0 kq l1 0 x17_2 a0_0 l0_1 = some r) ∧ Aside0 (kq ≤ k) ∧ Aside0 (wc.heap[gb219]? = some (.cells #[.int .i64 a0_0, (.slice A0_1 l0_1.length c0_1)] 29 (0, 0))) ∧ Aside0 (Below w.heap.size w wc))
  case first =>
    have H := HC3.out
    clear HC3
    replace H := Option.bind_eq_some_iff.mp H
    obtain ⟨t220, A50, H⟩ := H
    replace H : (if t220 = true then (impl_CutLimit.j0 k l1 0 ((l1.length : Int) != a0_0) a0_0 l0_1) else (impl_CutLimit.j0 k l1 0 true a0_0 l0_1)) = some r := H
    have A5 := Aside0.mk A50
    clear A50
    by_cases c6 : t220 = true
    · subst c6
      have H1 : (impl_CutLimit.j0 k l1 0 ((l1.length : Int) != a0_0) a0_0 l0_1) = some r := by rw [if_pos rfl] at H; exact H
      clear H
      have H := H1
      clear H1
      have H' := Aside0.mk H
      clear H
      obtain ⟨hcz7_0, hcz7_1, hfz7_0, hfz7_1⟩ := cf2 BK219.out
      go_wp2_with (first | ((with_reducible refine gate_callee (f := 14) rfl ?_); refine goesL_ (some 9) rfl rfl Try.func14 (by kernel_rfl) rfl #[.agg #[.int .i64 a0_0, .slice A0_1 l0_1.length c0_1]] rfl ga ?_; (with_reducible refine (impl_NetOk.calls k a0_0 _ _ l0_1 true _ ?side1 ?side2 A5.out).mono ?_); (case side1 => exact ck (Kd.C_below HR0_1.out HB.out)); (case side2 => exact HC0_1.out); rintro e w8 ⟨rfl, hb⟩; refine ⟨_, rfl, ?_⟩; replace BK219 := Aside0.mk (bb BK219.out hb); replace HB := Aside0.mk (below_step bel hb); (try clear hb); obtain ⟨hcz9_0, hcz9_1, hfz9_0, hfz9_1⟩ := cf2 BK219.out))
      go_meet
      case rel => exact ⟨_, (((l1.length : Int) != a0_0)), (es), H', ⟨by first | omega | exact Nat.le_refl _⟩, ⟨bk BK219.out⟩, ⟨bel⟩⟩
    · replace c6 := Bool.eq_false_iff.mpr c6
      subst c6
      have H1 : (impl_CutLimit.j0 k l1 0 true a0_0 l0_1) = some r := by rw [if_neg (show ¬ (false = true) by decide)] at H; exact H
      clear H
      have H := H1
      clear H1
      have H' := Aside0.mk H
      clear H
      obtain ⟨hcz10_0, hcz10_1, hfz10_0, hfz10_1⟩ := cf2 BK219.out
      go_wp2_with (first | ((with_reducible refine gate_callee (f := 14) rfl ?_); refine goesL_ (some 9) rfl rfl Try.func14 (by kernel_rfl) rfl #[.agg #[.int .i64 a0_0, .slice A0_1 l0_1.length c0_1]] rfl ga ?_; (with_reducible refine (impl_NetOk.calls k a0_0 _ _ l0_1 false _ ?side1 ?side2 A5.out).mono ?_); (case side1 => exact ck (Kd.C_below HR0_1.out HB.out)); (case side2 => exact HC0_1.out); rintro e w11 ⟨rfl, hb⟩; refine ⟨_, rfl, ?_⟩; replace BK219 := Aside0.mk (bb BK219.out hb); replace HB := Aside0.mk (below_step bel hb); (try clear hb)))
      go_meet
      case rel => exact ⟨_, (true), (es), H', ⟨by first | omega | exact Nat.le_refl _⟩, ⟨bk BK219.out⟩, ⟨bel⟩⟩
  case rest =>
    clear HC3
    try clear c1; try clear c2; try clear p2; try clear c6; try clear hcz10_0; try clear hcz10_1; try clear hcz7_0; try clear hcz7_1; try clear hcz9_0; try clear hcz9_1; try clear hfz10_0; try clear hfz10_1; try clear hfz7_0; try clear hfz7_1; try clear hfz9_0; try clear hfz9_1
    obtain ⟨kq, x17_2, rfl, HA, HJ2, BK219, HB⟩ := hcut
    cases kq with
    | zero => exact absurd HA.out (by simp [impl_CutLimit.j0])
    | succ kj2 =>
      have H := HA.out
      clear HA
      simp only [impl_CutLimit.j0] at H
      by_cases c12 : x17_2 = true
      · subst c12
        have H1 : (some 0) = some r := by rw [if_pos rfl] at H; exact H
        clear H
        have H := H1
        clear H1
        obtain rfl := Option.some.inj H
        go_wp2
        go_ret
        exact ⟨er, bel⟩
      · replace c12 := Bool.eq_false_iff.mpr c12
        subst c12
        have H1 : (impl_CutLimit.l0 kj2 l1 0 l0_1 (l0_1.length : Int) 0) = some r := by rw [if_neg (show ¬ (false = true) by decide)] at H; exact H
        clear H
        have H := H1
        clear H1
        have H' := Aside0.mk H
        clear H
        obtain ⟨hcz13_0, hcz13_1, hfz13_0, hfz13_1⟩ := cf2 BK219.out
        go_wp2
        go_loopg [5, 21] kj2 (fun kq v5 v21 w' => ∃ (x5_2 : Int) (x21_2 : Int), v5 = .int .i64 x5_2 ∧ v21 = .int .i64 x21_2 ∧ Aside0 (impl_CutLimit.l0 kq l1 x5_2 l0_1 (l0_1.length : Int) x21_2 = some r) ∧ Aside0 (kq ≤ kj2) ∧ Aside0 (w'.heap[gb219]? = some (.cells #[.int .i64 a0_0, (.slice A0_1 l0_1.length c0_1)] 29 (0, 0))) ∧ Aside0 (Below w.heap.size w w'))
        case atStart => exact ⟨(0), (0), (es), (es), H', ⟨Nat.le_refl _⟩, ⟨bk BK219.out⟩, ⟨bel⟩⟩
        case round =>
          clear H'
          try clear c1; try clear c2; try clear p2; try clear c6; try clear c12; try clear hcz10_0; try clear hcz10_1; try clear hcz13_0; try clear hcz13_1; try clear hcz7_0; try clear hcz7_1; try clear hcz9_0; try clear hcz9_1; try clear hfz10_0; try clear hfz10_1; try clear hfz13_0; try clear hfz13_1; try clear hfz7_0; try clear hfz7_1; try clear hfz9_0; try clear hfz9_1; try clear p2
          obtain ⟨x5_2, x21_2, rfl, rfl, HA, HK2, BK219, HB⟩ := hrel
          cases gk with
          | zero => exact absurd HA.out (by simp [impl_CutLimit.l0])
          | succ k2 =>
            have H := HA.out
            clear HA
            simp only [impl_CutLimit.l0] at H
            by_cases c14 : x21_2 < (l0_1.length : Int)
            · rw [if_pos c14] at H
              have c14b0 : decide (x21_2 < (l0_1.length : Int)) = true := decide_eq_true c14
              clear c14
              by_cases c15 : 0 ≤ x21_2
              · rw [if_pos c15] at H
                have c15b0 : decide (0 ≤ x21_2) = true := decide_eq_true c15
                clear c15
                by_cases c16 : x21_2 < (l0_1.length : Int)
                · rw [if_pos c16] at H
                  have c16b0 : decide (x21_2 < (l0_1.length : Int)) = true := decide_eq_true c16
                  clear c16
                  by_cases c17 : 0 ≤ ((rd_T60 l0_1 x21_2).f0)
                  · rw [if_pos c17] at H
                    have c17b0 : decide (0 ≤ ((rd_T60 l0_1 x21_2).f0)) = true := decide_eq_true c17
                    clear c17
                    by_cases c18 : ((rd_T60 l0_1 x21_2).f0) < (l1.length : Int)
                    · rw [if_pos c18] at H
                      have c18b0 : decide (((rd_T60 l0_1 x21_2).f0) < (l1.length : Int)) = true := decide_eq_true c18
                      clear c18
                      obtain ⟨bq19, hbq19⟩ : ∃ b_ : Bool, b_ = (rdOf false l1 ((rd_T60 l0_1 x21_2).f0)) := ⟨_, rfl⟩
                      replace H : (if bq19 = true then (if 0 ≤ ((rd_T60 l0_1 x21_2).f1) then (if ((rd_T60 l0_1 x21_2).f1) < (l1.length : Int) then (if (rdOf false l1 ((rd_T60 l0_1 x21_2).f1) = true) then (impl_CutLimit.l0 k2 l1 x5_2 l0_1 (l0_1.length : Int) (wrap64 (x21_2 + 1))) else (impl_CutLimit.l0 k2 l1 (wrap64 (x5_2 + ((rd_T60 l0_1 x21_2).f2))) l0_1 (l0_1.length : Int) (wrap64 (x21_2 + 1)))) else (none)) else (none)) else (impl_CutLimit.l0 k2 l1 x5_2 l0_1 (l0_1.length : Int) (wrap64 (x21_2 + 1)))) = some r := by rw [← hbq19] at H; exact H
                      have Nbq19 := Aside0.mk hbq19
                      clear hbq19
                      by_cases c20 : bq19 = true
                      · subst c20
                        have H1 : (if 0 ≤ ((rd_T60 l0_1 x21_2).f1) then (if ((rd_T60 l0_1 x21_2).f1) < (l1.length : Int) then (if (rdOf false l1 ((rd_T60 l0_1 x21_2).f1) = true) then (impl_CutLimit.l0 k2 l1 x5_2 l0_1 (l0_1.length : Int) (wrap64 (x21_2 + 1))) else (impl_CutLimit.l0 k2 l1 (wrap64 (x5_2 + ((rd_T60 l0_1 x21_2).f2))) l0_1 (l0_1.length : Int) (wrap64 (x21_2 + 1)))) else (none)) else (none)) = some r := by rw [if_pos rfl] at H; exact H
                        clear H
                        have H := H1
                        clear H1
                        by_cases c21 : 0 ≤ ((rd_T60 l0_1 x21_2).f1)
                        · rw [if_pos c21] at H
                          have c21b0 : decide (0 ≤ ((rd_T60 l0_1 x21_2).f1)) = true := decide_eq_true c21
                          clear c21
                          by_cases c22 : ((rd_T60 l0_1 x21_2).f1) < (l1.length : Int)
                          · rw [if_pos c22] at H
                            have c22b0 : decide (((rd_T60 l0_1 x21_2).f1) < (l1.length : Int)) = true := decide_eq_true c22
                            clear c22
                            obtain ⟨bq23, hbq23⟩ : ∃ b_ : Bool, b_ = (rdOf false l1 ((rd_T60 l0_1 x21_2).f1)) := ⟨_, rfl⟩
                            replace H : (if (bq23 = true) then (impl_CutLimit.l0 k2 l1 x5_2 l0_1 (l0_1.length : Int) (wrap64 (x21_2 + 1))) else (impl_CutLimit.l0 k2 l1 (wrap64 (x5_2 + ((rd_T60 l0_1 x21_2).f2))) l0_1 (l0_1.length : Int) (wrap64 (x21_2 + 1)))) = some r := by rw [← hbq23] at H; exact H
                            have Nbq23 := Aside0.mk hbq23
                            clear hbq23
                            by_cases c24 : (bq23 = true)
                            · subst c24
                              have H1 : (impl_CutLimit.l0 k2 l1 x5_2 l0_1 (l0_1.length : Int) (wrap64 (x21_2 + 1))) = some r := by rw [if_pos rfl] at H; exact H
                              clear H
                              have H := H1
                              clear H1
                              have H' := Aside0.mk H
                              clear H
                              have p221 : 0 ≤ (x21_2 : Int) := asm
                              have q221 : x21_2 < (l0_1.length : Int) := asm
                              obtain ⟨ad221, e221, hx221_0, hx221_1, hx221_2⟩ := at_T60 HR0_1.out x21_2 p221 q221
                              cases e221
                              replace hx221_0 := hcl HB.out hx221_0
                              replace hx221_1 := hcl HB.out hx221_1
                              replace hx221_2 := hcl HB.out hx221_2
                              replace p221 := eq_true p221
                              replace q221 := eq_true q221
                              go_wp2_with (first | ((with_reducible refine gate_dst (N := 7) rfl ?_); refine box_event ?hg (N := 7) ?hd (cs := #[.int .i64 0, .int .i64 0, .int .i64 0]) (t := 60) ?hr ?_; (case hd => rfl); (case hg => rfl); (case hr => first | (go_simp; done) | (go_simp; rfl)); intro gb222 hg w25 hbox hb; have BK222 := Aside0.mk (hbox); have GW222 := Aside0.mk ((bsz hg : w.heap.size ≤ gb222)); have GE222 := Aside0.mk ((bsz hg : w.heap.size ≤ gb222)); have NB219_222 := Aside0.mk ((nlt hg BK219.out : gb219 ≠ gb222)); have NB222_219 := Aside0.mk ((ngt hg BK219.out : gb222 ≠ gb219)); replace BK219 := Aside0.mk (bb BK219.out hb); replace HB := Aside0.mk (below_step bel hb); clear hb hbox hg; have hnb26 := NB222_219.out; have hnc26 := NB219_222.out; obtain ⟨hcz27_0, hcz27_1, hcz27_2, hfz27_0, hfz27_1, hfz27_2⟩ := cf3 BK222.out; have p223 : 0 ≤ (((rd_T60 l0_1 x21_2).f0) : Int) := asm; have q223 : ((rd_T60 l0_1 x21_2).f0) < (l1.length : Int) := asm; obtain ⟨ad223, e223, hx223_0⟩ := Kd.at_bool HR1.out ((rd_T60 l0_1 x21_2).f0) p223 q223; (try rw [← Nbq19.out] at hx223_0); (try rw [← Nbq23.out] at hx223_0); cases e223; have hn223_0 : ad223.block ≠ gb222 := Nat.ne_of_lt (Nat.lt_of_lt_of_le (by have := World.block_lt_of_cell? _ _ hx223_0; first | rwa [add_block] at this | exact this) GW222.out); have hn223_1 : ad223.block ≠ gb222 := Nat.ne_of_lt (Nat.lt_of_lt_of_le (by have := World.block_lt_of_cell? _ _ hx223_0; first | rwa [add_block] at this | exact this) GW222.out); have hn223_2 : ad223.block ≠ gb222 := Nat.ne_of_lt (Nat.lt_of_lt_of_le (by have := World.block_lt_of_cell? _ _ hx223_0; first | rwa [add_block] at this | exact this) GW222.out); replace hx223_0 := hcl HB.out hx223_0; replace hx223_0 := (cell_far (p := ⟨gb222, 0, none⟩) (by first | (rw [add_block]; exact hn223_0) | (show (Addr.add _ _).block ≠ _; rw [add_block]; exact hn223_0) | exact hn223_0) (.int .i64 ((rd_T60 l0_1 x21_2).f0))).trans hx223_0; replace hx223_0 := (cell_far (p := ⟨gb222, 1, none⟩) (by first | (rw [add_block]; exact hn223_1) | (show (Addr.add _ _).block ≠ _; rw [add_block]; exact hn223_1) | exact hn223_1) (.int .i64 ((rd_T60 l0_1 x21_2).f1))).trans hx223_0; replace hx223_0 := (cell_far (p := ⟨gb222, 2, none⟩) (by first | (rw [add_block]; exact hn223_2) | (show (Addr.add _ _).block ≠ _; rw [add_block]; exact hn223_2) | exact hn223_2) (.int .i64 ((rd_T60 l0_1 x21_2).f2))).trans hx223_0; clear hn223_0; clear hn223_1; clear hn223_2; replace p223 := eq_true p223; replace q223 := eq_true q223; have p224 : 0 ≤ (((rd_T60 l0_1 x21_2).f1) : Int) := asm; have q224 : ((rd_T60 l0_1 x21_2).f1) < (l1.length : Int) := asm; obtain ⟨ad224, e224, hx224_0⟩ := Kd.at_bool HR1.out ((rd_T60 l0_1 x21_2).f1) p224 q224; (try rw [← Nbq19.out] at hx224_0); (try rw [← Nbq23.out] at hx224_0); obtain rfl : ad223 = ad224 := (by injection e224); have hn224_0 : ad223.block ≠ gb222 := Nat.ne_of_lt (Nat.lt_of_lt_of_le (by have := World.block_lt_of_cell? _ _ hx224_0; first | rwa [add_block] at this | exact this) GW222.out); have hn224_1 : ad223.block ≠ gb222 := Nat.ne_of_lt (Nat.lt_of_lt_of_le (by have := World.block_lt_of_cell? _ _ hx224_0; first | rwa [add_block] at this | exact this) GW222.out); have hn224_2 : ad223.block ≠ gb222 := Nat.ne_of_lt (Nat.lt_of_lt_of_le (by have := World.block_lt_of_cell? _ _ hx224_0; first | rwa [add_block] at this | exact this) GW222.out); replace hx224_0 := hcl HB.out hx224_0; replace hx224_0 := (cell_far (p := ⟨gb222, 0, none⟩) (by first | (rw [add_block]; exact hn224_0) | (show (Addr.add _ _).block ≠ _; rw [add_block]; exact hn224_0) | exact hn224_0) (.int .i64 ((rd_T60 l0_1 x21_2).f0))).trans hx224_0; replace hx224_0 := (cell_far (p := ⟨gb222, 1, none⟩) (by first | (rw [add_block]; exact hn224_1) | (show (Addr.add _ _).block ≠ _; rw [add_block]; exact hn224_1) | exact hn224_1) (.int .i64 ((rd_T60 l0_1 x21_2).f1))).trans hx224_0; replace hx224_0 := (cell_far (p := ⟨gb222, 2, none⟩) (by first | (rw [add_block]; exact hn224_2) | (show (Addr.add _ _).block ≠ _; rw [add_block]; exact hn224_2) | exact hn224_2) (.int .i64 ((rd_T60 l0_1 x21_2).f2))).trans hx224_0; clear hn224_0; clear hn224_1; clear hn224_2; replace p224 := eq_true p224; replace q224 := eq_true q224))
                              go_roundg k2
                              case measure => have := HJ2.out; have := HK2.out; omega
                              case rel => exact ⟨(x5_2), (wrap64 (x21_2 + 1)), (es), (es), H', ⟨by have := HJ2.out; have := HK2.out; omega⟩, ⟨bk BK219.out⟩, ⟨bel⟩⟩
                            · replace c24 := Bool.eq_false_iff.mpr c24
                              subst c24
                              have H1 : (impl_CutLimit.l0 k2 l1 (wrap64 (x5_2 + ((rd_T60 l0_1 x21_2).f2))) l0_1 (l0_1.length : Int) (wrap64 (x21_2 + 1))) = some r := by rw [if_neg (show ¬ (false = true) by decide)] at H; exact H
                              clear H
                              have H := H1
                              clear H1
                              have H' := Aside0.mk H
                              clear H
                              have p221 : 0 ≤ (x21_2 : Int) := asm
                              have q221 : x21_2 < (l0_1.length : Int) := asm
                              obtain ⟨ad221, e221, hx221_0, hx221_1, hx221_2⟩ := at_T60 HR0_1.out x21_2 p221 q221
                              cases e221
                              replace hx221_0 := hcl HB.out hx221_0
                              replace hx221_1 := hcl HB.out hx221_1
                              replace hx221_2 := hcl HB.out hx221_2
                              replace p221 := eq_true p221
                              replace q221 := eq_true q221
                              go_wp2_with (first | ((with_reducible refine gate_dst (N := 7) rfl ?_); refine box_event ?hg (N := 7) ?hd (cs := #[.int .i64 0, .int .i64 0, .int .i64 0]) (t := 60) ?hr ?_; (case hd => rfl); (case hg => rfl); (case hr => first | (go_simp; done) | (go_simp; rfl)); intro gb222 hg w28 hbox hb; have BK222 := Aside0.mk (hbox); have GW222 := Aside0.mk ((bsz hg : w.heap.size ≤ gb222)); have GE222 := Aside0.mk ((bsz hg : w.heap.size ≤ gb222)); have NB219_222 := Aside0.mk ((nlt hg BK219.out : gb219 ≠ gb222)); have NB222_219 := Aside0.mk ((ngt hg BK219.out : gb222 ≠ gb219)); replace BK219 := Aside0.mk (bb BK219.out hb); replace HB := Aside0.mk (below_step bel hb); clear hb hbox hg; have hnb29 := NB222_219.out; have hnc29 := NB219_222.out; obtain ⟨hcz30_0, hcz30_1, hcz30_2, hfz30_0, hfz30_1, hfz30_2⟩ := cf3 BK222.out; have p223 : 0 ≤ (((rd_T60 l0_1 x21_2).f0) : Int) := asm; have q223 : ((rd_T60 l0_1 x21_2).f0) < (l1.length : Int) := asm; obtain ⟨ad223, e223, hx223_0⟩ := Kd.at_bool HR1.out ((rd_T60 l0_1 x21_2).f0) p223 q223; (try rw [← Nbq19.out] at hx223_0); (try rw [← Nbq23.out] at hx223_0); cases e223; have hn223_0 : ad223.block ≠ gb222 := Nat.ne_of_lt (Nat.lt_of_lt_of_le (by have := World.block_lt_of_cell? _ _ hx223_0; first | rwa [add_block] at this | exact this) GW222.out); have hn223_1 : ad223.block ≠ gb222 := Nat.ne_of_lt (Nat.lt_of_lt_of_le (by have := World.block_lt_of_cell? _ _ hx223_0; first | rwa [add_block] at this | exact this) GW222.out); have hn223_2 : ad223.block ≠ gb222 := Nat.ne_of_lt (Nat.lt_of_lt_of_le (by have := World.block_lt_of_cell? _ _ hx223_0; first | rwa [add_block] at this | exact this) GW222.out); replace hx223_0 := hcl HB.out hx223_0; replace hx223_0 := (cell_far (p := ⟨gb222, 0, none⟩) (by first | (rw [add_block]; exact hn223_0) | (show (Addr.add _ _).block ≠ _; rw [add_block]; exact hn223_0) | exact hn223_0) (.int .i64 ((rd_T60 l0_1 x21_2).f0))).trans hx223_0; replace hx223_0 := (cell_far (p := ⟨gb222, 1, none⟩) (by first | (rw [add_block]; exact hn223_1) | (show (Addr.add _ _).block ≠ _; rw [add_block]; exact hn223_1) | exact hn223_1) (.int .i64 ((rd_T60 l0_1 x21_2).f1))).trans hx223_0; replace hx223_0 := (cell_far (p := ⟨gb222, 2, none⟩) (by first | (rw [add_block]; exact hn223_2) | (show (Addr.add _ _).block ≠ _; rw [add_block]; exact hn223_2) | exact hn223_2) (.int .i64 ((rd_T60 l0_1 x21_2).f2))).trans hx223_0; clear hn223_0; clear hn223_1; clear hn223_2; replace p223 := eq_true p223; replace q223 := eq_true q223; have p224 : 0 ≤ (((rd_T60 l0_1 x21_2).f1) : Int) := asm; have q224 : ((rd_T60 l0_1 x21_2).f1) < (l1.length : Int) := asm; obtain ⟨ad224, e224, hx224_0⟩ := Kd.at_bool HR1.out ((rd_T60 l0_1 x21_2).f1) p224 q224; (try rw [← Nbq19.out] at hx224_0); (try rw [← Nbq23.out] at hx224_0); obtain rfl : ad223 = ad224 := (by injection e224); have hn224_0 : ad223.block ≠ gb222 := Nat.ne_of_lt (Nat.lt_of_lt_of_le (by have := World.block_lt_of_cell? _ _ hx224_0; first | rwa [add_block] at this | exact this) GW222.out); have hn224_1 : ad223.block ≠ gb222 := Nat.ne_of_lt (Nat.lt_of_lt_of_le (by have := World.block_lt_of_cell? _ _ hx224_0; first | rwa [add_block] at this | exact this) GW222.out); have hn224_2 : ad223.block ≠ gb222 := Nat.ne_of_lt (Nat.lt_of_lt_of_le (by have := World.block_lt_of_cell? _ _ hx224_0; first | rwa [add_block] at this | exact this) GW222.out); replace hx224_0 := hcl HB.out hx224_0; replace hx224_0 := (cell_far (p := ⟨gb222, 0, none⟩) (by first | (rw [add_block]; exact hn224_0) | (show (Addr.add _ _).block ≠ _; rw [add_block]; exact hn224_0) | exact hn224_0) (.int .i64 ((rd_T60 l0_1 x21_2).f0))).trans hx224_0; replace hx224_0 := (cell_far (p := ⟨gb222, 1, none⟩) (by first | (rw [add_block]; exact hn224_1) | (show (Addr.add _ _).block ≠ _; rw [add_block]; exact hn224_1) | exact hn224_1) (.int .i64 ((rd_T60 l0_1 x21_2).f1))).trans hx224_0; replace hx224_0 := (cell_far (p := ⟨gb222, 2, none⟩) (by first | (rw [add_block]; exact hn224_2) | (show (Addr.add _ _).block ≠ _; rw [add_block]; exact hn224_2) | exact hn224_2) (.int .i64 ((rd_T60 l0_1 x21_2).f2))).trans hx224_0; clear hn224_0; clear hn224_1; clear hn224_2; replace p224 := eq_true p224; replace q224 := eq_true q224))
                              go_roundg k2
                              case measure => have := HJ2.out; have := HK2.out; omega
                              case rel => exact ⟨(wrap64 (x5_2 + ((rd_T60 l0_1 x21_2).f2))), (wrap64 (x21_2 + 1)), (es), (es), H', ⟨by have := HJ2.out; have := HK2.out; omega⟩, ⟨bk BK219.out⟩, ⟨bel⟩⟩
                          · rw [if_neg c22] at H
                            exact absurd H (by simp)
                        · rw [if_neg c21] at H
                          exact absurd H (by simp)
                      · replace c20 := Bool.eq_false_iff.mpr c20
                        subst c20
                        have H1 : (impl_CutLimit.l0 k2 l1 x5_2 l0_1 (l0_1.length : Int) (wrap64 (x21_2 + 1))) = some r := by rw [if_neg (show ¬ (false = true) by decide)] at H; exact H
                        clear H
                        have H := H1
                        clear H1
                        have H' := Aside0.mk H
                        clear H
                        have p221 : 0 ≤ (x21_2 : Int) := asm
                        have q221 : x21_2 < (l0_1.length : Int) := asm
                        obtain ⟨ad221, e221, hx221_0, hx221_1, hx221_2⟩ := at_T60 HR0_1.out x21_2 p221 q221
                        cases e221
                        replace hx221_0 := hcl HB.out hx221_0
                        replace hx221_1 := hcl HB.out hx221_1
                        replace hx221_2 := hcl HB.out hx221_2
                        replace p221 := eq_true p221
                        replace q221 := eq_true q221
                        go_wp2_with (first | ((with_reducible refine gate_dst (N := 7) rfl ?_); refine box_event ?hg (N := 7) ?hd (cs := #[.int .i64 0, .int .i64 0, .int .i64 0]) (t := 60) ?hr ?_; (case hd => rfl); (case hg => rfl); (case hr => first | (go_simp; done) | (go_simp; rfl)); intro gb222 hg w31 hbox hb; have BK222 := Aside0.mk (hbox); have GW222 := Aside0.mk ((bsz hg : w.heap.size ≤ gb222)); have GE222 := Aside0.mk ((bsz hg : w.heap.size ≤ gb222)); have NB219_222 := Aside0.mk ((nlt hg BK219.out : gb219 ≠ gb222)); have NB222_219 := Aside0.mk ((ngt hg BK219.out : gb222 ≠ gb219)); replace BK219 := Aside0.mk (bb BK219.out hb); replace HB := Aside0.mk (below_step bel hb); clear hb hbox hg; have hnb32 := NB222_219.out; have hnc32 := NB219_222.out; obtain ⟨hcz33_0, hcz33_1, hcz33_2, hfz33_0, hfz33_1, hfz33_2⟩ := cf3 BK222.out; have p223 : 0 ≤ (((rd_T60 l0_1 x21_2).f0) : Int) := asm; have q223 : ((rd_T60 l0_1 x21_2).f0) < (l1.length : Int) := asm; obtain ⟨ad223, e223, hx223_0⟩ := Kd.at_bool HR1.out ((rd_T60 l0_1 x21_2).f0) p223 q223; (try rw [← Nbq19.out] at hx223_0); cases e223; have hn223_0 : ad223.block ≠ gb222 := Nat.ne_of_lt (Nat.lt_of_lt_of_le (by have := World.block_lt_of_cell? _ _ hx223_0; first | rwa [add_block] at this | exact this) GW222.out); have hn223_1 : ad223.block ≠ gb222 := Nat.ne_of_lt (Nat.lt_of_lt_of_le (by have := World.block_lt_of_cell? _ _ hx223_0; first | rwa [add_block] at this | exact this) GW222.out); have hn223_2 : ad223.block ≠ gb222 := Nat.ne_of_lt (Nat.lt_of_lt_of_le (by have := World.block_lt_of_cell? _ _ hx223_0; first | rwa [add_block] at this | exact this) GW222.out); replace hx223_0 := hcl HB.out hx223_0; replace hx223_0 := (cell_far (p := ⟨gb222, 0, none⟩) (by first | (rw [add_block]; exact hn223_0) | (show (Addr.add _ _).block ≠ _; rw [add_block]; exact hn223_0) | exact hn223_0) (.int .i64 ((rd_T60 l0_1 x21_2).f0))).trans hx223_0; replace hx223_0 := (cell_far (p := ⟨gb222, 1, none⟩) (by first | (rw [add_block]; exact hn223_1) | (show (Addr.add _ _).block ≠ _; rw [add_block]; exact hn223_1) | exact hn223_1) (.int .i64 ((rd_T60 l0_1 x21_2).f1))).trans hx223_0; replace hx223_0 := (cell_far (p := ⟨gb222, 2, none⟩) (by first | (rw [add_block]; exact hn223_2) | (show (Addr.add _ _).block ≠ _; rw [add_block]; exact hn223_2) | exact hn223_2) (.int .i64 ((rd_T60 l0_1 x21_2).f2))).trans hx223_0; clear hn223_0; clear hn223_1; clear hn223_2; replace p223 := eq_true p223; replace q223 := eq_true q223))
                        go_roundg k2
                        case measure => have := HJ2.out; have := HK2.out; omega
                        case rel => exact ⟨(x5_2), (wrap64 (x21_2 + 1)), (es), (es), H', ⟨by have := HJ2.out; have := HK2.out; omega⟩, ⟨bk BK219.out⟩, ⟨bel⟩⟩
                    · rw [if_neg c18] at H
                      exact absurd H (by simp)
                  · rw [if_neg c17] at H
                    exact absurd H (by simp)
                · rw [if_neg c16] at H
                  exact absurd H (by simp)
              · rw [if_neg c15] at H
                exact absurd H (by simp)
            · rw [if_neg c14] at H
              have c14b0 : decide (x21_2 < (l0_1.length : Int)) = false := decide_eq_false c14
              clear c14
              obtain rfl := Option.some.inj H
              go_wp2
              go_ret
              exact ⟨er, bel⟩

end Go.Proofs.Yteaemblallbgpaa.X
