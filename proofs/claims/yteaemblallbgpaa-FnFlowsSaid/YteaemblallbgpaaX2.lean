-- Written by a program of this session (wip/xp.py, over the kit's print) out of the translation: functions, and the walks that show them.
import Derived.Test.YteaemblallbgpaaX0
import Derived.Test.YteaemblallbgpaaX1
namespace Go.Proofs.Yteaemblallbgpaa.X
open Go.RowKit Go.Proofs.YteaemblallbgpaaW.PrintWords Go.Proofs.YteaemblallbgpaaW.PrintLast Go.Proofs.YteaemblallbgpaaW.PrintMore
attribute [local go_sem] max2_int min2_int max_two min_two max_three min_three max_four min_four   -- for this text's walks alone
set_option linter.unusedVariables false
set_option linter.unusedSimpArgs false

/-! ### spec_NetOk: function 12 -/
mutual
def spec_NetOk.j0 : Nat → Bool → Int → List (S60) → Option (Bool)
  | 0, _, _, _ => none
  | k + 1, x14, x104000, x104001 => if x14 = true then (some false) else (spec_NetOk.l0 k x104001 (x104001.length : Int) 0 x104000 x104001)
def spec_NetOk.l0 : Nat → List (S60) → Int → Int → Int → List (S60) → Option (Bool)
  | 0, _, _, _, _, _ => none
  | k + 1, x16, x17, x18, x104000, x104001 => if x18 < x17 then (if 0 ≤ x18 then (if x18 < (x16.length : Int) then ((spec_l01In.f ((rd_T60 x16 x18).f0) 0 (wrap64 (x104000 - 1))).bind fun t107 => (if t107 = true then ((spec_l01In.f ((rd_T60 x16 x18).f1) 0 (wrap64 (x104000 - 1))).bind fun t108 => (if t108 = true then (if ((rd_T60 x16 x18).f0) = ((rd_T60 x16 x18).f1) then (some false) else ((spec_l01In.f ((rd_T60 x16 x18).f2) 0 1000).bind fun t109 => (if t109 = true then (spec_NetOk.l0 k x16 x17 (wrap64 (x18 + 1)) x104000 x104001) else (some false)))) else (some false))) else (some false))) else (none)) else (none)) else (some true)
end
def spec_NetOk.f (k : Nat) (a0_0 : Int) (l0_1 : List (S60)) : Option (Bool) := (spec_l01In.f a0_0 2 40).bind fun t104 => (if t104 = true then (spec_NetOk.j0 k (decide ((l0_1.length : Int) > 120)) a0_0 l0_1) else (spec_NetOk.j0 k true a0_0 l0_1))
theorem spec_NetOk.mono_l : ∀ k, (∀ y0 y1 y2, LeO (spec_NetOk.j0 k y0 y1 y2) (spec_NetOk.j0 (k + 1) y0 y1 y2)) ∧ (∀ y0 y1 y2 y3 y4, LeO (spec_NetOk.l0 k y0 y1 y2 y3 y4) (spec_NetOk.l0 (k + 1) y0 y1 y2 y3 y4))
  | 0 => ⟨fun _ _ _ r h => by simp [spec_NetOk.j0] at h, fun _ _ _ _ _ r h => by simp [spec_NetOk.l0] at h⟩
  | k + 1 => by
    obtain ⟨ih0, ih1⟩ := spec_NetOk.mono_l k
    refine ⟨?_, ?_⟩
    · intro y0 y1 y2
      unfold spec_NetOk.j0
      repeat' first
      | (with_reducible exact ih0 _ _ _)
      | (with_reducible exact ih1 _ _ _ _ _)
      | (with_reducible exact LeO.refl _)
      | (with_reducible exact LeO.none _)
      | (with_reducible refine LeO.ite ?_ ?_)
      | (with_reducible refine LeO.bind ?_ (fun _ => ?_))
      | exact ih0 _ _ _
      | exact ih1 _ _ _ _ _
      | exact LeO.none _
      | refine LeO.ite ?_ ?_
      | refine LeO.bind ?_ (fun _ => ?_)
    · intro y0 y1 y2 y3 y4
      unfold spec_NetOk.l0
      repeat' first
      | (with_reducible exact ih0 _ _ _)
      | (with_reducible exact ih1 _ _ _ _ _)
      | (with_reducible exact LeO.refl _)
      | (with_reducible exact LeO.none _)
      | (with_reducible refine LeO.ite ?_ ?_)
      | (with_reducible refine LeO.bind ?_ (fun _ => ?_))
      | exact ih0 _ _ _
      | exact ih1 _ _ _ _ _
      | exact LeO.none _
      | refine LeO.ite ?_ ?_
      | refine LeO.bind ?_ (fun _ => ?_)
theorem spec_NetOk.mono : ∀ a0 a1 k, LeO (spec_NetOk.f k a0 a1) (spec_NetOk.f (k + 1) a0 a1) := by
  intro a0 a1 k
  obtain ⟨ih0, ih1⟩ := spec_NetOk.mono_l k
  unfold spec_NetOk.f
  repeat' first
      | (with_reducible exact ih0 _ _ _)
      | (with_reducible exact ih1 _ _ _ _ _)
      | (with_reducible exact LeO.refl _)
      | (with_reducible exact LeO.none _)
      | (with_reducible refine LeO.ite ?_ ?_)
      | (with_reducible refine LeO.bind ?_ (fun _ => ?_))
      | exact ih0 _ _ _
      | exact ih1 _ _ _ _ _
      | exact LeO.none _
      | refine LeO.ite ?_ ?_
      | refine LeO.bind ?_ (fun _ => ?_)
set_option maxHeartbeats 8000000 in
set_option maxRecDepth 100000 in
theorem spec_NetOk.calls (k : Nat) (a0_0 : Int) (A0_1 : Option Addr) (c0_1 : Nat) (l0_1 : List (S60)) (r : Bool) (w : World) (hr0_1 : Kd.C k60 w A0_1 l0_1.length l0_1) (hc0_1 : l0_1.length ≤ c0_1) (h : spec_NetOk.f k a0_0 l0_1 = some r) :
    Calls Try.prog 12 #[.agg #[.int .i64 a0_0, .slice A0_1 l0_1.length c0_1]] w fun e w' => e = .returned (.bool r) ∧ Below w.heap.size w w' := by
  have hu29 := Try.underlying29
  have hu60 := Try.underlying60
  have HR0_1 := Aside0.mk hr0_1
  have HC0_1 := Aside0.mk hc0_1
  clear hr0_1 hc0_1
  have HB := Aside0.mk (Below.refl w.heap.size w)
  have H : ((spec_l01In.f a0_0 2 40).bind fun t104 => (if t104 = true then (spec_NetOk.j0 k (decide ((l0_1.length : Int) > 120)) a0_0 l0_1) else (spec_NetOk.j0 k true a0_0 l0_1))) = some r := h
  clear h
  have HC2 := Aside0.mk H
  clear H
  go_enter Try.func12, Try.ntmps12
  go_upto_region 1 with (first | ((with_reducible refine gate_dst (N := 1) rfl ?_); refine box_event ?hg (N := 1) ?hd (cs := #[.int .i64 a0_0, .slice A0_1 l0_1.length c0_1]) (t := 29) ?hr ?_; (case hd => rfl); (case hg => rfl); (case hr => first | (go_simp; done) | (go_simp; rfl)); intro gb103 hg w3 hbox hb; have BK103 := Aside0.mk (hbox); have GW103 := Aside0.mk ((bsz hg : w.heap.size ≤ gb103)); have GE103 := Aside0.mk ((bsz hg : w.heap.size ≤ gb103)); replace HB := Aside0.mk (below_step bel hb); clear hb hbox hg))
  (try simp only [Act.put, List.setIfInBounds_toArray, List.set_cons_zero, List.set_cons_succ])
  go_cut [14] (fun v14 wc => ∃ (kq : Nat) (x14_1 : Bool), v14 = .bool x14_1 ∧ Aside0 (spec_NetOk.j0 kq x14_1 a0_0 l0_1 = some r) ∧ Aside0 (kq ≤ k) ∧ Aside0 (wc.heap[gb103]? = some (.cells #[.int .i64 a0_0, (.slice A0_1 l0_1.length c0_1)] 29 (0, 0))) ∧ Aside0 (Below w.heap.size w wc))
  case first =>
    have H := HC2.out
    clear HC2
    replace H := Option.bind_eq_some_iff.mp H
    obtain ⟨t104, A40, H⟩ := H
    replace H : (if t104 = true then (spec_NetOk.j0 k (decide ((l0_1.length : Int) > 120)) a0_0 l0_1) else (spec_NetOk.j0 k true a0_0 l0_1)) = some r := H
    have A4 := Aside0.mk A40
    clear A40
    by_cases c5 : t104 = true
    · subst c5
      have H1 : (spec_NetOk.j0 k (decide ((l0_1.length : Int) > 120)) a0_0 l0_1) = some r := by rw [if_pos rfl] at H; exact H
      clear H
      have H := H1
      clear H1
      have H' := Aside0.mk H
      clear H
      obtain ⟨hcz6_0, hcz6_1, hfz6_0, hfz6_1⟩ := cf2 BK103.out
      go_wp2_with (first | ((with_reducible refine gate_callee (f := 39) rfl ?_); refine goesL_ (some 7) rfl rfl Try.func39 (by kernel_rfl) rfl #[.int .i64 a0_0, .int .i64 2, .int .i64 40] rfl ga ?_; (with_reducible refine (spec_l01In.calls a0_0 2 40 true _ A4.out).mono ?_); rintro e w' ⟨rfl, ⟨nd, rfl⟩⟩; refine ⟨_, rfl, ?_⟩))
      go_meet
      case rel => exact ⟨_, (decide ((l0_1.length : Int) > 120)), (es), H', ⟨by first | omega | exact Nat.le_refl _⟩, ⟨bk BK103.out⟩, ⟨bel⟩⟩
    · replace c5 := Bool.eq_false_iff.mpr c5
      subst c5
      have H1 : (spec_NetOk.j0 k true a0_0 l0_1) = some r := by rw [if_neg (show ¬ (false = true) by decide)] at H; exact H
      clear H
      have H := H1
      clear H1
      have H' := Aside0.mk H
      clear H
      obtain ⟨hcz7_0, hcz7_1, hfz7_0, hfz7_1⟩ := cf2 BK103.out
      go_wp2_with (first | ((with_reducible refine gate_callee (f := 39) rfl ?_); refine goesL_ (some 7) rfl rfl Try.func39 (by kernel_rfl) rfl #[.int .i64 a0_0, .int .i64 2, .int .i64 40] rfl ga ?_; (with_reducible refine (spec_l01In.calls a0_0 2 40 false _ A4.out).mono ?_); rintro e w' ⟨rfl, ⟨nd, rfl⟩⟩; refine ⟨_, rfl, ?_⟩))
      go_meet
      case rel => exact ⟨_, (true), (es), H', ⟨by first | omega | exact Nat.le_refl _⟩, ⟨bk BK103.out⟩, ⟨bel⟩⟩
  case rest =>
    clear HC2
    try clear c1; try clear p2; try clear c3; try clear c5; try clear hcz6_0; try clear hcz6_1; try clear hcz7_0; try clear hcz7_1; try clear hfz6_0; try clear hfz6_1; try clear hfz7_0; try clear hfz7_1
    obtain ⟨kq, x14_1, rfl, HA, HJ1, BK103, HB⟩ := hcut
    cases kq with
    | zero => exact absurd HA.out (by simp [spec_NetOk.j0])
    | succ kj1 =>
      have H := HA.out
      clear HA
      simp only [spec_NetOk.j0] at H
      by_cases c8 : x14_1 = true
      · subst c8
        have H1 : (some false) = some r := by rw [if_pos rfl] at H; exact H
        clear H
        have H := H1
        clear H1
        obtain rfl := Option.some.inj H
        go_wp2
        go_ret
        exact ⟨er, bel⟩
      · replace c8 := Bool.eq_false_iff.mpr c8
        subst c8
        have H1 : (spec_NetOk.l0 kj1 l0_1 (l0_1.length : Int) 0 a0_0 l0_1) = some r := by rw [if_neg (show ¬ (false = true) by decide)] at H; exact H
        clear H
        have H := H1
        clear H1
        have H' := Aside0.mk H
        clear H
        obtain ⟨hcz9_0, hcz9_1, hfz9_0, hfz9_1⟩ := cf2 BK103.out
        go_wp2
        go_loopg [18] kj1 (fun kq v18 w' => ∃ (x18_2 : Int), v18 = .int .i64 x18_2 ∧ Aside0 (spec_NetOk.l0 kq l0_1 (l0_1.length : Int) x18_2 a0_0 l0_1 = some r) ∧ Aside0 (kq ≤ kj1) ∧ Aside0 (w'.heap[gb103]? = some (.cells #[.int .i64 a0_0, (.slice A0_1 l0_1.length c0_1)] 29 (0, 0))) ∧ Aside0 (Below w.heap.size w w'))
        case atStart => exact ⟨(0), (es), H', ⟨Nat.le_refl _⟩, ⟨bk BK103.out⟩, ⟨bel⟩⟩
        case round =>
          clear H'
          try clear c1; try clear p2; try clear c3; try clear c5; try clear c8; try clear hcz6_0; try clear hcz6_1; try clear hcz7_0; try clear hcz7_1; try clear hcz9_0; try clear hcz9_1; try clear hfz6_0; try clear hfz6_1; try clear hfz7_0; try clear hfz7_1; try clear hfz9_0; try clear hfz9_1; try clear p2
          obtain ⟨x18_2, rfl, HA, HK2, BK103, HB⟩ := hrel
          cases gk with
          | zero => exact absurd HA.out (by simp [spec_NetOk.l0])
          | succ k2 =>
            have H := HA.out
            clear HA
            simp only [spec_NetOk.l0] at H
            by_cases c10 : x18_2 < (l0_1.length : Int)
            · rw [if_pos c10] at H
              have c10b0 : decide (x18_2 < (l0_1.length : Int)) = true := decide_eq_true c10
              clear c10
              by_cases c11 : 0 ≤ x18_2
              · rw [if_pos c11] at H
                have c11b0 : decide (0 ≤ x18_2) = true := decide_eq_true c11
                clear c11
                by_cases c12 : x18_2 < (l0_1.length : Int)
                · rw [if_pos c12] at H
                  have c12b0 : decide (x18_2 < (l0_1.length : Int)) = true := decide_eq_true c12
                  clear c12
                  replace H := Option.bind_eq_some_iff.mp H
                  obtain ⟨t107, A130, H⟩ := H
                  replace H : (if t107 = true then ((spec_l01In.f ((rd_T60 l0_1 x18_2).f1) 0 (wrap64 (a0_0 - 1))).bind fun t108 => (if t108 = true then (if ((rd_T60 l0_1 x18_2).f0) = ((rd_T60 l0_1 x18_2).f1) then (some false) else ((spec_l01In.f ((rd_T60 l0_1 x18_2).f2) 0 1000).bind fun t109 => (if t109 = true then (spec_NetOk.l0 k2 l0_1 (l0_1.length : Int) (wrap64 (x18_2 + 1)) a0_0 l0_1) else (some false)))) else (some false))) else (some false)) = some r := H
                  have A13 := Aside0.mk A130
                  clear A130
                  by_cases c14 : t107 = true
                  · subst c14
                    have H1 : ((spec_l01In.f ((rd_T60 l0_1 x18_2).f1) 0 (wrap64 (a0_0 - 1))).bind fun t108 => (if t108 = true then (if ((rd_T60 l0_1 x18_2).f0) = ((rd_T60 l0_1 x18_2).f1) then (some false) else ((spec_l01In.f ((rd_T60 l0_1 x18_2).f2) 0 1000).bind fun t109 => (if t109 = true then (spec_NetOk.l0 k2 l0_1 (l0_1.length : Int) (wrap64 (x18_2 + 1)) a0_0 l0_1) else (some false)))) else (some false))) = some r := by rw [if_pos rfl] at H; exact H
                    clear H
                    have H := H1
                    clear H1
                    replace H := Option.bind_eq_some_iff.mp H
                    obtain ⟨t108, A150, H⟩ := H
                    replace H : (if t108 = true then (if ((rd_T60 l0_1 x18_2).f0) = ((rd_T60 l0_1 x18_2).f1) then (some false) else ((spec_l01In.f ((rd_T60 l0_1 x18_2).f2) 0 1000).bind fun t109 => (if t109 = true then (spec_NetOk.l0 k2 l0_1 (l0_1.length : Int) (wrap64 (x18_2 + 1)) a0_0 l0_1) else (some false)))) else (some false)) = some r := H
                    have A15 := Aside0.mk A150
                    clear A150
                    by_cases c16 : t108 = true
                    · subst c16
                      have H1 : (if ((rd_T60 l0_1 x18_2).f0) = ((rd_T60 l0_1 x18_2).f1) then (some false) else ((spec_l01In.f ((rd_T60 l0_1 x18_2).f2) 0 1000).bind fun t109 => (if t109 = true then (spec_NetOk.l0 k2 l0_1 (l0_1.length : Int) (wrap64 (x18_2 + 1)) a0_0 l0_1) else (some false)))) = some r := by rw [if_pos rfl] at H; exact H
                      clear H
                      have H := H1
                      clear H1
                      by_cases c17 : ((rd_T60 l0_1 x18_2).f0) = ((rd_T60 l0_1 x18_2).f1)
                      · rw [if_pos c17] at H
                        have c17b0 : (((rd_T60 l0_1 x18_2).f0) == ((rd_T60 l0_1 x18_2).f1)) = true := beq_iff_eq.mpr c17
                        have c17b1 : (((rd_T60 l0_1 x18_2).f0) != ((rd_T60 l0_1 x18_2).f1)) = false := bne_eq_false_iff_eq.mpr c17
                        clear c17
                        obtain rfl := Option.some.inj H
                        have p105 : 0 ≤ (x18_2 : Int) := asm
                        have q105 : x18_2 < (l0_1.length : Int) := asm
                        obtain ⟨ad105, e105, hx105_0, hx105_1, hx105_2⟩ := at_T60 HR0_1.out x18_2 p105 q105
                        cases e105
                        replace hx105_0 := hcl HB.out hx105_0
                        replace hx105_1 := hcl HB.out hx105_1
                        replace hx105_2 := hcl HB.out hx105_2
                        replace p105 := eq_true p105
                        replace q105 := eq_true q105
                        go_wp2_with (first | ((with_reducible refine gate_dst (N := 4) rfl ?_); refine box_event ?hg (N := 4) ?hd (cs := #[.int .i64 0, .int .i64 0, .int .i64 0]) (t := 60) ?hr ?_; (case hd => rfl); (case hg => rfl); (case hr => first | (go_simp; done) | (go_simp; rfl)); intro gb106 hg w18 hbox hb; have BK106 := Aside0.mk (hbox); have GW106 := Aside0.mk ((bsz hg : w.heap.size ≤ gb106)); have GE106 := Aside0.mk ((bsz hg : w.heap.size ≤ gb106)); have NB103_106 := Aside0.mk ((nlt hg BK103.out : gb103 ≠ gb106)); have NB106_103 := Aside0.mk ((ngt hg BK103.out : gb106 ≠ gb103)); replace BK103 := Aside0.mk (bb BK103.out hb); replace HB := Aside0.mk (below_step bel hb); clear hb hbox hg; have hnb19 := NB106_103.out; have hnc19 := NB103_106.out; obtain ⟨hcz20_0, hcz20_1, hcz20_2, hfz20_0, hfz20_1, hfz20_2⟩ := cf3 BK106.out; obtain ⟨hcz21_0, hcz21_1, hfz21_0, hfz21_1⟩ := cf2 BK103.out) | ((with_reducible refine gate_callee (f := 39) rfl ?_); refine goesL_ (some 27) rfl rfl Try.func39 (by kernel_rfl) rfl #[.int .i64 ((rd_T60 l0_1 x18_2).f0), .int .i64 0, .int .i64 (wrap64 (a0_0 - 1))] rfl ga ?_; (with_reducible refine (spec_l01In.calls ((rd_T60 l0_1 x18_2).f0) 0 (wrap64 (a0_0 - 1)) true _ A13.out).mono ?_); rintro e w' ⟨rfl, ⟨nd, rfl⟩⟩; refine ⟨_, rfl, ?_⟩) | (go_at_call 39; (with_reducible refine (spec_l01In.calls ((rd_T60 l0_1 x18_2).f1) 0 (wrap64 (a0_0 - 1)) true _ A15.out).mono ?_); rintro e w' ⟨rfl, ⟨nd, rfl⟩⟩))
                        go_ret
                        exact ⟨er, bel⟩
                      · rw [if_neg c17] at H
                        have c17b0 : (((rd_T60 l0_1 x18_2).f0) == ((rd_T60 l0_1 x18_2).f1)) = false := beq_eq_false_iff_ne.mpr c17
                        have c17b1 : (((rd_T60 l0_1 x18_2).f0) != ((rd_T60 l0_1 x18_2).f1)) = true := bne_iff_ne.mpr c17
                        replace H := Option.bind_eq_some_iff.mp H
                        obtain ⟨t109, A220, H⟩ := H
                        replace H : (if t109 = true then (spec_NetOk.l0 k2 l0_1 (l0_1.length : Int) (wrap64 (x18_2 + 1)) a0_0 l0_1) else (some false)) = some r := H
                        have A22 := Aside0.mk A220
                        clear A220
                        by_cases c23 : t109 = true
                        · subst c23
                          have H1 : (spec_NetOk.l0 k2 l0_1 (l0_1.length : Int) (wrap64 (x18_2 + 1)) a0_0 l0_1) = some r := by rw [if_pos rfl] at H; exact H
                          clear H
                          have H := H1
                          clear H1
                          have H' := Aside0.mk H
                          clear H
                          have p105 : 0 ≤ (x18_2 : Int) := asm
                          have q105 : x18_2 < (l0_1.length : Int) := asm
                          obtain ⟨ad105, e105, hx105_0, hx105_1, hx105_2⟩ := at_T60 HR0_1.out x18_2 p105 q105
                          cases e105
                          replace hx105_0 := hcl HB.out hx105_0
                          replace hx105_1 := hcl HB.out hx105_1
                          replace hx105_2 := hcl HB.out hx105_2
                          replace p105 := eq_true p105
                          replace q105 := eq_true q105
                          go_wp2_with (first | ((with_reducible refine gate_dst (N := 4) rfl ?_); refine box_event ?hg (N := 4) ?hd (cs := #[.int .i64 0, .int .i64 0, .int .i64 0]) (t := 60) ?hr ?_; (case hd => rfl); (case hg => rfl); (case hr => first | (go_simp; done) | (go_simp; rfl)); intro gb106 hg w24 hbox hb; have BK106 := Aside0.mk (hbox); have GW106 := Aside0.mk ((bsz hg : w.heap.size ≤ gb106)); have GE106 := Aside0.mk ((bsz hg : w.heap.size ≤ gb106)); have NB103_106 := Aside0.mk ((nlt hg BK103.out : gb103 ≠ gb106)); have NB106_103 := Aside0.mk ((ngt hg BK103.out : gb106 ≠ gb103)); replace BK103 := Aside0.mk (bb BK103.out hb); replace HB := Aside0.mk (below_step bel hb); clear hb hbox hg; have hnb25 := NB106_103.out; have hnc25 := NB103_106.out; obtain ⟨hcz26_0, hcz26_1, hcz26_2, hfz26_0, hfz26_1, hfz26_2⟩ := cf3 BK106.out; obtain ⟨hcz27_0, hcz27_1, hfz27_0, hfz27_1⟩ := cf2 BK103.out) | ((with_reducible refine gate_callee (f := 39) rfl ?_); refine goesL_ (some 27) rfl rfl Try.func39 (by kernel_rfl) rfl #[.int .i64 ((rd_T60 l0_1 x18_2).f0), .int .i64 0, .int .i64 (wrap64 (a0_0 - 1))] rfl ga ?_; (with_reducible refine (spec_l01In.calls ((rd_T60 l0_1 x18_2).f0) 0 (wrap64 (a0_0 - 1)) true _ A13.out).mono ?_); rintro e w' ⟨rfl, ⟨nd, rfl⟩⟩; refine ⟨_, rfl, ?_⟩) | (go_at_call 39; (with_reducible refine (spec_l01In.calls ((rd_T60 l0_1 x18_2).f1) 0 (wrap64 (a0_0 - 1)) true _ A15.out).mono ?_); rintro e w' ⟨rfl, ⟨nd, rfl⟩⟩) | (go_at_call 39; (with_reducible refine (spec_l01In.calls ((rd_T60 l0_1 x18_2).f2) 0 1000 true _ A22.out).mono ?_); rintro e w' ⟨rfl, ⟨nd, rfl⟩⟩))
                          go_roundg k2
                          case measure => have := HJ1.out; have := HK2.out; omega
                          case rel => exact ⟨(wrap64 (x18_2 + 1)), (es), H', ⟨by have := HJ1.out; have := HK2.out; omega⟩, ⟨bk BK103.out⟩, ⟨bel⟩⟩
                        · replace c23 := Bool.eq_false_iff.mpr c23
                          subst c23
                          have H1 : (some false) = some r := by rw [if_neg (show ¬ (false = true) by decide)] at H; exact H
                          clear H
                          have H := H1
                          clear H1
                          obtain rfl := Option.some.inj H
                          have p105 : 0 ≤ (x18_2 : Int) := asm
                          have q105 : x18_2 < (l0_1.length : Int) := asm
                          obtain ⟨ad105, e105, hx105_0, hx105_1, hx105_2⟩ := at_T60 HR0_1.out x18_2 p105 q105
                          cases e105
                          replace hx105_0 := hcl HB.out hx105_0
                          replace hx105_1 := hcl HB.out hx105_1
                          replace hx105_2 := hcl HB.out hx105_2
                          replace p105 := eq_true p105
                          replace q105 := eq_true q105
                          go_wp2_with (first | ((with_reducible refine gate_dst (N := 4) rfl ?_); refine box_event ?hg (N := 4) ?hd (cs := #[.int .i64 0, .int .i64 0, .int .i64 0]) (t := 60) ?hr ?_; (case hd => rfl); (case hg => rfl); (case hr => first | (go_simp; done) | (go_simp; rfl)); intro gb106 hg w28 hbox hb; have BK106 := Aside0.mk (hbox); have GW106 := Aside0.mk ((bsz hg : w.heap.size ≤ gb106)); have GE106 := Aside0.mk ((bsz hg : w.heap.size ≤ gb106)); have NB103_106 := Aside0.mk ((nlt hg BK103.out : gb103 ≠ gb106)); have NB106_103 := Aside0.mk ((ngt hg BK103.out : gb106 ≠ gb103)); replace BK103 := Aside0.mk (bb BK103.out hb); replace HB := Aside0.mk (below_step bel hb); clear hb hbox hg; have hnb29 := NB106_103.out; have hnc29 := NB103_106.out; obtain ⟨hcz30_0, hcz30_1, hcz30_2, hfz30_0, hfz30_1, hfz30_2⟩ := cf3 BK106.out; obtain ⟨hcz31_0, hcz31_1, hfz31_0, hfz31_1⟩ := cf2 BK103.out) | ((with_reducible refine gate_callee (f := 39) rfl ?_); refine goesL_ (some 27) rfl rfl Try.func39 (by kernel_rfl) rfl #[.int .i64 ((rd_T60 l0_1 x18_2).f0), .int .i64 0, .int .i64 (wrap64 (a0_0 - 1))] rfl ga ?_; (with_reducible refine (spec_l01In.calls ((rd_T60 l0_1 x18_2).f0) 0 (wrap64 (a0_0 - 1)) true _ A13.out).mono ?_); rintro e w' ⟨rfl, ⟨nd, rfl⟩⟩; refine ⟨_, rfl, ?_⟩) | (go_at_call 39; (with_reducible refine (spec_l01In.calls ((rd_T60 l0_1 x18_2).f1) 0 (wrap64 (a0_0 - 1)) true _ A15.out).mono ?_); rintro e w' ⟨rfl, ⟨nd, rfl⟩⟩) | (go_at_call 39; (with_reducible refine (spec_l01In.calls ((rd_T60 l0_1 x18_2).f2) 0 1000 false _ A22.out).mono ?_); rintro e w' ⟨rfl, ⟨nd, rfl⟩⟩))
                          go_ret
                          exact ⟨er, bel⟩
                    · replace c16 := Bool.eq_false_iff.mpr c16
                      subst c16
                      have H1 : (some false) = some r := by rw [if_neg (show ¬ (false = true) by decide)] at H; exact H
                      clear H
                      have H := H1
                      clear H1
                      obtain rfl := Option.some.inj H
                      have p105 : 0 ≤ (x18_2 : Int) := asm
                      have q105 : x18_2 < (l0_1.length : Int) := asm
                      obtain ⟨ad105, e105, hx105_0, hx105_1, hx105_2⟩ := at_T60 HR0_1.out x18_2 p105 q105
                      cases e105
                      replace hx105_0 := hcl HB.out hx105_0
                      replace hx105_1 := hcl HB.out hx105_1
                      replace hx105_2 := hcl HB.out hx105_2
                      replace p105 := eq_true p105
                      replace q105 := eq_true q105
                      go_wp2_with (first | ((with_reducible refine gate_dst (N := 4) rfl ?_); refine box_event ?hg (N := 4) ?hd (cs := #[.int .i64 0, .int .i64 0, .int .i64 0]) (t := 60) ?hr ?_; (case hd => rfl); (case hg => rfl); (case hr => first | (go_simp; done) | (go_simp; rfl)); intro gb106 hg w32 hbox hb; have BK106 := Aside0.mk (hbox); have GW106 := Aside0.mk ((bsz hg : w.heap.size ≤ gb106)); have GE106 := Aside0.mk ((bsz hg : w.heap.size ≤ gb106)); have NB103_106 := Aside0.mk ((nlt hg BK103.out : gb103 ≠ gb106)); have NB106_103 := Aside0.mk ((ngt hg BK103.out : gb106 ≠ gb103)); replace BK103 := Aside0.mk (bb BK103.out hb); replace HB := Aside0.mk (below_step bel hb); clear hb hbox hg; have hnb33 := NB106_103.out; have hnc33 := NB103_106.out; obtain ⟨hcz34_0, hcz34_1, hcz34_2, hfz34_0, hfz34_1, hfz34_2⟩ := cf3 BK106.out; obtain ⟨hcz35_0, hcz35_1, hfz35_0, hfz35_1⟩ := cf2 BK103.out) | ((with_reducible refine gate_callee (f := 39) rfl ?_); refine goesL_ (some 27) rfl rfl Try.func39 (by kernel_rfl) rfl #[.int .i64 ((rd_T60 l0_1 x18_2).f0), .int .i64 0, .int .i64 (wrap64 (a0_0 - 1))] rfl ga ?_; (with_reducible refine (spec_l01In.calls ((rd_T60 l0_1 x18_2).f0) 0 (wrap64 (a0_0 - 1)) true _ A13.out).mono ?_); rintro e w' ⟨rfl, ⟨nd, rfl⟩⟩; refine ⟨_, rfl, ?_⟩) | (go_at_call 39; (with_reducible refine (spec_l01In.calls ((rd_T60 l0_1 x18_2).f1) 0 (wrap64 (a0_0 - 1)) false _ A15.out).mono ?_); rintro e w' ⟨rfl, ⟨nd, rfl⟩⟩))
                      go_ret
                      exact ⟨er, bel⟩
                  · replace c14 := Bool.eq_false_iff.mpr c14
                    subst c14
                    have H1 : (some false) = some r := by rw [if_neg (show ¬ (false = true) by decide)] at H; exact H
                    clear H
                    have H := H1
                    clear H1
                    obtain rfl := Option.some.inj H
                    have p105 : 0 ≤ (x18_2 : Int) := asm
                    have q105 : x18_2 < (l0_1.length : Int) := asm
                    obtain ⟨ad105, e105, hx105_0, hx105_1, hx105_2⟩ := at_T60 HR0_1.out x18_2 p105 q105
                    cases e105
                    replace hx105_0 := hcl HB.out hx105_0
                    replace hx105_1 := hcl HB.out hx105_1
                    replace hx105_2 := hcl HB.out hx105_2
                    replace p105 := eq_true p105
                    replace q105 := eq_true q105
                    go_wp2_with (first | ((with_reducible refine gate_dst (N := 4) rfl ?_); refine box_event ?hg (N := 4) ?hd (cs := #[.int .i64 0, .int .i64 0, .int .i64 0]) (t := 60) ?hr ?_; (case hd => rfl); (case hg => rfl); (case hr => first | (go_simp; done) | (go_simp; rfl)); intro gb106 hg w36 hbox hb; have BK106 := Aside0.mk (hbox); have GW106 := Aside0.mk ((bsz hg : w.heap.size ≤ gb106)); have GE106 := Aside0.mk ((bsz hg : w.heap.size ≤ gb106)); have NB103_106 := Aside0.mk ((nlt hg BK103.out : gb103 ≠ gb106)); have NB106_103 := Aside0.mk ((ngt hg BK103.out : gb106 ≠ gb103)); replace BK103 := Aside0.mk (bb BK103.out hb); replace HB := Aside0.mk (below_step bel hb); clear hb hbox hg; have hnb37 := NB106_103.out; have hnc37 := NB103_106.out; obtain ⟨hcz38_0, hcz38_1, hcz38_2, hfz38_0, hfz38_1, hfz38_2⟩ := cf3 BK106.out; obtain ⟨hcz39_0, hcz39_1, hfz39_0, hfz39_1⟩ := cf2 BK103.out) | ((with_reducible refine gate_callee (f := 39) rfl ?_); refine goesL_ (some 27) rfl rfl Try.func39 (by kernel_rfl) rfl #[.int .i64 ((rd_T60 l0_1 x18_2).f0), .int .i64 0, .int .i64 (wrap64 (a0_0 - 1))] rfl ga ?_; (with_reducible refine (spec_l01In.calls ((rd_T60 l0_1 x18_2).f0) 0 (wrap64 (a0_0 - 1)) false _ A13.out).mono ?_); rintro e w' ⟨rfl, ⟨nd, rfl⟩⟩; refine ⟨_, rfl, ?_⟩))
                    go_ret
                    exact ⟨er, bel⟩
                · rw [if_neg c12] at H
                  exact absurd H (by simp)
              · rw [if_neg c11] at H
                exact absurd H (by simp)
            · rw [if_neg c10] at H
              have c10b0 : decide (x18_2 < (l0_1.length : Int)) = false := decide_eq_false c10
              clear c10
              obtain rfl := Option.some.inj H
              go_wp2
              go_ret
              exact ⟨er, bel⟩

end Go.Proofs.Yteaemblallbgpaa.X
