-- Written by a program of this session (wip/xp.py, over the kit's print) out of the translation: functions, and the walks that show them.
import Derived.Test.YteaemblallbgpaaX0
import Derived.Test.YteaemblallbgpaaX3
namespace Go.Proofs.Yteaemblallbgpaa.X
open Go.RowKit Go.Proofs.YteaemblallbgpaaW.PrintWords Go.Proofs.YteaemblallbgpaaW.PrintLast Go.Proofs.YteaemblallbgpaaW.PrintMore
attribute [local go_sem] max2_int min2_int max_two min_two max_three min_three max_four min_four   -- for this text's walks alone
set_option linter.unusedVariables false
set_option linter.unusedSimpArgs false

/-! ### impl_NetOk: function 14 -/
def impl_NetOk.l0 : Nat → List (S60) → Int → Int → Int → List (S60) → Option (Bool)
  | 0, _, _, _, _, _ => none
  | k + 1, x6, x7, x8, x128000, x128001 => if x8 < x7 then (if 0 ≤ x8 then (if x8 < (x6.length : Int) then ((impl_within.f ((rd_T60 x6 x8).f0) 0 (wrap64 (x128000 - 1))).bind fun t131 => (if t131 = true then ((impl_within.f ((rd_T60 x6 x8).f1) 0 (wrap64 (x128000 - 1))).bind fun t132 => (if t132 = true then (if ((rd_T60 x6 x8).f0) = ((rd_T60 x6 x8).f1) then (some false) else ((impl_within.f ((rd_T60 x6 x8).f2) 0 1000).bind fun t133 => (if t133 = true then (impl_NetOk.l0 k x6 x7 (wrap64 (x8 + 1)) x128000 x128001) else (some false)))) else (some false))) else (some false))) else (none)) else (none)) else ((impl_within.f x128000 2 40).bind fun t128 => (if t128 = true then (some (decide ((x128001.length : Int) ≤ 120))) else (some false)))
def impl_NetOk.f (k : Nat) (a0_0 : Int) (l0_1 : List (S60)) : Option (Bool) := impl_NetOk.l0 k l0_1 (l0_1.length : Int) 0 a0_0 l0_1
theorem impl_NetOk.mono_l : ∀ k, (∀ y0 y1 y2 y3 y4, LeO (impl_NetOk.l0 k y0 y1 y2 y3 y4) (impl_NetOk.l0 (k + 1) y0 y1 y2 y3 y4))
  | 0 => fun _ _ _ _ _ r h => by simp [impl_NetOk.l0] at h
  | k + 1 => by
    have ih0 := impl_NetOk.mono_l k
    · intro y0 y1 y2 y3 y4
      unfold impl_NetOk.l0
      repeat' first
      | (with_reducible exact ih0 _ _ _ _ _)
      | (with_reducible exact LeO.refl _)
      | (with_reducible exact LeO.none _)
      | (with_reducible refine LeO.ite ?_ ?_)
      | (with_reducible refine LeO.bind ?_ (fun _ => ?_))
      | exact ih0 _ _ _ _ _
      | exact LeO.none _
      | refine LeO.ite ?_ ?_
      | refine LeO.bind ?_ (fun _ => ?_)
theorem impl_NetOk.mono : ∀ a0 a1 k, LeO (impl_NetOk.f k a0 a1) (impl_NetOk.f (k + 1) a0 a1) := by
  intro a0 a1 k
  have ih0 := impl_NetOk.mono_l k
  unfold impl_NetOk.f
  repeat' first
      | (with_reducible exact ih0 _ _ _ _ _)
      | (with_reducible exact LeO.refl _)
      | (with_reducible exact LeO.none _)
      | (with_reducible refine LeO.ite ?_ ?_)
      | (with_reducible refine LeO.bind ?_ (fun _ => ?_))
      | exact ih0 _ _ _ _ _
      | exact LeO.none _
      | refine LeO.ite ?_ ?_
      | refine LeO.bind ?_ (fun _ => ?_)
set_option maxHeartbeats 8000000 in
set_option maxRecDepth 100000 in
theorem impl_NetOk.calls (k : Nat) (a0_0 : Int) (A0_1 : Option Addr) (c0_1 : Nat) (l0_1 : List (S60)) (r : Bool) (w : World) (hr0_1 : Kd.C k60 w A0_1 l0_1.length l0_1) (hc0_1 : l0_1.length ≤ c0_1) (h : impl_NetOk.f k a0_0 l0_1 = some r) :
    Calls Try.prog 14 #[.agg #[.int .i64 a0_0, .slice A0_1 l0_1.length c0_1]] w fun e w' => e = .returned (.bool r) ∧ Below w.heap.size w w' := by
  have hu29 := Try.underlying29
  have hu60 := Try.underlying60
  have HR0_1 := Aside0.mk hr0_1
  have HC0_1 := Aside0.mk hc0_1
  clear hr0_1 hc0_1
  have HB := Aside0.mk (Below.refl w.heap.size w)
  have H : (impl_NetOk.l0 k l0_1 (l0_1.length : Int) 0 a0_0 l0_1) = some r := h
  clear h
  have H' := Aside0.mk H
  clear H
  go_enter Try.func14, Try.ntmps14
  go_wp2_with (first | ((with_reducible refine gate_dst (N := 1) rfl ?_); refine box_event ?hg (N := 1) ?hd (cs := #[.int .i64 a0_0, .slice A0_1 l0_1.length c0_1]) (t := 29) ?hr ?_; (case hd => rfl); (case hg => rfl); (case hr => first | (go_simp; done) | (go_simp; rfl)); intro gb127 hg w2 hbox hb; have BK127 := Aside0.mk (hbox); have GW127 := Aside0.mk ((bsz hg : w.heap.size ≤ gb127)); have GE127 := Aside0.mk ((bsz hg : w.heap.size ≤ gb127)); replace HB := Aside0.mk (below_step bel hb); clear hb hbox hg; obtain ⟨hcz3_0, hcz3_1, hfz3_0, hfz3_1⟩ := cf2 BK127.out))
  go_loopg [8] k (fun kq v8 w' => ∃ (x8_1 : Int), v8 = .int .i64 x8_1 ∧ Aside0 (impl_NetOk.l0 kq l0_1 (l0_1.length : Int) x8_1 a0_0 l0_1 = some r) ∧ Aside0 (kq ≤ k) ∧ Aside0 (w'.heap[gb127]? = some (.cells #[.int .i64 a0_0, (.slice A0_1 l0_1.length c0_1)] 29 (0, 0))) ∧ Aside0 (Below w.heap.size w w'))
  case atStart => exact ⟨(0), (es), H', ⟨Nat.le_refl _⟩, ⟨bk BK127.out⟩, ⟨bel⟩⟩
  case round =>
    clear H'
    try clear c1; try clear p2; try clear hcz3_0; try clear hcz3_1; try clear hfz3_0; try clear hfz3_1
    obtain ⟨x8_1, rfl, HA, HK1, BK127, HB⟩ := hrel
    cases gk with
    | zero => exact absurd HA.out (by simp [impl_NetOk.l0])
    | succ k1 =>
      have H := HA.out
      clear HA
      simp only [impl_NetOk.l0] at H
      by_cases c4 : x8_1 < (l0_1.length : Int)
      · rw [if_pos c4] at H
        have c4b0 : decide (x8_1 < (l0_1.length : Int)) = true := decide_eq_true c4
        clear c4
        by_cases c5 : 0 ≤ x8_1
        · rw [if_pos c5] at H
          have c5b0 : decide (0 ≤ x8_1) = true := decide_eq_true c5
          clear c5
          by_cases c6 : x8_1 < (l0_1.length : Int)
          · rw [if_pos c6] at H
            have c6b0 : decide (x8_1 < (l0_1.length : Int)) = true := decide_eq_true c6
            clear c6
            replace H := Option.bind_eq_some_iff.mp H
            obtain ⟨t131, A70, H⟩ := H
            replace H : (if t131 = true then ((impl_within.f ((rd_T60 l0_1 x8_1).f1) 0 (wrap64 (a0_0 - 1))).bind fun t132 => (if t132 = true then (if ((rd_T60 l0_1 x8_1).f0) = ((rd_T60 l0_1 x8_1).f1) then (some false) else ((impl_within.f ((rd_T60 l0_1 x8_1).f2) 0 1000).bind fun t133 => (if t133 = true then (impl_NetOk.l0 k1 l0_1 (l0_1.length : Int) (wrap64 (x8_1 + 1)) a0_0 l0_1) else (some false)))) else (some false))) else (some false)) = some r := H
            have A7 := Aside0.mk A70
            clear A70
            by_cases c8 : t131 = true
            · subst c8
              have H1 : ((impl_within.f ((rd_T60 l0_1 x8_1).f1) 0 (wrap64 (a0_0 - 1))).bind fun t132 => (if t132 = true then (if ((rd_T60 l0_1 x8_1).f0) = ((rd_T60 l0_1 x8_1).f1) then (some false) else ((impl_within.f ((rd_T60 l0_1 x8_1).f2) 0 1000).bind fun t133 => (if t133 = true then (impl_NetOk.l0 k1 l0_1 (l0_1.length : Int) (wrap64 (x8_1 + 1)) a0_0 l0_1) else (some false)))) else (some false))) = some r := by rw [if_pos rfl] at H; exact H
              clear H
              have H := H1
              clear H1
              replace H := Option.bind_eq_some_iff.mp H
              obtain ⟨t132, A90, H⟩ := H
              replace H : (if t132 = true then (if ((rd_T60 l0_1 x8_1).f0) = ((rd_T60 l0_1 x8_1).f1) then (some false) else ((impl_within.f ((rd_T60 l0_1 x8_1).f2) 0 1000).bind fun t133 => (if t133 = true then (impl_NetOk.l0 k1 l0_1 (l0_1.length : Int) (wrap64 (x8_1 + 1)) a0_0 l0_1) else (some false)))) else (some false)) = some r := H
              have A9 := Aside0.mk A90
              clear A90
              by_cases c10 : t132 = true
              · subst c10
                have H1 : (if ((rd_T60 l0_1 x8_1).f0) = ((rd_T60 l0_1 x8_1).f1) then (some false) else ((impl_within.f ((rd_T60 l0_1 x8_1).f2) 0 1000).bind fun t133 => (if t133 = true then (impl_NetOk.l0 k1 l0_1 (l0_1.length : Int) (wrap64 (x8_1 + 1)) a0_0 l0_1) else (some false)))) = some r := by rw [if_pos rfl] at H; exact H
                clear H
                have H := H1
                clear H1
                by_cases c11 : ((rd_T60 l0_1 x8_1).f0) = ((rd_T60 l0_1 x8_1).f1)
                · rw [if_pos c11] at H
                  have c11b0 : (((rd_T60 l0_1 x8_1).f0) == ((rd_T60 l0_1 x8_1).f1)) = true := beq_iff_eq.mpr c11
                  have c11b1 : (((rd_T60 l0_1 x8_1).f0) != ((rd_T60 l0_1 x8_1).f1)) = false := bne_eq_false_iff_eq.mpr c11
                  clear c11
                  obtain rfl := Option.some.inj H
                  have p129 : 0 ≤ (x8_1 : Int) := asm
                  have q129 : x8_1 < (l0_1.length : Int) := asm
                  obtain ⟨ad129, e129, hx129_0, hx129_1, hx129_2⟩ := at_T60 HR0_1.out x8_1 p129 q129
                  cases e129
                  replace hx129_0 := hcl HB.out hx129_0
                  replace hx129_1 := hcl HB.out hx129_1
                  replace hx129_2 := hcl HB.out hx129_2
                  replace p129 := eq_true p129
                  replace q129 := eq_true q129
                  go_wp2_with (first | ((with_reducible refine gate_dst (N := 4) rfl ?_); refine box_event ?hg (N := 4) ?hd (cs := #[.int .i64 0, .int .i64 0, .int .i64 0]) (t := 60) ?hr ?_; (case hd => rfl); (case hg => rfl); (case hr => first | (go_simp; done) | (go_simp; rfl)); intro gb130 hg w12 hbox hb; have BK130 := Aside0.mk (hbox); have GW130 := Aside0.mk ((bsz hg : w.heap.size ≤ gb130)); have GE130 := Aside0.mk ((bsz hg : w.heap.size ≤ gb130)); have NB127_130 := Aside0.mk ((nlt hg BK127.out : gb127 ≠ gb130)); have NB130_127 := Aside0.mk ((ngt hg BK127.out : gb130 ≠ gb127)); replace BK127 := Aside0.mk (bb BK127.out hb); replace HB := Aside0.mk (below_step bel hb); clear hb hbox hg; have hnb13 := NB130_127.out; have hnc13 := NB127_130.out; obtain ⟨hcz14_0, hcz14_1, hcz14_2, hfz14_0, hfz14_1, hfz14_2⟩ := cf3 BK130.out; obtain ⟨hcz15_0, hcz15_1, hfz15_0, hfz15_1⟩ := cf2 BK127.out) | ((with_reducible refine gate_callee (f := 41) rfl ?_); refine goesL_ (some 17) rfl rfl Try.func41 (by kernel_rfl) rfl #[.int .i64 ((rd_T60 l0_1 x8_1).f0), .int .i64 0, .int .i64 (wrap64 (a0_0 - 1))] rfl ga ?_; (with_reducible refine (impl_within.calls ((rd_T60 l0_1 x8_1).f0) 0 (wrap64 (a0_0 - 1)) true _ A7.out).mono ?_); rintro e w' ⟨rfl, ⟨nd, rfl⟩⟩; refine ⟨_, rfl, ?_⟩) | (go_at_call 41; (with_reducible refine (impl_within.calls ((rd_T60 l0_1 x8_1).f1) 0 (wrap64 (a0_0 - 1)) true _ A9.out).mono ?_); rintro e w' ⟨rfl, ⟨nd, rfl⟩⟩))
                  go_ret
                  exact ⟨er, bel⟩
                · rw [if_neg c11] at H
                  have c11b0 : (((rd_T60 l0_1 x8_1).f0) == ((rd_T60 l0_1 x8_1).f1)) = false := beq_eq_false_iff_ne.mpr c11
                  have c11b1 : (((rd_T60 l0_1 x8_1).f0) != ((rd_T60 l0_1 x8_1).f1)) = true := bne_iff_ne.mpr c11
                  replace H := Option.bind_eq_some_iff.mp H
                  obtain ⟨t133, A160, H⟩ := H
                  replace H : (if t133 = true then (impl_NetOk.l0 k1 l0_1 (l0_1.length : Int) (wrap64 (x8_1 + 1)) a0_0 l0_1) else (some false)) = some r := H
                  have A16 := Aside0.mk A160
                  clear A160
                  by_cases c17 : t133 = true
                  · subst c17
                    have H1 : (impl_NetOk.l0 k1 l0_1 (l0_1.length : Int) (wrap64 (x8_1 + 1)) a0_0 l0_1) = some r := by rw [if_pos rfl] at H; exact H
                    clear H
                    have H := H1
                    clear H1
                    have H' := Aside0.mk H
                    clear H
                    have p129 : 0 ≤ (x8_1 : Int) := asm
                    have q129 : x8_1 < (l0_1.length : Int) := asm
                    obtain ⟨ad129, e129, hx129_0, hx129_1, hx129_2⟩ := at_T60 HR0_1.out x8_1 p129 q129
                    cases e129
                    replace hx129_0 := hcl HB.out hx129_0
                    replace hx129_1 := hcl HB.out hx129_1
                    replace hx129_2 := hcl HB.out hx129_2
                    replace p129 := eq_true p129
                    replace q129 := eq_true q129
                    go_wp2_with (first | ((with_reducible refine gate_dst (N := 4) rfl ?_); refine box_event ?hg (N := 4) ?hd (cs := #[.int .i64 0, .int .i64 0, .int .i64 0]) (t := 60) ?hr ?_; (case hd => rfl); (case hg => rfl); (case hr => first | (go_simp; done) | (go_simp; rfl)); intro gb130 hg w18 hbox hb; have BK130 := Aside0.mk (hbox); have GW130 := Aside0.mk ((bsz hg : w.heap.size ≤ gb130)); have GE130 := Aside0.mk ((bsz hg : w.heap.size ≤ gb130)); have NB127_130 := Aside0.mk ((nlt hg BK127.out : gb127 ≠ gb130)); have NB130_127 := Aside0.mk ((ngt hg BK127.out : gb130 ≠ gb127)); replace BK127 := Aside0.mk (bb BK127.out hb); replace HB := Aside0.mk (below_step bel hb); clear hb hbox hg; have hnb19 := NB130_127.out; have hnc19 := NB127_130.out; obtain ⟨hcz20_0, hcz20_1, hcz20_2, hfz20_0, hfz20_1, hfz20_2⟩ := cf3 BK130.out; obtain ⟨hcz21_0, hcz21_1, hfz21_0, hfz21_1⟩ := cf2 BK127.out) | ((with_reducible refine gate_callee (f := 41) rfl ?_); refine goesL_ (some 17) rfl rfl Try.func41 (by kernel_rfl) rfl #[.int .i64 ((rd_T60 l0_1 x8_1).f0), .int .i64 0, .int .i64 (wrap64 (a0_0 - 1))] rfl ga ?_; (with_reducible refine (impl_within.calls ((rd_T60 l0_1 x8_1).f0) 0 (wrap64 (a0_0 - 1)) true _ A7.out).mono ?_); rintro e w' ⟨rfl, ⟨nd, rfl⟩⟩; refine ⟨_, rfl, ?_⟩) | (go_at_call 41; (with_reducible refine (impl_within.calls ((rd_T60 l0_1 x8_1).f1) 0 (wrap64 (a0_0 - 1)) true _ A9.out).mono ?_); rintro e w' ⟨rfl, ⟨nd, rfl⟩⟩) | (go_at_call 41; (with_reducible refine (impl_within.calls ((rd_T60 l0_1 x8_1).f2) 0 1000 true _ A16.out).mono ?_); rintro e w' ⟨rfl, ⟨nd, rfl⟩⟩))
                    go_roundg k1
                    case measure => have := HK1.out; omega
                    case rel => exact ⟨(wrap64 (x8_1 + 1)), (es), H', ⟨by have := HK1.out; omega⟩, ⟨bk BK127.out⟩, ⟨bel⟩⟩
                  · replace c17 := Bool.eq_false_iff.mpr c17
                    subst c17
                    have H1 : (some false) = some r := by rw [if_neg (show ¬ (false = true) by decide)] at H; exact H
                    clear H
                    have H := H1
                    clear H1
                    obtain rfl := Option.some.inj H
                    have p129 : 0 ≤ (x8_1 : Int) := asm
                    have q129 : x8_1 < (l0_1.length : Int) := asm
                    obtain ⟨ad129, e129, hx129_0, hx129_1, hx129_2⟩ := at_T60 HR0_1.out x8_1 p129 q129
                    cases e129
                    replace hx129_0 := hcl HB.out hx129_0
                    replace hx129_1 := hcl HB.out hx129_1
                    replace hx129_2 := hcl HB.out hx129_2
                    replace p129 := eq_true p129
                    replace q129 := eq_true q129
                    go_wp2_with (first | ((with_reducible refine gate_dst (N := 4) rfl ?_); refine box_event ?hg (N := 4) ?hd (cs := #[.int .i64 0, .int .i64 0, .int .i64 0]) (t := 60) ?hr ?_; (case hd => rfl); (case hg => rfl); (case hr => first | (go_simp; done) | (go_simp; rfl)); intro gb130 hg w22 hbox hb; have BK130 := Aside0.mk (hbox); have GW130 := Aside0.mk ((bsz hg : w.heap.size ≤ gb130)); have GE130 := Aside0.mk ((bsz hg : w.heap.size ≤ gb130)); have NB127_130 := Aside0.mk ((nlt hg BK127.out : gb127 ≠ gb130)); have NB130_127 := Aside0.mk ((ngt hg BK127.out : gb130 ≠ gb127)); replace BK127 := Aside0.mk (bb BK127.out hb); replace HB := Aside0.mk (below_step bel hb); clear hb hbox hg; have hnb23 := NB130_127.out; have hnc23 := NB127_130.out; obtain ⟨hcz24_0, hcz24_1, hcz24_2, hfz24_0, hfz24_1, hfz24_2⟩ := cf3 BK130.out; obtain ⟨hcz25_0, hcz25_1, hfz25_0, hfz25_1⟩ := cf2 BK127.out) | ((with_reducible refine gate_callee (f := 41) rfl ?_); refine goesL_ (some 17) rfl rfl Try.func41 (by kernel_rfl) rfl #[.int .i64 ((rd_T60 l0_1 x8_1).f0), .int .i64 0, .int .i64 (wrap64 (a0_0 - 1))] rfl ga ?_; (with_reducible refine (impl_within.calls ((rd_T60 l0_1 x8_1).f0) 0 (wrap64 (a0_0 - 1)) true _ A7.out).mono ?_); rintro e w' ⟨rfl, ⟨nd, rfl⟩⟩; refine ⟨_, rfl, ?_⟩) | (go_at_call 41; (with_reducible refine (impl_within.calls ((rd_T60 l0_1 x8_1).f1) 0 (wrap64 (a0_0 - 1)) true _ A9.out).mono ?_); rintro e w' ⟨rfl, ⟨nd, rfl⟩⟩) | (go_at_call 41; (with_reducible refine (impl_within.calls ((rd_T60 l0_1 x8_1).f2) 0 1000 false _ A16.out).mono ?_); rintro e w' ⟨rfl, ⟨nd, rfl⟩⟩))
                    go_ret
                    exact ⟨er, bel⟩
              · replace c10 := Bool.eq_false_iff.mpr c10
                subst c10
                have H1 : (some false) = some r := by rw [if_neg (show ¬ (false = true) by decide)] at H; exact H
                clear H
                have H := H1
                clear H1
                obtain rfl := Option.some.inj H
                have p129 : 0 ≤ (x8_1 : Int) := asm
                have q129 : x8_1 < (l0_1.length : Int) := asm
                obtain ⟨ad129, e129, hx129_0, hx129_1, hx129_2⟩ := at_T60 HR0_1.out x8_1 p129 q129
                cases e129
                replace hx129_0 := hcl HB.out hx129_0
                replace hx129_1 := hcl HB.out hx129_1
                replace hx129_2 := hcl HB.out hx129_2
                replace p129 := eq_true p129
                replace q129 := eq_true q129
                go_wp2_with (first | ((with_reducible refine gate_dst (N := 4) rfl ?_); refine box_event ?hg (N := 4) ?hd (cs := #[.int .i64 0, .int .i64 0, .int .i64 0]) (t := 60) ?hr ?_; (case hd => rfl); (case hg => rfl); (case hr => first | (go_simp; done) | (go_simp; rfl)); intro gb130 hg w26 hbox hb; have BK130 := Aside0.mk (hbox); have GW130 := Aside0.mk ((bsz hg : w.heap.size ≤ gb130)); have GE130 := Aside0.mk ((bsz hg : w.heap.size ≤ gb130)); have NB127_130 := Aside0.mk ((nlt hg BK127.out : gb127 ≠ gb130)); have NB130_127 := Aside0.mk ((ngt hg BK127.out : gb130 ≠ gb127)); replace BK127 := Aside0.mk (bb BK127.out hb); replace HB := Aside0.mk (below_step bel hb); clear hb hbox hg; have hnb27 := NB130_127.out; have hnc27 := NB127_130.out; obtain ⟨hcz28_0, hcz28_1, hcz28_2, hfz28_0, hfz28_1, hfz28_2⟩ := cf3 BK130.out; obtain ⟨hcz29_0, hcz29_1, hfz29_0, hfz29_1⟩ := cf2 BK127.out) | ((with_reducible refine gate_callee (f := 41) rfl ?_); refine goesL_ (some 17) rfl rfl Try.func41 (by kernel_rfl) rfl #[.int .i64 ((rd_T60 l0_1 x8_1).f0), .int .i64 0, .int .i64 (wrap64 (a0_0 - 1))] rfl ga ?_; (with_reducible refine (impl_within.calls ((rd_T60 l0_1 x8_1).f0) 0 (wrap64 (a0_0 - 1)) true _ A7.out).mono ?_); rintro e w' ⟨rfl, ⟨nd, rfl⟩⟩; refine ⟨_, rfl, ?_⟩) | (go_at_call 41; (with_reducible refine (impl_within.calls ((rd_T60 l0_1 x8_1).f1) 0 (wrap64 (a0_0 - 1)) false _ A9.out).mono ?_); rintro e w' ⟨rfl, ⟨nd, rfl⟩⟩))
                go_ret
                exact ⟨er, bel⟩
            · replace c8 := Bool.eq_false_iff.mpr c8
              subst c8
              have H1 : (some false) = some r := by rw [if_neg (show ¬ (false = true) by decide)] at H; exact H
              clear H
              have H := H1
              clear H1
              obtain rfl := Option.some.inj H
              have p129 : 0 ≤ (x8_1 : Int) := asm
              have q129 : x8_1 < (l0_1.length : Int) := asm
              obtain ⟨ad129, e129, hx129_0, hx129_1, hx129_2⟩ := at_T60 HR0_1.out x8_1 p129 q129
              cases e129
              replace hx129_0 := hcl HB.out hx129_0
              replace hx129_1 := hcl HB.out hx129_1
              replace hx129_2 := hcl HB.out hx129_2
              replace p129 := eq_true p129
              replace q129 := eq_true q129
              go_wp2_with (first | ((with_reducible refine gate_dst (N := 4) rfl ?_); refine box_event ?hg (N := 4) ?hd (cs := #[.int .i64 0, .int .i64 0, .int .i64 0]) (t := 60) ?hr ?_; (case hd => rfl); (case hg => rfl); (case hr => first | (go_simp; done) | (go_simp; rfl)); intro gb130 hg w30 hbox hb; have BK130 := Aside0.mk (hbox); have GW130 := Aside0.mk ((bsz hg : w.heap.size ≤ gb130)); have GE130 := Aside0.mk ((bsz hg : w.heap.size ≤ gb130)); have NB127_130 := Aside0.mk ((nlt hg BK127.out : gb127 ≠ gb130)); have NB130_127 := Aside0.mk ((ngt hg BK127.out : gb130 ≠ gb127)); replace BK127 := Aside0.mk (bb BK127.out hb); replace HB := Aside0.mk (below_step bel hb); clear hb hbox hg; have hnb31 := NB130_127.out; have hnc31 := NB127_130.out; obtain ⟨hcz32_0, hcz32_1, hcz32_2, hfz32_0, hfz32_1, hfz32_2⟩ := cf3 BK130.out; obtain ⟨hcz33_0, hcz33_1, hfz33_0, hfz33_1⟩ := cf2 BK127.out) | ((with_reducible refine gate_callee (f := 41) rfl ?_); refine goesL_ (some 17) rfl rfl Try.func41 (by kernel_rfl) rfl #[.int .i64 ((rd_T60 l0_1 x8_1).f0), .int .i64 0, .int .i64 (wrap64 (a0_0 - 1))] rfl ga ?_; (with_reducible refine (impl_within.calls ((rd_T60 l0_1 x8_1).f0) 0 (wrap64 (a0_0 - 1)) false _ A7.out).mono ?_); rintro e w' ⟨rfl, ⟨nd, rfl⟩⟩; refine ⟨_, rfl, ?_⟩))
              go_ret
              exact ⟨er, bel⟩
          · rw [if_neg c6] at H
            exact absurd H (by simp)
        · rw [if_neg c5] at H
          exact absurd H (by simp)
      · rw [if_neg c4] at H
        have c4b0 : decide (x8_1 < (l0_1.length : Int)) = false := decide_eq_false c4
        clear c4
        replace H := Option.bind_eq_some_iff.mp H
        obtain ⟨t128, A340, H⟩ := H
        replace H : (if t128 = true then (some (decide ((l0_1.length : Int) ≤ 120))) else (some false)) = some r := H
        have A34 := Aside0.mk A340
        clear A340
        by_cases c35 : t128 = true
        · subst c35
          have H1 : (some (decide ((l0_1.length : Int) ≤ 120))) = some r := by rw [if_pos rfl] at H; exact H
          clear H
          have H := H1
          clear H1
          obtain rfl := Option.some.inj H
          obtain ⟨hcz36_0, hcz36_1, hfz36_0, hfz36_1⟩ := cf2 BK127.out
          go_wp2_with (first | ((with_reducible refine gate_callee (f := 41) rfl ?_); refine goesL_ (some 44) rfl rfl Try.func41 (by kernel_rfl) rfl #[.int .i64 a0_0, .int .i64 2, .int .i64 40] rfl ga ?_; (with_reducible refine (impl_within.calls a0_0 2 40 true _ A34.out).mono ?_); rintro e w' ⟨rfl, ⟨nd, rfl⟩⟩; refine ⟨_, rfl, ?_⟩))
          go_ret
          exact ⟨er, bel⟩
        · replace c35 := Bool.eq_false_iff.mpr c35
          subst c35
          have H1 : (some false) = some r := by rw [if_neg (show ¬ (false = true) by decide)] at H; exact H
          clear H
          have H := H1
          clear H1
          obtain rfl := Option.some.inj H
          obtain ⟨hcz37_0, hcz37_1, hfz37_0, hfz37_1⟩ := cf2 BK127.out
          go_wp2_with (first | ((with_reducible refine gate_callee (f := 41) rfl ?_); refine goesL_ (some 44) rfl rfl Try.func41 (by kernel_rfl) rfl #[.int .i64 a0_0, .int .i64 2, .int .i64 40] rfl ga ?_; (with_reducible refine (impl_within.calls a0_0 2 40 false _ A34.out).mono ?_); rintro e w' ⟨rfl, ⟨nd, rfl⟩⟩; refine ⟨_, rfl, ?_⟩))
          go_ret
          exact ⟨er, bel⟩

/-! ### laws_eqPipe: function 52 -/
def laws_eqPipe.f (a0_0 : Int) (a0_1 : Int) (a0_2 : Int) (a1_0 : Int) (a1_1 : Int) (a1_2 : Int) : Option (Bool) := if a0_0 = a1_0 then (if a0_1 = a1_1 then (if a0_2 = a1_2 then (some true) else (some false)) else (some false)) else (some false)
set_option maxHeartbeats 8000000 in
set_option maxRecDepth 100000 in
theorem laws_eqPipe.calls (a0_0 : Int) (a0_1 : Int) (a0_2 : Int) (a1_0 : Int) (a1_1 : Int) (a1_2 : Int) (r : Bool) (w : World) (h : laws_eqPipe.f a0_0 a0_1 a0_2 a1_0 a1_1 a1_2 = some r) :
    Calls Try.prog 52 #[.agg #[.int .i64 a0_0, .int .i64 a0_1, .int .i64 a0_2], .agg #[.int .i64 a1_0, .int .i64 a1_1, .int .i64 a1_2]] w fun e w' => e = .returned (.bool r) ∧ Below w.heap.size w w' := by
  have hu60 := Try.underlying60
  have HB := Aside0.mk (Below.refl w.heap.size w)
  have H : (if a0_0 = a1_0 then (if a0_1 = a1_1 then (if a0_2 = a1_2 then (some true) else (some false)) else (some false)) else (some false)) = some r := h
  clear h
  by_cases c3 : a0_0 = a1_0
  · rw [if_pos c3] at H
    have c3b0 : (a0_0 == a1_0) = true := beq_iff_eq.mpr c3
    have c3b1 : (a0_0 != a1_0) = false := bne_eq_false_iff_eq.mpr c3
    clear c3
    by_cases c4 : a0_1 = a1_1
    · rw [if_pos c4] at H
      have c4b0 : (a0_1 == a1_1) = true := beq_iff_eq.mpr c4
      have c4b1 : (a0_1 != a1_1) = false := bne_eq_false_iff_eq.mpr c4
      clear c4
      by_cases c5 : a0_2 = a1_2
      · rw [if_pos c5] at H
        have c5b0 : (a0_2 == a1_2) = true := beq_iff_eq.mpr c5
        have c5b1 : (a0_2 != a1_2) = false := bne_eq_false_iff_eq.mpr c5
        clear c5
        obtain rfl := Option.some.inj H
        go_enter Try.func52, Try.ntmps52
        go_wp2_with (first | ((with_reducible refine gate_dst (N := 2) rfl ?_); refine box_event ?hg (N := 2) ?hd (cs := #[.int .i64 a0_0, .int .i64 a0_1, .int .i64 a0_2]) (t := 60) ?hr ?_; (case hd => rfl); (case hg => rfl); (case hr => first | (go_simp; done) | (go_simp; rfl)); intro gb134 hg w6 hbox hb; have BK134 := Aside0.mk (hbox); have GW134 := Aside0.mk ((bsz hg : w.heap.size ≤ gb134)); have GE134 := Aside0.mk ((bsz hg : w.heap.size ≤ gb134)); replace HB := Aside0.mk (below_step bel hb); clear hb hbox hg) | ((with_reducible refine gate_dst (N := 3) rfl ?_); refine box_event ?hg (N := 3) ?hd (cs := #[.int .i64 a1_0, .int .i64 a1_1, .int .i64 a1_2]) (t := 60) ?hr ?_; (case hd => rfl); (case hg => rfl); (case hr => first | (go_simp; done) | (go_simp; rfl)); intro gb135 hg w7 hbox hb; have BK135 := Aside0.mk (hbox); have GW135 := Aside0.mk ((bsz hg : w.heap.size ≤ gb135)); have GE135 := Aside0.mk ((bsz hg : w.heap.size ≤ gb135)); have NB134_135 := Aside0.mk ((nlt hg BK134.out : gb134 ≠ gb135)); have NB135_134 := Aside0.mk ((ngt hg BK134.out : gb135 ≠ gb134)); replace BK134 := Aside0.mk (bb BK134.out hb); replace HB := Aside0.mk (below_step bel hb); clear hb hbox hg; have hnb8 := NB134_135.out; have hnc8 := NB135_134.out; obtain ⟨hcz9_0, hcz9_1, hcz9_2, hfz9_0, hfz9_1, hfz9_2⟩ := cf3 BK134.out; obtain ⟨hcz10_0, hcz10_1, hcz10_2, hfz10_0, hfz10_1, hfz10_2⟩ := cf3 BK135.out))
        go_ret
        exact ⟨er, bel⟩
      · rw [if_neg c5] at H
        have c5b0 : (a0_2 == a1_2) = false := beq_eq_false_iff_ne.mpr c5
        have c5b1 : (a0_2 != a1_2) = true := bne_iff_ne.mpr c5
        obtain rfl := Option.some.inj H
        go_enter Try.func52, Try.ntmps52
        go_wp2_with (first | ((with_reducible refine gate_dst (N := 2) rfl ?_); refine box_event ?hg (N := 2) ?hd (cs := #[.int .i64 a0_0, .int .i64 a0_1, .int .i64 a0_2]) (t := 60) ?hr ?_; (case hd => rfl); (case hg => rfl); (case hr => first | (go_simp; done) | (go_simp; rfl)); intro gb134 hg w11 hbox hb; have BK134 := Aside0.mk (hbox); have GW134 := Aside0.mk ((bsz hg : w.heap.size ≤ gb134)); have GE134 := Aside0.mk ((bsz hg : w.heap.size ≤ gb134)); replace HB := Aside0.mk (below_step bel hb); clear hb hbox hg) | ((with_reducible refine gate_dst (N := 3) rfl ?_); refine box_event ?hg (N := 3) ?hd (cs := #[.int .i64 a1_0, .int .i64 a1_1, .int .i64 a1_2]) (t := 60) ?hr ?_; (case hd => rfl); (case hg => rfl); (case hr => first | (go_simp; done) | (go_simp; rfl)); intro gb135 hg w12 hbox hb; have BK135 := Aside0.mk (hbox); have GW135 := Aside0.mk ((bsz hg : w.heap.size ≤ gb135)); have GE135 := Aside0.mk ((bsz hg : w.heap.size ≤ gb135)); have NB134_135 := Aside0.mk ((nlt hg BK134.out : gb134 ≠ gb135)); have NB135_134 := Aside0.mk ((ngt hg BK134.out : gb135 ≠ gb134)); replace BK134 := Aside0.mk (bb BK134.out hb); replace HB := Aside0.mk (below_step bel hb); clear hb hbox hg; have hnb13 := NB134_135.out; have hnc13 := NB135_134.out; obtain ⟨hcz14_0, hcz14_1, hcz14_2, hfz14_0, hfz14_1, hfz14_2⟩ := cf3 BK134.out; obtain ⟨hcz15_0, hcz15_1, hcz15_2, hfz15_0, hfz15_1, hfz15_2⟩ := cf3 BK135.out))
        go_ret
        exact ⟨er, bel⟩
    · rw [if_neg c4] at H
      have c4b0 : (a0_1 == a1_1) = false := beq_eq_false_iff_ne.mpr c4
      have c4b1 : (a0_1 != a1_1) = true := bne_iff_ne.mpr c4
      obtain rfl := Option.some.inj H
      go_enter Try.func52, Try.ntmps52
      go_wp2_with (first | ((with_reducible refine gate_dst (N := 2) rfl ?_); refine box_event ?hg (N := 2) ?hd (cs := #[.int .i64 a0_0, .int .i64 a0_1, .int .i64 a0_2]) (t := 60) ?hr ?_; (case hd => rfl); (case hg => rfl); (case hr => first | (go_simp; done) | (go_simp; rfl)); intro gb134 hg w16 hbox hb; have BK134 := Aside0.mk (hbox); have GW134 := Aside0.mk ((bsz hg : w.heap.size ≤ gb134)); have GE134 := Aside0.mk ((bsz hg : w.heap.size ≤ gb134)); replace HB := Aside0.mk (below_step bel hb); clear hb hbox hg) | ((with_reducible refine gate_dst (N := 3) rfl ?_); refine box_event ?hg (N := 3) ?hd (cs := #[.int .i64 a1_0, .int .i64 a1_1, .int .i64 a1_2]) (t := 60) ?hr ?_; (case hd => rfl); (case hg => rfl); (case hr => first | (go_simp; done) | (go_simp; rfl)); intro gb135 hg w17 hbox hb; have BK135 := Aside0.mk (hbox); have GW135 := Aside0.mk ((bsz hg : w.heap.size ≤ gb135)); have GE135 := Aside0.mk ((bsz hg : w.heap.size ≤ gb135)); have NB134_135 := Aside0.mk ((nlt hg BK134.out : gb134 ≠ gb135)); have NB135_134 := Aside0.mk ((ngt hg BK134.out : gb135 ≠ gb134)); replace BK134 := Aside0.mk (bb BK134.out hb); replace HB := Aside0.mk (below_step bel hb); clear hb hbox hg; have hnb18 := NB134_135.out; have hnc18 := NB135_134.out; obtain ⟨hcz19_0, hcz19_1, hcz19_2, hfz19_0, hfz19_1, hfz19_2⟩ := cf3 BK134.out; obtain ⟨hcz20_0, hcz20_1, hcz20_2, hfz20_0, hfz20_1, hfz20_2⟩ := cf3 BK135.out))
      go_ret
      exact ⟨er, bel⟩
  · rw [if_neg c3] at H
    have c3b0 : (a0_0 == a1_0) = false := beq_eq_false_iff_ne.mpr c3
    have c3b1 : (a0_0 != a1_0) = true := bne_iff_ne.mpr c3
    obtain rfl := Option.some.inj H
    go_enter Try.func52, Try.ntmps52
    go_wp2_with (first | ((with_reducible refine gate_dst (N := 2) rfl ?_); refine box_event ?hg (N := 2) ?hd (cs := #[.int .i64 a0_0, .int .i64 a0_1, .int .i64 a0_2]) (t := 60) ?hr ?_; (case hd => rfl); (case hg => rfl); (case hr => first | (go_simp; done) | (go_simp; rfl)); intro gb134 hg w21 hbox hb; have BK134 := Aside0.mk (hbox); have GW134 := Aside0.mk ((bsz hg : w.heap.size ≤ gb134)); have GE134 := Aside0.mk ((bsz hg : w.heap.size ≤ gb134)); replace HB := Aside0.mk (below_step bel hb); clear hb hbox hg) | ((with_reducible refine gate_dst (N := 3) rfl ?_); refine box_event ?hg (N := 3) ?hd (cs := #[.int .i64 a1_0, .int .i64 a1_1, .int .i64 a1_2]) (t := 60) ?hr ?_; (case hd => rfl); (case hg => rfl); (case hr => first | (go_simp; done) | (go_simp; rfl)); intro gb135 hg w22 hbox hb; have BK135 := Aside0.mk (hbox); have GW135 := Aside0.mk ((bsz hg : w.heap.size ≤ gb135)); have GE135 := Aside0.mk ((bsz hg : w.heap.size ≤ gb135)); have NB134_135 := Aside0.mk ((nlt hg BK134.out : gb134 ≠ gb135)); have NB135_134 := Aside0.mk ((ngt hg BK134.out : gb135 ≠ gb134)); replace BK134 := Aside0.mk (bb BK134.out hb); replace HB := Aside0.mk (below_step bel hb); clear hb hbox hg; have hnb23 := NB134_135.out; have hnc23 := NB135_134.out; obtain ⟨hcz24_0, hcz24_1, hcz24_2, hfz24_0, hfz24_1, hfz24_2⟩ := cf3 BK134.out; obtain ⟨hcz25_0, hcz25_1, hcz25_2, hfz25_0, hfz25_1, hfz25_2⟩ := cf3 BK135.out))
    go_ret
    exact ⟨er, bel⟩

end Go.Proofs.Yteaemblallbgpaa.X
