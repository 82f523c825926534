-- Written by a program of this session (wip/xp.py, over the kit's print) out of the translation: functions, and the walks that show them.
import Derived.Test.YtgalpgakdcfilaaQ0
import Derived.Test.YtgalpgakdcfilaaQ25
import Derived.Test.YtgalpgakdcfilaaQ27
namespace Go.Proofs.Ytgalpgakdcfilaa.Q
open Go.RowKit Go.Proofs.YtgalpgakdcfilaaW.PrintWords Go.Proofs.YtgalpgakdcfilaaW.PrintLast Go.Proofs.YtgalpgakdcfilaaW.PrintMore
attribute [local go_sem] max2_int min2_int max_two min_two max_three min_three max_four min_four   -- for this text's walks alone
set_option linter.unusedVariables false
set_option linter.unusedSimpArgs false

def impl_FieldOk_1.f (a0_0 : ByteArray) (a0_1 : Int) (a0_2 : Int) (a1_0 : ByteArray) (a1_1 : Int) (a1_2 : Int) : Option (Bool) := if a0_0.toList = a1_0.toList then (some true) else (some (a0_2 == a1_2))
set_option maxHeartbeats 8000000 in
set_option maxRecDepth 100000 in
theorem impl_FieldOk_1.calls (a0_0 : ByteArray) (a0_1 : Int) (a0_2 : Int) (gb371 : Nat) (a1_0 : ByteArray) (a1_1 : Int) (a1_2 : Int) (r : Bool) (w : World) (hbk371 : w.heap[gb371]? = some (.cells #[.string a1_0, .int .i64 a1_1, .int .i64 a1_2] 101 (0, 0))) (h : impl_FieldOk_1.f a0_0 a0_1 a0_2 a1_0 a1_1 a1_2 = some r) :
    Calls Try.prog 122 #[.agg #[.string a0_0, .int .i64 a0_1, .int .i64 a0_2], .pointer (some ⟨gb371, 0, none⟩)] w fun e w' => e = .returned (.bool r) ∧ Below w.heap.size w w' := by
  have hu101 := Try.underlying101
  have BK371 := Aside0.mk hbk371
  clear hbk371
  have HB := Aside0.mk (Below.refl w.heap.size w)
  have H : (if a0_0.toList = a1_0.toList then (some true) else (some (a0_2 == a1_2))) = some r := h
  clear h
  by_cases c3 : a0_0.toList = a1_0.toList
  · rw [if_pos c3] at H
    have c3b0 : (a0_0.toList == a1_0.toList) = true := beq_iff_eq.mpr c3
    have c3b1 : (a0_0.toList != a1_0.toList) = false := bne_eq_false_iff_eq.mpr c3
    clear c3
    obtain rfl := Option.some.inj H
    go_enter Try.func122, Try.ntmps122
    go_wp2_with (first | ((with_reducible refine gate_dst (N := 2) rfl ?_); refine box_event ?hg (N := 2) ?hd (cs := #[.string a0_0, .int .i64 a0_1, .int .i64 a0_2]) (t := 101) ?hr ?_; (case hd => rfl); (case hg => rfl); (case hr => first | (go_simp; done) | (go_simp; rfl)); intro gb372 hg w4 hbox hb; have BK372 := Aside0.mk (hbox); have GW372 := Aside0.mk ((bsz hg : w.heap.size ≤ gb372)); have GE372 := Aside0.mk ((bsz hg : w.heap.size ≤ gb372)); have NB371_372 := Aside0.mk ((nlt hg BK371.out : gb371 ≠ gb372)); have NB372_371 := Aside0.mk ((ngt hg BK371.out : gb372 ≠ gb371)); replace BK371 := Aside0.mk (bb BK371.out hb); replace HB := Aside0.mk (below_step bel hb); clear hb hbox hg; have hnb5 := NB372_371.out; have hnc5 := NB371_372.out; obtain ⟨hcz6_0, hcz6_1, hcz6_2, hfz6_0, hfz6_1, hfz6_2⟩ := cf3 BK372.out; obtain ⟨hcz7_0, hcz7_1, hcz7_2, hfz7_0, hfz7_1, hfz7_2⟩ := cf3 BK371.out))
    go_ret
    exact ⟨er, bel⟩
  · rw [if_neg c3] at H
    have c3b0 : (a0_0.toList == a1_0.toList) = false := beq_eq_false_iff_ne.mpr c3
    have c3b1 : (a0_0.toList != a1_0.toList) = true := bne_iff_ne.mpr c3
    obtain rfl := Option.some.inj H
    go_enter Try.func122, Try.ntmps122
    go_wp2_with (first | ((with_reducible refine gate_dst (N := 2) rfl ?_); refine box_event ?hg (N := 2) ?hd (cs := #[.string a0_0, .int .i64 a0_1, .int .i64 a0_2]) (t := 101) ?hr ?_; (case hd => rfl); (case hg => rfl); (case hr => first | (go_simp; done) | (go_simp; rfl)); intro gb372 hg w8 hbox hb; have BK372 := Aside0.mk (hbox); have GW372 := Aside0.mk ((bsz hg : w.heap.size ≤ gb372)); have GE372 := Aside0.mk ((bsz hg : w.heap.size ≤ gb372)); have NB371_372 := Aside0.mk ((nlt hg BK371.out : gb371 ≠ gb372)); have NB372_371 := Aside0.mk ((ngt hg BK371.out : gb372 ≠ gb371)); replace BK371 := Aside0.mk (bb BK371.out hb); replace HB := Aside0.mk (below_step bel hb); clear hb hbox hg; have hnb9 := NB372_371.out; have hnc9 := NB371_372.out; obtain ⟨hcz10_0, hcz10_1, hcz10_2, hfz10_0, hfz10_1, hfz10_2⟩ := cf3 BK372.out; obtain ⟨hcz11_0, hcz11_1, hcz11_2, hfz11_0, hfz11_1, hfz11_2⟩ := cf3 BK371.out))
    go_ret
    exact ⟨er, bel⟩
def slices_IndexFunc_impl_Team_impl_Team_impl_FieldOk_1.l0 : Nat → List (S101) → Int → Int → ByteArray → Int → Int → Option (Int)
  | 0, _, _, _, _, _, _ => none
  | k + 1, x0, x7, x8, x374000, x374001, x374002 => if x8 < x7 then (if 0 ≤ x8 then (if x8 < (x0.length : Int) then ((impl_FieldOk_1.f ((rd_T101 x0 x8).f0) ((rd_T101 x0 x8).f1) ((rd_T101 x0 x8).f2) x374000 x374001 x374002).bind fun t375 => (if t375 = true then (some x8) else (slices_IndexFunc_impl_Team_impl_Team_impl_FieldOk_1.l0 k x0 x7 (wrap64 (x8 + 1)) x374000 x374001 x374002))) else (none)) else (none)) else (some (-1))
def slices_IndexFunc_impl_Team_impl_Team_impl_FieldOk_1.f (k : Nat) (l0 : List (S101))  (a2_0 : ByteArray) (a2_1 : Int) (a2_2 : Int) : Option (Int) := slices_IndexFunc_impl_Team_impl_Team_impl_FieldOk_1.l0 k l0 (l0.length : Int) 0 a2_0 a2_1 a2_2
set_option maxHeartbeats 8000000 in
set_option maxRecDepth 100000 in
theorem slices_IndexFunc_impl_Team_impl_Team_impl_FieldOk_1.calls (k : Nat) (A0 : Option Addr) (c0 : Nat) (l0 : List (S101))  (gb373 : Nat) (a2_0 : ByteArray) (a2_1 : Int) (a2_2 : Int) (r : Int) (w : World) (hr0 : Kd.C k101 w A0 l0.length l0) (hc0 : l0.length ≤ c0) (hbk373 : w.heap[gb373]? = some (.cells #[.string a2_0, .int .i64 a2_1, .int .i64 a2_2] 101 (0, 0))) (h : slices_IndexFunc_impl_Team_impl_Team_impl_FieldOk_1.f k l0 a2_0 a2_1 a2_2 = some r) :
    Calls Try.prog 138 #[.slice A0 l0.length c0, .func (.func 122) #[] #[.pointer (some ⟨gb373, 0, none⟩)]] w fun e w' => e = .returned (.int .i64 r) ∧ Below w.heap.size w w' := by
  have hu101 := Try.underlying101
  have HR0 := Aside0.mk hr0
  have HC0 := Aside0.mk hc0
  clear hr0 hc0
  have BK373 := Aside0.mk hbk373
  clear hbk373
  have HB := Aside0.mk (Below.refl w.heap.size w)
  have H : (slices_IndexFunc_impl_Team_impl_Team_impl_FieldOk_1.l0 k l0 (l0.length : Int) 0 a2_0 a2_1 a2_2) = some r := h
  clear h
  have H' := Aside0.mk H
  clear H
  go_enter Try.func138, Try.ntmps138
  go_wp2
  go_loopg [8] k (fun kq v8 w' => ∃ (x8_1 : Int), v8 = .int .i64 x8_1 ∧ Aside0 (slices_IndexFunc_impl_Team_impl_Team_impl_FieldOk_1.l0 kq l0 (l0.length : Int) x8_1 a2_0 a2_1 a2_2 = some r) ∧ Aside0 (kq ≤ k) ∧ Aside0 (w'.heap[gb373]? = some (.cells #[.string a2_0, .int .i64 a2_1, .int .i64 a2_2] 101 (0, 0))) ∧ Aside0 (Below w.heap.size w w'))
  case atStart => exact ⟨(0), (es), H', ⟨Nat.le_refl _⟩, ⟨bk BK373.out⟩, ⟨bel⟩⟩
  case round =>
    clear H'
    try clear c1; try clear p2
    obtain ⟨x8_1, rfl, HA, HK1, BK373, HB⟩ := hrel
    cases gk with
    | zero => exact absurd HA.out (by simp [slices_IndexFunc_impl_Team_impl_Team_impl_FieldOk_1.l0])
    | succ k1 =>
      have H := HA.out
      clear HA
      simp only [slices_IndexFunc_impl_Team_impl_Team_impl_FieldOk_1.l0] at H
      by_cases c4 : x8_1 < (l0.length : Int)
      · rw [if_pos c4] at H
        have c4b0 : decide (x8_1 < (l0.length : Int)) = true := decide_eq_true c4
        clear c4
        by_cases c5 : 0 ≤ x8_1
        · rw [if_pos c5] at H
          have c5b0 : decide (0 ≤ x8_1) = true := decide_eq_true c5
          clear c5
          by_cases c6 : x8_1 < (l0.length : Int)
          · rw [if_pos c6] at H
            have c6b0 : decide (x8_1 < (l0.length : Int)) = true := decide_eq_true c6
            clear c6
            replace H := Option.bind_eq_some_iff.mp H
            obtain ⟨t375, A70, H⟩ := H
            replace H : (if t375 = true then (some x8_1) else (slices_IndexFunc_impl_Team_impl_Team_impl_FieldOk_1.l0 k1 l0 (l0.length : Int) (wrap64 (x8_1 + 1)) a2_0 a2_1 a2_2)) = some r := H
            have A7 := Aside0.mk A70
            clear A70
            by_cases c8 : t375 = true
            · subst c8
              have H1 : (some x8_1) = some r := by rw [if_pos rfl] at H; exact H
              clear H
              have H := H1
              clear H1
              obtain rfl := Option.some.inj H
              have p374 : 0 ≤ (x8_1 : Int) := asm
              have q374 : x8_1 < (l0.length : Int) := asm
              obtain ⟨ad374, e374, hx374_0, hx374_1, hx374_2⟩ := at_T101 HR0.out x8_1 p374 q374
              cases e374
              replace hx374_0 := hcl HB.out hx374_0
              replace hx374_1 := hcl HB.out hx374_1
              replace hx374_2 := hcl HB.out hx374_2
              replace p374 := eq_true p374
              replace q374 := eq_true q374
              go_wp2_with (first | (go_at_call 122; (with_reducible refine (impl_FieldOk_1.calls ((rd_T101 l0 x8_1).f0) ((rd_T101 l0 x8_1).f1) ((rd_T101 l0 x8_1).f2) gb373 a2_0 a2_1 a2_2 true _ ?side1 A7.out).mono ?_); (case side1 => exact (bk BK373.out)); rintro e w9 ⟨rfl, hb⟩; replace BK373 := Aside0.mk (bb BK373.out hb); replace HB := Aside0.mk (below_step bel hb); (try clear hb); (try clear hb2); (try clear hk); (try clear hi)))
              go_ret
              exact ⟨er, bel⟩
            · replace c8 := Bool.eq_false_iff.mpr c8
              subst c8
              have H1 : (slices_IndexFunc_impl_Team_impl_Team_impl_FieldOk_1.l0 k1 l0 (l0.length : Int) (wrap64 (x8_1 + 1)) a2_0 a2_1 a2_2) = some r := by rw [if_neg (show ¬ (false = true) by decide)] at H; exact H
              clear H
              have H := H1
              clear H1
              have H' := Aside0.mk H
              clear H
              have p374 : 0 ≤ (x8_1 : Int) := asm
              have q374 : x8_1 < (l0.length : Int) := asm
              obtain ⟨ad374, e374, hx374_0, hx374_1, hx374_2⟩ := at_T101 HR0.out x8_1 p374 q374
              cases e374
              replace hx374_0 := hcl HB.out hx374_0
              replace hx374_1 := hcl HB.out hx374_1
              replace hx374_2 := hcl HB.out hx374_2
              replace p374 := eq_true p374
              replace q374 := eq_true q374
              go_wp2_with (first | (go_at_call 122; (with_reducible refine (impl_FieldOk_1.calls ((rd_T101 l0 x8_1).f0) ((rd_T101 l0 x8_1).f1) ((rd_T101 l0 x8_1).f2) gb373 a2_0 a2_1 a2_2 false _ ?side1 A7.out).mono ?_); (case side1 => exact (bk BK373.out)); rintro e w10 ⟨rfl, hb⟩; replace BK373 := Aside0.mk (bb BK373.out hb); replace HB := Aside0.mk (below_step bel hb); (try clear hb); (try clear hb2); (try clear hk); (try clear hi)))
              go_roundg k1
              case measure => have := HK1.out; omega
              case rel => exact ⟨(wrap64 (x8_1 + 1)), (es), H', ⟨by have := HK1.out; omega⟩, ⟨bk BK373.out⟩, ⟨bel⟩⟩
          · rw [if_neg c6] at H
            exact absurd H (by simp)
        · rw [if_neg c5] at H
          exact absurd H (by simp)
      · rw [if_neg c4] at H
        have c4b0 : decide (x8_1 < (l0.length : Int)) = false := decide_eq_false c4
        clear c4
        obtain rfl := Option.some.inj H
        go_wp2
        go_ret
        exact ⟨er, bel⟩
def slices_ContainsFunc_impl_Team_impl_Team_impl_FieldOk_1.f (k : Nat) (l0 : List (S101))  (a2_0 : ByteArray) (a2_1 : Int) (a2_2 : Int) : Option (Bool) := (slices_IndexFunc_impl_Team_impl_Team_impl_FieldOk_1.f k l0 a2_0 a2_1 a2_2).bind fun t377 => (some (decide (t377 ≥ 0)))
set_option maxHeartbeats 8000000 in
set_option maxRecDepth 100000 in
theorem slices_ContainsFunc_impl_Team_impl_Team_impl_FieldOk_1.calls (k : Nat) (A0 : Option Addr) (c0 : Nat) (l0 : List (S101))  (gb376 : Nat) (a2_0 : ByteArray) (a2_1 : Int) (a2_2 : Int) (r : Bool) (w : World) (hr0 : Kd.C k101 w A0 l0.length l0) (hc0 : l0.length ≤ c0) (hbk376 : w.heap[gb376]? = some (.cells #[.string a2_0, .int .i64 a2_1, .int .i64 a2_2] 101 (0, 0))) (h : slices_ContainsFunc_impl_Team_impl_Team_impl_FieldOk_1.f k l0 a2_0 a2_1 a2_2 = some r) :
    Calls Try.prog 121 #[.slice A0 l0.length c0, .func (.func 122) #[] #[.pointer (some ⟨gb376, 0, none⟩)]] w fun e w' => e = .returned (.bool r) ∧ Below w.heap.size w w' := by
  have HR0 := Aside0.mk hr0
  have HC0 := Aside0.mk hc0
  clear hr0 hc0
  have BK376 := Aside0.mk hbk376
  clear hbk376
  have HB := Aside0.mk (Below.refl w.heap.size w)
  have H : ((slices_IndexFunc_impl_Team_impl_Team_impl_FieldOk_1.f k l0 a2_0 a2_1 a2_2).bind fun t377 => (some (decide (t377 ≥ 0)))) = some r := h
  clear h
  replace H := Option.bind_eq_some_iff.mp H
  obtain ⟨t377, A40, H⟩ := H
  replace H : (some (decide (t377 ≥ 0))) = some r := H
  have A4 := Aside0.mk A40
  clear A40
  obtain rfl := Option.some.inj H
  go_enter Try.func121, Try.ntmps121
  go_wp2_with (first | ((with_reducible refine gate_callee (f := 138) rfl ?_); refine goesL_ (some 7) rfl rfl Try.func138 (by kernel_rfl) rfl #[.slice A0 l0.length c0, .func (.func 122) #[] #[.pointer (some ⟨gb376, 0, none⟩)]] rfl ga ?_; (with_reducible refine (slices_IndexFunc_impl_Team_impl_Team_impl_FieldOk_1.calls k _ _ l0 gb376 a2_0 a2_1 a2_2 t377 _ ?side1 ?side2 ?side3 A4.out).mono ?_); (case side1 => exact ck HR0.out); (case side2 => exact HC0.out); (case side3 => exact (bk BK376.out)); rintro e w5 ⟨rfl, hb⟩; refine ⟨_, rfl, ?_⟩; replace BK376 := Aside0.mk (bb BK376.out hb); replace HB := Aside0.mk (below_step bel hb); (try clear hb)))
  go_ret
  exact ⟨er, bel⟩
def impl_FieldOk.l0 : Nat → List (S101) → List (S101) → Int → Int → Option (Bool)
  | 0, _, _, _, _ => none
  | k + 1, x0, x5, x6, x7 => if x7 < x6 then (if 0 ≤ x7 then (if x7 < (x5.length : Int) then ((impl_TeamOk.f k ((rd_T101 x5 x7).f0) ((rd_T101 x5 x7).f1) ((rd_T101 x5 x7).f2)).bind fun t381 => (if t381 = true then (if x7 ≤ (x0.length : Int) then ((slices_ContainsFunc_impl_Team_impl_Team_impl_FieldOk_1.f k (x0.take (x7 : Int).toNat) ((rd_T101 x5 x7).f0) ((rd_T101 x5 x7).f1) ((rd_T101 x5 x7).f2)).bind fun t386 => (if t386 = true then (some false) else (impl_FieldOk.l0 k x0 x5 x6 (wrap64 (x7 + 1))))) else (none)) else (some false))) else (none)) else (none)) else ((impl_within.f (x0.length : Int) 2 8).bind fun t378 => (some t378))
def impl_FieldOk.f (k : Nat) (l0 : List (S101)) : Option (Bool) := impl_FieldOk.l0 k l0 l0 (l0.length : Int) 0
set_option maxHeartbeats 8000000 in
set_option maxRecDepth 100000 in
theorem impl_FieldOk.calls (k : Nat) (A0 : Option Addr) (c0 : Nat) (l0 : List (S101)) (r : Bool) (w : World) (hr0 : Kd.C k101 w A0 l0.length l0) (hc0 : l0.length ≤ c0) (h : impl_FieldOk.f k l0 = some r) :
    Calls Try.prog 96 #[.slice A0 l0.length c0] w fun e w' => e = .returned (.bool r) ∧ Below w.heap.size w w' := by
  have hu101 := Try.underlying101
  have HR0 := Aside0.mk hr0
  have HC0 := Aside0.mk hc0
  clear hr0 hc0
  have HB := Aside0.mk (Below.refl w.heap.size w)
  have H : (impl_FieldOk.l0 k l0 l0 (l0.length : Int) 0) = some r := h
  clear h
  have H' := Aside0.mk H
  clear H
  go_enter Try.func96, Try.ntmps96
  go_wp2
  go_loopg [7] k (fun kq v7 w' => ∃ (x7_1 : Int), v7 = .int .i64 x7_1 ∧ Aside0 (impl_FieldOk.l0 kq l0 l0 (l0.length : Int) x7_1 = some r) ∧ Aside0 (kq ≤ k) ∧ Aside0 (Below w.heap.size w w'))
  case atStart => exact ⟨(0), (es), H', ⟨Nat.le_refl _⟩, ⟨bel⟩⟩
  case round =>
    clear H'
    obtain ⟨x7_1, rfl, HA, HK1, HB⟩ := hrel
    cases gk with
    | zero => exact absurd HA.out (by simp [impl_FieldOk.l0])
    | succ k1 =>
      have H := HA.out
      clear HA
      simp only [impl_FieldOk.l0] at H
      by_cases c2 : x7_1 < (l0.length : Int)
      · rw [if_pos c2] at H
        have c2b0 : decide (x7_1 < (l0.length : Int)) = true := decide_eq_true c2
        clear c2
        by_cases c3 : 0 ≤ x7_1
        · rw [if_pos c3] at H
          have c3b0 : decide (0 ≤ x7_1) = true := decide_eq_true c3
          clear c3
          by_cases c4 : x7_1 < (l0.length : Int)
          · rw [if_pos c4] at H
            have c4b0 : decide (x7_1 < (l0.length : Int)) = true := decide_eq_true c4
            clear c4
            replace H := Option.bind_eq_some_iff.mp H
            obtain ⟨t381, A50, H⟩ := H
            replace H : (if t381 = true then (if x7_1 ≤ (l0.length : Int) then ((slices_ContainsFunc_impl_Team_impl_Team_impl_FieldOk_1.f k1 (l0.take (x7_1 : Int).toNat) ((rd_T101 l0 x7_1).f0) ((rd_T101 l0 x7_1).f1) ((rd_T101 l0 x7_1).f2)).bind fun t386 => (if t386 = true then (some false) else (impl_FieldOk.l0 k1 l0 l0 (l0.length : Int) (wrap64 (x7_1 + 1))))) else (none)) else (some false)) = some r := H
            have A5 := Aside0.mk A50
            clear A50
            by_cases c6 : t381 = true
            · subst c6
              have H1 : (if x7_1 ≤ (l0.length : Int) then ((slices_ContainsFunc_impl_Team_impl_Team_impl_FieldOk_1.f k1 (l0.take (x7_1 : Int).toNat) ((rd_T101 l0 x7_1).f0) ((rd_T101 l0 x7_1).f1) ((rd_T101 l0 x7_1).f2)).bind fun t386 => (if t386 = true then (some false) else (impl_FieldOk.l0 k1 l0 l0 (l0.length : Int) (wrap64 (x7_1 + 1))))) else (none)) = some r := by rw [if_pos rfl] at H; exact H
              clear H
              have H := H1
              clear H1
              have c7b0 := eq_true (asm : 0 ≤ x7_1)
              by_cases c8 : x7_1 ≤ (l0.length : Int)
              · rw [if_pos c8] at H
                have c8b0 := eq_true c8
                have c8b1 : decide (x7_1 ≤ (l0.length : Int)) = true := decide_eq_true c8
                clear c8
                obtain ⟨y382, hy382⟩ : ∃ y_ : List (S101), y_ = (l0.take (x7_1 : Int).toNat) := ⟨_, rfl⟩
                replace H : ((slices_ContainsFunc_impl_Team_impl_Team_impl_FieldOk_1.f k1 y382 ((rd_T101 l0 x7_1).f0) ((rd_T101 l0 x7_1).f1) ((rd_T101 l0 x7_1).f2)).bind fun t386 => (if t386 = true then (some false) else (impl_FieldOk.l0 k1 l0 l0 (l0.length : Int) (wrap64 (x7_1 + 1))))) = some r := by first | (rw [hy382]; with_reducible exact H) | (have H2_ := (Option.bind_some _ _).symm.trans H; rw [hy382]; with_reducible exact H2_) | (have H2_ := (Option.bind_some _ _).symm.trans H; with_reducible exact H2_) | with_reducible exact H | (rw [hy382]; exact H) | exact H
                have Ny382 := Aside0.mk hy382
                clear hy382
                replace H := Option.bind_eq_some_iff.mp H
                obtain ⟨t386, A90, H⟩ := H
                replace H : (if t386 = true then (some false) else (impl_FieldOk.l0 k1 l0 l0 (l0.length : Int) (wrap64 (x7_1 + 1)))) = some r := H
                have A9 := Aside0.mk A90
                clear A90
                by_cases c10 : t386 = true
                · subst c10
                  have H1 : (some false) = some r := by rw [if_pos rfl] at H; exact H
                  clear H
                  have H := H1
                  clear H1
                  obtain rfl := Option.some.inj H
                  have p379 : 0 ≤ (x7_1 : Int) := asm
                  have q379 : x7_1 < (l0.length : Int) := asm
                  obtain ⟨ad379, e379, hx379_0, hx379_1, hx379_2⟩ := at_T101 HR0.out x7_1 p379 q379
                  cases e379
                  replace hx379_0 := hcl HB.out hx379_0
                  replace hx379_1 := hcl HB.out hx379_1
                  replace hx379_2 := hcl HB.out hx379_2
                  replace p379 := eq_true p379
                  replace q379 := eq_true q379
                  go_wp2_with (first | ((with_reducible refine gate_dst (N := 4) rfl ?_); refine box_event ?hg (N := 4) ?hd (cs := #[.string (⟨#[]⟩ : ByteArray), .int .i64 0, .int .i64 0]) (t := 101) ?hr ?_; (case hd => rfl); (case hg => rfl); (case hr => first | (go_simp; done) | (go_simp; rfl)); intro gb380 hg w11 hbox hb; have BK380 := Aside0.mk (hbox); have GW380 := Aside0.mk ((bsz hg : w.heap.size ≤ gb380)); have GE380 := Aside0.mk ((bsz hg : w.heap.size ≤ gb380)); replace HB := Aside0.mk (below_step bel hb); clear hb hbox hg; obtain ⟨hcz12_0, hcz12_1, hcz12_2, hfz12_0, hfz12_1, hfz12_2⟩ := cf3 BK380.out) | ((with_reducible refine gate_callee (f := 120) rfl ?_); refine goesL_ (some 13) rfl rfl Try.func120 (by kernel_rfl) rfl #[.agg #[.string ((rd_T101 l0 x7_1).f0), .int .i64 ((rd_T101 l0 x7_1).f1), .int .i64 ((rd_T101 l0 x7_1).f2)]] rfl ga ?_; (with_reducible refine (impl_TeamOk.calls k1 ((rd_T101 l0 x7_1).f0) ((rd_T101 l0 x7_1).f1) ((rd_T101 l0 x7_1).f2) true _ A5.out).mono ?_); rintro e w13 ⟨rfl, hb⟩; refine ⟨_, rfl, ?_⟩; replace BK380 := Aside0.mk (blk_below (g := gb380) (o := .cells #[.string ((rd_T101 l0 x7_1).f0), .int .i64 ((rd_T101 l0 x7_1).f1), .int .i64 ((rd_T101 l0 x7_1).f2)] 101 (0, 0)) (by (with_reducible repeat (first | refine blk_drewN ?_ _ | refine blk_drew ?_ | refine blk_alloc ?_ _)); refine blk_put (cs := #[.string ((rd_T101 l0 x7_1).f0), .int .i64 ((rd_T101 l0 x7_1).f1), .int .i64 0]) ?_ 2 _ rfl; (with_reducible repeat (first | refine blk_drewN ?_ _ | refine blk_drew ?_ | refine blk_alloc ?_ _)); refine blk_put (cs := #[.string ((rd_T101 l0 x7_1).f0), .int .i64 0, .int .i64 0]) ?_ 1 _ rfl; (with_reducible repeat (first | refine blk_drewN ?_ _ | refine blk_drew ?_ | refine blk_alloc ?_ _)); refine blk_put (cs := #[.string (⟨#[]⟩ : ByteArray), .int .i64 0, .int .i64 0]) ?_ 0 _ rfl; (with_reducible repeat (first | refine blk_drewN ?_ _ | refine blk_drew ?_ | refine blk_alloc ?_ _)); exact BK380.out) hb); replace HB := Aside0.mk (below_step bel hb); (try clear hb); have q14 : (x7_1 : Int) ≤ ((l0.length : Int) : Int) := asm; obtain ⟨i014, hi014, _, hsz14, _⟩ := info_parts info101; have hroom14 : l0.length ≤ c0 := HC0.out; have hC14 : Kd.C k101 _ (some ad379) l0.length l0 := HR0.out; have hcut14 := cut_to (P := Try.prog) 33 101 .i64 Try.underlying33 hi014 (some ad379) l0.length c0 x7_1 (asm) q14 hroom14; have hr14 := Kd.C_take (m := (x7_1 : Int).toNat) hC14 (by omega); have hy14 : y382.length = (x7_1 : Int).toNat := (by rw [Ny382.out, List.length_take]; omega); rw [← Ny382.out] at hr14; rw [← hy14] at hcut14; have HR385 := Aside0.mk hr14; have HC385 := Aside0.mk (show y382.length ≤ c0 from by omega); clear hr14 hC14 hroom14 hi014 hsz14; have KY14 := Aside0.mk hy14; clear hy14; replace q14 := eq_true q14) | (go_at_call 121; (with_reducible refine (slices_ContainsFunc_impl_Team_impl_Team_impl_FieldOk_1.calls k1 _ _ y382 gb380 ((rd_T101 l0 x7_1).f0) ((rd_T101 l0 x7_1).f1) ((rd_T101 l0 x7_1).f2) true _ ?side1 ?side2 ?side3 A9.out).mono ?_); (case side1 => exact ck (Kd.C_below HR385.out HB.out)); (case side2 => exact HC385.out); (case side3 => exact (bk BK380.out)); rintro e w15 ⟨rfl, hb⟩; replace BK380 := Aside0.mk (bb BK380.out hb); replace HB := Aside0.mk (below_step bel hb); (try clear hb); (try clear hb2); (try clear hk); (try clear hi)))
                  go_ret
                  exact ⟨er, bel⟩
                · replace c10 := Bool.eq_false_iff.mpr c10
                  subst c10
                  have H1 : (impl_FieldOk.l0 k1 l0 l0 (l0.length : Int) (wrap64 (x7_1 + 1))) = some r := by rw [if_neg (show ¬ (false = true) by decide)] at H; exact H
                  clear H
                  have H := H1
                  clear H1
                  have H' := Aside0.mk H
                  clear H
                  have p379 : 0 ≤ (x7_1 : Int) := asm
                  have q379 : x7_1 < (l0.length : Int) := asm
                  obtain ⟨ad379, e379, hx379_0, hx379_1, hx379_2⟩ := at_T101 HR0.out x7_1 p379 q379
                  cases e379
                  replace hx379_0 := hcl HB.out hx379_0
                  replace hx379_1 := hcl HB.out hx379_1
                  replace hx379_2 := hcl HB.out hx379_2
                  replace p379 := eq_true p379
                  replace q379 := eq_true q379
                  go_wp2_with (first | ((with_reducible refine gate_dst (N := 4) rfl ?_); refine box_event ?hg (N := 4) ?hd (cs := #[.string (⟨#[]⟩ : ByteArray), .int .i64 0, .int .i64 0]) (t := 101) ?hr ?_; (case hd => rfl); (case hg => rfl); (case hr => first | (go_simp; done) | (go_simp; rfl)); intro gb380 hg w16 hbox hb; have BK380 := Aside0.mk (hbox); have GW380 := Aside0.mk ((bsz hg : w.heap.size ≤ gb380)); have GE380 := Aside0.mk ((bsz hg : w.heap.size ≤ gb380)); replace HB := Aside0.mk (below_step bel hb); clear hb hbox hg; obtain ⟨hcz17_0, hcz17_1, hcz17_2, hfz17_0, hfz17_1, hfz17_2⟩ := cf3 BK380.out) | ((with_reducible refine gate_callee (f := 120) rfl ?_); refine goesL_ (some 13) rfl rfl Try.func120 (by kernel_rfl) rfl #[.agg #[.string ((rd_T101 l0 x7_1).f0), .int .i64 ((rd_T101 l0 x7_1).f1), .int .i64 ((rd_T101 l0 x7_1).f2)]] rfl ga ?_; (with_reducible refine (impl_TeamOk.calls k1 ((rd_T101 l0 x7_1).f0) ((rd_T101 l0 x7_1).f1) ((rd_T101 l0 x7_1).f2) true _ A5.out).mono ?_); rintro e w18 ⟨rfl, hb⟩; refine ⟨_, rfl, ?_⟩; replace BK380 := Aside0.mk (blk_below (g := gb380) (o := .cells #[.string ((rd_T101 l0 x7_1).f0), .int .i64 ((rd_T101 l0 x7_1).f1), .int .i64 ((rd_T101 l0 x7_1).f2)] 101 (0, 0)) (by (with_reducible repeat (first | refine blk_drewN ?_ _ | refine blk_drew ?_ | refine blk_alloc ?_ _)); refine blk_put (cs := #[.string ((rd_T101 l0 x7_1).f0), .int .i64 ((rd_T101 l0 x7_1).f1), .int .i64 0]) ?_ 2 _ rfl; (with_reducible repeat (first | refine blk_drewN ?_ _ | refine blk_drew ?_ | refine blk_alloc ?_ _)); refine blk_put (cs := #[.string ((rd_T101 l0 x7_1).f0), .int .i64 0, .int .i64 0]) ?_ 1 _ rfl; (with_reducible repeat (first | refine blk_drewN ?_ _ | refine blk_drew ?_ | refine blk_alloc ?_ _)); refine blk_put (cs := #[.string (⟨#[]⟩ : ByteArray), .int .i64 0, .int .i64 0]) ?_ 0 _ rfl; (with_reducible repeat (first | refine blk_drewN ?_ _ | refine blk_drew ?_ | refine blk_alloc ?_ _)); exact BK380.out) hb); replace HB := Aside0.mk (below_step bel hb); (try clear hb); have q19 : (x7_1 : Int) ≤ ((l0.length : Int) : Int) := asm; obtain ⟨i019, hi019, _, hsz19, _⟩ := info_parts info101; have hroom19 : l0.length ≤ c0 := HC0.out; have hC19 : Kd.C k101 _ (some ad379) l0.length l0 := HR0.out; have hcut19 := cut_to (P := Try.prog) 33 101 .i64 Try.underlying33 hi019 (some ad379) l0.length c0 x7_1 (asm) q19 hroom19; have hr19 := Kd.C_take (m := (x7_1 : Int).toNat) hC19 (by omega); have hy19 : y382.length = (x7_1 : Int).toNat := (by rw [Ny382.out, List.length_take]; omega); rw [← Ny382.out] at hr19; rw [← hy19] at hcut19; have HR385 := Aside0.mk hr19; have HC385 := Aside0.mk (show y382.length ≤ c0 from by omega); clear hr19 hC19 hroom19 hi019 hsz19; have KY19 := Aside0.mk hy19; clear hy19; replace q19 := eq_true q19) | (go_at_call 121; (with_reducible refine (slices_ContainsFunc_impl_Team_impl_Team_impl_FieldOk_1.calls k1 _ _ y382 gb380 ((rd_T101 l0 x7_1).f0) ((rd_T101 l0 x7_1).f1) ((rd_T101 l0 x7_1).f2) false _ ?side1 ?side2 ?side3 A9.out).mono ?_); (case side1 => exact ck (Kd.C_below HR385.out HB.out)); (case side2 => exact HC385.out); (case side3 => exact (bk BK380.out)); rintro e w20 ⟨rfl, hb⟩; replace BK380 := Aside0.mk (bb BK380.out hb); replace HB := Aside0.mk (below_step bel hb); (try clear hb); (try clear hb2); (try clear hk); (try clear hi)))
                  go_roundg k1
                  case measure => have := HK1.out; omega
                  case rel => exact ⟨(wrap64 (x7_1 + 1)), (es), H', ⟨by have := HK1.out; omega⟩, ⟨bel⟩⟩
              · rw [if_neg c8] at H
                exact absurd H (by simp)
            · replace c6 := Bool.eq_false_iff.mpr c6
              subst c6
              have H1 : (some false) = some r := by rw [if_neg (show ¬ (false = true) by decide)] at H; exact H
              clear H
              have H := H1
              clear H1
              obtain rfl := Option.some.inj H
              have p379 : 0 ≤ (x7_1 : Int) := asm
              have q379 : x7_1 < (l0.length : Int) := asm
              obtain ⟨ad379, e379, hx379_0, hx379_1, hx379_2⟩ := at_T101 HR0.out x7_1 p379 q379
              cases e379
              replace hx379_0 := hcl HB.out hx379_0
              replace hx379_1 := hcl HB.out hx379_1
              replace hx379_2 := hcl HB.out hx379_2
              replace p379 := eq_true p379
              replace q379 := eq_true q379
              go_wp2_with (first | ((with_reducible refine gate_dst (N := 4) rfl ?_); refine box_event ?hg (N := 4) ?hd (cs := #[.string (⟨#[]⟩ : ByteArray), .int .i64 0, .int .i64 0]) (t := 101) ?hr ?_; (case hd => rfl); (case hg => rfl); (case hr => first | (go_simp; done) | (go_simp; rfl)); intro gb380 hg w21 hbox hb; have BK380 := Aside0.mk (hbox); have GW380 := Aside0.mk ((bsz hg : w.heap.size ≤ gb380)); have GE380 := Aside0.mk ((bsz hg : w.heap.size ≤ gb380)); replace HB := Aside0.mk (below_step bel hb); clear hb hbox hg; obtain ⟨hcz22_0, hcz22_1, hcz22_2, hfz22_0, hfz22_1, hfz22_2⟩ := cf3 BK380.out) | ((with_reducible refine gate_callee (f := 120) rfl ?_); refine goesL_ (some 13) rfl rfl Try.func120 (by kernel_rfl) rfl #[.agg #[.string ((rd_T101 l0 x7_1).f0), .int .i64 ((rd_T101 l0 x7_1).f1), .int .i64 ((rd_T101 l0 x7_1).f2)]] rfl ga ?_; (with_reducible refine (impl_TeamOk.calls k1 ((rd_T101 l0 x7_1).f0) ((rd_T101 l0 x7_1).f1) ((rd_T101 l0 x7_1).f2) false _ A5.out).mono ?_); rintro e w23 ⟨rfl, hb⟩; refine ⟨_, rfl, ?_⟩; replace BK380 := Aside0.mk (blk_below (g := gb380) (o := .cells #[.string ((rd_T101 l0 x7_1).f0), .int .i64 ((rd_T101 l0 x7_1).f1), .int .i64 ((rd_T101 l0 x7_1).f2)] 101 (0, 0)) (by (with_reducible repeat (first | refine blk_drewN ?_ _ | refine blk_drew ?_ | refine blk_alloc ?_ _)); refine blk_put (cs := #[.string ((rd_T101 l0 x7_1).f0), .int .i64 ((rd_T101 l0 x7_1).f1), .int .i64 0]) ?_ 2 _ rfl; (with_reducible repeat (first | refine blk_drewN ?_ _ | refine blk_drew ?_ | refine blk_alloc ?_ _)); refine blk_put (cs := #[.string ((rd_T101 l0 x7_1).f0), .int .i64 0, .int .i64 0]) ?_ 1 _ rfl; (with_reducible repeat (first | refine blk_drewN ?_ _ | refine blk_drew ?_ | refine blk_alloc ?_ _)); refine blk_put (cs := #[.string (⟨#[]⟩ : ByteArray), .int .i64 0, .int .i64 0]) ?_ 0 _ rfl; (with_reducible repeat (first | refine blk_drewN ?_ _ | refine blk_drew ?_ | refine blk_alloc ?_ _)); exact BK380.out) hb); replace HB := Aside0.mk (below_step bel hb); (try clear hb)))
              go_ret
              exact ⟨er, bel⟩
          · rw [if_neg c4] at H
            exact absurd H (by simp)
        · rw [if_neg c3] at H
          exact absurd H (by simp)
      · rw [if_neg c2] at H
        have c2b0 : decide (x7_1 < (l0.length : Int)) = false := decide_eq_false c2
        clear c2
        replace H := Option.bind_eq_some_iff.mp H
        obtain ⟨t378, A240, H⟩ := H
        replace H : (some t378) = some r := H
        have A24 := Aside0.mk A240
        clear A240
        obtain rfl := Option.some.inj H
        go_wp2_with (first | ((with_reducible refine gate_callee (f := 55) rfl ?_); refine goesL_ (some 25) rfl rfl Try.func55 (by kernel_rfl) rfl #[.int .i64 (l0.length : Int), .int .i64 2, .int .i64 8] rfl ga ?_; (with_reducible refine (impl_within.calls (l0.length : Int) 2 8 t378 _ A24.out).mono ?_); rintro e w' ⟨rfl, ⟨nd, rfl⟩⟩; refine ⟨_, rfl, ?_⟩))
        go_ret
        exact ⟨er, bel⟩

end Go.Proofs.Ytgalpgakdcfilaa.Q
