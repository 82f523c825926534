-- Written by a program of this session (wip/xp.py, over the kit's print) out of the translation: functions, and the walks that show them.
import Derived.Test.YtmpealaejigbfaaDoorR0
import Derived.Test.YtmpealaejigbfaaDoorR11
import Derived.Test.YtmpealaejigbfaaDoorR13
namespace Go.Proofs.YtmpealaejigbfaaDoor.R
open Go.RowKit Go.Proofs.YtmpealaejigbfaaDoorW.PrintWords Go.Proofs.YtmpealaejigbfaaDoorW.PrintLast Go.Proofs.YtmpealaejigbfaaDoorW.PrintMore
attribute [local go_sem] max2_int min2_int max_two min_two max_three min_three max_four min_four   -- for this text's walks alone
set_option linter.unusedVariables false
set_option linter.unusedSimpArgs false

/-! ### impl_FieldOk_1: function 35 -/
def impl_FieldOk_1.f (a0_0 : ByteArray) (a0_1 : Int) (a0_2 : Int) (a1_0 : ByteArray) (a1_1 : Int) (a1_2 : Int) : Option (Bool) := if a0_0.toList = a1_0.toList then (some true) else (some (a0_2 == a1_2))
set_option maxHeartbeats 8000000 in
set_option maxRecDepth 100000 in
theorem impl_FieldOk_1.calls (a0_0 : ByteArray) (a0_1 : Int) (a0_2 : Int) (gb230 : Nat) (a1_0 : ByteArray) (a1_1 : Int) (a1_2 : Int) (r : Bool) (w : World) (hbk230 : w.heap[gb230]? = some (.cells #[.string a1_0, .int .i64 a1_1, .int .i64 a1_2] 52 (0, 0))) (h : impl_FieldOk_1.f a0_0 a0_1 a0_2 a1_0 a1_1 a1_2 = some r) :
    Calls Tryd.prog 35 #[.agg #[.string a0_0, .int .i64 a0_1, .int .i64 a0_2], .pointer (some ⟨gb230, 0, none⟩)] w fun e w' => e = .returned (.bool r) ∧ Below w.heap.size w w' := by
  have hu52 := Tryd.underlying52
  have BK230 := Aside0.mk hbk230
  clear hbk230
  have HB := Aside0.mk (Below.refl w.heap.size w)
  have H : (if a0_0.toList = a1_0.toList then (some true) else (some (a0_2 == a1_2))) = some r := h
  clear h
  by_cases c3 : a0_0.toList = a1_0.toList
  · rw [if_pos c3] at H
    have c3b0 : (a0_0.toList == a1_0.toList) = true := beq_iff_eq.mpr c3
    have c3b1 : (a0_0.toList != a1_0.toList) = false := bne_eq_false_iff_eq.mpr c3
    clear c3
    obtain rfl := Option.some.inj H
    go_enter Tryd.func35, Tryd.ntmps35
    go_wp2_with (first | ((with_reducible refine gate_dst (N := 2) rfl ?_); refine box_event ?hg (N := 2) ?hd (cs := #[.string a0_0, .int .i64 a0_1, .int .i64 a0_2]) (t := 52) ?hr ?_; (case hd => rfl); (case hg => rfl); (case hr => first | (go_simp; done) | (go_simp; rfl)); intro gb231 hg w4 hbox hb; have BK231 := Aside0.mk (hbox); have GW231 := Aside0.mk ((bsz hg : w.heap.size ≤ gb231)); have GE231 := Aside0.mk ((bsz hg : w.heap.size ≤ gb231)); have NB230_231 := Aside0.mk ((nlt hg BK230.out : gb230 ≠ gb231)); have NB231_230 := Aside0.mk ((ngt hg BK230.out : gb231 ≠ gb230)); replace BK230 := Aside0.mk (bb BK230.out hb); replace HB := Aside0.mk (below_step bel hb); clear hb hbox hg; have hnb5 := NB231_230.out; have hnc5 := NB230_231.out; obtain ⟨hcz6_0, hcz6_1, hcz6_2, hfz6_0, hfz6_1, hfz6_2⟩ := cf3 BK231.out; obtain ⟨hcz7_0, hcz7_1, hcz7_2, hfz7_0, hfz7_1, hfz7_2⟩ := cf3 BK230.out))
    go_ret
    exact ⟨er, bel⟩
  · rw [if_neg c3] at H
    have c3b0 : (a0_0.toList == a1_0.toList) = false := beq_eq_false_iff_ne.mpr c3
    have c3b1 : (a0_0.toList != a1_0.toList) = true := bne_iff_ne.mpr c3
    obtain rfl := Option.some.inj H
    go_enter Tryd.func35, Tryd.ntmps35
    go_wp2_with (first | ((with_reducible refine gate_dst (N := 2) rfl ?_); refine box_event ?hg (N := 2) ?hd (cs := #[.string a0_0, .int .i64 a0_1, .int .i64 a0_2]) (t := 52) ?hr ?_; (case hd => rfl); (case hg => rfl); (case hr => first | (go_simp; done) | (go_simp; rfl)); intro gb231 hg w8 hbox hb; have BK231 := Aside0.mk (hbox); have GW231 := Aside0.mk ((bsz hg : w.heap.size ≤ gb231)); have GE231 := Aside0.mk ((bsz hg : w.heap.size ≤ gb231)); have NB230_231 := Aside0.mk ((nlt hg BK230.out : gb230 ≠ gb231)); have NB231_230 := Aside0.mk ((ngt hg BK230.out : gb231 ≠ gb230)); replace BK230 := Aside0.mk (bb BK230.out hb); replace HB := Aside0.mk (below_step bel hb); clear hb hbox hg; have hnb9 := NB231_230.out; have hnc9 := NB230_231.out; obtain ⟨hcz10_0, hcz10_1, hcz10_2, hfz10_0, hfz10_1, hfz10_2⟩ := cf3 BK231.out; obtain ⟨hcz11_0, hcz11_1, hcz11_2, hfz11_0, hfz11_1, hfz11_2⟩ := cf3 BK230.out))
    go_ret
    exact ⟨er, bel⟩
/-! ### slices_IndexFunc_impl_Team_impl_Team_impl_FieldOk_1: function 42 -/
def slices_IndexFunc_impl_Team_impl_Team_impl_FieldOk_1.l0 : Nat → List (S52) → Int → Int → ByteArray → Int → Int → Option (Int)
  | 0, _, _, _, _, _, _ => none
  | k + 1, x0, x7, x8, x233000, x233001, x233002 => if x8 < x7 then (if 0 ≤ x8 then (if x8 < (x0.length : Int) then ((impl_FieldOk_1.f ((rd_T52 x0 x8).f0) ((rd_T52 x0 x8).f1) ((rd_T52 x0 x8).f2) x233000 x233001 x233002).bind fun t234 => (if t234 = true then (some x8) else (slices_IndexFunc_impl_Team_impl_Team_impl_FieldOk_1.l0 k x0 x7 (wrap64 (x8 + 1)) x233000 x233001 x233002))) else (none)) else (none)) else (some (-1))
def slices_IndexFunc_impl_Team_impl_Team_impl_FieldOk_1.f (k : Nat) (l0 : List (S52))  (a2_0 : ByteArray) (a2_1 : Int) (a2_2 : Int) : Option (Int) := slices_IndexFunc_impl_Team_impl_Team_impl_FieldOk_1.l0 k l0 (l0.length : Int) 0 a2_0 a2_1 a2_2
theorem slices_IndexFunc_impl_Team_impl_Team_impl_FieldOk_1.mono_l : ∀ k, (∀ y0 y1 y2 y3 y4 y5, LeO (slices_IndexFunc_impl_Team_impl_Team_impl_FieldOk_1.l0 k y0 y1 y2 y3 y4 y5) (slices_IndexFunc_impl_Team_impl_Team_impl_FieldOk_1.l0 (k + 1) y0 y1 y2 y3 y4 y5))
  | 0 => fun _ _ _ _ _ _ r h => by simp [slices_IndexFunc_impl_Team_impl_Team_impl_FieldOk_1.l0] at h
  | k + 1 => by
    have ih0 := slices_IndexFunc_impl_Team_impl_Team_impl_FieldOk_1.mono_l k
    · intro y0 y1 y2 y3 y4 y5
      unfold slices_IndexFunc_impl_Team_impl_Team_impl_FieldOk_1.l0
      repeat' first
      | (with_reducible exact ih0 _ _ _ _ _ _)
      | (with_reducible exact LeO.refl _)
      | (with_reducible exact LeO.none _)
      | (with_reducible refine LeO.ite ?_ ?_)
      | (with_reducible refine LeO.bind ?_ (fun _ => ?_))
      | exact ih0 _ _ _ _ _ _
      | exact LeO.none _
      | refine LeO.ite ?_ ?_
      | refine LeO.bind ?_ (fun _ => ?_)
theorem slices_IndexFunc_impl_Team_impl_Team_impl_FieldOk_1.mono : ∀ a0 a1 a2 a3 k, LeO (slices_IndexFunc_impl_Team_impl_Team_impl_FieldOk_1.f k a0 a1 a2 a3) (slices_IndexFunc_impl_Team_impl_Team_impl_FieldOk_1.f (k + 1) a0 a1 a2 a3) := by
  intro a0 a1 a2 a3 k
  have ih0 := slices_IndexFunc_impl_Team_impl_Team_impl_FieldOk_1.mono_l k
  unfold slices_IndexFunc_impl_Team_impl_Team_impl_FieldOk_1.f
  repeat' first
      | (with_reducible exact ih0 _ _ _ _ _ _)
      | (with_reducible exact LeO.refl _)
      | (with_reducible exact LeO.none _)
      | (with_reducible refine LeO.ite ?_ ?_)
      | (with_reducible refine LeO.bind ?_ (fun _ => ?_))
      | exact ih0 _ _ _ _ _ _
      | exact LeO.none _
      | refine LeO.ite ?_ ?_
      | refine LeO.bind ?_ (fun _ => ?_)
set_option maxHeartbeats 8000000 in
set_option maxRecDepth 100000 in
theorem slices_IndexFunc_impl_Team_impl_Team_impl_FieldOk_1.calls (k : Nat) (A0 : Option Addr) (c0 : Nat) (l0 : List (S52))  (gb232 : Nat) (a2_0 : ByteArray) (a2_1 : Int) (a2_2 : Int) (r : Int) (w : World) (hr0 : Kd.C k52 w A0 l0.length l0) (hc0 : l0.length ≤ c0) (hbk232 : w.heap[gb232]? = some (.cells #[.string a2_0, .int .i64 a2_1, .int .i64 a2_2] 52 (0, 0))) (h : slices_IndexFunc_impl_Team_impl_Team_impl_FieldOk_1.f k l0 a2_0 a2_1 a2_2 = some r) :
    Calls Tryd.prog 42 #[.slice A0 l0.length c0, .func (.func 35) #[] #[.pointer (some ⟨gb232, 0, none⟩)]] w fun e w' => e = .returned (.int .i64 r) ∧ Below w.heap.size w w' := by
  have hu52 := Tryd.underlying52
  have HR0 := Aside0.mk hr0
  have HC0 := Aside0.mk hc0
  clear hr0 hc0
  have BK232 := Aside0.mk hbk232
  clear hbk232
  have HB := Aside0.mk (Below.refl w.heap.size w)
  have H : (slices_IndexFunc_impl_Team_impl_Team_impl_FieldOk_1.l0 k l0 (l0.length : Int) 0 a2_0 a2_1 a2_2) = some r := h
  clear h
  have H' := Aside0.mk H
  clear H
  go_enter Tryd.func42, Tryd.ntmps42
  go_wp2
  go_loopg [8] k (fun kq v8 w' => ∃ (x8_1 : Int), v8 = .int .i64 x8_1 ∧ Aside0 (slices_IndexFunc_impl_Team_impl_Team_impl_FieldOk_1.l0 kq l0 (l0.length : Int) x8_1 a2_0 a2_1 a2_2 = some r) ∧ Aside0 (kq ≤ k) ∧ Aside0 (w'.heap[gb232]? = some (.cells #[.string a2_0, .int .i64 a2_1, .int .i64 a2_2] 52 (0, 0))) ∧ Aside0 (Below w.heap.size w w'))
  case atStart => exact ⟨(0), (es), H', ⟨Nat.le_refl _⟩, ⟨bk BK232.out⟩, ⟨bel⟩⟩
  case round =>
    clear H'
    try clear p2
    obtain ⟨x8_1, rfl, HA, HK1, BK232, HB⟩ := hrel
    cases gk with
    | zero => exact absurd HA.out (by simp [slices_IndexFunc_impl_Team_impl_Team_impl_FieldOk_1.l0])
    | succ k1 =>
      have H := HA.out
      clear HA
      simp only [slices_IndexFunc_impl_Team_impl_Team_impl_FieldOk_1.l0] at H
      by_cases c4 : x8_1 < (l0.length : Int)
      · rw [if_pos c4] at H
        have c4b0 : decide (x8_1 < (l0.length : Int)) = true := decide_eq_true c4
        clear c4
        by_cases c5 : 0 ≤ x8_1
        · rw [if_pos c5] at H
          have c5b0 : decide (0 ≤ x8_1) = true := decide_eq_true c5
          clear c5
          by_cases c6 : x8_1 < (l0.length : Int)
          · rw [if_pos c6] at H
            have c6b0 : decide (x8_1 < (l0.length : Int)) = true := decide_eq_true c6
            clear c6
            replace H := Option.bind_eq_some_iff.mp H
            obtain ⟨t234, A70, H⟩ := H
            replace H : (if t234 = true then (some x8_1) else (slices_IndexFunc_impl_Team_impl_Team_impl_FieldOk_1.l0 k1 l0 (l0.length : Int) (wrap64 (x8_1 + 1)) a2_0 a2_1 a2_2)) = some r := H
            have A7 := Aside0.mk A70
            clear A70
            by_cases c8 : t234 = true
            · subst c8
              have H1 : (some x8_1) = some r := by rw [if_pos rfl] at H; exact H
              clear H
              have H := H1
              clear H1
              obtain rfl := Option.some.inj H
              have p233 : 0 ≤ (x8_1 : Int) := asm
              have q233 : x8_1 < (l0.length : Int) := asm
              obtain ⟨ad233, e233, hx233_0, hx233_1, hx233_2⟩ := at_T52 HR0.out x8_1 p233 q233
              cases e233
              replace hx233_0 := hcl HB.out hx233_0
              replace hx233_1 := hcl HB.out hx233_1
              replace hx233_2 := hcl HB.out hx233_2
              replace p233 := eq_true p233
              replace q233 := eq_true q233
              go_wp2_with (first | (go_at_call 35; (with_reducible refine (impl_FieldOk_1.calls ((rd_T52 l0 x8_1).f0) ((rd_T52 l0 x8_1).f1) ((rd_T52 l0 x8_1).f2) gb232 a2_0 a2_1 a2_2 true _ ?side1 A7.out).mono ?_); (case side1 => exact (bk BK232.out)); rintro e w9 ⟨rfl, hb⟩; replace BK232 := Aside0.mk (bb BK232.out hb); replace HB := Aside0.mk (below_step bel hb); (try clear hb); (try clear hb2); (try clear hk); (try clear hi)))
              go_ret
              exact ⟨er, bel⟩
            · replace c8 := Bool.eq_false_iff.mpr c8
              subst c8
              have H1 : (slices_IndexFunc_impl_Team_impl_Team_impl_FieldOk_1.l0 k1 l0 (l0.length : Int) (wrap64 (x8_1 + 1)) a2_0 a2_1 a2_2) = some r := by rw [if_neg (show ¬ (false = true) by decide)] at H; exact H
              clear H
              have H := H1
              clear H1
              have H' := Aside0.mk H
              clear H
              have p233 : 0 ≤ (x8_1 : Int) := asm
              have q233 : x8_1 < (l0.length : Int) := asm
              obtain ⟨ad233, e233, hx233_0, hx233_1, hx233_2⟩ := at_T52 HR0.out x8_1 p233 q233
              cases e233
              replace hx233_0 := hcl HB.out hx233_0
              replace hx233_1 := hcl HB.out hx233_1
              replace hx233_2 := hcl HB.out hx233_2
              replace p233 := eq_true p233
              replace q233 := eq_true q233
              go_wp2_with (first | (go_at_call 35; (with_reducible refine (impl_FieldOk_1.calls ((rd_T52 l0 x8_1).f0) ((rd_T52 l0 x8_1).f1) ((rd_T52 l0 x8_1).f2) gb232 a2_0 a2_1 a2_2 false _ ?side1 A7.out).mono ?_); (case side1 => exact (bk BK232.out)); rintro e w10 ⟨rfl, hb⟩; replace BK232 := Aside0.mk (bb BK232.out hb); replace HB := Aside0.mk (below_step bel hb); (try clear hb); (try clear hb2); (try clear hk); (try clear hi)))
              go_roundg k1
              case measure => have := HK1.out; omega
              case rel => exact ⟨(wrap64 (x8_1 + 1)), (es), H', ⟨by have := HK1.out; omega⟩, ⟨bk BK232.out⟩, ⟨bel⟩⟩
          · rw [if_neg c6] at H
            exact absurd H (by simp)
        · rw [if_neg c5] at H
          exact absurd H (by simp)
      · rw [if_neg c4] at H
        have c4b0 : decide (x8_1 < (l0.length : Int)) = false := decide_eq_false c4
        clear c4
        obtain rfl := Option.some.inj H
        go_wp2
        go_ret
        exact ⟨er, bel⟩
/-! ### slices_ContainsFunc_impl_Team_impl_Team_impl_FieldOk_1: function 34 -/
def slices_ContainsFunc_impl_Team_impl_Team_impl_FieldOk_1.f (k : Nat) (l0 : List (S52))  (a2_0 : ByteArray) (a2_1 : Int) (a2_2 : Int) : Option (Bool) := (slices_IndexFunc_impl_Team_impl_Team_impl_FieldOk_1.f k l0 a2_0 a2_1 a2_2).bind fun t236 => (some (decide (t236 ≥ 0)))
theorem slices_ContainsFunc_impl_Team_impl_Team_impl_FieldOk_1.mono : ∀ a0 a1 a2 a3 k, LeO (slices_ContainsFunc_impl_Team_impl_Team_impl_FieldOk_1.f k a0 a1 a2 a3) (slices_ContainsFunc_impl_Team_impl_Team_impl_FieldOk_1.f (k + 1) a0 a1 a2 a3) := by
  intro a0 a1 a2 a3 k
  unfold slices_ContainsFunc_impl_Team_impl_Team_impl_FieldOk_1.f
  repeat' first
      | (with_reducible exact slices_IndexFunc_impl_Team_impl_Team_impl_FieldOk_1.mono _ _ _ _ _)
      | (with_reducible exact LeO.refl _)
      | (with_reducible exact LeO.none _)
      | (with_reducible refine LeO.ite ?_ ?_)
      | (with_reducible refine LeO.bind ?_ (fun _ => ?_))
      | exact slices_IndexFunc_impl_Team_impl_Team_impl_FieldOk_1.mono _ _ _ _ _
      | exact LeO.none _
      | refine LeO.ite ?_ ?_
      | refine LeO.bind ?_ (fun _ => ?_)
set_option maxHeartbeats 8000000 in
set_option maxRecDepth 100000 in
theorem slices_ContainsFunc_impl_Team_impl_Team_impl_FieldOk_1.calls (k : Nat) (A0 : Option Addr) (c0 : Nat) (l0 : List (S52))  (gb235 : Nat) (a2_0 : ByteArray) (a2_1 : Int) (a2_2 : Int) (r : Bool) (w : World) (hr0 : Kd.C k52 w A0 l0.length l0) (hc0 : l0.length ≤ c0) (hbk235 : w.heap[gb235]? = some (.cells #[.string a2_0, .int .i64 a2_1, .int .i64 a2_2] 52 (0, 0))) (h : slices_ContainsFunc_impl_Team_impl_Team_impl_FieldOk_1.f k l0 a2_0 a2_1 a2_2 = some r) :
    Calls Tryd.prog 34 #[.slice A0 l0.length c0, .func (.func 35) #[] #[.pointer (some ⟨gb235, 0, none⟩)]] w fun e w' => e = .returned (.bool r) ∧ Below w.heap.size w w' := by
  have HR0 := Aside0.mk hr0
  have HC0 := Aside0.mk hc0
  clear hr0 hc0
  have BK235 := Aside0.mk hbk235
  clear hbk235
  have HB := Aside0.mk (Below.refl w.heap.size w)
  have H : ((slices_IndexFunc_impl_Team_impl_Team_impl_FieldOk_1.f k l0 a2_0 a2_1 a2_2).bind fun t236 => (some (decide (t236 ≥ 0)))) = some r := h
  clear h
  replace H := Option.bind_eq_some_iff.mp H
  obtain ⟨t236, A40, H⟩ := H
  replace H : (some (decide (t236 ≥ 0))) = some r := H
  have A4 := Aside0.mk A40
  clear A40
  obtain rfl := Option.some.inj H
  go_enter Tryd.func34, Tryd.ntmps34
  go_wp2_with (first | ((with_reducible refine gate_callee (f := 42) rfl ?_); refine goesL_ (some 7) rfl rfl Tryd.func42 (by kernel_rfl) rfl #[.slice A0 l0.length c0, .func (.func 35) #[] #[.pointer (some ⟨gb235, 0, none⟩)]] rfl ga ?_; (with_reducible refine (slices_IndexFunc_impl_Team_impl_Team_impl_FieldOk_1.calls k _ _ l0 gb235 a2_0 a2_1 a2_2 t236 _ ?side1 ?side2 ?side3 A4.out).mono ?_); (case side1 => exact ck HR0.out); (case side2 => exact HC0.out); (case side3 => exact (bk BK235.out)); rintro e w5 ⟨rfl, hb⟩; refine ⟨_, rfl, ?_⟩; replace BK235 := Aside0.mk (bb BK235.out hb); replace HB := Aside0.mk (below_step bel hb); (try clear hb)))
  go_ret
  exact ⟨er, bel⟩
/-! ### impl_FieldOk: function 26 -/
def impl_FieldOk.l0 : Nat → List (S52) → List (S52) → Int → Int → Option (Bool)
  | 0, _, _, _, _ => none
  | k + 1, x0, x5, x6, x7 => if x7 < x6 then (if 0 ≤ x7 then (if x7 < (x5.length : Int) then ((impl_TeamOk.f k ((rd_T52 x5 x7).f0) ((rd_T52 x5 x7).f1) ((rd_T52 x5 x7).f2)).bind fun t240 => (if t240 = true then (if x7 ≤ (x0.length : Int) then ((slices_ContainsFunc_impl_Team_impl_Team_impl_FieldOk_1.f k (x0.take (x7 : Int).toNat) ((rd_T52 x5 x7).f0) ((rd_T52 x5 x7).f1) ((rd_T52 x5 x7).f2)).bind fun t245 => (if t245 = true then (some false) else (impl_FieldOk.l0 k x0 x5 x6 (wrap64 (x7 + 1))))) else (none)) else (some false))) else (none)) else (none)) else ((impl_within.f (x0.length : Int) 2 8).bind fun t237 => (some t237))
def impl_FieldOk.f (k : Nat) (l0 : List (S52)) : Option (Bool) := impl_FieldOk.l0 k l0 l0 (l0.length : Int) 0
theorem impl_FieldOk.mono_l : ∀ k, (∀ y0 y1 y2 y3, LeO (impl_FieldOk.l0 k y0 y1 y2 y3) (impl_FieldOk.l0 (k + 1) y0 y1 y2 y3))
  | 0 => fun _ _ _ _ r h => by simp [impl_FieldOk.l0] at h
  | k + 1 => by
    have ih0 := impl_FieldOk.mono_l k
    · intro y0 y1 y2 y3
      unfold impl_FieldOk.l0
      repeat' first
      | (with_reducible exact ih0 _ _ _ _)
      | (with_reducible exact impl_TeamOk.mono _ _ _ _)
      | (with_reducible exact slices_ContainsFunc_impl_Team_impl_Team_impl_FieldOk_1.mono _ _ _ _ _)
      | (with_reducible exact LeO.refl _)
      | (with_reducible exact LeO.none _)
      | (with_reducible refine LeO.ite ?_ ?_)
      | (with_reducible refine LeO.bind ?_ (fun _ => ?_))
      | exact ih0 _ _ _ _
      | exact impl_TeamOk.mono _ _ _ _
      | exact slices_ContainsFunc_impl_Team_impl_Team_impl_FieldOk_1.mono _ _ _ _ _
      | exact LeO.none _
      | refine LeO.ite ?_ ?_
      | refine LeO.bind ?_ (fun _ => ?_)
theorem impl_FieldOk.mono : ∀ a0 k, LeO (impl_FieldOk.f k a0) (impl_FieldOk.f (k + 1) a0) := by
  intro a0 k
  have ih0 := impl_FieldOk.mono_l k
  unfold impl_FieldOk.f
  repeat' first
      | (with_reducible exact ih0 _ _ _ _)
      | (with_reducible exact impl_TeamOk.mono _ _ _ _)
      | (with_reducible exact slices_ContainsFunc_impl_Team_impl_Team_impl_FieldOk_1.mono _ _ _ _ _)
      | (with_reducible exact LeO.refl _)
      | (with_reducible exact LeO.none _)
      | (with_reducible refine LeO.ite ?_ ?_)
      | (with_reducible refine LeO.bind ?_ (fun _ => ?_))
      | exact ih0 _ _ _ _
      | exact impl_TeamOk.mono _ _ _ _
      | exact slices_ContainsFunc_impl_Team_impl_Team_impl_FieldOk_1.mono _ _ _ _ _
      | exact LeO.none _
      | refine LeO.ite ?_ ?_
      | refine LeO.bind ?_ (fun _ => ?_)
set_option maxHeartbeats 8000000 in
set_option maxRecDepth 100000 in
theorem impl_FieldOk.calls (k : Nat) (A0 : Option Addr) (c0 : Nat) (l0 : List (S52)) (r : Bool) (w : World) (hr0 : Kd.C k52 w A0 l0.length l0) (hc0 : l0.length ≤ c0) (h : impl_FieldOk.f k l0 = some r) :
    Calls Tryd.prog 26 #[.slice A0 l0.length c0] w fun e w' => e = .returned (.bool r) ∧ Below w.heap.size w w' := by
  have hu52 := Tryd.underlying52
  have HR0 := Aside0.mk hr0
  have HC0 := Aside0.mk hc0
  clear hr0 hc0
  have HB := Aside0.mk (Below.refl w.heap.size w)
  have H : (impl_FieldOk.l0 k l0 l0 (l0.length : Int) 0) = some r := h
  clear h
  have H' := Aside0.mk H
  clear H
  go_enter Tryd.func26, Tryd.ntmps26
  go_wp2
  go_loopg [7] k (fun kq v7 w' => ∃ (x7_1 : Int), v7 = .int .i64 x7_1 ∧ Aside0 (impl_FieldOk.l0 kq l0 l0 (l0.length : Int) x7_1 = some r) ∧ Aside0 (kq ≤ k) ∧ Aside0 (Below w.heap.size w w'))
  case atStart => exact ⟨(0), (es), H', ⟨Nat.le_refl _⟩, ⟨bel⟩⟩
  case round =>
    clear H'
    obtain ⟨x7_1, rfl, HA, HK1, HB⟩ := hrel
    cases gk with
    | zero => exact absurd HA.out (by simp [impl_FieldOk.l0])
    | succ k1 =>
      have H := HA.out
      clear HA
      simp only [impl_FieldOk.l0] at H
      by_cases c2 : x7_1 < (l0.length : Int)
      · rw [if_pos c2] at H
        have c2b0 : decide (x7_1 < (l0.length : Int)) = true := decide_eq_true c2
        clear c2
        by_cases c3 : 0 ≤ x7_1
        · rw [if_pos c3] at H
          have c3b0 : decide (0 ≤ x7_1) = true := decide_eq_true c3
          clear c3
          by_cases c4 : x7_1 < (l0.length : Int)
          · rw [if_pos c4] at H
            have c4b0 : decide (x7_1 < (l0.length : Int)) = true := decide_eq_true c4
            clear c4
            replace H := Option.bind_eq_some_iff.mp H
            obtain ⟨t240, A50, H⟩ := H
            replace H : (if t240 = true then (if x7_1 ≤ (l0.length : Int) then ((slices_ContainsFunc_impl_Team_impl_Team_impl_FieldOk_1.f k1 (l0.take (x7_1 : Int).toNat) ((rd_T52 l0 x7_1).f0) ((rd_T52 l0 x7_1).f1) ((rd_T52 l0 x7_1).f2)).bind fun t245 => (if t245 = true then (some false) else (impl_FieldOk.l0 k1 l0 l0 (l0.length : Int) (wrap64 (x7_1 + 1))))) else (none)) else (some false)) = some r := H
            have A5 := Aside0.mk A50
            clear A50
            by_cases c6 : t240 = true
            · subst c6
              have H1 : (if x7_1 ≤ (l0.length : Int) then ((slices_ContainsFunc_impl_Team_impl_Team_impl_FieldOk_1.f k1 (l0.take (x7_1 : Int).toNat) ((rd_T52 l0 x7_1).f0) ((rd_T52 l0 x7_1).f1) ((rd_T52 l0 x7_1).f2)).bind fun t245 => (if t245 = true then (some false) else (impl_FieldOk.l0 k1 l0 l0 (l0.length : Int) (wrap64 (x7_1 + 1))))) else (none)) = some r := by rw [if_pos rfl] at H; exact H
              clear H
              have H := H1
              clear H1
              have c7b0 := eq_true (asm : 0 ≤ x7_1)
              by_cases c8 : x7_1 ≤ (l0.length : Int)
              · rw [if_pos c8] at H
                have c8b0 := eq_true c8
                have c8b1 : decide (x7_1 ≤ (l0.length : Int)) = true := decide_eq_true c8
                clear c8
                obtain ⟨y241, hy241⟩ : ∃ y_ : List (S52), y_ = (l0.take (x7_1 : Int).toNat) := ⟨_, rfl⟩
                replace H : ((slices_ContainsFunc_impl_Team_impl_Team_impl_FieldOk_1.f k1 y241 ((rd_T52 l0 x7_1).f0) ((rd_T52 l0 x7_1).f1) ((rd_T52 l0 x7_1).f2)).bind fun t245 => (if t245 = true then (some false) else (impl_FieldOk.l0 k1 l0 l0 (l0.length : Int) (wrap64 (x7_1 + 1))))) = some r := by first | (rw [hy241]; with_reducible exact H) | (have H2_ := (Option.bind_some _ _).symm.trans H; rw [hy241]; with_reducible exact H2_) | (have H2_ := (Option.bind_some _ _).symm.trans H; with_reducible exact H2_) | with_reducible exact H | (rw [hy241]; exact H) | exact H
                have Ny241 := Aside0.mk hy241
                clear hy241
                replace H := Option.bind_eq_some_iff.mp H
                obtain ⟨t245, A90, H⟩ := H
                replace H : (if t245 = true then (some false) else (impl_FieldOk.l0 k1 l0 l0 (l0.length : Int) (wrap64 (x7_1 + 1)))) = some r := H
                have A9 := Aside0.mk A90
                clear A90
                by_cases c10 : t245 = true
                · subst c10
                  have H1 : (some false) = some r := by rw [if_pos rfl] at H; exact H
                  clear H
                  have H := H1
                  clear H1
                  obtain rfl := Option.some.inj H
                  have p238 : 0 ≤ (x7_1 : Int) := asm
                  have q238 : x7_1 < (l0.length : Int) := asm
                  obtain ⟨ad238, e238, hx238_0, hx238_1, hx238_2⟩ := at_T52 HR0.out x7_1 p238 q238
                  cases e238
                  replace hx238_0 := hcl HB.out hx238_0
                  replace hx238_1 := hcl HB.out hx238_1
                  replace hx238_2 := hcl HB.out hx238_2
                  replace p238 := eq_true p238
                  replace q238 := eq_true q238
                  go_wp2_with (first | ((with_reducible refine gate_dst (N := 4) rfl ?_); refine box_event ?hg (N := 4) ?hd (cs := #[.string (⟨#[]⟩ : ByteArray), .int .i64 0, .int .i64 0]) (t := 52) ?hr ?_; (case hd => rfl); (case hg => rfl); (case hr => first | (go_simp; done) | (go_simp; rfl)); intro gb239 hg w11 hbox hb; have BK239 := Aside0.mk (hbox); have GW239 := Aside0.mk ((bsz hg : w.heap.size ≤ gb239)); have GE239 := Aside0.mk ((bsz hg : w.heap.size ≤ gb239)); replace HB := Aside0.mk (below_step bel hb); clear hb hbox hg; obtain ⟨hcz12_0, hcz12_1, hcz12_2, hfz12_0, hfz12_1, hfz12_2⟩ := cf3 BK239.out) | ((with_reducible refine gate_callee (f := 33) rfl ?_); refine goesL_ (some 13) rfl rfl Tryd.func33 (by kernel_rfl) rfl #[.agg #[.string ((rd_T52 l0 x7_1).f0), .int .i64 ((rd_T52 l0 x7_1).f1), .int .i64 ((rd_T52 l0 x7_1).f2)]] rfl ga ?_; (with_reducible refine (impl_TeamOk.calls k1 ((rd_T52 l0 x7_1).f0) ((rd_T52 l0 x7_1).f1) ((rd_T52 l0 x7_1).f2) true _ A5.out).mono ?_); rintro e w13 ⟨rfl, hb⟩; refine ⟨_, rfl, ?_⟩; replace BK239 := Aside0.mk (blk_below (g := gb239) (o := .cells #[.string ((rd_T52 l0 x7_1).f0), .int .i64 ((rd_T52 l0 x7_1).f1), .int .i64 ((rd_T52 l0 x7_1).f2)] 52 (0, 0)) (by (with_reducible repeat (first | refine blk_drewN ?_ _ | refine blk_drew ?_ | refine blk_alloc ?_ _)); refine blk_put (cs := #[.string ((rd_T52 l0 x7_1).f0), .int .i64 ((rd_T52 l0 x7_1).f1), .int .i64 0]) ?_ 2 _ rfl; (with_reducible repeat (first | refine blk_drewN ?_ _ | refine blk_drew ?_ | refine blk_alloc ?_ _)); refine blk_put (cs := #[.string ((rd_T52 l0 x7_1).f0), .int .i64 0, .int .i64 0]) ?_ 1 _ rfl; (with_reducible repeat (first | refine blk_drewN ?_ _ | refine blk_drew ?_ | refine blk_alloc ?_ _)); refine blk_put (cs := #[.string (⟨#[]⟩ : ByteArray), .int .i64 0, .int .i64 0]) ?_ 0 _ rfl; (with_reducible repeat (first | refine blk_drewN ?_ _ | refine blk_drew ?_ | refine blk_alloc ?_ _)); exact BK239.out) hb); replace HB := Aside0.mk (below_step bel hb); (try clear hb); have q14 : (x7_1 : Int) ≤ ((l0.length : Int) : Int) := asm; obtain ⟨i014, hi014, _, hsz14, _⟩ := info_parts info52; have hroom14 : l0.length ≤ c0 := HC0.out; have hC14 : Kd.C k52 _ (some ad238) l0.length l0 := HR0.out; have hcut14 := cut_to (P := Tryd.prog) 35 52 .i64 Tryd.underlying35 hi014 (some ad238) l0.length c0 x7_1 (asm) q14 hroom14; have hr14 := Kd.C_take (m := (x7_1 : Int).toNat) hC14 (by omega); have hy14 : y241.length = (x7_1 : Int).toNat := (by rw [Ny241.out, List.length_take]; omega); rw [← Ny241.out] at hr14; rw [← hy14] at hcut14; have HR244 := Aside0.mk hr14; have HC244 := Aside0.mk (show y241.length ≤ c0 from by omega); clear hr14 hC14 hroom14 hi014 hsz14; have KY14 := Aside0.mk hy14; clear hy14; replace q14 := eq_true q14) | (go_at_call 34; (with_reducible refine (slices_ContainsFunc_impl_Team_impl_Team_impl_FieldOk_1.calls k1 _ _ y241 gb239 ((rd_T52 l0 x7_1).f0) ((rd_T52 l0 x7_1).f1) ((rd_T52 l0 x7_1).f2) true _ ?side1 ?side2 ?side3 A9.out).mono ?_); (case side1 => exact ck (Kd.C_below HR244.out HB.out)); (case side2 => exact HC244.out); (case side3 => exact (bk BK239.out)); rintro e w15 ⟨rfl, hb⟩; replace BK239 := Aside0.mk (bb BK239.out hb); replace HB := Aside0.mk (below_step bel hb); (try clear hb); (try clear hb2); (try clear hk); (try clear hi)))
                  go_ret
                  exact ⟨er, bel⟩
                · replace c10 := Bool.eq_false_iff.mpr c10
                  subst c10
                  have H1 : (impl_FieldOk.l0 k1 l0 l0 (l0.length : Int) (wrap64 (x7_1 + 1))) = some r := by rw [if_neg (show ¬ (false = true) by decide)] at H; exact H
                  clear H
                  have H := H1
                  clear H1
                  have H' := Aside0.mk H
                  clear H
                  have p238 : 0 ≤ (x7_1 : Int) := asm
                  have q238 : x7_1 < (l0.length : Int) := asm
                  obtain ⟨ad238, e238, hx238_0, hx238_1, hx238_2⟩ := at_T52 HR0.out x7_1 p238 q238
                  cases e238
                  replace hx238_0 := hcl HB.out hx238_0
                  replace hx238_1 := hcl HB.out hx238_1
                  replace hx238_2 := hcl HB.out hx238_2
                  replace p238 := eq_true p238
                  replace q238 := eq_true q238
                  go_wp2_with (first | ((with_reducible refine gate_dst (N := 4) rfl ?_); refine box_event ?hg (N := 4) ?hd (cs := #[.string (⟨#[]⟩ : ByteArray), .int .i64 0, .int .i64 0]) (t := 52) ?hr ?_; (case hd => rfl); (case hg => rfl); (case hr => first | (go_simp; done) | (go_simp; rfl)); intro gb239 hg w16 hbox hb; have BK239 := Aside0.mk (hbox); have GW239 := Aside0.mk ((bsz hg : w.heap.size ≤ gb239)); have GE239 := Aside0.mk ((bsz hg : w.heap.size ≤ gb239)); replace HB := Aside0.mk (below_step bel hb); clear hb hbox hg; obtain ⟨hcz17_0, hcz17_1, hcz17_2, hfz17_0, hfz17_1, hfz17_2⟩ := cf3 BK239.out) | ((with_reducible refine gate_callee (f := 33) rfl ?_); refine goesL_ (some 13) rfl rfl Tryd.func33 (by kernel_rfl) rfl #[.agg #[.string ((rd_T52 l0 x7_1).f0), .int .i64 ((rd_T52 l0 x7_1).f1), .int .i64 ((rd_T52 l0 x7_1).f2)]] rfl ga ?_; (with_reducible refine (impl_TeamOk.calls k1 ((rd_T52 l0 x7_1).f0) ((rd_T52 l0 x7_1).f1) ((rd_T52 l0 x7_1).f2) true _ A5.out).mono ?_); rintro e w18 ⟨rfl, hb⟩; refine ⟨_, rfl, ?_⟩; replace BK239 := Aside0.mk (blk_below (g := gb239) (o := .cells #[.string ((rd_T52 l0 x7_1).f0), .int .i64 ((rd_T52 l0 x7_1).f1), .int .i64 ((rd_T52 l0 x7_1).f2)] 52 (0, 0)) (by (with_reducible repeat (first | refine blk_drewN ?_ _ | refine blk_drew ?_ | refine blk_alloc ?_ _)); refine blk_put (cs := #[.string ((rd_T52 l0 x7_1).f0), .int .i64 ((rd_T52 l0 x7_1).f1), .int .i64 0]) ?_ 2 _ rfl; (with_reducible repeat (first | refine blk_drewN ?_ _ | refine blk_drew ?_ | refine blk_alloc ?_ _)); refine blk_put (cs := #[.string ((rd_T52 l0 x7_1).f0), .int .i64 0, .int .i64 0]) ?_ 1 _ rfl; (with_reducible repeat (first | refine blk_drewN ?_ _ | refine blk_drew ?_ | refine blk_alloc ?_ _)); refine blk_put (cs := #[.string (⟨#[]⟩ : ByteArray), .int .i64 0, .int .i64 0]) ?_ 0 _ rfl; (with_reducible repeat (first | refine blk_drewN ?_ _ | refine blk_drew ?_ | refine blk_alloc ?_ _)); exact BK239.out) hb); replace HB := Aside0.mk (below_step bel hb); (try clear hb); have q19 : (x7_1 : Int) ≤ ((l0.length : Int) : Int) := asm; obtain ⟨i019, hi019, _, hsz19, _⟩ := info_parts info52; have hroom19 : l0.length ≤ c0 := HC0.out; have hC19 : Kd.C k52 _ (some ad238) l0.length l0 := HR0.out; have hcut19 := cut_to (P := Tryd.prog) 35 52 .i64 Tryd.underlying35 hi019 (some ad238) l0.length c0 x7_1 (asm) q19 hroom19; have hr19 := Kd.C_take (m := (x7_1 : Int).toNat) hC19 (by omega); have hy19 : y241.length = (x7_1 : Int).toNat := (by rw [Ny241.out, List.length_take]; omega); rw [← Ny241.out] at hr19; rw [← hy19] at hcut19; have HR244 := Aside0.mk hr19; have HC244 := Aside0.mk (show y241.length ≤ c0 from by omega); clear hr19 hC19 hroom19 hi019 hsz19; have KY19 := Aside0.mk hy19; clear hy19; replace q19 := eq_true q19) | (go_at_call 34; (with_reducible refine (slices_ContainsFunc_impl_Team_impl_Team_impl_FieldOk_1.calls k1 _ _ y241 gb239 ((rd_T52 l0 x7_1).f0) ((rd_T52 l0 x7_1).f1) ((rd_T52 l0 x7_1).f2) false _ ?side1 ?side2 ?side3 A9.out).mono ?_); (case side1 => exact ck (Kd.C_below HR244.out HB.out)); (case side2 => exact HC244.out); (case side3 => exact (bk BK239.out)); rintro e w20 ⟨rfl, hb⟩; replace BK239 := Aside0.mk (bb BK239.out hb); replace HB := Aside0.mk (below_step bel hb); (try clear hb); (try clear hb2); (try clear hk); (try clear hi)))
                  go_roundg k1
                  case measure => have := HK1.out; omega
                  case rel => exact ⟨(wrap64 (x7_1 + 1)), (es), H', ⟨by have := HK1.out; omega⟩, ⟨bel⟩⟩
              · rw [if_neg c8] at H
                exact absurd H (by simp)
            · replace c6 := Bool.eq_false_iff.mpr c6
              subst c6
              have H1 : (some false) = some r := by rw [if_neg (show ¬ (false = true) by decide)] at H; exact H
              clear H
              have H := H1
              clear H1
              obtain rfl := Option.some.inj H
              have p238 : 0 ≤ (x7_1 : Int) := asm
              have q238 : x7_1 < (l0.length : Int) := asm
              obtain ⟨ad238, e238, hx238_0, hx238_1, hx238_2⟩ := at_T52 HR0.out x7_1 p238 q238
              cases e238
              replace hx238_0 := hcl HB.out hx238_0
              replace hx238_1 := hcl HB.out hx238_1
              replace hx238_2 := hcl HB.out hx238_2
              replace p238 := eq_true p238
              replace q238 := eq_true q238
              go_wp2_with (first | ((with_reducible refine gate_dst (N := 4) rfl ?_); refine box_event ?hg (N := 4) ?hd (cs := #[.string (⟨#[]⟩ : ByteArray), .int .i64 0, .int .i64 0]) (t := 52) ?hr ?_; (case hd => rfl); (case hg => rfl); (case hr => first | (go_simp; done) | (go_simp; rfl)); intro gb239 hg w21 hbox hb; have BK239 := Aside0.mk (hbox); have GW239 := Aside0.mk ((bsz hg : w.heap.size ≤ gb239)); have GE239 := Aside0.mk ((bsz hg : w.heap.size ≤ gb239)); replace HB := Aside0.mk (below_step bel hb); clear hb hbox hg; obtain ⟨hcz22_0, hcz22_1, hcz22_2, hfz22_0, hfz22_1, hfz22_2⟩ := cf3 BK239.out) | ((with_reducible refine gate_callee (f := 33) rfl ?_); refine goesL_ (some 13) rfl rfl Tryd.func33 (by kernel_rfl) rfl #[.agg #[.string ((rd_T52 l0 x7_1).f0), .int .i64 ((rd_T52 l0 x7_1).f1), .int .i64 ((rd_T52 l0 x7_1).f2)]] rfl ga ?_; (with_reducible refine (impl_TeamOk.calls k1 ((rd_T52 l0 x7_1).f0) ((rd_T52 l0 x7_1).f1) ((rd_T52 l0 x7_1).f2) false _ A5.out).mono ?_); rintro e w23 ⟨rfl, hb⟩; refine ⟨_, rfl, ?_⟩; replace BK239 := Aside0.mk (blk_below (g := gb239) (o := .cells #[.string ((rd_T52 l0 x7_1).f0), .int .i64 ((rd_T52 l0 x7_1).f1), .int .i64 ((rd_T52 l0 x7_1).f2)] 52 (0, 0)) (by (with_reducible repeat (first | refine blk_drewN ?_ _ | refine blk_drew ?_ | refine blk_alloc ?_ _)); refine blk_put (cs := #[.string ((rd_T52 l0 x7_1).f0), .int .i64 ((rd_T52 l0 x7_1).f1), .int .i64 0]) ?_ 2 _ rfl; (with_reducible repeat (first | refine blk_drewN ?_ _ | refine blk_drew ?_ | refine blk_alloc ?_ _)); refine blk_put (cs := #[.string ((rd_T52 l0 x7_1).f0), .int .i64 0, .int .i64 0]) ?_ 1 _ rfl; (with_reducible repeat (first | refine blk_drewN ?_ _ | refine blk_drew ?_ | refine blk_alloc ?_ _)); refine blk_put (cs := #[.string (⟨#[]⟩ : ByteArray), .int .i64 0, .int .i64 0]) ?_ 0 _ rfl; (with_reducible repeat (first | refine blk_drewN ?_ _ | refine blk_drew ?_ | refine blk_alloc ?_ _)); exact BK239.out) hb); replace HB := Aside0.mk (below_step bel hb); (try clear hb)))
              go_ret
              exact ⟨er, bel⟩
          · rw [if_neg c4] at H
            exact absurd H (by simp)
        · rw [if_neg c3] at H
          exact absurd H (by simp)
      · rw [if_neg c2] at H
        have c2b0 : decide (x7_1 < (l0.length : Int)) = false := decide_eq_false c2
        clear c2
        replace H := Option.bind_eq_some_iff.mp H
        obtain ⟨t237, A240, H⟩ := H
        replace H : (some t237) = some r := H
        have A24 := Aside0.mk A240
        clear A240
        obtain rfl := Option.some.inj H
        go_wp2_with (first | ((with_reducible refine gate_callee (f := 27) rfl ?_); refine goesL_ (some 25) rfl rfl Tryd.func27 (by kernel_rfl) rfl #[.int .i64 (l0.length : Int), .int .i64 2, .int .i64 8] rfl ga ?_; (with_reducible refine (impl_within.calls (l0.length : Int) 2 8 t237 _ A24.out).mono ?_); rintro e w' ⟨rfl, ⟨nd, rfl⟩⟩; refine ⟨_, rfl, ?_⟩))
        go_ret
        exact ⟨er, bel⟩

end Go.Proofs.YtmpealaejigbfaaDoor.R
