-- Written by a program of this session (wip/xp.py, over the kit's print) out of the translation: functions, and the walks that show them.
import Derived.Lib.SliceRun
import Derived.Test.YtaopcamaceddnaaY0
import Derived.Test.YtaopcamaceddnaaY1
import Derived.Test.YtaopcamaceddnaaY2
import Derived.Test.YtaopcamaceddnaaY8
import Derived.Test.YtaopcamaceddnaaY9
import Derived.Test.YtaopcamaceddnaaY10
namespace Go.Proofs.Ytaopcamaceddnaa.Y
open Go.RowKit Go.Proofs.YtaopcamaceddnaaW.PrintWords Go.Proofs.YtaopcamaceddnaaW.PrintLast Go.Proofs.YtaopcamaceddnaaW.PrintMore
attribute [local go_sem] max2_int min2_int max_two min_two max_three min_three max_four min_four   -- for this text's walks alone
set_option linter.unusedVariables false
set_option linter.unusedSimpArgs false

/-! ### impl_SwapGains_1: function 54 -/
def impl_SwapGains_1.f (k : Nat) (a0 : Int) (a1_0 : Int) (l2_0 : List (S38)) (l3_0 : List (S38)) : Option (Bool) := (impl_ContestOf.f k a1_0 l2_0 a0).bind fun t266 => (if t266 < 0 then (some true) else ((impl_ContestOf.f k a1_0 l3_0 a0).bind fun t267 => (some (decide (t267 ≥ 0)))))
theorem impl_SwapGains_1.mono : ∀ a0 a1 a2 a3 k, LeO (impl_SwapGains_1.f k a0 a1 a2 a3) (impl_SwapGains_1.f (k + 1) a0 a1 a2 a3) := by
  intro a0 a1 a2 a3 k
  unfold impl_SwapGains_1.f
  repeat' first
      | (with_reducible exact impl_ContestOf.mono _ _ _ _)
      | (with_reducible exact LeO.refl _)
      | (with_reducible exact LeO.none _)
      | (with_reducible refine LeO.ite ?_ ?_)
      | (with_reducible refine LeO.bind ?_ (fun _ => ?_))
      | exact impl_ContestOf.mono _ _ _ _
      | exact LeO.none _
      | refine LeO.ite ?_ ?_
      | refine LeO.bind ?_ (fun _ => ?_)
set_option maxHeartbeats 8000000 in
set_option maxRecDepth 100000 in
theorem impl_SwapGains_1.calls (k : Nat) (a0 : Int) (gb263 : Nat) (a1_0 : Int) (gb264 : Nat) (A2_0 : Option Addr) (c2_0 : Nat) (l2_0 : List (S38)) (gb265 : Nat) (A3_0 : Option Addr) (c3_0 : Nat) (l3_0 : List (S38)) (r : Bool) (w : World) (hr2_0 : Kd.C k38 w A2_0 l2_0.length l2_0) (hc2_0 : l2_0.length ≤ c2_0) (hr3_0 : Kd.C k38 w A3_0 l3_0.length l3_0) (hc3_0 : l3_0.length ≤ c3_0) (hbk263 : w.heap[gb263]? = some (.cells #[.int .i64 a1_0] 3 (0, 0))) (hbk264 : w.heap[gb264]? = some (.cells #[.slice A2_0 l2_0.length c2_0] 25 (0, 0))) (hbk265 : w.heap[gb265]? = some (.cells #[.slice A3_0 l3_0.length c3_0] 25 (0, 0))) (h : impl_SwapGains_1.f k a0 a1_0 l2_0 l3_0 = some r) :
    Calls Try.prog 54 #[.int .i64 a0, .pointer (some ⟨gb263, 0, none⟩), .pointer (some ⟨gb264, 0, none⟩), .pointer (some ⟨gb265, 0, none⟩)] w fun e w' => e = .returned (.bool r) ∧ Below w.heap.size w w' := by
  have HR2_0 := Aside0.mk hr2_0
  have HC2_0 := Aside0.mk hc2_0
  clear hr2_0 hc2_0
  have HR3_0 := Aside0.mk hr3_0
  have HC3_0 := Aside0.mk hc3_0
  clear hr3_0 hc3_0
  have BK263 := Aside0.mk hbk263
  clear hbk263
  have BK264 := Aside0.mk hbk264
  clear hbk264
  have BK265 := Aside0.mk hbk265
  clear hbk265
  have HB := Aside0.mk (Below.refl w.heap.size w)
  have H : ((impl_ContestOf.f k a1_0 l2_0 a0).bind fun t266 => (if t266 < 0 then (some true) else ((impl_ContestOf.f k a1_0 l3_0 a0).bind fun t267 => (some (decide (t267 ≥ 0)))))) = some r := h
  clear h
  replace H := Option.bind_eq_some_iff.mp H
  obtain ⟨t266, A50, H⟩ := H
  replace H : (if t266 < 0 then (some true) else ((impl_ContestOf.f k a1_0 l3_0 a0).bind fun t267 => (some (decide (t267 ≥ 0))))) = some r := H
  have A5 := Aside0.mk A50
  clear A50
  by_cases c6 : t266 < 0
  · rw [if_pos c6] at H
    have c6b0 : decide (t266 < 0) = true := decide_eq_true c6
    clear c6
    obtain rfl := Option.some.inj H
    obtain ⟨hcz9_0, hfz9_0⟩ := cf1 BK263.out
    obtain ⟨hcz11_0, hfz11_0⟩ := cf1 BK264.out
    go_enter Try.func54, Try.ntmps54
    go_wp2_with (first | ((with_reducible refine gate_callee (f := 21) rfl ?_); refine goesL_ (some 9) rfl rfl Try.func21 (by kernel_rfl) rfl #[.int .i64 a1_0, .slice A2_0 l2_0.length c2_0, .int .i64 a0] rfl ga ?_; (with_reducible refine (impl_ContestOf.calls k a1_0 _ _ l2_0 a0 t266 _ ?side1 ?side2 A5.out).mono ?_); (case side1 => exact ck HR2_0.out); (case side2 => exact HC2_0.out); rintro e w12 ⟨rfl, hb⟩; refine ⟨_, rfl, ?_⟩; replace BK263 := Aside0.mk (bb BK263.out hb); replace BK264 := Aside0.mk (bb BK264.out hb); replace BK265 := Aside0.mk (bb BK265.out hb); replace HB := Aside0.mk (below_step bel hb); (try clear hb)))
    go_ret
    exact ⟨er, bel⟩
  · rw [if_neg c6] at H
    have c6b0 : decide (t266 < 0) = false := decide_eq_false c6
    clear c6
    replace H := Option.bind_eq_some_iff.mp H
    obtain ⟨t267, A130, H⟩ := H
    replace H : (some (decide (t267 ≥ 0))) = some r := H
    have A13 := Aside0.mk A130
    clear A130
    obtain rfl := Option.some.inj H
    obtain ⟨hcz16_0, hfz16_0⟩ := cf1 BK263.out
    obtain ⟨hcz18_0, hfz18_0⟩ := cf1 BK264.out
    go_enter Try.func54, Try.ntmps54
    go_wp2_with (first | ((with_reducible refine gate_callee (f := 21) rfl ?_); refine goesL_ (some 9) rfl rfl Try.func21 (by kernel_rfl) rfl #[.int .i64 a1_0, .slice A2_0 l2_0.length c2_0, .int .i64 a0] rfl ga ?_; (with_reducible refine (impl_ContestOf.calls k a1_0 _ _ l2_0 a0 t266 _ ?side1 ?side2 A5.out).mono ?_); (case side1 => exact ck HR2_0.out); (case side2 => exact HC2_0.out); rintro e w19 ⟨rfl, hb⟩; refine ⟨_, rfl, ?_⟩; replace BK263 := Aside0.mk (bb BK263.out hb); replace BK264 := Aside0.mk (bb BK264.out hb); replace BK265 := Aside0.mk (bb BK265.out hb); replace HB := Aside0.mk (below_step bel hb); (try clear hb); obtain ⟨hcz20_0, hfz20_0⟩ := cf1 BK263.out; obtain ⟨hcz21_0, hfz21_0⟩ := cf1 BK265.out) | (go_at_call 21; (with_reducible refine (impl_ContestOf.calls k a1_0 _ _ l3_0 a0 t267 _ ?side1 ?side2 A13.out).mono ?_); (case side1 => exact ck (Kd.C_below HR3_0.out HB.out)); (case side2 => exact HC3_0.out); rintro e w22 ⟨rfl, hb⟩; replace BK263 := Aside0.mk (bb BK263.out hb); replace BK264 := Aside0.mk (bb BK264.out hb); replace BK265 := Aside0.mk (bb BK265.out hb); replace HB := Aside0.mk (below_step bel hb); (try clear hb); (try clear hb2); (try clear hk); (try clear hi)))
    go_ret
    exact ⟨er, bel⟩
/-! ### slices_DeleteFunc_int_int_impl_SwapGains_1: slices.DeleteFunc (function 52) with the closure 54 (this session's own text) -/
def slices_DeleteFunc_int_int_impl_SwapGains_1.ix (p : Nat → Int → Option Bool) : Nat → List Int → Nat → Option Int
  | 0, _, _ => none
  | k + 1, xs, i => if i < xs.length then ((p k (xs.getD i 0)).bind fun b => (if b = true then (some (i : Int)) else (slices_DeleteFunc_int_int_impl_SwapGains_1.ix p k xs (i + 1)))) else (some (-1))
def slices_DeleteFunc_int_int_impl_SwapGains_1.dl (p : Nat → Int → Option Bool) : Nat → List Int → Nat → Nat → Option (List Int)
  | 0, _, _, _ => none
  | k + 1, xs, i, j => if j < xs.length then ((p k (xs.getD j 0)).bind fun b => (if b = true then (slices_DeleteFunc_int_int_impl_SwapGains_1.dl p k xs i (j + 1)) else (if i < xs.length then (slices_DeleteFunc_int_int_impl_SwapGains_1.dl p k (xs.set i (xs.getD j 0)) (i + 1) (j + 1)) else (none)))) else (if i < xs.length then (some (xs.take i)) else (none))
def slices_DeleteFunc_int_int_impl_SwapGains_1.del (p : Nat → Int → Option Bool) (k : Nat) (xs : List Int) : Option (List Int) := (slices_DeleteFunc_int_int_impl_SwapGains_1.ix p k xs 0).bind fun t => (if t = -1 then (some xs) else (if 0 ≤ t then (slices_DeleteFunc_int_int_impl_SwapGains_1.dl p k xs t.toNat (t.toNat + 1)) else (none)))
theorem slices_DeleteFunc_int_int_impl_SwapGains_1.ix_mono {p : Nat → Int → Option Bool} (hp : ∀ k x, LeO (p k x) (p (k + 1) x)) : ∀ k xs i, LeO (slices_DeleteFunc_int_int_impl_SwapGains_1.ix p k xs i) (slices_DeleteFunc_int_int_impl_SwapGains_1.ix p (k + 1) xs i)
  | 0, _, _ => fun r h => by simp [slices_DeleteFunc_int_int_impl_SwapGains_1.ix] at h
  | k + 1, xs, i => by
    have ih := slices_DeleteFunc_int_int_impl_SwapGains_1.ix_mono hp k
    unfold slices_DeleteFunc_int_int_impl_SwapGains_1.ix
    exact LeO.ite (LeO.bind (hp _ _) (fun _ => LeO.ite (LeO.refl _) (ih _ _))) (LeO.refl _)
theorem slices_DeleteFunc_int_int_impl_SwapGains_1.dl_mono {p : Nat → Int → Option Bool} (hp : ∀ k x, LeO (p k x) (p (k + 1) x)) : ∀ k xs i j, LeO (slices_DeleteFunc_int_int_impl_SwapGains_1.dl p k xs i j) (slices_DeleteFunc_int_int_impl_SwapGains_1.dl p (k + 1) xs i j)
  | 0, _, _, _ => fun r h => by simp [slices_DeleteFunc_int_int_impl_SwapGains_1.dl] at h
  | k + 1, xs, i, j => by
    have ih := slices_DeleteFunc_int_int_impl_SwapGains_1.dl_mono hp k
    unfold slices_DeleteFunc_int_int_impl_SwapGains_1.dl
    exact LeO.ite (LeO.bind (hp _ _) (fun _ => LeO.ite (ih _ _ _) (LeO.ite (ih _ _ _) (LeO.refl _)))) (LeO.ite (LeO.refl _) (LeO.refl _))
theorem slices_DeleteFunc_int_int_impl_SwapGains_1.del_mono {p : Nat → Int → Option Bool} (hp : ∀ k x, LeO (p k x) (p (k + 1) x)) (k : Nat) (xs : List Int) : LeO (slices_DeleteFunc_int_int_impl_SwapGains_1.del p k xs) (slices_DeleteFunc_int_int_impl_SwapGains_1.del p (k + 1) xs) := by
  unfold slices_DeleteFunc_int_int_impl_SwapGains_1.del
  exact LeO.bind (slices_DeleteFunc_int_int_impl_SwapGains_1.ix_mono hp _ _ _) (fun _ => LeO.ite (LeO.refl _) (LeO.ite (slices_DeleteFunc_int_int_impl_SwapGains_1.dl_mono hp _ _ _ _) (LeO.refl _)))
theorem slices_DeleteFunc_int_int_impl_SwapGains_1.puts {base g n cap : Nat} {ok : Nat → Prop} : ∀ (m : Nat) (W : World) (xs : List Int) (i : Nat), (Kd.int .i64).R 3 W base ok (.slice (some ⟨g, 0, none⟩) n cap) xs → i + m ≤ n →
    ∃ ys : List Int, (Kd.int .i64).R 3 (W.setCells g i (List.replicate m (.int .i64 0))) base ok (.slice (some ⟨g, 0, none⟩) n cap) ys ∧ ys.take i = xs.take i ∧ ys.length = xs.length ∧ W.grownBy (W.setCells g i (List.replicate m (.int .i64 0))) (some g) ∧ ∀ (w0 : World), Below w0.heap.size w0 W → w0.heap.size ≤ g → Below w0.heap.size w0 (W.setCells g i (List.replicate m (.int .i64 0)))
  | 0, W, xs, i, h, hi => ⟨xs, h, rfl, rfl, World.grownBy.refl _ _, fun _ hb _ => hb⟩
  | m + 1, W, xs, i, h, hi => by
    have h1 := Kd.R_putg h (i : Int) 0
    rw [Int.toNat_natCast] at h1
    obtain ⟨ys, h2, h3, h4, h5, h6⟩ := slices_DeleteFunc_int_int_impl_SwapGains_1.puts m (W.setCell ⟨g, i, none⟩ (.int .i64 0)) (xs.set i 0) (i + 1) h1.1 (by omega)
    refine ⟨ys, h2, ?_, by rw [h4]; simp, h1.2.andThen h5 (fun j hj => .inr hj), fun w0 hb hg => h6 w0 (below_set hb hg) hg⟩
    have := congrArg (List.take i) h3
    rw [List.take_take, List.take_take, Nat.min_eq_left (by omega)] at this
    rw [this, List.take_set]
    exact List.set_eq_of_length_le (by rw [List.length_take]; omega)
theorem slices_DeleteFunc_int_int_impl_SwapGains_1.wn {i : Nat} (h : i < 4611686018427387905) : Value.int .i64 (wrap64 ((i : Int) + 1)) = .int .i64 ((i + 1 : Nat) : Int) := by
  rw [show wrap64 ((i : Int) + 1) = ((i + 1 : Nat) : Int) by unfold wrap64; omega]
theorem slices_DeleteFunc_int_int_impl_SwapGains_1.ix_lt {p : Nat → Int → Option Bool} : ∀ {k : Nat} {xs : List Int} {i t : Nat}, slices_DeleteFunc_int_int_impl_SwapGains_1.ix p k xs i = some (t : Int) → t < xs.length
  | 0, _, _, _, h => by simp [slices_DeleteFunc_int_int_impl_SwapGains_1.ix] at h
  | k + 1, xs, i, t, h => by
    simp only [slices_DeleteFunc_int_int_impl_SwapGains_1.ix] at h
    by_cases c : i < xs.length
    · rw [if_pos c] at h
      obtain ⟨b, _, h⟩ := Option.bind_eq_some_iff.mp h
      cases b with
      | true => rw [if_pos rfl] at h; have := Option.some.inj h; omega
      | false => rw [if_neg (by decide)] at h; exact slices_DeleteFunc_int_int_impl_SwapGains_1.ix_lt h
    · rw [if_neg c] at h
      have := Option.some.inj h
      omega
set_option maxHeartbeats 8000000 in
set_option maxRecDepth 100000 in
theorem slices_DeleteFunc_int_int_impl_SwapGains_1.search (p : Nat → Int → Option Bool) (k : Nat) (gb1 : Nat) (gb2 : Nat) (gb3 : Nat) (A0 : Option Addr) (c0 : Nat) (l0 : List Int) (r : Int) (w : World) (hr0 : Kd.C (Kd.int .i64) w A0 l0.length l0) (hc0 : l0.length ≤ c0) (hb0 : l0.length ≤ 4611686018427387904)
    (hp : ∀ (k : Nat) (x : Int) (b : Bool) (W : World), p k x = some b → Below w.heap.size w W → Calls Try.prog 54 #[.int .i64 x, .pointer (some ⟨gb1, 0, none⟩), .pointer (some ⟨gb2, 0, none⟩), .pointer (some ⟨gb3, 0, none⟩)] W fun e w' => e = .returned (.bool b) ∧ Below W.heap.size W w') (h : slices_DeleteFunc_int_int_impl_SwapGains_1.ix p k l0 0 = some r) :
    Calls Try.prog 63 #[.slice A0 l0.length c0, .func (.func 54) #[] #[.pointer (some ⟨gb1, 0, none⟩), .pointer (some ⟨gb2, 0, none⟩), .pointer (some ⟨gb3, 0, none⟩)]] w fun e w' => e = .returned (.int .i64 r) ∧ Below w.heap.size w w' := by
  have HR0 := Aside0.mk hr0
  have HC0 := Aside0.mk hc0
  have HN := Aside0.mk hb0
  have HP := Aside0.mk hp
  clear hr0 hc0 hp hb0
  have H' := Aside0.mk h
  clear h
  have HB := Aside0.mk (Below.refl w.heap.size w)
  go_enter Try.func63, Try.ntmps63
  go_wp2
  go_loopg [8] k (fun kq v w' => ∃ (i : Nat), v = .int .i64 (i : Int) ∧ Aside0 (slices_DeleteFunc_int_int_impl_SwapGains_1.ix p kq l0 i = some r) ∧ Aside0 (kq ≤ k) ∧ Aside0 (Below w.heap.size w w'))
  case atStart => exact ⟨0, rfl, H', ⟨Nat.le_refl _⟩, HB⟩
  case round =>
    clear H' HB
    obtain ⟨i, rfl, HA, HK1, HB⟩ := hrel
    cases gk with
    | zero => exact absurd HA.out (by simp [slices_DeleteFunc_int_int_impl_SwapGains_1.ix])
    | succ k1 =>
      have H := HA.out
      clear HA
      simp only [slices_DeleteFunc_int_int_impl_SwapGains_1.ix] at H
      by_cases c7 : i < l0.length
      · rw [if_pos c7] at H
        have hltz : (i : Int) < (l0.length : Int) := by omega
        replace H := Option.bind_eq_some_iff.mp H
        obtain ⟨b, A30, H⟩ := H
        have HH := Aside0.mk H
        clear H
        have hcall := HP.out k1 _ _ _ A30 (bel : Below w.heap.size w wr)
        clear A30
        obtain ⟨ad1, e1, hx1_0⟩ := Kd.at_int HR0.out (i : Int) (by omega) hltz
        cases e1
        replace hx1_0 := hcl HB.out hx1_0
        rw [Int.toNat_natCast] at hx1_0
        have hv : rd l0 (i : Int) = l0.getD i 0 := by simp [rd]
        rw [hv] at hx1_0
        clear hv
        have HL := Aside0.mk c7
        clear c7
        cases b with
        | true =>
          have H := HH.out
          rw [if_pos rfl] at H
          obtain rfl := Option.some.inj H
          clear H HH
          have HQ := Aside0.mk hcall
          clear hcall
          go_wp2_with (go_at_call 54; refine HQ.out.mono ?_; rintro e w' ⟨rfl, hb⟩; replace HB := Aside0.mk (below_step bel hb); clear hb)
          go_ret
          exact ⟨er, bel⟩
        | false =>
          have H := HH.out
          rw [if_neg (by decide)] at H
          have HN2 := Aside0.mk H
          clear H HH
          have HQ := Aside0.mk hcall
          clear hcall
          go_wp2_with (go_at_call 54; refine HQ.out.mono ?_; rintro e w' ⟨rfl, hb⟩; replace HB := Aside0.mk (below_step bel hb); clear hb)
          go_roundg k1
          case measure => have := HK1.out; omega
          case rel =>
            have hN := HN.out
            have hL := HL.out
            exact ⟨i + 1, slices_DeleteFunc_int_int_impl_SwapGains_1.wn (by omega), HN2, ⟨by have := HK1.out; omega⟩, ⟨bel⟩⟩
      · rw [if_neg c7] at H
        have hltz : ¬ (i : Int) < (l0.length : Int) := by omega
        clear c7
        obtain rfl := Option.some.inj H
        go_wp2
        go_ret
        exact ⟨er, bel⟩
set_option maxHeartbeats 8000000 in
set_option maxRecDepth 100000 in
theorem slices_DeleteFunc_int_int_impl_SwapGains_1.delCalls (p : Nat → Int → Option Bool) (k : Nat) (gb1 : Nat) (gb2 : Nat) (gb3 : Nat) (P0_ : Nat → Prop) (u : Value) (l0 r : List Int) (w0 w : World) (hb0 : l0.length ≤ 4611686018427387904) (hB : Below w0.heap.size w0 w) (ho0 : Kd.R (Kd.int .i64) 3 w w0.heap.size P0_ u l0)
    (hp : ∀ (k : Nat) (x : Int) (b : Bool) (W : World), p k x = some b → Kept w W P0_ → Calls Try.prog 54 #[.int .i64 x, .pointer (some ⟨gb1, 0, none⟩), .pointer (some ⟨gb2, 0, none⟩), .pointer (some ⟨gb3, 0, none⟩)] W fun e w' => e = .returned (.bool b) ∧ Below W.heap.size W w') (h : slices_DeleteFunc_int_int_impl_SwapGains_1.del p k l0 = some r) :
    Calls Try.prog 52 #[u, .func (.func 54) #[] #[.pointer (some ⟨gb1, 0, none⟩), .pointer (some ⟨gb2, 0, none⟩), .pointer (some ⟨gb3, 0, none⟩)]] w fun e w' => ∃ v_ : Value, e = .returned v_ ∧ Kd.R (Kd.int .i64) 3 w' w0.heap.size P0_ v_ r ∧ Below w0.heap.size w0 w' ∧ Kept w w' P0_ := by
  obtain ⟨A0, c0, rfl⟩ := Kd.R_slice ho0
  have HN := Aside0.mk hb0
  have HP := Aside0.mk hp
  have HO := Aside0.mk ho0
  have HB := Aside0.mk hB
  have HK := Aside0.mk (Kept.refl w P0_)
  clear hp hb0 ho0 hB
  obtain ⟨t, A1, H⟩ := Option.bind_eq_some_iff.mp h
  clear h
  have A1 := Aside0.mk A1
  have HH := Aside0.mk H
  clear H
  by_cases ct : t = -1
  · subst ct
    have H := HH.out
    rw [if_pos rfl] at H
    obtain rfl := Option.some.inj H
    clear H HH
    go_enter Try.func52, Try.ntmps52
    go_wp2_with (go_at_call 63; (with_reducible refine (slices_DeleteFunc_int_int_impl_SwapGains_1.search p k gb1 gb2 gb3 A0 c0 l0 (-1) w ?side1 ?side2 ?side3 ?side4 A1.out).mono ?_); (case side1 => exact (Kd.R_reads' HO.out).2.2); (case side2 => exact (Kd.R_reads' HO.out).2.1); (case side3 => exact HN.out); (case side4 => exact fun k x b W hx hw => HP.out k x b W hx (Kept.of_below hw _)); rintro e w1 ⟨rfl, hb⟩; replace HO := Aside0.mk (Kd.R_below HO.out hb); replace HK := Aside0.mk (Kept.of_below hb P0_); replace HB := Aside0.mk (below_step HB.out hb); clear hb)
    go_ret
    exact ⟨_, rfl, HO.out, HB.out, HK.out⟩
  · have H := HH.out
    rw [if_neg ct] at H
    by_cases ct2 : 0 ≤ t
    · rw [if_pos ct2] at H
      obtain ⟨i0, rfl⟩ := Int.eq_ofNat_of_zero_le ct2
      rw [Int.toNat_natCast] at H
      have H' := Aside0.mk H
      clear H HH ct2
      have hne1 : ((i0 : Int) == -1) = false := beq_eq_false_iff_ne.2 ct
      have HNE := Aside0.mk ct
      clear ct
      have HI : Aside0 (i0 < l0.length) := ⟨slices_DeleteFunc_int_int_impl_SwapGains_1.ix_lt A1.out⟩
      have hn0 : 0 < l0.length := by have := HI.out; omega
      obtain ⟨g, cap, eo, gb0, gl, cl, HG⟩ := Kd.R_form HO.out hn0
      (first | cases eo | (injection eo with ea_ en_ ec_; (first | subst ea_ | (injection ea_ with ea_; subst ea_)); subst ec_; clear en_))
      have GB := Aside0.mk gb0
      have HMg := Aside0.mk (show P0_ g from HO.out.1 _ rfl)
      clear gb0 gl HG hn0
      obtain ⟨n, hn⟩ : ∃ n, n = l0.length := ⟨_, rfl⟩
      have HLN := Aside0.mk hn
      clear hn
      go_enter Try.func52, Try.ntmps52
      go_wp2_with (go_at_call 63; (with_reducible refine (slices_DeleteFunc_int_int_impl_SwapGains_1.search p k gb1 gb2 gb3 _ c0 l0 (i0 : Int) w ?side1 ?side2 ?side3 ?side4 A1.out).mono ?_); (case side1 => exact (Kd.R_reads' HO.out).2.2); (case side2 => exact (Kd.R_reads' HO.out).2.1); (case side3 => exact HN.out); (case side4 => exact fun k x b W hx hw => HP.out k x b W hx (Kept.of_below hw _)); rintro e w1 ⟨rfl, hb⟩; replace HO := Aside0.mk (Kd.R_below HO.out hb); replace HK := Aside0.mk (Kept.of_below hb P0_); replace HB := Aside0.mk (below_step HB.out hb); clear hb)
      go_loopg [5, 6, 7] k (fun kq v5 v6 _ w' => ∃ (xs : List Int) (i j : Nat), v5 = .int .i64 (i : Int) ∧ v6 = .int .i64 (j : Int) ∧ Aside0 (xs.length = l0.length) ∧ Aside0 (j ≤ l0.length) ∧ Aside0 (slices_DeleteFunc_int_int_impl_SwapGains_1.dl p kq xs i j = some r) ∧ Aside0 (kq ≤ k) ∧ Aside0 (Kd.R (Kd.int .i64) 3 w' w0.heap.size P0_ (.slice (some ⟨g, 0, none⟩) l0.length c0) xs) ∧ Aside0 (Kept w w' P0_) ∧ Aside0 (Below w0.heap.size w0 w'))
      case atStart => exact ⟨l0, i0, i0 + 1, rfl, slices_DeleteFunc_int_int_impl_SwapGains_1.wn (by have := HI.out; have := HN.out; omega), ⟨rfl⟩, ⟨HI.out⟩, H', ⟨Nat.le_refl _⟩, HO, HK, HB⟩
      case round =>
        clear H' HO HK HB A1 HI HNE hne1
        obtain ⟨xs, i, j, rfl, rfl, HX, HJ, HA, HK1, HO, HK, HB⟩ := hrel
        cases gk with
        | zero => exact absurd HA.out (by simp [slices_DeleteFunc_int_int_impl_SwapGains_1.dl])
        | succ k1 =>
          have H := HA.out
          clear HA
          simp only [slices_DeleteFunc_int_int_impl_SwapGains_1.dl] at H
          by_cases c7 : j < xs.length
          · rw [if_pos c7] at H
            have hltz : (j : Int) < (l0.length : Int) := by have := HX.out; omega
            replace H := Option.bind_eq_some_iff.mp H
            obtain ⟨b, A30, H⟩ := H
            have HH := Aside0.mk H
            clear H
            have HQ := Aside0.mk (HP.out k1 _ _ _ A30 HK.out)
            clear A30
            obtain ⟨hxj, hfj⟩ := Kd.R_celln 0 HO.out (j : Int) (by omega) hltz
            rw [Int.toNat_natCast, show rdOf 0 xs (j : Int) = xs.getD j 0 by simp [rdOf]] at hxj
            clear hfj
            have HL := Aside0.mk c7
            clear c7
            cases b with
            | true =>
              have H := HH.out
              rw [if_pos rfl] at H
              have HN2 := Aside0.mk H
              clear H HH
              go_wp2_with (go_at_call 54; refine HQ.out.mono ?_; rintro e w2 ⟨rfl, hb⟩; replace HO := Aside0.mk (Kd.R_below HO.out hb); replace HK := Aside0.mk (Kept.then_ HK.out (Kept.of_below hb (fun _ => False)) (fun _ h_ => h_.elim)); replace HB := Aside0.mk (below_step HB.out hb); clear hb)
              go_roundg k1
              case measure => have := HK1.out; omega
              case rel =>
                have hN := HN.out
                have hL := HL.out
                have hX := HX.out
                exact ⟨xs, i, j + 1, rfl, slices_DeleteFunc_int_int_impl_SwapGains_1.wn (by omega), HX, ⟨by omega⟩, HN2, ⟨by have := HK1.out; omega⟩, HO, HK, HB⟩
            | false =>
              have H := HH.out
              rw [if_neg (by decide)] at H
              by_cases c8 : i < xs.length
              · rw [if_pos c8] at H
                have HN2 := Aside0.mk H
                clear H HH
                have hlti : (i : Int) < (l0.length : Int) := by have := HX.out; omega
                have HLI := Aside0.mk c8
                clear c8
                go_wp2_with (go_at_call 54; refine HQ.out.mono ?_; rintro e w2 ⟨rfl, hb⟩; replace HO := Aside0.mk (Kd.R_below HO.out hb); replace HK := Aside0.mk (Kept.then_ HK.out (Kept.of_below hb (fun _ => False)) (fun _ h_ => h_.elim)); replace HB := Aside0.mk (below_step HB.out hb); clear hb; obtain ⟨hxi, hfi⟩ := Kd.R_celln 0 HO.out (i : Int) (by omega) hlti; rw [Int.toNat_natCast] at hxi hfi)
                go_roundg k1
                case measure => have := HK1.out; omega
                case rel =>
                  have hN := HN.out
                  have hL := HL.out
                  have hI := HLI.out
                  have hX := HX.out
                  have hP := Kd.R_putg HO.out (i : Int) (xs.getD j 0)
                  rw [Int.toNat_natCast] at hP
                  exact ⟨xs.set i (xs.getD j 0), i + 1, j + 1, slices_DeleteFunc_int_int_impl_SwapGains_1.wn (by omega), slices_DeleteFunc_int_int_impl_SwapGains_1.wn (by omega), ⟨by simpa using hX⟩, ⟨by omega⟩, HN2, ⟨by have := HK1.out; omega⟩, ⟨hP.1⟩, ⟨Kept.of_grown hP.2 HK.out (fun k_ e_ => by injection e_ with e_; subst e_; exact .inl HMg.out)⟩, ⟨below_set HB.out GB.out⟩⟩
              · rw [if_neg c8] at H
                exact absurd H (by simp)
          · rw [if_neg c7] at H
            have hltz : ¬ (j : Int) < (l0.length : Int) := by have := HX.out; omega
            clear c7
            by_cases c8 : i < xs.length
            · rw [if_pos c8] at H
              obtain rfl := Option.some.inj H
              clear H
              have hil : i < l0.length := by have := HX.out; omega
              obtain ⟨ys, hy1, hy2, hy3, hy4, hy5⟩ := slices_DeleteFunc_int_int_impl_SwapGains_1.puts (l0.length - i) wr xs i HO.out (by omega)
              have hclr : ∀ ty, (Builtin.clear_ #[35] ty #[.slice (some ⟨g, i, none⟩) (l0.length - i) (c0 - i)]).run Try.prog wr = .ok (.tuple #[]) (wr.setCells g i (List.replicate (l0.length - i) (.int .i64 0))) :=
                fun ty => Lib.run_clear_slice wr _ _ ty _ Try.underlying35 (fun w => by rfl) rfl rfl g i _ _ (by omega) (fun t ht => by have q := (Kd.R_celln 0 HO.out ((i + t : Nat) : Int) (by omega) (by omega)).1; rw [Int.toNat_natCast] at q; rw [q]; rfl) (fun t ht => by have q := (Kd.R_celln 0 HO.out ((i + t : Nat) : Int) (by omega) (by omega)).2; rw [Int.toNat_natCast] at q; exact q)
              have HY := Aside0.mk (Kd.R_take (m := i) hy1 (by rw [hy3]; exact Nat.le_of_lt c8))
              have HT := Aside0.mk hy2
              have HGR := Aside0.mk hy4
              have HBL := Aside0.mk (hy5 w0 HB.out GB.out)
              have hcc := Aside0.mk (Kd.R_reads' HO.out).2.1
              clear hy1 hy2 hy3 hy4 hy5
              have hic : i ≤ c0 := by have := hcc.out; omega
              have hlc : l0.length ≤ c0 := hcc.out
              clear c8
              go_wp2
              go_ret
              rw [HT.out] at HY
              exact ⟨_, rfl, by simpa using HY.out, HBL.out, Kept.of_grown (S := P0_) HGR.out HK.out (fun k_ e_ => by injection e_ with e_; subst e_; exact .inl HMg.out)⟩
            · rw [if_neg c8] at H
              exact absurd H (by simp)
    · rw [if_neg ct2] at H
      exact absurd H (by simp)
def slices_DeleteFunc_int_int_impl_SwapGains_1.f (k : Nat) (l0 : List Int) (a1_0 : Int) (l2_0 : List (S38)) (l3_0 : List (S38)) : Option (List Int) := if l0.length ≤ 4611686018427387904 then (slices_DeleteFunc_int_int_impl_SwapGains_1.del (fun k_ x_ => impl_SwapGains_1.f k_ x_ a1_0 l2_0 l3_0) k l0) else (none)
theorem slices_DeleteFunc_int_int_impl_SwapGains_1.mono : ∀ y0 y1 y2 y3 k, LeO (slices_DeleteFunc_int_int_impl_SwapGains_1.f k y0 y1 y2 y3) (slices_DeleteFunc_int_int_impl_SwapGains_1.f (k + 1) y0 y1 y2 y3) := by
  intros
  unfold slices_DeleteFunc_int_int_impl_SwapGains_1.f
  exact LeO.ite (slices_DeleteFunc_int_int_impl_SwapGains_1.del_mono (fun _ _ => impl_SwapGains_1.mono _ _ _ _ _) _ _) (LeO.refl _)
set_option maxHeartbeats 8000000 in
set_option maxRecDepth 100000 in
theorem slices_DeleteFunc_int_int_impl_SwapGains_1.calls (k : Nat) (P0_ : Nat → Prop) (u9000_ : Value) (l0 : List Int) (gb1 : Nat) (a1_0 : Int) (gb2 : Nat) (A2_0 : Option Addr) (c2_0 : Nat) (l2_0 : List (S38)) (gb3 : Nat) (A3_0 : Option Addr) (c3_0 : Nat) (l3_0 : List (S38)) (r : List Int) (w0 w : World) (hB : Below w0.heap.size w0 w) (ho0 : Kd.R (Kd.int .i64) 3 w w0.heap.size P0_ u9000_ l0) (hr2_0 : ∀ W_, Kept w W_ (fun k_ => P0_ k_) → Kd.C k38 W_ A2_0 l2_0.length l2_0) (hc2_0 : l2_0.length ≤ c2_0) (hr3_0 : ∀ W_, Kept w W_ (fun k_ => P0_ k_) → Kd.C k38 W_ A3_0 l3_0.length l3_0) (hc3_0 : l3_0.length ≤ c3_0) (hbk1 : w.heap[gb1]? = some (.cells #[.int .i64 a1_0] 3 (0, 0))) (hbk2 : w.heap[gb2]? = some (.cells #[.slice A2_0 l2_0.length c2_0] 25 (0, 0))) (hbk3 : w.heap[gb3]? = some (.cells #[.slice A3_0 l3_0.length c3_0] 25 (0, 0))) (hnb1 : ¬ P0_ gb1) (hnb2 : ¬ P0_ gb2) (hnb3 : ¬ P0_ gb3) (h : slices_DeleteFunc_int_int_impl_SwapGains_1.f k l0 a1_0 l2_0 l3_0 = some r) :
    Calls Try.prog 52 #[u9000_, .func (.func 54) #[] #[.pointer (some ⟨gb1, 0, none⟩), .pointer (some ⟨gb2, 0, none⟩), .pointer (some ⟨gb3, 0, none⟩)]] w fun e w' => ∃ v0_ : Value, e = .returned v0_ ∧ Kd.R (Kd.int .i64) 3 w' w0.heap.size (fun k_ => (P0_ k_ ∨ w.heap.size ≤ k_)) v0_ r ∧ Below w0.heap.size w0 w' ∧ Kept w w' (fun k_ => P0_ k_) := by
  by_cases cl : l0.length ≤ 4611686018427387904
  · unfold slices_DeleteFunc_int_int_impl_SwapGains_1.f at h
    rw [if_pos cl] at h
    refine (slices_DeleteFunc_int_int_impl_SwapGains_1.delCalls _ k gb1 gb2 gb3 (fun k_ => P0_ k_) u9000_ l0 r w0 w cl hB ho0 ?_ h).mono ?_
    · intro kk xx bb_ WW hpp hkk
      exact (impl_SwapGains_1.calls kk xx gb1 a1_0 gb2 A2_0 c2_0 l2_0 gb3 A3_0 c3_0 l3_0 bb_ WW (hr2_0 WW hkk) hc2_0 (hr3_0 WW hkk) hc3_0 (kept_blk hbk1 hkk hnb1) (kept_blk hbk2 hkk hnb2) (kept_blk hbk3 hkk hnb3) hpp).mono (fun e_ w_ h_ => ⟨h_.1, h_.2⟩)
    · rintro e_ w_ ⟨v_, rfl, hR, hb, hk⟩
      exact ⟨v_, rfl, Kd.R_mono hR (fun _ h_ => .inl h_), hb, hk⟩
  · unfold slices_DeleteFunc_int_int_impl_SwapGains_1.f at h
    rw [if_neg cl] at h
    exact absurd h (by simp)
/-! ### impl_SwapGains: function 24 -/
def impl_SwapGains.j0 : Nat → Int → Int → Bool → Int → List (S38) → Option (List Int)
  | 0, _, _, _, _, _ => none
  | k + 1, x2, x3, x34, x264000, x265000 => if x34 = true then (some ([] : List Int)) else ((impl_Contest.f x265000).bind fun t269 => (if 0 ≤ x2 then (if x2 < (x265000.length : Int) then ((slices_Clone_int_int.f ((rd_T38 x265000 x2).f0)).bind fun t274 => (if 0 ≤ (wrap64 (x3 + 1)) then (if (wrap64 (x3 + 1)) < (t274.length : Int) then (if 0 ≤ x3 then (if x3 < (t274.length : Int) then (if x2 < (t269.length : Int) then ((impl_upTo.f k x264000).bind fun t282 => ((slices_DeleteFunc_int_int_impl_SwapGains_1.f k t282 x264000 (t269.set (x2 : Int).toNat (⟨((t274.set (x3 : Int).toNat (rd t274 (wrap64 (x3 + 1)))).set ((wrap64 (x3 + 1)) : Int).toNat (rd t274 x3)), (rd_T38 t269 x2).f1, (rd_T38 t269 x2).f2⟩ : S38)) x265000).bind fun t285 => (some t285))) else (none)) else (none)) else (none)) else (none)) else (none))) else (none)) else (none)))
def impl_SwapGains.f (k : Nat) (a0 : Int) (l1 : List (S38)) (a2 : Int) (a3 : Int) : Option (List Int) := (impl_ContestsOk.f k a0 l1).bind fun t265 => (if t265 = true then ((impl_within.f a2 0 (wrap64 ((l1.length : Int) - 1))).bind fun t266 => (if t266 = true then (if 0 ≤ a2 then (if a2 < (l1.length : Int) then ((impl_within.f a3 0 (wrap64 ((((rd_T38 l1 a2).f0).length : Int) - 2))).bind fun t268 => (impl_SwapGains.j0 k a2 a3 (!t268) a0 l1)) else (none)) else (none)) else (impl_SwapGains.j0 k a2 a3 true a0 l1))) else (impl_SwapGains.j0 k a2 a3 true a0 l1))
theorem impl_SwapGains.mono_l : ∀ k, (∀ y0 y1 y2 y3 y4, LeO (impl_SwapGains.j0 k y0 y1 y2 y3 y4) (impl_SwapGains.j0 (k + 1) y0 y1 y2 y3 y4))
  | 0 => fun _ _ _ _ _ r h => by simp [impl_SwapGains.j0] at h
  | k + 1 => by
    have ih0 := impl_SwapGains.mono_l k
    · intro y0 y1 y2 y3 y4
      unfold impl_SwapGains.j0
      repeat' first
      | (with_reducible exact ih0 _ _ _ _ _)
      | (with_reducible exact impl_ContestsOk.mono _ _ _)
      | (with_reducible exact impl_upTo.mono _ _)
      | (with_reducible exact slices_DeleteFunc_int_int_impl_SwapGains_1.mono _ _ _ _ _)
      | (with_reducible exact LeO.refl _)
      | (with_reducible exact LeO.none _)
      | (with_reducible refine LeO.ite ?_ ?_)
      | (with_reducible refine LeO.bind ?_ (fun _ => ?_))
      | exact ih0 _ _ _ _ _
      | exact impl_ContestsOk.mono _ _ _
      | exact impl_upTo.mono _ _
      | exact slices_DeleteFunc_int_int_impl_SwapGains_1.mono _ _ _ _ _
      | exact LeO.none _
      | refine LeO.ite ?_ ?_
      | refine LeO.bind ?_ (fun _ => ?_)
theorem impl_SwapGains.mono : ∀ a0 a1 a2 a3 k, LeO (impl_SwapGains.f k a0 a1 a2 a3) (impl_SwapGains.f (k + 1) a0 a1 a2 a3) := by
  intro a0 a1 a2 a3 k
  have ih0 := impl_SwapGains.mono_l k
  unfold impl_SwapGains.f
  repeat' first
      | (with_reducible exact ih0 _ _ _ _ _)
      | (with_reducible exact impl_ContestsOk.mono _ _ _)
      | (with_reducible exact impl_upTo.mono _ _)
      | (with_reducible exact slices_DeleteFunc_int_int_impl_SwapGains_1.mono _ _ _ _ _)
      | (with_reducible exact LeO.refl _)
      | (with_reducible exact LeO.none _)
      | (with_reducible refine LeO.ite ?_ ?_)
      | (with_reducible refine LeO.bind ?_ (fun _ => ?_))
      | exact ih0 _ _ _ _ _
      | exact impl_ContestsOk.mono _ _ _
      | exact impl_upTo.mono _ _
      | exact slices_DeleteFunc_int_int_impl_SwapGains_1.mono _ _ _ _ _
      | exact LeO.none _
      | refine LeO.ite ?_ ?_
      | refine LeO.bind ?_ (fun _ => ?_)
def impl_SwapGains.T5 : Bool × List (List Nat × List Nat) := (true, [([], []), ([], []), ([], []), ([], []), ([3], [3]), ([], []), ([], []), ([6], [6]), ([5, 7], [5, 7]), ([8], [8]), ([], []), ([], []), ([10, 11], [10, 11]), ([12], [12]), ([0, 1, 0, 1, 5, 6, 7, 8, 9, 13], [0, 1]), ([14, 9, 0, 1, 5, 6, 7, 8, 9, 13], [9, 14]), ([2, 4, 0, 1, 2, 3, 4, 5, 6, 7, 8, 9, 10, 11, 12, 13, 14, 15], [2, 4]), ([16, 13, 15, 0, 1, 2, 3, 4, 5, 6, 7, 8, 9, 10, 11, 12, 13, 14, 15], [13, 16])])
def impl_SwapGains.B5 : List Nat := [0, 0, 0, 0, 8, 0, 0, 64, 224, 480, 0, 0, 3072, 7168, 16355, 32739, 65535, 131071]
theorem impl_SwapGains.tab5 : rtab .any (opsOf Try.f24 5) = impl_SwapGains.T5 := by kernel_rfl
theorem impl_SwapGains.bits5 : waitsOk impl_SwapGains.T5.2 impl_SwapGains.B5 = true := by kernel_rfl
set_option maxHeartbeats 8000000 in
set_option maxRecDepth 100000 in
theorem impl_SwapGains.calls (k : Nat) (a0 : Int) (A1 : Option Addr) (c1 : Nat) (l1 : List (S38)) (a2 : Int) (a3 : Int) (r : List Int) (w : World) (hr1 : Kd.C k38 w A1 l1.length l1) (hc1 : l1.length ≤ c1) (h : impl_SwapGains.f k a0 l1 a2 a3 = some r) :
    Calls Try.prog 24 #[.int .i64 a0, .slice A1 l1.length c1, .int .i64 a2, .int .i64 a3] w fun e w' => ∃ v0_ : Value, e = .returned (v0_) ∧ Kd.R (Kd.int .i64) 3 w' w.heap.size (fun _ => True) v0_ r ∧ Below w.heap.size w w' := by
  have HR1 := Aside0.mk hr1
  have HC1 := Aside0.mk hc1
  clear hr1 hc1
  have HB := Aside0.mk (Below.refl w.heap.size w)
  have H : ((impl_ContestsOk.f k a0 l1).bind fun t265 => (if t265 = true then ((impl_within.f a2 0 (wrap64 ((l1.length : Int) - 1))).bind fun t266 => (if t266 = true then (if 0 ≤ a2 then (if a2 < (l1.length : Int) then ((impl_within.f a3 0 (wrap64 ((((rd_T38 l1 a2).f0).length : Int) - 2))).bind fun t268 => (impl_SwapGains.j0 k a2 a3 (!t268) a0 l1)) else (none)) else (none)) else (impl_SwapGains.j0 k a2 a3 true a0 l1))) else (impl_SwapGains.j0 k a2 a3 true a0 l1))) = some r := h
  clear h
  have HC5 := Aside0.mk H
  clear H
  go_enter Try.func24, Try.ntmps24
  go_upto_region 1 with (first | ((with_reducible refine gate_dst (N := 4) rfl ?_); refine box_event ?hg (N := 4) ?hd (cs := #[.int .i64 a0]) (t := 3) ?hr ?_; (case hd => rfl); (case hg => rfl); (case hr => first | (go_simp; done) | (go_simp; rfl)); intro gb263 hg w6 hbox hb; have BK263 := Aside0.mk (hbox); have GW263 := Aside0.mk ((bsz hg : w.heap.size ≤ gb263)); have GE263 := Aside0.mk ((bsz hg : w.heap.size ≤ gb263)); replace HB := Aside0.mk (below_step bel hb); clear hb hbox hg) | ((with_reducible refine gate_dst (N := 5) rfl ?_); refine box_event ?hg (N := 5) ?hd (cs := #[.slice A1 l1.length c1]) (t := 25) ?hr ?_; (case hd => rfl); (case hg => rfl); (case hr => first | (go_simp; done) | (go_simp; rfl)); intro gb264 hg w7 hbox hb; have BK264 := Aside0.mk (hbox); have GW264 := Aside0.mk ((bsz hg : w.heap.size ≤ gb264)); have GE264 := Aside0.mk ((bsz hg : w.heap.size ≤ gb264)); have NB263_264 := Aside0.mk ((nlt hg BK263.out : gb263 ≠ gb264)); have NB264_263 := Aside0.mk ((ngt hg BK263.out : gb264 ≠ gb263)); replace BK263 := Aside0.mk (bb BK263.out hb); replace HB := Aside0.mk (below_step bel hb); clear hb hbox hg))
  (try simp only [Act.put, List.setIfInBounds_toArray, List.set_cons_zero, List.set_cons_succ])
  go_cut [34] (fun v34 wc => ∃ (kq : Nat) (x34_4 : Bool), v34 = .bool x34_4 ∧ Aside0 (impl_SwapGains.j0 kq a2 a3 x34_4 a0 l1 = some r) ∧ Aside0 (kq ≤ k) ∧ Aside0 (wc.heap[gb263]? = some (.cells #[.int .i64 a0] 3 (0, 0))) ∧ Aside0 (wc.heap[gb264]? = some (.cells #[(.slice A1 l1.length c1)] 25 (0, 0))) ∧ Aside0 (Below w.heap.size w wc))
  case first =>
    have H := HC5.out
    clear HC5
    replace H := Option.bind_eq_some_iff.mp H
    obtain ⟨t265, A80, H⟩ := H
    replace H : (if t265 = true then ((impl_within.f a2 0 (wrap64 ((l1.length : Int) - 1))).bind fun t266 => (if t266 = true then (if 0 ≤ a2 then (if a2 < (l1.length : Int) then ((impl_within.f a3 0 (wrap64 ((((rd_T38 l1 a2).f0).length : Int) - 2))).bind fun t268 => (impl_SwapGains.j0 k a2 a3 (!t268) a0 l1)) else (none)) else (none)) else (impl_SwapGains.j0 k a2 a3 true a0 l1))) else (impl_SwapGains.j0 k a2 a3 true a0 l1)) = some r := H
    have A8 := Aside0.mk A80
    clear A80
    by_cases c9 : t265 = true
    · subst c9
      have H1 : ((impl_within.f a2 0 (wrap64 ((l1.length : Int) - 1))).bind fun t266 => (if t266 = true then (if 0 ≤ a2 then (if a2 < (l1.length : Int) then ((impl_within.f a3 0 (wrap64 ((((rd_T38 l1 a2).f0).length : Int) - 2))).bind fun t268 => (impl_SwapGains.j0 k a2 a3 (!t268) a0 l1)) else (none)) else (none)) else (impl_SwapGains.j0 k a2 a3 true a0 l1))) = some r := by rw [if_pos rfl] at H; exact H
      clear H
      have H := H1
      clear H1
      replace H := Option.bind_eq_some_iff.mp H
      obtain ⟨t266, A100, H⟩ := H
      replace H : (if t266 = true then (if 0 ≤ a2 then (if a2 < (l1.length : Int) then ((impl_within.f a3 0 (wrap64 ((((rd_T38 l1 a2).f0).length : Int) - 2))).bind fun t268 => (impl_SwapGains.j0 k a2 a3 (!t268) a0 l1)) else (none)) else (none)) else (impl_SwapGains.j0 k a2 a3 true a0 l1)) = some r := H
      have A10 := Aside0.mk A100
      clear A100
      by_cases c11 : t266 = true
      · subst c11
        have H1 : (if 0 ≤ a2 then (if a2 < (l1.length : Int) then ((impl_within.f a3 0 (wrap64 ((((rd_T38 l1 a2).f0).length : Int) - 2))).bind fun t268 => (impl_SwapGains.j0 k a2 a3 (!t268) a0 l1)) else (none)) else (none)) = some r := by rw [if_pos rfl] at H; exact H
        clear H
        have H := H1
        clear H1
        by_cases c12 : 0 ≤ a2
        · rw [if_pos c12] at H
          have c12b0 : decide (0 ≤ a2) = true := decide_eq_true c12
          clear c12
          (first | rw [c12b0] | (simp only [i64_w, i32_w]; rw [c12b0]) | skip)
          by_cases c13 : a2 < (l1.length : Int)
          · rw [if_pos c13] at H
            have c13b0 : decide (a2 < (l1.length : Int)) = true := decide_eq_true c13
            clear c13
            replace H := Option.bind_eq_some_iff.mp H
            obtain ⟨t268, A140, H⟩ := H
            replace H : (impl_SwapGains.j0 k a2 a3 (!t268) a0 l1) = some r := H
            have A14 := Aside0.mk A140
            clear A140
            have H' := Aside0.mk H
            clear H
            have hnb15 := NB263_264.out
            have hnc15 := NB264_263.out
            obtain ⟨hcz16_0, hfz16_0⟩ := cf1 BK263.out
            obtain ⟨hcz17_0, hfz17_0⟩ := cf1 BK264.out
            go_wp2_with (first | ((with_reducible refine gate_callee (f := 15) rfl ?_); refine goesL_ (some 13) rfl rfl Try.func15 (by kernel_rfl) rfl #[.int .i64 a0, .slice A1 l1.length c1] rfl ga ?_; (with_reducible refine (impl_ContestsOk.calls k a0 _ _ l1 true _ ?side1 ?side2 A8.out).mono ?_); (case side1 => exact ck (Kd.C_below HR1.out HB.out)); (case side2 => exact HC1.out); rintro e w18 ⟨rfl, hb⟩; refine ⟨_, rfl, ?_⟩; replace BK263 := Aside0.mk (bb BK263.out hb); replace BK264 := Aside0.mk (bb BK264.out hb); replace HB := Aside0.mk (below_step bel hb); (try clear hb); obtain ⟨hcz19_0, hfz19_0⟩ := cf1 BK264.out) | (go_at_call 42; (with_reducible refine (impl_within.calls a2 0 (wrap64 ((l1.length : Int) - 1)) true _ A10.out).mono ?_); rintro e w' ⟨rfl, ⟨nd, rfl⟩⟩; have p267 : 0 ≤ (a2 : Int) := asm; have q267 : a2 < (l1.length : Int) := asm; obtain ⟨ad267, A267_0, c267_0, e267, hx267_0, hx267_1, hx267_2, hl267_0, hi267_0⟩ := at_T38 HR1.out a2 p267 q267; cases e267; replace hx267_0 := hcl HB.out hx267_0; replace hx267_1 := hcl HB.out hx267_1; replace hx267_2 := hcl HB.out hx267_2; have HR267_0 := Aside0.mk hi267_0; have HC267_0 := Aside0.mk hl267_0; clear hi267_0 hl267_0; replace p267 := eq_true p267; replace q267 := eq_true q267) | (go_at_call 42; (with_reducible refine (impl_within.calls a3 0 (wrap64 ((((rd_T38 l1 a2).f0).length : Int) - 2)) t268 _ A14.out).mono ?_); rintro e w' ⟨rfl, ⟨nd, rfl⟩⟩))
            go_meet
            case rel => exact ⟨_, (!t268), (es), H', ⟨by first | omega | exact Nat.le_refl _⟩, ⟨bk BK263.out⟩, ⟨bk BK264.out⟩, ⟨bel⟩⟩
          · rw [if_neg c13] at H
            exact absurd H (by simp)
        · rw [if_neg c12] at H
          exact absurd H (by simp)
      · replace c11 := Bool.eq_false_iff.mpr c11
        subst c11
        have H1 : (impl_SwapGains.j0 k a2 a3 true a0 l1) = some r := by rw [if_neg (show ¬ (false = true) by decide)] at H; exact H
        clear H
        have H := H1
        clear H1
        have H' := Aside0.mk H
        clear H
        have hnb20 := NB263_264.out
        have hnc20 := NB264_263.out
        obtain ⟨hcz21_0, hfz21_0⟩ := cf1 BK263.out
        obtain ⟨hcz22_0, hfz22_0⟩ := cf1 BK264.out
        go_wp2_with (first | ((with_reducible refine gate_callee (f := 15) rfl ?_); refine goesL_ (some 13) rfl rfl Try.func15 (by kernel_rfl) rfl #[.int .i64 a0, .slice A1 l1.length c1] rfl ga ?_; (with_reducible refine (impl_ContestsOk.calls k a0 _ _ l1 true _ ?side1 ?side2 A8.out).mono ?_); (case side1 => exact ck (Kd.C_below HR1.out HB.out)); (case side2 => exact HC1.out); rintro e w23 ⟨rfl, hb⟩; refine ⟨_, rfl, ?_⟩; replace BK263 := Aside0.mk (bb BK263.out hb); replace BK264 := Aside0.mk (bb BK264.out hb); replace HB := Aside0.mk (below_step bel hb); (try clear hb); obtain ⟨hcz24_0, hfz24_0⟩ := cf1 BK264.out) | (go_at_call 42; (with_reducible refine (impl_within.calls a2 0 (wrap64 ((l1.length : Int) - 1)) false _ A10.out).mono ?_); rintro e w' ⟨rfl, ⟨nd, rfl⟩⟩))
        go_meet
        case rel => exact ⟨_, (true), (es), H', ⟨by first | omega | exact Nat.le_refl _⟩, ⟨bk BK263.out⟩, ⟨bk BK264.out⟩, ⟨bel⟩⟩
    · replace c9 := Bool.eq_false_iff.mpr c9
      subst c9
      have H1 : (impl_SwapGains.j0 k a2 a3 true a0 l1) = some r := by rw [if_neg (show ¬ (false = true) by decide)] at H; exact H
      clear H
      have H := H1
      clear H1
      have H' := Aside0.mk H
      clear H
      have hnb25 := NB263_264.out
      have hnc25 := NB264_263.out
      obtain ⟨hcz26_0, hfz26_0⟩ := cf1 BK263.out
      obtain ⟨hcz27_0, hfz27_0⟩ := cf1 BK264.out
      go_wp2_with (first | ((with_reducible refine gate_callee (f := 15) rfl ?_); refine goesL_ (some 13) rfl rfl Try.func15 (by kernel_rfl) rfl #[.int .i64 a0, .slice A1 l1.length c1] rfl ga ?_; (with_reducible refine (impl_ContestsOk.calls k a0 _ _ l1 false _ ?side1 ?side2 A8.out).mono ?_); (case side1 => exact ck (Kd.C_below HR1.out HB.out)); (case side2 => exact HC1.out); rintro e w28 ⟨rfl, hb⟩; refine ⟨_, rfl, ?_⟩; replace BK263 := Aside0.mk (bb BK263.out hb); replace BK264 := Aside0.mk (bb BK264.out hb); replace HB := Aside0.mk (below_step bel hb); (try clear hb)))
      go_meet
      case rel => exact ⟨_, (true), (es), H', ⟨by first | omega | exact Nat.le_refl _⟩, ⟨bk BK263.out⟩, ⟨bk BK264.out⟩, ⟨bel⟩⟩
  case rest =>
    clear HC5
    try clear c1; try clear c2; try clear p2; try clear q2; try clear hx2; try clear p6; try clear c9; try clear c11; try clear c12; try clear c12b0; try clear c13; try clear c13b0; try clear c15; try clear c20; try clear c24; try clear c25; try clear c26; try clear p26; try clear q26; try clear hx26; try clear hcz16_0; try clear hcz17_0; try clear hcz19_0; try clear hcz21_0; try clear hcz22_0; try clear hcz24_0; try clear hcz26_0; try clear hcz27_0; try clear hfz16_0; try clear hfz17_0; try clear hfz19_0; try clear hfz21_0; try clear hfz22_0; try clear hfz24_0; try clear hfz26_0; try clear hfz27_0; try clear hx267_0; try clear hx267_1; try clear hx267_2; try clear p267; try clear q267
    obtain ⟨kq, x34_4, rfl, HA, HJ4, BK263, BK264, HB⟩ := hcut
    cases kq with
    | zero => exact absurd HA.out (by simp [impl_SwapGains.j0])
    | succ kj4 =>
      have H := HA.out
      clear HA
      simp only [impl_SwapGains.j0] at H
      by_cases c29 : x34_4 = true
      · subst c29
        have H1 : (some ([] : List Int)) = some r := by rw [if_pos rfl] at H; exact H
        clear H
        have H := H1
        clear H1
        obtain rfl := Option.some.inj H
        go_wp2
        go_ret
        exact ⟨_, er, by first | exact Kd.R_nil _ _ _ _ _ | exact Kd.N_nil _ _ _ _ _ | exact Kd.V_nil _ _ _ _ _ | exact Kd.Q_nil _ _ _ _ _ | exact Kd.S_nil _ _ _ _ _, bel⟩
      · replace c29 := Bool.eq_false_iff.mpr c29
        subst c29
        have H1 : ((impl_Contest.f l1).bind fun t269 => (if 0 ≤ a2 then (if a2 < (l1.length : Int) then ((slices_Clone_int_int.f ((rd_T38 l1 a2).f0)).bind fun t274 => (if 0 ≤ (wrap64 (a3 + 1)) then (if (wrap64 (a3 + 1)) < (t274.length : Int) then (if 0 ≤ a3 then (if a3 < (t274.length : Int) then (if a2 < (t269.length : Int) then ((impl_upTo.f kj4 a0).bind fun t282 => ((slices_DeleteFunc_int_int_impl_SwapGains_1.f kj4 t282 a0 (t269.set (a2 : Int).toNat (⟨((t274.set (a3 : Int).toNat (rd t274 (wrap64 (a3 + 1)))).set ((wrap64 (a3 + 1)) : Int).toNat (rd t274 a3)), (rd_T38 t269 a2).f1, (rd_T38 t269 a2).f2⟩ : S38)) l1).bind fun t285 => (some t285))) else (none)) else (none)) else (none)) else (none)) else (none))) else (none)) else (none))) = some r := by rw [if_neg (show ¬ (false = true) by decide)] at H; exact H
        clear H
        have H := H1
        clear H1
        replace H := Option.bind_eq_some_iff.mp H
        obtain ⟨t269, A300, H⟩ := H
        replace H : (if 0 ≤ a2 then (if a2 < (l1.length : Int) then ((slices_Clone_int_int.f ((rd_T38 l1 a2).f0)).bind fun t274 => (if 0 ≤ (wrap64 (a3 + 1)) then (if (wrap64 (a3 + 1)) < (t274.length : Int) then (if 0 ≤ a3 then (if a3 < (t274.length : Int) then (if a2 < (t269.length : Int) then ((impl_upTo.f kj4 a0).bind fun t282 => ((slices_DeleteFunc_int_int_impl_SwapGains_1.f kj4 t282 a0 (t269.set (a2 : Int).toNat (⟨((t274.set (a3 : Int).toNat (rd t274 (wrap64 (a3 + 1)))).set ((wrap64 (a3 + 1)) : Int).toNat (rd t274 a3)), (rd_T38 t269 a2).f1, (rd_T38 t269 a2).f2⟩ : S38)) l1).bind fun t285 => (some t285))) else (none)) else (none)) else (none)) else (none)) else (none))) else (none)) else (none)) = some r := H
        have A30 := Aside0.mk A300
        clear A300
        by_cases c31 : 0 ≤ a2
        · rw [if_pos c31] at H
          have c31b0 : decide (0 ≤ a2) = true := decide_eq_true c31
          clear c31
          by_cases c32 : a2 < (l1.length : Int)
          · rw [if_pos c32] at H
            have c32b0 : decide (a2 < (l1.length : Int)) = true := decide_eq_true c32
            clear c32
            replace H := Option.bind_eq_some_iff.mp H
            obtain ⟨t274, A330, H⟩ := H
            replace H : (if 0 ≤ (wrap64 (a3 + 1)) then (if (wrap64 (a3 + 1)) < (t274.length : Int) then (if 0 ≤ a3 then (if a3 < (t274.length : Int) then (if a2 < (t269.length : Int) then ((impl_upTo.f kj4 a0).bind fun t282 => ((slices_DeleteFunc_int_int_impl_SwapGains_1.f kj4 t282 a0 (t269.set (a2 : Int).toNat (⟨((t274.set (a3 : Int).toNat (rd t274 (wrap64 (a3 + 1)))).set ((wrap64 (a3 + 1)) : Int).toNat (rd t274 a3)), (rd_T38 t269 a2).f1, (rd_T38 t269 a2).f2⟩ : S38)) l1).bind fun t285 => (some t285))) else (none)) else (none)) else (none)) else (none)) else (none)) = some r := H
            have A33 := Aside0.mk A330
            clear A330
            obtain ⟨ji34, hji34⟩ : ∃ j_ : Int, (wrap64 (a3 + 1)) = j_ := ⟨_, rfl⟩
            replace H : (if 0 ≤ (ji34) then (if (ji34) < (t274.length : Int) then (if 0 ≤ a3 then (if a3 < (t274.length : Int) then (if a2 < (t269.length : Int) then ((impl_upTo.f kj4 a0).bind fun t282 => ((slices_DeleteFunc_int_int_impl_SwapGains_1.f kj4 t282 a0 (t269.set (a2 : Int).toNat (⟨((t274.set (a3 : Int).toNat (rd t274 (ji34))).set ((ji34) : Int).toNat (rd t274 a3)), (rd_T38 t269 a2).f1, (rd_T38 t269 a2).f2⟩ : S38)) l1).bind fun t285 => (some t285))) else (none)) else (none)) else (none)) else (none)) else (none)) = some r := by first | (rw [hji34] at H; exact H) | (simp only [hji34] at H ⊢; exact H)
            (try rw [hji34] at A30)
            (try rw [hji34] at A33)
            have hji34w : (IntKind.i64.wrap (a3 + 1)) = ji34 := (i64_w _).trans hji34
            by_cases c35 : 0 ≤ (ji34)
            · rw [if_pos c35] at H
              have c35b0 : decide (0 ≤ (ji34)) = true := decide_eq_true c35
              clear c35
              by_cases c36 : (ji34) < (t274.length : Int)
              · rw [if_pos c36] at H
                have c36b0 : decide ((ji34) < (t274.length : Int)) = true := decide_eq_true c36
                clear c36
                by_cases c37 : 0 ≤ a3
                · rw [if_pos c37] at H
                  have c37b0 : decide (0 ≤ a3) = true := decide_eq_true c37
                  clear c37
                  by_cases c38 : a3 < (t274.length : Int)
                  · rw [if_pos c38] at H
                    have c38b0 : decide (a3 < (t274.length : Int)) = true := decide_eq_true c38
                    clear c38
                    obtain ⟨y279, hy279⟩ : ∃ y_ : List Int, y_ = (t274.set (a3 : Int).toNat (rd t274 (ji34))) := ⟨_, rfl⟩
                    replace H : (if a2 < (t269.length : Int) then ((impl_upTo.f kj4 a0).bind fun t282 => ((slices_DeleteFunc_int_int_impl_SwapGains_1.f kj4 t282 a0 (t269.set (a2 : Int).toNat (⟨(y279.set ((ji34) : Int).toNat (rd t274 a3)), (rd_T38 t269 a2).f1, (rd_T38 t269 a2).f2⟩ : S38)) l1).bind fun t285 => (some t285))) else (none)) = some r := by first | (rw [hy279]; with_reducible exact H) | (have H2_ := (Option.bind_some _ _).symm.trans H; rw [hy279]; with_reducible exact H2_) | (have H2_ := (Option.bind_some _ _).symm.trans H; with_reducible exact H2_) | with_reducible exact H | (rw [hy279]; exact H) | exact H
                    have Ny279 := Aside0.mk hy279
                    clear hy279
                    obtain ⟨y280, hy280⟩ : ∃ y_ : List Int, y_ = (y279.set ((ji34) : Int).toNat (rd t274 a3)) := ⟨_, rfl⟩
                    replace H : (if a2 < (t269.length : Int) then ((impl_upTo.f kj4 a0).bind fun t282 => ((slices_DeleteFunc_int_int_impl_SwapGains_1.f kj4 t282 a0 (t269.set (a2 : Int).toNat (⟨y280, (rd_T38 t269 a2).f1, (rd_T38 t269 a2).f2⟩ : S38)) l1).bind fun t285 => (some t285))) else (none)) = some r := by first | (rw [hy280]; with_reducible exact H) | (have H2_ := (Option.bind_some _ _).symm.trans H; rw [hy280]; with_reducible exact H2_) | (have H2_ := (Option.bind_some _ _).symm.trans H; with_reducible exact H2_) | with_reducible exact H | (rw [hy280]; exact H) | exact H
                    have Ny280 := Aside0.mk hy280
                    clear hy280
                    by_cases c41 : a2 < (t269.length : Int)
                    · rw [if_pos c41] at H
                      have c41b0 : decide (a2 < (t269.length : Int)) = true := decide_eq_true c41
                      clear c41
                      obtain ⟨y281, hy281⟩ : ∃ y_ : List (S38), y_ = (t269.set (a2 : Int).toNat (⟨y280, (rd_T38 t269 a2).f1, (rd_T38 t269 a2).f2⟩ : S38)) := ⟨_, rfl⟩
                      replace H : ((impl_upTo.f kj4 a0).bind fun t282 => ((slices_DeleteFunc_int_int_impl_SwapGains_1.f kj4 t282 a0 y281 l1).bind fun t285 => (some t285))) = some r := by first | (rw [hy281]; with_reducible exact H) | (have H2_ := (Option.bind_some _ _).symm.trans H; rw [hy281]; with_reducible exact H2_) | (have H2_ := (Option.bind_some _ _).symm.trans H; with_reducible exact H2_) | with_reducible exact H | (rw [hy281]; exact H) | exact H
                      have Ny281 := Aside0.mk hy281
                      clear hy281
                      replace H := Option.bind_eq_some_iff.mp H
                      obtain ⟨t282, A430, H⟩ := H
                      replace H : ((slices_DeleteFunc_int_int_impl_SwapGains_1.f kj4 t282 a0 y281 l1).bind fun t285 => (some t285)) = some r := H
                      have A43 := Aside0.mk A430
                      clear A430
                      replace H := Option.bind_eq_some_iff.mp H
                      obtain ⟨t285, A440, H⟩ := H
                      replace H : (some t285) = some r := H
                      have A44 := Aside0.mk A440
                      clear A440
                      obtain rfl := Option.some.inj H
                      have hnb45 := NB264_263.out
                      have hnc45 := NB263_264.out
                      obtain ⟨hcz46_0, hfz46_0⟩ := cf1 BK264.out
                      try go_wp2_with (first | ((with_reducible refine gate_callee (f := 50) rfl ?_); refine goesL_ (some 36) rfl rfl Try.func50 (by kernel_rfl) rfl #[.slice A1 l1.length c1] rfl ga ?_; (with_reducible refine (impl_Contest.calls (fun k_ => k_ < w.heap.size) _ _ l1 t269 _ ?side1 A30.out).mono ?_); (case side1 => exact Kd.V_mk HC1.out (Kd.F_below (Kd.C_F k38_heap HR1.out) bel)); rintro e w47 ⟨v270, rfl, ho0, hb⟩; refine ⟨_, rfl, ?_⟩; have HO271 := Aside0.mk (Kd.N_lower (Kd.N_mono (ok' := fun k_ => k_ ≠ gb263 ∧ k_ ≠ gb264) ho0 (fun k_ hk_ => ⟨Or.elim hk_ (fun hs_ => fun e_ => Nat.not_le.2 hs_ (by rw [e_]; exact GW263.out)) (fun hn_ => (Kd.freshB (g := gb263) (o := .cells #[.int .i64 a0] 3 (0, 0)) (bk BK263.out) k_ hn_)), Or.elim hk_ (fun hs_ => fun e_ => Nat.not_le.2 hs_ (by rw [e_]; exact GW264.out)) (fun hn_ => (Kd.freshB (g := gb264) (o := .cells #[.slice A1 l1.length c1] 25 (0, 0)) (bk BK264.out) k_ hn_))⟩)) (below_size bel)); replace BK263 := Aside0.mk (bb BK263.out hb); replace BK264 := Aside0.mk (bb BK264.out hb); replace HB := Aside0.mk (below_step bel hb); (try clear hb); (try clear ho0)) | ((with_reducible refine gate_dst (N := 9) rfl ?_); refine box_event ?hg (N := 9) ?hd (cs := #[.slice none 0 0]) (t := 25) ?hr ?_; (case hd => rfl); (case hg => rfl); (case hr => first | (go_simp; done) | (go_simp; rfl)); intro gb272 hg w48 hbox hb; have BK272 := Aside0.mk (hbox); have GW272 := Aside0.mk ((bsz hg : w.heap.size ≤ gb272)); have GE272 := Aside0.mk ((bsz hg : w.heap.size ≤ gb272)); have NB263_272 := Aside0.mk ((nlt hg BK263.out : gb263 ≠ gb272)); have NB272_263 := Aside0.mk ((ngt hg BK263.out : gb272 ≠ gb263)); have NB264_272 := Aside0.mk ((nlt hg BK264.out : gb264 ≠ gb272)); have NB272_264 := Aside0.mk ((ngt hg BK264.out : gb272 ≠ gb264)); replace HO271 := Aside0.mk (Kd.N_below (Kd.N_elderB (by (with_reducible repeat (first | apply Kd.N_alloc | apply Kd.N_drewN | apply Kd.N_drew)); exact HO271.out) gb272 (Nat.le_of_eq hg.symm)) hb); replace BK263 := Aside0.mk (bb BK263.out hb); replace BK264 := Aside0.mk (bb BK264.out hb); replace HB := Aside0.mk (below_step bel hb); clear hb hbox hg; obtain ⟨Ao49, co49, eo49⟩ := Kd.N_slice HO271.out; subst eo49; have hnb50 := NB272_263.out; have hnc50 := NB263_272.out; have hnb51 := NB272_264.out; have hnc51 := NB264_272.out; obtain ⟨hcz52_0, hfz52_0⟩ := cf1 BK272.out; obtain ⟨hcz53_0, hfz53_0⟩ := cf1 BK264.out; have p273 : 0 ≤ (a2 : Int) := asm; have q273 : a2 < (l1.length : Int) := asm; obtain ⟨ad273, A273_0, c273_0, e273, hx273_0, hx273_1, hx273_2, hl273_0, hi273_0⟩ := at_T38 HR1.out a2 p273 q273; cases e273; have hn273_0 : ad273.block ≠ gb272 := Nat.ne_of_lt (Nat.lt_of_lt_of_le (by have := World.block_lt_of_cell? _ _ hx273_0; first | rwa [add_block] at this | exact this) GW272.out); replace hx273_0 := hcl HB.out hx273_0; replace hx273_1 := hcl HB.out hx273_1; replace hx273_2 := hcl HB.out hx273_2; have HR273_0 := Aside0.mk hi273_0; have HC273_0 := Aside0.mk hl273_0; clear hi273_0 hl273_0; replace hx273_0 := (cell_far (p := ⟨gb272, 0, none⟩) (by first | (rw [add_block]; exact hn273_0) | (show (Addr.add _ _).block ≠ _; rw [add_block]; exact hn273_0) | exact hn273_0) (.slice Ao49 t269.length co49)).trans hx273_0; replace hx273_1 := (cell_far (p := ⟨gb272, 0, none⟩) (by first | (rw [add_block]; exact hn273_0) | (show (Addr.add _ _).block ≠ _; rw [add_block]; exact hn273_0) | exact hn273_0) (.slice Ao49 t269.length co49)).trans hx273_1; replace hx273_2 := (cell_far (p := ⟨gb272, 0, none⟩) (by first | (rw [add_block]; exact hn273_0) | (show (Addr.add _ _).block ≠ _; rw [add_block]; exact hn273_0) | exact hn273_0) (.slice Ao49 t269.length co49)).trans hx273_2; clear hn273_0; replace p273 := eq_true p273; replace q273 := eq_true q273) | ((with_reducible refine gate_callee (f := 51) rfl ?_); refine goesL_ (some 42) rfl rfl Try.func51 (by kernel_rfl) rfl #[.slice A273_0 ((rd_T38 l1 a2).f0).length c273_0] rfl ga ?_; (with_reducible refine (slices_Clone_int_int.calls _ _ ((rd_T38 l1 a2).f0) t274 _ ?side1 ?side2 A33.out).mono ?_); (case side1 => exact Kd.C_below HR273_0.out bel); (case side2 => exact HC273_0.out); rintro e w54 ⟨v275, rfl, ho0, hb⟩; refine ⟨_, rfl, ?_⟩; have HO276 := Aside0.mk (Kd.R_lower (Kd.R_newB ho0 (g := gb263) (o := .cells #[.int .i64 a0] 3 (0, 0)) (bk BK263.out)) (below_size bel)); replace HO271 := Aside0.mk (Kd.N_elder' (by (with_reducible repeat (first | apply Kd.N_alloc | apply Kd.N_drewN | apply Kd.N_drew)); exact (Kd.N_mono (Kd.N_far (p := ⟨gb272, 0, none⟩) (Kd.N_mono HO271.out (fun k_ hk => (⟨hk, hk.2⟩ : _ ∧ k_ ≠ gb272))) (fun _ hk => hk.2) (.slice Ao49 t269.length co49)) (fun _ h_ => h_.1))) (Kd.R_base ho0) hb); replace BK263 := Aside0.mk (bb BK263.out hb); replace BK264 := Aside0.mk (bb BK264.out hb); replace BK272 := Aside0.mk (blk_below (g := gb272) (o := .cells #[.slice Ao49 t269.length co49] 25 (0, 0)) (by (with_reducible repeat (first | refine blk_drewN ?_ _ | refine blk_drew ?_ | refine blk_alloc ?_ _)); refine blk_put (cs := #[.slice none 0 0]) ?_ 0 _ rfl; (with_reducible repeat (first | refine blk_drewN ?_ _ | refine blk_drew ?_ | refine blk_alloc ?_ _)); exact BK272.out) hb); replace HB := Aside0.mk (below_step bel hb); (try clear hb); (try clear ho0)))
                      replace HO271 := Aside0.mk (Kd.N_drew HO271.out)
                      replace HO276 := Aside0.mk (Kd.R_drew HO276.out)
                      replace BK263 := Aside0.mk (blk_drew BK263.out)
                      replace BK264 := Aside0.mk (blk_drew BK264.out)
                      replace BK272 := Aside0.mk (blk_drew BK272.out)
                      replace HB := Aside0.mk (below_drew1 HB.out)
                      obtain ⟨Ao56, co56, eo56⟩ := Kd.R_slice HO276.out
                      (first | subst eo56 | (injection eo56 with f1_ f2_ f3_; have f4_ := f1_.symm; have f5_ := f3_.symm; clear f1_ f2_ f3_; subst f4_; subst f5_))
                      have p277 : 0 ≤ ((ji34) : Int) := asm
                      have q277 : (ji34) < (t274.length : Int) := asm
                      obtain ⟨ad277, e277, hx277_0⟩ := Kd.at_int (Kd.R_reads' HO276.out).2.2 (ji34) p277 q277
                      cases e277
                      replace p277 := eq_true p277
                      replace q277 := eq_true q277
                      have p278 : 0 ≤ (a3 : Int) := asm
                      have q278 : a3 < (t274.length : Int) := asm
                      obtain ⟨ad278, e278, hx278_0⟩ := Kd.at_int (Kd.R_reads' HO276.out).2.2 a3 p278 q278
                      obtain rfl : ad277 = ad278 := (by injection e278)
                      replace p278 := eq_true p278
                      replace q278 := eq_true q278
                      have p39 : 0 ≤ (a3 : Int) := asm
                      have q39 : (a3 : Int) < ((t274.length : Int) : Int) := asm
                      obtain ⟨go39, co39, eo39, gb39, gl39, cl39, HG39⟩ := Kd.R_form HO276.out (by omega)
                      (first | cases eo39 | (injection eo39 with ea_ en_ ec_; (first | subst ea_ | (injection ea_ with ea_; subst ea_)); subst ec_; clear en_))
                      have GB39 := Aside0.mk gb39
                      have GG39 := Aside0.mk HG39
                      clear gb39 gl39 HG39
                      (first | simp only [add_plain] at hx277_0 | skip)
                      (first | simp only [add_plain] at hx278_0 | skip)
                      obtain ⟨hx39_0, hf39_0⟩ := Kd.R_celln 0 HO276.out (a3 : Int) p39 q39
                      replace p39 := eq_true p39
                      replace q39 := eq_true q39
                      have HP57 := Kd.R_putn HO276.out (a3 : Int) (rd t274 (ji34))
                      rw [← Ny279.out] at HP57
                      have HQ57 := Aside0.mk HP57
                      clear HP57
                      have p40 : 0 ≤ ((ji34) : Int) := asm
                      have q40 : ((ji34) : Int) < ((t274.length : Int) : Int) := asm
                      obtain ⟨hx40_0, hf40_0⟩ := Kd.R_celln 0 HQ57.out ((ji34) : Int) p40 q40
                      replace p40 := eq_true p40
                      replace q40 := eq_true q40
                      have HP58 := Kd.R_putn HQ57.out ((ji34) : Int) (rd t274 a3)
                      rw [← Ny280.out] at HP58
                      have HQ58 := Aside0.mk HP58
                      clear HP58
                      refine start_ (n := 18) (S := fun w' => w'.cell? ⟨go39, ((ji34)).toNat, none⟩ = some (.int .i64 (rd t274 (ji34))) ∧ w'.cell? ⟨go39, (a3).toNat, none⟩ = some (.int .i64 (rd t274 a3))) (ds := [15, 17]) #[false, false, false, false, false, false, false, false, false, false, false, false, false, false, false, false, false, false] (by kernel_rfl) rfl rfl ⟨hx277_0, hx278_0⟩ (fun hHeld => ?_); refine with_tabW impl_SwapGains.tab5 impl_SwapGains.bits5 (fun HT_ HW_ => ?_)
                      generalize w54.drew = w55 at HO271 HO276 BK263 BK264 BK272 HB GG39 HQ57 HQ58 hf39_0 hf40_0 hx277_0 hx278_0 hx39_0 hx40_0 hHeld ⊢
                      refine pure_ (i := 0) (N := some 43) (v := ?_) (a' := ?_) #[true, false, false, false, false, false, false, false, false, false, false, false, false, false, false, false, false, false] rfl rfl (any_of HT_.out (by kernel_rfl)) (fun _ _ _ h => h) (Or.inl ⟨by rfl, ?_⟩) ?_ ?_
                      rotate_left
                      · intro w'
                        go_simp
                        with_reducible rfl
                      rotate_left
                      · simp only [Act.put, List.setIfInBounds_toArray, List.set_cons_zero, List.set_cons_succ, i64_w, i32_w]
                        rfl
                      refine pure_ (i := 1) (N := some 44) (v := ?_) (a' := ?_) #[true, true, false, false, false, false, false, false, false, false, false, false, false, false, false, false, false, false] rfl rfl (any_of HT_.out (by kernel_rfl)) (fun _ _ _ h => h) (Or.inl ⟨by rfl, ?_⟩) ?_ ?_
                      rotate_left
                      · intro w'
                        go_simp
                        with_reducible rfl
                      rotate_left
                      · simp only [Act.put, List.setIfInBounds_toArray, List.set_cons_zero, List.set_cons_succ, i64_w, i32_w]
                        rfl
                      refine pure_ (i := 2) (N := some 45) (v := ?_) (a' := ?_) #[true, true, true, false, false, false, false, false, false, false, false, false, false, false, false, false, false, false] rfl rfl (any_of HT_.out (by kernel_rfl)) (fun _ _ _ h => h) (Or.inl ⟨by rfl, ?_⟩) ?_ ?_
                      rotate_left
                      · intro w'
                        go_simp
                        with_reducible rfl
                      rotate_left
                      · simp only [Act.put, List.setIfInBounds_toArray, List.set_cons_zero, List.set_cons_succ, i64_w, i32_w]
                        rfl
                      refine pure_ (i := 3) (N := some 46) (v := ?_) (a' := ?_) #[true, true, true, true, false, false, false, false, false, false, false, false, false, false, false, false, false, false] rfl rfl (any_of HT_.out (by kernel_rfl)) (fun _ _ _ h => h) (Or.inl ⟨by rfl, ?_⟩) ?_ ?_
                      rotate_left
                      · intro w'
                        go_simp
                        with_reducible rfl
                      rotate_left
                      · simp only [Act.put, List.setIfInBounds_toArray, List.set_cons_zero, List.set_cons_succ, i64_w, i32_w]
                        rfl
                      refine pure_ (i := 4) (N := some 47) (v := ?_) (a' := ?_) #[true, true, true, true, true, false, false, false, false, false, false, false, false, false, false, false, false, false] rfl rfl (any_of HT_.out (by kernel_rfl)) (fun _ _ _ h => h) (Or.inl ⟨by rfl, ?_⟩) ?_ ?_
                      rotate_left
                      · intro w'
                        go_simp
                        with_reducible rfl
                      rotate_left
                      · simp only [Act.put, List.setIfInBounds_toArray, List.set_cons_zero, List.set_cons_succ, i64_w, i32_w]
                        rfl
                      refine pure_ (i := 5) (N := some 48) (v := ?_) (a' := ?_) #[true, true, true, true, true, true, false, false, false, false, false, false, false, false, false, false, false, false] rfl rfl (any_of HT_.out (by kernel_rfl)) (fun _ _ _ h => h) (Or.inl ⟨by rfl, ?_⟩) ?_ ?_
                      rotate_left
                      · intro w'
                        go_simp
                        with_reducible rfl
                      rotate_left
                      · simp only [Act.put, List.setIfInBounds_toArray, List.set_cons_zero, List.set_cons_succ, i64_w, i32_w]
                        rfl
                      refine pure_ (i := 6) (N := some 49) (v := ?_) (a' := ?_) #[true, true, true, true, true, true, true, false, false, false, false, false, false, false, false, false, false, false] rfl rfl (any_of HT_.out (by kernel_rfl)) (fun _ _ _ h => h) (Or.inl ⟨by rfl, ?_⟩) ?_ ?_
                      rotate_left
                      · intro w'
                        go_simp
                        with_reducible rfl
                      rotate_left
                      · simp only [Act.put, List.setIfInBounds_toArray, List.set_cons_zero, List.set_cons_succ, i64_w, i32_w]
                        rfl
                      refine pure_ (i := 7) (N := some 50) (v := ?_) (a' := ?_) #[true, true, true, true, true, true, true, true, false, false, false, false, false, false, false, false, false, false] rfl rfl (any_of HT_.out (by kernel_rfl)) (fun _ _ _ h => h) (Or.inl ⟨by rfl, ?_⟩) ?_ ?_
                      rotate_left
                      · intro w'
                        go_simp
                        with_reducible rfl
                      rotate_left
                      · simp only [Act.put, List.setIfInBounds_toArray, List.set_cons_zero, List.set_cons_succ, i64_w, i32_w]
                        rfl
                      refine pure_ (i := 8) (N := some 51) (v := ?_) (a' := ?_) #[true, true, true, true, true, true, true, true, true, false, false, false, false, false, false, false, false, false] rfl rfl (any_of HT_.out (by kernel_rfl)) (fun _ _ _ h => h) (Or.inl ⟨by rfl, ?_⟩) ?_ ?_
                      rotate_left
                      · intro w'
                        go_simp
                        with_reducible rfl
                      rotate_left
                      · simp only [Act.put, List.setIfInBounds_toArray, List.set_cons_zero, List.set_cons_succ, i64_w, i32_w]
                        rfl
                      refine pure_ (i := 10) (N := some 53) (v := ?_) (a' := ?_) #[true, true, true, true, true, true, true, true, true, false, true, false, false, false, false, false, false, false] rfl rfl (any_of HT_.out (by kernel_rfl)) (fun _ _ _ h => h) (Or.inl ⟨by rfl, ?_⟩) ?_ ?_
                      rotate_left
                      · intro w'
                        go_simp
                        with_reducible rfl
                      rotate_left
                      · simp only [Act.put, List.setIfInBounds_toArray, List.set_cons_zero, List.set_cons_succ, i64_w, i32_w]
                        rfl
                      refine pure_ (i := 11) (N := some 54) (v := ?_) (a' := ?_) #[true, true, true, true, true, true, true, true, true, false, true, true, false, false, false, false, false, false] rfl rfl (any_of HT_.out (by kernel_rfl)) (fun _ _ _ h => h) (Or.inl ⟨by rfl, ?_⟩) ?_ ?_
                      rotate_left
                      · intro w'
                        go_simp
                        with_reducible rfl
                      rotate_left
                      · simp only [Act.put, List.setIfInBounds_toArray, List.set_cons_zero, List.set_cons_succ, i64_w, i32_w]
                        rfl
                      refine pure_ (i := 12) (N := some 55) (v := ?_) (a' := ?_) #[true, true, true, true, true, true, true, true, true, false, true, true, true, false, false, false, false, false] rfl rfl (any_of HT_.out (by kernel_rfl)) (fun _ _ _ h => h) (Or.inl ⟨by rfl, ?_⟩) ?_ ?_
                      rotate_left
                      · intro w'
                        go_simp
                        with_reducible rfl
                      rotate_left
                      · simp only [Act.put, List.setIfInBounds_toArray, List.set_cons_zero, List.set_cons_succ, i64_w, i32_w]
                        rfl
                      refine take_ (i := 9) (N := some 52) (v := ?_) (a' := ?_) #[true, true, true, true, true, true, true, true, true, true, true, true, true, false, false, false, false, false] rfl rfl (take_ofW HT_.out HW_.out (by kernel_rfl)) (fun _ _ _ h => h) (Or.inl ⟨by rfl, ?_⟩) hHeld ?_ ?_
                      rotate_left
                      · rintro w' ⟨s0, s1⟩
                        go_simp
                        with_reducible rfl
                      rotate_left
                      · simp only [Act.put, List.setIfInBounds_toArray, List.set_cons_zero, List.set_cons_succ, i64_w, i32_w]
                        rfl
                      refine take_ (i := 13) (N := some 56) (v := ?_) (a' := ?_) #[true, true, true, true, true, true, true, true, true, true, true, true, true, true, false, false, false, false] rfl rfl (take_ofW HT_.out HW_.out (by kernel_rfl)) (fun _ _ _ h => h) (Or.inl ⟨by rfl, ?_⟩) hHeld ?_ ?_
                      rotate_left
                      · rintro w' ⟨s0, s1⟩
                        go_simp
                        with_reducible rfl
                      rotate_left
                      · simp only [Act.put, List.setIfInBounds_toArray, List.set_cons_zero, List.set_cons_succ, i64_w, i32_w]
                        rfl
                      refine pure_ (i := 14) (N := some 57) (v := ?_) (a' := ?_) #[true, true, true, true, true, true, true, true, true, true, true, true, true, true, true, false, false, false] rfl rfl (any_of HT_.out (by kernel_rfl)) (fun _ _ _ h => h) (Or.inl ⟨by rfl, ?_⟩) ?_ ?_
                      rotate_left
                      · intro w'
                        go_simp
                        with_reducible rfl
                      rotate_left
                      · simp only [Act.put, List.setIfInBounds_toArray, List.set_cons_zero, List.set_cons_succ, i64_w, i32_w]
                        rfl
                      refine last_ (i := 15) (N := none) #[true, true, true, true, true, true, true, true, true, true, true, true, true, true, true, true, false, false] rfl rfl (one_of HT_.out (by kernel_rfl)) (by decide) (fun K hK => ?_)
                      refine skip_ (w1 := ?_) (by rfl) rfl ?_ ?_
                      rotate_left
                      · go_simp
                        rfl
                      refine hK.out _ _ ?_
                      clear hK K
                      refine pure_ (i := 16) (N := some 58) (v := ?_) (a' := ?_) #[true, true, true, true, true, true, true, true, true, true, true, true, true, true, true, true, true, false] rfl rfl (any_of HT_.out (by kernel_rfl)) (fun _ _ _ h => h) (Or.inl ⟨by rfl, ?_⟩) ?_ ?_
                      rotate_left
                      · intro w'
                        go_simp
                        with_reducible rfl
                      rotate_left
                      · simp only [Act.put, List.setIfInBounds_toArray, List.set_cons_zero, List.set_cons_succ, i64_w, i32_w]
                        rfl
                      refine last_ (i := 17) (N := none) #[true, true, true, true, true, true, true, true, true, true, true, true, true, true, true, true, true, true] rfl rfl (one_of HT_.out (by kernel_rfl)) (by decide) (fun K hK => ?_)
                      refine skip_ (w1 := ?_) (by rfl) rfl ?_ ?_
                      rotate_left
                      · go_simp
                        rfl
                      refine hK.out _ _ ?_
                      clear hK K
                      refine done_ (done_of HT_.out (by kernel_rfl)) ?_
                      have n0_ : Aside0 (Kd.N k38 38 ((w55.setCell ⟨go39, (a3 : Int).toNat, none⟩ (.int .i64 (rd t274 (ji34)))).setCell ⟨go39, ((ji34) : Int).toNat, none⟩ (.int .i64 (rd t274 a3))) w.heap.size (fun k_ => some k_ ≠ (.slice (some ⟨go39, 0, none⟩) t274.length co56 : Value).ownBlock ∧ k_ ≠ gb263 ∧ k_ ≠ gb264 ∧ k_ ≠ gb272) (.slice Ao49 t269.length co49) t269) := ⟨by (with_reducible repeat (first | apply Kd.N_alloc | apply Kd.N_drewN | apply Kd.N_drew)); exact Kd.N_mono (Kd.N_far (p := ⟨go39, ((ji34) : Int).toNat, none⟩) (Kd.N_far (p := ⟨go39, (a3 : Int).toNat, none⟩) (Kd.N_mono HO271.out (fun k_ hk => (⟨hk, fun e_ => hk.2 (by rw [e_]; rfl)⟩ : _ ∧ k_ ≠ go39))) (fun _ hk => hk.2) (.int .i64 (rd t274 (ji34)))) (fun _ hk => hk.2) (.int .i64 (rd t274 a3))) (fun _ hk => ⟨hk.1.2, ⟨hk.1.1.1.1, ⟨hk.1.1.1.2, hk.1.1.2⟩⟩⟩)⟩
                      have n1_ : Aside0 (Kd.R (Kd.int .i64) 3 ((w55.setCell ⟨go39, (a3 : Int).toNat, none⟩ (.int .i64 (rd t274 (ji34)))).setCell ⟨go39, ((ji34) : Int).toNat, none⟩ (.int .i64 (rd t274 a3))) w.heap.size (fun k_ => k_ ≠ gb263) (.slice (some ⟨go39, 0, none⟩) t274.length co56) y280) := ⟨by (with_reducible repeat (first | apply Kd.R_alloc | apply Kd.R_drewN | apply Kd.R_drew)); exact Kd.R_mono HQ58.out (fun _ hk => hk.2)⟩
                      have n2_ : Aside0 (((w55.setCell ⟨go39, (a3 : Int).toNat, none⟩ (.int .i64 (rd t274 (ji34)))).setCell ⟨go39, ((ji34) : Int).toNat, none⟩ (.int .i64 (rd t274 a3))).heap[gb263]? = some (.cells #[.int .i64 a0] 3 (0, 0))) := ⟨by (with_reducible repeat (first | refine blk_drewN ?_ _ | refine blk_drew ?_ | refine blk_alloc ?_ _)); refine blk_far ?_ (by have h_ := Kd.R_away HO276.out (fun _ hk => hk.2); intro e_; exact h_ (by rw [e_]; rfl)) _; (with_reducible repeat (first | refine blk_drewN ?_ _ | refine blk_drew ?_ | refine blk_alloc ?_ _)); refine blk_far ?_ (by have h_ := Kd.R_away HO276.out (fun _ hk => hk.2); intro e_; exact h_ (by rw [e_]; rfl)) _; (with_reducible repeat (first | refine blk_drewN ?_ _ | refine blk_drew ?_ | refine blk_alloc ?_ _)); exact BK263.out⟩
                      have n3_ : Aside0 (((w55.setCell ⟨go39, (a3 : Int).toNat, none⟩ (.int .i64 (rd t274 (ji34)))).setCell ⟨go39, ((ji34) : Int).toNat, none⟩ (.int .i64 (rd t274 a3))).heap[gb264]? = some (.cells #[.slice (some ad273) l1.length c1] 25 (0, 0))) := ⟨by (with_reducible repeat (first | refine blk_drewN ?_ _ | refine blk_drew ?_ | refine blk_alloc ?_ _)); refine blk_far ?_ (by have h_ := Kd.R_ne HO276.out BK264.out (by decide); intro e_; exact h_ (by rw [e_]; rfl)) _; (with_reducible repeat (first | refine blk_drewN ?_ _ | refine blk_drew ?_ | refine blk_alloc ?_ _)); refine blk_far ?_ (by have h_ := Kd.R_ne HO276.out BK264.out (by decide); intro e_; exact h_ (by rw [e_]; rfl)) _; (with_reducible repeat (first | refine blk_drewN ?_ _ | refine blk_drew ?_ | refine blk_alloc ?_ _)); exact BK264.out⟩
                      have n4_ : Aside0 (((w55.setCell ⟨go39, (a3 : Int).toNat, none⟩ (.int .i64 (rd t274 (ji34)))).setCell ⟨go39, ((ji34) : Int).toNat, none⟩ (.int .i64 (rd t274 a3))).heap[gb272]? = some (.cells #[.slice Ao49 t269.length co49] 25 (0, 0))) := ⟨by (with_reducible repeat (first | refine blk_drewN ?_ _ | refine blk_drew ?_ | refine blk_alloc ?_ _)); refine blk_far ?_ (by have h_ := Kd.R_ne HO276.out BK272.out (by decide); intro e_; exact h_ (by rw [e_]; rfl)) _; (with_reducible repeat (first | refine blk_drewN ?_ _ | refine blk_drew ?_ | refine blk_alloc ?_ _)); refine blk_far ?_ (by have h_ := Kd.R_ne HO276.out BK272.out (by decide); intro e_; exact h_ (by rw [e_]; rfl)) _; (with_reducible repeat (first | refine blk_drewN ?_ _ | refine blk_drew ?_ | refine blk_alloc ?_ _)); exact BK272.out⟩
                      have n5_ : Aside0 (Below w.heap.size w ((w55.setCell ⟨go39, (a3 : Int).toNat, none⟩ (.int .i64 (rd t274 (ji34)))).setCell ⟨go39, ((ji34) : Int).toNat, none⟩ (.int .i64 (rd t274 a3)))) := ⟨by repeat (first | (with_reducible first | exact HB.out | apply below_alloc | apply pw_below_drewN | apply below_drew1 | refine below_set ?_ GB39.out | refine below_set ?_ GB39.out | refine below_set ?_ GE263.out | refine below_set ?_ GE264.out | refine below_set ?_ GE272.out) | exact HB.out)⟩
                      (try clear HO271)
                      (try clear HO276)
                      (try clear BK263)
                      (try clear BK264)
                      (try clear BK272)
                      (try clear HB)
                      generalize ((w55.setCell ⟨go39, (a3 : Int).toNat, none⟩ (.int .i64 (rd t274 (ji34)))).setCell ⟨go39, ((ji34) : Int).toNat, none⟩ (.int .i64 (rd t274 a3))) = w59 at n0_ n1_ n2_ n3_ n4_ n5_ ⊢
                      have HO271 := n0_
                      have HO276 := n1_
                      have BK263 := n2_
                      have BK264 := n3_
                      have BK272 := n4_
                      have HB := n5_
                      clear n0_ n1_ n2_ n3_ n4_ n5_
                      obtain ⟨hcz60_0, hfz60_0⟩ := cf1 BK272.out
                      have p42 : 0 ≤ (a2 : Int) := asm
                      have q42 : (a2 : Int) < ((t269.length : Int) : Int) := asm
                      obtain ⟨go42, co42, eo42, gb42, gl42, cl42, HG42⟩ := Kd.N_form HO271.out (by omega)
                      (first | cases eo42 | (injection eo42 with ea_ en_ ec_; (first | subst ea_ | (injection ea_ with ea_; subst ea_)); subst ec_; clear en_))
                      have GB42 := Aside0.mk gb42
                      have GG42 := Aside0.mk HG42
                      clear gb42 gl42 HG42
                      obtain ⟨ce42, hcl42, hM42, hcc42, hfr42⟩ := Kd.N_elem HO271.out z38 (a2 : Int) p42 q42
                      obtain ⟨ua42_0, uc42_0, rfl, ul42_0, ge42_0⟩ := k38_openF hM42
                      have hx42_0 : w59.cell? ⟨go42, (a2 : Int).toNat * 3, none⟩ = some (.slice ua42_0 ((rd_T38 t269 a2).f0).length uc42_0) := hcc42 0 _ rfl
                      have hx42_1 : w59.cell? ⟨go42, (a2 : Int).toNat * 3 + 1, none⟩ = some (.int .i64 ((rd_T38 t269 a2).f1)) := hcc42 1 _ rfl
                      have hx42_2 : w59.cell? ⟨go42, (a2 : Int).toNat * 3 + 2, none⟩ = some (.int .i64 ((rd_T38 t269 a2).f2)) := hcc42 2 _ rfl
                      have hf42_0 : w59.frozen? ⟨go42, (a2 : Int).toNat * 3, none⟩ = false := hfr42 0
                      have hf42_1 : w59.frozen? ⟨go42, (a2 : Int).toNat * 3 + 1, none⟩ = false := hfr42 1
                      have hf42_2 : w59.frozen? ⟨go42, (a2 : Int).toNat * 3 + 2, none⟩ = false := hfr42 2
                      clear hcl42 hcc42 hfr42 hM42
                      replace p42 := eq_true p42
                      replace q42 := eq_true q42
                      have HX61 := Aside0.mk (show Kd.N k38 38 w59 w.heap.size (fun k_ => k_ ≠ gb263 ∧ k_ ≠ gb264 ∧ k_ ≠ gb272) (.slice (some ⟨go42, 0, none⟩) t269.length co49) t269 from (by (with_reducible repeat (first | apply Kd.N_alloc | apply Kd.N_drewN | apply Kd.N_drew)); exact Kd.N_mono HO271.out (fun _ hk => ⟨hk.2.1, ⟨hk.2.2.1, hk.2.2.2⟩⟩)))
                      obtain ⟨ce61, hcl61, hM61, hcc61, hfr61⟩ := Kd.N_elem HX61.out z38 (a2 : Int) (asm) (by have h_ : (a2 : Int) < ((t269.length : Int) : Int) := asm; first | exact h_ | (have e_ := (Kd.N_reads' HO271.out).1; omega) | simpa using h_)
                      obtain ⟨ua61_0, uc61_0, rfl, ul61_0, ge61_0⟩ := k38_openF hM61
                      have HQ_sw := Aside0.mk (Kd.R_types (Kd.R_types (Kd.R_apart' (HO276.out) (Kd.N_typed HO271.out) (by decide)) BK264.out (by decide)) BK272.out (by decide))
                      have HG_sw := Aside0.mk (Kd.R_mono HQ_sw.out (fun k_ hk => ⟨⟨hk.1.1.1, ⟨hk.1.2, hk.2⟩⟩, fun e_ => (hk.1.1.2) (by rw [e_]; rfl)⟩) : Kd.R _ _ _ _ (fun k_ => ((fun k_ => k_ ≠ gb263 ∧ k_ ≠ gb264 ∧ k_ ≠ gb272)) k_ ∧ k_ ≠ go42) _ _)
                      have el_sw : t274.length = y280.length := (Kd.R_reads' HO276.out).1
                      have HF_sw := Kd.R_F HG_sw.out
                      rw [el_sw] at HF_sw
                      have HP61 := Kd.N_seg HX61.out (a2 : Int) (asm) (by have h_ : (a2 : Int) < ((t269.length : Int) : Int) := asm; first | exact h_ | (have e_ := (Kd.N_reads' HO271.out).1; omega) | simpa using h_) (seg := [.slice (some ⟨go39, 0, none⟩) y280.length co56]) (j := 0) hcl61 hcc61 (show 1 ≤ 3 from by decide) (x' := (⟨y280, (rd_T38 t269 a2).f1, (rd_T38 t269 a2).f2⟩ : S38)) (k38_mkF _ _ (⟨y280, (rd_T38 t269 a2).f1, (rd_T38 t269 a2).f2⟩ : S38) (by rw [← el_sw]; exact (Kd.R_reads' HO276.out).2.1) HF_sw) (fun _ hk => hk)
                      rw [← el_sw] at HP61; clear HF_sw el_sw HQ_sw HG_sw
                      have hx61_0 := hcc61 0 _ rfl
                      (try simp only [show (k38).sz = 3 from rfl, Nat.mul_one, Nat.add_zero] at hx61_0)
                      have hf61_0 := hfr61 0
                      (try simp only [show (k38).sz = 3 from rfl, Nat.mul_one, Nat.add_zero] at hf61_0)
                      clear hcl61 hcc61 hfr61 hM61
                      try go_wp2_with (first | ((with_reducible refine gate_store (t := 35) (p := 63) rfl ?_); refine store_event (t := 35) (p := 63) (v := ?vo_w62) (w1 := (w59.setCell ⟨go42, (a2 : Int).toNat * 3, none⟩ (.slice (some ⟨go39, 0, none⟩) t274.length co56))) ?hg ?ho ?hn ?hr ?_; (case ho => rfl); (case hg => rfl); (case hn => rfl); (case hr => first | (go_simp; done) | (go_simp; rfl)); intro w62 hw; have hg : w59.grownBy w62 (some go42) := (by rw [hw]; exact HP61.2); have hp_ : Kd.N k38 38 w62 w.heap.size (fun k_ => k_ ≠ gb263 ∧ k_ ≠ gb264 ∧ k_ ≠ gb272) (.slice (some ⟨go42, 0, none⟩) t269.length co49) y281 := (by rw [hw, Ny281.out]; exact HP61.1); clear HP61; have n0_ := Aside0.mk (blk_grown (g := gb263) (o := .cells #[.int .i64 a0] 3 (0, 0)) (bk BK263.out) hg (Kd.N_ne HO271.out BK263.out (by decide))); have n1_ := Aside0.mk (blk_grown (g := gb264) (o := .cells #[.slice (some ad273) l1.length c1] 25 (0, 0)) (bk BK264.out) hg (Kd.N_ne HO271.out BK264.out (by decide))); have n2_ := Aside0.mk (hp_); have n3_ := Aside0.mk (blk_grown (g := gb272) (o := .cells #[.slice (some ⟨go42, 0, none⟩) t269.length co49] 25 (0, 0)) (bk BK272.out) hg (Kd.N_ne HO271.out BK272.out (by decide))); have n4_ := Aside0.mk ((by rw [hw]; exact below_set (HB.out) GB42.out : Below w.heap.size w w62)); clear BK263; clear BK264; clear HO271; clear BK272; clear HB; clear HO276; have BK263 := n0_; have BK264 := n1_; have HO271 := n2_; have BK272 := n3_; have HB := n4_; clear n0_ n1_ n2_ n3_ n4_; clear hg hw hp_; have el_sw : t269.length = y281.length := (Kd.N_reads' HO271.out).1; have h_sw := HO271.out; rw [el_sw] at h_sw; replace HO271 := Aside0.mk h_sw; clear h_sw; have h_sw := BK272.out; rw [el_sw] at h_sw; replace BK272 := Aside0.mk h_sw; clear h_sw; clear el_sw; obtain ⟨hcz63_0, hfz63_0⟩ := cf1 BK263.out) | ((with_reducible refine gate_callee (f := 53) rfl ?_); refine goesL_ (some 65) rfl rfl Try.func53 (by kernel_rfl) rfl #[.int .i64 a0] rfl ga ?_; (with_reducible refine (impl_upTo.calls kj4 a0 t282 _ A43.out).mono ?_); rintro e w64 ⟨v283, rfl, ho0, hb⟩; refine ⟨_, rfl, ?_⟩; have HO284 := Aside0.mk (Kd.R_lower (Kd.R_newB ho0 (g := gb263) (o := .cells #[.int .i64 a0] 3 (0, 0)) (bk BK263.out)) (below_size bel)); replace HO271 := Aside0.mk (Kd.N_elder' (by (with_reducible repeat (first | apply Kd.N_alloc | apply Kd.N_drewN | apply Kd.N_drew)); exact HO271.out) (Kd.R_base ho0) hb); replace BK263 := Aside0.mk (bb BK263.out hb); replace BK264 := Aside0.mk (bb BK264.out hb); replace BK272 := Aside0.mk (bb BK272.out hb); replace HB := Aside0.mk (below_step bel hb); (try clear hb); (try clear ho0); obtain ⟨Ao65, co65, eo65⟩ := Kd.R_slice HO284.out; subst eo65) | ((with_reducible refine gate_callee (f := 52) rfl ?_); refine goesL_ (some 67) rfl rfl Try.func52 (by kernel_rfl) rfl #[.slice Ao65 t282.length co65, .func (.func 54) #[] #[.pointer (some ⟨gb263, 0, none⟩), .pointer (some ⟨gb272, 0, none⟩), .pointer (some ⟨gb264, 0, none⟩)]] rfl (by (try simp only [List.map_toArray, List.map_cons, List.map_nil]); first | done | (rw [show y281.length = t269.length from (Kd.N_reads' HO271.out).1.symm] <;> rfl) | rfl | (simp only [List.length_drop, List.length_take]; rfl)) ?_; (with_reducible refine (slices_DeleteFunc_int_int_impl_SwapGains_1.calls kj4 (fun k_ => some k_ = (.slice Ao65 t282.length co65 : Value).ownBlock) (.slice Ao65 t282.length co65) t282 gb263 a0 gb272 (some ⟨go42, 0, none⟩) co49 y281 gb264 (some ad273) c1 l1 t285 w _ ?side1 ?side2 ?side3 ?side4 ?side5 ?side6 ?side7 ?side8 ?side9 ?side10 ?side11 ?side12 A44.out).mono ?_); (case side1 => exact bel); (case side2 => exact Kd.R_tight rfl HO284.out); (case side3 => exact Kd.C_kept_ownV (Kd.N_V (base' := 0) (HO271.out)) (fun k_ hk_ hs_ => (hk_.2) hs_)); (case side4 => exact (Kd.N_reads' HO271.out).2.1); (case side5 => exact Kd.C_kept_came k38_heap HR1.out bel (fun k_ hs_ => (fun e_ => Kd.R_base HO284.out k_ e_.symm) hs_)); (case side6 => exact HC1.out); (case side7 => exact (bk BK263.out)); (case side8 => exact (bk BK272.out)); (case side9 => exact (bk BK264.out)); (case side10 => exact (fun hs_ => (fun e_ => (Kd.R_away HO284.out (fun _ hk => hk.2)) e_) hs_)); (case side11 => exact (fun hs_ => (fun e_ => (Kd.R_ne HO284.out BK272.out (by decide)) e_) hs_)); (case side12 => exact (fun hs_ => (fun e_ => (Kd.R_ne HO284.out BK264.out (by decide)) e_) hs_)); rintro e w66 ⟨v286, rfl, ho0, hb, hkp⟩; refine ⟨_, rfl, ?_⟩; have n0_ := Aside0.mk (blk_kept (bk BK263.out) hkp (fun hs_ => (fun e_ => (Kd.R_away HO284.out (fun _ hk => hk.2)) e_) hs_)); have n1_ := Aside0.mk (blk_kept (bk BK264.out) hkp (fun hs_ => (fun e_ => (Kd.R_ne HO284.out BK264.out (by decide)) e_) hs_)); have n2_ := Aside0.mk (Kd.N_mono (ok' := fun k_ => k_ ≠ gb263 ∧ k_ ≠ gb264 ∧ k_ ≠ gb272 ∧ some k_ ≠ (v286 : Value).ownBlock) (Kd.N_keptB (HO271.out) hkp (fun k_ hk_ hs_ => (hk_.2) hs_)) (fun k_ hk_ => ⟨hk_.1.1.1, hk_.1.1.2.1, hk_.1.1.2.2, fun e_ => Or.elim (ho0.1 k_ e_.symm) (fun hs_ => hk_.2.1 hs_) (fun hn_ => Nat.not_le.2 hk_.2.2 hn_)⟩)); have n3_ := Aside0.mk (blk_kept (bk BK272.out) hkp (fun hs_ => (fun e_ => (Kd.R_ne HO284.out BK272.out (by decide)) e_) hs_)); have n4_ := Aside0.mk (Kd.R_mono (ok' := fun k_ => k_ ≠ gb263) ho0 (fun k_ hk_ => Or.elim hk_ (fun hs_ => fun e_ => (Kd.R_away HO284.out (fun _ hk => hk.2)) (by rw [← e_]; exact hs_)) (fun hn_ => (Kd.freshB (g := gb263) (o := .cells #[.int .i64 a0] 3 (0, 0)) (bk BK263.out) k_ hn_)))); have n5_ := Aside0.mk (hb); clear BK263; clear BK264; clear HO271; clear BK272; clear HB; clear HO284; have BK263 := n0_; have BK264 := n1_; have HO271 := n2_; have BK272 := n3_; have HO287 := n4_; have HB := n5_; clear n0_ n1_ n2_ n3_ n4_ n5_; (try clear hb); (try clear hkp); (try clear ho0)))
                      go_ret
                      exact ⟨_, by first | rfl | (simp [errW_none, errW_some] <;> rfl) | (simp only [← hji34]; first | rfl | (simp [errW_none, errW_some] <;> rfl)) | (simp [*, errW_none, errW_some] <;> rfl), by (with_reducible repeat (first | apply Kd.R_alloc | apply Kd.R_drewN | apply Kd.R_drew)); exact Kd.R_mono HO287.out (fun _ hk => trivial), bel⟩
                    · rw [if_neg c41] at H
                      exact absurd H (by simp)
                  · rw [if_neg c38] at H
                    exact absurd H (by simp)
                · rw [if_neg c37] at H
                  exact absurd H (by simp)
              · rw [if_neg c36] at H
                exact absurd H (by simp)
            · rw [if_neg c35] at H
              exact absurd H (by simp)
          · rw [if_neg c32] at H
            exact absurd H (by simp)
        · rw [if_neg c31] at H
          exact absurd H (by simp)

end Go.Proofs.Ytaopcamaceddnaa.Y
