-- Written by a program of this session (wip/xp.py, over the kit's print) out of the translation: functions, and the walks that show them.
import Derived.Lib.SliceRun
import Derived.Test.YtmpealaejigbfaaX0
import Derived.Test.YtmpealaejigbfaaX1
import Derived.Test.YtmpealaejigbfaaX13
namespace Go.Proofs.Ytmpealaejigbfaa.X
open Go.RowKit Go.Proofs.YtmpealaejigbfaaW.PrintWords Go.Proofs.YtmpealaejigbfaaW.PrintLast Go.Proofs.YtmpealaejigbfaaW.PrintMore
attribute [local go_sem] max2_int min2_int max_two min_two max_three min_three max_four min_four   -- for this text's walks alone
set_option linter.unusedVariables false
set_option linter.unusedSimpArgs false

attribute [local go_sem high] eqA47
/-! ### impl_ChangedGames_1: function 56 -/
def impl_ChangedGames_1.f (a0 : Int) (l1_0 : List (S78)) (a1_1 : Int) (a1_2 : Int) (a1_3 : Int) (l1_4 : List Int) (a1_5 : Bool) (l1_6 : List (S47)) (l1_7 : List Int) (l1_8 : List Int) (l2_0 : List (S78)) (a2_1 : Int) (a2_2 : Int) (a2_3 : Int) (l2_4 : List Int) (a2_5 : Bool) (l2_6 : List (S47)) (l2_7 : List Int) (l2_8 : List Int) : Option (Bool) := if 0 ≤ a0 then (if a0 < (l1_6.length : Int) then (if a0 < (l2_6.length : Int) then (some (((rd_T47 l1_6 a0).f0) == ((rd_T47 l2_6 a0).f0) && (((rd_T47 l1_6 a0).f1) == ((rd_T47 l2_6 a0).f1) && (((rd_T47 l1_6 a0).f2) == ((rd_T47 l2_6 a0).f2) && (((rd_T47 l1_6 a0).f3) == ((rd_T47 l2_6 a0).f3) && (((rd_T47 l1_6 a0).f4) == ((rd_T47 l2_6 a0).f4))))))) else (none)) else (none)) else (none)
set_option maxHeartbeats 8000000 in
set_option maxRecDepth 100000 in
theorem impl_ChangedGames_1.calls (a0 : Int) (gb209 : Nat) (A1_0 : Option Addr) (c1_0 : Nat) (l1_0 : List (S78)) (a1_1 : Int) (a1_2 : Int) (a1_3 : Int) (A1_4 : Option Addr) (c1_4 : Nat) (l1_4 : List Int) (a1_5 : Bool) (A1_6 : Option Addr) (c1_6 : Nat) (l1_6 : List (S47)) (A1_7 : Option Addr) (c1_7 : Nat) (l1_7 : List Int) (A1_8 : Option Addr) (c1_8 : Nat) (l1_8 : List Int) (gb210 : Nat) (A2_0 : Option Addr) (c2_0 : Nat) (l2_0 : List (S78)) (a2_1 : Int) (a2_2 : Int) (a2_3 : Int) (A2_4 : Option Addr) (c2_4 : Nat) (l2_4 : List Int) (a2_5 : Bool) (A2_6 : Option Addr) (c2_6 : Nat) (l2_6 : List (S47)) (A2_7 : Option Addr) (c2_7 : Nat) (l2_7 : List Int) (A2_8 : Option Addr) (c2_8 : Nat) (l2_8 : List Int) (r : Bool) (w : World) (hr1_0 : Kd.C k78 w A1_0 l1_0.length l1_0) (hc1_0 : l1_0.length ≤ c1_0) (hr1_4 : Kd.C (Kd.int .i64) w A1_4 l1_4.length l1_4) (hc1_4 : l1_4.length ≤ c1_4) (hr1_6 : Kd.C k47 w A1_6 l1_6.length l1_6) (hc1_6 : l1_6.length ≤ c1_6) (hr1_7 : Kd.C (Kd.int .i64) w A1_7 l1_7.length l1_7) (hc1_7 : l1_7.length ≤ c1_7) (hr1_8 : Kd.C (Kd.int .i64) w A1_8 l1_8.length l1_8) (hc1_8 : l1_8.length ≤ c1_8) (hr2_0 : Kd.C k78 w A2_0 l2_0.length l2_0) (hc2_0 : l2_0.length ≤ c2_0) (hr2_4 : Kd.C (Kd.int .i64) w A2_4 l2_4.length l2_4) (hc2_4 : l2_4.length ≤ c2_4) (hr2_6 : Kd.C k47 w A2_6 l2_6.length l2_6) (hc2_6 : l2_6.length ≤ c2_6) (hr2_7 : Kd.C (Kd.int .i64) w A2_7 l2_7.length l2_7) (hc2_7 : l2_7.length ≤ c2_7) (hr2_8 : Kd.C (Kd.int .i64) w A2_8 l2_8.length l2_8) (hc2_8 : l2_8.length ≤ c2_8) (hbk209 : w.heap[gb209]? = some (.cells #[.slice A1_0 l1_0.length c1_0, .int .i64 a1_1, .int .i64 a1_2, .int .i64 a1_3, .slice A1_4 l1_4.length c1_4, .bool a1_5, .slice A1_6 l1_6.length c1_6, .slice A1_7 l1_7.length c1_7, .slice A1_8 l1_8.length c1_8] 65 (0, 0))) (hbk210 : w.heap[gb210]? = some (.cells #[.slice A2_0 l2_0.length c2_0, .int .i64 a2_1, .int .i64 a2_2, .int .i64 a2_3, .slice A2_4 l2_4.length c2_4, .bool a2_5, .slice A2_6 l2_6.length c2_6, .slice A2_7 l2_7.length c2_7, .slice A2_8 l2_8.length c2_8] 65 (0, 0))) (h : impl_ChangedGames_1.f a0 l1_0 a1_1 a1_2 a1_3 l1_4 a1_5 l1_6 l1_7 l1_8 l2_0 a2_1 a2_2 a2_3 l2_4 a2_5 l2_6 l2_7 l2_8 = some r) :
    Calls Try.prog 56 #[.int .i64 a0, .pointer (some ⟨gb209, 0, none⟩), .pointer (some ⟨gb210, 0, none⟩)] w fun e w' => e = .returned (.bool r) ∧ Drawn0 w w' := by
  have hu47 := Try.underlying47
  have HR1_0 := Aside0.mk hr1_0
  have HC1_0 := Aside0.mk hc1_0
  clear hr1_0 hc1_0
  have HR1_4 := Aside0.mk hr1_4
  have HC1_4 := Aside0.mk hc1_4
  clear hr1_4 hc1_4
  have HR1_6 := Aside0.mk hr1_6
  have HC1_6 := Aside0.mk hc1_6
  clear hr1_6 hc1_6
  have HR1_7 := Aside0.mk hr1_7
  have HC1_7 := Aside0.mk hc1_7
  clear hr1_7 hc1_7
  have HR1_8 := Aside0.mk hr1_8
  have HC1_8 := Aside0.mk hc1_8
  clear hr1_8 hc1_8
  have HR2_0 := Aside0.mk hr2_0
  have HC2_0 := Aside0.mk hc2_0
  clear hr2_0 hc2_0
  have HR2_4 := Aside0.mk hr2_4
  have HC2_4 := Aside0.mk hc2_4
  clear hr2_4 hc2_4
  have HR2_6 := Aside0.mk hr2_6
  have HC2_6 := Aside0.mk hc2_6
  clear hr2_6 hc2_6
  have HR2_7 := Aside0.mk hr2_7
  have HC2_7 := Aside0.mk hc2_7
  clear hr2_7 hc2_7
  have HR2_8 := Aside0.mk hr2_8
  have HC2_8 := Aside0.mk hc2_8
  clear hr2_8 hc2_8
  have BK209 := Aside0.mk hbk209
  clear hbk209
  have BK210 := Aside0.mk hbk210
  clear hbk210
  have H : (if 0 ≤ a0 then (if a0 < (l1_6.length : Int) then (if a0 < (l2_6.length : Int) then (some (((rd_T47 l1_6 a0).f0) == ((rd_T47 l2_6 a0).f0) && (((rd_T47 l1_6 a0).f1) == ((rd_T47 l2_6 a0).f1) && (((rd_T47 l1_6 a0).f2) == ((rd_T47 l2_6 a0).f2) && (((rd_T47 l1_6 a0).f3) == ((rd_T47 l2_6 a0).f3) && (((rd_T47 l1_6 a0).f4) == ((rd_T47 l2_6 a0).f4))))))) else (none)) else (none)) else (none)) = some r := h
  clear h
  by_cases c4 : 0 ≤ a0
  · rw [if_pos c4] at H
    have c4b0 : decide (0 ≤ a0) = true := decide_eq_true c4
    clear c4
    by_cases c5 : a0 < (l1_6.length : Int)
    · rw [if_pos c5] at H
      have c5b0 : decide (a0 < (l1_6.length : Int)) = true := decide_eq_true c5
      clear c5
      by_cases c6 : a0 < (l2_6.length : Int)
      · rw [if_pos c6] at H
        have c6b0 : decide (a0 < (l2_6.length : Int)) = true := decide_eq_true c6
        clear c6
        obtain rfl := Option.some.inj H
        obtain ⟨hcz8_0, hcz8_1, hcz8_2, hcz8_3, hcz8_4, hcz8_5, hcz8_6, hcz8_7, hcz8_8, hfz8_0, hfz8_1, hfz8_2, hfz8_3, hfz8_4, hfz8_5, hfz8_6, hfz8_7, hfz8_8⟩ := cf9 BK209.out
        have p211 : 0 ≤ (a0 : Int) := asm
        have q211 : a0 < (l1_6.length : Int) := asm
        obtain ⟨ad211, e211, hx211_0, hx211_1, hx211_2, hx211_3, hx211_4⟩ := at_T47 HR1_6.out a0 p211 q211
        cases e211
        replace p211 := eq_true p211
        replace q211 := eq_true q211
        obtain ⟨hcz9_0, hcz9_1, hcz9_2, hcz9_3, hcz9_4, hcz9_5, hcz9_6, hcz9_7, hcz9_8, hfz9_0, hfz9_1, hfz9_2, hfz9_3, hfz9_4, hfz9_5, hfz9_6, hfz9_7, hfz9_8⟩ := cf9 BK210.out
        have p212 : 0 ≤ (a0 : Int) := asm
        have q212 : a0 < (l2_6.length : Int) := asm
        obtain ⟨ad212, e212, hx212_0, hx212_1, hx212_2, hx212_3, hx212_4⟩ := at_T47 HR2_6.out a0 p212 q212
        cases e212
        replace p212 := eq_true p212
        replace q212 := eq_true q212
        go_enter Try.func56, Try.ntmps56
        go_wp2
        repeat (go_quiet (fail); try go_wp2)
        go_ret
        exact ⟨es, by repeat (first | exact Drawn0.refl _ | apply Drawn0.step)⟩
      · rw [if_neg c6] at H
        exact absurd H (by simp)
    · rw [if_neg c5] at H
      exact absurd H (by simp)
  · rw [if_neg c4] at H
    exact absurd H (by simp)
/-! ### slices_DeleteFunc_int_int_impl_ChangedGames_1: slices.DeleteFunc (function 43) with the closure 56 (this session's own text) -/
def slices_DeleteFunc_int_int_impl_ChangedGames_1.ix (p : Nat → Int → Option Bool) : Nat → List Int → Nat → Option Int
  | 0, _, _ => none
  | k + 1, xs, i => if i < xs.length then ((p k (xs.getD i 0)).bind fun b => (if b = true then (some (i : Int)) else (slices_DeleteFunc_int_int_impl_ChangedGames_1.ix p k xs (i + 1)))) else (some (-1))
def slices_DeleteFunc_int_int_impl_ChangedGames_1.dl (p : Nat → Int → Option Bool) : Nat → List Int → Nat → Nat → Option (List Int)
  | 0, _, _, _ => none
  | k + 1, xs, i, j => if j < xs.length then ((p k (xs.getD j 0)).bind fun b => (if b = true then (slices_DeleteFunc_int_int_impl_ChangedGames_1.dl p k xs i (j + 1)) else (if i < xs.length then (slices_DeleteFunc_int_int_impl_ChangedGames_1.dl p k (xs.set i (xs.getD j 0)) (i + 1) (j + 1)) else (none)))) else (if i < xs.length then (some (xs.take i)) else (none))
def slices_DeleteFunc_int_int_impl_ChangedGames_1.del (p : Nat → Int → Option Bool) (k : Nat) (xs : List Int) : Option (List Int) := (slices_DeleteFunc_int_int_impl_ChangedGames_1.ix p k xs 0).bind fun t => (if t = -1 then (some xs) else (if 0 ≤ t then (slices_DeleteFunc_int_int_impl_ChangedGames_1.dl p k xs t.toNat (t.toNat + 1)) else (none)))
theorem slices_DeleteFunc_int_int_impl_ChangedGames_1.ix_mono {p : Nat → Int → Option Bool} (hp : ∀ k x, LeO (p k x) (p (k + 1) x)) : ∀ k xs i, LeO (slices_DeleteFunc_int_int_impl_ChangedGames_1.ix p k xs i) (slices_DeleteFunc_int_int_impl_ChangedGames_1.ix p (k + 1) xs i)
  | 0, _, _ => fun r h => by simp [slices_DeleteFunc_int_int_impl_ChangedGames_1.ix] at h
  | k + 1, xs, i => by
    have ih := slices_DeleteFunc_int_int_impl_ChangedGames_1.ix_mono hp k
    unfold slices_DeleteFunc_int_int_impl_ChangedGames_1.ix
    exact LeO.ite (LeO.bind (hp _ _) (fun _ => LeO.ite (LeO.refl _) (ih _ _))) (LeO.refl _)
theorem slices_DeleteFunc_int_int_impl_ChangedGames_1.dl_mono {p : Nat → Int → Option Bool} (hp : ∀ k x, LeO (p k x) (p (k + 1) x)) : ∀ k xs i j, LeO (slices_DeleteFunc_int_int_impl_ChangedGames_1.dl p k xs i j) (slices_DeleteFunc_int_int_impl_ChangedGames_1.dl p (k + 1) xs i j)
  | 0, _, _, _ => fun r h => by simp [slices_DeleteFunc_int_int_impl_ChangedGames_1.dl] at h
  | k + 1, xs, i, j => by
    have ih := slices_DeleteFunc_int_int_impl_ChangedGames_1.dl_mono hp k
    unfold slices_DeleteFunc_int_int_impl_ChangedGames_1.dl
    exact LeO.ite (LeO.bind (hp _ _) (fun _ => LeO.ite (ih _ _ _) (LeO.ite (ih _ _ _) (LeO.refl _)))) (LeO.ite (LeO.refl _) (LeO.refl _))
theorem slices_DeleteFunc_int_int_impl_ChangedGames_1.del_mono {p : Nat → Int → Option Bool} (hp : ∀ k x, LeO (p k x) (p (k + 1) x)) (k : Nat) (xs : List Int) : LeO (slices_DeleteFunc_int_int_impl_ChangedGames_1.del p k xs) (slices_DeleteFunc_int_int_impl_ChangedGames_1.del p (k + 1) xs) := by
  unfold slices_DeleteFunc_int_int_impl_ChangedGames_1.del
  exact LeO.bind (slices_DeleteFunc_int_int_impl_ChangedGames_1.ix_mono hp _ _ _) (fun _ => LeO.ite (LeO.refl _) (LeO.ite (slices_DeleteFunc_int_int_impl_ChangedGames_1.dl_mono hp _ _ _ _) (LeO.refl _)))
theorem slices_DeleteFunc_int_int_impl_ChangedGames_1.puts {base g n cap : Nat} {ok : Nat → Prop} : ∀ (m : Nat) (W : World) (xs : List Int) (i : Nat), (Kd.int .i64).R 3 W base ok (.slice (some ⟨g, 0, none⟩) n cap) xs → i + m ≤ n →
    ∃ ys : List Int, (Kd.int .i64).R 3 (W.setCells g i (List.replicate m (.int .i64 0))) base ok (.slice (some ⟨g, 0, none⟩) n cap) ys ∧ ys.take i = xs.take i ∧ ys.length = xs.length ∧ W.grownBy (W.setCells g i (List.replicate m (.int .i64 0))) (some g) ∧ ∀ (w0 : World), Below w0.heap.size w0 W → w0.heap.size ≤ g → Below w0.heap.size w0 (W.setCells g i (List.replicate m (.int .i64 0)))
  | 0, W, xs, i, h, hi => ⟨xs, h, rfl, rfl, World.grownBy.refl _ _, fun _ hb _ => hb⟩
  | m + 1, W, xs, i, h, hi => by
    have h1 := Kd.R_putg h (i : Int) 0
    rw [Int.toNat_natCast] at h1
    obtain ⟨ys, h2, h3, h4, h5, h6⟩ := slices_DeleteFunc_int_int_impl_ChangedGames_1.puts m (W.setCell ⟨g, i, none⟩ (.int .i64 0)) (xs.set i 0) (i + 1) h1.1 (by omega)
    refine ⟨ys, h2, ?_, by rw [h4]; simp, h1.2.andThen h5 (fun j hj => .inr hj), fun w0 hb hg => h6 w0 (below_set hb hg) hg⟩
    have := congrArg (List.take i) h3
    rw [List.take_take, List.take_take, Nat.min_eq_left (by omega)] at this
    rw [this, List.take_set]
    exact List.set_eq_of_length_le (by rw [List.length_take]; omega)
theorem slices_DeleteFunc_int_int_impl_ChangedGames_1.wn {i : Nat} (h : i < 4611686018427387905) : Value.int .i64 (wrap64 ((i : Int) + 1)) = .int .i64 ((i + 1 : Nat) : Int) := by
  rw [show wrap64 ((i : Int) + 1) = ((i + 1 : Nat) : Int) by unfold wrap64; omega]
theorem slices_DeleteFunc_int_int_impl_ChangedGames_1.ix_lt {p : Nat → Int → Option Bool} : ∀ {k : Nat} {xs : List Int} {i t : Nat}, slices_DeleteFunc_int_int_impl_ChangedGames_1.ix p k xs i = some (t : Int) → t < xs.length
  | 0, _, _, _, h => by simp [slices_DeleteFunc_int_int_impl_ChangedGames_1.ix] at h
  | k + 1, xs, i, t, h => by
    simp only [slices_DeleteFunc_int_int_impl_ChangedGames_1.ix] at h
    by_cases c : i < xs.length
    · rw [if_pos c] at h
      obtain ⟨b, _, h⟩ := Option.bind_eq_some_iff.mp h
      cases b with
      | true => rw [if_pos rfl] at h; have := Option.some.inj h; omega
      | false => rw [if_neg (by decide)] at h; exact slices_DeleteFunc_int_int_impl_ChangedGames_1.ix_lt h
    · rw [if_neg c] at h
      have := Option.some.inj h
      omega
set_option maxHeartbeats 8000000 in
set_option maxRecDepth 100000 in
theorem slices_DeleteFunc_int_int_impl_ChangedGames_1.search (p : Nat → Int → Option Bool) (k : Nat) (gb1 : Nat) (gb2 : Nat) (A0 : Option Addr) (c0 : Nat) (l0 : List Int) (r : Int) (w : World) (hr0 : Kd.C (Kd.int .i64) w A0 l0.length l0) (hc0 : l0.length ≤ c0) (hb0 : l0.length ≤ 4611686018427387904)
    (hp : ∀ (k : Nat) (x : Int) (b : Bool) (W : World), p k x = some b → Below w.heap.size w W → Calls Try.prog 56 #[.int .i64 x, .pointer (some ⟨gb1, 0, none⟩), .pointer (some ⟨gb2, 0, none⟩)] W fun e w' => e = .returned (.bool b) ∧ Below W.heap.size W w') (h : slices_DeleteFunc_int_int_impl_ChangedGames_1.ix p k l0 0 = some r) :
    Calls Try.prog 65 #[.slice A0 l0.length c0, .func (.func 56) #[] #[.pointer (some ⟨gb1, 0, none⟩), .pointer (some ⟨gb2, 0, none⟩)]] w fun e w' => e = .returned (.int .i64 r) ∧ Below w.heap.size w w' := by
  have HR0 := Aside0.mk hr0
  have HC0 := Aside0.mk hc0
  have HN := Aside0.mk hb0
  have HP := Aside0.mk hp
  clear hr0 hc0 hp hb0
  have H' := Aside0.mk h
  clear h
  have HB := Aside0.mk (Below.refl w.heap.size w)
  go_enter Try.func65, Try.ntmps65
  go_wp2
  go_loopg [8] k (fun kq v w' => ∃ (i : Nat), v = .int .i64 (i : Int) ∧ Aside0 (slices_DeleteFunc_int_int_impl_ChangedGames_1.ix p kq l0 i = some r) ∧ Aside0 (kq ≤ k) ∧ Aside0 (Below w.heap.size w w'))
  case atStart => exact ⟨0, rfl, H', ⟨Nat.le_refl _⟩, HB⟩
  case round =>
    clear H' HB
    obtain ⟨i, rfl, HA, HK1, HB⟩ := hrel
    cases gk with
    | zero => exact absurd HA.out (by simp [slices_DeleteFunc_int_int_impl_ChangedGames_1.ix])
    | succ k1 =>
      have H := HA.out
      clear HA
      simp only [slices_DeleteFunc_int_int_impl_ChangedGames_1.ix] at H
      by_cases c7 : i < l0.length
      · rw [if_pos c7] at H
        have hltz : (i : Int) < (l0.length : Int) := by omega
        replace H := Option.bind_eq_some_iff.mp H
        obtain ⟨b, A30, H⟩ := H
        have HH := Aside0.mk H
        clear H
        have hcall := HP.out k1 _ _ _ A30 (bel : Below w.heap.size w wr)
        clear A30
        obtain ⟨ad1, e1, hx1_0⟩ := Kd.at_int HR0.out (i : Int) (by omega) hltz
        cases e1
        replace hx1_0 := hcl HB.out hx1_0
        rw [Int.toNat_natCast] at hx1_0
        have hv : rd l0 (i : Int) = l0.getD i 0 := by simp [rd]
        rw [hv] at hx1_0
        clear hv
        have HL := Aside0.mk c7
        clear c7
        cases b with
        | true =>
          have H := HH.out
          rw [if_pos rfl] at H
          obtain rfl := Option.some.inj H
          clear H HH
          have HQ := Aside0.mk hcall
          clear hcall
          go_wp2_with (go_at_call 56; refine HQ.out.mono ?_; rintro e w' ⟨rfl, hb⟩; replace HB := Aside0.mk (below_step bel hb); clear hb)
          go_ret
          exact ⟨er, bel⟩
        | false =>
          have H := HH.out
          rw [if_neg (by decide)] at H
          have HN2 := Aside0.mk H
          clear H HH
          have HQ := Aside0.mk hcall
          clear hcall
          go_wp2_with (go_at_call 56; refine HQ.out.mono ?_; rintro e w' ⟨rfl, hb⟩; replace HB := Aside0.mk (below_step bel hb); clear hb)
          go_roundg k1
          case measure => have := HK1.out; omega
          case rel =>
            have hN := HN.out
            have hL := HL.out
            exact ⟨i + 1, slices_DeleteFunc_int_int_impl_ChangedGames_1.wn (by omega), HN2, ⟨by have := HK1.out; omega⟩, ⟨bel⟩⟩
      · rw [if_neg c7] at H
        have hltz : ¬ (i : Int) < (l0.length : Int) := by omega
        clear c7
        obtain rfl := Option.some.inj H
        go_wp2
        go_ret
        exact ⟨er, bel⟩
set_option maxHeartbeats 8000000 in
set_option maxRecDepth 100000 in
theorem slices_DeleteFunc_int_int_impl_ChangedGames_1.delCalls (p : Nat → Int → Option Bool) (k : Nat) (gb1 : Nat) (gb2 : Nat) (P0_ : Nat → Prop) (u : Value) (l0 r : List Int) (w0 w : World) (hb0 : l0.length ≤ 4611686018427387904) (hB : Below w0.heap.size w0 w) (ho0 : Kd.R (Kd.int .i64) 3 w w0.heap.size P0_ u l0)
    (hp : ∀ (k : Nat) (x : Int) (b : Bool) (W : World), p k x = some b → Kept w W P0_ → Calls Try.prog 56 #[.int .i64 x, .pointer (some ⟨gb1, 0, none⟩), .pointer (some ⟨gb2, 0, none⟩)] W fun e w' => e = .returned (.bool b) ∧ Below W.heap.size W w') (h : slices_DeleteFunc_int_int_impl_ChangedGames_1.del p k l0 = some r) :
    Calls Try.prog 43 #[u, .func (.func 56) #[] #[.pointer (some ⟨gb1, 0, none⟩), .pointer (some ⟨gb2, 0, none⟩)]] w fun e w' => ∃ v_ : Value, e = .returned v_ ∧ Kd.R (Kd.int .i64) 3 w' w0.heap.size P0_ v_ r ∧ Below w0.heap.size w0 w' ∧ Kept w w' P0_ := by
  obtain ⟨A0, c0, rfl⟩ := Kd.R_slice ho0
  have HN := Aside0.mk hb0
  have HP := Aside0.mk hp
  have HO := Aside0.mk ho0
  have HB := Aside0.mk hB
  have HK := Aside0.mk (Kept.refl w P0_)
  clear hp hb0 ho0 hB
  obtain ⟨t, A1, H⟩ := Option.bind_eq_some_iff.mp h
  clear h
  have A1 := Aside0.mk A1
  have HH := Aside0.mk H
  clear H
  by_cases ct : t = -1
  · subst ct
    have H := HH.out
    rw [if_pos rfl] at H
    obtain rfl := Option.some.inj H
    clear H HH
    go_enter Try.func43, Try.ntmps43
    go_wp2_with (go_at_call 65; (with_reducible refine (slices_DeleteFunc_int_int_impl_ChangedGames_1.search p k gb1 gb2 A0 c0 l0 (-1) w ?side1 ?side2 ?side3 ?side4 A1.out).mono ?_); (case side1 => exact (Kd.R_reads' HO.out).2.2); (case side2 => exact (Kd.R_reads' HO.out).2.1); (case side3 => exact HN.out); (case side4 => exact fun k x b W hx hw => HP.out k x b W hx (Kept.of_below hw _)); rintro e w1 ⟨rfl, hb⟩; replace HO := Aside0.mk (Kd.R_below HO.out hb); replace HK := Aside0.mk (Kept.of_below hb P0_); replace HB := Aside0.mk (below_step HB.out hb); clear hb)
    go_ret
    exact ⟨_, rfl, HO.out, HB.out, HK.out⟩
  · have H := HH.out
    rw [if_neg ct] at H
    by_cases ct2 : 0 ≤ t
    · rw [if_pos ct2] at H
      obtain ⟨i0, rfl⟩ := Int.eq_ofNat_of_zero_le ct2
      rw [Int.toNat_natCast] at H
      have H' := Aside0.mk H
      clear H HH ct2
      have hne1 : ((i0 : Int) == -1) = false := beq_eq_false_iff_ne.2 ct
      have HNE := Aside0.mk ct
      clear ct
      have HI : Aside0 (i0 < l0.length) := ⟨slices_DeleteFunc_int_int_impl_ChangedGames_1.ix_lt A1.out⟩
      have hn0 : 0 < l0.length := by have := HI.out; omega
      obtain ⟨g, cap, eo, gb0, gl, cl, HG⟩ := Kd.R_form HO.out hn0
      (first | cases eo | (injection eo with ea_ en_ ec_; (first | subst ea_ | (injection ea_ with ea_; subst ea_)); subst ec_; clear en_))
      have GB := Aside0.mk gb0
      have HMg := Aside0.mk (show P0_ g from HO.out.1 _ rfl)
      clear gb0 gl HG hn0
      obtain ⟨n, hn⟩ : ∃ n, n = l0.length := ⟨_, rfl⟩
      have HLN := Aside0.mk hn
      clear hn
      go_enter Try.func43, Try.ntmps43
      go_wp2_with (go_at_call 65; (with_reducible refine (slices_DeleteFunc_int_int_impl_ChangedGames_1.search p k gb1 gb2 _ c0 l0 (i0 : Int) w ?side1 ?side2 ?side3 ?side4 A1.out).mono ?_); (case side1 => exact (Kd.R_reads' HO.out).2.2); (case side2 => exact (Kd.R_reads' HO.out).2.1); (case side3 => exact HN.out); (case side4 => exact fun k x b W hx hw => HP.out k x b W hx (Kept.of_below hw _)); rintro e w1 ⟨rfl, hb⟩; replace HO := Aside0.mk (Kd.R_below HO.out hb); replace HK := Aside0.mk (Kept.of_below hb P0_); replace HB := Aside0.mk (below_step HB.out hb); clear hb)
      go_loopg [5, 6, 7] k (fun kq v5 v6 _ w' => ∃ (xs : List Int) (i j : Nat), v5 = .int .i64 (i : Int) ∧ v6 = .int .i64 (j : Int) ∧ Aside0 (xs.length = l0.length) ∧ Aside0 (j ≤ l0.length) ∧ Aside0 (slices_DeleteFunc_int_int_impl_ChangedGames_1.dl p kq xs i j = some r) ∧ Aside0 (kq ≤ k) ∧ Aside0 (Kd.R (Kd.int .i64) 3 w' w0.heap.size P0_ (.slice (some ⟨g, 0, none⟩) l0.length c0) xs) ∧ Aside0 (Kept w w' P0_) ∧ Aside0 (Below w0.heap.size w0 w'))
      case atStart => exact ⟨l0, i0, i0 + 1, rfl, slices_DeleteFunc_int_int_impl_ChangedGames_1.wn (by have := HI.out; have := HN.out; omega), ⟨rfl⟩, ⟨HI.out⟩, H', ⟨Nat.le_refl _⟩, HO, HK, HB⟩
      case round =>
        clear H' HO HK HB A1 HI HNE hne1
        obtain ⟨xs, i, j, rfl, rfl, HX, HJ, HA, HK1, HO, HK, HB⟩ := hrel
        cases gk with
        | zero => exact absurd HA.out (by simp [slices_DeleteFunc_int_int_impl_ChangedGames_1.dl])
        | succ k1 =>
          have H := HA.out
          clear HA
          simp only [slices_DeleteFunc_int_int_impl_ChangedGames_1.dl] at H
          by_cases c7 : j < xs.length
          · rw [if_pos c7] at H
            have hltz : (j : Int) < (l0.length : Int) := by have := HX.out; omega
            replace H := Option.bind_eq_some_iff.mp H
            obtain ⟨b, A30, H⟩ := H
            have HH := Aside0.mk H
            clear H
            have HQ := Aside0.mk (HP.out k1 _ _ _ A30 HK.out)
            clear A30
            obtain ⟨hxj, hfj⟩ := Kd.R_celln 0 HO.out (j : Int) (by omega) hltz
            rw [Int.toNat_natCast, show rdOf 0 xs (j : Int) = xs.getD j 0 by simp [rdOf]] at hxj
            clear hfj
            have HL := Aside0.mk c7
            clear c7
            cases b with
            | true =>
              have H := HH.out
              rw [if_pos rfl] at H
              have HN2 := Aside0.mk H
              clear H HH
              go_wp2_with (go_at_call 56; refine HQ.out.mono ?_; rintro e w2 ⟨rfl, hb⟩; replace HO := Aside0.mk (Kd.R_below HO.out hb); replace HK := Aside0.mk (Kept.then_ HK.out (Kept.of_below hb (fun _ => False)) (fun _ h_ => h_.elim)); replace HB := Aside0.mk (below_step HB.out hb); clear hb)
              go_roundg k1
              case measure => have := HK1.out; omega
              case rel =>
                have hN := HN.out
                have hL := HL.out
                have hX := HX.out
                exact ⟨xs, i, j + 1, rfl, slices_DeleteFunc_int_int_impl_ChangedGames_1.wn (by omega), HX, ⟨by omega⟩, HN2, ⟨by have := HK1.out; omega⟩, HO, HK, HB⟩
            | false =>
              have H := HH.out
              rw [if_neg (by decide)] at H
              by_cases c8 : i < xs.length
              · rw [if_pos c8] at H
                have HN2 := Aside0.mk H
                clear H HH
                have hlti : (i : Int) < (l0.length : Int) := by have := HX.out; omega
                have HLI := Aside0.mk c8
                clear c8
                go_wp2_with (go_at_call 56; refine HQ.out.mono ?_; rintro e w2 ⟨rfl, hb⟩; replace HO := Aside0.mk (Kd.R_below HO.out hb); replace HK := Aside0.mk (Kept.then_ HK.out (Kept.of_below hb (fun _ => False)) (fun _ h_ => h_.elim)); replace HB := Aside0.mk (below_step HB.out hb); clear hb; obtain ⟨hxi, hfi⟩ := Kd.R_celln 0 HO.out (i : Int) (by omega) hlti; rw [Int.toNat_natCast] at hxi hfi)
                go_roundg k1
                case measure => have := HK1.out; omega
                case rel =>
                  have hN := HN.out
                  have hL := HL.out
                  have hI := HLI.out
                  have hX := HX.out
                  have hP := Kd.R_putg HO.out (i : Int) (xs.getD j 0)
                  rw [Int.toNat_natCast] at hP
                  exact ⟨xs.set i (xs.getD j 0), i + 1, j + 1, slices_DeleteFunc_int_int_impl_ChangedGames_1.wn (by omega), slices_DeleteFunc_int_int_impl_ChangedGames_1.wn (by omega), ⟨by simpa using hX⟩, ⟨by omega⟩, HN2, ⟨by have := HK1.out; omega⟩, ⟨hP.1⟩, ⟨Kept.of_grown hP.2 HK.out (fun k_ e_ => by injection e_ with e_; subst e_; exact .inl HMg.out)⟩, ⟨below_set HB.out GB.out⟩⟩
              · rw [if_neg c8] at H
                exact absurd H (by simp)
          · rw [if_neg c7] at H
            have hltz : ¬ (j : Int) < (l0.length : Int) := by have := HX.out; omega
            clear c7
            by_cases c8 : i < xs.length
            · rw [if_pos c8] at H
              obtain rfl := Option.some.inj H
              clear H
              have hil : i < l0.length := by have := HX.out; omega
              obtain ⟨ys, hy1, hy2, hy3, hy4, hy5⟩ := slices_DeleteFunc_int_int_impl_ChangedGames_1.puts (l0.length - i) wr xs i HO.out (by omega)
              have hclr : ∀ ty, (Builtin.clear_ #[22] ty #[.slice (some ⟨g, i, none⟩) (l0.length - i) (c0 - i)]).run Try.prog wr = .ok (.tuple #[]) (wr.setCells g i (List.replicate (l0.length - i) (.int .i64 0))) :=
                fun ty => Lib.run_clear_slice wr _ _ ty _ Try.underlying22 (fun w => by rfl) rfl rfl g i _ _ (by omega) (fun t ht => by have q := (Kd.R_celln 0 HO.out ((i + t : Nat) : Int) (by omega) (by omega)).1; rw [Int.toNat_natCast] at q; rw [q]; rfl) (fun t ht => by have q := (Kd.R_celln 0 HO.out ((i + t : Nat) : Int) (by omega) (by omega)).2; rw [Int.toNat_natCast] at q; exact q)
              have HY := Aside0.mk (Kd.R_take (m := i) hy1 (by rw [hy3]; exact Nat.le_of_lt c8))
              have HT := Aside0.mk hy2
              have HGR := Aside0.mk hy4
              have HBL := Aside0.mk (hy5 w0 HB.out GB.out)
              have hcc := Aside0.mk (Kd.R_reads' HO.out).2.1
              clear hy1 hy2 hy3 hy4 hy5
              have hic : i ≤ c0 := by have := hcc.out; omega
              have hlc : l0.length ≤ c0 := hcc.out
              clear c8
              go_wp2
              go_ret
              rw [HT.out] at HY
              exact ⟨_, rfl, by simpa using HY.out, HBL.out, Kept.of_grown (S := P0_) HGR.out HK.out (fun k_ e_ => by injection e_ with e_; subst e_; exact .inl HMg.out)⟩
            · rw [if_neg c8] at H
              exact absurd H (by simp)
    · rw [if_neg ct2] at H
      exact absurd H (by simp)
def slices_DeleteFunc_int_int_impl_ChangedGames_1.f (k : Nat) (l0 : List Int) (l1_0 : List (S78)) (a1_1 : Int) (a1_2 : Int) (a1_3 : Int) (l1_4 : List Int) (a1_5 : Bool) (l1_6 : List (S47)) (l1_7 : List Int) (l1_8 : List Int) (l2_0 : List (S78)) (a2_1 : Int) (a2_2 : Int) (a2_3 : Int) (l2_4 : List Int) (a2_5 : Bool) (l2_6 : List (S47)) (l2_7 : List Int) (l2_8 : List Int) : Option (List Int) := if l0.length ≤ 4611686018427387904 then (slices_DeleteFunc_int_int_impl_ChangedGames_1.del (fun k_ x_ => impl_ChangedGames_1.f x_ l1_0 a1_1 a1_2 a1_3 l1_4 a1_5 l1_6 l1_7 l1_8 l2_0 a2_1 a2_2 a2_3 l2_4 a2_5 l2_6 l2_7 l2_8) k l0) else (none)
theorem slices_DeleteFunc_int_int_impl_ChangedGames_1.mono : ∀ y0 y1 y2 y3 y4 y5 y6 y7 y8 y9 y10 y11 y12 y13 y14 y15 y16 y17 y18 k, LeO (slices_DeleteFunc_int_int_impl_ChangedGames_1.f k y0 y1 y2 y3 y4 y5 y6 y7 y8 y9 y10 y11 y12 y13 y14 y15 y16 y17 y18) (slices_DeleteFunc_int_int_impl_ChangedGames_1.f (k + 1) y0 y1 y2 y3 y4 y5 y6 y7 y8 y9 y10 y11 y12 y13 y14 y15 y16 y17 y18) := by
  intros
  unfold slices_DeleteFunc_int_int_impl_ChangedGames_1.f
  exact LeO.ite (slices_DeleteFunc_int_int_impl_ChangedGames_1.del_mono (fun _ _ => LeO.refl _) _ _) (LeO.refl _)
set_option maxHeartbeats 8000000 in
set_option maxRecDepth 100000 in
theorem slices_DeleteFunc_int_int_impl_ChangedGames_1.calls (k : Nat) (P0_ : Nat → Prop) (u9000_ : Value) (l0 : List Int) (gb1 : Nat) (A1_0 : Option Addr) (c1_0 : Nat) (l1_0 : List (S78)) (a1_1 : Int) (a1_2 : Int) (a1_3 : Int) (A1_4 : Option Addr) (c1_4 : Nat) (l1_4 : List Int) (a1_5 : Bool) (A1_6 : Option Addr) (c1_6 : Nat) (l1_6 : List (S47)) (A1_7 : Option Addr) (c1_7 : Nat) (l1_7 : List Int) (A1_8 : Option Addr) (c1_8 : Nat) (l1_8 : List Int) (gb2 : Nat) (A2_0 : Option Addr) (c2_0 : Nat) (l2_0 : List (S78)) (a2_1 : Int) (a2_2 : Int) (a2_3 : Int) (A2_4 : Option Addr) (c2_4 : Nat) (l2_4 : List Int) (a2_5 : Bool) (A2_6 : Option Addr) (c2_6 : Nat) (l2_6 : List (S47)) (A2_7 : Option Addr) (c2_7 : Nat) (l2_7 : List Int) (A2_8 : Option Addr) (c2_8 : Nat) (l2_8 : List Int) (r : List Int) (w0 w : World) (hB : Below w0.heap.size w0 w) (ho0 : Kd.R (Kd.int .i64) 3 w w0.heap.size P0_ u9000_ l0) (hr1_0 : ∀ W_, Kept w W_ (fun k_ => P0_ k_) → Kd.C k78 W_ A1_0 l1_0.length l1_0) (hc1_0 : l1_0.length ≤ c1_0) (hr1_4 : ∀ W_, Kept w W_ (fun k_ => P0_ k_) → Kd.C (Kd.int .i64) W_ A1_4 l1_4.length l1_4) (hc1_4 : l1_4.length ≤ c1_4) (hr1_6 : ∀ W_, Kept w W_ (fun k_ => P0_ k_) → Kd.C k47 W_ A1_6 l1_6.length l1_6) (hc1_6 : l1_6.length ≤ c1_6) (hr1_7 : ∀ W_, Kept w W_ (fun k_ => P0_ k_) → Kd.C (Kd.int .i64) W_ A1_7 l1_7.length l1_7) (hc1_7 : l1_7.length ≤ c1_7) (hr1_8 : ∀ W_, Kept w W_ (fun k_ => P0_ k_) → Kd.C (Kd.int .i64) W_ A1_8 l1_8.length l1_8) (hc1_8 : l1_8.length ≤ c1_8) (hr2_0 : ∀ W_, Kept w W_ (fun k_ => P0_ k_) → Kd.C k78 W_ A2_0 l2_0.length l2_0) (hc2_0 : l2_0.length ≤ c2_0) (hr2_4 : ∀ W_, Kept w W_ (fun k_ => P0_ k_) → Kd.C (Kd.int .i64) W_ A2_4 l2_4.length l2_4) (hc2_4 : l2_4.length ≤ c2_4) (hr2_6 : ∀ W_, Kept w W_ (fun k_ => P0_ k_) → Kd.C k47 W_ A2_6 l2_6.length l2_6) (hc2_6 : l2_6.length ≤ c2_6) (hr2_7 : ∀ W_, Kept w W_ (fun k_ => P0_ k_) → Kd.C (Kd.int .i64) W_ A2_7 l2_7.length l2_7) (hc2_7 : l2_7.length ≤ c2_7) (hr2_8 : ∀ W_, Kept w W_ (fun k_ => P0_ k_) → Kd.C (Kd.int .i64) W_ A2_8 l2_8.length l2_8) (hc2_8 : l2_8.length ≤ c2_8) (hbk1 : w.heap[gb1]? = some (.cells #[.slice A1_0 l1_0.length c1_0, .int .i64 a1_1, .int .i64 a1_2, .int .i64 a1_3, .slice A1_4 l1_4.length c1_4, .bool a1_5, .slice A1_6 l1_6.length c1_6, .slice A1_7 l1_7.length c1_7, .slice A1_8 l1_8.length c1_8] 65 (0, 0))) (hbk2 : w.heap[gb2]? = some (.cells #[.slice A2_0 l2_0.length c2_0, .int .i64 a2_1, .int .i64 a2_2, .int .i64 a2_3, .slice A2_4 l2_4.length c2_4, .bool a2_5, .slice A2_6 l2_6.length c2_6, .slice A2_7 l2_7.length c2_7, .slice A2_8 l2_8.length c2_8] 65 (0, 0))) (hnb1 : ¬ P0_ gb1) (hnb2 : ¬ P0_ gb2) (h : slices_DeleteFunc_int_int_impl_ChangedGames_1.f k l0 l1_0 a1_1 a1_2 a1_3 l1_4 a1_5 l1_6 l1_7 l1_8 l2_0 a2_1 a2_2 a2_3 l2_4 a2_5 l2_6 l2_7 l2_8 = some r) :
    Calls Try.prog 43 #[u9000_, .func (.func 56) #[] #[.pointer (some ⟨gb1, 0, none⟩), .pointer (some ⟨gb2, 0, none⟩)]] w fun e w' => ∃ v0_ : Value, e = .returned v0_ ∧ Kd.R (Kd.int .i64) 3 w' w0.heap.size (fun k_ => (P0_ k_ ∨ w.heap.size ≤ k_)) v0_ r ∧ Below w0.heap.size w0 w' ∧ Kept w w' (fun k_ => P0_ k_) := by
  by_cases cl : l0.length ≤ 4611686018427387904
  · unfold slices_DeleteFunc_int_int_impl_ChangedGames_1.f at h
    rw [if_pos cl] at h
    refine (slices_DeleteFunc_int_int_impl_ChangedGames_1.delCalls _ k gb1 gb2 (fun k_ => P0_ k_) u9000_ l0 r w0 w cl hB ho0 ?_ h).mono ?_
    · intro kk xx bb_ WW hpp hkk
      exact (impl_ChangedGames_1.calls xx gb1 A1_0 c1_0 l1_0 a1_1 a1_2 a1_3 A1_4 c1_4 l1_4 a1_5 A1_6 c1_6 l1_6 A1_7 c1_7 l1_7 A1_8 c1_8 l1_8 gb2 A2_0 c2_0 l2_0 a2_1 a2_2 a2_3 A2_4 c2_4 l2_4 a2_5 A2_6 c2_6 l2_6 A2_7 c2_7 l2_7 A2_8 c2_8 l2_8 bb_ WW (hr1_0 WW hkk) hc1_0 (hr1_4 WW hkk) hc1_4 (hr1_6 WW hkk) hc1_6 (hr1_7 WW hkk) hc1_7 (hr1_8 WW hkk) hc1_8 (hr2_0 WW hkk) hc2_0 (hr2_4 WW hkk) hc2_4 (hr2_6 WW hkk) hc2_6 (hr2_7 WW hkk) hc2_7 (hr2_8 WW hkk) hc2_8 (kept_blk hbk1 hkk hnb1) (kept_blk hbk2 hkk hnb2) hpp).mono (fun e_ w_ h_ => ⟨h_.1, h_.2.below⟩)
    · rintro e_ w_ ⟨v_, rfl, hR, hb, hk⟩
      exact ⟨v_, rfl, Kd.R_mono hR (fun _ h_ => .inl h_), hb, hk⟩
  · unfold slices_DeleteFunc_int_int_impl_ChangedGames_1.f at h
    rw [if_neg cl] at h
    exact absurd h (by simp)
/-! ### impl_ChangedGames: function 34 -/
def impl_ChangedGames.f (k : Nat) (l0_0 : List (S78)) (a0_1 : Int) (a0_2 : Int) (a0_3 : Int) (l0_4 : List Int) (a0_5 : Bool) (l0_6 : List (S47)) (l0_7 : List Int) (l0_8 : List Int) (l1_0 : List (S78)) (a1_1 : Int) (a1_2 : Int) (a1_3 : Int) (l1_4 : List Int) (a1_5 : Bool) (l1_6 : List (S47)) (l1_7 : List Int) (l1_8 : List Int) : Option (List Int) := (impl_upTo.f k (mn (l0_6.length : Int) (l1_6.length : Int))).bind fun t215 => ((slices_DeleteFunc_int_int_impl_ChangedGames_1.f k t215 l0_0 a0_1 a0_2 a0_3 l0_4 a0_5 l0_6 l0_7 l0_8 l1_0 a1_1 a1_2 a1_3 l1_4 a1_5 l1_6 l1_7 l1_8).bind fun t218 => (some t218))
theorem impl_ChangedGames.mono : ∀ a0 a1 a2 a3 a4 a5 a6 a7 a8 a9 a10 a11 a12 a13 a14 a15 a16 a17 k, LeO (impl_ChangedGames.f k a0 a1 a2 a3 a4 a5 a6 a7 a8 a9 a10 a11 a12 a13 a14 a15 a16 a17) (impl_ChangedGames.f (k + 1) a0 a1 a2 a3 a4 a5 a6 a7 a8 a9 a10 a11 a12 a13 a14 a15 a16 a17) := by
  intro a0 a1 a2 a3 a4 a5 a6 a7 a8 a9 a10 a11 a12 a13 a14 a15 a16 a17 k
  unfold impl_ChangedGames.f
  repeat' first
      | (with_reducible exact impl_upTo.mono _ _)
      | (with_reducible exact slices_DeleteFunc_int_int_impl_ChangedGames_1.mono _ _ _ _ _ _ _ _ _ _ _ _ _ _ _ _ _ _ _ _)
      | (with_reducible exact LeO.refl _)
      | (with_reducible exact LeO.none _)
      | (with_reducible refine LeO.ite ?_ ?_)
      | (with_reducible refine LeO.bind ?_ (fun _ => ?_))
      | exact impl_upTo.mono _ _
      | exact slices_DeleteFunc_int_int_impl_ChangedGames_1.mono _ _ _ _ _ _ _ _ _ _ _ _ _ _ _ _ _ _ _ _
      | exact LeO.none _
      | refine LeO.ite ?_ ?_
      | refine LeO.bind ?_ (fun _ => ?_)
set_option maxHeartbeats 8000000 in
set_option maxRecDepth 100000 in
theorem impl_ChangedGames.calls (k : Nat) (A0_0 : Option Addr) (c0_0 : Nat) (l0_0 : List (S78)) (a0_1 : Int) (a0_2 : Int) (a0_3 : Int) (A0_4 : Option Addr) (c0_4 : Nat) (l0_4 : List Int) (a0_5 : Bool) (A0_6 : Option Addr) (c0_6 : Nat) (l0_6 : List (S47)) (A0_7 : Option Addr) (c0_7 : Nat) (l0_7 : List Int) (A0_8 : Option Addr) (c0_8 : Nat) (l0_8 : List Int) (A1_0 : Option Addr) (c1_0 : Nat) (l1_0 : List (S78)) (a1_1 : Int) (a1_2 : Int) (a1_3 : Int) (A1_4 : Option Addr) (c1_4 : Nat) (l1_4 : List Int) (a1_5 : Bool) (A1_6 : Option Addr) (c1_6 : Nat) (l1_6 : List (S47)) (A1_7 : Option Addr) (c1_7 : Nat) (l1_7 : List Int) (A1_8 : Option Addr) (c1_8 : Nat) (l1_8 : List Int) (r : List Int) (w : World) (hr0_0 : Kd.C k78 w A0_0 l0_0.length l0_0) (hc0_0 : l0_0.length ≤ c0_0) (hr0_4 : Kd.C (Kd.int .i64) w A0_4 l0_4.length l0_4) (hc0_4 : l0_4.length ≤ c0_4) (hr0_6 : Kd.C k47 w A0_6 l0_6.length l0_6) (hc0_6 : l0_6.length ≤ c0_6) (hr0_7 : Kd.C (Kd.int .i64) w A0_7 l0_7.length l0_7) (hc0_7 : l0_7.length ≤ c0_7) (hr0_8 : Kd.C (Kd.int .i64) w A0_8 l0_8.length l0_8) (hc0_8 : l0_8.length ≤ c0_8) (hr1_0 : Kd.C k78 w A1_0 l1_0.length l1_0) (hc1_0 : l1_0.length ≤ c1_0) (hr1_4 : Kd.C (Kd.int .i64) w A1_4 l1_4.length l1_4) (hc1_4 : l1_4.length ≤ c1_4) (hr1_6 : Kd.C k47 w A1_6 l1_6.length l1_6) (hc1_6 : l1_6.length ≤ c1_6) (hr1_7 : Kd.C (Kd.int .i64) w A1_7 l1_7.length l1_7) (hc1_7 : l1_7.length ≤ c1_7) (hr1_8 : Kd.C (Kd.int .i64) w A1_8 l1_8.length l1_8) (hc1_8 : l1_8.length ≤ c1_8) (h : impl_ChangedGames.f k l0_0 a0_1 a0_2 a0_3 l0_4 a0_5 l0_6 l0_7 l0_8 l1_0 a1_1 a1_2 a1_3 l1_4 a1_5 l1_6 l1_7 l1_8 = some r) :
    Calls Try.prog 34 #[.agg #[.slice A0_0 l0_0.length c0_0, .int .i64 a0_1, .int .i64 a0_2, .int .i64 a0_3, .slice A0_4 l0_4.length c0_4, .bool a0_5, .slice A0_6 l0_6.length c0_6, .slice A0_7 l0_7.length c0_7, .slice A0_8 l0_8.length c0_8], .agg #[.slice A1_0 l1_0.length c1_0, .int .i64 a1_1, .int .i64 a1_2, .int .i64 a1_3, .slice A1_4 l1_4.length c1_4, .bool a1_5, .slice A1_6 l1_6.length c1_6, .slice A1_7 l1_7.length c1_7, .slice A1_8 l1_8.length c1_8]] w fun e w' => ∃ v0_ : Value, e = .returned (v0_) ∧ Kd.R (Kd.int .i64) 3 w' w.heap.size (fun _ => True) v0_ r ∧ Below w.heap.size w w' := by
  have hu65 := Try.underlying65
  have HR0_0 := Aside0.mk hr0_0
  have HC0_0 := Aside0.mk hc0_0
  clear hr0_0 hc0_0
  have HR0_4 := Aside0.mk hr0_4
  have HC0_4 := Aside0.mk hc0_4
  clear hr0_4 hc0_4
  have HR0_6 := Aside0.mk hr0_6
  have HC0_6 := Aside0.mk hc0_6
  clear hr0_6 hc0_6
  have HR0_7 := Aside0.mk hr0_7
  have HC0_7 := Aside0.mk hc0_7
  clear hr0_7 hc0_7
  have HR0_8 := Aside0.mk hr0_8
  have HC0_8 := Aside0.mk hc0_8
  clear hr0_8 hc0_8
  have HR1_0 := Aside0.mk hr1_0
  have HC1_0 := Aside0.mk hc1_0
  clear hr1_0 hc1_0
  have HR1_4 := Aside0.mk hr1_4
  have HC1_4 := Aside0.mk hc1_4
  clear hr1_4 hc1_4
  have HR1_6 := Aside0.mk hr1_6
  have HC1_6 := Aside0.mk hc1_6
  clear hr1_6 hc1_6
  have HR1_7 := Aside0.mk hr1_7
  have HC1_7 := Aside0.mk hc1_7
  clear hr1_7 hc1_7
  have HR1_8 := Aside0.mk hr1_8
  have HC1_8 := Aside0.mk hc1_8
  clear hr1_8 hc1_8
  have HB := Aside0.mk (Below.refl w.heap.size w)
  have H : ((impl_upTo.f k (mn (l0_6.length : Int) (l1_6.length : Int))).bind fun t215 => ((slices_DeleteFunc_int_int_impl_ChangedGames_1.f k t215 l0_0 a0_1 a0_2 a0_3 l0_4 a0_5 l0_6 l0_7 l0_8 l1_0 a1_1 a1_2 a1_3 l1_4 a1_5 l1_6 l1_7 l1_8).bind fun t218 => (some t218))) = some r := h
  clear h
  obtain ⟨ji3, hji3⟩ : ∃ j_ : Int, (mn (l0_6.length : Int) (l1_6.length : Int)) = j_ := ⟨_, rfl⟩
  replace H : ((impl_upTo.f k (ji3)).bind fun t215 => ((slices_DeleteFunc_int_int_impl_ChangedGames_1.f k t215 l0_0 a0_1 a0_2 a0_3 l0_4 a0_5 l0_6 l0_7 l0_8 l1_0 a1_1 a1_2 a1_3 l1_4 a1_5 l1_6 l1_7 l1_8).bind fun t218 => (some t218))) = some r := by first | (rw [hji3] at H; exact H) | (simp only [hji3] at H ⊢; exact H)
  (try (have hji3l : 0 ≤ ji3 := by (rw [← hji3]; unfold mn; (repeat' split) <;> omega)))
  (try (have hji3m : 0 ≤ ji3 := by omega))
  have hji3_ : (if (l1_6.length : Int) < (l0_6.length : Int) then (l1_6.length : Int) else (l0_6.length : Int)) = ji3 := hji3
  (try have hji3n : (if l1_6.length < l0_6.length then (l1_6.length : Int) else (l0_6.length : Int)) = ji3 := by simpa only [Int.ofNat_lt] using hji3_)
  replace H := Option.bind_eq_some_iff.mp H
  obtain ⟨t215, A40, H⟩ := H
  replace H : ((slices_DeleteFunc_int_int_impl_ChangedGames_1.f k t215 l0_0 a0_1 a0_2 a0_3 l0_4 a0_5 l0_6 l0_7 l0_8 l1_0 a1_1 a1_2 a1_3 l1_4 a1_5 l1_6 l1_7 l1_8).bind fun t218 => (some t218)) = some r := H
  have A4 := Aside0.mk A40
  clear A40
  replace H := Option.bind_eq_some_iff.mp H
  obtain ⟨t218, A50, H⟩ := H
  replace H : (some t218) = some r := H
  have A5 := Aside0.mk A50
  clear A50
  obtain rfl := Option.some.inj H
  go_enter Try.func34, Try.ntmps34
  go_wp2_with (first | ((with_reducible refine gate_dst (N := 2) rfl ?_); refine box_event ?hg (N := 2) ?hd (cs := #[.slice A0_0 l0_0.length c0_0, .int .i64 a0_1, .int .i64 a0_2, .int .i64 a0_3, .slice A0_4 l0_4.length c0_4, .bool a0_5, .slice A0_6 l0_6.length c0_6, .slice A0_7 l0_7.length c0_7, .slice A0_8 l0_8.length c0_8]) (t := 65) ?hr ?_; (case hd => rfl); (case hg => rfl); (case hr => first | (go_simp; done) | (go_simp; rfl)); intro gb213 hg w6 hbox hb; have BK213 := Aside0.mk (hbox); have GW213 := Aside0.mk ((bsz hg : w.heap.size ≤ gb213)); have GE213 := Aside0.mk ((bsz hg : w.heap.size ≤ gb213)); replace HB := Aside0.mk (below_step bel hb); clear hb hbox hg) | ((with_reducible refine gate_dst (N := 3) rfl ?_); refine box_event ?hg (N := 3) ?hd (cs := #[.slice A1_0 l1_0.length c1_0, .int .i64 a1_1, .int .i64 a1_2, .int .i64 a1_3, .slice A1_4 l1_4.length c1_4, .bool a1_5, .slice A1_6 l1_6.length c1_6, .slice A1_7 l1_7.length c1_7, .slice A1_8 l1_8.length c1_8]) (t := 65) ?hr ?_; (case hd => rfl); (case hg => rfl); (case hr => first | (go_simp; done) | (go_simp; rfl)); intro gb214 hg w7 hbox hb; have BK214 := Aside0.mk (hbox); have GW214 := Aside0.mk ((bsz hg : w.heap.size ≤ gb214)); have GE214 := Aside0.mk ((bsz hg : w.heap.size ≤ gb214)); have NB213_214 := Aside0.mk ((nlt hg BK213.out : gb213 ≠ gb214)); have NB214_213 := Aside0.mk ((ngt hg BK213.out : gb214 ≠ gb213)); replace BK213 := Aside0.mk (bb BK213.out hb); replace HB := Aside0.mk (below_step bel hb); clear hb hbox hg; have hnb8 := NB213_214.out; have hnc8 := NB214_213.out; obtain ⟨hcz9_0, hcz9_1, hcz9_2, hcz9_3, hcz9_4, hcz9_5, hcz9_6, hcz9_7, hcz9_8, hfz9_0, hfz9_1, hfz9_2, hfz9_3, hfz9_4, hfz9_5, hfz9_6, hfz9_7, hfz9_8⟩ := cf9 BK213.out; obtain ⟨hcz10_0, hcz10_1, hcz10_2, hcz10_3, hcz10_4, hcz10_5, hcz10_6, hcz10_7, hcz10_8, hfz10_0, hfz10_1, hfz10_2, hfz10_3, hfz10_4, hfz10_5, hfz10_6, hfz10_7, hfz10_8⟩ := cf9 BK214.out) | ((with_reducible refine gate_callee (f := 44) rfl ?_); refine goesL_ (some 12) rfl rfl Try.func44 (by kernel_rfl) rfl #[.int .i64 ji3] rfl (by (try simp only [List.map_toArray, List.map_cons, List.map_nil]); first | done | (simp only [hji3]; rfl) | rfl | (simp only [List.length_drop, List.length_take]; rfl)) ?_; (with_reducible refine (impl_upTo.calls k ji3 t215 _ A4.out).mono ?_); rintro e w11 ⟨v216, rfl, ho0, hb⟩; refine ⟨_, rfl, ?_⟩; have HO217 := Aside0.mk (Kd.R_lower ho0 (below_size bel)); replace BK213 := Aside0.mk (bb BK213.out hb); replace BK214 := Aside0.mk (bb BK214.out hb); replace HB := Aside0.mk (below_step bel hb); (try clear hb); (try clear ho0); obtain ⟨Ao12, co12, eo12⟩ := Kd.R_slice HO217.out; subst eo12) | ((with_reducible refine gate_callee (f := 43) rfl ?_); refine goesL_ (some 14) rfl rfl Try.func43 (by kernel_rfl) rfl #[.slice Ao12 t215.length co12, .func (.func 56) #[] #[.pointer (some ⟨gb213, 0, none⟩), .pointer (some ⟨gb214, 0, none⟩)]] rfl ga ?_; (with_reducible refine (slices_DeleteFunc_int_int_impl_ChangedGames_1.calls k (fun k_ => some k_ = (.slice Ao12 t215.length co12 : Value).ownBlock) (.slice Ao12 t215.length co12) t215 gb213 A0_0 c0_0 l0_0 a0_1 a0_2 a0_3 A0_4 c0_4 l0_4 a0_5 A0_6 c0_6 l0_6 A0_7 c0_7 l0_7 A0_8 c0_8 l0_8 gb214 A1_0 c1_0 l1_0 a1_1 a1_2 a1_3 A1_4 c1_4 l1_4 a1_5 A1_6 c1_6 l1_6 A1_7 c1_7 l1_7 A1_8 c1_8 l1_8 t218 w _ ?side1 ?side2 ?side3 ?side4 ?side5 ?side6 ?side7 ?side8 ?side9 ?side10 ?side11 ?side12 ?side13 ?side14 ?side15 ?side16 ?side17 ?side18 ?side19 ?side20 ?side21 ?side22 ?side23 ?side24 ?side25 ?side26 A5.out).mono ?_); (case side1 => exact bel); (case side2 => exact Kd.R_tight rfl HO217.out); (case side3 => exact Kd.C_kept_came k78_heap HR0_0.out bel (fun k_ hs_ => (fun e_ => Kd.R_base HO217.out k_ e_.symm) hs_)); (case side4 => exact HC0_0.out); (case side5 => exact Kd.C_kept_came (Kd.heap_int .i64) HR0_4.out bel (fun k_ hs_ => (fun e_ => Kd.R_base HO217.out k_ e_.symm) hs_)); (case side6 => exact HC0_4.out); (case side7 => exact Kd.C_kept_came k47_heap HR0_6.out bel (fun k_ hs_ => (fun e_ => Kd.R_base HO217.out k_ e_.symm) hs_)); (case side8 => exact HC0_6.out); (case side9 => exact Kd.C_kept_came (Kd.heap_int .i64) HR0_7.out bel (fun k_ hs_ => (fun e_ => Kd.R_base HO217.out k_ e_.symm) hs_)); (case side10 => exact HC0_7.out); (case side11 => exact Kd.C_kept_came (Kd.heap_int .i64) HR0_8.out bel (fun k_ hs_ => (fun e_ => Kd.R_base HO217.out k_ e_.symm) hs_)); (case side12 => exact HC0_8.out); (case side13 => exact Kd.C_kept_came k78_heap HR1_0.out bel (fun k_ hs_ => (fun e_ => Kd.R_base HO217.out k_ e_.symm) hs_)); (case side14 => exact HC1_0.out); (case side15 => exact Kd.C_kept_came (Kd.heap_int .i64) HR1_4.out bel (fun k_ hs_ => (fun e_ => Kd.R_base HO217.out k_ e_.symm) hs_)); (case side16 => exact HC1_4.out); (case side17 => exact Kd.C_kept_came k47_heap HR1_6.out bel (fun k_ hs_ => (fun e_ => Kd.R_base HO217.out k_ e_.symm) hs_)); (case side18 => exact HC1_6.out); (case side19 => exact Kd.C_kept_came (Kd.heap_int .i64) HR1_7.out bel (fun k_ hs_ => (fun e_ => Kd.R_base HO217.out k_ e_.symm) hs_)); (case side20 => exact HC1_7.out); (case side21 => exact Kd.C_kept_came (Kd.heap_int .i64) HR1_8.out bel (fun k_ hs_ => (fun e_ => Kd.R_base HO217.out k_ e_.symm) hs_)); (case side22 => exact HC1_8.out); (case side23 => exact (bk BK213.out)); (case side24 => exact (bk BK214.out)); (case side25 => exact (fun hs_ => (fun e_ => (Kd.R_ne HO217.out BK213.out (by decide)) e_) hs_)); (case side26 => exact (fun hs_ => (fun e_ => (Kd.R_ne HO217.out BK214.out (by decide)) e_) hs_)); rintro e w13 ⟨v219, rfl, ho0, hb, hkp⟩; refine ⟨_, rfl, ?_⟩; have n0_ := Aside0.mk (blk_kept (bk BK213.out) hkp (fun hs_ => (fun e_ => (Kd.R_ne HO217.out BK213.out (by decide)) e_) hs_)); have n1_ := Aside0.mk (blk_kept (bk BK214.out) hkp (fun hs_ => (fun e_ => (Kd.R_ne HO217.out BK214.out (by decide)) e_) hs_)); have n2_ := Aside0.mk (Kd.R_mono (ok' := fun k_ => True) ho0 (fun k_ hk_ => trivial)); have n3_ := Aside0.mk (hb); clear BK213; clear BK214; clear HB; clear HO217; have BK213 := n0_; have BK214 := n1_; have HO220 := n2_; have HB := n3_; clear n0_ n1_ n2_ n3_; (try clear hb); (try clear hkp); (try clear ho0)))
  go_ret
  exact ⟨_, by first | rfl | (simp [errW_none, errW_some] <;> rfl) | (simp only [← hji3]; first | rfl | (simp [errW_none, errW_some] <;> rfl)) | (simp [*, errW_none, errW_some] <;> rfl), rk HO220.out, bel⟩

end Go.Proofs.Ytmpealaejigbfaa.X
