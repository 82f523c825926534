-- Written by a program of this session (wip/xp.py, over the kit's print) out of the translation: functions, and the walks that show them.
import Derived.Lib.SliceRun
import Derived.Test.YtgalpgakdcfilaaX0
import Derived.Test.YtgalpgakdcfilaaX30
import Derived.Test.YtgalpgakdcfilaaX39
import Derived.Test.YtgalpgakdcfilaaX40
namespace Go.Proofs.Ytgalpgakdcfilaa.X
open Go.RowKit Go.Proofs.YtgalpgakdcfilaaW.PrintWords Go.Proofs.YtgalpgakdcfilaaW.PrintLast Go.Proofs.YtgalpgakdcfilaaW.PrintMore
attribute [local go_sem] max2_int min2_int max_two min_two max_three min_three max_four min_four   -- for this text's walks alone
set_option linter.unusedVariables false
set_option linter.unusedSimpArgs false

/-! ### impl_ActiveTeams_1: function 69 -/
def impl_ActiveTeams_1.f (k : Nat) (a0 : Int) (l1_0 : List (S101)) (a1_1 : Int) (a1_2 : Int) (a1_3 : Int) (l1_4 : List Int) (a1_5 : Bool) (l1_6 : List (S71)) (l1_7 : List Int) (l1_8 : List Int) : Option (Bool) := (impl_HasWithdrawn.f k l1_0 a1_1 a1_2 a1_3 l1_4 a1_5 l1_6 l1_7 l1_8 a0).bind fun t530 => (some t530)
theorem impl_ActiveTeams_1.mono : ∀ a0 a1 a2 a3 a4 a5 a6 a7 a8 a9 k, LeO (impl_ActiveTeams_1.f k a0 a1 a2 a3 a4 a5 a6 a7 a8 a9) (impl_ActiveTeams_1.f (k + 1) a0 a1 a2 a3 a4 a5 a6 a7 a8 a9) := by
  intro a0 a1 a2 a3 a4 a5 a6 a7 a8 a9 k
  unfold impl_ActiveTeams_1.f
  repeat' first
      | (with_reducible exact impl_HasWithdrawn.mono _ _ _ _ _ _ _ _ _ _ _)
      | (with_reducible exact LeO.refl _)
      | (with_reducible exact LeO.none _)
      | (with_reducible refine LeO.ite ?_ ?_)
      | (with_reducible refine LeO.bind ?_ (fun _ => ?_))
      | exact impl_HasWithdrawn.mono _ _ _ _ _ _ _ _ _ _ _
      | exact LeO.none _
      | refine LeO.ite ?_ ?_
      | refine LeO.bind ?_ (fun _ => ?_)
set_option maxHeartbeats 8000000 in
set_option maxRecDepth 100000 in
theorem impl_ActiveTeams_1.calls (k : Nat) (a0 : Int) (gb529 : Nat) (A1_0 : Option Addr) (c1_0 : Nat) (l1_0 : List (S101)) (a1_1 : Int) (a1_2 : Int) (a1_3 : Int) (A1_4 : Option Addr) (c1_4 : Nat) (l1_4 : List Int) (a1_5 : Bool) (A1_6 : Option Addr) (c1_6 : Nat) (l1_6 : List (S71)) (A1_7 : Option Addr) (c1_7 : Nat) (l1_7 : List Int) (A1_8 : Option Addr) (c1_8 : Nat) (l1_8 : List Int) (r : Bool) (w : World) (hr1_0 : Kd.C k101 w A1_0 l1_0.length l1_0) (hc1_0 : l1_0.length ≤ c1_0) (hr1_4 : Kd.C (Kd.int .i64) w A1_4 l1_4.length l1_4) (hc1_4 : l1_4.length ≤ c1_4) (hr1_6 : Kd.C k71 w A1_6 l1_6.length l1_6) (hc1_6 : l1_6.length ≤ c1_6) (hr1_7 : Kd.C (Kd.int .i64) w A1_7 l1_7.length l1_7) (hc1_7 : l1_7.length ≤ c1_7) (hr1_8 : Kd.C (Kd.int .i64) w A1_8 l1_8.length l1_8) (hc1_8 : l1_8.length ≤ c1_8) (hbk529 : w.heap[gb529]? = some (.cells #[.slice A1_0 l1_0.length c1_0, .int .i64 a1_1, .int .i64 a1_2, .int .i64 a1_3, .slice A1_4 l1_4.length c1_4, .bool a1_5, .slice A1_6 l1_6.length c1_6, .slice A1_7 l1_7.length c1_7, .slice A1_8 l1_8.length c1_8] 37 (0, 0))) (h : impl_ActiveTeams_1.f k a0 l1_0 a1_1 a1_2 a1_3 l1_4 a1_5 l1_6 l1_7 l1_8 = some r) :
    Calls Try.prog 69 #[.int .i64 a0, .pointer (some ⟨gb529, 0, none⟩)] w fun e w' => e = .returned (.bool r) ∧ Below w.heap.size w w' := by
  have hu37 := Try.underlying37
  have HR1_0 := Aside0.mk hr1_0
  have HC1_0 := Aside0.mk hc1_0
  clear hr1_0 hc1_0
  have HR1_4 := Aside0.mk hr1_4
  have HC1_4 := Aside0.mk hc1_4
  clear hr1_4 hc1_4
  have HR1_6 := Aside0.mk hr1_6
  have HC1_6 := Aside0.mk hc1_6
  clear hr1_6 hc1_6
  have HR1_7 := Aside0.mk hr1_7
  have HC1_7 := Aside0.mk hc1_7
  clear hr1_7 hc1_7
  have HR1_8 := Aside0.mk hr1_8
  have HC1_8 := Aside0.mk hc1_8
  clear hr1_8 hc1_8
  have BK529 := Aside0.mk hbk529
  clear hbk529
  have HB := Aside0.mk (Below.refl w.heap.size w)
  have H : ((impl_HasWithdrawn.f k l1_0 a1_1 a1_2 a1_3 l1_4 a1_5 l1_6 l1_7 l1_8 a0).bind fun t530 => (some t530)) = some r := h
  clear h
  replace H := Option.bind_eq_some_iff.mp H
  obtain ⟨t530, A30, H⟩ := H
  replace H : (some t530) = some r := H
  have A3 := Aside0.mk A30
  clear A30
  obtain rfl := Option.some.inj H
  obtain ⟨hcz4_0, hcz4_1, hcz4_2, hcz4_3, hcz4_4, hcz4_5, hcz4_6, hcz4_7, hcz4_8, hfz4_0, hfz4_1, hfz4_2, hfz4_3, hfz4_4, hfz4_5, hfz4_6, hfz4_7, hfz4_8⟩ := cf9 BK529.out
  go_enter Try.func69, Try.ntmps69
  go_wp2_with (first | ((with_reducible refine gate_callee (f := 20) rfl ?_); refine goesL_ (some 6) rfl rfl Try.func20 (by kernel_rfl) rfl #[.agg #[.slice A1_0 l1_0.length c1_0, .int .i64 a1_1, .int .i64 a1_2, .int .i64 a1_3, .slice A1_4 l1_4.length c1_4, .bool a1_5, .slice A1_6 l1_6.length c1_6, .slice A1_7 l1_7.length c1_7, .slice A1_8 l1_8.length c1_8], .int .i64 a0] rfl ga ?_; (with_reducible refine (impl_HasWithdrawn.calls k _ _ l1_0 a1_1 a1_2 a1_3 _ _ l1_4 a1_5 _ _ l1_6 _ _ l1_7 _ _ l1_8 a0 t530 _ ?side1 ?side2 ?side3 ?side4 ?side5 ?side6 ?side7 ?side8 ?side9 ?side10 A3.out).mono ?_); (case side1 => exact ck HR1_0.out); (case side2 => exact HC1_0.out); (case side3 => exact ck HR1_4.out); (case side4 => exact HC1_4.out); (case side5 => exact ck HR1_6.out); (case side6 => exact HC1_6.out); (case side7 => exact ck HR1_7.out); (case side8 => exact HC1_7.out); (case side9 => exact ck HR1_8.out); (case side10 => exact HC1_8.out); rintro e w5 ⟨rfl, hb⟩; refine ⟨_, rfl, ?_⟩; replace BK529 := Aside0.mk (bb BK529.out hb); replace HB := Aside0.mk (below_step bel hb); (try clear hb)))
  go_ret
  exact ⟨er, bel⟩
/-! ### slices_DeleteFunc_int_int_impl_ActiveTeams_1: slices.DeleteFunc (function 67) with the closure 69 (this session's own text) -/
def slices_DeleteFunc_int_int_impl_ActiveTeams_1.ix (p : Nat → Int → Option Bool) : Nat → List Int → Nat → Option Int
  | 0, _, _ => none
  | k + 1, xs, i => if i < xs.length then ((p k (xs.getD i 0)).bind fun b => (if b = true then (some (i : Int)) else (slices_DeleteFunc_int_int_impl_ActiveTeams_1.ix p k xs (i + 1)))) else (some (-1))
def slices_DeleteFunc_int_int_impl_ActiveTeams_1.dl (p : Nat → Int → Option Bool) : Nat → List Int → Nat → Nat → Option (List Int)
  | 0, _, _, _ => none
  | k + 1, xs, i, j => if j < xs.length then ((p k (xs.getD j 0)).bind fun b => (if b = true then (slices_DeleteFunc_int_int_impl_ActiveTeams_1.dl p k xs i (j + 1)) else (if i < xs.length then (slices_DeleteFunc_int_int_impl_ActiveTeams_1.dl p k (xs.set i (xs.getD j 0)) (i + 1) (j + 1)) else (none)))) else (if i < xs.length then (some (xs.take i)) else (none))
def slices_DeleteFunc_int_int_impl_ActiveTeams_1.del (p : Nat → Int → Option Bool) (k : Nat) (xs : List Int) : Option (List Int) := (slices_DeleteFunc_int_int_impl_ActiveTeams_1.ix p k xs 0).bind fun t => (if t = -1 then (some xs) else (if 0 ≤ t then (slices_DeleteFunc_int_int_impl_ActiveTeams_1.dl p k xs t.toNat (t.toNat + 1)) else (none)))
theorem slices_DeleteFunc_int_int_impl_ActiveTeams_1.ix_mono {p : Nat → Int → Option Bool} (hp : ∀ k x, LeO (p k x) (p (k + 1) x)) : ∀ k xs i, LeO (slices_DeleteFunc_int_int_impl_ActiveTeams_1.ix p k xs i) (slices_DeleteFunc_int_int_impl_ActiveTeams_1.ix p (k + 1) xs i)
  | 0, _, _ => fun r h => by simp [slices_DeleteFunc_int_int_impl_ActiveTeams_1.ix] at h
  | k + 1, xs, i => by
    have ih := slices_DeleteFunc_int_int_impl_ActiveTeams_1.ix_mono hp k
    unfold slices_DeleteFunc_int_int_impl_ActiveTeams_1.ix
    exact LeO.ite (LeO.bind (hp _ _) (fun _ => LeO.ite (LeO.refl _) (ih _ _))) (LeO.refl _)
theorem slices_DeleteFunc_int_int_impl_ActiveTeams_1.dl_mono {p : Nat → Int → Option Bool} (hp : ∀ k x, LeO (p k x) (p (k + 1) x)) : ∀ k xs i j, LeO (slices_DeleteFunc_int_int_impl_ActiveTeams_1.dl p k xs i j) (slices_DeleteFunc_int_int_impl_ActiveTeams_1.dl p (k + 1) xs i j)
  | 0, _, _, _ => fun r h => by simp [slices_DeleteFunc_int_int_impl_ActiveTeams_1.dl] at h
  | k + 1, xs, i, j => by
    have ih := slices_DeleteFunc_int_int_impl_ActiveTeams_1.dl_mono hp k
    unfold slices_DeleteFunc_int_int_impl_ActiveTeams_1.dl
    exact LeO.ite (LeO.bind (hp _ _) (fun _ => LeO.ite (ih _ _ _) (LeO.ite (ih _ _ _) (LeO.refl _)))) (LeO.ite (LeO.refl _) (LeO.refl _))
theorem slices_DeleteFunc_int_int_impl_ActiveTeams_1.del_mono {p : Nat → Int → Option Bool} (hp : ∀ k x, LeO (p k x) (p (k + 1) x)) (k : Nat) (xs : List Int) : LeO (slices_DeleteFunc_int_int_impl_ActiveTeams_1.del p k xs) (slices_DeleteFunc_int_int_impl_ActiveTeams_1.del p (k + 1) xs) := by
  unfold slices_DeleteFunc_int_int_impl_ActiveTeams_1.del
  exact LeO.bind (slices_DeleteFunc_int_int_impl_ActiveTeams_1.ix_mono hp _ _ _) (fun _ => LeO.ite (LeO.refl _) (LeO.ite (slices_DeleteFunc_int_int_impl_ActiveTeams_1.dl_mono hp _ _ _ _) (LeO.refl _)))
theorem slices_DeleteFunc_int_int_impl_ActiveTeams_1.puts {base g n cap : Nat} {ok : Nat → Prop} : ∀ (m : Nat) (W : World) (xs : List Int) (i : Nat), (Kd.int .i64).R 3 W base ok (.slice (some ⟨g, 0, none⟩) n cap) xs → i + m ≤ n →
    ∃ ys : List Int, (Kd.int .i64).R 3 (W.setCells g i (List.replicate m (.int .i64 0))) base ok (.slice (some ⟨g, 0, none⟩) n cap) ys ∧ ys.take i = xs.take i ∧ ys.length = xs.length ∧ W.grownBy (W.setCells g i (List.replicate m (.int .i64 0))) (some g) ∧ ∀ (w0 : World), Below w0.heap.size w0 W → w0.heap.size ≤ g → Below w0.heap.size w0 (W.setCells g i (List.replicate m (.int .i64 0)))
  | 0, W, xs, i, h, hi => ⟨xs, h, rfl, rfl, World.grownBy.refl _ _, fun _ hb _ => hb⟩
  | m + 1, W, xs, i, h, hi => by
    have h1 := Kd.R_putg h (i : Int) 0
    rw [Int.toNat_natCast] at h1
    obtain ⟨ys, h2, h3, h4, h5, h6⟩ := slices_DeleteFunc_int_int_impl_ActiveTeams_1.puts m (W.setCell ⟨g, i, none⟩ (.int .i64 0)) (xs.set i 0) (i + 1) h1.1 (by omega)
    refine ⟨ys, h2, ?_, by rw [h4]; simp, h1.2.andThen h5 (fun j hj => .inr hj), fun w0 hb hg => h6 w0 (below_set hb hg) hg⟩
    have := congrArg (List.take i) h3
    rw [List.take_take, List.take_take, Nat.min_eq_left (by omega)] at this
    rw [this, List.take_set]
    exact List.set_eq_of_length_le (by rw [List.length_take]; omega)
theorem slices_DeleteFunc_int_int_impl_ActiveTeams_1.wn {i : Nat} (h : i < 4611686018427387905) : Value.int .i64 (wrap64 ((i : Int) + 1)) = .int .i64 ((i + 1 : Nat) : Int) := by
  rw [show wrap64 ((i : Int) + 1) = ((i + 1 : Nat) : Int) by unfold wrap64; omega]
theorem slices_DeleteFunc_int_int_impl_ActiveTeams_1.ix_lt {p : Nat → Int → Option Bool} : ∀ {k : Nat} {xs : List Int} {i t : Nat}, slices_DeleteFunc_int_int_impl_ActiveTeams_1.ix p k xs i = some (t : Int) → t < xs.length
  | 0, _, _, _, h => by simp [slices_DeleteFunc_int_int_impl_ActiveTeams_1.ix] at h
  | k + 1, xs, i, t, h => by
    simp only [slices_DeleteFunc_int_int_impl_ActiveTeams_1.ix] at h
    by_cases c : i < xs.length
    · rw [if_pos c] at h
      obtain ⟨b, _, h⟩ := Option.bind_eq_some_iff.mp h
      cases b with
      | true => rw [if_pos rfl] at h; have := Option.some.inj h; omega
      | false => rw [if_neg (by decide)] at h; exact slices_DeleteFunc_int_int_impl_ActiveTeams_1.ix_lt h
    · rw [if_neg c] at h
      have := Option.some.inj h
      omega
set_option maxHeartbeats 8000000 in
set_option maxRecDepth 100000 in
theorem slices_DeleteFunc_int_int_impl_ActiveTeams_1.search (p : Nat → Int → Option Bool) (k : Nat) (gb1 : Nat) (A0 : Option Addr) (c0 : Nat) (l0 : List Int) (r : Int) (w : World) (hr0 : Kd.C (Kd.int .i64) w A0 l0.length l0) (hc0 : l0.length ≤ c0) (hb0 : l0.length ≤ 4611686018427387904)
    (hp : ∀ (k : Nat) (x : Int) (b : Bool) (W : World), p k x = some b → Below w.heap.size w W → Calls Try.prog 69 #[.int .i64 x, .pointer (some ⟨gb1, 0, none⟩)] W fun e w' => e = .returned (.bool b) ∧ Below W.heap.size W w') (h : slices_DeleteFunc_int_int_impl_ActiveTeams_1.ix p k l0 0 = some r) :
    Calls Try.prog 105 #[.slice A0 l0.length c0, .func (.func 69) #[] #[.pointer (some ⟨gb1, 0, none⟩)]] w fun e w' => e = .returned (.int .i64 r) ∧ Below w.heap.size w w' := by
  have HR0 := Aside0.mk hr0
  have HC0 := Aside0.mk hc0
  have HN := Aside0.mk hb0
  have HP := Aside0.mk hp
  clear hr0 hc0 hp hb0
  have H' := Aside0.mk h
  clear h
  have HB := Aside0.mk (Below.refl w.heap.size w)
  go_enter Try.func105, Try.ntmps105
  go_wp2
  go_loopg [8] k (fun kq v w' => ∃ (i : Nat), v = .int .i64 (i : Int) ∧ Aside0 (slices_DeleteFunc_int_int_impl_ActiveTeams_1.ix p kq l0 i = some r) ∧ Aside0 (kq ≤ k) ∧ Aside0 (Below w.heap.size w w'))
  case atStart => exact ⟨0, rfl, H', ⟨Nat.le_refl _⟩, HB⟩
  case round =>
    clear H' HB
    obtain ⟨i, rfl, HA, HK1, HB⟩ := hrel
    cases gk with
    | zero => exact absurd HA.out (by simp [slices_DeleteFunc_int_int_impl_ActiveTeams_1.ix])
    | succ k1 =>
      have H := HA.out
      clear HA
      simp only [slices_DeleteFunc_int_int_impl_ActiveTeams_1.ix] at H
      by_cases c7 : i < l0.length
      · rw [if_pos c7] at H
        have hltz : (i : Int) < (l0.length : Int) := by omega
        replace H := Option.bind_eq_some_iff.mp H
        obtain ⟨b, A30, H⟩ := H
        have HH := Aside0.mk H
        clear H
        have hcall := HP.out k1 _ _ _ A30 (bel : Below w.heap.size w wr)
        clear A30
        obtain ⟨ad1, e1, hx1_0⟩ := Kd.at_int HR0.out (i : Int) (by omega) hltz
        cases e1
        replace hx1_0 := hcl HB.out hx1_0
        rw [Int.toNat_natCast] at hx1_0
        have hv : rd l0 (i : Int) = l0.getD i 0 := by simp [rd]
        rw [hv] at hx1_0
        clear hv
        have HL := Aside0.mk c7
        clear c7
        cases b with
        | true =>
          have H := HH.out
          rw [if_pos rfl] at H
          obtain rfl := Option.some.inj H
          clear H HH
          have HQ := Aside0.mk hcall
          clear hcall
          go_wp2_with (go_at_call 69; refine HQ.out.mono ?_; rintro e w' ⟨rfl, hb⟩; replace HB := Aside0.mk (below_step bel hb); clear hb)
          go_ret
          exact ⟨er, bel⟩
        | false =>
          have H := HH.out
          rw [if_neg (by decide)] at H
          have HN2 := Aside0.mk H
          clear H HH
          have HQ := Aside0.mk hcall
          clear hcall
          go_wp2_with (go_at_call 69; refine HQ.out.mono ?_; rintro e w' ⟨rfl, hb⟩; replace HB := Aside0.mk (below_step bel hb); clear hb)
          go_roundg k1
          case measure => have := HK1.out; omega
          case rel =>
            have hN := HN.out
            have hL := HL.out
            exact ⟨i + 1, slices_DeleteFunc_int_int_impl_ActiveTeams_1.wn (by omega), HN2, ⟨by have := HK1.out; omega⟩, ⟨bel⟩⟩
      · rw [if_neg c7] at H
        have hltz : ¬ (i : Int) < (l0.length : Int) := by omega
        clear c7
        obtain rfl := Option.some.inj H
        go_wp2
        go_ret
        exact ⟨er, bel⟩
set_option maxHeartbeats 8000000 in
set_option maxRecDepth 100000 in
theorem slices_DeleteFunc_int_int_impl_ActiveTeams_1.delCalls (p : Nat → Int → Option Bool) (k : Nat) (gb1 : Nat) (P0_ : Nat → Prop) (u : Value) (l0 r : List Int) (w0 w : World) (hb0 : l0.length ≤ 4611686018427387904) (hB : Below w0.heap.size w0 w) (ho0 : Kd.R (Kd.int .i64) 3 w w0.heap.size P0_ u l0)
    (hp : ∀ (k : Nat) (x : Int) (b : Bool) (W : World), p k x = some b → Kept w W P0_ → Calls Try.prog 69 #[.int .i64 x, .pointer (some ⟨gb1, 0, none⟩)] W fun e w' => e = .returned (.bool b) ∧ Below W.heap.size W w') (h : slices_DeleteFunc_int_int_impl_ActiveTeams_1.del p k l0 = some r) :
    Calls Try.prog 67 #[u, .func (.func 69) #[] #[.pointer (some ⟨gb1, 0, none⟩)]] w fun e w' => ∃ v_ : Value, e = .returned v_ ∧ Kd.R (Kd.int .i64) 3 w' w0.heap.size P0_ v_ r ∧ Below w0.heap.size w0 w' ∧ Kept w w' P0_ := by
  obtain ⟨A0, c0, rfl⟩ := Kd.R_slice ho0
  have HN := Aside0.mk hb0
  have HP := Aside0.mk hp
  have HO := Aside0.mk ho0
  have HB := Aside0.mk hB
  have HK := Aside0.mk (Kept.refl w P0_)
  clear hp hb0 ho0 hB
  obtain ⟨t, A1, H⟩ := Option.bind_eq_some_iff.mp h
  clear h
  have A1 := Aside0.mk A1
  have HH := Aside0.mk H
  clear H
  by_cases ct : t = -1
  · subst ct
    have H := HH.out
    rw [if_pos rfl] at H
    obtain rfl := Option.some.inj H
    clear H HH
    go_enter Try.func67, Try.ntmps67
    go_wp2_with (go_at_call 105; (with_reducible refine (slices_DeleteFunc_int_int_impl_ActiveTeams_1.search p k gb1 A0 c0 l0 (-1) w ?side1 ?side2 ?side3 ?side4 A1.out).mono ?_); (case side1 => exact (Kd.R_reads' HO.out).2.2); (case side2 => exact (Kd.R_reads' HO.out).2.1); (case side3 => exact HN.out); (case side4 => exact fun k x b W hx hw => HP.out k x b W hx (Kept.of_below hw _)); rintro e w1 ⟨rfl, hb⟩; replace HO := Aside0.mk (Kd.R_below HO.out hb); replace HK := Aside0.mk (Kept.of_below hb P0_); replace HB := Aside0.mk (below_step HB.out hb); clear hb)
    go_ret
    exact ⟨_, rfl, HO.out, HB.out, HK.out⟩
  · have H := HH.out
    rw [if_neg ct] at H
    by_cases ct2 : 0 ≤ t
    · rw [if_pos ct2] at H
      obtain ⟨i0, rfl⟩ := Int.eq_ofNat_of_zero_le ct2
      rw [Int.toNat_natCast] at H
      have H' := Aside0.mk H
      clear H HH ct2
      have hne1 : ((i0 : Int) == -1) = false := beq_eq_false_iff_ne.2 ct
      have HNE := Aside0.mk ct
      clear ct
      have HI : Aside0 (i0 < l0.length) := ⟨slices_DeleteFunc_int_int_impl_ActiveTeams_1.ix_lt A1.out⟩
      have hn0 : 0 < l0.length := by have := HI.out; omega
      obtain ⟨g, cap, eo, gb0, gl, cl, HG⟩ := Kd.R_form HO.out hn0
      (first | cases eo | (injection eo with ea_ en_ ec_; (first | subst ea_ | (injection ea_ with ea_; subst ea_)); subst ec_; clear en_))
      have GB := Aside0.mk gb0
      have HMg := Aside0.mk (show P0_ g from HO.out.1 _ rfl)
      clear gb0 gl HG hn0
      obtain ⟨n, hn⟩ : ∃ n, n = l0.length := ⟨_, rfl⟩
      have HLN := Aside0.mk hn
      clear hn
      go_enter Try.func67, Try.ntmps67
      go_wp2_with (go_at_call 105; (with_reducible refine (slices_DeleteFunc_int_int_impl_ActiveTeams_1.search p k gb1 _ c0 l0 (i0 : Int) w ?side1 ?side2 ?side3 ?side4 A1.out).mono ?_); (case side1 => exact (Kd.R_reads' HO.out).2.2); (case side2 => exact (Kd.R_reads' HO.out).2.1); (case side3 => exact HN.out); (case side4 => exact fun k x b W hx hw => HP.out k x b W hx (Kept.of_below hw _)); rintro e w1 ⟨rfl, hb⟩; replace HO := Aside0.mk (Kd.R_below HO.out hb); replace HK := Aside0.mk (Kept.of_below hb P0_); replace HB := Aside0.mk (below_step HB.out hb); clear hb)
      go_loopg [5, 6, 7] k (fun kq v5 v6 _ w' => ∃ (xs : List Int) (i j : Nat), v5 = .int .i64 (i : Int) ∧ v6 = .int .i64 (j : Int) ∧ Aside0 (xs.length = l0.length) ∧ Aside0 (j ≤ l0.length) ∧ Aside0 (slices_DeleteFunc_int_int_impl_ActiveTeams_1.dl p kq xs i j = some r) ∧ Aside0 (kq ≤ k) ∧ Aside0 (Kd.R (Kd.int .i64) 3 w' w0.heap.size P0_ (.slice (some ⟨g, 0, none⟩) l0.length c0) xs) ∧ Aside0 (Kept w w' P0_) ∧ Aside0 (Below w0.heap.size w0 w'))
      case atStart => exact ⟨l0, i0, i0 + 1, rfl, slices_DeleteFunc_int_int_impl_ActiveTeams_1.wn (by have := HI.out; have := HN.out; omega), ⟨rfl⟩, ⟨HI.out⟩, H', ⟨Nat.le_refl _⟩, HO, HK, HB⟩
      case round =>
        clear H' HO HK HB A1 HI HNE hne1
        obtain ⟨xs, i, j, rfl, rfl, HX, HJ, HA, HK1, HO, HK, HB⟩ := hrel
        cases gk with
        | zero => exact absurd HA.out (by simp [slices_DeleteFunc_int_int_impl_ActiveTeams_1.dl])
        | succ k1 =>
          have H := HA.out
          clear HA
          simp only [slices_DeleteFunc_int_int_impl_ActiveTeams_1.dl] at H
          by_cases c7 : j < xs.length
          · rw [if_pos c7] at H
            have hltz : (j : Int) < (l0.length : Int) := by have := HX.out; omega
            replace H := Option.bind_eq_some_iff.mp H
            obtain ⟨b, A30, H⟩ := H
            have HH := Aside0.mk H
            clear H
            have HQ := Aside0.mk (HP.out k1 _ _ _ A30 HK.out)
            clear A30
            obtain ⟨hxj, hfj⟩ := Kd.R_celln 0 HO.out (j : Int) (by omega) hltz
            rw [Int.toNat_natCast, show rdOf 0 xs (j : Int) = xs.getD j 0 by simp [rdOf]] at hxj
            clear hfj
            have HL := Aside0.mk c7
            clear c7
            cases b with
            | true =>
              have H := HH.out
              rw [if_pos rfl] at H
              have HN2 := Aside0.mk H
              clear H HH
              go_wp2_with (go_at_call 69; refine HQ.out.mono ?_; rintro e w2 ⟨rfl, hb⟩; replace HO := Aside0.mk (Kd.R_below HO.out hb); replace HK := Aside0.mk (Kept.then_ HK.out (Kept.of_below hb (fun _ => False)) (fun _ h_ => h_.elim)); replace HB := Aside0.mk (below_step HB.out hb); clear hb)
              go_roundg k1
              case measure => have := HK1.out; omega
              case rel =>
                have hN := HN.out
                have hL := HL.out
                have hX := HX.out
                exact ⟨xs, i, j + 1, rfl, slices_DeleteFunc_int_int_impl_ActiveTeams_1.wn (by omega), HX, ⟨by omega⟩, HN2, ⟨by have := HK1.out; omega⟩, HO, HK, HB⟩
            | false =>
              have H := HH.out
              rw [if_neg (by decide)] at H
              by_cases c8 : i < xs.length
              · rw [if_pos c8] at H
                have HN2 := Aside0.mk H
                clear H HH
                have hlti : (i : Int) < (l0.length : Int) := by have := HX.out; omega
                have HLI := Aside0.mk c8
                clear c8
                go_wp2_with (go_at_call 69; refine HQ.out.mono ?_; rintro e w2 ⟨rfl, hb⟩; replace HO := Aside0.mk (Kd.R_below HO.out hb); replace HK := Aside0.mk (Kept.then_ HK.out (Kept.of_below hb (fun _ => False)) (fun _ h_ => h_.elim)); replace HB := Aside0.mk (below_step HB.out hb); clear hb; obtain ⟨hxi, hfi⟩ := Kd.R_celln 0 HO.out (i : Int) (by omega) hlti; rw [Int.toNat_natCast] at hxi hfi)
                go_roundg k1
                case measure => have := HK1.out; omega
                case rel =>
                  have hN := HN.out
                  have hL := HL.out
                  have hI := HLI.out
                  have hX := HX.out
                  have hP := Kd.R_putg HO.out (i : Int) (xs.getD j 0)
                  rw [Int.toNat_natCast] at hP
                  exact ⟨xs.set i (xs.getD j 0), i + 1, j + 1, slices_DeleteFunc_int_int_impl_ActiveTeams_1.wn (by omega), slices_DeleteFunc_int_int_impl_ActiveTeams_1.wn (by omega), ⟨by simpa using hX⟩, ⟨by omega⟩, HN2, ⟨by have := HK1.out; omega⟩, ⟨hP.1⟩, ⟨Kept.of_grown hP.2 HK.out (fun k_ e_ => by injection e_ with e_; subst e_; exact .inl HMg.out)⟩, ⟨below_set HB.out GB.out⟩⟩
              · rw [if_neg c8] at H
                exact absurd H (by simp)
          · rw [if_neg c7] at H
            have hltz : ¬ (j : Int) < (l0.length : Int) := by have := HX.out; omega
            clear c7
            by_cases c8 : i < xs.length
            · rw [if_pos c8] at H
              obtain rfl := Option.some.inj H
              clear H
              have hil : i < l0.length := by have := HX.out; omega
              obtain ⟨ys, hy1, hy2, hy3, hy4, hy5⟩ := slices_DeleteFunc_int_int_impl_ActiveTeams_1.puts (l0.length - i) wr xs i HO.out (by omega)
              have hclr : ∀ ty, (Builtin.clear_ #[23] ty #[.slice (some ⟨g, i, none⟩) (l0.length - i) (c0 - i)]).run Try.prog wr = .ok (.tuple #[]) (wr.setCells g i (List.replicate (l0.length - i) (.int .i64 0))) :=
                fun ty => Lib.run_clear_slice wr _ _ ty _ Try.underlying23 (fun w => by rfl) rfl rfl g i _ _ (by omega) (fun t ht => by have q := (Kd.R_celln 0 HO.out ((i + t : Nat) : Int) (by omega) (by omega)).1; rw [Int.toNat_natCast] at q; rw [q]; rfl) (fun t ht => by have q := (Kd.R_celln 0 HO.out ((i + t : Nat) : Int) (by omega) (by omega)).2; rw [Int.toNat_natCast] at q; exact q)
              have HY := Aside0.mk (Kd.R_take (m := i) hy1 (by rw [hy3]; exact Nat.le_of_lt c8))
              have HT := Aside0.mk hy2
              have HGR := Aside0.mk hy4
              have HBL := Aside0.mk (hy5 w0 HB.out GB.out)
              have hcc := Aside0.mk (Kd.R_reads' HO.out).2.1
              clear hy1 hy2 hy3 hy4 hy5
              have hic : i ≤ c0 := by have := hcc.out; omega
              have hlc : l0.length ≤ c0 := hcc.out
              clear c8
              go_wp2
              go_ret
              rw [HT.out] at HY
              exact ⟨_, rfl, by simpa using HY.out, HBL.out, Kept.of_grown (S := P0_) HGR.out HK.out (fun k_ e_ => by injection e_ with e_; subst e_; exact .inl HMg.out)⟩
            · rw [if_neg c8] at H
              exact absurd H (by simp)
    · rw [if_neg ct2] at H
      exact absurd H (by simp)
def slices_DeleteFunc_int_int_impl_ActiveTeams_1.f (k : Nat) (l0 : List Int) (l1_0 : List (S101)) (a1_1 : Int) (a1_2 : Int) (a1_3 : Int) (l1_4 : List Int) (a1_5 : Bool) (l1_6 : List (S71)) (l1_7 : List Int) (l1_8 : List Int) : Option (List Int) := if l0.length ≤ 4611686018427387904 then (slices_DeleteFunc_int_int_impl_ActiveTeams_1.del (fun k_ x_ => impl_ActiveTeams_1.f k_ x_ l1_0 a1_1 a1_2 a1_3 l1_4 a1_5 l1_6 l1_7 l1_8) k l0) else (none)
theorem slices_DeleteFunc_int_int_impl_ActiveTeams_1.mono : ∀ y0 y1 y2 y3 y4 y5 y6 y7 y8 y9 k, LeO (slices_DeleteFunc_int_int_impl_ActiveTeams_1.f k y0 y1 y2 y3 y4 y5 y6 y7 y8 y9) (slices_DeleteFunc_int_int_impl_ActiveTeams_1.f (k + 1) y0 y1 y2 y3 y4 y5 y6 y7 y8 y9) := by
  intros
  unfold slices_DeleteFunc_int_int_impl_ActiveTeams_1.f
  exact LeO.ite (slices_DeleteFunc_int_int_impl_ActiveTeams_1.del_mono (fun _ _ => impl_ActiveTeams_1.mono _ _ _ _ _ _ _ _ _ _ _) _ _) (LeO.refl _)
set_option maxHeartbeats 8000000 in
set_option maxRecDepth 100000 in
theorem slices_DeleteFunc_int_int_impl_ActiveTeams_1.calls (k : Nat) (P0_ : Nat → Prop) (u9000_ : Value) (l0 : List Int) (gb1 : Nat) (A1_0 : Option Addr) (c1_0 : Nat) (l1_0 : List (S101)) (a1_1 : Int) (a1_2 : Int) (a1_3 : Int) (A1_4 : Option Addr) (c1_4 : Nat) (l1_4 : List Int) (a1_5 : Bool) (A1_6 : Option Addr) (c1_6 : Nat) (l1_6 : List (S71)) (A1_7 : Option Addr) (c1_7 : Nat) (l1_7 : List Int) (A1_8 : Option Addr) (c1_8 : Nat) (l1_8 : List Int) (r : List Int) (w0 w : World) (hB : Below w0.heap.size w0 w) (ho0 : Kd.R (Kd.int .i64) 3 w w0.heap.size P0_ u9000_ l0) (hr1_0 : ∀ W_, Kept w W_ (fun k_ => P0_ k_) → Kd.C k101 W_ A1_0 l1_0.length l1_0) (hc1_0 : l1_0.length ≤ c1_0) (hr1_4 : ∀ W_, Kept w W_ (fun k_ => P0_ k_) → Kd.C (Kd.int .i64) W_ A1_4 l1_4.length l1_4) (hc1_4 : l1_4.length ≤ c1_4) (hr1_6 : ∀ W_, Kept w W_ (fun k_ => P0_ k_) → Kd.C k71 W_ A1_6 l1_6.length l1_6) (hc1_6 : l1_6.length ≤ c1_6) (hr1_7 : ∀ W_, Kept w W_ (fun k_ => P0_ k_) → Kd.C (Kd.int .i64) W_ A1_7 l1_7.length l1_7) (hc1_7 : l1_7.length ≤ c1_7) (hr1_8 : ∀ W_, Kept w W_ (fun k_ => P0_ k_) → Kd.C (Kd.int .i64) W_ A1_8 l1_8.length l1_8) (hc1_8 : l1_8.length ≤ c1_8) (hbk1 : w.heap[gb1]? = some (.cells #[.slice A1_0 l1_0.length c1_0, .int .i64 a1_1, .int .i64 a1_2, .int .i64 a1_3, .slice A1_4 l1_4.length c1_4, .bool a1_5, .slice A1_6 l1_6.length c1_6, .slice A1_7 l1_7.length c1_7, .slice A1_8 l1_8.length c1_8] 37 (0, 0))) (hnb1 : ¬ P0_ gb1) (h : slices_DeleteFunc_int_int_impl_ActiveTeams_1.f k l0 l1_0 a1_1 a1_2 a1_3 l1_4 a1_5 l1_6 l1_7 l1_8 = some r) :
    Calls Try.prog 67 #[u9000_, .func (.func 69) #[] #[.pointer (some ⟨gb1, 0, none⟩)]] w fun e w' => ∃ v0_ : Value, e = .returned v0_ ∧ Kd.R (Kd.int .i64) 3 w' w0.heap.size (fun k_ => (P0_ k_ ∨ w.heap.size ≤ k_)) v0_ r ∧ Below w0.heap.size w0 w' ∧ Kept w w' (fun k_ => P0_ k_) := by
  by_cases cl : l0.length ≤ 4611686018427387904
  · unfold slices_DeleteFunc_int_int_impl_ActiveTeams_1.f at h
    rw [if_pos cl] at h
    refine (slices_DeleteFunc_int_int_impl_ActiveTeams_1.delCalls _ k gb1 (fun k_ => P0_ k_) u9000_ l0 r w0 w cl hB ho0 ?_ h).mono ?_
    · intro kk xx bb_ WW hpp hkk
      exact (impl_ActiveTeams_1.calls kk xx gb1 A1_0 c1_0 l1_0 a1_1 a1_2 a1_3 A1_4 c1_4 l1_4 a1_5 A1_6 c1_6 l1_6 A1_7 c1_7 l1_7 A1_8 c1_8 l1_8 bb_ WW (hr1_0 WW hkk) hc1_0 (hr1_4 WW hkk) hc1_4 (hr1_6 WW hkk) hc1_6 (hr1_7 WW hkk) hc1_7 (hr1_8 WW hkk) hc1_8 (kept_blk hbk1 hkk hnb1) hpp).mono (fun e_ w_ h_ => ⟨h_.1, h_.2⟩)
    · rintro e_ w_ ⟨v_, rfl, hR, hb, hk⟩
      exact ⟨v_, rfl, Kd.R_mono hR (fun _ h_ => .inl h_), hb, hk⟩
  · unfold slices_DeleteFunc_int_int_impl_ActiveTeams_1.f at h
    rw [if_neg cl] at h
    exact absurd h (by simp)
/-! ### impl_ActiveTeams: function 30 -/
def impl_ActiveTeams.f (k : Nat) (l0_0 : List (S101)) (a0_1 : Int) (a0_2 : Int) (a0_3 : Int) (l0_4 : List Int) (a0_5 : Bool) (l0_6 : List (S71)) (l0_7 : List Int) (l0_8 : List Int) : Option (List Int) := (impl_BookOk.f k l0_0 a0_1 a0_2 a0_3 l0_4 a0_5 l0_6 l0_7 l0_8).bind fun t532 => (if t532 = true then ((impl_upTo.f k (l0_0.length : Int)).bind fun t533 => ((slices_DeleteFunc_int_int_impl_ActiveTeams_1.f k t533 l0_0 a0_1 a0_2 a0_3 l0_4 a0_5 l0_6 l0_7 l0_8).bind fun t536 => (some t536))) else (some ([] : List Int)))
theorem impl_ActiveTeams.mono : ∀ a0 a1 a2 a3 a4 a5 a6 a7 a8 k, LeO (impl_ActiveTeams.f k a0 a1 a2 a3 a4 a5 a6 a7 a8) (impl_ActiveTeams.f (k + 1) a0 a1 a2 a3 a4 a5 a6 a7 a8) := by
  intro a0 a1 a2 a3 a4 a5 a6 a7 a8 k
  unfold impl_ActiveTeams.f
  repeat' first
      | (with_reducible exact impl_BookOk.mono _ _ _ _ _ _ _ _ _ _)
      | (with_reducible exact impl_upTo.mono _ _)
      | (with_reducible exact slices_DeleteFunc_int_int_impl_ActiveTeams_1.mono _ _ _ _ _ _ _ _ _ _ _)
      | (with_reducible exact LeO.refl _)
      | (with_reducible exact LeO.none _)
      | (with_reducible refine LeO.ite ?_ ?_)
      | (with_reducible refine LeO.bind ?_ (fun _ => ?_))
      | exact impl_BookOk.mono _ _ _ _ _ _ _ _ _ _
      | exact impl_upTo.mono _ _
      | exact slices_DeleteFunc_int_int_impl_ActiveTeams_1.mono _ _ _ _ _ _ _ _ _ _ _
      | exact LeO.none _
      | refine LeO.ite ?_ ?_
      | refine LeO.bind ?_ (fun _ => ?_)
set_option maxHeartbeats 8000000 in
set_option maxRecDepth 100000 in
theorem impl_ActiveTeams.calls (k : Nat) (A0_0 : Option Addr) (c0_0 : Nat) (l0_0 : List (S101)) (a0_1 : Int) (a0_2 : Int) (a0_3 : Int) (A0_4 : Option Addr) (c0_4 : Nat) (l0_4 : List Int) (a0_5 : Bool) (A0_6 : Option Addr) (c0_6 : Nat) (l0_6 : List (S71)) (A0_7 : Option Addr) (c0_7 : Nat) (l0_7 : List Int) (A0_8 : Option Addr) (c0_8 : Nat) (l0_8 : List Int) (r : List Int) (w : World) (hr0_0 : Kd.C k101 w A0_0 l0_0.length l0_0) (hc0_0 : l0_0.length ≤ c0_0) (hr0_4 : Kd.C (Kd.int .i64) w A0_4 l0_4.length l0_4) (hc0_4 : l0_4.length ≤ c0_4) (hr0_6 : Kd.C k71 w A0_6 l0_6.length l0_6) (hc0_6 : l0_6.length ≤ c0_6) (hr0_7 : Kd.C (Kd.int .i64) w A0_7 l0_7.length l0_7) (hc0_7 : l0_7.length ≤ c0_7) (hr0_8 : Kd.C (Kd.int .i64) w A0_8 l0_8.length l0_8) (hc0_8 : l0_8.length ≤ c0_8) (h : impl_ActiveTeams.f k l0_0 a0_1 a0_2 a0_3 l0_4 a0_5 l0_6 l0_7 l0_8 = some r) :
    Calls Try.prog 30 #[.agg #[.slice A0_0 l0_0.length c0_0, .int .i64 a0_1, .int .i64 a0_2, .int .i64 a0_3, .slice A0_4 l0_4.length c0_4, .bool a0_5, .slice A0_6 l0_6.length c0_6, .slice A0_7 l0_7.length c0_7, .slice A0_8 l0_8.length c0_8]] w fun e w' => ∃ v0_ : Value, e = .returned (v0_) ∧ Kd.R (Kd.int .i64) 3 w' w.heap.size (fun _ => True) v0_ r ∧ Below w.heap.size w w' := by
  have hu37 := Try.underlying37
  have HR0_0 := Aside0.mk hr0_0
  have HC0_0 := Aside0.mk hc0_0
  clear hr0_0 hc0_0
  have HR0_4 := Aside0.mk hr0_4
  have HC0_4 := Aside0.mk hc0_4
  clear hr0_4 hc0_4
  have HR0_6 := Aside0.mk hr0_6
  have HC0_6 := Aside0.mk hc0_6
  clear hr0_6 hc0_6
  have HR0_7 := Aside0.mk hr0_7
  have HC0_7 := Aside0.mk hc0_7
  clear hr0_7 hc0_7
  have HR0_8 := Aside0.mk hr0_8
  have HC0_8 := Aside0.mk hc0_8
  clear hr0_8 hc0_8
  have HB := Aside0.mk (Below.refl w.heap.size w)
  have H : ((impl_BookOk.f k l0_0 a0_1 a0_2 a0_3 l0_4 a0_5 l0_6 l0_7 l0_8).bind fun t532 => (if t532 = true then ((impl_upTo.f k (l0_0.length : Int)).bind fun t533 => ((slices_DeleteFunc_int_int_impl_ActiveTeams_1.f k t533 l0_0 a0_1 a0_2 a0_3 l0_4 a0_5 l0_6 l0_7 l0_8).bind fun t536 => (some t536))) else (some ([] : List Int)))) = some r := h
  clear h
  replace H := Option.bind_eq_some_iff.mp H
  obtain ⟨t532, A20, H⟩ := H
  replace H : (if t532 = true then ((impl_upTo.f k (l0_0.length : Int)).bind fun t533 => ((slices_DeleteFunc_int_int_impl_ActiveTeams_1.f k t533 l0_0 a0_1 a0_2 a0_3 l0_4 a0_5 l0_6 l0_7 l0_8).bind fun t536 => (some t536))) else (some ([] : List Int))) = some r := H
  have A2 := Aside0.mk A20
  clear A20
  by_cases c3 : t532 = true
  · subst c3
    have H1 : ((impl_upTo.f k (l0_0.length : Int)).bind fun t533 => ((slices_DeleteFunc_int_int_impl_ActiveTeams_1.f k t533 l0_0 a0_1 a0_2 a0_3 l0_4 a0_5 l0_6 l0_7 l0_8).bind fun t536 => (some t536))) = some r := by rw [if_pos rfl] at H; exact H
    clear H
    have H := H1
    clear H1
    replace H := Option.bind_eq_some_iff.mp H
    obtain ⟨t533, A40, H⟩ := H
    replace H : ((slices_DeleteFunc_int_int_impl_ActiveTeams_1.f k t533 l0_0 a0_1 a0_2 a0_3 l0_4 a0_5 l0_6 l0_7 l0_8).bind fun t536 => (some t536)) = some r := H
    have A4 := Aside0.mk A40
    clear A40
    replace H := Option.bind_eq_some_iff.mp H
    obtain ⟨t536, A50, H⟩ := H
    replace H : (some t536) = some r := H
    have A5 := Aside0.mk A50
    clear A50
    obtain rfl := Option.some.inj H
    go_enter Try.func30, Try.ntmps30
    go_wp2_with (first | ((with_reducible refine gate_dst (N := 1) rfl ?_); refine box_event ?hg (N := 1) ?hd (cs := #[.slice A0_0 l0_0.length c0_0, .int .i64 a0_1, .int .i64 a0_2, .int .i64 a0_3, .slice A0_4 l0_4.length c0_4, .bool a0_5, .slice A0_6 l0_6.length c0_6, .slice A0_7 l0_7.length c0_7, .slice A0_8 l0_8.length c0_8]) (t := 37) ?hr ?_; (case hd => rfl); (case hg => rfl); (case hr => first | (go_simp; done) | (go_simp; rfl)); intro gb531 hg w6 hbox hb; have BK531 := Aside0.mk (hbox); have GW531 := Aside0.mk ((bsz hg : w.heap.size ≤ gb531)); have GE531 := Aside0.mk ((bsz hg : w.heap.size ≤ gb531)); replace HB := Aside0.mk (below_step bel hb); clear hb hbox hg; obtain ⟨hcz7_0, hcz7_1, hcz7_2, hcz7_3, hcz7_4, hcz7_5, hcz7_6, hcz7_7, hcz7_8, hfz7_0, hfz7_1, hfz7_2, hfz7_3, hfz7_4, hfz7_5, hfz7_6, hfz7_7, hfz7_8⟩ := cf9 BK531.out) | ((with_reducible refine gate_callee (f := 54) rfl ?_); refine goesL_ (some 4) rfl rfl Try.func54 (by kernel_rfl) rfl #[.agg #[.slice A0_0 l0_0.length c0_0, .int .i64 a0_1, .int .i64 a0_2, .int .i64 a0_3, .slice A0_4 l0_4.length c0_4, .bool a0_5, .slice A0_6 l0_6.length c0_6, .slice A0_7 l0_7.length c0_7, .slice A0_8 l0_8.length c0_8]] rfl ga ?_; (with_reducible refine (impl_BookOk.calls k _ _ l0_0 a0_1 a0_2 a0_3 _ _ l0_4 a0_5 _ _ l0_6 _ _ l0_7 _ _ l0_8 true _ ?side1 ?side2 ?side3 ?side4 ?side5 ?side6 ?side7 ?side8 ?side9 ?side10 A2.out).mono ?_); (case side1 => exact ck (Kd.C_below HR0_0.out HB.out)); (case side2 => exact HC0_0.out); (case side3 => exact ck (Kd.C_below HR0_4.out HB.out)); (case side4 => exact HC0_4.out); (case side5 => exact ck (Kd.C_below HR0_6.out HB.out)); (case side6 => exact HC0_6.out); (case side7 => exact ck (Kd.C_below HR0_7.out HB.out)); (case side8 => exact HC0_7.out); (case side9 => exact ck (Kd.C_below HR0_8.out HB.out)); (case side10 => exact HC0_8.out); rintro e w8 ⟨rfl, hb⟩; refine ⟨_, rfl, ?_⟩; replace BK531 := Aside0.mk (bb BK531.out hb); replace HB := Aside0.mk (below_step bel hb); (try clear hb); obtain ⟨hcz9_0, hcz9_1, hcz9_2, hcz9_3, hcz9_4, hcz9_5, hcz9_6, hcz9_7, hcz9_8, hfz9_0, hfz9_1, hfz9_2, hfz9_3, hfz9_4, hfz9_5, hfz9_6, hfz9_7, hfz9_8⟩ := cf9 BK531.out) | ((with_reducible refine gate_callee (f := 68) rfl ?_); refine goesL_ (some 9) rfl rfl Try.func68 (by kernel_rfl) rfl #[.int .i64 (l0_0.length : Int)] rfl ga ?_; (with_reducible refine (impl_upTo.calls k (l0_0.length : Int) t533 _ A4.out).mono ?_); rintro e w10 ⟨v534, rfl, ho0, hb⟩; refine ⟨_, rfl, ?_⟩; have HO535 := Aside0.mk (Kd.R_lower ho0 (below_size bel)); replace BK531 := Aside0.mk (bb BK531.out hb); replace HB := Aside0.mk (below_step bel hb); (try clear hb); (try clear ho0); obtain ⟨Ao11, co11, eo11⟩ := Kd.R_slice HO535.out; subst eo11) | ((with_reducible refine gate_callee (f := 67) rfl ?_); refine goesL_ (some 11) rfl rfl Try.func67 (by kernel_rfl) rfl #[.slice Ao11 t533.length co11, .func (.func 69) #[] #[.pointer (some ⟨gb531, 0, none⟩)]] rfl ga ?_; (with_reducible refine (slices_DeleteFunc_int_int_impl_ActiveTeams_1.calls k (fun k_ => some k_ = (.slice Ao11 t533.length co11 : Value).ownBlock) (.slice Ao11 t533.length co11) t533 gb531 A0_0 c0_0 l0_0 a0_1 a0_2 a0_3 A0_4 c0_4 l0_4 a0_5 A0_6 c0_6 l0_6 A0_7 c0_7 l0_7 A0_8 c0_8 l0_8 t536 w _ ?side1 ?side2 ?side3 ?side4 ?side5 ?side6 ?side7 ?side8 ?side9 ?side10 ?side11 ?side12 ?side13 ?side14 A5.out).mono ?_); (case side1 => exact bel); (case side2 => exact Kd.R_tight rfl HO535.out); (case side3 => exact Kd.C_kept_came k101_heap HR0_0.out bel (fun k_ hs_ => (fun e_ => Kd.R_base HO535.out k_ e_.symm) hs_)); (case side4 => exact HC0_0.out); (case side5 => exact Kd.C_kept_came (Kd.heap_int .i64) HR0_4.out bel (fun k_ hs_ => (fun e_ => Kd.R_base HO535.out k_ e_.symm) hs_)); (case side6 => exact HC0_4.out); (case side7 => exact Kd.C_kept_came k71_heap HR0_6.out bel (fun k_ hs_ => (fun e_ => Kd.R_base HO535.out k_ e_.symm) hs_)); (case side8 => exact HC0_6.out); (case side9 => exact Kd.C_kept_came (Kd.heap_int .i64) HR0_7.out bel (fun k_ hs_ => (fun e_ => Kd.R_base HO535.out k_ e_.symm) hs_)); (case side10 => exact HC0_7.out); (case side11 => exact Kd.C_kept_came (Kd.heap_int .i64) HR0_8.out bel (fun k_ hs_ => (fun e_ => Kd.R_base HO535.out k_ e_.symm) hs_)); (case side12 => exact HC0_8.out); (case side13 => exact (bk BK531.out)); (case side14 => exact (fun hs_ => (fun e_ => (Kd.R_ne HO535.out BK531.out (by decide)) e_) hs_)); rintro e w12 ⟨v537, rfl, ho0, hb, hkp⟩; refine ⟨_, rfl, ?_⟩; have n0_ := Aside0.mk (blk_kept (bk BK531.out) hkp (fun hs_ => (fun e_ => (Kd.R_ne HO535.out BK531.out (by decide)) e_) hs_)); have n1_ := Aside0.mk (Kd.R_mono (ok' := fun k_ => True) ho0 (fun k_ hk_ => trivial)); have n2_ := Aside0.mk (hb); clear BK531; clear HB; clear HO535; have BK531 := n0_; have HO538 := n1_; have HB := n2_; clear n0_ n1_ n2_; (try clear hb); (try clear hkp); (try clear ho0)))
    go_ret
    exact ⟨_, er, rk HO538.out, bel⟩
  · replace c3 := Bool.eq_false_iff.mpr c3
    subst c3
    have H1 : (some ([] : List Int)) = some r := by rw [if_neg (show ¬ (false = true) by decide)] at H; exact H
    clear H
    have H := H1
    clear H1
    obtain rfl := Option.some.inj H
    go_enter Try.func30, Try.ntmps30
    go_wp2_with (first | ((with_reducible refine gate_dst (N := 1) rfl ?_); refine box_event ?hg (N := 1) ?hd (cs := #[.slice A0_0 l0_0.length c0_0, .int .i64 a0_1, .int .i64 a0_2, .int .i64 a0_3, .slice A0_4 l0_4.length c0_4, .bool a0_5, .slice A0_6 l0_6.length c0_6, .slice A0_7 l0_7.length c0_7, .slice A0_8 l0_8.length c0_8]) (t := 37) ?hr ?_; (case hd => rfl); (case hg => rfl); (case hr => first | (go_simp; done) | (go_simp; rfl)); intro gb531 hg w13 hbox hb; have BK531 := Aside0.mk (hbox); have GW531 := Aside0.mk ((bsz hg : w.heap.size ≤ gb531)); have GE531 := Aside0.mk ((bsz hg : w.heap.size ≤ gb531)); replace HB := Aside0.mk (below_step bel hb); clear hb hbox hg; obtain ⟨hcz14_0, hcz14_1, hcz14_2, hcz14_3, hcz14_4, hcz14_5, hcz14_6, hcz14_7, hcz14_8, hfz14_0, hfz14_1, hfz14_2, hfz14_3, hfz14_4, hfz14_5, hfz14_6, hfz14_7, hfz14_8⟩ := cf9 BK531.out) | ((with_reducible refine gate_callee (f := 54) rfl ?_); refine goesL_ (some 4) rfl rfl Try.func54 (by kernel_rfl) rfl #[.agg #[.slice A0_0 l0_0.length c0_0, .int .i64 a0_1, .int .i64 a0_2, .int .i64 a0_3, .slice A0_4 l0_4.length c0_4, .bool a0_5, .slice A0_6 l0_6.length c0_6, .slice A0_7 l0_7.length c0_7, .slice A0_8 l0_8.length c0_8]] rfl ga ?_; (with_reducible refine (impl_BookOk.calls k _ _ l0_0 a0_1 a0_2 a0_3 _ _ l0_4 a0_5 _ _ l0_6 _ _ l0_7 _ _ l0_8 false _ ?side1 ?side2 ?side3 ?side4 ?side5 ?side6 ?side7 ?side8 ?side9 ?side10 A2.out).mono ?_); (case side1 => exact ck (Kd.C_below HR0_0.out HB.out)); (case side2 => exact HC0_0.out); (case side3 => exact ck (Kd.C_below HR0_4.out HB.out)); (case side4 => exact HC0_4.out); (case side5 => exact ck (Kd.C_below HR0_6.out HB.out)); (case side6 => exact HC0_6.out); (case side7 => exact ck (Kd.C_below HR0_7.out HB.out)); (case side8 => exact HC0_7.out); (case side9 => exact ck (Kd.C_below HR0_8.out HB.out)); (case side10 => exact HC0_8.out); rintro e w15 ⟨rfl, hb⟩; refine ⟨_, rfl, ?_⟩; replace BK531 := Aside0.mk (bb BK531.out hb); replace HB := Aside0.mk (below_step bel hb); (try clear hb)))
    go_ret
    exact ⟨_, er, by first | exact Kd.R_nil _ _ _ _ _ | exact Kd.N_nil _ _ _ _ _ | exact Kd.V_nil _ _ _ _ _ | exact Kd.Q_nil _ _ _ _ _ | exact Kd.S_nil _ _ _ _ _, bel⟩

end Go.Proofs.Ytgalpgakdcfilaa.X
